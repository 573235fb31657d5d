/- The law FnExactIsFact holds: for every input that reads as data the call returns true, and the arguments are as they were. -/
import Derived.Test.YtanmidjjcfkpeaaRows
import Derived.Test.YtanmidjjcfkpeaaQFnExactIsFactx4
import Derived.Test.YtanmidjjcfkpeaaPureFnExactIsFact
import Derived.Test.YtanmidjjcfkpeaaOpen
import Derived.WalkKit
import Derived.ProofKit
import Derived.OpenShut
import Derived.ShutString
import Derived.ChangeOld
import Derived.Below
import Derived.SizedLaws
set_option linter.unusedVariables false
set_option linter.unusedSimpArgs false
namespace Go.Proofs.Ytanmidjjcfkpeaa.fnExactIsFact
open Go.ChangeShapes Go.WideShapes Go.ChangeAt Go.RowKit Go.Proofs.Ytanmidjjcfkpeaa.QFnExactIsFact Go.Proofs.Ytanmidjjcfkpeaa.Open Go.Proofs.YtanmidjjcfkpeaaW.PrintWords
open Go.ChangeMaps (open_string shut_string)
theorem own : ownKnob Try.prog.godebug = none := by kernel_rfl
theorem laidOut : laidOutB Try.prog = true := by kernel_rfl
section
variable {H : Type} {enc : TypeId × Value → H} {w : World} {spare : Nat → Bool}
theorem o3 : Opens enc Try.prog w spare (Kd.int .i64) WfI 3 := opens_int Try.underlying3
theorem o25 : Opens enc Try.prog w spare (Kd.slice 3 (Kd.int .i64)) (WfL WfI) 25 := opens_slice Try.underlying25 (by kernel_rfl) o3
theorem o31 : Opens enc Try.prog w spare k31 (fun x : S31 => (WfL WfI) x.f0) 31 := opens_one (fun x => (⟨x⟩ : S31)) (fun _ => rfl) Try.underlying31 rfl (by kernel_rfl) o25
theorem o50 : Opens enc Try.prog w spare k50 (fun x : S50 => WfI x.f0 ∧ (WfL WfI) x.f1) 50 := opens_two (fun x => (⟨x.1, x.2⟩ : S50)) (fun _ => rfl) Try.underlying50 rfl (by kernel_rfl) (by kernel_rfl) o3 o25
end
set_option maxRecDepth 100000 in
theorem lifted (os : Os) (started : os.Started) (H : Type) (enc : TypeId × Value → H) :
    ReturnsInHanded {} Try.checked os 11 .any (Rows.fnExactIsFactSpec.pre6 enc Try.prog Try.f11 Rows.fnExactIsFactRow.domain false) (Rows.fnExactIsFactSpec.post enc Try.prog Try.f11 false true false false) := by
  refine returnsInHanded_of_change_sized (C := Try.checked) own started (by kernel_rfl) Try.func11
    (ChangeSpec.witness6 (enc := enc) (C := Try.checked) false ⟨#[], #[.agg #[.slice none 0 0], .agg #[.int .i64 0, .slice none 0 0]], []⟩ 8 (by kernel_rfl) (by kernel_rfl) (by kernel_rfl) (by kernel_rfl)) ?_
  intro W base args ds gs before hval0 hW hcnd hsz0 _
  have hsz : (DataW.weightsEach Try.prog (Try.f11.params.toList ++ Rows.fnExactIsFactSpec.plain.varTypes Try.prog) (ds ++ gs)).all (· ≤ reachBytes) = true := hsz0
  have hval : ∀ (j : Nat) t v, Try.f11.params[j]? = some t → args[j]? = some v → Value.okWide Try.prog W .any base t v := hval0
  have hW' := hW
  obtain ⟨p, q, hA0, hV, rfl, hfz, hnd⟩ := hW
  have hA : DataW.TrodAll enc Try.prog W 0 (fun _ => true) true Try.f11.params.toList args.toList ds p := hA0
  rw [Try.params11] at hA hval hsz
  obtain ⟨v0, vs0, d0, ds0, p0, q0, hargs, rfl, rfl, h0, r0⟩ := trodAll_cons hA
  obtain ⟨v1, vs1, d1, ds1, p1, q1, rfl, rfl, rfl, h1, r1⟩ := trodAll_cons r0
  obtain ⟨rfl, rfl, rfl⟩ := trodAll_nil r1
  obtain rfl : args = #[v0, v1] := by cases args; simp_all
  obtain ⟨rfl, rfl⟩ := trodVars_none hV
  have k0 := h0
  have lt0 : ∀ x ∈ p0, x.block < W.heap.size := by obtain ⟨m, hm⟩ := k0; exact DataW.trod_lt m _ _ _ hm
  obtain ⟨fuel0, hf0⟩ := h0
  obtain ⟨x0, hK0, wf0⟩ := o31 (enc := enc) (w := W) (spare := fun _ => true) _ _ _ hf0
  obtain ⟨A0_0, c0_0, hcs0, l0_0, g0_0⟩ := k31_open hK0
  obtain rfl := agg_of Try.underlying31 (hval 0 31 v0 rfl rfl) hcs0
  have k1 := h1
  have lt1 : ∀ x ∈ p1, x.block < W.heap.size := by obtain ⟨m, hm⟩ := k1; exact DataW.trod_lt m _ _ _ hm
  obtain ⟨fuel1, hf1⟩ := h1
  obtain ⟨x1, hK1, wf1⟩ := o50 (enc := enc) (w := W) (spare := fun _ => true) _ _ _ hf1
  obtain ⟨A1_1, c1_1, hcs1, l1_1, g1_1⟩ := k50_open hK1
  obtain rfl := agg_of Try.underlying50 (hval 1 50 v1 rfl rfl) hcs1
  clear hA0 hval0 hsz0 hsz
  obtain ⟨k, h⟩ := Pure.FnExactIsFact x0.f0 wf0 x1.f0 x1.f1 wf1 
  refine (laws_FnExactIsFact.calls k _ _ x0.f0 x1.f0 _ _ x1.f1 true W g0_0 l0_0 g1_1 l1_1 h).mono fun e W' ⟨he, bel0⟩ => ?_
  have bel : Below W.heap.size W W' := bel0
  subst he
  exact ⟨_, rfl, _, _, _, [], _, [], hW', trodAll_mk1 (shut_bool Try.underlying4 _), (trodAll_cons_mk (Below.trod laidOut (by kernel_rfl) (of_decide_eq_true (by kernel_rfl)) k0 bel lt0) (trodAll_cons_mk (Below.trod laidOut (by kernel_rfl) (of_decide_eq_true (by kernel_rfl)) k1 bel lt1) trodAll_mk0)), rfl, bel.frame _, fun h => by cases h⟩
theorem over : Rows.fnExactIsFactRow.holds Try.pinned (OpenSpec.ofChange Rows.fnExactIsFactSpec) :=
  OpenClaim.holds_of_wide 11 Try.f11 rfl rfl rfl rfl rfl rfl rfl ⟨rfl, rfl, rfl, rfl, rfl⟩ rfl rfl rfl rfl rfl (by kernel_rfl) Try.func11 (by kernel_rfl)
    (of_decide_eq_true (by kernel_rfl)) (by unfold Func.isWrapper; first | (rw [if_pos (by decide +kernel)]; kernel_rfl) | (rw [if_neg (by decide +kernel)]; exact ⟨rfl, rfl⟩))
    (fun os started H enc _ => lifted os started H enc)
theorem proved : Rows.FnExactIsFactSaid := over
end Go.Proofs.Ytanmidjjcfkpeaa.fnExactIsFact
namespace Go.Proofs.Ytanmidjjcfkpeaa
/-- The row, under a short name, for the claim. -/
theorem fnExactIsFact_holds : Rows.FnExactIsFactSaid := fnExactIsFact.proved
end Go.Proofs.Ytanmidjjcfkpeaa
