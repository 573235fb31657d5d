/- The law FnExactRemoveFact holds: for every input that reads as data the call returns true, and the arguments are as they were. -/
import Derived.Test.YtpfpappamlgnoaaRows
import Derived.Test.YtpfpappamlgnoaaQFnExactRemoveFactx11
import Derived.Test.YtpfpappamlgnoaaHandFnExactRemoveFact
import Derived.Test.YtpfpappamlgnoaaVFnExactRemoveFactOpen
import Derived.WalkKit
import Derived.ProofKit
import Derived.OpenShut
import Derived.ShutString
import Derived.ChangeOld
import Derived.Below
import Derived.SizedLaws
set_option linter.unusedVariables false
set_option linter.unusedSimpArgs false
namespace Go.Proofs.Ytpfpappamlgnoaa.fnExactRemoveFact
open Go.ChangeShapes Go.WideShapes Go.ChangeAt Go.RowKit Go.Proofs.Ytpfpappamlgnoaa.QFnExactRemoveFact Go.Proofs.Ytpfpappamlgnoaa.Open Go.Proofs.YtpfpappamlgnoaaW.PrintWords
open Go.ChangeMaps (open_string shut_string)
theorem own : ownKnob Try.prog.godebug = none := by kernel_rfl
theorem laidOut : laidOutB Try.prog = true := by kernel_rfl
section
variable {H : Type} {enc : TypeId × Value → H} {w : World} {spare : Nat → Bool}
theorem o3 : Opens enc Try.prog w spare (Kd.int .i64) WfI 3 := opens_int Try.underlying3
theorem o22 : Opens enc Try.prog w spare (Kd.slice 3 (Kd.int .i64)) (WfL WfI) 22 := opens_slice Try.underlying22 (by kernel_rfl) o3
theorem o56 : Opens enc Try.prog w spare k56 (fun x : S56 => (WfL WfI) x.f0) 56 := opens_one (fun x => (⟨x⟩ : S56)) (fun _ => rfl) Try.underlying56 rfl (by kernel_rfl) o22
theorem o81 : Opens enc Try.prog w spare k81 (fun x : S81 => WfI x.f0 ∧ (WfL WfI) x.f1) 81 := opens_two (fun x => (⟨x.1, x.2⟩ : S81)) (fun _ => rfl) Try.underlying81 rfl (by kernel_rfl) (by kernel_rfl) o3 o22
theorem o57 : Opens enc Try.prog w spare (Kd.slice 81 k81) (WfL (fun x : S81 => WfI x.f0 ∧ (WfL WfI) x.f1)) 57 := opens_slice Try.underlying57 (by kernel_rfl) o81
end
set_option maxRecDepth 100000 in
theorem lifted (os : Os) (started : os.Started) (H : Type) (enc : TypeId × Value → H) :
    ReturnsInHanded {} Try.checked os 13 .any (Rows.fnExactRemoveFactSpec.pre6 enc Try.prog Try.f13 Rows.fnExactRemoveFactRow.domain false) (Rows.fnExactRemoveFactSpec.post enc Try.prog Try.f13 false true false false) := by
  refine returnsInHanded_of_change_sized (C := Try.checked) own started (by kernel_rfl) Try.func13
    (ChangeSpec.witness6 (enc := enc) (C := Try.checked) false ⟨#[], #[.agg #[.slice none 0 0], .slice none 0 0, .agg #[.int .i64 0, .slice none 0 0]], []⟩ 8 (by kernel_rfl) (by kernel_rfl) (by kernel_rfl) (by kernel_rfl)) ?_
  intro W base args ds gs before hval0 hW hcnd hsz0 _
  have hsz : (DataW.weightsEach Try.prog (Try.f13.params.toList ++ Rows.fnExactRemoveFactSpec.plain.varTypes Try.prog) (ds ++ gs)).all (· ≤ reachBytes) = true := hsz0
  have hval : ∀ (j : Nat) t v, Try.f13.params[j]? = some t → args[j]? = some v → Value.okWide Try.prog W .any base t v := hval0
  have hW' := hW
  obtain ⟨p, q, hA0, hV, rfl, hfz, hnd⟩ := hW
  have hA : DataW.TrodAll enc Try.prog W 0 (fun _ => true) true Try.f13.params.toList args.toList ds p := hA0
  rw [Try.params13] at hA hval hsz
  obtain ⟨v0, vs0, d0, ds0, p0, q0, hargs, rfl, rfl, h0, r0⟩ := trodAll_cons hA
  obtain ⟨v1, vs1, d1, ds1, p1, q1, rfl, rfl, rfl, h1, r1⟩ := trodAll_cons r0
  obtain ⟨v2, vs2, d2, ds2, p2, q2, rfl, rfl, rfl, h2, r2⟩ := trodAll_cons r1
  obtain ⟨rfl, rfl, rfl⟩ := trodAll_nil r2
  obtain rfl : args = #[v0, v1, v2] := by cases args; simp_all
  obtain ⟨rfl, rfl⟩ := trodVars_none hV
  have k0 := h0
  have lt0 : ∀ x ∈ p0, x.block < W.heap.size := by obtain ⟨m, hm⟩ := k0; exact DataW.trod_lt m _ _ _ hm
  obtain ⟨fuel0, hf0⟩ := h0
  obtain ⟨x0, hK0, wf0⟩ := o56 (enc := enc) (w := W) (spare := fun _ => true) _ _ _ hf0
  obtain ⟨A0_0, c0_0, hcs0, l0_0, g0_0⟩ := k56_open hK0
  obtain rfl := agg_of Try.underlying56 (hval 0 56 v0 rfl rfl) hcs0
  have k1 := h1
  have lt1 : ∀ x ∈ p1, x.block < W.heap.size := by obtain ⟨m, hm⟩ := k1; exact DataW.trod_lt m _ _ _ hm
  obtain ⟨fuel1, hf1⟩ := h1
  obtain ⟨x1, hK1, wf1⟩ := o57 (enc := enc) (w := W) (spare := fun _ => true) _ _ _ hf1
  obtain ⟨A1, c1, hcs1, l1, g1⟩ := hK1
  obtain rfl := slice_of Try.underlying57 (hval 1 57 v1 rfl rfl) hcs1
  have k2 := h2
  have lt2 : ∀ x ∈ p2, x.block < W.heap.size := by obtain ⟨m, hm⟩ := k2; exact DataW.trod_lt m _ _ _ hm
  obtain ⟨fuel2, hf2⟩ := h2
  obtain ⟨x2, hK2, wf2⟩ := o81 (enc := enc) (w := W) (spare := fun _ => true) _ _ _ hf2
  obtain ⟨A2_1, c2_1, hcs2, l2_1, g2_1⟩ := k81_open hK2
  obtain rfl := agg_of Try.underlying81 (hval 2 81 v2 rfl rfl) hcs2
  clear hA0 hval0 hsz0 hsz
  refine (Hand.FnExactRemoveFact_calls _ _ x0.f0 _ _ x1 x2.f0 _ _ x2.f1 W g0_0 l0_0 g1 l1 g2_1 l2_1 wf0 wf1 wf2).mono fun e W' ⟨he, bel⟩ => ?_
  subst he
  exact ⟨_, rfl, _, _, _, [], _, [], hW', trodAll_mk1 (shut_bool Try.underlying4 _), (trodAll_cons_mk (Below.trod laidOut (by kernel_rfl) (of_decide_eq_true (by kernel_rfl)) k0 bel lt0) (trodAll_cons_mk (Below.trod laidOut (by kernel_rfl) (of_decide_eq_true (by kernel_rfl)) k1 bel lt1) (trodAll_cons_mk (Below.trod laidOut (by kernel_rfl) (of_decide_eq_true (by kernel_rfl)) k2 bel lt2) trodAll_mk0))), rfl, bel.frame _, fun h => by cases h⟩
theorem over : Rows.fnExactRemoveFactRow.holds Try.pinned (OpenSpec.ofChange Rows.fnExactRemoveFactSpec) :=
  OpenClaim.holds_of_wide 13 Try.f13 rfl rfl rfl rfl rfl rfl rfl ⟨rfl, rfl, rfl, rfl, rfl⟩ rfl rfl rfl rfl rfl (by kernel_rfl) Try.func13 (by kernel_rfl)
    (of_decide_eq_true (by kernel_rfl)) (by unfold Func.isWrapper; first | (rw [if_pos (by decide +kernel)]; kernel_rfl) | (rw [if_neg (by decide +kernel)]; exact ⟨rfl, rfl⟩))
    (fun os started H enc _ => lifted os started H enc)
theorem proved : Rows.FnExactRemoveFactSaid := over
end Go.Proofs.Ytpfpappamlgnoaa.fnExactRemoveFact
namespace Go.Proofs.Ytpfpappamlgnoaa
/-- The row, under a short name, for the claim. -/
theorem fnExactRemoveFact_holds : Rows.FnExactRemoveFactSaid := fnExactRemoveFact.proved
end Go.Proofs.Ytpfpappamlgnoaa
