/- The law FnExactRenameQuery holds: for every input that reads as data the call returns true, and the arguments are as they were. -/
import Derived.Test.YtanbgnjfllpkgaaRows
import Derived.Test.YtanbgnjfllpkgaaQFnExactRenameQueryx4
import Derived.Test.YtanbgnjfllpkgaaHandFnExactRenameQuery
import Derived.Test.YtanbgnjfllpkgaaOpen
import Derived.WalkKit
import Derived.ProofKit
import Derived.OpenShut
import Derived.ShutString
import Derived.ChangeOld
import Derived.Below
import Derived.SizedLaws
set_option linter.unusedVariables false
set_option linter.unusedSimpArgs false
namespace Go.Proofs.Ytanbgnjfllpkgaa.fnExactRenameQuery
open Go.ChangeShapes Go.WideShapes Go.ChangeAt Go.RowKit Go.Proofs.Ytanbgnjfllpkgaa.QFnExactRenameQuery Go.Proofs.Ytanbgnjfllpkgaa.Open Go.Proofs.YtanbgnjfllpkgaaW.PrintWords
open Go.ChangeMaps (open_string shut_string)
theorem own : ownKnob Try.prog.godebug = none := by kernel_rfl
theorem laidOut : laidOutB Try.prog = true := by kernel_rfl
section
variable {H : Type} {enc : TypeId × Value → H} {w : World} {spare : Nat → Bool}
theorem o3 : Opens enc Try.prog w spare (Kd.int .i64) WfI 3 := opens_int Try.underlying3
theorem o38 : Opens enc Try.prog w spare (Kd.slice 3 (Kd.int .i64)) (WfL WfI) 38 := opens_slice Try.underlying38 (by kernel_rfl) o3
theorem o124 : Opens enc Try.prog w spare k124 (fun x : S124 => WfI x.f0 ∧ (WfL WfI) x.f1) 124 := opens_two (fun x => (⟨x.1, x.2⟩ : S124)) (fun _ => rfl) Try.underlying124 rfl (by kernel_rfl) (by kernel_rfl) o3 o38
theorem o39 : Opens enc Try.prog w spare (Kd.slice 124 k124) (WfL (fun x : S124 => WfI x.f0 ∧ (WfL WfI) x.f1)) 39 := opens_slice Try.underlying39 (by kernel_rfl) o124
theorem o41 : Opens enc Try.prog w spare k41 (fun x : S41 => (WfL WfI) x.f0 ∧ (WfL (fun x : S124 => WfI x.f0 ∧ (WfL WfI) x.f1)) x.f1) 41 := opens_two (fun x => (⟨x.1, x.2⟩ : S41)) (fun _ => rfl) Try.underlying41 rfl (by kernel_rfl) (by kernel_rfl) o38 o39
end
set_option maxRecDepth 100000 in
theorem lifted (os : Os) (started : os.Started) (H : Type) (enc : TypeId × Value → H) :
    ReturnsInHanded {} Try.checked os 8 .any (Rows.fnExactRenameQuerySpec.pre6 enc Try.prog Try.f8 Rows.fnExactRenameQueryRow.domain false) (Rows.fnExactRenameQuerySpec.post enc Try.prog Try.f8 false true false false) := by
  refine returnsInHanded_of_change_sized (C := Try.checked) own started (by kernel_rfl) Try.func8
    (ChangeSpec.witness6 (enc := enc) (C := Try.checked) false ⟨#[], #[.agg #[.slice none 0 0, .slice none 0 0], .slice none 0 0], []⟩ 8 (by kernel_rfl) (by kernel_rfl) (by kernel_rfl) (by kernel_rfl)) ?_
  intro W base args ds gs before hval0 hW hcnd hsz0 _
  have hsz : (DataW.weightsEach Try.prog (Try.f8.params.toList ++ Rows.fnExactRenameQuerySpec.plain.varTypes Try.prog) (ds ++ gs)).all (· ≤ reachBytes) = true := hsz0
  have hval : ∀ (j : Nat) t v, Try.f8.params[j]? = some t → args[j]? = some v → Value.okWide Try.prog W .any base t v := hval0
  have hW' := hW
  obtain ⟨p, q, hA0, hV, rfl, hfz, hnd⟩ := hW
  have hA : DataW.TrodAll enc Try.prog W 0 (fun _ => true) true Try.f8.params.toList args.toList ds p := hA0
  rw [Try.params8] at hA hval hsz
  obtain ⟨v0, vs0, d0, ds0, p0, q0, hargs, rfl, rfl, h0, r0⟩ := trodAll_cons hA
  obtain ⟨v1, vs1, d1, ds1, p1, q1, rfl, rfl, rfl, h1, r1⟩ := trodAll_cons r0
  obtain ⟨rfl, rfl, rfl⟩ := trodAll_nil r1
  obtain rfl : args = #[v0, v1] := by cases args; simp_all
  obtain ⟨rfl, rfl⟩ := trodVars_none hV
  have k0 := h0
  have lt0 : ∀ x ∈ p0, x.block < W.heap.size := by obtain ⟨m, hm⟩ := k0; exact DataW.trod_lt m _ _ _ hm
  obtain ⟨fuel0, hf0⟩ := h0
  obtain ⟨x0, hK0, wf0⟩ := o41 (enc := enc) (w := W) (spare := fun _ => true) _ _ _ hf0
  obtain ⟨A0_0, c0_0, A0_1, c0_1, hcs0, l0_0, g0_0, l0_1, g0_1⟩ := k41_open hK0
  obtain rfl := agg_of Try.underlying41 (hval 0 41 v0 rfl rfl) hcs0
  have k1 := h1
  have lt1 : ∀ x ∈ p1, x.block < W.heap.size := by obtain ⟨m, hm⟩ := k1; exact DataW.trod_lt m _ _ _ hm
  obtain ⟨fuel1, hf1⟩ := h1
  obtain ⟨x1, hK1, wf1⟩ := o38 (enc := enc) (w := W) (spare := fun _ => true) _ _ _ hf1
  obtain ⟨A1, c1, hcs1, l1, g1⟩ := hK1
  obtain rfl := slice_of Try.underlying38 (hval 1 38 v1 rfl rfl) hcs1
  clear hA0 hval0 hsz0 hsz
  refine (Hand.FnExactRenameQuery_calls _ _ x0.f0 _ _ x0.f1 _ _ x1 W g0_0 l0_0 g0_1 l0_1 g1 l1 wf0 wf1).mono fun e W' ⟨he, bel⟩ => ?_
  subst he
  exact ⟨_, rfl, _, _, _, [], _, [], hW', trodAll_mk1 (shut_bool Try.underlying4 _), (trodAll_cons_mk (Below.trod laidOut (by kernel_rfl) (of_decide_eq_true (by kernel_rfl)) k0 bel lt0) (trodAll_cons_mk (Below.trod laidOut (by kernel_rfl) (of_decide_eq_true (by kernel_rfl)) k1 bel lt1) trodAll_mk0)), rfl, bel.frame _, fun h => by cases h⟩
theorem over : Rows.fnExactRenameQueryRow.holds Try.pinned (OpenSpec.ofChange Rows.fnExactRenameQuerySpec) :=
  OpenClaim.holds_of_wide 8 Try.f8 rfl rfl rfl rfl rfl rfl rfl ⟨rfl, rfl, rfl, rfl, rfl⟩ rfl rfl rfl rfl rfl (by kernel_rfl) Try.func8 (by kernel_rfl)
    (of_decide_eq_true (by kernel_rfl)) (by unfold Func.isWrapper; first | (rw [if_pos (by decide +kernel)]; kernel_rfl) | (rw [if_neg (by decide +kernel)]; exact ⟨rfl, rfl⟩))
    (fun os started H enc _ => lifted os started H enc)
theorem proved : Rows.FnExactRenameQuerySaid := over
end Go.Proofs.Ytanbgnjfllpkgaa.fnExactRenameQuery
namespace Go.Proofs.Ytanbgnjfllpkgaa
/-- The row, under a short name, for the claim. -/
theorem fnExactRenameQuery_holds : Rows.FnExactRenameQuerySaid := fnExactRenameQuery.proved
end Go.Proofs.Ytanbgnjfllpkgaa
