/- The law FnExactVarsOf holds: for every input that reads as data the call returns true, and the arguments are as they were. -/
import Derived.Test.YtpfpappamlgnoaaRows
import Derived.Test.YtpfpappamlgnoaaQFnExactVarsOfx4
import Derived.Test.YtpfpappamlgnoaaHandFnExactVarsOf
import Derived.Test.YtpfpappamlgnoaaOpen
import Derived.WalkKit
import Derived.ProofKit
import Derived.OpenShut
import Derived.ShutString
import Derived.ChangeOld
import Derived.Below
import Derived.SizedLaws
set_option linter.unusedVariables false
set_option linter.unusedSimpArgs false
namespace Go.Proofs.Ytpfpappamlgnoaa.fnExactVarsOf
open Go.ChangeShapes Go.WideShapes Go.ChangeAt Go.RowKit Go.Proofs.Ytpfpappamlgnoaa.QFnExactVarsOf Go.Proofs.Ytpfpappamlgnoaa.Open Go.Proofs.YtpfpappamlgnoaaW.PrintWords
open Go.ChangeMaps (open_string shut_string)
theorem own : ownKnob Try.prog.godebug = none := by kernel_rfl
theorem laidOut : laidOutB Try.prog = true := by kernel_rfl
section
variable {H : Type} {enc : TypeId × Value → H} {w : World} {spare : Nat → Bool}
theorem o3 : Opens enc Try.prog w spare (Kd.int .i64) WfI 3 := opens_int Try.underlying3
theorem o22 : Opens enc Try.prog w spare (Kd.slice 3 (Kd.int .i64)) (WfL WfI) 22 := opens_slice Try.underlying22 (by kernel_rfl) o3
theorem o35 : Opens enc Try.prog w spare k35 (fun x : S35 => WfI x.f0 ∧ (WfL WfI) x.f1) 35 := opens_two (fun x => (⟨x.1, x.2⟩ : S35)) (fun _ => rfl) Try.underlying35 rfl (by kernel_rfl) (by kernel_rfl) o3 o22
theorem o42 : Opens enc Try.prog w spare (Kd.slice 35 k35) (WfL (fun x : S35 => WfI x.f0 ∧ (WfL WfI) x.f1)) 42 := opens_slice Try.underlying42 (by kernel_rfl) o35
theorem o44 : Opens enc Try.prog w spare k44 (fun x : S44 => (WfL WfI) x.f0 ∧ (WfL (fun x : S35 => WfI x.f0 ∧ (WfL WfI) x.f1)) x.f1) 44 := opens_two (fun x => (⟨x.1, x.2⟩ : S44)) (fun _ => rfl) Try.underlying44 rfl (by kernel_rfl) (by kernel_rfl) o22 o42
end
set_option maxRecDepth 100000 in
theorem lifted (os : Os) (started : os.Started) (H : Type) (enc : TypeId × Value → H) :
    ReturnsInHanded {} Try.checked os 7 .any (Rows.fnExactVarsOfSpec.pre6 enc Try.prog Try.f7 Rows.fnExactVarsOfRow.domain false) (Rows.fnExactVarsOfSpec.post enc Try.prog Try.f7 false true false false) := by
  refine returnsInHanded_of_change_sized (C := Try.checked) own started (by kernel_rfl) Try.func7
    (ChangeSpec.witness6 (enc := enc) (C := Try.checked) false ⟨#[], #[.agg #[.slice none 0 0, .slice none 0 0]], []⟩ 8 (by kernel_rfl) (by kernel_rfl) (by kernel_rfl) (by kernel_rfl)) ?_
  intro W base args ds gs before hval0 hW hcnd hsz0 _
  have hsz : (DataW.weightsEach Try.prog (Try.f7.params.toList ++ Rows.fnExactVarsOfSpec.plain.varTypes Try.prog) (ds ++ gs)).all (· ≤ reachBytes) = true := hsz0
  have hval : ∀ (j : Nat) t v, Try.f7.params[j]? = some t → args[j]? = some v → Value.okWide Try.prog W .any base t v := hval0
  have hW' := hW
  obtain ⟨p, q, hA0, hV, rfl, hfz, hnd⟩ := hW
  have hA : DataW.TrodAll enc Try.prog W 0 (fun _ => true) true Try.f7.params.toList args.toList ds p := hA0
  rw [Try.params7] at hA hval hsz
  obtain ⟨v0, vs0, d0, ds0, p0, q0, hargs, rfl, rfl, h0, r0⟩ := trodAll_cons hA
  obtain ⟨rfl, rfl, rfl⟩ := trodAll_nil r0
  obtain rfl : args = #[v0] := by cases args; simp_all
  obtain ⟨rfl, rfl⟩ := trodVars_none hV
  have k0 := h0
  have lt0 : ∀ x ∈ p0, x.block < W.heap.size := by obtain ⟨m, hm⟩ := k0; exact DataW.trod_lt m _ _ _ hm
  obtain ⟨fuel0, hf0⟩ := h0
  obtain ⟨x0, hK0, wf0⟩ := o44 (enc := enc) (w := W) (spare := fun _ => true) _ _ _ hf0
  obtain ⟨A0_0, c0_0, A0_1, c0_1, hcs0, l0_0, g0_0, l0_1, g0_1⟩ := k44_open hK0
  obtain rfl := agg_of Try.underlying44 (hval 0 44 v0 rfl rfl) hcs0
  clear hA0 hval0 hsz0 hsz
  refine (Hand.FnExactVarsOf_calls _ _ x0.f0 _ _ x0.f1 W g0_0 l0_0 g0_1 l0_1 wf0).mono fun e W' ⟨he, bel⟩ => ?_
  subst he
  exact ⟨_, rfl, _, _, _, [], _, [], hW', trodAll_mk1 (shut_bool Try.underlying4 _), (trodAll_cons_mk (Below.trod laidOut (by kernel_rfl) (of_decide_eq_true (by kernel_rfl)) k0 bel lt0) trodAll_mk0), rfl, bel.frame _, fun h => by cases h⟩
theorem over : Rows.fnExactVarsOfRow.holds Try.pinned (OpenSpec.ofChange Rows.fnExactVarsOfSpec) :=
  OpenClaim.holds_of_wide 7 Try.f7 rfl rfl rfl rfl rfl rfl rfl ⟨rfl, rfl, rfl, rfl, rfl⟩ rfl rfl rfl rfl rfl (by kernel_rfl) Try.func7 (by kernel_rfl)
    (of_decide_eq_true (by kernel_rfl)) (by unfold Func.isWrapper; first | (rw [if_pos (by decide +kernel)]; kernel_rfl) | (rw [if_neg (by decide +kernel)]; exact ⟨rfl, rfl⟩))
    (fun os started H enc _ => lifted os started H enc)
theorem proved : Rows.FnExactVarsOfSaid := over
end Go.Proofs.Ytpfpappamlgnoaa.fnExactVarsOf
namespace Go.Proofs.Ytpfpappamlgnoaa
/-- The row, under a short name, for the claim. -/
theorem fnExactVarsOf_holds : Rows.FnExactVarsOfSaid := fnExactVarsOf.proved
end Go.Proofs.Ytpfpappamlgnoaa
