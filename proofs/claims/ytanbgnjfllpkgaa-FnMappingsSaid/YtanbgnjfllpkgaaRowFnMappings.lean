/- The law FnMappings holds: for every input that reads as data the call returns true, and the arguments are as they were. -/
import Derived.Test.YtanbgnjfllpkgaaRows
import Derived.Test.YtanbgnjfllpkgaaQFnMappingsx16
import Derived.Test.YtanbgnjfllpkgaaHandFnMappings
import Derived.Test.YtanbgnjfllpkgaaVFnMappingsOpen
import Derived.WalkKit
import Derived.ProofKit
import Derived.OpenShut
import Derived.ShutString
import Derived.ChangeOld
import Derived.Below
import Derived.SizedLaws
set_option linter.unusedVariables false
set_option linter.unusedSimpArgs false
namespace Go.Proofs.Ytanbgnjfllpkgaa.fnMappings
open Go.ChangeShapes Go.WideShapes Go.ChangeAt Go.RowKit Go.Proofs.Ytanbgnjfllpkgaa.QFnMappings Go.Proofs.Ytanbgnjfllpkgaa.Open Go.Proofs.YtanbgnjfllpkgaaW.PrintWords
open Go.ChangeMaps (open_string shut_string)
theorem own : ownKnob Try.prog.godebug = none := by kernel_rfl
theorem laidOut : laidOutB Try.prog = true := by kernel_rfl
section
variable {H : Type} {enc : TypeId × Value → H} {w : World} {spare : Nat → Bool}
theorem o5 : Opens enc Try.prog w spare (Kd.int .u8) WfB 5 := opens_byte Try.underlying5
theorem o26 : Opens enc Try.prog w spare (Kd.slice 5 (Kd.int .u8)) (WfL WfB) 26 := opens_slice Try.underlying26 (by kernel_rfl) o5
end
set_option maxRecDepth 100000 in
theorem lifted (os : Os) (started : os.Started) (H : Type) (enc : TypeId × Value → H) :
    ReturnsInHanded {} Try.checked os 13 .any (Rows.fnMappingsSpec.pre6 enc Try.prog Try.f13 Rows.fnMappingsRow.domain false) (Rows.fnMappingsSpec.post enc Try.prog Try.f13 false true false false) := by
  refine returnsInHanded_of_change_sized (C := Try.checked) own started (by kernel_rfl) Try.func13
    (ChangeSpec.witness6 (enc := enc) (C := Try.checked) false ⟨#[], #[.slice none 0 0], []⟩ 8 (by kernel_rfl) (by kernel_rfl) (by kernel_rfl) (by kernel_rfl)) ?_
  intro W base args ds gs before hval0 hW hcnd hsz0 _
  have hsz : (DataW.weightsEach Try.prog (Try.f13.params.toList ++ Rows.fnMappingsSpec.plain.varTypes Try.prog) (ds ++ gs)).all (· ≤ reachBytes) = true := hsz0
  have hval : ∀ (j : Nat) t v, Try.f13.params[j]? = some t → args[j]? = some v → Value.okWide Try.prog W .any base t v := hval0
  have hW' := hW
  obtain ⟨p, q, hA0, hV, rfl, hfz, hnd⟩ := hW
  have hA : DataW.TrodAll enc Try.prog W 0 (fun _ => true) true Try.f13.params.toList args.toList ds p := hA0
  rw [Try.params13] at hA hval hsz
  obtain ⟨v0, vs0, d0, ds0, p0, q0, hargs, rfl, rfl, h0, r0⟩ := trodAll_cons hA
  obtain ⟨rfl, rfl, rfl⟩ := trodAll_nil r0
  obtain rfl : args = #[v0] := by cases args; simp_all
  obtain ⟨rfl, rfl⟩ := trodVars_none hV
  have k0 := h0
  have lt0 : ∀ x ∈ p0, x.block < W.heap.size := by obtain ⟨m, hm⟩ := k0; exact DataW.trod_lt m _ _ _ hm
  obtain ⟨fuel0, hf0⟩ := h0
  obtain ⟨x0, hK0, wf0⟩ := o26 (enc := enc) (w := W) (spare := fun _ => true) _ _ _ hf0
  obtain ⟨A0, c0, hcs0, l0, g0⟩ := hK0
  obtain rfl := slice_of Try.underlying26 (hval 0 26 v0 rfl rfl) hcs0
  clear hA0 hval0 hsz0 hsz
  refine (Hand.FnMappings_calls _ _ x0 W g0 l0 wf0).mono fun e W' ⟨he, bel⟩ => ?_
  subst he
  exact ⟨_, rfl, _, _, _, [], _, [], hW', trodAll_mk1 (shut_bool Try.underlying4 _), (trodAll_cons_mk (Below.trod laidOut (by kernel_rfl) (of_decide_eq_true (by kernel_rfl)) k0 bel lt0) trodAll_mk0), rfl, bel.frame _, fun h => by cases h⟩
theorem over : Rows.fnMappingsRow.holds Try.pinned (OpenSpec.ofChange Rows.fnMappingsSpec) :=
  OpenClaim.holds_of_wide 13 Try.f13 rfl rfl rfl rfl rfl rfl rfl ⟨rfl, rfl, rfl, rfl, rfl⟩ rfl rfl rfl rfl rfl (by kernel_rfl) Try.func13 (by kernel_rfl)
    (of_decide_eq_true (by kernel_rfl)) (by unfold Func.isWrapper; first | (rw [if_pos (by decide +kernel)]; kernel_rfl) | (rw [if_neg (by decide +kernel)]; exact ⟨rfl, rfl⟩))
    (fun os started H enc _ => lifted os started H enc)
theorem proved : Rows.FnMappingsSaid := over
end Go.Proofs.Ytanbgnjfllpkgaa.fnMappings
namespace Go.Proofs.Ytanbgnjfllpkgaa
/-- The row, under a short name, for the claim. -/
theorem fnMappings_holds : Rows.FnMappingsSaid := fnMappings.proved
end Go.Proofs.Ytanbgnjfllpkgaa
