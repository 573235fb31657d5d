/- The law FnExactIsEquivalent holds: for every input that reads as data the call returns true, and the arguments are as they were. -/
import Derived.Test.YtanbgnjfllpkgaaRows
import Derived.Test.YtanbgnjfllpkgaaQFnExactIsEquivalentx9
import Derived.Test.YtanbgnjfllpkgaaHandFnExactIsEquivalent
import Derived.Test.YtanbgnjfllpkgaaVFnExactIsEquivalentOpen
import Derived.WalkKit
import Derived.ProofKit
import Derived.OpenShut
import Derived.ShutString
import Derived.ChangeOld
import Derived.Below
import Derived.SizedLaws
set_option linter.unusedVariables false
set_option linter.unusedSimpArgs false
namespace Go.Proofs.Ytanbgnjfllpkgaa.fnExactIsEquivalent
open Go.ChangeShapes Go.WideShapes Go.ChangeAt Go.RowKit Go.Proofs.Ytanbgnjfllpkgaa.QFnExactIsEquivalent Go.Proofs.Ytanbgnjfllpkgaa.Open Go.Proofs.YtanbgnjfllpkgaaW.PrintWords
open Go.ChangeMaps (open_string shut_string)
theorem own : ownKnob Try.prog.godebug = none := by kernel_rfl
theorem laidOut : laidOutB Try.prog = true := by kernel_rfl
section
variable {H : Type} {enc : TypeId × Value → H} {w : World} {spare : Nat → Bool}
theorem o3 : Opens enc Try.prog w spare (Kd.int .i64) WfI 3 := opens_int Try.underlying3
theorem o38 : Opens enc Try.prog w spare (Kd.slice 3 (Kd.int .i64)) (WfL WfI) 38 := opens_slice Try.underlying38 (by kernel_rfl) o3
theorem o62 : Opens enc Try.prog w spare k62 (fun x : S62 => (WfL WfI) x.f0) 62 := opens_one (fun x => (⟨x⟩ : S62)) (fun _ => rfl) Try.underlying62 rfl (by kernel_rfl) o38
theorem o124 : Opens enc Try.prog w spare k124 (fun x : S124 => WfI x.f0 ∧ (WfL WfI) x.f1) 124 := opens_two (fun x => (⟨x.1, x.2⟩ : S124)) (fun _ => rfl) Try.underlying124 rfl (by kernel_rfl) (by kernel_rfl) o3 o38
theorem o39 : Opens enc Try.prog w spare (Kd.slice 124 k124) (WfL (fun x : S124 => WfI x.f0 ∧ (WfL WfI) x.f1)) 39 := opens_slice Try.underlying39 (by kernel_rfl) o124
theorem o41 : Opens enc Try.prog w spare k41 (fun x : S41 => (WfL WfI) x.f0 ∧ (WfL (fun x : S124 => WfI x.f0 ∧ (WfL WfI) x.f1)) x.f1) 41 := opens_two (fun x => (⟨x.1, x.2⟩ : S41)) (fun _ => rfl) Try.underlying41 rfl (by kernel_rfl) (by kernel_rfl) o38 o39
end
set_option maxRecDepth 100000 in
theorem lifted (os : Os) (started : os.Started) (H : Type) (enc : TypeId × Value → H) :
    ReturnsInHanded {} Try.checked os 11 .any (Rows.fnExactIsEquivalentSpec.pre6 enc Try.prog Try.f11 Rows.fnExactIsEquivalentRow.domain false) (Rows.fnExactIsEquivalentSpec.post enc Try.prog Try.f11 false true false false) := by
  refine returnsInHanded_of_change_sized (C := Try.checked) own started (by kernel_rfl) Try.func11
    (ChangeSpec.witness6 (enc := enc) (C := Try.checked) false ⟨#[], #[.agg #[.slice none 0 0], .agg #[.slice none 0 0, .slice none 0 0], .agg #[.slice none 0 0, .slice none 0 0]], []⟩ 8 (by kernel_rfl) (by kernel_rfl) (by kernel_rfl) (by kernel_rfl)) ?_
  intro W base args ds gs before hval0 hW hcnd hsz0 _
  have hsz : (DataW.weightsEach Try.prog (Try.f11.params.toList ++ Rows.fnExactIsEquivalentSpec.plain.varTypes Try.prog) (ds ++ gs)).all (· ≤ reachBytes) = true := hsz0
  have hval : ∀ (j : Nat) t v, Try.f11.params[j]? = some t → args[j]? = some v → Value.okWide Try.prog W .any base t v := hval0
  have hW' := hW
  obtain ⟨p, q, hA0, hV, rfl, hfz, hnd⟩ := hW
  have hA : DataW.TrodAll enc Try.prog W 0 (fun _ => true) true Try.f11.params.toList args.toList ds p := hA0
  rw [Try.params11] at hA hval hsz
  obtain ⟨v0, vs0, d0, ds0, p0, q0, hargs, rfl, rfl, h0, r0⟩ := trodAll_cons hA
  obtain ⟨v1, vs1, d1, ds1, p1, q1, rfl, rfl, rfl, h1, r1⟩ := trodAll_cons r0
  obtain ⟨v2, vs2, d2, ds2, p2, q2, rfl, rfl, rfl, h2, r2⟩ := trodAll_cons r1
  obtain ⟨rfl, rfl, rfl⟩ := trodAll_nil r2
  obtain rfl : args = #[v0, v1, v2] := by cases args; simp_all
  obtain ⟨rfl, rfl⟩ := trodVars_none hV
  have k0 := h0
  have lt0 : ∀ x ∈ p0, x.block < W.heap.size := by obtain ⟨m, hm⟩ := k0; exact DataW.trod_lt m _ _ _ hm
  obtain ⟨fuel0, hf0⟩ := h0
  obtain ⟨x0, hK0, wf0⟩ := o62 (enc := enc) (w := W) (spare := fun _ => true) _ _ _ hf0
  obtain ⟨A0_0, c0_0, hcs0, l0_0, g0_0⟩ := k62_open hK0
  obtain rfl := agg_of Try.underlying62 (hval 0 62 v0 rfl rfl) hcs0
  have k1 := h1
  have lt1 : ∀ x ∈ p1, x.block < W.heap.size := by obtain ⟨m, hm⟩ := k1; exact DataW.trod_lt m _ _ _ hm
  obtain ⟨fuel1, hf1⟩ := h1
  obtain ⟨x1, hK1, wf1⟩ := o41 (enc := enc) (w := W) (spare := fun _ => true) _ _ _ hf1
  obtain ⟨A1_0, c1_0, A1_1, c1_1, hcs1, l1_0, g1_0, l1_1, g1_1⟩ := k41_open hK1
  obtain rfl := agg_of Try.underlying41 (hval 1 41 v1 rfl rfl) hcs1
  have k2 := h2
  have lt2 : ∀ x ∈ p2, x.block < W.heap.size := by obtain ⟨m, hm⟩ := k2; exact DataW.trod_lt m _ _ _ hm
  obtain ⟨fuel2, hf2⟩ := h2
  obtain ⟨x2, hK2, wf2⟩ := o41 (enc := enc) (w := W) (spare := fun _ => true) _ _ _ hf2
  obtain ⟨A2_0, c2_0, A2_1, c2_1, hcs2, l2_0, g2_0, l2_1, g2_1⟩ := k41_open hK2
  obtain rfl := agg_of Try.underlying41 (hval 2 41 v2 rfl rfl) hcs2
  clear hA0 hval0 hsz0 hsz
  refine (Hand.FnExactIsEquivalent_calls _ _ x0.f0 _ _ x1.f0 _ _ x1.f1 _ _ x2.f0 _ _ x2.f1 W g0_0 l0_0 g1_0 l1_0 g1_1 l1_1 g2_0 l2_0 g2_1 l2_1 wf0 wf1 wf2).mono fun e W' ⟨he, bel⟩ => ?_
  subst he
  exact ⟨_, rfl, _, _, _, [], _, [], hW', trodAll_mk1 (shut_bool Try.underlying4 _), (trodAll_cons_mk (Below.trod laidOut (by kernel_rfl) (of_decide_eq_true (by kernel_rfl)) k0 bel lt0) (trodAll_cons_mk (Below.trod laidOut (by kernel_rfl) (of_decide_eq_true (by kernel_rfl)) k1 bel lt1) (trodAll_cons_mk (Below.trod laidOut (by kernel_rfl) (of_decide_eq_true (by kernel_rfl)) k2 bel lt2) trodAll_mk0))), rfl, bel.frame _, fun h => by cases h⟩
theorem over : Rows.fnExactIsEquivalentRow.holds Try.pinned (OpenSpec.ofChange Rows.fnExactIsEquivalentSpec) :=
  OpenClaim.holds_of_wide 11 Try.f11 rfl rfl rfl rfl rfl rfl rfl ⟨rfl, rfl, rfl, rfl, rfl⟩ rfl rfl rfl rfl rfl (by kernel_rfl) Try.func11 (by kernel_rfl)
    (of_decide_eq_true (by kernel_rfl)) (by unfold Func.isWrapper; first | (rw [if_pos (by decide +kernel)]; kernel_rfl) | (rw [if_neg (by decide +kernel)]; exact ⟨rfl, rfl⟩))
    (fun os started H enc _ => lifted os started H enc)
theorem proved : Rows.FnExactIsEquivalentSaid := over
end Go.Proofs.Ytanbgnjfllpkgaa.fnExactIsEquivalent
namespace Go.Proofs.Ytanbgnjfllpkgaa
/-- The row, under a short name, for the claim. -/
theorem fnExactIsEquivalent_holds : Rows.FnExactIsEquivalentSaid := fnExactIsEquivalent.proved
end Go.Proofs.Ytanbgnjfllpkgaa
