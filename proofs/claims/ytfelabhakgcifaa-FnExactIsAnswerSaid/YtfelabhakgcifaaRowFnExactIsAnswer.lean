/- The law FnExactIsAnswer holds: for every input that reads as data the call returns true, and the arguments are as they were. -/
import Derived.Test.YtfelabhakgcifaaRows
import Derived.Test.YtfelabhakgcifaaQFnExactIsAnswerx18
import Derived.Test.YtfelabhakgcifaaHandFnExactIsAnswer
import Derived.Test.YtfelabhakgcifaaVFnExactIsAnswerOpen
import Derived.WalkKit
import Derived.ProofKit
import Derived.OpenShut
import Derived.ShutString
import Derived.ChangeOld
import Derived.Below
import Derived.SizedLaws
set_option linter.unusedVariables false
set_option linter.unusedSimpArgs false
namespace Go.Proofs.Ytfelabhakgcifaa.fnExactIsAnswer
open Go.ChangeShapes Go.WideShapes Go.ChangeAt Go.RowKit Go.Proofs.Ytfelabhakgcifaa.QFnExactIsAnswer Go.Proofs.Ytfelabhakgcifaa.Open Go.Proofs.YtfelabhakgcifaaW.PrintWords
open Go.ChangeMaps (open_string shut_string)
theorem own : ownKnob Try.prog.godebug = none := by kernel_rfl
theorem laidOut : laidOutB Try.prog = true := by kernel_rfl
section
variable {H : Type} {enc : TypeId × Value → H} {w : World} {spare : Nat → Bool}
theorem o3 : Opens enc Try.prog w spare (Kd.int .i64) WfI 3 := opens_int Try.underlying3
theorem o22 : Opens enc Try.prog w spare (Kd.slice 3 (Kd.int .i64)) (WfL WfI) 22 := opens_slice Try.underlying22 (by kernel_rfl) o3
theorem o24 : Opens enc Try.prog w spare k24 (fun x : S24 => (WfL WfI) x.f0) 24 := opens_one (fun x => (⟨x⟩ : S24)) (fun _ => rfl) Try.underlying24 rfl (by kernel_rfl) o22
theorem o109 : Opens enc Try.prog w spare k109 (fun x : S109 => WfI x.f0 ∧ (WfL WfI) x.f1) 109 := opens_two (fun x => (⟨x.1, x.2⟩ : S109)) (fun _ => rfl) Try.underlying109 rfl (by kernel_rfl) (by kernel_rfl) o3 o22
theorem o53 : Opens enc Try.prog w spare (Kd.slice 109 k109) (WfL (fun x : S109 => WfI x.f0 ∧ (WfL WfI) x.f1)) 53 := opens_slice Try.underlying53 (by kernel_rfl) o109
theorem o55 : Opens enc Try.prog w spare k55 (fun x : S55 => (WfL WfI) x.f0 ∧ (WfL (fun x : S109 => WfI x.f0 ∧ (WfL WfI) x.f1)) x.f1) 55 := opens_two (fun x => (⟨x.1, x.2⟩ : S55)) (fun _ => rfl) Try.underlying55 rfl (by kernel_rfl) (by kernel_rfl) o22 o53
theorem o27 : Opens enc Try.prog w spare k27 (fun x : S27 => WfI x.f0 ∧ (WfL WfI) x.f1) 27 := opens_two (fun x => (⟨x.1, x.2⟩ : S27)) (fun _ => rfl) Try.underlying27 rfl (by kernel_rfl) (by kernel_rfl) o3 o22
theorem o25 : Opens enc Try.prog w spare (Kd.slice 27 k27) (WfL (fun x : S27 => WfI x.f0 ∧ (WfL WfI) x.f1)) 25 := opens_slice Try.underlying25 (by kernel_rfl) o27
end
set_option maxRecDepth 100000 in
theorem lifted (os : Os) (started : os.Started) (H : Type) (enc : TypeId × Value → H) :
    ReturnsInHanded {} Try.checked os 6 .any (Rows.fnExactIsAnswerSpec.pre6 enc Try.prog Try.f6 Rows.fnExactIsAnswerRow.domain false) (Rows.fnExactIsAnswerSpec.post enc Try.prog Try.f6 false true false false) := by
  refine returnsInHanded_of_change_sized (C := Try.checked) own started (by kernel_rfl) Try.func6
    (ChangeSpec.witness6 (enc := enc) (C := Try.checked) false ⟨#[], #[.agg #[.slice none 0 0], .agg #[.slice none 0 0, .slice none 0 0], .slice none 0 0, .slice none 0 0], []⟩ 8 (by kernel_rfl) (by kernel_rfl) (by kernel_rfl) (by kernel_rfl)) ?_
  intro W base args ds gs before hval0 hW hcnd hsz0 _
  have hsz : (DataW.weightsEach Try.prog (Try.f6.params.toList ++ Rows.fnExactIsAnswerSpec.plain.varTypes Try.prog) (ds ++ gs)).all (· ≤ reachBytes) = true := hsz0
  have hval : ∀ (j : Nat) t v, Try.f6.params[j]? = some t → args[j]? = some v → Value.okWide Try.prog W .any base t v := hval0
  have hW' := hW
  obtain ⟨p, q, hA0, hV, rfl, hfz, hnd⟩ := hW
  have hA : DataW.TrodAll enc Try.prog W 0 (fun _ => true) true Try.f6.params.toList args.toList ds p := hA0
  rw [Try.params6] at hA hval hsz
  obtain ⟨v0, vs0, d0, ds0, p0, q0, hargs, rfl, rfl, h0, r0⟩ := trodAll_cons hA
  obtain ⟨v1, vs1, d1, ds1, p1, q1, rfl, rfl, rfl, h1, r1⟩ := trodAll_cons r0
  obtain ⟨v2, vs2, d2, ds2, p2, q2, rfl, rfl, rfl, h2, r2⟩ := trodAll_cons r1
  obtain ⟨v3, vs3, d3, ds3, p3, q3, rfl, rfl, rfl, h3, r3⟩ := trodAll_cons r2
  obtain ⟨rfl, rfl, rfl⟩ := trodAll_nil r3
  obtain rfl : args = #[v0, v1, v2, v3] := by cases args; simp_all
  obtain ⟨rfl, rfl⟩ := trodVars_none hV
  have k0 := h0
  have lt0 : ∀ x ∈ p0, x.block < W.heap.size := by obtain ⟨m, hm⟩ := k0; exact DataW.trod_lt m _ _ _ hm
  obtain ⟨fuel0, hf0⟩ := h0
  obtain ⟨x0, hK0, wf0⟩ := o24 (enc := enc) (w := W) (spare := fun _ => true) _ _ _ hf0
  obtain ⟨A0_0, c0_0, hcs0, l0_0, g0_0⟩ := k24_open hK0
  obtain rfl := agg_of Try.underlying24 (hval 0 24 v0 rfl rfl) hcs0
  have k1 := h1
  have lt1 : ∀ x ∈ p1, x.block < W.heap.size := by obtain ⟨m, hm⟩ := k1; exact DataW.trod_lt m _ _ _ hm
  obtain ⟨fuel1, hf1⟩ := h1
  obtain ⟨x1, hK1, wf1⟩ := o55 (enc := enc) (w := W) (spare := fun _ => true) _ _ _ hf1
  obtain ⟨A1_0, c1_0, A1_1, c1_1, hcs1, l1_0, g1_0, l1_1, g1_1⟩ := k55_open hK1
  obtain rfl := agg_of Try.underlying55 (hval 1 55 v1 rfl rfl) hcs1
  have k2 := h2
  have lt2 : ∀ x ∈ p2, x.block < W.heap.size := by obtain ⟨m, hm⟩ := k2; exact DataW.trod_lt m _ _ _ hm
  obtain ⟨fuel2, hf2⟩ := h2
  obtain ⟨x2, hK2, wf2⟩ := o25 (enc := enc) (w := W) (spare := fun _ => true) _ _ _ hf2
  obtain ⟨A2, c2, hcs2, l2, g2⟩ := hK2
  obtain rfl := slice_of Try.underlying25 (hval 2 25 v2 rfl rfl) hcs2
  have k3 := h3
  have lt3 : ∀ x ∈ p3, x.block < W.heap.size := by obtain ⟨m, hm⟩ := k3; exact DataW.trod_lt m _ _ _ hm
  obtain ⟨fuel3, hf3⟩ := h3
  obtain ⟨x3, hK3, wf3⟩ := o22 (enc := enc) (w := W) (spare := fun _ => true) _ _ _ hf3
  obtain ⟨A3, c3, hcs3, l3, g3⟩ := hK3
  obtain rfl := slice_of Try.underlying22 (hval 3 22 v3 rfl rfl) hcs3
  clear hA0 hval0 hsz0 hsz
  refine (Hand.FnExactIsAnswer_calls _ _ x0.f0 _ _ x1.f0 _ _ x1.f1 _ _ x2 _ _ x3 W g0_0 l0_0 g1_0 l1_0 g1_1 l1_1 g2 l2 g3 l3 wf0 wf1 wf2 wf3).mono fun e W' ⟨he, bel⟩ => ?_
  subst he
  exact ⟨_, rfl, _, _, _, [], _, [], hW', trodAll_mk1 (shut_bool Try.underlying4 _), (trodAll_cons_mk (Below.trod laidOut (by kernel_rfl) (of_decide_eq_true (by kernel_rfl)) k0 bel lt0) (trodAll_cons_mk (Below.trod laidOut (by kernel_rfl) (of_decide_eq_true (by kernel_rfl)) k1 bel lt1) (trodAll_cons_mk (Below.trod laidOut (by kernel_rfl) (of_decide_eq_true (by kernel_rfl)) k2 bel lt2) (trodAll_cons_mk (Below.trod laidOut (by kernel_rfl) (of_decide_eq_true (by kernel_rfl)) k3 bel lt3) trodAll_mk0)))), rfl, bel.frame _, fun h => by cases h⟩
theorem over : Rows.fnExactIsAnswerRow.holds Try.pinned (OpenSpec.ofChange Rows.fnExactIsAnswerSpec) :=
  OpenClaim.holds_of_wide 6 Try.f6 rfl rfl rfl rfl rfl rfl rfl ⟨rfl, rfl, rfl, rfl, rfl⟩ rfl rfl rfl rfl rfl (by kernel_rfl) Try.func6 (by kernel_rfl)
    (of_decide_eq_true (by kernel_rfl)) (by unfold Func.isWrapper; first | (rw [if_pos (by decide +kernel)]; kernel_rfl) | (rw [if_neg (by decide +kernel)]; exact ⟨rfl, rfl⟩))
    (fun os started H enc _ => lifted os started H enc)
theorem proved : Rows.FnExactIsAnswerSaid := over
end Go.Proofs.Ytfelabhakgcifaa.fnExactIsAnswer
namespace Go.Proofs.Ytfelabhakgcifaa
/-- The row, under a short name, for the claim. -/
theorem fnExactIsAnswer_holds : Rows.FnExactIsAnswerSaid := fnExactIsAnswer.proved
end Go.Proofs.Ytfelabhakgcifaa
