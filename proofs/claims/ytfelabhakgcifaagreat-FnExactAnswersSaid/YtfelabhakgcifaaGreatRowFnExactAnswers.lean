/- The law FnExactAnswers holds: for every input that reads as data the call returns true, and the arguments are as they were. -/
import Derived.Test.YtfelabhakgcifaaGreatRows
import Derived.Test.YtfelabhakgcifaaGreatQFnExactAnswersx18
import Derived.Test.YtfelabhakgcifaaGreatHandFnExactAnswers
import Derived.Test.YtfelabhakgcifaaGreatVFnExactAnswersOpen
import Derived.WalkKit
import Derived.ProofKit
import Derived.OpenShut
import Derived.ShutString
import Derived.ChangeOld
import Derived.Below
import Derived.SizedLaws
set_option linter.unusedVariables false
set_option linter.unusedSimpArgs false
namespace Go.Proofs.YtfelabhakgcifaaGreat.fnExactAnswers
open Go.ChangeShapes Go.WideShapes Go.ChangeAt Go.RowKit Go.Proofs.YtfelabhakgcifaaGreat.QFnExactAnswers Go.Proofs.YtfelabhakgcifaaGreat.Open Go.Proofs.YtfelabhakgcifaaGreatW.PrintWords
open Go.ChangeMaps (open_string shut_string)
theorem own : ownKnob Tryz.prog.godebug = none := by kernel_rfl
theorem laidOut : laidOutB Tryz.prog = true := by kernel_rfl
section
variable {H : Type} {enc : TypeId × Value → H} {w : World} {spare : Nat → Bool}
theorem o3 : Opens enc Tryz.prog w spare (Kd.int .i64) WfI 3 := opens_int Tryz.underlying3
theorem o22 : Opens enc Tryz.prog w spare (Kd.slice 3 (Kd.int .i64)) (WfL WfI) 22 := opens_slice Tryz.underlying22 (by kernel_rfl) o3
theorem o24 : Opens enc Tryz.prog w spare k24 (fun x : S24 => (WfL WfI) x.f0) 24 := opens_one (fun x => (⟨x⟩ : S24)) (fun _ => rfl) Tryz.underlying24 rfl (by kernel_rfl) o22
theorem o79 : Opens enc Tryz.prog w spare k79 (fun x : S79 => WfI x.f0 ∧ (WfL WfI) x.f1) 79 := opens_two (fun x => (⟨x.1, x.2⟩ : S79)) (fun _ => rfl) Tryz.underlying79 rfl (by kernel_rfl) (by kernel_rfl) o3 o22
theorem o25 : Opens enc Tryz.prog w spare (Kd.slice 79 k79) (WfL (fun x : S79 => WfI x.f0 ∧ (WfL WfI) x.f1)) 25 := opens_slice Tryz.underlying25 (by kernel_rfl) o79
theorem o27 : Opens enc Tryz.prog w spare k27 (fun x : S27 => (WfL WfI) x.f0 ∧ (WfL (fun x : S79 => WfI x.f0 ∧ (WfL WfI) x.f1)) x.f1) 27 := opens_two (fun x => (⟨x.1, x.2⟩ : S27)) (fun _ => rfl) Tryz.underlying27 rfl (by kernel_rfl) (by kernel_rfl) o22 o25
theorem o59 : Opens enc Tryz.prog w spare k59 (fun x : S59 => WfI x.f0 ∧ (WfL WfI) x.f1) 59 := opens_two (fun x => (⟨x.1, x.2⟩ : S59)) (fun _ => rfl) Tryz.underlying59 rfl (by kernel_rfl) (by kernel_rfl) o3 o22
theorem o28 : Opens enc Tryz.prog w spare (Kd.slice 59 k59) (WfL (fun x : S59 => WfI x.f0 ∧ (WfL WfI) x.f1)) 28 := opens_slice Tryz.underlying28 (by kernel_rfl) o59
end
set_option maxRecDepth 100000 in
theorem lifted (os : Os) (started : os.Started) (H : Type) (enc : TypeId × Value → H) :
    ReturnsInHanded {} Tryz.checked os 3 .any (Rows.fnExactAnswersSpec.pre6 enc Tryz.prog Tryz.f3 Rows.fnExactAnswersRow.domain false) (Rows.fnExactAnswersSpec.post enc Tryz.prog Tryz.f3 false true false false) := by
  refine returnsInHanded_of_change_sized (C := Tryz.checked) own started (by kernel_rfl) Tryz.func3
    (ChangeSpec.witness6 (enc := enc) (C := Tryz.checked) false ⟨#[], #[.agg #[.slice none 0 0], .agg #[.slice none 0 0, .slice none 0 0], .slice none 0 0], []⟩ 8 (by kernel_rfl) (by kernel_rfl) (by kernel_rfl) (by kernel_rfl)) ?_
  intro W base args ds gs before hval0 hW hcnd hsz0 _
  have hsz : (DataW.weightsEach Tryz.prog (Tryz.f3.params.toList ++ Rows.fnExactAnswersSpec.plain.varTypes Tryz.prog) (ds ++ gs)).all (· ≤ reachBytes) = true := hsz0
  have hval : ∀ (j : Nat) t v, Tryz.f3.params[j]? = some t → args[j]? = some v → Value.okWide Tryz.prog W .any base t v := hval0
  have hW' := hW
  obtain ⟨p, q, hA0, hV, rfl, hfz, hnd⟩ := hW
  have hA : DataW.TrodAll enc Tryz.prog W 0 (fun _ => true) true Tryz.f3.params.toList args.toList ds p := hA0
  rw [Tryz.params3] at hA hval hsz
  obtain ⟨v0, vs0, d0, ds0, p0, q0, hargs, rfl, rfl, h0, r0⟩ := trodAll_cons hA
  obtain ⟨v1, vs1, d1, ds1, p1, q1, rfl, rfl, rfl, h1, r1⟩ := trodAll_cons r0
  obtain ⟨v2, vs2, d2, ds2, p2, q2, rfl, rfl, rfl, h2, r2⟩ := trodAll_cons r1
  obtain ⟨rfl, rfl, rfl⟩ := trodAll_nil r2
  obtain rfl : args = #[v0, v1, v2] := by cases args; simp_all
  obtain ⟨rfl, rfl⟩ := trodVars_none hV
  have k0 := h0
  have lt0 : ∀ x ∈ p0, x.block < W.heap.size := by obtain ⟨m, hm⟩ := k0; exact DataW.trod_lt m _ _ _ hm
  obtain ⟨fuel0, hf0⟩ := h0
  obtain ⟨x0, hK0, wf0⟩ := o24 (enc := enc) (w := W) (spare := fun _ => true) _ _ _ hf0
  obtain ⟨A0_0, c0_0, hcs0, l0_0, g0_0⟩ := k24_open hK0
  obtain rfl := agg_of Tryz.underlying24 (hval 0 24 v0 rfl rfl) hcs0
  have k1 := h1
  have lt1 : ∀ x ∈ p1, x.block < W.heap.size := by obtain ⟨m, hm⟩ := k1; exact DataW.trod_lt m _ _ _ hm
  obtain ⟨fuel1, hf1⟩ := h1
  obtain ⟨x1, hK1, wf1⟩ := o27 (enc := enc) (w := W) (spare := fun _ => true) _ _ _ hf1
  obtain ⟨A1_0, c1_0, A1_1, c1_1, hcs1, l1_0, g1_0, l1_1, g1_1⟩ := k27_open hK1
  obtain rfl := agg_of Tryz.underlying27 (hval 1 27 v1 rfl rfl) hcs1
  have k2 := h2
  have lt2 : ∀ x ∈ p2, x.block < W.heap.size := by obtain ⟨m, hm⟩ := k2; exact DataW.trod_lt m _ _ _ hm
  obtain ⟨fuel2, hf2⟩ := h2
  obtain ⟨x2, hK2, wf2⟩ := o28 (enc := enc) (w := W) (spare := fun _ => true) _ _ _ hf2
  obtain ⟨A2, c2, hcs2, l2, g2⟩ := hK2
  obtain rfl := slice_of Tryz.underlying28 (hval 2 28 v2 rfl rfl) hcs2
  clear hA0 hval0 hsz0 hsz
  refine (Hand.FnExactAnswers_calls _ _ x0.f0 _ _ x1.f0 _ _ x1.f1 _ _ x2 W g0_0 l0_0 g1_0 l1_0 g1_1 l1_1 g2 l2 wf0 wf1 wf2).mono fun e W' ⟨he, bel⟩ => ?_
  subst he
  exact ⟨_, rfl, _, _, _, [], _, [], hW', trodAll_mk1 (shut_bool Tryz.underlying4 _), (trodAll_cons_mk (Below.trod laidOut (by kernel_rfl) (of_decide_eq_true (by kernel_rfl)) k0 bel lt0) (trodAll_cons_mk (Below.trod laidOut (by kernel_rfl) (of_decide_eq_true (by kernel_rfl)) k1 bel lt1) (trodAll_cons_mk (Below.trod laidOut (by kernel_rfl) (of_decide_eq_true (by kernel_rfl)) k2 bel lt2) trodAll_mk0))), rfl, bel.frame _, fun h => by cases h⟩
theorem over : Rows.fnExactAnswersRow.holds Tryz.pinned (OpenSpec.ofChange Rows.fnExactAnswersSpec) :=
  OpenClaim.holds_of_wide 3 Tryz.f3 rfl rfl rfl rfl rfl rfl rfl ⟨rfl, rfl, rfl, rfl, rfl⟩ rfl rfl rfl rfl rfl (by kernel_rfl) Tryz.func3 (by kernel_rfl)
    (of_decide_eq_true (by kernel_rfl)) (by unfold Func.isWrapper; first | (rw [if_pos (by decide +kernel)]; kernel_rfl) | (rw [if_neg (by decide +kernel)]; exact ⟨rfl, rfl⟩))
    (fun os started H enc _ => lifted os started H enc)
theorem proved : Rows.FnExactAnswersSaid := over
end Go.Proofs.YtfelabhakgcifaaGreat.fnExactAnswers
namespace Go.Proofs.YtfelabhakgcifaaGreat
/-- The row, under a short name, for the claim. -/
theorem fnExactAnswers_holds : Rows.FnExactAnswersSaid := fnExactAnswers.proved
end Go.Proofs.YtfelabhakgcifaaGreat
