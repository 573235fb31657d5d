/- The law FnExactParseQuery holds: for every input that reads as data the call returns true, and the arguments are as they were. -/
import Derived.Test.YtpfpappamlgnoaaRows
import Derived.Test.YtpfpappamlgnoaaQFnExactParseQueryx17
import Derived.Test.YtpfpappamlgnoaaHandFnExactParseQuery
import Derived.Test.YtpfpappamlgnoaaVFnExactParseQueryOpen
import Derived.WalkKit
import Derived.ProofKit
import Derived.OpenShut
import Derived.ShutString
import Derived.ChangeOld
import Derived.Below
import Derived.SizedLaws
set_option linter.unusedVariables false
set_option linter.unusedSimpArgs false
namespace Go.Proofs.Ytpfpappamlgnoaa.fnExactParseQuery
open Go.ChangeShapes Go.WideShapes Go.ChangeAt Go.RowKit Go.Proofs.Ytpfpappamlgnoaa.QFnExactParseQuery Go.Proofs.Ytpfpappamlgnoaa.Open Go.Proofs.YtpfpappamlgnoaaW.PrintWords
open Go.ChangeMaps (open_string shut_string)
theorem own : ownKnob Try.prog.godebug = none := by kernel_rfl
theorem laidOut : laidOutB Try.prog = true := by kernel_rfl
section
variable {H : Type} {enc : TypeId × Value → H} {w : World} {spare : Nat → Bool}
theorem o3 : Opens enc Try.prog w spare (Kd.int .i64) WfI 3 := opens_int Try.underlying3
theorem o22 : Opens enc Try.prog w spare (Kd.slice 3 (Kd.int .i64)) (WfL WfI) 22 := opens_slice Try.underlying22 (by kernel_rfl) o3
theorem o56 : Opens enc Try.prog w spare k56 (fun x : S56 => (WfL WfI) x.f0) 56 := opens_one (fun x => (⟨x⟩ : S56)) (fun _ => rfl) Try.underlying56 rfl (by kernel_rfl) o22
end
set_option maxRecDepth 100000 in
theorem lifted (os : Os) (started : os.Started) (H : Type) (enc : TypeId × Value → H) :
    ReturnsInHanded {} Try.checked os 14 .any (Rows.fnExactParseQuerySpec.pre6 enc Try.prog Try.f14 Rows.fnExactParseQueryRow.domain false) (Rows.fnExactParseQuerySpec.post enc Try.prog Try.f14 false true false false) := by
  refine returnsInHanded_of_change_sized (C := Try.checked) own started (by kernel_rfl) Try.func14
    (ChangeSpec.witness6 (enc := enc) (C := Try.checked) false ⟨#[], #[.agg #[.slice none 0 0], .string ByteArray.empty], []⟩ 8 (by kernel_rfl) (by kernel_rfl) (by kernel_rfl) (by kernel_rfl)) ?_
  intro W base args ds gs before hval0 hW hcnd hsz0 _
  have hsz : (DataW.weightsEach Try.prog (Try.f14.params.toList ++ Rows.fnExactParseQuerySpec.plain.varTypes Try.prog) (ds ++ gs)).all (· ≤ reachBytes) = true := hsz0
  have hval : ∀ (j : Nat) t v, Try.f14.params[j]? = some t → args[j]? = some v → Value.okWide Try.prog W .any base t v := hval0
  have hW' := hW
  obtain ⟨p, q, hA0, hV, rfl, hfz, hnd⟩ := hW
  have hA : DataW.TrodAll enc Try.prog W 0 (fun _ => true) true Try.f14.params.toList args.toList ds p := hA0
  rw [Try.params14] at hA hval hsz
  obtain ⟨v0, vs0, d0, ds0, p0, q0, hargs, rfl, rfl, h0, r0⟩ := trodAll_cons hA
  obtain ⟨v1, vs1, d1, ds1, p1, q1, rfl, rfl, rfl, h1, r1⟩ := trodAll_cons r0
  obtain ⟨rfl, rfl, rfl⟩ := trodAll_nil r1
  obtain rfl : args = #[v0, v1] := by cases args; simp_all
  obtain ⟨rfl, rfl⟩ := trodVars_none hV
  have k0 := h0
  have lt0 : ∀ x ∈ p0, x.block < W.heap.size := by obtain ⟨m, hm⟩ := k0; exact DataW.trod_lt m _ _ _ hm
  obtain ⟨fuel0, hf0⟩ := h0
  obtain ⟨x0, hK0, wf0⟩ := o56 (enc := enc) (w := W) (spare := fun _ => true) _ _ _ hf0
  obtain ⟨A0_0, c0_0, hcs0, l0_0, g0_0⟩ := k56_open hK0
  obtain rfl := agg_of Try.underlying56 (hval 0 56 v0 rfl rfl) hcs0
  obtain ⟨a1, rfl, rfl, rfl, y1⟩ := open_string Try.underlying9 (hval 1 9 v1 rfl rfl) h1
  have w1 : a1.size ≤ 140737488351232 := by
    have z := sized_string hsz (j := 1) (t := 9) rfl rfl
    rw [Array.length_toList] at z
    exact z
  clear hA0 hval0 hsz0 hsz
  refine (Hand.FnExactParseQuery_calls _ _ x0.f0 a1 W g0_0 l0_0 wf0 w1).mono fun e W' ⟨he, bel⟩ => ?_
  subst he
  exact ⟨_, rfl, _, _, _, [], _, [], hW', trodAll_mk1 (shut_bool Try.underlying4 _), (trodAll_cons_mk (Below.trod laidOut (by kernel_rfl) (of_decide_eq_true (by kernel_rfl)) k0 bel lt0) (trodAll_cons_mk (shut_string Try.underlying9 y1) trodAll_mk0)), rfl, bel.frame _, fun h => by cases h⟩
theorem over : Rows.fnExactParseQueryRow.holds Try.pinned (OpenSpec.ofChange Rows.fnExactParseQuerySpec) :=
  OpenClaim.holds_of_wide 14 Try.f14 rfl rfl rfl rfl rfl rfl rfl ⟨rfl, rfl, rfl, rfl, rfl⟩ rfl rfl rfl rfl rfl (by kernel_rfl) Try.func14 (by kernel_rfl)
    (of_decide_eq_true (by kernel_rfl)) (by unfold Func.isWrapper; first | (rw [if_pos (by decide +kernel)]; kernel_rfl) | (rw [if_neg (by decide +kernel)]; exact ⟨rfl, rfl⟩))
    (fun os started H enc _ => lifted os started H enc)
theorem proved : Rows.FnExactParseQuerySaid := over
end Go.Proofs.Ytpfpappamlgnoaa.fnExactParseQuery
namespace Go.Proofs.Ytpfpappamlgnoaa
/-- The row, under a short name, for the claim. -/
theorem fnExactParseQuery_holds : Rows.FnExactParseQuerySaid := fnExactParseQuery.proved
end Go.Proofs.Ytpfpappamlgnoaa
