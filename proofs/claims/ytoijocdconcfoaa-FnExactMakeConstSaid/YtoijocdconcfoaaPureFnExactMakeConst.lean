/- The pure statement of the law FnExactMakeConst: the program's function and the reference's agree, for all arguments within the row's bounds. -/
import Derived.Test.YtoijocdconcfoaaPFnExactMakeConstx1
import Derived.Test.YtoijocdconcfoaaMine
set_option linter.unusedVariables false
set_option linter.unusedSimpArgs false
namespace Go.Proofs.Ytoijocdconcfoaa.Pure
open Go.RowKit Go.Proofs.Ytoijocdconcfoaa.PFnExactMakeConst Go.Proofs.YtoijocdconcfoaaW.PrintWords Go.Proofs.YtoijocdconcfoaaW.PrintLast Go.Proofs.Ytoijocdconcfoaa.Mine

/-! ### Terms -/
theorem l1In_eq (x lo hi : Int) : spec_l1In.f x lo hi = some (decide (lo ≤ x ∧ x ≤ hi)) := by
  unfold spec_l1In.f
  by_cases h : x ≥ lo
  · rw [if_pos h]; congr 1; simp; omega
  · rw [if_neg h]; congr 1; simp; omega
theorem within_eq (x lo hi : Int) : impl_within.f x lo hi = some (decide (lo ≤ x ∧ x ≤ hi)) := by
  unfold impl_within.f
  by_cases h : x ≥ lo
  · rw [if_pos h]; congr 1; simp; omega
  · rw [if_neg h]; congr 1; simp; omega

theorem specMakeConst_eq (n : Int) : spec_MakeConst.f n = some (mMkConst n) := by
  unfold spec_MakeConst.f mMkConst
  simp only [l1In_eq, Option.bind_some]
  by_cases h : 0 ≤ n ∧ n ≤ 79
  · simp only [h, and_self, decide_true, if_true]; rw [w64 (by omega) (by omega)]
  · simp only [h, decide_false, Bool.false_eq_true, if_false]
theorem implMakeConst_eq (n : Int) : impl_MakeConst.f n = some (mMkConst n) := by
  unfold impl_MakeConst.f mMkConst
  simp only [within_eq, Option.bind_some]
  by_cases h : 0 ≤ n ∧ n ≤ 79
  · simp only [h, and_self, decide_true, if_true]; rw [w64 (by omega) (by omega)]
  · simp only [h, decide_false, Bool.false_eq_true, if_false]
theorem FnExactMakeConst : laws_FnExactMakeConst.Pure := by
  intro t _
  simp [laws_FnExactMakeConst.f, specMakeConst_eq, implMakeConst_eq]

end Go.Proofs.Ytoijocdconcfoaa.Pure
