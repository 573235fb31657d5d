/- The pure statement of the law FnExactConstOf: the program's function and the reference's agree, for all arguments within the row's bounds. -/
import Derived.Test.YtoijocdconcfoaaPFnExactConstOfx1
import Derived.Test.YtoijocdconcfoaaMine
set_option linter.unusedVariables false
set_option linter.unusedSimpArgs false
namespace Go.Proofs.Ytoijocdconcfoaa.Pure
open Go.RowKit Go.Proofs.Ytoijocdconcfoaa.PFnExactConstOf Go.Proofs.YtoijocdconcfoaaW.PrintWords Go.Proofs.YtoijocdconcfoaaW.PrintLast Go.Proofs.Ytoijocdconcfoaa.Mine

/-! ### Terms -/
theorem l1In_eq (x lo hi : Int) : spec_l1In.f x lo hi = some (decide (lo ≤ x ∧ x ≤ hi)) := by
  unfold spec_l1In.f
  by_cases h : x ≥ lo
  · rw [if_pos h]; congr 1; simp; omega
  · rw [if_neg h]; congr 1; simp; omega
theorem within_eq (x lo hi : Int) : impl_within.f x lo hi = some (decide (lo ≤ x ∧ x ≤ hi)) := by
  unfold impl_within.f
  by_cases h : x ≥ lo
  · rw [if_pos h]; congr 1; simp; omega
  · rw [if_neg h]; congr 1; simp; omega

theorem specConstOf_eq (t : Int) : spec_ConstOf.f t = some (mConstOf t) := by
  unfold spec_ConstOf.f mConstOf
  simp only [l1In_eq, Option.bind_some]
  by_cases h : -80 ≤ t ∧ t ≤ -1
  · simp only [h, and_self, decide_true, if_true]; rw [w64 (by omega) (by omega)]
  · simp only [h, decide_false, Bool.false_eq_true, if_false]

theorem implIsVar_eq (t : Int) : impl_IsVar.f t = some (mIsVar t) := by
  simp [impl_IsVar.f, within_eq, mIsVar]
theorem implIsTerm_eq (t : Int) : impl_IsTerm.f t = some (mIsTerm t) := by
  simp [impl_IsTerm.f, within_eq, mIsTerm]
theorem implConstOf_eq (t : Int) : impl_ConstOf.f t = some (mConstOf t) := by
  unfold impl_ConstOf.f mConstOf
  simp only [implIsTerm_eq, implIsVar_eq, Option.bind_some, mIsTerm, mIsVar]
  by_cases h : -80 ≤ t ∧ t ≤ -1
  · rw [if_pos h, if_pos (by simp; omega), if_neg (by simp; omega)]; rw [w64 (by omega) (by omega)]
  · rw [if_neg h]
    by_cases h2 : -80 ≤ t ∧ t ≤ 19
    · rw [if_pos (by simpa using h2), if_pos (by simp; omega)]
    · rw [if_neg (by simpa using h2)]

theorem FnExactConstOf : laws_FnExactConstOf.Pure := by
  intro t _
  simp [laws_FnExactConstOf.f, specConstOf_eq, implConstOf_eq]

end Go.Proofs.Ytoijocdconcfoaa.Pure
