/- The pure statement of the law FnExactIsVar: the program's function and the reference's agree, for all arguments within the row's bounds. -/
import Derived.Test.YtoijocdconcfoaaPFnExactIsVarx1
import Derived.Test.YtoijocdconcfoaaMine
set_option linter.unusedVariables false
set_option linter.unusedSimpArgs false
namespace Go.Proofs.Ytoijocdconcfoaa.Pure
open Go.RowKit Go.Proofs.Ytoijocdconcfoaa.PFnExactIsVar Go.Proofs.YtoijocdconcfoaaW.PrintWords Go.Proofs.YtoijocdconcfoaaW.PrintLast Go.Proofs.Ytoijocdconcfoaa.Mine

/-! ### Terms -/
theorem l1In_eq (x lo hi : Int) : spec_l1In.f x lo hi = some (decide (lo ≤ x ∧ x ≤ hi)) := by
  unfold spec_l1In.f
  by_cases h : x ≥ lo
  · rw [if_pos h]; congr 1; simp; omega
  · rw [if_neg h]; congr 1; simp; omega
theorem within_eq (x lo hi : Int) : impl_within.f x lo hi = some (decide (lo ≤ x ∧ x ≤ hi)) := by
  unfold impl_within.f
  by_cases h : x ≥ lo
  · rw [if_pos h]; congr 1; simp; omega
  · rw [if_neg h]; congr 1; simp; omega

theorem FnExactIsVar : laws_FnExactIsVar.Pure := by
  intro t _
  simp [laws_FnExactIsVar.f, spec_IsVar.f, impl_IsVar.f, l1In_eq, within_eq]

end Go.Proofs.Ytoijocdconcfoaa.Pure
