/- The pure statement of the law FnExactIsEquivalent: the program's function and the reference's agree, for all arguments within the row's bounds. -/
import Derived.Test.YtanbgnjfllpkgaaQFnExactIsEquivalentx0
import Derived.Test.YtanbgnjfllpkgaaQFnExactIsEquivalentx1
import Derived.Test.YtanbgnjfllpkgaaQFnExactIsEquivalentx2
import Derived.Test.YtanbgnjfllpkgaaQFnExactIsEquivalentx3
import Derived.Test.YtanbgnjfllpkgaaQFnExactIsEquivalentx4
import Derived.Test.YtanbgnjfllpkgaaQFnExactIsEquivalentx5
import Derived.Test.YtanbgnjfllpkgaaQFnExactIsEquivalentx6
import Derived.Test.YtanbgnjfllpkgaaQFnExactIsEquivalentx7
import Derived.Test.YtanbgnjfllpkgaaQFnExactIsEquivalentx8
import Derived.Test.YtanbgnjfllpkgaaQFnExactIsEquivalentx9
import Derived.Test.YtanbgnjfllpkgaaVFnExactIsEquivalentMine
import Derived.Test.YtanbgnjfllpkgaaVFnExactIsEquivalentOpen
set_option linter.unusedVariables false
set_option linter.unusedSimpArgs false
namespace Go.Proofs.Ytanbgnjfllpkgaa.Pure
open Go.RowKit Go.Proofs.Ytanbgnjfllpkgaa.QFnExactIsEquivalent Go.Proofs.YtanbgnjfllpkgaaW.PrintWords Go.Proofs.YtanbgnjfllpkgaaW.PrintLast Go.Proofs.Ytanbgnjfllpkgaa.Mine Go.Proofs.Ytanbgnjfllpkgaa.Open

theorem l1In_eq (x lo hi : Int) : spec_l1In.f x lo hi = some (decide (lo ≤ x ∧ x ≤ hi)) := by
  unfold spec_l1In.f
  by_cases h : x ≥ lo
  · rw [if_pos h]; congr 1; simp; omega
  · rw [if_neg h]; congr 1; simp; omega
theorem within_eq (x lo hi : Int) : impl_within.f x lo hi = some (decide (lo ≤ x ∧ x ≤ hi)) := by
  unfold impl_within.f
  by_cases h : x ≥ lo
  · rw [if_pos h]; congr 1; simp; omega
  · rw [if_neg h]; congr 1; simp; omega
/-! ### Terms -/
/-! ### IsSchema -/
theorem specSchema_ev (l : List Int) (h : l.length ≤ 140737488355328) : Ev (fun k => spec_IsSchema.f k l) (mIsSchema l) := by
  have key := idx_ind l (fun pre suf => Ev (fun k => spec_IsSchema.l0 k (pre.length : Int) l) (suf.all (fun n => decide (1 ≤ n ∧ n ≤ 3)) && decide (1 ≤ (l.length : Int) ∧ (l.length : Int) ≤ 4))) ?_ ?_
  · exact key
  · refine evn fun k => ?_
    simp only [spec_IsSchema.l0]
    rw [if_neg (end_not _), l1In_eq]
    simp
  · intro pre a suf e ih
    by_cases hp : 1 ≤ a ∧ a ≤ 3
    · have ht : ((a :: suf).all (fun n => decide (1 ≤ n ∧ n ≤ 3)) && decide (1 ≤ (l.length : Int) ∧ (l.length : Int) ≤ 4)) = (suf.all (fun n => decide (1 ≤ n ∧ n ≤ 3)) && decide (1 ≤ (l.length : Int) ∧ (l.length : Int) ≤ 4)) := by simp [hp]
      rw [ht]
      refine Ev.step (fun k => ?_) ih
      simp only [spec_IsSchema.l0]
      rw [if_pos (lt_of e), if_pos (len_nonneg _), rd_of e, l1In_eq, nx_of e h]
      simp [hp]
    · have ht : ((a :: suf).all (fun n => decide (1 ≤ n ∧ n ≤ 3)) && decide (1 ≤ (l.length : Int) ∧ (l.length : Int) ≤ 4)) = false := by simp [hp]
      rw [ht]
      refine evn fun k => ?_
      simp only [spec_IsSchema.l0]
      rw [if_pos (lt_of e), if_pos (len_nonneg _), rd_of e, l1In_eq]
      simp [hp]
theorem implSchema_ev (l : List Int) (h : l.length ≤ 140737488355328) : Ev (fun k => impl_IsSchema.f k l) (mIsSchema l) := by
  have key := idx_ind l (fun pre suf => Ev (fun k => impl_IsSchema.l0 k l (l.length : Int) (pre.length : Int) l) (suf.all (fun n => decide (1 ≤ n ∧ n ≤ 3)) && decide (1 ≤ (l.length : Int) ∧ (l.length : Int) ≤ 4))) ?_ ?_
  · exact key
  · refine evn fun k => ?_
    simp only [impl_IsSchema.l0]
    rw [if_neg (end_not _), within_eq]
    simp
  · intro pre a suf e ih
    by_cases hp : 1 ≤ a ∧ a ≤ 3
    · have ht : ((a :: suf).all (fun n => decide (1 ≤ n ∧ n ≤ 3)) && decide (1 ≤ (l.length : Int) ∧ (l.length : Int) ≤ 4)) = (suf.all (fun n => decide (1 ≤ n ∧ n ≤ 3)) && decide (1 ≤ (l.length : Int) ∧ (l.length : Int) ≤ 4)) := by simp [hp]
      rw [ht]
      refine Ev.step (fun k => ?_) ih
      simp only [impl_IsSchema.l0]
      rw [if_pos (lt_of e), if_pos (len_nonneg _), if_pos (lt_of e), rd_of e, within_eq, nx_of e h]
      simp [hp]
    · have ht : ((a :: suf).all (fun n => decide (1 ≤ n ∧ n ≤ 3)) && decide (1 ≤ (l.length : Int) ∧ (l.length : Int) ≤ 4)) = false := by simp [hp]
      rw [ht]
      refine evn fun k => ?_
      simp only [impl_IsSchema.l0]
      rw [if_pos (lt_of e), if_pos (len_nonneg _), if_pos (lt_of e), rd_of e, within_eq]
      simp [hp]
theorem specIsVar_eq (t : Int) : spec_IsVar.f t = some (mIsVar t) := by
  simp [spec_IsVar.f, l1In_eq, mIsVar]
theorem specConstOf_eq (t : Int) : spec_ConstOf.f t = some (mConstOf t) := by
  unfold spec_ConstOf.f mConstOf
  simp only [l1In_eq, Option.bind_some]
  by_cases h : -80 ≤ t ∧ t ≤ -1
  · simp only [h, and_self, decide_true, if_true]; rw [w64 (by omega) (by omega)]
  · simp only [h, decide_false, Bool.false_eq_true, if_false]
theorem specIsTerm_eq (t : Int) : spec_IsTerm.f t = some (mIsTerm t) := by
  unfold spec_IsTerm.f
  simp only [specIsVar_eq, specConstOf_eq, Option.bind_some]
  unfold mIsVar mIsTerm mConstOf
  by_cases h : 0 ≤ t ∧ t ≤ 19
  · rw [if_pos (by simpa using h)]; congr 1; simp; omega
  · rw [if_neg (by simpa using h)]; congr 1
    by_cases h2 : -80 ≤ t ∧ t ≤ -1
    · rw [if_pos h2, decide_eq_true (by omega), decide_eq_true (by omega)]
    · rw [if_neg h2, decide_eq_false (by omega), decide_eq_false (by omega)]
theorem l3Terms_ev (l : List Int) (h : l.length ≤ 140737488355328) : Ev (fun k => spec_l3Terms.f k l) (l.all mIsTerm && decide ((l.length : Int) ≤ 3)) := by
  refine idx_ind l (fun pre suf => Ev (fun k => spec_l3Terms.l0 k l (pre.length : Int)) (suf.all mIsTerm && decide ((l.length : Int) ≤ 3))) ?_ ?_
  · refine evn fun k => ?_
    simp only [spec_l3Terms.l0]
    rw [if_neg (end_not _)]; rfl
  · intro pre a suf e ih
    by_cases hp : mIsTerm a = true
    · rw [show (a :: suf).all mIsTerm = suf.all mIsTerm by simp [hp]]
      refine Ev.step (fun k => ?_) ih
      simp only [spec_l3Terms.l0]
      rw [if_pos (lt_of e), if_pos (len_nonneg _), rd_of e, specIsTerm_eq, nx_of e h]
      simp [hp]
    · rw [show ((a :: suf).all mIsTerm && decide ((l.length : Int) ≤ 3)) = false by simp [hp]]
      refine evn fun k => ?_
      simp only [spec_l3Terms.l0]
      rw [if_pos (lt_of e), if_pos (len_nonneg _), rd_of e, specIsTerm_eq]
      simp [hp]
theorem implIsTerm_eq (t : Int) : impl_IsTerm.f t = some (mIsTerm t) := by
  simp [impl_IsTerm.f, within_eq, mIsTerm]
theorem areTerms_ev (l : List Int) (h : l.length ≤ 140737488355328) : Ev (fun k => impl_areTerms.f k l) (l.all mIsTerm) := by
  refine idx_ind l (fun pre suf => Ev (fun k => impl_areTerms.l0 k l (l.length : Int) (pre.length : Int)) (suf.all mIsTerm)) ?_ ?_
  · refine evn fun k => ?_
    simp only [impl_areTerms.l0]
    rw [if_neg (end_not _)]; rfl
  · intro pre a suf e ih
    by_cases hp : mIsTerm a = true
    · rw [show (a :: suf).all mIsTerm = suf.all mIsTerm by simp [hp]]
      refine Ev.step (fun k => ?_) ih
      simp only [impl_areTerms.l0]
      rw [if_pos (lt_of e), if_pos (len_nonneg _), if_pos (lt_of e), rd_of e, implIsTerm_eq, nx_of e h]
      simp [hp]
    · rw [show (a :: suf).all mIsTerm = false by simp [hp]]
      refine evn fun k => ?_
      simp only [impl_areTerms.l0]
      rw [if_pos (lt_of e), if_pos (len_nonneg _), if_pos (lt_of e), rd_of e, implIsTerm_eq]
      simp [hp]
theorem implTakes_ev (s : List Int) (r n : Int) (hs : s.length ≤ 140737488355328) : Ev (fun k => impl_Schema_takes.f k s r n) (mTakes s r n) := by
  unfold impl_Schema_takes.f mTakes
  refine evb (implSchema_ev s hs) ?_
  by_cases c1 : mIsSchema s = true
  · simp only [c1, if_true, within_eq, Option.bind_some]
    rw [w64 (by omega) (by omega)]
    by_cases c2 : 0 ≤ r ∧ r < (s.length : Int)
    · have c2' : 0 ≤ r ∧ r ≤ (s.length : Int) - 1 := by omega
      rw [show decide (0 ≤ r ∧ r < (s.length : Int)) = true from decide_eq_true c2]
      simp only [c2', and_self, decide_true, if_true, if_pos c2.1, if_pos c2.2]
      refine evc fun k => ?_
      simp only [Bool.true_and]
      rfl
    · have c2' : ¬ (0 ≤ r ∧ r ≤ (s.length : Int) - 1) := by omega
      simp only [c2', decide_false, Bool.false_eq_true, if_false]
      refine evc fun k => ?_
      rw [show decide (0 ≤ r ∧ r < (s.length : Int)) = false from decide_eq_false c2]
      simp
  · simp only [if_neg c1]
    refine evc fun k => ?_
    rw [show mIsSchema s = false by simpa using c1]
    simp
theorem implIsAtom_ev (s : List Int) (r : Int) (l : List Int) (hs : s.length ≤ 140737488355328) (h : l.length ≤ 140737488355328) : Ev (fun k => impl_IsAtom.f k s r l) (mIsAtom s r l) := by
  unfold impl_IsAtom.f mIsAtom
  refine evb (implTakes_ev s r _ hs) ?_
  by_cases c : mTakes s r (l.length : Int) = true
  · simp only [c, if_true, Bool.true_and]
    refine evb (areTerms_ev l h) ?_
    exact evc fun k => rfl
  · simp only [if_neg c]
    refine evc fun k => ?_
    rw [show mTakes s r (l.length : Int) = false by simpa using c]
    simp
theorem specIsAtom_ev (s : List Int) (r : Int) (l : List Int) (hs : s.length ≤ 140737488355328) (h : l.length ≤ 140737488355328) : Ev (fun k => spec_IsAtom.f k s r l) (mIsAtom s r l) := by
  unfold spec_IsAtom.f mIsAtom mTakes
  refine evb (specSchema_ev s hs) ?_
  by_cases c1 : mIsSchema s = true
  · simp only [c1, if_true, l1In_eq, Option.bind_some]
    rw [w64 (by omega) (by omega)]
    by_cases c2 : 0 ≤ r ∧ r < (s.length : Int)
    · have c2' : 0 ≤ r ∧ r ≤ (s.length : Int) - 1 := by omega
      rw [show decide (0 ≤ r ∧ r < (s.length : Int)) = true from decide_eq_true c2]
      simp only [c2', and_self, decide_true, if_true, if_pos c2.1, if_pos c2.2]
      by_cases c3 : (l.length : Int) = rd s r
      · simp only [if_pos c3]
        refine evb (l3Terms_ev l h) ?_
        refine evc fun k => ?_
        have hb := mIsSchema_rd c1 c2.1 c2.2
        rw [show decide ((l.length : Int) ≤ 3) = true from decide_eq_true (by omega), show decide (rd s r = (l.length : Int)) = true from decide_eq_true c3.symm]
        simp
      · simp only [if_neg c3]
        refine evc fun k => ?_
        rw [show decide (rd s r = (l.length : Int)) = false from decide_eq_false (fun h => c3 h.symm)]
        simp
    · have c2' : ¬ (0 ≤ r ∧ r ≤ (s.length : Int) - 1) := by omega
      simp only [c2', decide_false, Bool.false_eq_true, if_false]
      refine evc fun k => ?_
      rw [show decide (0 ≤ r ∧ r < (s.length : Int)) = false from decide_eq_false c2]
      simp
  · simp only [if_neg c1]
    refine evc fun k => ?_
    rw [show mIsSchema s = false by simpa using c1]
    simp
theorem l2Has_ev (l : List Int) (t : Int) (h : l.length ≤ 140737488355328) : Ev (fun k => spec_l2Has.f k l t) (decide (t ∈ l)) := by
  refine idx_ind l (fun pre suf => Ev (fun k => spec_l2Has.l0 k l t (pre.length : Int)) (decide (t ∈ suf))) ?_ ?_
  · refine evn fun k => ?_
    simp only [spec_l2Has.l0]
    rw [if_neg (end_not _)]; simp
  · intro pre a suf e ih
    by_cases hc : a = t
    · rw [show decide (t ∈ a :: suf) = true by simp [hc]]
      refine evn fun k => ?_
      simp only [spec_l2Has.l0]
      rw [if_pos (lt_of e), if_pos (len_nonneg _), rd_of e, if_pos hc]
    · rw [show decide (t ∈ a :: suf) = decide (t ∈ suf) by simp [Ne.symm hc]]
      refine Ev.step (fun k => ?_) ih
      simp only [spec_l2Has.l0]
      rw [if_pos (lt_of e), if_pos (len_nonneg _), rd_of e, if_neg hc, nx_of e h]
theorem rdIA_of {l pre suf : List S97} {a : S97} (e : l = pre ++ a :: suf) : rd_T97 l (pre.length : Int) = a := getD_of e _
/-! ### The variables of a body -/
def mBV (acc : List Int) (args : List Int) : List Int := args.foldl (fun acc t => if t ≥ 0 ∧ ¬ t ∈ acc then acc ++ [t] else acc) acc
theorem mBV_cons (acc : List Int) (t : Int) (r : List Int) : mBV acc (t :: r) = mBV (if t ≥ 0 ∧ ¬ t ∈ acc then acc ++ [t] else acc) r := rfl
theorem mBV_len : ∀ (args acc : List Int), (mBV acc args).length ≤ acc.length + args.length
  | [], acc => by simp [mBV]
  | t :: r, acc => by
    rw [mBV_cons]
    have h := mBV_len r (if t ≥ 0 ∧ ¬ t ∈ acc then acc ++ [t] else acc)
    by_cases hc : t ≥ 0 ∧ ¬ t ∈ acc
    · rw [if_pos hc] at h ⊢; simp at h ⊢; omega
    · rw [if_neg hc] at h ⊢; simp at h ⊢; omega
theorem mBV_mem : ∀ (args acc : List Int) (x : Int), x ∈ mBV acc args ↔ x ∈ acc ∨ (x ≥ 0 ∧ x ∈ args)
  | [], acc, x => by simp [mBV]
  | t :: r, acc, x => by
    rw [mBV_cons, mBV_mem r]
    by_cases hc : t ≥ 0 ∧ ¬ t ∈ acc
    · rw [if_pos hc]
      simp only [List.mem_append, List.mem_cons, List.not_mem_nil, or_false]
      constructor
      · rintro ((h | h) | h)
        · exact .inl h
        · exact .inr ⟨h ▸ hc.1, .inl h⟩
        · exact .inr ⟨h.1, .inr h.2⟩
      · rintro (h | ⟨h1, h | h⟩)
        · exact .inl (.inl h)
        · exact .inl (.inr h)
        · exact .inr ⟨h1, h⟩
    · rw [if_neg hc]
      simp only [List.mem_cons]
      constructor
      · rintro (h | h)
        · exact .inl h
        · exact .inr ⟨h.1, .inr h.2⟩
      · rintro (h | ⟨h1, h | h⟩)
        · exact .inl h
        · subst h
          rcases Decidable.em (x ∈ acc) with hm | hm
          · exact .inl hm
          · exact absurd ⟨h1, hm⟩ hc
        · exact .inr ⟨h1, h⟩
def mVars (d : List S97) (acc : List Int) : List Int := d.foldl (fun acc a => mBV acc a.f1) acc
theorem mVars_mem : ∀ (d : List S97) (acc : List Int) (x : Int), x ∈ mVars d acc ↔ x ∈ acc ∨ (x ≥ 0 ∧ ∃ a ∈ d, x ∈ a.f1)
  | [], acc, x => by simp [mVars]
  | a :: t, acc, x => by
    rw [show mVars (a :: t) acc = mVars t (mBV acc a.f1) from rfl, mVars_mem t, mBV_mem]
    simp only [List.mem_cons, exists_eq_or_imp]
    constructor
    · rintro ((h | h) | h)
      · exact .inl h
      · exact .inr ⟨h.1, .inl h.2⟩
      · exact .inr ⟨h.1, .inr h.2⟩
    · rintro (h | ⟨h1, h | h⟩)
      · exact .inl (.inl h)
      · exact .inl (.inr ⟨h1, h⟩)
      · exact .inr ⟨h1, h⟩
theorem mVars_len : ∀ (d : List S97) (acc : List Int), (∀ x ∈ d, x.f1.length ≤ 1048576) → (mVars d acc).length ≤ acc.length + d.length * 1048576
  | [], acc, _ => by simp [mVars]
  | a :: t, acc, h => by
    rw [show mVars (a :: t) acc = mVars t (mBV acc a.f1) from rfl]
    have h1 := mVars_len t (mBV acc a.f1) (fun x hx => h x (List.mem_cons_of_mem _ hx))
    have h2 := mBV_len a.f1 acc
    have h3 := h a List.mem_cons_self
    simp only [List.length_cons, Nat.add_mul]
    omega
theorem bodyVars_l1 (hh : List Int) (d : List S97) (i : Int) (x : S97) (R : List Int) (h0 : 0 ≤ i) (h1 : i < (d.length : Int)) (hx : rd_T97 d i = x) (hxl : x.f1.length ≤ 1048576) (hi : i ≤ 1048576) :
    ∀ (acc : List Int), acc.length ≤ 1099511627776 → (Ev (fun k => spec_l4BodyVars.l0 k (mBV acc x.f1) (i + 1) hh d) R) → Ev (fun k => spec_l4BodyVars.l1 k acc i 0 hh d) R := by
  intro acc hacc hend
  have key := idx_ind x.f1 (fun pre suf => ∀ a2 : List Int, a2.length + suf.length ≤ 1099512676352 → mBV a2 suf = mBV acc x.f1 → Ev (fun k => spec_l4BodyVars.l1 k a2 i (pre.length : Int) hh d) R) ?_ ?_
  · exact key acc (by omega) rfl
  · intro a2 h2 e2
    have e3 : a2 = mBV acc x.f1 := e2
    rw [e3]
    refine Ev.step (fun k => ?_) hend
    simp only [spec_l4BodyVars.l1]
    rw [if_pos h0, if_pos h1, hx, if_neg (end_not _), w64 (by omega) (by omega)]
  · intro pre t suf e ih a2 h2 e2
    have hp := lt_of e
    rw [mBV_cons] at e2
    have hl2 : a2.length < 17592186044416 := by simp at h2; omega
    by_cases ht : t ≥ 0
    · refine Ev.step (f := fun k => (spec_l2Has.f k a2 t).bind fun b => if b = true then spec_l4BodyVars.l1 k a2 i ((pre ++ [t]).length : Int) hh d else (if a2.length < 17592186044416 then spec_l4BodyVars.l1 k (a2 ++ [t]) i ((pre ++ [t]).length : Int) hh d else none)) (fun k => ?_) ?_
      · simp only [spec_l4BodyVars.l1]
        rw [if_pos h0, if_pos h1, hx, if_pos hp, if_pos (len_nonneg _), rd_of e, if_pos ht, nx_of e (by omega)]
      · refine evb (l2Has_ev a2 t (by omega)) ?_
        by_cases hm : t ∈ a2
        · simp only [hm, decide_true, if_true]
          rw [if_neg (fun h => h.2 hm)] at e2
          exact ih a2 (by simp at h2; omega) e2
        · simp only [hm, decide_false, Bool.false_eq_true, if_false, if_pos hl2]
          rw [if_pos ⟨ht, hm⟩] at e2
          exact ih (a2 ++ [t]) (by simp at h2 ⊢; omega) e2
    · rw [if_neg (fun h => ht h.1)] at e2
      refine Ev.step (fun k => ?_) (ih a2 (by simp at h2; omega) e2)
      simp only [spec_l4BodyVars.l1]
      rw [if_pos h0, if_pos h1, hx, if_pos hp, if_pos (len_nonneg _), rd_of e, if_neg ht, nx_of e (by omega)]
theorem bodyVars_ev (hh : List Int) (d : List S97) (hl : d.length ≤ 1048576) (hs : ∀ x ∈ d, x.f1.length ≤ 1048576) : Ev (fun k => spec_l4BodyVars.f k hh d) (mVars d []) := by
  have key := idx_ind d (fun pre suf => ∀ acc : List Int, acc.length ≤ pre.length * 1048576 → mVars suf acc = mVars d [] → Ev (fun k => spec_l4BodyVars.l0 k acc (pre.length : Int) hh d) (mVars d [])) ?_ ?_
  · exact key [] (by simp) rfl
  · intro acc ha e
    have e2 : acc = mVars d [] := e
    rw [← e2]
    refine evn fun k => ?_
    simp only [spec_l4BodyVars.l0]
    rw [if_neg (end_not _)]
  · intro pre x suf e ih acc ha e2
    have hx : x.f1.length ≤ 1048576 := hs x (by rw [e]; simp)
    have hp : pre.length < 1048576 := by rw [e] at hl; simp at hl; omega
    have hb := mBV_len x.f1 acc
    have r := ih (mBV acc x.f1) (by simp only [List.length_append, List.length_singleton, Nat.add_mul]; omega) e2
    have ei : ((pre ++ [x]).length : Int) = (pre.length : Int) + 1 := by simp
    rw [ei] at r
    refine Ev.step (fun k => ?_) (bodyVars_l1 hh d (pre.length : Int) x (mVars d []) (len_nonneg _) (lt_of e) (rdIA_of e) hx (by omega) acc (by omega) r)
    simp only [spec_l4BodyVars.l0]
    rw [if_pos (lt_of e)]
theorem slContains_ev (l : List Int) (t : Int) (h : l.length ≤ 140737488355328) : Ev (fun k => slices_Contains_int_int.f k l t) (decide (t ∈ l)) := by
  have key : ∃ j : Int, Ev (fun k => slices_Index_int_int.f k l t) j ∧ (j ≥ 0 ↔ t ∈ l) := by
    refine idx_ind l (fun pre suf => ∃ j : Int, Ev (fun k => slices_Index_int_int.l0 k l t (l.length : Int) (pre.length : Int)) j ∧ (j ≥ 0 ↔ t ∈ suf)) ?_ ?_
    · refine ⟨-1, evn fun k => ?_, by simp⟩
      simp only [slices_Index_int_int.l0]
      rw [if_neg (end_not _)]
    · intro pre a suf e ih
      by_cases hc : t = a
      · refine ⟨(pre.length : Int), evn fun k => ?_, by simp [hc]⟩
        simp only [slices_Index_int_int.l0]
        rw [if_pos (lt_of e), if_pos (len_nonneg _), if_pos (lt_of e), rd_of e, if_pos hc]
      · obtain ⟨j, z, hj⟩ := ih
        refine ⟨j, Ev.step (fun k => ?_) z, by rw [hj]; simp [hc]⟩
        simp only [slices_Index_int_int.l0]
        rw [if_pos (lt_of e), if_pos (len_nonneg _), if_pos (lt_of e), rd_of e, if_neg hc, nx_of e h]
  obtain ⟨j, z, hj⟩ := key
  unfold slices_Contains_int_int.f
  refine evb z ?_
  refine evc fun k => ?_
  by_cases hm : t ∈ l
  · rw [decide_eq_true hm, decide_eq_true (hj.2 hm)]
  · rw [decide_eq_false hm, decide_eq_false (fun h => hm (hj.1 h))]
/-- A term is an argument of an atom of the body. -/
def mOcc (d : List S97) (t : Int) : Bool := d.any (fun a => decide (t ∈ a.f1))
theorem occurs_ev (hh : List Int) (d : List S97) (t : Int) (hl : d.length ≤ 1048576) (hs : ∀ x ∈ d, x.f1.length ≤ 1048576) : Ev (fun k => impl_Query_occurs.f k hh d t) (mOcc d t) := by
  refine idx_ind d (fun pre suf => Ev (fun k => impl_Query_occurs.l0 k t d (d.length : Int) (pre.length : Int)) (mOcc suf t)) ?_ ?_
  · refine evn fun k => ?_
    simp only [impl_Query_occurs.l0]
    rw [if_neg (end_not _)]; rfl
  · intro pre x suf e ih
    have hx : x.f1.length ≤ 1048576 := hs x (by rw [e]; simp)
    refine Ev.step (f := fun k => (slices_Contains_int_int.f k x.f1 t).bind fun b => if b = true then some true else impl_Query_occurs.l0 k t d (d.length : Int) ((pre ++ [x]).length : Int)) (fun k => ?_) ?_
    · simp only [impl_Query_occurs.l0]
      rw [if_pos (lt_of e), if_pos (len_nonneg _), if_pos (lt_of e), rdIA_of e, nx_of e (by omega)]
    · refine evb (slContains_ev x.f1 t (by omega)) ?_
      by_cases hm : t ∈ x.f1
      · simp only [hm, decide_true, if_true]
        rw [show mOcc (x :: suf) t = true by simp [mOcc, hm]]
        exact evc fun k => rfl
      · simp only [hm, decide_false, Bool.false_eq_true, if_false]
        rw [show mOcc (x :: suf) t = mOcc suf t by simp [mOcc, hm]]
        exact ih
theorem mVars_occ (d : List S97) (t : Int) (h : 0 ≤ t) : decide (t ∈ mVars d []) = mOcc d t := by
  rw [Bool.eq_iff_iff]
  simp only [decide_eq_true_eq, mVars_mem, mOcc, List.any_eq_true]
  simp [h]
/-! ### IsQuery -/
def mSafe (h : List Int) (d : List S97) : Bool := h.all (fun t => !mIsVar t || mOcc d t)
def mIsQuery (s h : List Int) (d : List S97) : Bool :=
  mIsSchema s && (decide ((h.length : Int) ≤ 3) && h.all mIsTerm) && decide (1 ≤ (d.length : Int) ∧ (d.length : Int) ≤ 4) && d.all (fun a => mIsAtom s a.f0 a.f1) && mSafe h d
theorem implIsVar_eq2 (t : Int) : impl_IsVar.f t = some (mIsVar t) := by
  simp [impl_IsVar.f, within_eq, mIsVar]
theorem isSafe_ev (h : List Int) (d : List S97) (hh : h.length ≤ 1048576) (hl : d.length ≤ 1048576) (hs : ∀ x ∈ d, x.f1.length ≤ 1048576) : Ev (fun k => impl_Query_isSafe.f k h d) (mSafe h d) := by
  refine idx_ind h (fun pre suf => Ev (fun k => impl_Query_isSafe.l0 k h (h.length : Int) (pre.length : Int) h d) (suf.all (fun t => !mIsVar t || mOcc d t))) ?_ ?_
  · refine evn fun k => ?_
    simp only [impl_Query_isSafe.l0]
    rw [if_neg (end_not _)]; rfl
  · intro pre t suf e ih
    by_cases hv : mIsVar t = true
    · refine Ev.step (f := fun k => (impl_Query_occurs.f k h d t).bind fun b => if b = true then impl_Query_isSafe.l0 k h (h.length : Int) ((pre ++ [t]).length : Int) h d else some false) (fun k => ?_) ?_
      · simp only [impl_Query_isSafe.l0]
        rw [if_pos (lt_of e), if_pos (len_nonneg _), if_pos (lt_of e), rd_of e, nx_of e (by omega), implIsVar_eq2]
        simp only [Option.bind_some]
        rw [if_pos hv]
      · refine evb (occurs_ev h d t hl hs) ?_
        by_cases ho : mOcc d t = true
        · simp only [ho, if_true]
          rw [show (t :: suf).all (fun t => !mIsVar t || mOcc d t) = suf.all (fun t => !mIsVar t || mOcc d t) by simp [ho]]
          exact ih
        · simp only [if_neg ho]
          rw [show (t :: suf).all (fun t => !mIsVar t || mOcc d t) = false by simp [hv, ho]]
          exact evc fun k => rfl
    · rw [show (t :: suf).all (fun t => !mIsVar t || mOcc d t) = suf.all (fun t => !mIsVar t || mOcc d t) by simp [hv]]
      refine Ev.step (fun k => ?_) ih
      simp only [impl_Query_isSafe.l0]
      rw [if_pos (lt_of e), if_pos (len_nonneg _), if_pos (lt_of e), rd_of e, nx_of e (by omega), implIsVar_eq2]
      simp only [Option.bind_some]
      rw [if_neg hv]
theorem implIsQuery_ev (s h : List Int) (d : List S97) (hsl : s.length ≤ 1048576) (hh : h.length ≤ 1048576) (hl : d.length ≤ 1048576) (hs : ∀ x ∈ d, x.f1.length ≤ 1048576) : Ev (fun k => impl_IsQuery.f k s h d) (mIsQuery s h d) := by
  unfold impl_IsQuery.f mIsQuery
  have jt : Ev (fun k => impl_IsQuery.j0 k true s h d) false := evn fun k => by simp only [impl_IsQuery.j0]; rw [if_pos trivial]
  refine evb (implSchema_ev s (by omega)) ?_
  by_cases c1 : mIsSchema s = true
  · simp only [c1, if_true, Bool.true_and]
    by_cases c2 : (h.length : Int) > 3
    · simp only [if_pos c2]
      rw [show decide ((h.length : Int) ≤ 3) = false from decide_eq_false (by omega)]
      simpa using jt
    · simp only [if_neg c2]
      rw [show decide ((h.length : Int) ≤ 3) = true from decide_eq_true (by omega)]
      refine evb (areTerms_ev h (by omega)) ?_
      by_cases c3 : h.all mIsTerm = true
      · simp only [c3, if_true, Bool.true_and, within_eq, Option.bind_some]
        by_cases c4 : 1 ≤ (d.length : Int) ∧ (d.length : Int) ≤ 4
        · rw [show decide (1 ≤ (d.length : Int) ∧ (d.length : Int) ≤ 4) = true from decide_eq_true c4]
          simp only [Bool.not_true, Bool.true_and]
          refine Ev.step (f := fun k => impl_IsQuery.l0 k d (d.length : Int) 0 s h d) (fun k => ?_) ?_
          · simp only [impl_IsQuery.j0]
            rw [if_neg (by simp)]
          · refine idx_ind d (fun pre suf => Ev (fun k => impl_IsQuery.l0 k d (d.length : Int) (pre.length : Int) s h d) (suf.all (fun a => mIsAtom s a.f0 a.f1) && mSafe h d)) ?_ ?_
            · refine Ev.step (f := fun k => (impl_Query_isSafe.f k h d).bind fun b => some b) (fun k => ?_) ?_
              · simp only [impl_IsQuery.l0]
                rw [if_neg (end_not _)]
              · exact evb (isSafe_ev h d hh hl hs) (evc fun k => rfl)
            · intro pre x suf e ih
              have hx : x.f1.length ≤ 1048576 := hs x (by rw [e]; simp)
              refine Ev.step (f := fun k => (impl_IsAtom.f k s x.f0 x.f1).bind fun b => if b = true then impl_IsQuery.l0 k d (d.length : Int) ((pre ++ [x]).length : Int) s h d else some false) (fun k => ?_) ?_
              · simp only [impl_IsQuery.l0]
                rw [if_pos (lt_of e), if_pos (len_nonneg _), if_pos (lt_of e), rdIA_of e, nx_of e (by omega)]
              · refine evb (implIsAtom_ev s x.f0 x.f1 (by omega) (by omega)) ?_
                by_cases ha : mIsAtom s x.f0 x.f1 = true
                · simp only [ha, if_true]
                  rw [show ((x :: suf).all (fun a => mIsAtom s a.f0 a.f1)) = suf.all (fun a => mIsAtom s a.f0 a.f1) by simp [ha]]
                  exact ih
                · simp only [if_neg ha]
                  rw [show ((x :: suf).all (fun a => mIsAtom s a.f0 a.f1)) = false by simp [ha]]
                  exact evc fun k => rfl
        · rw [show decide (1 ≤ (d.length : Int) ∧ (d.length : Int) ≤ 4) = false from decide_eq_false c4]
          simpa using jt
      · simp only [if_neg c3]
        rw [show h.all mIsTerm = false by simpa using c3]
        simpa using jt
  · simp only [if_neg c1]
    rw [show mIsSchema s = false by simpa using c1]
    simpa using jt
theorem fine_l1 (h : List Int) (d : List S97) (hh : h.length ≤ 1048576) (hl : d.length ≤ 1048576) (hs : ∀ x ∈ d, x.f1.length ≤ 1048576) : Ev (fun k => spec_l4Fine.l1 k 0 h d) (mSafe h d) := by
  refine idx_ind h (fun pre suf => Ev (fun k => spec_l4Fine.l1 k (pre.length : Int) h d) (suf.all (fun t => !mIsVar t || mOcc d t))) ?_ ?_
  · refine evn fun k => ?_
    simp only [spec_l4Fine.l1]
    rw [if_neg (end_not _)]; rfl
  · intro pre t suf e ih
    by_cases hv : mIsVar t = true
    · have ht : 0 ≤ t := by simp [mIsVar] at hv; omega
      refine Ev.step (f := fun k => (spec_l4BodyVars.f k h d).bind fun v => (spec_l2Has.f k v t).bind fun b => if b = true then spec_l4Fine.l1 k ((pre ++ [t]).length : Int) h d else some false) (fun k => ?_) ?_
      · simp only [spec_l4Fine.l1]
        rw [if_pos (lt_of e), if_pos (len_nonneg _), rd_of e, nx_of e (by omega), specIsVar_eq]
        simp only [Option.bind_some]
        rw [if_pos hv]
      · refine evb (bodyVars_ev h d hl hs) ?_
        have hvl := mVars_len d [] hs
        refine evb (l2Has_ev (mVars d []) t (by simp at hvl; omega)) ?_
        rw [mVars_occ d t ht]
        by_cases ho : mOcc d t = true
        · simp only [ho, if_true]
          rw [show (t :: suf).all (fun t => !mIsVar t || mOcc d t) = suf.all (fun t => !mIsVar t || mOcc d t) by simp [ho]]
          exact ih
        · simp only [if_neg ho]
          rw [show (t :: suf).all (fun t => !mIsVar t || mOcc d t) = false by simp [hv, ho]]
          exact evc fun k => rfl
    · rw [show (t :: suf).all (fun t => !mIsVar t || mOcc d t) = suf.all (fun t => !mIsVar t || mOcc d t) by simp [hv]]
      refine Ev.step (fun k => ?_) ih
      simp only [spec_l4Fine.l1]
      rw [if_pos (lt_of e), if_pos (len_nonneg _), rd_of e, nx_of e (by omega), specIsVar_eq]
      simp only [Option.bind_some]
      rw [if_neg hv]
theorem specIsQuery_ev (s h : List Int) (d : List S97) (hsl : s.length ≤ 1048576) (hh : h.length ≤ 1048576) (hl : d.length ≤ 1048576) (hs : ∀ x ∈ d, x.f1.length ≤ 1048576) : Ev (fun k => spec_IsQuery.f k s h d) (mIsQuery s h d) := by
  unfold spec_IsQuery.f
  refine evb (f := fun _ t => some t) ?_ (evc fun k => rfl)
  unfold spec_l4Fine.f mIsQuery
  have jt : Ev (fun k => spec_l4Fine.j0 k true s h d) false := evn fun k => by simp only [spec_l4Fine.j0]; rw [if_pos trivial]
  refine evb (specSchema_ev s (by omega)) ?_
  by_cases c1 : mIsSchema s = true
  · simp only [c1, if_true, Bool.true_and]
    refine evb (l3Terms_ev h (by omega)) ?_
    by_cases c3 : (h.all mIsTerm && decide ((h.length : Int) ≤ 3)) = true
    · rw [show (decide ((h.length : Int) ≤ 3) && h.all mIsTerm) = true by rw [Bool.and_comm]; exact c3]
      simp only [c3, if_true, Bool.true_and, l1In_eq, Option.bind_some]
      by_cases c4 : 1 ≤ (d.length : Int) ∧ (d.length : Int) ≤ 4
      · rw [show decide (1 ≤ (d.length : Int) ∧ (d.length : Int) ≤ 4) = true from decide_eq_true c4]
        simp only [Bool.not_true, Bool.true_and]
        refine Ev.step (f := fun k => spec_l4Fine.l0 k 0 s h d) (fun k => ?_) ?_
        · simp only [spec_l4Fine.j0]
          rw [if_neg (by simp)]
        · refine idx_ind d (fun pre suf => Ev (fun k => spec_l4Fine.l0 k (pre.length : Int) s h d) (suf.all (fun a => mIsAtom s a.f0 a.f1) && mSafe h d)) ?_ ?_
          · refine Ev.step (fun k => ?_) (fine_l1 h d hh hl hs)
            simp only [spec_l4Fine.l0]
            rw [if_neg (end_not _)]
          · intro pre x suf e ih
            have hx : x.f1.length ≤ 1048576 := hs x (by rw [e]; simp)
            refine Ev.step (f := fun k => (spec_IsAtom.f k s x.f0 x.f1).bind fun b => if b = true then spec_l4Fine.l0 k ((pre ++ [x]).length : Int) s h d else some false) (fun k => ?_) ?_
            · simp only [spec_l4Fine.l0]
              rw [if_pos (lt_of e), if_pos (len_nonneg _), rdIA_of e, nx_of e (by omega)]
            · refine evb (specIsAtom_ev s x.f0 x.f1 (by omega) (by omega)) ?_
              by_cases ha : mIsAtom s x.f0 x.f1 = true
              · simp only [ha, if_true]
                rw [show ((x :: suf).all (fun a => mIsAtom s a.f0 a.f1)) = suf.all (fun a => mIsAtom s a.f0 a.f1) by simp [ha]]
                exact ih
              · simp only [if_neg ha]
                rw [show ((x :: suf).all (fun a => mIsAtom s a.f0 a.f1)) = false by simp [ha]]
                exact evc fun k => rfl
      · rw [show decide (1 ≤ (d.length : Int) ∧ (d.length : Int) ≤ 4) = false from decide_eq_false c4]
        simpa using jt
    · rw [show (decide ((h.length : Int) ≤ 3) && h.all mIsTerm) = false by rw [Bool.and_comm]; simpa using c3]
      simp only [if_neg c3]
      simpa using jt
  · simp only [if_neg c1]
    rw [show mIsSchema s = false by simpa using c1]
    simpa using jt
/-! ### The search for a mapping -/
/-- A term sent to another one. -/
def mSend (m : List Int) (t u : Int) : Option (List Int) := if t < 0 then (if t = u then some m else none) else if rd m t = -1000 then some (m.set t.toNat u) else if rd m t = u then some m else none
/-- A list sent to another one: what the map is then, and whether all went well. -/
def mUni : List Int → List Int → List Int → List Int × Bool
  | t :: ts, u :: us, m => match mSend m t u with
    | some m' => mUni ts us m'
    | none => (m, false)
  | _, _, m => (m, true)
/-- The rest of a body sent into another body. -/
def mTry (d2 : List S97) : List S97 → List Int → Option (List Int)
  | [], m => some m
  | a :: rest, m => d2.findSome? (fun b => if a.f0 = b.f0 ∧ a.f1.length = b.f1.length ∧ (mUni a.f1 b.f1 m).2 = true then mTry d2 rest (mUni a.f1 b.f1 m).1 else none)
def mNone : List Int := List.replicate 20 (-1000)
def mFind (h : List Int) (d : List S97) (h2 : List Int) (d2 : List S97) : List Int × Bool :=
  if h.length = h2.length ∧ (mUni h h2 mNone).2 = true then (match mTry d2 d (mUni h h2 mNone).1 with
    | some m => (m, true)
    | none => ([], false)) else ([], false)
theorem mFind_some {h : List Int} {d : List S97} {h2 : List Int} {d2 : List S97} {m : List Int} (h1 : h.length = h2.length) (hu : (mUni h h2 mNone).2 = true) (ht : mTry d2 d (mUni h h2 mNone).1 = some m) : mFind h d h2 d2 = (m, true) := by
  unfold mFind; rw [if_pos ⟨h1, hu⟩, ht]
theorem mFind_none {h : List Int} {d : List S97} {h2 : List Int} {d2 : List S97} (h1 : h.length = h2.length) (hu : (mUni h h2 mNone).2 = true) (ht : mTry d2 d (mUni h h2 mNone).1 = none) : mFind h d h2 d2 = ([], false) := by
  unfold mFind; rw [if_pos ⟨h1, hu⟩, ht]
def mFindQ (s h : List Int) (d : List S97) (h2 : List Int) (d2 : List S97) : List Int × Bool := if mIsQuery s h d = true ∧ mIsQuery s h2 d2 = true then mFind h d h2 d2 else ([], false)
/-- Terms that a map of 20 entries takes. -/
def okTs (l : List Int) : Prop := ∀ t ∈ l, t < 20
theorem okTs_terms {l : List Int} (h : l.all mIsTerm = true) : okTs l := by
  intro t ht
  have := List.all_eq_true.1 h t ht
  simp [mIsTerm] at this; omega
theorem okQ {s h : List Int} {d : List S97} (hq : mIsQuery s h d = true) : okTs h ∧ (∀ a ∈ d, okTs a.f1) ∧ h.length ≤ 3 ∧ d.length ≤ 4 := by
  unfold mIsQuery at hq
  simp only [Bool.and_eq_true, decide_eq_true_eq] at hq
  obtain ⟨⟨⟨⟨_, h1, h2⟩, h3⟩, h4⟩, _⟩ := hq
  refine ⟨okTs_terms h2, fun a ha => ?_, by omega, by omega⟩
  have := List.all_eq_true.1 h4 a ha
  unfold mIsAtom at this
  simp only [Bool.and_eq_true] at this
  exact okTs_terms this.2
theorem mSend_len {m m' : List Int} {t u : Int} (h : mSend m t u = some m') : m'.length = m.length := by
  unfold mSend at h
  split at h
  · split at h
    · injection h with h; rw [h]
    · cases h
  · split at h
    · injection h with h; rw [← h]; simp
    · split at h
      · injection h with h; rw [h]
      · cases h
theorem mUni_len : ∀ (ts us m : List Int), (mUni ts us m).1.length = m.length
  | [], us, m => by simp [mUni]
  | t :: ts, [], m => by simp [mUni]
  | t :: ts, u :: us, m => by
    simp only [mUni]
    cases e : mSend m t u with
    | none => rfl
    | some m' => simp only []; rw [mUni_len ts us m', mSend_len e]
theorem mTry_len (d2 : List S97) : ∀ (d : List S97) (m r : List Int), mTry d2 d m = some r → r.length = m.length
  | [], m, r, h => by simp only [mTry] at h; injection h with h; rw [h]
  | a :: rest, m, r, h => by
    simp only [mTry] at h
    obtain ⟨b, _, hb⟩ := List.exists_of_findSome?_eq_some h
    split at hb
    · rw [mTry_len d2 rest _ _ hb, mUni_len]
    · cases hb
theorem mNone_len : mNone.length = 20 := rfl
theorem mFind_len (h : List Int) (d : List S97) (h2 : List Int) (d2 : List S97) : (mFind h d h2 d2).1.length ≤ 20 := by
  unfold mFind
  split
  · cases e : mTry d2 d (mUni h h2 mNone).1 with
    | none => simp
    | some m => simp only []; rw [mTry_len d2 d _ _ e, mUni_len]; exact Nat.le_refl _
  · simp
theorem mFindQ_len (s h : List Int) (d : List S97) (h2 : List Int) (d2 : List S97) : (mFindQ s h d h2 d2).1.length ≤ 20 := by
  unfold mFindQ
  split
  · exact mFind_len _ _ _ _
  · simp
/-! The reference model -/
theorem l7Empty_ev : Ev (fun k => spec_l7Empty.f k) mNone := by
  have h : ∀ n : Nat, n ≤ 20 → Ev (fun k => spec_l7Empty.l0 k (List.replicate (20 - n) (-1000)) ((20 - n : Nat) : Int)) mNone := by
    intro n
    induction n with
    | zero => intro _; refine evn fun k => ?_; simp [spec_l7Empty.l0, mNone]
    | succ n ih =>
      intro hn
      refine Ev.step (fun k => ?_) (ih (by omega))
      simp only [spec_l7Empty.l0]
      rw [if_pos (by omega), if_pos (by simp; omega), w64 (by omega) (by omega), ← List.replicate_succ', show 20 - (n + 1) + 1 = 20 - n by omega, show ((20 - (n + 1) : Nat) : Int) + 1 = ((20 - n : Nat) : Int) by omega]
  exact h 20 (Nat.le_refl _)
theorem l7Unify_l0 : ∀ (ts us pre pre2 m : List Int), ts.length = us.length → pre.length = pre2.length → m.length = 20 → okTs ts → (pre ++ ts).length ≤ 1048576 →
    Ev (fun k => spec_l7Unify.l0 k (pre ++ ts) (pre2 ++ us) m (pre.length : Int)) (mUni ts us m)
  | [], us, pre, pre2, m, h1, h2, hm, ho, hl => by
    refine evn fun k => ?_
    simp only [spec_l7Unify.l0, List.append_nil, mUni]
    rw [if_neg (end_not _)]
  | t :: ts, [], pre, pre2, m, h1, h2, hm, ho, hl => by simp at h1
  | t :: ts, u :: us, pre, pre2, m, h1, h2, hm, ho, hl => by
    have ht : t < 20 := ho t List.mem_cons_self
    have hlp : pre.length ≤ 140737488355328 := by simp at hl; omega
    have r := fun m' hm' => l7Unify_l0 ts us (pre ++ [t]) (pre2 ++ [u]) m' (by simpa using h1) (by simpa using h2) hm' (fun x hx => ho x (List.mem_cons_of_mem _ hx)) (by simpa using hl)
    simp only [List.append_assoc, List.singleton_append] at r
    have e1 : (pre.length : Int) < ((pre2 ++ u :: us).length : Int) := by rw [h2]; exact mid_lt _ _ _
    have e2 : rd (pre2 ++ u :: us) (pre.length : Int) = u := by rw [h2]; exact rd_mid _ _ _
    refine Ev.step (fun k => spec_l7Unify.l0.eq_2 ..) ?_
    simp only [if_pos (mid_lt _ _ _), if_pos (len_nonneg _), rd_mid, e2, if_pos e1, iw (a := t) hlp, mUni]
    by_cases c1 : t < 0
    · simp only [if_pos c1]
      by_cases c2 : t = u
      · have es : mSend m t u = some m := by unfold mSend; rw [if_pos c1, if_pos c2]
        simp only [if_pos c2, es]
        exact r m hm
      · have es : mSend m t u = none := by unfold mSend; rw [if_pos c1, if_neg c2]
        simp only [if_neg c2, es]
        exact evc fun k => rfl
    · have c3 : 0 ≤ t := by omega
      have c4 : t < (m.length : Int) := by omega
      simp only [if_neg c1, if_pos c3, if_pos c4]
      by_cases c5 : rd m t = -1000
      · have es : mSend m t u = some (m.set t.toNat u) := by unfold mSend; rw [if_neg c1, if_pos c5]
        simp only [if_pos c5, es]
        exact r _ (by simpa using hm)
      · simp only [if_neg c5]
        by_cases c6 : rd m t = u
        · have es : mSend m t u = some m := by unfold mSend; rw [if_neg c1, if_neg c5, if_pos c6]
          simp only [if_pos c6, es]
          exact r m hm
        · have es : mSend m t u = none := by unfold mSend; rw [if_neg c1, if_neg c5, if_neg c6]
          simp only [if_neg c6, es]
          exact evc fun k => rfl
theorem l7Unify_ev (ts us m : List Int) (h1 : ts.length = us.length) (hm : m.length = 20) (ho : okTs ts) (hl : ts.length ≤ 1048576) : Ev (fun k => spec_l7Unify.f k ts us m) (mUni ts us m) := by
  unfold spec_l7Unify.f
  simp only [Option.bind_some, List.length_nil, Nat.zero_add, List.nil_append, if_pos (show m.length < 17592186044416 by omega)]
  exact l7Unify_l0 ts us [] [] m h1 rfl hm ho hl
/-! The program -/
theorem implIsVar_eq3 (t : Int) : impl_IsVar.f t = some (mIsVar t) := by simp [impl_IsVar.f, within_eq, mIsVar]
theorem send_eq (m : List Int) (t u : Int) (hm : m.length = 20) (ht : t < 20) : impl_send.f m t u = some ((mSend m t u).isSome, (mSend m t u).getD m) := by
  unfold impl_send.f mSend
  rw [implIsVar_eq3]
  simp only [Option.bind_some]
  by_cases c1 : t < 0
  · rw [show mIsVar t = false by simp [mIsVar]; omega, if_neg (by simp), if_pos c1]
    by_cases c2 : t = u
    · rw [if_pos c2]; simp [c2]
    · rw [if_neg c2]; simp [c2]
  · have c3 : 0 ≤ t := by omega
    rw [show mIsVar t = true by simp [mIsVar]; omega, if_pos rfl, if_pos c3, if_pos (by omega), if_neg c1]
    by_cases c5 : rd m t = -1000
    · rw [if_pos c5, if_pos c5]
      have e : rd (m.set t.toNat u) t = u := by
        show (m.set t.toNat u).getD t.toNat 0 = u
        rw [List.getD_eq_getElem?_getD, List.getElem?_set_self (by omega)]; rfl
      rw [e]; simp
    · rw [if_neg c5, if_neg c5]
      by_cases c6 : rd m t = u
      · rw [if_pos c6]; simp [c6]
      · rw [if_neg c6]; simp [c6]
theorem szIntS_eq (l : List Int) (a : Int) (h : l.length ≤ maxLen) (h0 : 0 ≤ a) (h1 : a ≤ 1048576) : laws_szIntS.f l a = some (mSz l a) := by
  unfold maxLen at h
  unfold laws_szIntS.f mSz
  rw [w64 (by omega) (by omega)]
  by_cases hc : (l.length : Int) ≤ a
  · rw [if_neg (by omega), if_pos hc]
  · rw [if_pos (by omega), if_neg hc]
/-! ### A copy of a list -/
theorem toIntS_l0 (suf : List Int) : ∀ pre : List Int, (pre ++ suf).length ≤ 17592186044416 → Ev (fun k => laws_toIntS.l0 k (pre ++ suf) (pre ++ List.replicate suf.length 0) (pre.length : Int)) (pre ++ suf) := by
  induction suf with
  | nil =>
    intro pre h
    simp only [List.append_nil, List.length_nil, List.replicate_zero]
    refine evn fun k => ?_
    simp only [laws_toIntS.l0]
    rw [if_neg (end_not _)]
  | cons a t ih =>
    intro pre h
    have h1 := ih (pre ++ [a]) (by simpa using h)
    have hl : pre.length ≤ 140737488355328 := by simp at h; omega
    refine Ev.step (fun k => ?_) (by simpa using h1)
    simp only [laws_toIntS.l0]
    rw [if_pos (mid_lt _ _ _), if_pos (len_nonneg _)]
    simp only [List.length_cons, List.replicate_succ]
    rw [if_pos (mid_lt _ _ _), rd_mid, set_mid, iw (a := a) hl]
    simp
theorem toIntS_ev (l : List Int) (h : l.length ≤ 17592186044416) : Ev (fun k => laws_toIntS.f k l) l := by
  have h1 := toIntS_l0 l [] (by simpa using h)
  refine Ev.congr (fun k => ?_) h1
  unfold laws_toIntS.f
  rw [if_pos (by omega), if_pos (by simp; omega)]
  simp
/-! ### Equal lists -/
theorem eqIntS_l0 (suf : List Int) : ∀ (pre suf2 pre2 : List Int), pre.length = pre2.length → suf.length = suf2.length → (pre ++ suf).length ≤ 17592186044416 →
    Ev (fun k => laws_eqIntS.l0 k (pre ++ suf) (pre2 ++ suf2) (pre.length : Int)) (decide (suf = suf2)) := by
  induction suf with
  | nil =>
    intro pre suf2 pre2 hp hs h
    obtain rfl : suf2 = [] := List.eq_nil_of_length_eq_zero (by simpa using hs.symm)
    simp only [List.append_nil]
    refine evn fun k => ?_
    simp only [laws_eqIntS.l0]
    rw [if_neg (end_not _)]; simp
  | cons a t ih =>
    intro pre suf2 pre2 hp hs h
    obtain ⟨b, t2, rfl⟩ : ∃ b t2, suf2 = b :: t2 := by cases suf2 with
      | nil => simp at hs
      | cons b t2 => exact ⟨b, t2, rfl⟩
    have hl : pre.length ≤ 140737488355328 := by simp at h; omega
    have r1 : rd (pre2 ++ b :: t2) (pre.length : Int) = b := by rw [hp]; exact rd_mid _ _ _
    have l1 : (pre.length : Int) < ((pre2 ++ b :: t2).length : Int) := by rw [hp]; exact mid_lt _ _ _
    by_cases hab : a = b
    · subst hab
      have h1 := ih (pre ++ [a]) t2 (pre2 ++ [a]) (by simpa using hp) (by simpa using hs) (by simpa using h)
      have e : decide (a :: t = a :: t2) = decide (t = t2) := by simp
      rw [e]
      refine Ev.step (fun k => ?_) (by simpa using h1)
      simp only [laws_eqIntS.l0]
      rw [if_pos (mid_lt _ _ _), if_pos (len_nonneg _), if_pos l1, rd_mid, r1, if_pos rfl, iw (a := a) hl]
      simp
    · have e : decide (a :: t = b :: t2) = false := by simp [hab]
      rw [e]
      refine evn fun k => ?_
      simp only [laws_eqIntS.l0]
      rw [if_pos (mid_lt _ _ _), if_pos (len_nonneg _), if_pos l1, rd_mid, r1, if_neg hab]
theorem eqIntS_ev (l l2 : List Int) (h : l.length ≤ 17592186044416) : Ev (fun k => laws_eqIntS.f k l l2) (decide (l = l2)) := by
  by_cases hl : l.length = l2.length
  · have h1 := eqIntS_l0 l [] l2 [] rfl hl (by simpa using h)
    refine Ev.congr (fun k => ?_) h1
    unfold laws_eqIntS.f
    rw [if_pos (by omega)]
    simp
  · have e : decide (l = l2) = false := by simp; intro h; exact hl (by rw [h])
    rw [e]
    refine evc fun k => ?_
    unfold laws_eqIntS.f
    rw [if_neg (by omega)]
theorem szSchema_eq (l : List Int) (a : Int) (h : l.length ≤ maxLen) (h0 : 0 ≤ a) (h1 : a ≤ 1048576) : laws_szSchema.f l a = some (mSz l a) := by
  unfold laws_szSchema.f
  rw [szIntS_eq l a h h0 h1]
  simp only [Option.bind_some]
  unfold mSz
  by_cases hc : (l.length : Int) ≤ a
  · simp only [if_pos hc]; rw [if_neg (by omega)]
  · simp only [if_neg hc]; rfl
theorem toSchema_ev (l : List Int) (h : l.length ≤ 17592186044416) : Ev (fun k => laws_toSchema.f k l) l := by
  unfold laws_toSchema.f
  refine evb (toIntS_ev l h) ?_
  exact evc fun k => rfl
theorem eqSchema_ev (l m : List Int) (h : l.length ≤ 17592186044416) : Ev (fun k => laws_eqSchema.f k l m) (decide (l = m)) := by
  unfold laws_eqSchema.f
  refine evb (eqIntS_ev l m h) ?_
  refine evc fun k => ?_
  by_cases e : l = m
  · simp [e]
  · simp [e]
theorem szSchema_ok (l : List Int) (a : Int) (w : (WfL WfI) l) (h0 : 0 ≤ a) (h1 : a ≤ 1048576) : ∃ t, Ev (fun _ : Nat => laws_szSchema.f l a) t ∧ (t < 0 ∨ 0 ≤ t ∧ t ≤ a ∧ l.length ≤ 1048576) := by
  refine ⟨mSz l a, evc fun k => szSchema_eq l a w.2 h0 h1, ?_⟩
  unfold mSz
  by_cases hc : (l.length : Int) ≤ a
  · rw [if_pos hc]; right; omega
  · rw [if_neg hc]; left; omega
theorem eqAtom_ev (r : Int) (l : List Int) (q : Int) (m : List Int) (h : l.length ≤ 17592186044416) : Ev (fun k => laws_eqAtom.f k r l q m) (decide (r = q ∧ l = m)) := by
  unfold laws_eqAtom.f
  by_cases hr : r = q
  · simp only [if_pos hr]
    refine evb (eqIntS_ev l m h) ?_
    refine evc fun k => ?_
    by_cases e : l = m
    · simp [e, hr]
    · simp [e]
  · simp only [if_neg hr]
    refine evc fun k => ?_
    simp [hr]
theorem szAtom_eq (r : Int) (l : List Int) (a : Int) (h : l.length ≤ maxLen) (h0 : 0 ≤ a) (h1 : a ≤ 1048576) : laws_szAtom.f r l a = some (mSz l a) := by
  unfold laws_szAtom.f
  rw [szIntS_eq l a h h0 h1]
  simp only [Option.bind_some]
  unfold mSz
  by_cases hc : (l.length : Int) ≤ a
  · simp only [if_pos hc]; rw [if_neg (by omega)]
  · simp only [if_neg hc]; rfl
theorem toAtom_ev (r : Int) (l : List Int) (h : l.length ≤ 17592186044416) : Ev (fun k => laws_toAtom.f k r l) (r, l) := by
  unfold laws_toAtom.f
  refine evb (toIntS_ev l h) ?_
  exact evc fun k => rfl
theorem szAtom_ok (r : Int) (l : List Int) (a : Int) (w : (WfL WfI) l) (h0 : 0 ≤ a) (h1 : a ≤ 1048576) : ∃ t, Ev (fun _ : Nat => laws_szAtom.f r l a) t ∧ (t < 0 ∨ 0 ≤ t ∧ t ≤ a ∧ l.length ≤ 1048576) := by
  refine ⟨mSz l a, evc fun k => szAtom_eq r l a w.2 h0 h1, ?_⟩
  unfold mSz
  by_cases hc : (l.length : Int) ≤ a
  · rw [if_pos hc]; right; omega
  · rw [if_neg hc]; left; omega
/-! ### Lists of atoms -/
def cvA (x : S124) : S97 := ⟨x.f0, x.f1⟩
def SmA (l : List S124) : Prop := ∀ x ∈ l, x.f1.length ≤ 1048576
def SmAi (l : List S97) : Prop := ∀ x ∈ l, x.f1.length ≤ 1048576
theorem cvA_small {l : List S124} (h : ∀ x ∈ l, x.f1.length ≤ 1048576) : ∀ x ∈ l.map cvA, x.f1.length ≤ 1048576 := by
  intro x hx
  obtain ⟨y, hy, rfl⟩ := List.mem_map.1 hx
  exact h y hy
theorem rdLA_of {l pre suf : List S124} {a : S124} (e : l = pre ++ a :: suf) : rd_T124 l (pre.length : Int) = a := getD_of e _
theorem szAtomS_ok (l : List S124) (a : Int) (w : (WfL (fun x : S124 => WfI x.f0 ∧ (WfL WfI) x.f1)) l) (h0 : 0 ≤ a) (h1 : a ≤ 1048576) :
    ∃ t, Ev (fun k => laws_szAtomS.f k l a) t ∧ (t < 0 ∨ 0 ≤ t ∧ t ≤ a ∧ l.length ≤ 1048576 ∧ ∀ x ∈ l, x.f1.length ≤ 1048576) := by
  have hm : l.length ≤ 9223372036854775807 := by have := w.2; unfold maxLen at this; exact this
  unfold laws_szAtomS.f
  rw [w64 (by omega) (by omega)]
  by_cases hc : a - (l.length : Int) < 0
  · simp only [if_pos hc]; exact ⟨-1, evc fun k => rfl, .inl (by omega)⟩
  · simp only [if_neg hc]
    have hl : l.length ≤ 1048576 := by omega
    have key := idx_ind l (fun pre suf => ∀ b : Int, 0 ≤ b → b ≤ a → ∃ t, Ev (fun k => laws_szAtomS.l0 k l b (pre.length : Int)) t ∧ (t < 0 ∨ 0 ≤ t ∧ t ≤ a ∧ ∀ x ∈ suf, x.f1.length ≤ 1048576)) ?_ ?_
    · obtain ⟨t, z, c⟩ := key (a - (l.length : Int)) (by omega) (by omega)
      exact ⟨t, z, c.imp id (fun ⟨p, q, r⟩ => ⟨p, q, hl, r⟩)⟩
    · intro b hb0 hb1
      refine ⟨b, evn fun k => ?_, .inr ⟨hb0, hb1, by simp⟩⟩
      simp only [laws_szAtomS.l0]
      rw [if_neg (end_not _)]
    · intro pre x suf e ih b hb0 hb1
      have hx : x ∈ l := by rw [e]; simp
      obtain ⟨t, z, c⟩ := szAtom_ok x.f0 x.f1 b (w.1 x hx).2 hb0 (by omega)
      have z' : laws_szAtom.f x.f0 x.f1 b = some t := by obtain ⟨K, hK⟩ := z; exact hK K (Nat.le_refl _)
      rcases c with c | ⟨p, q, s⟩
      · refine ⟨-1, evn fun k => ?_, .inl (by omega)⟩
        simp only [laws_szAtomS.l0]
        rw [if_pos (lt_of e), if_pos (len_nonneg _), rdLA_of e, z']
        simp only [Option.bind_some]
        rw [if_pos c]
      · obtain ⟨t2, z2, c2⟩ := ih t p (by omega)
        refine ⟨t2, Ev.step (fun k => ?_) z2, c2.imp id (fun ⟨p2, q2, r2⟩ => ⟨p2, q2, ?_⟩)⟩
        · simp only [laws_szAtomS.l0]
          rw [if_pos (lt_of e), if_pos (len_nonneg _), rdLA_of e, z']
          simp only [Option.bind_some]
          rw [if_neg (by omega), nx_of e (by omega)]
        · intro y hy
          rcases List.mem_cons.1 hy with rfl | hy
          · exact s
          · exact r2 y hy
theorem toAtomS_ev (l : List S124) (hl : l.length ≤ 1048576) (hs : ∀ x ∈ l, x.f1.length ≤ 1048576) : Ev (fun k => laws_toAtomS.f k l) (l.map cvA) := by
  have key := idx_ind l (fun pre suf => Ev (fun k => laws_toAtomS.l0 k l (pre.map cvA ++ List.replicate suf.length z97) (pre.length : Int)) (l.map cvA)) ?_ ?_
  · refine Ev.congr (fun k => ?_) key
    unfold laws_toAtomS.f
    rw [if_pos (by omega), if_pos (by omega)]
    simp
  · refine evn fun k => ?_
    simp only [laws_toAtomS.l0]
    rw [if_neg (end_not _)]
    simp
  · intro pre x suf e ih
    have hx : x.f1.length ≤ 1048576 := hs x (by rw [e]; simp)
    refine Ev.step (f := fun k => (laws_toAtom.f k x.f0 x.f1).bind fun b => laws_toAtomS.l0 k l ((pre.map cvA ++ List.replicate (suf.length + 1) z97).set pre.length (⟨b.1, b.2⟩ : S97)) ((pre ++ [x]).length : Int)) (fun k => ?_) ?_
    · simp only [laws_toAtomS.l0]
      have hc : (pre.length : Int) < ((pre.map cvA ++ List.replicate (x :: suf).length z97).length : Int) := by simp; omega
      rw [if_pos (lt_of e), if_pos (len_nonneg _), rdLA_of e, nx_of e (by omega)]
      simp only [if_pos hc]
      simp
    · refine evb (toAtom_ev x.f0 x.f1 (by omega)) ?_
      have es : (pre.map cvA ++ List.replicate (suf.length + 1) z97).set pre.length (⟨x.f0, x.f1⟩ : S97) = (pre ++ [x]).map cvA ++ List.replicate suf.length z97 := by
        rw [List.replicate_succ]
        simp [cvA]
      simp only [es]
      exact ih
theorem eqAtomS_ev (l : List S97) (hl : l.length ≤ 1048576) (hs : ∀ x ∈ l, x.f1.length ≤ 1048576) : Ev (fun k => laws_eqAtomS.f k l l) true := by
  have key := idx_ind l (fun pre suf => Ev (fun k => laws_eqAtomS.l0 k l l (pre.length : Int)) true) ?_ ?_
  · refine Ev.congr (fun k => ?_) key
    unfold laws_eqAtomS.f
    rw [if_pos rfl]; rfl
  · refine evn fun k => ?_
    simp only [laws_eqAtomS.l0]
    rw [if_neg (end_not _)]
  · intro pre x suf e ih
    have hx : x.f1.length ≤ 1048576 := hs x (by rw [e]; simp)
    refine Ev.step (f := fun k => (laws_eqAtom.f k x.f0 x.f1 x.f0 x.f1).bind fun b => if b = true then laws_eqAtomS.l0 k l l ((pre ++ [x]).length : Int) else some false) (fun k => ?_) ?_
    · simp only [laws_eqAtomS.l0]
      rw [if_pos (lt_of e), if_pos (len_nonneg _), if_pos (lt_of e), rdIA_of e, nx_of e (by omega)]
    · refine evb (eqAtom_ev x.f0 x.f1 x.f0 x.f1 (by omega)) ?_
      simp only [and_self, decide_true, if_true]
      exact ih
/-! ### Queries -/
theorem szQuery_ok (h : List Int) (d : List S124) (a : Int) (w : (WfL WfI) h ∧ (WfL (fun x : S124 => WfI x.f0 ∧ (WfL WfI) x.f1)) d) (h0 : 0 ≤ a) (h1 : a ≤ 1048576) :
    ∃ t, Ev (fun k => laws_szQuery.f k h d a) t ∧ (t < 0 ∨ 0 ≤ t ∧ t ≤ a ∧ h.length ≤ 1048576 ∧ d.length ≤ 1048576 ∧ ∀ x ∈ d, x.f1.length ≤ 1048576) := by
  unfold laws_szQuery.f
  rw [szIntS_eq h a w.1.2 h0 h1]
  simp only [Option.bind_some]
  unfold mSz
  by_cases hc : (h.length : Int) ≤ a
  · simp only [if_pos hc]
    have hn : ¬ (a - (h.length : Int) < 0) := by omega
    simp only [if_neg hn]
    obtain ⟨t, z, c⟩ := szAtomS_ok d (a - (h.length : Int)) w.2 (by omega) (by omega)
    rcases c with c | ⟨p, q, s⟩
    · exact ⟨-1, evb z (by simp only [if_pos c]; exact evc fun k => rfl), .inl (by omega)⟩
    · have hp : ¬ t < 0 := by omega
      exact ⟨t, evb z (by simp only [if_neg hp]; exact evc fun k => rfl), .inr ⟨p, by omega, by omega, s⟩⟩
  · simp only [if_neg hc]
    exact ⟨-1, evc fun k => rfl, .inl (by omega)⟩
theorem toQuery_ev (h : List Int) (d : List S124) (hh : h.length ≤ 1048576) (hl : d.length ≤ 1048576) (hs : ∀ x ∈ d, x.f1.length ≤ 1048576) : Ev (fun k => laws_toQuery.f k h d) (h, d.map cvA) := by
  unfold laws_toQuery.f
  refine evb (toIntS_ev h (by omega)) ?_
  refine evb (toAtomS_ev d hl hs) ?_
  exact evc fun k => rfl
theorem eqQuery_ev (h : List Int) (d : List S97) (hh : h.length ≤ 1048576) (hl : d.length ≤ 1048576) (hs : ∀ x ∈ d, x.f1.length ≤ 1048576) : Ev (fun k => laws_eqQuery.f k h d h d) true := by
  unfold laws_eqQuery.f
  refine evb (eqIntS_ev h h (by omega)) ?_
  simp only [decide_true, if_true]
  refine evb (eqAtomS_ev d hl hs) ?_
  simp only [if_true]
  exact evc fun k => rfl
theorem copyInts_eq (l : List Int) (h : l.length ≤ 1048576) : impl_copyInts.f l = some l := by
  unfold impl_copyInts.f
  simp only [Option.bind_some, List.length_nil, Nat.zero_add, List.nil_append]
  rw [if_pos (by omega)]

end Go.Proofs.Ytanbgnjfllpkgaa.Pure
