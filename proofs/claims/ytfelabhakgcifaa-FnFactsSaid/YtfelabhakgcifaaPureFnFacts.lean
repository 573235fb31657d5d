/- The pure statement of the law FnFacts: the program's function and the reference's agree, for all arguments within the row's bounds. -/
import Derived.Test.YtfelabhakgcifaaQFnFactsx0
import Derived.Test.YtfelabhakgcifaaQFnFactsx1
import Derived.Test.YtfelabhakgcifaaQFnFactsx2
import Derived.Test.YtfelabhakgcifaaQFnFactsx3
import Derived.Test.YtfelabhakgcifaaQFnFactsx4
import Derived.Test.YtfelabhakgcifaaQFnFactsx5
import Derived.Test.YtfelabhakgcifaaQFnFactsx6
import Derived.Test.YtfelabhakgcifaaQFnFactsx7
import Derived.Test.YtfelabhakgcifaaQFnFactsx8
import Derived.Test.YtfelabhakgcifaaQFnFactsx9
import Derived.Test.YtfelabhakgcifaaQFnFactsx10
import Derived.Test.YtfelabhakgcifaaQFnFactsx11
import Derived.Test.YtfelabhakgcifaaQFnFactsx12
import Derived.Test.YtfelabhakgcifaaQFnFactsx13
import Derived.Test.YtfelabhakgcifaaQFnFactsx14
import Derived.Test.YtfelabhakgcifaaQFnFactsx15
import Derived.Test.YtfelabhakgcifaaVFnFactsMine
import Derived.Test.YtfelabhakgcifaaVFnFactsOpen
set_option linter.unusedVariables false
set_option linter.unusedSimpArgs false
namespace Go.Proofs.Ytfelabhakgcifaa.Pure
open Go.RowKit Go.Proofs.Ytfelabhakgcifaa.QFnFacts Go.Proofs.YtfelabhakgcifaaW.PrintWords Go.Proofs.YtfelabhakgcifaaW.PrintLast Go.Proofs.Ytfelabhakgcifaa.Mine Go.Proofs.Ytfelabhakgcifaa.Open

theorem l1In_eq (x lo hi : Int) : spec_l1In.f x lo hi = some (decide (lo ≤ x ∧ x ≤ hi)) := by
  unfold spec_l1In.f
  by_cases h : x ≥ lo
  · rw [if_pos h]; congr 1; simp; omega
  · rw [if_neg h]; congr 1; simp; omega
theorem within_eq (x lo hi : Int) : impl_within.f x lo hi = some (decide (lo ≤ x ∧ x ≤ hi)) := by
  unfold impl_within.f
  by_cases h : x ≥ lo
  · rw [if_pos h]; congr 1; simp; omega
  · rw [if_neg h]; congr 1; simp; omega
/-! ### Terms -/
/-! ### IsSchema -/
theorem specSchema_ev (l : List Int) (h : l.length ≤ 140737488355328) : Ev (fun k => spec_IsSchema.f k l) (mIsSchema l) := by
  have key := idx_ind l (fun pre suf => Ev (fun k => spec_IsSchema.l0 k (pre.length : Int) l) (suf.all (fun n => decide (1 ≤ n ∧ n ≤ 3)) && decide (1 ≤ (l.length : Int) ∧ (l.length : Int) ≤ 4))) ?_ ?_
  · exact key
  · refine evn fun k => ?_
    simp only [spec_IsSchema.l0]
    rw [if_neg (end_not _), l1In_eq]
    simp
  · intro pre a suf e ih
    by_cases hp : 1 ≤ a ∧ a ≤ 3
    · have ht : ((a :: suf).all (fun n => decide (1 ≤ n ∧ n ≤ 3)) && decide (1 ≤ (l.length : Int) ∧ (l.length : Int) ≤ 4)) = (suf.all (fun n => decide (1 ≤ n ∧ n ≤ 3)) && decide (1 ≤ (l.length : Int) ∧ (l.length : Int) ≤ 4)) := by simp [hp]
      rw [ht]
      refine Ev.step (fun k => ?_) ih
      simp only [spec_IsSchema.l0]
      rw [if_pos (lt_of e), if_pos (len_nonneg _), rd_of e, l1In_eq, nx_of e h]
      simp [hp]
    · have ht : ((a :: suf).all (fun n => decide (1 ≤ n ∧ n ≤ 3)) && decide (1 ≤ (l.length : Int) ∧ (l.length : Int) ≤ 4)) = false := by simp [hp]
      rw [ht]
      refine evn fun k => ?_
      simp only [spec_IsSchema.l0]
      rw [if_pos (lt_of e), if_pos (len_nonneg _), rd_of e, l1In_eq]
      simp [hp]
theorem implSchema_ev (l : List Int) (h : l.length ≤ 140737488355328) : Ev (fun k => impl_IsSchema.f k l) (mIsSchema l) := by
  have key := idx_ind l (fun pre suf => Ev (fun k => impl_IsSchema.l0 k l (l.length : Int) (pre.length : Int) l) (suf.all (fun n => decide (1 ≤ n ∧ n ≤ 3)) && decide (1 ≤ (l.length : Int) ∧ (l.length : Int) ≤ 4))) ?_ ?_
  · exact key
  · refine evn fun k => ?_
    simp only [impl_IsSchema.l0]
    rw [if_neg (end_not _), within_eq]
    simp
  · intro pre a suf e ih
    by_cases hp : 1 ≤ a ∧ a ≤ 3
    · have ht : ((a :: suf).all (fun n => decide (1 ≤ n ∧ n ≤ 3)) && decide (1 ≤ (l.length : Int) ∧ (l.length : Int) ≤ 4)) = (suf.all (fun n => decide (1 ≤ n ∧ n ≤ 3)) && decide (1 ≤ (l.length : Int) ∧ (l.length : Int) ≤ 4)) := by simp [hp]
      rw [ht]
      refine Ev.step (fun k => ?_) ih
      simp only [impl_IsSchema.l0]
      rw [if_pos (lt_of e), if_pos (len_nonneg _), if_pos (lt_of e), rd_of e, within_eq, nx_of e h]
      simp [hp]
    · have ht : ((a :: suf).all (fun n => decide (1 ≤ n ∧ n ≤ 3)) && decide (1 ≤ (l.length : Int) ∧ (l.length : Int) ≤ 4)) = false := by simp [hp]
      rw [ht]
      refine evn fun k => ?_
      simp only [impl_IsSchema.l0]
      rw [if_pos (lt_of e), if_pos (len_nonneg _), if_pos (lt_of e), rd_of e, within_eq]
      simp [hp]
theorem areValues_ev (l : List Int) (h : l.length ≤ 140737488355328) : Ev (fun k => impl_areValues.f k l) (l.all (fun x => decide (0 ≤ x ∧ x ≤ 99))) := by
  refine idx_ind l (fun pre suf => Ev (fun k => impl_areValues.l0 k l (l.length : Int) (pre.length : Int)) (suf.all (fun x => decide (0 ≤ x ∧ x ≤ 99)))) ?_ ?_
  · refine evn fun k => ?_
    simp only [impl_areValues.l0]
    rw [if_neg (end_not _)]; rfl
  · intro pre a suf e ih
    by_cases hp : 0 ≤ a ∧ a ≤ 99
    · rw [show (a :: suf).all (fun x => decide (0 ≤ x ∧ x ≤ 99)) = suf.all (fun x => decide (0 ≤ x ∧ x ≤ 99)) by simp [hp]]
      refine Ev.step (fun k => ?_) ih
      simp only [impl_areValues.l0]
      rw [if_pos (lt_of e), if_pos (len_nonneg _), if_pos (lt_of e), rd_of e, within_eq, nx_of e h]
      simp [hp]
    · rw [show (a :: suf).all (fun x => decide (0 ≤ x ∧ x ≤ 99)) = false by simp [hp]]
      refine evn fun k => ?_
      simp only [impl_areValues.l0]
      rw [if_pos (lt_of e), if_pos (len_nonneg _), if_pos (lt_of e), rd_of e, within_eq]
      simp [hp]
theorem implTakes_ev (s : List Int) (r n : Int) (hs : s.length ≤ 140737488355328) : Ev (fun k => impl_Schema_takes.f k s r n) (mTakes s r n) := by
  unfold impl_Schema_takes.f mTakes
  refine evb (implSchema_ev s hs) ?_
  by_cases c1 : mIsSchema s = true
  · simp only [c1, if_true, within_eq, Option.bind_some]
    rw [w64 (by omega) (by omega)]
    by_cases c2 : 0 ≤ r ∧ r < (s.length : Int)
    · have c2' : 0 ≤ r ∧ r ≤ (s.length : Int) - 1 := by omega
      rw [show decide (0 ≤ r ∧ r < (s.length : Int)) = true from decide_eq_true c2]
      simp only [c2', and_self, decide_true, if_true, if_pos c2.1, if_pos c2.2]
      refine evc fun k => ?_
      simp only [Bool.true_and]
      rfl
    · have c2' : ¬ (0 ≤ r ∧ r ≤ (s.length : Int) - 1) := by omega
      simp only [c2', decide_false, Bool.false_eq_true, if_false]
      refine evc fun k => ?_
      rw [show decide (0 ≤ r ∧ r < (s.length : Int)) = false from decide_eq_false c2]
      simp
  · simp only [if_neg c1]
    refine evc fun k => ?_
    rw [show mIsSchema s = false by simpa using c1]
    simp
theorem specIsFact_l0 (r : Int) (l : List Int) (h : l.length ≤ 140737488355328) : Ev (fun k => spec_IsFact.l0 k 0 r l) (l.all (fun x => decide (0 ≤ x ∧ x ≤ 99))) := by
  refine idx_ind l (fun pre suf => Ev (fun k => spec_IsFact.l0 k (pre.length : Int) r l) (suf.all (fun x => decide (0 ≤ x ∧ x ≤ 99)))) ?_ ?_
  · refine evn fun k => ?_
    simp only [spec_IsFact.l0]
    rw [if_neg (end_not _)]; rfl
  · intro pre a suf e ih
    by_cases hp : 0 ≤ a ∧ a ≤ 99
    · rw [show (a :: suf).all (fun x => decide (0 ≤ x ∧ x ≤ 99)) = suf.all (fun x => decide (0 ≤ x ∧ x ≤ 99)) by simp [hp]]
      refine Ev.step (fun k => ?_) ih
      simp only [spec_IsFact.l0]
      rw [if_pos (lt_of e), if_pos (len_nonneg _), rd_of e, l1In_eq, nx_of e h]
      simp [hp]
    · rw [show (a :: suf).all (fun x => decide (0 ≤ x ∧ x ≤ 99)) = false by simp [hp]]
      refine evn fun k => ?_
      simp only [spec_IsFact.l0]
      rw [if_pos (lt_of e), if_pos (len_nonneg _), rd_of e, l1In_eq]
      simp [hp]
theorem specIsFact_ev (s : List Int) (r : Int) (l : List Int) (hs : s.length ≤ 140737488355328) (h : l.length ≤ 140737488355328) : Ev (fun k => spec_IsFact.f k s r l) (mIsFact s r l) := by
  unfold spec_IsFact.f mIsFact mTakes
  refine evb (specSchema_ev s hs) ?_
  have jt : Ev (fun k => spec_IsFact.j0 k true r l) false := evn fun k => by simp only [spec_IsFact.j0]; rw [if_pos trivial]
  by_cases c1 : mIsSchema s = true
  · simp only [c1, if_true, l1In_eq, Option.bind_some]
    rw [w64 (by omega) (by omega)]
    by_cases c2 : 0 ≤ r ∧ r < (s.length : Int)
    · have c2' : 0 ≤ r ∧ r ≤ (s.length : Int) - 1 := by omega
      rw [show decide (0 ≤ r ∧ r < (s.length : Int)) = true from decide_eq_true c2]
      simp only [c2', and_self, decide_true, if_true, if_pos c2.1, if_pos c2.2]
      by_cases c3 : rd s r = (l.length : Int)
      · rw [c3]
        simp only [bne_self_eq_false, decide_true, Bool.true_and]
        refine Ev.step (fun k => ?_) (specIsFact_l0 r l h)
        simp only [spec_IsFact.j0]
        rw [if_neg (by simp)]
      · rw [show ((l.length : Int) != rd s r) = true by simp; omega, show decide (rd s r = (l.length : Int)) = false from decide_eq_false c3]
        simpa using jt
    · have c2' : ¬ (0 ≤ r ∧ r ≤ (s.length : Int) - 1) := by omega
      simp only [c2', decide_false, Bool.false_eq_true, if_false]
      rw [show decide (0 ≤ r ∧ r < (s.length : Int)) = false from decide_eq_false c2]
      simpa using jt
  · simp only [if_neg c1]
    rw [show mIsSchema s = false by simpa using c1]
    simpa using jt
theorem implIsFact_ev (s : List Int) (r : Int) (l : List Int) (hs : s.length ≤ 140737488355328) (h : l.length ≤ 140737488355328) : Ev (fun k => impl_IsFact.f k s r l) (mIsFact s r l) := by
  unfold impl_IsFact.f mIsFact
  refine evb (implTakes_ev s r _ hs) ?_
  by_cases c : mTakes s r (l.length : Int) = true
  · simp only [c, if_true, Bool.true_and]
    refine evb (areValues_ev l h) ?_
    exact evc fun k => rfl
  · simp only [if_neg c]
    refine evc fun k => ?_
    rw [show mTakes s r (l.length : Int) = false by simpa using c]
    simp
/-! ### A copy of a list -/
/-! ### Equal lists -/
/-! ### Lists of facts -/
theorem rdIF_of {l pre suf : List S37} {a : S37} (e : l = pre ++ a :: suf) : rd_T37 l (pre.length : Int) = a := getD_of e _
theorem l2Less_ev (l m : List Int) (h : l.length ≤ 140737488355328) : Ev (fun k => spec_l2Less.f k l m) (mLess l m) := by
  have key := idx_ind l (fun pre suf => ∀ pre2 suf2, m = pre2 ++ suf2 → pre2.length = pre.length → Ev (fun k => spec_l2Less.l0 k l m (pre.length : Int)) (mLess suf suf2)) ?_ ?_
  · exact key [] m rfl rfl
  · intro pre2 suf2 e2 hp
    have e3 : mLess [] suf2 = decide ((l.length : Int) < (m.length : Int)) := by
      rw [e2]
      cases suf2 with
      | nil => simp [mLess]; omega
      | cons b t => simp [mLess]; omega
    rw [e3]
    refine Ev.step (f := fun k => spec_l2Less.j1 k l m (l.length : Int) false) (fun k => ?_) (evn fun k => ?_)
    · simp only [spec_l2Less.l0]
      rw [if_neg (end_not _)]
    · simp only [spec_l2Less.j1]
      rw [if_neg (by simp)]
  · intro pre a suf e ih pre2 suf2 e2 hp
    cases suf2 with
    | nil =>
      have hml : m.length = pre.length := by rw [e2]; simp [hp]
      have hlm : ¬ ((l.length : Int) < (m.length : Int)) := by have := lt_of e; omega
      refine Ev.step (f := fun k => spec_l2Less.j1 k l m (pre.length : Int) false) (fun k => ?_) (evn fun k => ?_)
      · simp only [spec_l2Less.l0]
        rw [if_pos (lt_of e), decide_eq_false (by omega)]
      · simp only [spec_l2Less.j1]
        rw [if_neg (by simp), decide_eq_false hlm]; rfl
    | cons b t2 =>
      have r2 : rd m (pre.length : Int) = b := by rw [← hp]; exact rd_of e2
      have l2 : (pre.length : Int) < (m.length : Int) := by rw [← hp]; exact lt_of e2
      refine Ev.step (f := fun k => spec_l2Less.j1 k l m (pre.length : Int) true) (fun k => ?_) ?_
      · simp only [spec_l2Less.l0]
        rw [if_pos (lt_of e), decide_eq_true l2]
      · by_cases hab : a = b
        · have em : mLess (a :: suf) (b :: t2) = mLess suf t2 := by rw [mLess, if_pos hab]
          rw [em]
          have r := ih (pre2 ++ [b]) t2 (by rw [e2]; simp) (by simp [hp])
          refine Ev.step (fun k => ?_) r
          simp only [spec_l2Less.j1]
          rw [if_pos trivial, if_pos (len_nonneg _), if_pos (lt_of e), if_pos l2, rd_of e, r2, if_pos hab, nx_of e h]
        · have em : mLess (a :: suf) (b :: t2) = decide (a < b) := by rw [mLess, if_neg hab]
          rw [em]
          refine evn fun k => ?_
          simp only [spec_l2Less.j1]
          rw [if_pos trivial, if_pos (len_nonneg _), if_pos (lt_of e), if_pos l2, rd_of e, r2, if_neg hab]
theorem cmpInt_eq (a b : Int) : cmp_Compare_int.f a b = some (if a < b then -1 else if a > b then 1 else 0) := by
  unfold cmp_Compare_int.f cmp_isNaN_int.f
  simp only [bne_self_eq_false, Option.bind_some, Bool.false_eq_true, if_false]
  by_cases h1 : a < b
  · rw [if_pos h1, if_pos h1]
  · rw [if_neg h1, if_neg h1]
    by_cases h2 : a > b
    · rw [if_pos h2, if_pos h2]
    · rw [if_neg h2, if_neg h2]
theorem slCompare_ev (l m : List Int) (h : l.length ≤ 140737488355328) : Ev (fun k => slices_Compare_int_int.f k l m) (mCmp l m) := by
  have key := idx_ind l (fun pre suf => ∀ pre2 suf2, m = pre2 ++ suf2 → pre2.length = pre.length → Ev (fun k => slices_Compare_int_int.l0 k l m l (l.length : Int) (pre.length : Int)) (mCmp suf suf2)) ?_ ?_
  · exact key [] m rfl rfl
  · intro pre2 suf2 e2 hp
    refine evn fun k => ?_
    simp only [slices_Compare_int_int.l0]
    rw [if_neg (end_not _)]
    cases suf2 with
    | nil => rw [if_neg (by rw [e2]; simp; omega)]; rfl
    | cons b t => rw [if_pos (by rw [e2]; simp; omega)]; rfl
  · intro pre a suf e ih pre2 suf2 e2 hp
    cases suf2 with
    | nil =>
      have hml : m.length = pre.length := by rw [e2]; simp [hp]
      refine evn fun k => ?_
      simp only [slices_Compare_int_int.l0]
      rw [if_pos (lt_of e), if_pos (len_nonneg _), if_pos (lt_of e), if_pos (by omega)]; rfl
    | cons b t2 =>
      have r2 : rd m (pre.length : Int) = b := by rw [← hp]; exact rd_of e2
      have l2 : (pre.length : Int) < (m.length : Int) := by rw [← hp]; exact lt_of e2
      by_cases h1 : a < b
      · refine evn fun k => ?_
        simp only [slices_Compare_int_int.l0]
        rw [if_pos (lt_of e), if_pos (len_nonneg _), if_pos (lt_of e), if_neg (by omega), if_pos l2, rd_of e, r2, cmpInt_eq]
        simp only [Option.bind_some, if_pos h1, mCmp]; rfl
      · by_cases h2 : a > b
        · refine evn fun k => ?_
          simp only [slices_Compare_int_int.l0]
          rw [if_pos (lt_of e), if_pos (len_nonneg _), if_pos (lt_of e), if_neg (by omega), if_pos l2, rd_of e, r2, cmpInt_eq]
          simp only [Option.bind_some, if_neg h1, if_pos h2, mCmp]; rfl
        · have em : mCmp (a :: suf) (b :: t2) = mCmp suf t2 := by rw [mCmp, if_neg h1, if_neg h2]
          rw [em]
          have r := ih (pre2 ++ [b]) t2 (by rw [e2]; simp) (by simp [hp])
          refine Ev.step (fun k => ?_) r
          simp only [slices_Compare_int_int.l0]
          rw [if_pos (lt_of e), if_pos (len_nonneg _), if_pos (lt_of e), if_neg (by omega), if_pos l2, rd_of e, r2, cmpInt_eq]
          simp only [Option.bind_some, if_neg h1, if_neg h2, if_true]
          rw [nx_of e h]
/-! ### IsDatabase -/
def mFLess (a b : S37) : Bool := if a.f0 = b.f0 then mLess a.f1 b.f1 else decide (a.f0 < b.f0)
def mDb (s : List Int) : Option S37 → List S37 → Bool
  | _, [] => true
  | none, x :: t => mIsFact s x.f0 x.f1 && mDb s (some x) t
  | some p, x :: t => mIsFact s x.f0 x.f1 && (mFLess p x && mDb s (some x) t)
def mIsDb (s : List Int) (d : List S37) : Bool := mDb s none d && (mIsSchema s && decide ((d.length : Int) ≤ 24))
theorem l5Less_ev (a b : S37) (h : a.f1.length ≤ 140737488355328) : Ev (fun k => spec_l5Less.f k a.f0 a.f1 b.f0 b.f1) (mFLess a b) := by
  unfold spec_l5Less.f mFLess
  by_cases hr : a.f0 = b.f0
  · simp only [if_pos hr]
    exact evb (l2Less_ev a.f1 b.f1 h) (evc fun k => rfl)
  · simp only [if_neg hr]
    exact evc fun k => rfl
def mCmpF (a b : S37) : Int := if a.f0 < b.f0 then -1 else if a.f0 > b.f0 then 1 else mCmp a.f1 b.f1
theorem cmpF_ev (a b : S37) (h : a.f1.length ≤ 140737488355328) : Ev (fun k => impl_compareFacts.f k a.f0 a.f1 b.f0 b.f1) (mCmpF a b) := by
  unfold impl_compareFacts.f mCmpF
  by_cases h1 : a.f0 < b.f0
  · simp only [if_pos h1]; exact evc fun k => rfl
  · simp only [if_neg h1]
    by_cases h2 : a.f0 > b.f0
    · simp only [if_pos h2]; exact evc fun k => rfl
    · simp only [if_neg h2]
      exact evb (slCompare_ev a.f1 b.f1 h) (evc fun k => rfl)
theorem cmpF_less (a b : S37) : mCmpF a b ≥ 0 ↔ mFLess a b = false := by
  unfold mCmpF mFLess
  by_cases h1 : a.f0 < b.f0
  · rw [if_pos h1, if_neg (by omega)]; simp [h1]
  · rw [if_neg h1]
    by_cases h2 : a.f0 > b.f0
    · rw [if_pos h2, if_neg (by omega)]; simp [h1]
    · rw [if_neg h2, if_pos (by omega), ← mCmp_neg]
      simp
theorem rd_last {l pre suf : List S37} {p a : S37} (e : l = (pre ++ [p]) ++ a :: suf) (h : l.length ≤ 1048576) : wrap64 (((pre ++ [p]).length : Int) - 1) = (pre.length : Int) ∧ rd_T37 l (pre.length : Int) = p := by
  constructor
  · have : pre.length ≤ 1048576 := by rw [e] at h; simp at h; omega
    rw [w64 (by simp <;> omega) (by simp <;> omega)]; simp
  · exact rdIF_of (suf := a :: suf) (by rw [e]; simp)
theorem specIsDb_ev (s : List Int) (d : List S37) (hs : s.length ≤ 1048576) (hl : d.length ≤ 1048576) (hd : ∀ x ∈ d, x.f1.length ≤ 1048576) : Ev (fun k => spec_IsDatabase.f k s d) (mIsDb s d) := by
  have key := idx_ind d (fun pre suf => Ev (fun k => spec_IsDatabase.l0 k d (pre.length : Int) s) (mDb s pre.getLast? suf && (mIsSchema s && decide ((d.length : Int) ≤ 24)))) ?_ ?_
  · exact key
  · rw [show mDb s d.getLast? [] = true by cases d.getLast? <;> rfl, Bool.true_and]
    refine Ev.step (f := fun k => (spec_IsSchema.f k s).bind fun t => if t = true then some (decide ((d.length : Int) ≤ 24)) else some false) (fun k => ?_) ?_
    · simp only [spec_IsDatabase.l0]
      rw [if_neg (end_not _)]
    · refine evb (specSchema_ev s (by omega)) ?_
      refine evc fun k => ?_
      cases mIsSchema s <;> simp
  · intro pre x suf e ih
    have hx : x.f1.length ≤ 1048576 := hd x (by rw [e]; simp)
    rw [List.getLast?_concat] at ih
    rcases List.eq_nil_or_concat pre with h0 | ⟨L, p, h0⟩
    · subst h0
      refine Ev.step (f := fun k => (spec_IsFact.f k s x.f0 x.f1).bind fun t => if t = true then spec_IsDatabase.l0 k d (([] ++ [x] : List S37).length : Int) s else some false) (fun k => ?_) ?_
      · simp only [spec_IsDatabase.l0]
        rw [if_pos (lt_of e), if_pos (len_nonneg _), rdIF_of e, nx_of e (by omega)]
        simp
      · refine evb (specIsFact_ev s x.f0 x.f1 (by omega) (by omega)) ?_
        rw [List.getLast?_nil, mDb]
        by_cases c : mIsFact s x.f0 x.f1 = true
        · simp only [c, if_true, Bool.true_and]; exact ih
        · simp only [if_neg c]
          rw [show mIsFact s x.f0 x.f1 = false by simpa using c]
          exact evc fun k => rfl
    · rw [List.concat_eq_append] at h0
      subst h0
      obtain ⟨e1, e2⟩ := rd_last e hl
      have hp : p.f1.length ≤ 1048576 := hd p (by rw [e]; simp)
      refine Ev.step (f := fun k => (spec_IsFact.f k s x.f0 x.f1).bind fun t => if t = true then ((spec_l5Less.f k p.f0 p.f1 x.f0 x.f1).bind fun u => if u = true then spec_IsDatabase.l0 k d ((L ++ [p] ++ [x]).length : Int) s else some false) else some false) (fun k => ?_) ?_
      · simp only [spec_IsDatabase.l0]
        have z0 : ((L ++ [p]).length : Int) > 0 := by simp <;> omega
        have z1 : (L.length : Int) < (d.length : Int) := by rw [e]; simp; omega
        rw [if_pos (lt_of e), if_pos (len_nonneg _), rdIF_of e, nx_of e (by omega), e1, e2]
        simp only [if_pos z0, if_pos (len_nonneg L), if_pos z1]
      · refine evb (specIsFact_ev s x.f0 x.f1 (by omega) (by omega)) ?_
        rw [List.getLast?_concat, mDb]
        by_cases c : mIsFact s x.f0 x.f1 = true
        · simp only [c, if_true, Bool.true_and]
          refine evb (l5Less_ev p x (by omega)) ?_
          by_cases c2 : mFLess p x = true
          · simp only [c2, if_true, Bool.true_and]; exact ih
          · simp only [if_neg c2]
            rw [show mFLess p x = false by simpa using c2]
            exact evc fun k => rfl
        · simp only [if_neg c]
          rw [show mIsFact s x.f0 x.f1 = false by simpa using c]
          exact evc fun k => rfl
theorem implIsDb_ev (s : List Int) (d : List S37) (hs : s.length ≤ 1048576) (hl : d.length ≤ 1048576) (hd : ∀ x ∈ d, x.f1.length ≤ 1048576) : Ev (fun k => impl_IsDatabase.f k s d) (mIsDb s d) := by
  have key := idx_ind d (fun pre suf => Ev (fun k => impl_IsDatabase.l0 k d d (d.length : Int) (pre.length : Int) s) (mDb s pre.getLast? suf && (mIsSchema s && decide ((d.length : Int) ≤ 24)))) ?_ ?_
  · exact key
  · rw [show mDb s d.getLast? [] = true by cases d.getLast? <;> rfl, Bool.true_and]
    refine Ev.step (f := fun k => (impl_IsSchema.f k s).bind fun t => if t = true then some (decide ((d.length : Int) ≤ 24)) else some false) (fun k => ?_) ?_
    · simp only [impl_IsDatabase.l0]
      rw [if_neg (end_not _)]
    · refine evb (implSchema_ev s (by omega)) ?_
      refine evc fun k => ?_
      cases mIsSchema s <;> simp
  · intro pre x suf e ih
    have hx : x.f1.length ≤ 1048576 := hd x (by rw [e]; simp)
    rw [List.getLast?_concat] at ih
    rcases List.eq_nil_or_concat pre with h0 | ⟨L, p, h0⟩
    · subst h0
      refine Ev.step (f := fun k => (impl_IsFact.f k s x.f0 x.f1).bind fun t => if t = true then impl_IsDatabase.l0 k d d (d.length : Int) (([] ++ [x] : List S37).length : Int) s else some false) (fun k => ?_) ?_
      · simp only [impl_IsDatabase.l0]
        rw [if_pos (lt_of e), if_pos (len_nonneg _), if_pos (lt_of e), rdIF_of e, nx_of e (by omega)]
        simp
      · refine evb (implIsFact_ev s x.f0 x.f1 (by omega) (by omega)) ?_
        rw [List.getLast?_nil, mDb]
        by_cases c : mIsFact s x.f0 x.f1 = true
        · simp only [c, if_true, Bool.true_and]; exact ih
        · simp only [if_neg c]
          rw [show mIsFact s x.f0 x.f1 = false by simpa using c]
          exact evc fun k => rfl
    · rw [List.concat_eq_append] at h0
      subst h0
      obtain ⟨e1, e2⟩ := rd_last e hl
      have hp : p.f1.length ≤ 1048576 := hd p (by rw [e]; simp)
      refine Ev.step (f := fun k => (impl_IsFact.f k s x.f0 x.f1).bind fun t => if t = true then ((impl_compareFacts.f k p.f0 p.f1 x.f0 x.f1).bind fun u => if u ≥ 0 then some false else impl_IsDatabase.l0 k d d (d.length : Int) ((L ++ [p] ++ [x]).length : Int) s) else some false) (fun k => ?_) ?_
      · simp only [impl_IsDatabase.l0]
        have z0 : ((L ++ [p]).length : Int) > 0 := by simp <;> omega
        have z1 : (L.length : Int) < (d.length : Int) := by rw [e]; simp; omega
        rw [if_pos (lt_of e), if_pos (len_nonneg _), if_pos (lt_of e), rdIF_of e, nx_of e (by omega), e1, e2]
        simp only [if_pos z0, if_pos (len_nonneg L), if_pos z1]
      · refine evb (implIsFact_ev s x.f0 x.f1 (by omega) (by omega)) ?_
        rw [List.getLast?_concat, mDb]
        by_cases c : mIsFact s x.f0 x.f1 = true
        · simp only [c, if_true, Bool.true_and]
          refine evb (cmpF_ev p x (by omega)) ?_
          by_cases c2 : mFLess p x = true
          · have n2 : ¬ mCmpF p x ≥ 0 := by rw [cmpF_less, c2]; simp
            simp only [if_neg n2, c2, Bool.true_and]; exact ih
          · have f2 : mFLess p x = false := by simpa using c2
            simp only [if_pos ((cmpF_less p x).2 f2), f2]
            exact evc fun k => rfl
        · simp only [if_neg c]
          rw [show mIsFact s x.f0 x.f1 = false by simpa using c]
          exact evc fun k => rfl
theorem copyInts_eq (l : List Int) (h : l.length ≤ 1048576) : impl_copyInts.f l = some l := by
  unfold impl_copyInts.f
  simp only [Option.bind_some, List.length_nil, Nat.zero_add, List.nil_append]
  rw [if_pos (by omega)]
/-! ### Copies of facts -/
theorem copyFact_eq (r : Int) (l : List Int) (h : l.length ≤ 1048576) : impl_copyFact.f r l = some (r, l) := by
  unfold impl_copyFact.f
  rw [copyInts_eq l h]; rfl
theorem l5Copy_eq (r : Int) (l : List Int) (h : l.length ≤ 1048576) : spec_l5Copy.f r l = some (r, l) := by
  unfold spec_l5Copy.f
  simp only [Option.bind_some, List.length_nil, Nat.zero_add, List.nil_append]
  rw [if_pos (by omega)]
theorem copyFacts_ev (d : List S37) (hl : d.length ≤ 1048576) (hs : ∀ x ∈ d, x.f1.length ≤ 1048576) : Ev (fun k => impl_copyFacts.f k d) d := by
  refine idx_ind d (fun pre suf => Ev (fun k => impl_copyFacts.l0 k pre d (d.length : Int) (pre.length : Int)) d) ?_ ?_
  · refine evn fun k => ?_
    simp only [impl_copyFacts.l0]
    rw [if_neg (end_not _)]
  · intro pre x suf e ih
    have hx : x.f1.length ≤ 1048576 := hs x (by rw [e]; simp)
    have hp : pre.length < 4398046511104 := by rw [e] at hl; simp at hl; omega
    refine Ev.step (fun k => impl_copyFacts.l0.eq_2 ..) ?_
    simp only [if_pos (lt_of e), if_pos (len_nonneg _), rdIF_of e, nx_of e (by omega), copyFact_eq x.f0 x.f1 hx, Option.bind_some, if_pos hp]
    exact ih
theorem l5All_ev (d : List S37) (hl : d.length ≤ 1048576) (hs : ∀ x ∈ d, x.f1.length ≤ 1048576) : Ev (fun k => spec_l5All.f k d) d := by
  refine idx_ind d (fun pre suf => Ev (fun k => spec_l5All.l0 k d pre (pre.length : Int)) d) ?_ ?_
  · refine evn fun k => ?_
    simp only [spec_l5All.l0]
    rw [if_neg (end_not _)]
  · intro pre x suf e ih
    have hx : x.f1.length ≤ 1048576 := hs x (by rw [e]; simp)
    have hp : pre.length < 4398046511104 := by rw [e] at hl; simp at hl; omega
    refine Ev.step (fun k => spec_l5All.l0.eq_2 ..) ?_
    simp only [if_pos (lt_of e), if_pos (len_nonneg _), rdIF_of e, nx_of e (by omega), l5Copy_eq x.f0 x.f1 hx, Option.bind_some, if_pos hp]
    exact ih
/-! ### Strict total orders, and what a sort leaves -/
structure Tot {α : Type} (lt : α → α → Bool) : Prop where
  irr : ∀ a, lt a a = false
  tr : ∀ a b c, lt a b = true → lt b c = true → lt a c = true
  cn : ∀ a b, lt a b = false → lt b a = false → a = b
theorem Tot.asym {α : Type} {lt : α → α → Bool} (h : Tot lt) {a b : α} (e : lt a b = true) : lt b a = false := by
  cases e2 : lt b a
  · rfl
  · have := h.tr a b a e e2; rw [h.irr] at this; cases this
theorem Tot.nt {α : Type} {lt : α → α → Bool} (h : Tot lt) (a b c : α) (h1 : lt a b = false) (h2 : lt b c = false) : lt a c = false := by
  cases e : lt a c
  · rfl
  · cases e2 : lt b a
    · have := h.cn a b h1 e2; subst this; rw [e] at h2; cases h2
    · have := h.tr b a c e2 e; rw [this] at h2; cases h2
theorem Tot.sort {α : Type} {lt : α → α → Bool} (h : Tot lt) {l l' : List α} (hp : l'.Perm l) (hs : l'.Pairwise (fun x y => lt y x = false)) : l.mergeSort (fun x y => !lt y x) = l' := by
  refine (List.Perm.eq_of_pairwise (le := fun x y => (!lt y x) = true) ?_ ?_ ?_ (hp.trans (List.mergeSort_perm _ _).symm)).symm
  · intro a b _ _ h1 h2
    simp only [Bool.not_eq_true'] at h1 h2
    exact h.cn a b h2 h1
  · exact hs.imp (fun h => by simp [h])
  · refine List.pairwise_mergeSort ?_ ?_ l
    · intro a b c h1 h2
      simp only [Bool.not_eq_true'] at h1 h2 ⊢
      exact h.nt c b a h2 h1
    · intro a b
      cases e : lt b a
      · simp
      · simp [h.asym e]
theorem mLess_irr : ∀ s : List Int, mLess s s = false
  | [] => rfl
  | a :: s => by simp [mLess, mLess_irr s]
theorem mLess_tr : ∀ a b c : List Int, mLess a b = true → mLess b c = true → mLess a c = true
  | [], [], _, h, _ => by simp [mLess] at h
  | [], _ :: _, [], _, h => by simp [mLess] at h
  | [], _ :: _, _ :: _, _, _ => rfl
  | _ :: _, [], _, h, _ => by simp [mLess] at h
  | _ :: _, _ :: _, [], _, h => by simp [mLess] at h
  | x :: a, y :: b, z :: c, h1, h2 => by
    simp only [mLess] at h1 h2 ⊢
    by_cases e1 : x = y
    · subst e1
      rw [if_pos rfl] at h1
      by_cases e2 : x = z
      · rw [if_pos e2] at h2 ⊢; exact mLess_tr a b c h1 h2
      · rw [if_neg e2] at h2 ⊢; exact h2
    · rw [if_neg e1] at h1
      by_cases e2 : y = z
      · subst e2; rw [if_neg e1]; exact h1
      · rw [if_neg e2] at h2
        have p1 := of_decide_eq_true h1
        have p2 := of_decide_eq_true h2
        rw [if_neg (by omega)]; exact decide_eq_true (by omega)
theorem mLess_cn : ∀ a b : List Int, mLess a b = false → mLess b a = false → a = b
  | [], [], _, _ => rfl
  | [], _ :: _, h, _ => by simp [mLess] at h
  | _ :: _, [], _, h => by simp [mLess] at h
  | x :: a, y :: b, h1, h2 => by
    simp only [mLess] at h1 h2
    by_cases e1 : x = y
    · subst e1
      rw [if_pos rfl] at h1 h2
      rw [mLess_cn a b h1 h2]
    · rw [if_neg e1] at h1
      rw [if_neg (fun h => e1 h.symm)] at h2
      have p1 := of_decide_eq_false h1
      have p2 := of_decide_eq_false h2
      omega
theorem l2Ints_ev (l m : List Int) (h : l.length ≤ 140737488355328) : Ev (fun k => spec_l2Ints.f k l m) (decide (l = m)) := by
  by_cases hl : l.length = m.length
  · have key := idx_ind l (fun pre suf => ∀ pre2 suf2, m = pre2 ++ suf2 → pre2.length = pre.length → Ev (fun k => spec_l2Ints.l0 k l m (pre.length : Int)) (decide (suf = suf2))) ?_ ?_
    · have r := key [] m rfl rfl
      refine Ev.congr (fun k => ?_) r
      unfold spec_l2Ints.f
      rw [if_pos (by omega)]
      rfl
    · intro pre2 suf2 e2 hp
      have : suf2 = [] := by
        have := congrArg List.length e2
        simp at this
        exact List.eq_nil_of_length_eq_zero (by omega)
      subst this
      refine evn fun k => ?_
      simp only [spec_l2Ints.l0]
      rw [if_neg (end_not _)]; simp
    · intro pre a suf e ih pre2 suf2 e2 hp
      obtain ⟨b, t2, rfl⟩ : ∃ b t2, suf2 = b :: t2 := by
        cases suf2 with
        | nil => exfalso; have h1 := congrArg List.length e; have h2 := congrArg List.length e2; simp at h1 h2; omega
        | cons b t2 => exact ⟨b, t2, rfl⟩
      have r2 : rd m (pre.length : Int) = b := by rw [← hp]; exact rd_of e2
      have l2 : (pre.length : Int) < (m.length : Int) := by rw [← hp]; exact lt_of e2
      by_cases hab : a = b
      · subst hab
        have r := ih (pre2 ++ [a]) t2 (by rw [e2]; simp) (by simp [hp])
        have ed : decide (a :: suf = a :: t2) = decide (suf = t2) := by simp
        rw [ed]
        refine Ev.step (fun k => ?_) r
        simp only [spec_l2Ints.l0]
        rw [if_pos (lt_of e), if_pos (len_nonneg _), if_pos l2, rd_of e, r2, if_pos rfl, nx_of e h]
      · have ed : decide (a :: suf = b :: t2) = false := by simp [hab]
        rw [ed]
        refine evn fun k => ?_
        simp only [spec_l2Ints.l0]
        rw [if_pos (lt_of e), if_pos (len_nonneg _), if_pos l2, rd_of e, r2, if_neg hab]
  · have e : decide (l = m) = false := by simp; intro h; exact hl (by rw [h])
    rw [e]
    refine evc fun k => ?_
    unfold spec_l2Ints.f
    rw [if_neg (by omega)]
theorem slEqual_ev (l m : List Int) (h : l.length ≤ 140737488355328) : Ev (fun k => slices_Equal_int_int.f k l m) (decide (l = m)) := by
  by_cases hl : l.length = m.length
  · have key := idx_ind l (fun pre suf => ∀ pre2 suf2, m = pre2 ++ suf2 → pre2.length = pre.length → Ev (fun k => slices_Equal_int_int.l0 k l m (l.length : Int) (pre.length : Int)) (decide (suf = suf2))) ?_ ?_
    · have r := key [] m rfl rfl
      refine Ev.congr (fun k => ?_) r
      unfold slices_Equal_int_int.f
      rw [if_pos (by omega)]
      rfl
    · intro pre2 suf2 e2 hp
      have : suf2 = [] := by
        have := congrArg List.length e2
        simp at this
        exact List.eq_nil_of_length_eq_zero (by omega)
      subst this
      refine evn fun k => ?_
      simp only [slices_Equal_int_int.l0]
      rw [if_neg (end_not _)]; simp
    · intro pre a suf e ih pre2 suf2 e2 hp
      obtain ⟨b, t2, rfl⟩ : ∃ b t2, suf2 = b :: t2 := by
        cases suf2 with
        | nil => exfalso; have h1 := congrArg List.length e; have h2 := congrArg List.length e2; simp at h1 h2; omega
        | cons b t2 => exact ⟨b, t2, rfl⟩
      have r2 : rd m (pre.length : Int) = b := by rw [← hp]; exact rd_of e2
      have l2 : (pre.length : Int) < (m.length : Int) := by rw [← hp]; exact lt_of e2
      by_cases hab : a = b
      · subst hab
        have r := ih (pre2 ++ [a]) t2 (by rw [e2]; simp) (by simp [hp])
        have ed : decide (a :: suf = a :: t2) = decide (suf = t2) := by simp
        rw [ed]
        refine Ev.step (fun k => ?_) r
        simp only [slices_Equal_int_int.l0]
        rw [if_pos (lt_of e), if_pos (len_nonneg _), if_pos (lt_of e), if_pos l2, rd_of e, r2, if_pos rfl, nx_of e h]
      · have ed : decide (a :: suf = b :: t2) = false := by simp [hab]
        rw [ed]
        refine evn fun k => ?_
        simp only [slices_Equal_int_int.l0]
        rw [if_pos (lt_of e), if_pos (len_nonneg _), if_pos (lt_of e), if_pos l2, rd_of e, r2, if_neg hab]
  · have e : decide (l = m) = false := by simp; intro h; exact hl (by rw [h])
    rw [e]
    refine evc fun k => ?_
    unfold slices_Equal_int_int.f
    rw [if_neg (by omega)]
theorem specEqFact_ev (r : Int) (l : List Int) (q : Int) (m : List Int) (h : l.length ≤ 140737488355328) : Ev (fun k => spec_l5Same.f k r l q m) (decide (r = q ∧ l = m)) := by
  unfold spec_l5Same.f
  by_cases hr : r = q
  · simp only [if_pos hr]
    refine evb (l2Ints_ev l m h) ?_
    refine evc fun k => ?_
    simp [hr]
  · simp only [if_neg hr]
    refine evc fun k => ?_
    simp [hr]
theorem implEqFact_ev (r : Int) (l : List Int) (q : Int) (m : List Int) (h : l.length ≤ 140737488355328) : Ev (fun k => impl_equalFact.f k r l q m) (decide (r = q ∧ l = m)) := by
  unfold impl_equalFact.f
  by_cases hr : r = q
  · simp only [if_pos hr]
    refine evb (slEqual_ev l m h) ?_
    refine evc fun k => ?_
    simp [hr]
  · simp only [if_neg hr]
    refine evc fun k => ?_
    simp [hr]
def mHas (d : List S37) (r : Int) (l : List Int) : Bool := d.any (fun x => decide (x.f0 = r ∧ x.f1 = l))
theorem specHasFact_ev (d : List S37) (r : Int) (l : List Int) (hl : d.length ≤ 1048576) (hs : ∀ x ∈ d, x.f1.length ≤ 1048576) : Ev (fun k => spec_HasFact.f k d r l) (mHas d r l) := by
  refine idx_ind d (fun pre suf => Ev (fun k => spec_HasFact.l0 k d (pre.length : Int) r l) (mHas suf r l)) ?_ ?_
  · refine evn fun k => ?_
    simp only [spec_HasFact.l0]
    rw [if_neg (end_not _)]; rfl
  · intro pre x suf e ih
    have hx : x.f1.length ≤ 1048576 := hs x (by rw [e]; simp)
    refine Ev.step (f := fun k => (spec_l5Same.f k x.f0 x.f1 r l).bind fun b => if b = true then some true else spec_HasFact.l0 k d ((pre ++ [x]).length : Int) r l) (fun k => ?_) ?_
    · simp only [spec_HasFact.l0]
      rw [if_pos (lt_of e), if_pos (len_nonneg _), rdIF_of e, nx_of e (by omega)]
    · refine evb (specEqFact_ev x.f0 x.f1 r l (by omega)) ?_
      by_cases c : x.f0 = r ∧ x.f1 = l
      · simp only [c, and_self, decide_true, if_true]
        rw [show mHas (x :: suf) r l = true by simp [mHas, c]]
        exact evc fun k => rfl
      · simp only [c, decide_false, Bool.false_eq_true, if_false]
        rw [show mHas (x :: suf) r l = mHas suf r l by simp [mHas, c]]
        exact ih
theorem implHasFact_ev (d : List S37) (r : Int) (l : List Int) (hl : d.length ≤ 1048576) (hs : ∀ x ∈ d, x.f1.length ≤ 1048576) : Ev (fun k => impl_HasFact.f k d r l) (mHas d r l) := by
  refine idx_ind d (fun pre suf => Ev (fun k => impl_HasFact.l0 k d (d.length : Int) (pre.length : Int) r l) (mHas suf r l)) ?_ ?_
  · refine evn fun k => ?_
    simp only [impl_HasFact.l0]
    rw [if_neg (end_not _)]; rfl
  · intro pre x suf e ih
    have hx : x.f1.length ≤ 1048576 := hs x (by rw [e]; simp)
    refine Ev.step (f := fun k => (impl_equalFact.f k x.f0 x.f1 r l).bind fun b => if b = true then some true else impl_HasFact.l0 k d (d.length : Int) ((pre ++ [x]).length : Int) r l) (fun k => ?_) ?_
    · simp only [impl_HasFact.l0]
      rw [if_pos (lt_of e), if_pos (len_nonneg _), if_pos (lt_of e), rdIF_of e, nx_of e (by omega)]
    · refine evb (implEqFact_ev x.f0 x.f1 r l (by omega)) ?_
      by_cases c : x.f0 = r ∧ x.f1 = l
      · simp only [c, and_self, decide_true, if_true]
        rw [show mHas (x :: suf) r l = true by simp [mHas, c]]
        exact evc fun k => rfl
      · simp only [c, decide_false, Bool.false_eq_true, if_false]
        rw [show mHas (x :: suf) r l = mHas suf r l by simp [mHas, c]]
        exact ih
/-! ### A fact put among facts -/
theorem mFLess_tot : Tot mFLess where
  irr a := by simp [mFLess, mLess_irr]
  tr a b c h1 h2 := by
    unfold mFLess at h1 h2 ⊢
    by_cases e1 : a.f0 = b.f0
    · rw [if_pos e1] at h1
      by_cases e2 : b.f0 = c.f0
      · rw [if_pos e2] at h2; rw [if_pos (by omega)]; exact mLess_tr _ _ _ h1 h2
      · rw [if_neg e2] at h2; rw [if_neg (by omega), e1]; exact h2
    · rw [if_neg e1] at h1
      by_cases e2 : b.f0 = c.f0
      · rw [if_neg (by omega), ← e2]; exact h1
      · rw [if_neg e2] at h2
        have p1 := of_decide_eq_true h1
        have p2 := of_decide_eq_true h2
        rw [if_neg (by omega)]; exact decide_eq_true (by omega)
  cn a b h1 h2 := by
    obtain ⟨a0, a1⟩ := a
    obtain ⟨b0, b1⟩ := b
    unfold mFLess at h1 h2
    simp only [] at h1 h2
    by_cases e1 : a0 = b0
    · subst e1; rw [if_pos rfl] at h1 h2; rw [mLess_cn _ _ h1 h2]
    · rw [if_neg e1] at h1; rw [if_neg (fun h => e1 h.symm)] at h2
      have p1 := of_decide_eq_false h1
      have p2 := of_decide_eq_false h2
      omega
def mPutF (f : S37) : List S37 → List S37
  | [] => [f]
  | x :: xs => if mFLess x f = true then x :: mPutF f xs else f :: x :: xs
theorem mPutF_perm (f : S37) : ∀ l : List S37, (mPutF f l).Perm (l ++ [f])
  | [] => List.Perm.refl _
  | x :: xs => by
    unfold mPutF
    split
    · exact (mPutF_perm f xs).cons x
    · exact (List.perm_append_singleton f (x :: xs)).symm
theorem mPutF_mem {f y : S37} {l : List S37} (h : y ∈ mPutF f l) : y = f ∨ y ∈ l := by
  have := (mPutF_perm f l).mem_iff.1 h
  simp at this
  rcases this with h | h
  · exact .inr h
  · exact .inl h
theorem mPutF_sorted (f : S37) : ∀ l : List S37, l.Pairwise (fun x y => mFLess x y = true) → (mPutF f l).Pairwise (fun x y => mFLess y x = false)
  | [], _ => by simp [mPutF]
  | x :: xs, h => by
    have h1 := List.pairwise_cons.1 h
    unfold mPutF
    by_cases c : mFLess x f = true
    · rw [if_pos c]
      refine List.pairwise_cons.2 ⟨fun y hy => ?_, mPutF_sorted f xs h1.2⟩
      rcases mPutF_mem hy with rfl | hy
      · exact mFLess_tot.asym c
      · exact mFLess_tot.asym (h1.1 y hy)
    · rw [if_neg c]
      refine List.pairwise_cons.2 ⟨fun y hy => ?_, h.imp (fun h => mFLess_tot.asym h)⟩
      rcases List.mem_cons.1 hy with rfl | hy
      · exact Bool.eq_false_iff.2 c
      · exact mFLess_tot.nt y x f (mFLess_tot.asym (h1.1 y hy)) (Bool.eq_false_iff.2 c)
theorem mPutF_sort (f : S37) (l : List S37) (h : l.Pairwise (fun x y => mFLess x y = true)) : (l ++ [f]).mergeSort (fun x y => !mFLess y x) = mPutF f l := mFLess_tot.sort (mPutF_perm f l) (mPutF_sorted f l h)
theorem l5Same_ev (r : Int) (l : List Int) (q : Int) (m : List Int) (h : l.length ≤ 1048576) : Ev (fun k => spec_l5Same.f k r l q m) (decide (r = q ∧ l = m)) := by
  unfold spec_l5Same.f
  by_cases c : r = q
  · subst c
    simp only [if_true]
    have r2 := l2Ints_ev l m (by omega)
    rw [show decide (True ∧ l = m) = decide (l = m) by simp]
    exact evb r2 (evc fun k => rfl)
  · simp only [if_neg c]
    rw [decide_eq_false (fun h => c h.1)]
    exact evc fun k => rfl
/-- The rest of a list behind a fact that is put at its place. -/
theorem l5Put_true (d : List S37) (r : Int) (l : List Int) (hl : d.length ≤ 1048576) (hs : ∀ x ∈ d, x.f1.length ≤ 1048576) :
    ∀ (suf pre acc : List S37), d = pre ++ suf → acc.length ≤ pre.length + 1 → Ev (fun k => spec_l5Put.l0 k d acc true (pre.length : Int) r l) (acc ++ suf)
  | [], pre, acc, e, ha => by
    have e2 : pre = d := by rw [e]; simp
    subst e2
    refine Ev.step (fun k => spec_l5Put.l0.eq_2 ..) ?_
    simp only [if_neg (end_not _), if_true, List.append_nil]
    exact evc fun k => rfl
  | x :: suf, pre, acc, e, ha => by
    have hx : x.f1.length ≤ 1048576 := hs x (by rw [e]; simp)
    have hp : acc.length < 4398046511104 := by rw [e] at hl; simp at hl; omega
    have ih := l5Put_true d r l hl hs suf (pre ++ [x]) (acc ++ [x]) (by rw [e]; simp) (by simp; omega)
    refine Ev.step (fun k => spec_l5Put.l0.eq_2 ..) ?_
    simp only [if_pos (lt_of e), if_true]
    refine Ev.step (fun k => spec_l5Put.j1.eq_2 ..) ?_
    simp only [Bool.false_eq_true, if_false, if_pos (lt_of e), if_pos (len_nonneg _), rdIF_of e, nx_of e (by omega), l5Copy_eq x.f0 x.f1 hx, Option.bind_some, if_pos hp]
    rw [List.append_assoc] at ih
    exact ih
theorem l5Put_l0 (d : List S37) (f : S37) (hl : d.length ≤ 1048576) (hs : ∀ x ∈ d, x.f1.length ≤ 1048576) (hf : f.f1.length ≤ 1048576) (hn : mHas d f.f0 f.f1 = false) :
    ∀ (suf pre : List S37), d = pre ++ suf → Ev (fun k => spec_l5Put.l0 k d pre false (pre.length : Int) f.f0 f.f1) (pre ++ mPutF f suf)
  | [], pre, e => by
    have e2 : pre = d := by rw [e]; simp
    subst e2
    refine Ev.step (fun k => spec_l5Put.l0.eq_2 ..) ?_
    simp only [if_neg (end_not _), Bool.false_eq_true, if_false, l5Copy_eq f.f0 f.f1 hf, Option.bind_some, if_pos (show pre.length < 4398046511104 by omega)]
    exact evc fun k => rfl
  | x :: suf, pre, e => by
    have hx : x.f1.length ≤ 1048576 := hs x (by rw [e]; simp)
    have hpl : pre.length < 1048576 := by rw [e] at hl; simp at hl; omega
    have hp : pre.length < 4398046511104 := by omega
    refine Ev.step (fun k => spec_l5Put.l0.eq_2 ..) ?_
    simp only [if_pos (lt_of e), Bool.false_eq_true, if_false, if_pos (len_nonneg _), rdIF_of e]
    refine evb (l5Less_ev x f (by omega)) ?_
    refine Ev.step (fun k => spec_l5Put.j1.eq_2 ..) ?_
    by_cases c : mFLess x f = true
    · have ih := l5Put_l0 d f hl hs hf hn suf (pre ++ [x]) (by rw [e]; simp)
      simp only [c, Bool.not_true, Bool.false_eq_true, if_false, if_pos (lt_of e), if_pos (len_nonneg _), rdIF_of e, nx_of e (by omega), l5Copy_eq x.f0 x.f1 hx, Option.bind_some, if_pos hp, mPutF, if_true]
      rw [List.append_assoc] at ih
      exact ih
    · have c2 : mFLess x f = false := Bool.eq_false_iff.2 c
      have hne : decide (x.f0 = f.f0 ∧ x.f1 = f.f1) = false := by
        have h2 := hn
        unfold mHas at h2
        rw [List.any_eq_false] at h2
        exact Bool.eq_false_iff.2 (h2 x (by rw [e]; simp))
      simp only [c2, Bool.not_false, if_true, if_pos (lt_of e), if_pos (len_nonneg _), rdIF_of e, nx_of e (by omega)]
      refine evb (l5Same_ev x.f0 x.f1 f.f0 f.f1 hx) ?_
      have hp2 : (pre ++ [f]).length < 4398046511104 := by simp; omega
      have ih := l5Put_true d f.f0 f.f1 hl hs suf (pre ++ [x]) ((pre ++ [f]) ++ [x]) (by rw [e]; simp) (by simp)
      simp only [hne, Bool.false_eq_true, if_false, l5Copy_eq f.f0 f.f1 hf, l5Copy_eq x.f0 x.f1 hx, Option.bind_some, if_pos hp, if_pos hp2, mPutF, c2]
      simp only [List.append_assoc, List.singleton_append] at ih ⊢
      exact ih
theorem l5Put_ev (d : List S37) (f : S37) (hl : d.length ≤ 1048576) (hs : ∀ x ∈ d, x.f1.length ≤ 1048576) (hf : f.f1.length ≤ 1048576) (hn : mHas d f.f0 f.f1 = false) : Ev (fun k => spec_l5Put.f k d f.f0 f.f1) (mPutF f d) := l5Put_l0 d f hl hs hf hn d [] rfl
/-- A database with a fact put in, if it fits. -/
def mFits (s : List Int) (d : List S37) (f : S37) : Bool := mIsDb s d && (mIsFact s f.f0 f.f1 && (!mHas d f.f0 f.f1 && decide ((d.length : Int) < 24)))
def mAddF (s : List Int) (d : List S37) (f : S37) : List S37 × Bool := if mFits s d f = true then (mPutF f d, true) else (d, false)
theorem specAdd_ev (s : List Int) (d : List S37) (f : S37) (hsl : s.length ≤ 1048576) (hl : d.length ≤ 1048576) (hs : ∀ x ∈ d, x.f1.length ≤ 1048576) (hf : f.f1.length ≤ 1048576) : Ev (fun k => spec_AddFact.f k s d f.f0 f.f1) (mAddF s d f) := by
  have jt : Ev (fun k => spec_AddFact.j0 k d true f.f0 f.f1) (d, false) := by
    refine Ev.step (fun k => spec_AddFact.j0.eq_2 ..) ?_
    simp only [if_true]
    exact evb (l5All_ev d hl hs) (evc fun k => rfl)
  unfold spec_AddFact.f mAddF mFits
  refine evb (specIsDb_ev s d hsl hl hs) ?_
  cases c1 : mIsDb s d
  · simp only [Bool.false_eq_true, if_false, Bool.false_and]; exact jt
  simp only [if_true, Bool.true_and]
  refine evb (specIsFact_ev s f.f0 f.f1 (by omega) (by omega)) ?_
  cases c2 : mIsFact s f.f0 f.f1
  · simp only [Bool.false_eq_true, if_false, Bool.false_and]; exact jt
  simp only [if_true, Bool.true_and]
  refine evb (specHasFact_ev d f.f0 f.f1 hl hs) ?_
  cases c3 : mHas d f.f0 f.f1
  · simp only [Bool.false_eq_true, if_false, Bool.not_false, Bool.true_and]
    by_cases c4 : (d.length : Int) < 24
    · rw [decide_eq_false (show ¬ (d.length : Int) ≥ 24 by omega), decide_eq_true c4]
      simp only [if_true]
      refine Ev.step (fun k => spec_AddFact.j0.eq_2 ..) ?_
      simp only [Bool.false_eq_true, if_false]
      exact evb (l5Put_ev d f hl hs hf c3) (evc fun k => rfl)
    · rw [decide_eq_true (show (d.length : Int) ≥ 24 by omega), decide_eq_false c4]
      simp only [Bool.false_eq_true, if_false]
      exact jt
  · simp only [if_true, Bool.not_true, Bool.false_and, Bool.false_eq_true, if_false]; exact jt
theorem mDb_sorted (s : List Int) : ∀ (d : List S37) (p : Option S37), mDb s p d = true → d.Pairwise (fun x y => mFLess x y = true) ∧ (∀ q, p = some q → ∀ x ∈ d, mFLess q x = true)
  | [], p, _ => ⟨List.Pairwise.nil, fun _ _ x hx => by cases hx⟩
  | x :: t, none, h => by
    simp only [mDb, Bool.and_eq_true] at h
    obtain ⟨h1, h2⟩ := mDb_sorted s t (some x) h.2
    exact ⟨List.pairwise_cons.2 ⟨fun y hy => h2 x rfl y hy, h1⟩, fun q hq => by cases hq⟩
  | x :: t, some p, h => by
    simp only [mDb, Bool.and_eq_true] at h
    obtain ⟨h1, h2⟩ := mDb_sorted s t (some x) h.2.2
    refine ⟨List.pairwise_cons.2 ⟨fun y hy => h2 x rfl y hy, h1⟩, fun q hq y hy => ?_⟩
    injection hq with hq
    subst hq
    rcases List.mem_cons.1 hy with rfl | hy
    · exact h.2.1
    · exact mFLess_tot.tr _ _ _ h.2.1 (h2 x rfl y hy)
theorem isDb_sorted {s : List Int} {d : List S37} (h : mIsDb s d = true) : d.Pairwise (fun x y => mFLess x y = true) := by
  unfold mIsDb at h
  simp only [Bool.and_eq_true] at h
  exact (mDb_sorted s d none h.1).1
/-! ### RemoveFact -/
def mRem (d : List S37) (r : Int) (l : List Int) : List S37 := d.filter (fun x => !decide (x.f0 = r ∧ x.f1 = l))
def mRemove (s : List Int) (d : List S37) (r : Int) (l : List Int) : List S37 × Bool := if (mIsDb s d && mHas d r l) = true then (mRem d r l, true) else (d, false)
theorem mRem_cons (x : S37) (suf : List S37) (r : Int) (l : List Int) : mRem (x :: suf) r l = if x.f0 = r ∧ x.f1 = l then mRem suf r l else x :: mRem suf r l := by
  unfold mRem
  by_cases c : x.f0 = r ∧ x.f1 = l
  · rw [if_pos c, List.filter_cons_of_neg (by simp [c])]
  · rw [if_neg c, List.filter_cons_of_pos (by rw [decide_eq_false c]; rfl)]
theorem mRem_len (d : List S37) (r : Int) (l : List Int) : (mRem d r l).length ≤ d.length := List.length_filter_le _ _
theorem mRemove_small (s : List Int) (d : List S37) (r : Int) (l : List Int) (hl : d.length ≤ 1048576) (hs : ∀ x ∈ d, x.f1.length ≤ 1048576) : (mRemove s d r l).1.length ≤ 1048576 ∧ ∀ x ∈ (mRemove s d r l).1, x.f1.length ≤ 1048576 := by
  unfold mRemove
  split
  · exact ⟨Nat.le_trans (mRem_len d r l) hl, fun x hx => hs x (List.mem_filter.1 hx).1⟩
  · exact ⟨hl, hs⟩
theorem specRem_l0 (d : List S37) (r : Int) (l : List Int) (hl : d.length ≤ 1048576) (hs : ∀ x ∈ d, x.f1.length ≤ 1048576) : Ev (fun k => spec_RemoveFact.l0 k d [] 0 r l) (mRem d r l, true) := by
  have key := idx_ind d (fun pre suf => ∀ out : List S37, out.length ≤ pre.length → out ++ mRem suf r l = mRem d r l → Ev (fun k => spec_RemoveFact.l0 k d out (pre.length : Int) r l) (mRem d r l, true)) ?_ ?_
  · exact key [] (by simp) rfl
  · intro out _ e
    have e2 : out = mRem d r l := by simpa [mRem] using e
    rw [← e2]
    refine evn fun k => ?_
    simp only [spec_RemoveFact.l0]
    rw [if_neg (end_not _)]
  · intro pre x suf e ih out ho e2
    have hx : x.f1.length ≤ 1048576 := hs x (by rw [e]; simp)
    have hp : out.length < 4398046511104 := by rw [e] at hl; simp at hl; omega
    refine Ev.step (fun k => spec_RemoveFact.l0.eq_2 ..) ?_
    simp only [if_pos (lt_of e), if_pos (len_nonneg _), rdIF_of e, nx_of e (by omega)]
    refine evb (specEqFact_ev x.f0 x.f1 r l (by omega)) ?_
    by_cases c : x.f0 = r ∧ x.f1 = l
    · simp only [decide_eq_true c, if_true]
      refine ih out (by simp; omega) ?_
      rw [← e2, mRem_cons]; simp [c]
    · simp only [decide_eq_false c, Bool.false_eq_true, if_false, l5Copy_eq x.f0 x.f1 hx, Option.bind_some, if_pos hp]
      refine ih (out ++ [x]) (by simp; omega) ?_
      rw [← e2, mRem_cons]; simp [c]
theorem implRem_l0 (d : List S37) (r : Int) (l : List Int) (hl : d.length ≤ 1048576) (hs : ∀ x ∈ d, x.f1.length ≤ 1048576) : Ev (fun k => impl_RemoveFact.l0 k [] d (d.length : Int) 0 r l) (mRem d r l, true) := by
  have key := idx_ind d (fun pre suf => ∀ out : List S37, out.length ≤ pre.length → out ++ mRem suf r l = mRem d r l → Ev (fun k => impl_RemoveFact.l0 k out d (d.length : Int) (pre.length : Int) r l) (mRem d r l, true)) ?_ ?_
  · exact key [] (by simp) rfl
  · intro out _ e
    have e2 : out = mRem d r l := by simpa [mRem] using e
    rw [← e2]
    refine evn fun k => ?_
    simp only [impl_RemoveFact.l0]
    rw [if_neg (end_not _)]
  · intro pre x suf e ih out ho e2
    have hx : x.f1.length ≤ 1048576 := hs x (by rw [e]; simp)
    have hp : out.length < 4398046511104 := by rw [e] at hl; simp at hl; omega
    refine Ev.step (fun k => impl_RemoveFact.l0.eq_2 ..) ?_
    simp only [if_pos (lt_of e), if_pos (len_nonneg _), rdIF_of e, nx_of e (by omega)]
    refine evb (implEqFact_ev x.f0 x.f1 r l (by omega)) ?_
    by_cases c : x.f0 = r ∧ x.f1 = l
    · simp only [decide_eq_true c, if_true]
      refine ih out (by simp; omega) ?_
      rw [← e2, mRem_cons]; simp [c]
    · simp only [decide_eq_false c, Bool.false_eq_true, if_false, copyFact_eq x.f0 x.f1 hx, Option.bind_some, if_pos hp]
      refine ih (out ++ [x]) (by simp; omega) ?_
      rw [← e2, mRem_cons]; simp [c]
theorem specRemove_ev (s : List Int) (d : List S37) (r : Int) (l : List Int) (hsl : s.length ≤ 1048576) (hl : d.length ≤ 1048576) (hs : ∀ x ∈ d, x.f1.length ≤ 1048576) : Ev (fun k => spec_RemoveFact.f k s d r l) (mRemove s d r l) := by
  unfold spec_RemoveFact.f mRemove
  refine evb (specIsDb_ev s d hsl hl hs) ?_
  have j (b : Bool) : Ev (fun k => spec_RemoveFact.j0 k d b r l) (if b = true then (d, false) else (mRem d r l, true)) := by
    refine Ev.step (fun k => spec_RemoveFact.j0.eq_2 ..) ?_
    cases b
    · simp only [Bool.false_eq_true, if_false]; exact specRem_l0 d r l hl hs
    · simp only [if_true]; exact evb (l5All_ev d hl hs) (evc fun k => rfl)
  by_cases c : mIsDb s d = true
  · simp only [c, if_true, Bool.true_and]
    refine evb (specHasFact_ev d r l hl hs) ?_
    have h := j (!mHas d r l)
    by_cases c2 : mHas d r l = true
    · simp only [c2, Bool.not_true, Bool.false_eq_true, if_false, if_true] at h ⊢; exact h
    · have c3 : mHas d r l = false := by simpa using c2
      simp only [c3, Bool.not_false, Bool.false_eq_true, if_false, if_true] at h ⊢; exact h
  · have c3 : mIsDb s d = false := by simpa using c
    simp only [c3, Bool.false_and, Bool.false_eq_true, if_false]
    exact j true
theorem implRemove_ev (s : List Int) (d : List S37) (r : Int) (l : List Int) (hsl : s.length ≤ 1048576) (hl : d.length ≤ 1048576) (hs : ∀ x ∈ d, x.f1.length ≤ 1048576) : Ev (fun k => impl_RemoveFact.f k s d r l) (mRemove s d r l) := by
  unfold impl_RemoveFact.f mRemove
  refine evb (implIsDb_ev s d hsl hl hs) ?_
  have j (b : Bool) : Ev (fun k => impl_RemoveFact.j0 k d b r l) (if b = true then (d, false) else (mRem d r l, true)) := by
    refine Ev.step (fun k => impl_RemoveFact.j0.eq_2 ..) ?_
    cases b
    · simp only [Bool.false_eq_true, if_false]; exact implRem_l0 d r l hl hs
    · simp only [if_true]; exact evb (copyFacts_ev d hl hs) (evc fun k => rfl)
  by_cases c : mIsDb s d = true
  · simp only [c, if_true, Bool.true_and]
    refine evb (implHasFact_ev d r l hl hs) ?_
    have h := j (!mHas d r l)
    by_cases c2 : mHas d r l = true
    · simp only [c2, Bool.not_true, Bool.false_eq_true, if_false, if_true] at h ⊢; exact h
    · have c3 : mHas d r l = false := by simpa using c2
      simp only [c3, Bool.not_false, Bool.false_eq_true, if_false, if_true] at h ⊢; exact h
  · have c3 : mIsDb s d = false := by simpa using c
    simp only [c3, Bool.false_and, Bool.false_eq_true, if_false]
    exact j true
def mAll2 {α : Type} (p : α → α → Bool) : List α → List α → Bool
  | a :: s, b :: t => p a b && mAll2 p s t
  | _, _ => true
def mEqL {α : Type} (p : α → α → Bool) (l m : List α) : Bool := decide (l.length = m.length) && mAll2 p l m
/-! ### Facts as lists -/
def mEqFact (a b : S37) : Bool := decide (a.f0 = b.f0 ∧ a.f1 = b.f1)
theorem implEqFactS_ev (l m : List S37) (hl : l.length ≤ 1048576) (hs : ∀ x ∈ l, x.f1.length ≤ 1048576) : Ev (fun k => impl_Fact_63.f k l m 0) (mEqL mEqFact l m) := by
  unfold impl_Fact_63.f mEqL
  by_cases c : l.length = m.length
  · have c' : (l.length : Int) = (m.length : Int) := by omega
    simp only [if_pos c']
    rw [decide_eq_true c, Bool.true_and]
    have key := idx_ind l (fun pre suf => ∀ pre2 suf2, m = pre2 ++ suf2 → pre2.length = pre.length → Ev (fun k => impl_Fact_63.l0 k m l (l.length : Int) (pre.length : Int)) (mAll2 mEqFact suf suf2)) ?_ ?_
    · exact key [] m rfl rfl
    · intro pre2 suf2 e2 hp
      refine evn fun k => ?_
      simp only [impl_Fact_63.l0]
      rw [if_neg (end_not _)]; rfl
    · intro pre x suf e ih pre2 suf2 e2 hp
      obtain ⟨y, t2, rfl⟩ : ∃ y t2, suf2 = y :: t2 := by
        cases suf2 with
        | nil => exfalso; have h1 := congrArg List.length e; have h2 := congrArg List.length e2; simp at h1 h2; omega
        | cons y t2 => exact ⟨y, t2, rfl⟩
      have r2 : rd_T37 m (pre.length : Int) = y := by rw [← hp]; exact rdIF_of e2
      have l2 : (pre.length : Int) < (m.length : Int) := by rw [← hp]; exact lt_of e2
      refine Ev.step (fun k => impl_Fact_63.l0.eq_2 ..) ?_
      simp only [if_pos (lt_of e), if_pos (len_nonneg _), if_pos l2, rdIF_of e, r2, nx_of e (show l.length ≤ 140737488355328 by omega)]
      refine evb (implEqFact_ev x.f0 x.f1 y.f0 y.f1 (by have := hs x (by rw [e]; simp); omega)) ?_
      unfold mAll2
      by_cases h : x.f0 = y.f0 ∧ x.f1 = y.f1
      · rw [show mEqFact x y = true from decide_eq_true h, decide_eq_true h, Bool.true_and]
        simp only [if_true]
        exact ih (pre2 ++ [y]) t2 (by rw [e2]; simp) (by simp [hp])
      · rw [show mEqFact x y = false from decide_eq_false h, decide_eq_false h, Bool.false_and]
        simp only [Bool.false_eq_true, if_false]
        exact evc fun k => rfl
  · have c' : ¬ (l.length : Int) = (m.length : Int) := by omega
    simp only [if_neg c']
    rw [decide_eq_false c, Bool.false_and]
    exact evc fun k => rfl
theorem specEqFacts_l0 (l m : List S37) (hl : l.length ≤ 1048576) (hs : ∀ x ∈ l, x.f1.length ≤ 1048576) (c : l.length = m.length) : Ev (fun k => spec_EqualFacts.l0 k l m 0) (mAll2 mEqFact l m) := by
  have key := idx_ind l (fun pre suf => ∀ pre2 suf2, m = pre2 ++ suf2 → pre2.length = pre.length → Ev (fun k => spec_EqualFacts.l0 k l m (pre.length : Int)) (mAll2 mEqFact suf suf2)) ?_ ?_
  · exact key [] m rfl rfl
  · intro pre2 suf2 e2 hp
    refine evn fun k => ?_
    simp only [spec_EqualFacts.l0]
    rw [if_neg (end_not _)]; rfl
  · intro pre x suf e ih pre2 suf2 e2 hp
    obtain ⟨y, t2, rfl⟩ : ∃ y t2, suf2 = y :: t2 := by
      cases suf2 with
      | nil => exfalso; have h1 := congrArg List.length e; have h2 := congrArg List.length e2; simp at h1 h2; omega
      | cons y t2 => exact ⟨y, t2, rfl⟩
    have r2 : rd_T37 m (pre.length : Int) = y := by rw [← hp]; exact rdIF_of e2
    have l2 : (pre.length : Int) < (m.length : Int) := by rw [← hp]; exact lt_of e2
    refine Ev.step (fun k => spec_EqualFacts.l0.eq_2 ..) ?_
    simp only [if_pos (lt_of e), if_pos (len_nonneg _), if_pos l2, rdIF_of e, r2, nx_of e (show l.length ≤ 140737488355328 by omega)]
    refine evb (specEqFact_ev x.f0 x.f1 y.f0 y.f1 (by have := hs x (by rw [e]; simp); omega)) ?_
    unfold mAll2
    by_cases h : x.f0 = y.f0 ∧ x.f1 = y.f1
    · rw [show mEqFact x y = true from decide_eq_true h, decide_eq_true h, Bool.true_and]
      simp only [if_true]
      exact ih (pre2 ++ [y]) t2 (by rw [e2]; simp) (by simp [hp])
    · rw [show mEqFact x y = false from decide_eq_false h, decide_eq_false h, Bool.false_and]
      simp only [Bool.false_eq_true, if_false]
      exact evc fun k => rfl
theorem specEqFacts_ev (l m : List S37) (hl : l.length ≤ 1048576) (hs : ∀ x ∈ l, x.f1.length ≤ 1048576) : Ev (fun k => spec_EqualFacts.f k l m) (mEqL mEqFact l m) := by
  unfold spec_EqualFacts.f mEqL
  by_cases c : l.length = m.length
  · have c' : (l.length : Int) = (m.length : Int) := by omega
    simp only [if_pos c']
    rw [decide_eq_true c, Bool.true_and]
    exact specEqFacts_l0 l m hl hs c
  · have c' : ¬ (l.length : Int) = (m.length : Int) := by omega
    simp only [if_neg c']
    rw [decide_eq_false c, Bool.false_and]
    exact evc fun k => rfl
theorem implEqFacts_ev (l m : List S37) (hl : l.length ≤ 1048576) (hs : ∀ x ∈ l, x.f1.length ≤ 1048576) : Ev (fun k => impl_EqualFacts.f k l m) (mEqL mEqFact l m) := by
  unfold impl_EqualFacts.f
  refine evb (implEqFactS_ev l m hl hs) ?_
  exact evc fun k => rfl
/-! ### Draws -/
theorem and255_range (x : Int) : 0 ≤ Go.bits .and .i64 x 255 ∧ Go.bits .and .i64 x 255 ≤ 255 := by
  have e : Go.bits .and .i64 x 255 = IntKind.i64.wrap (((BitVec.ofInt IntKind.i64.bits x) &&& (BitVec.ofInt IntKind.i64.bits 255)).toNat : Int) := rfl
  have h : ((BitVec.ofInt IntKind.i64.bits x) &&& (BitVec.ofInt IntKind.i64.bits 255)).toNat ≤ 255 := by
    rw [BitVec.toNat_and]
    have : (BitVec.ofInt IntKind.i64.bits 255).toNat = 255 := by decide
    rw [this]
    exact Nat.and_le_right
  rw [e, IntKind.wrap_i64]
  omega
theorem l1Byte_ok (c : List Int) (i h : Int) (hc : c.length ≤ 1048576) (h0 : 0 ≤ i) (h1 : i ≤ c.length) :
    ∃ x i' h', spec_l1Byte.f c i h = some (x, i', h') ∧ (0 ≤ x ∧ x ≤ 255) ∧ 0 ≤ i' ∧ i' ≤ c.length := by
  unfold spec_l1Byte.f
  by_cases hl : i < (c.length : Int)
  · rw [if_pos hl, if_pos h0]
    exact ⟨_, _, _, rfl, and255_range _, by rw [w64 (by omega) (by omega)]; omega, by rw [w64 (by omega) (by omega)]; omega⟩
  · rw [if_neg hl]
    exact ⟨_, _, _, rfl, and255_range _, h0, h1⟩
theorem tmod_range {x n : Int} (hx : 0 ≤ x) (hn : 0 < n) : 0 ≤ Int.tmod x n ∧ Int.tmod x n < n := by
  rw [Int.tmod_eq_emod_of_nonneg hx]
  exact ⟨Int.emod_nonneg _ (by omega), Int.emod_lt_of_pos _ hn⟩
theorem l1Below_ok (c : List Int) (i h n : Int) (hc : c.length ≤ 1048576) (h0 : 0 ≤ i) (h1 : i ≤ c.length) :
    ∃ x i' h', spec_l1Below.f c i h n = some (x, i', h') ∧ (0 ≤ x ∧ (0 < n → x < n) ∧ (n ≤ 0 → x = 0)) ∧ 0 ≤ i' ∧ i' ≤ c.length := by
  unfold spec_l1Below.f
  by_cases c1 : n ≤ 0
  · rw [if_pos c1]; exact ⟨_, _, _, rfl, ⟨by omega, fun h => by omega, fun _ => rfl⟩, h0, h1⟩
  · rw [if_neg c1]
    have hz : ¬ n = 0 := by omega
    by_cases c2 : n ≤ 256
    · rw [if_pos c2]
      obtain ⟨x, i', h', e, hx, hi⟩ := l1Byte_ok c i h hc h0 h1
      rw [e]
      simp only [Option.bind_some, if_neg hz]
      have := tmod_range (n := n) hx.1 (by omega)
      exact ⟨_, _, _, rfl, ⟨this.1, fun _ => this.2, fun h => by omega⟩, hi⟩
    · rw [if_neg c2]
      obtain ⟨x, i1, g1, e1, hx, hi1⟩ := l1Byte_ok c i h hc h0 h1
      obtain ⟨y, i2, g2, e2, hy, hi2⟩ := l1Byte_ok c i1 g1 hc hi1.1 hi1.2
      obtain ⟨z, i3, g3, e3, hz3, hi3⟩ := l1Byte_ok c i2 g2 hc hi2.1 hi2.2
      obtain ⟨w, i4, g4, e4, hw, hi4⟩ := l1Byte_ok c i3 g3 hc hi3.1 hi3.2
      rw [e1]
      simp only [Option.bind_some]
      rw [e2]
      simp only [Option.bind_some]
      rw [e3]
      simp only [Option.bind_some]
      rw [e4]
      simp only [Option.bind_some, if_neg hz]
      have q : 0 ≤ wrap64 ((wrap64 ((wrap64 ((wrap64 (x * 16777216)) + (wrap64 (y * 65536)))) + (wrap64 (z * 256)))) + w) := by
        rw [w64 (x := x * 16777216) (by omega) (by omega), w64 (x := y * 65536) (by omega) (by omega), w64 (x := z * 256) (by omega) (by omega), w64 (x := x * 16777216 + y * 65536) (by omega) (by omega), w64 (x := x * 16777216 + y * 65536 + z * 256) (by omega) (by omega), w64 (by omega) (by omega)]
        omega
      have := tmod_range (n := n) q (by omega)
      exact ⟨_, _, _, rfl, ⟨this.1, fun _ => this.2, fun h => by omega⟩, hi4⟩
theorem l1PickInt_ok (c : List Int) (i h : Int) (l : List Int) (hc : c.length ≤ 1048576) (h0 : 0 ≤ i) (h1 : i ≤ c.length) (hl : 0 < l.length) :
    ∃ x i' h', spec_l1PickInt.f c i h l = some (x, i', h') ∧ x ∈ l ∧ 0 ≤ i' ∧ i' ≤ c.length := by
  unfold spec_l1PickInt.f
  obtain ⟨x, i', h', e, hx, hi⟩ := l1Below_ok c i h (l.length : Int) hc h0 h1
  rw [e]
  simp only [Option.bind_some]
  have hx2 := hx.2.1 (by omega)
  rw [if_pos hx.1, if_pos hx2]
  refine ⟨_, _, _, rfl, ?_, hi⟩
  have hn : x.toNat < l.length := by omega
  have : rd l x = l[x.toNat] := by simp [rd, List.getD_eq_getElem?_getD, List.getElem?_eq_getElem hn]
  rw [this]; exact List.getElem_mem _
theorem l1New_ok (c : List Int) (hc : c.length ≤ 1048576) : ∃ h, Ev (fun k => spec_l1New.f k c) (c, 0, h) := by
  have key := idx_ind c (fun pre suf => ∀ h : Int, ∃ h', Ev (fun k => spec_l1New.l0 k c h (pre.length : Int)) (c, 0, h')) ?_ ?_
  · exact key _
  · intro h
    refine ⟨h, evn fun k => ?_⟩
    simp only [spec_l1New.l0]
    rw [if_neg (end_not _)]
  · intro pre a suf e ih h
    by_cases h4 : (pre.length : Int) < 4000
    · obtain ⟨h', r⟩ := ih (Go.bits .and .i64 (wrap64 ((wrap64 ((wrap64 (h * 131)) + (wrap64 (rd c (pre.length : Int))))) + 7)) 1073741823)
      refine ⟨h', Ev.step (fun k => spec_l1New.l0.eq_2 ..) ?_⟩
      simp only [if_pos (lt_of e), if_pos h4, if_pos (len_nonneg _), nx_of e (show c.length ≤ 140737488355328 by omega)]
      exact r
    · refine ⟨h, evn fun k => ?_⟩
      simp only [spec_l1New.l0]
      rw [if_pos (lt_of e), if_neg h4]
/-! ### Draws of schemas and facts -/
theorem l3Schema_l0 (c : List Int) (hc : c.length ≤ 1048576) : ∀ (n : Nat) (acc : List Int) (i h : Int), acc.length + n ≤ 10 → 0 ≤ i → i ≤ c.length →
    ∃ s i' h', Ev (fun k => spec_l3Schema.l0 k (n : Int) c i h acc) (s, i', h') ∧ s.length ≤ 10 ∧ 0 ≤ i' ∧ i' ≤ c.length := by
  intro n
  induction n with
  | zero =>
    intro acc i h ha h0 h1
    refine ⟨acc, i, h, evn fun k => ?_, by omega, h0, h1⟩
    simp only [spec_l3Schema.l0]
    rw [if_neg (by omega)]
  | succ n ih =>
    intro acc i h ha h0 h1
    obtain ⟨x, i1, g1, e1, hx, hi1⟩ := l1Below_ok c i h 3 hc h0 h1
    obtain ⟨s, i', h', r, hs⟩ := ih (acc ++ [wrap64 (1 + x)]) i1 g1 (by simp; omega) hi1.1 hi1.2
    refine ⟨s, i', h', Ev.step (fun k => spec_l3Schema.l0.eq_2 ..) ?_, hs⟩
    have hw : wrap64 (((n + 1 : Nat) : Int) - 1) = (n : Int) := by rw [w64 (by omega) (by omega)]; omega
    simp only [if_pos (show ((n + 1 : Nat) : Int) > 0 by omega), e1, Option.bind_some, if_pos (show acc.length < 17592186044416 by omega), hw]
    exact r
theorem l3Any_ok (c : List Int) (i h : Int) (hc : c.length ≤ 1048576) (h0 : 0 ≤ i) (h1 : i ≤ c.length) :
    ∃ s i' h', Ev (fun k => spec_l3Any.f k c i h) (s, i', h') ∧ s.length ≤ 20 ∧ 0 ≤ i' ∧ i' ≤ c.length := by
  unfold spec_l3Any.f spec_l3Schema.f
  obtain ⟨x, i1, g1, e1, hx, hi1⟩ := l1Below_ok c i h 3 hc h0 h1
  obtain ⟨n, rfl⟩ := Int.eq_ofNat_of_zero_le hx.1
  have hx2 := hx.2.1 (by omega)
  obtain ⟨s, i2, g2, r, hs, hi2⟩ := l3Schema_l0 c hc n [2] i1 g1 (by simp; omega) hi1.1 hi1.2
  obtain ⟨y, i3, g3, e3, hy, hi3⟩ := l1Below_ok c i2 g2 10 hc hi2.1 hi2.2
  obtain ⟨z, i4, g4, e4, hz, hi4⟩ := l1PickInt_ok c i3 g3 [0, 3, 4] hc hi3.1 hi3.2 (by decide)
  simp only [e1, Option.bind_some]
  by_cases d0 : y = 0
  · refine ⟨s ++ [z], i4, g4, evb r ?_, by simp; omega, hi4⟩
    simp only [e3, Option.bind_some, if_pos d0, e4, if_pos (show s.length < 17592186044416 by omega)]
    exact evc fun k => rfl
  · by_cases d1 : y = 1
    · refine ⟨[], i3, g3, evb r ?_, by simp, hi3⟩
      simp only [e3, Option.bind_some, if_neg d0, if_pos d1]
      exact evc fun k => rfl
    · by_cases d2 : y = 2
      · refine ⟨[1, 2, 3, 1, 2], i3, g3, evb r ?_, by simp, hi3⟩
        simp only [e3, Option.bind_some, if_neg d0, if_neg d1, if_pos d2]
        exact evc fun k => rfl
      · refine ⟨s, i3, g3, evb r ?_, by omega, hi3⟩
        simp only [e3, Option.bind_some, if_neg d0, if_neg d1, if_neg d2]
        exact evc fun k => rfl
def mSafe (s : List Int) : List Int := if mIsSchema s = true then s else [2, 1]
theorem mSafe_schema (s : List Int) : mIsSchema (mSafe s) = true := by
  unfold mSafe
  by_cases h : mIsSchema s = true
  · rw [if_pos h]; exact h
  · rw [if_neg h]; decide
theorem l4Safe_ev (s : List Int) (h : s.length ≤ 20) : Ev (fun k => spec_l4Safe.f k s) (mSafe s) := by
  unfold spec_l4Safe.f mSafe
  refine evb (specSchema_ev s (by omega)) ?_
  by_cases c : mIsSchema s = true
  · simp only [if_pos c]; exact evc fun k => rfl
  · simp only [if_neg c]; exact evc fun k => rfl
theorem rd_schema {s : List Int} (hs : mIsSchema s = true) {r : Int} (h0 : 0 ≤ r) (h1 : r < s.length) : 1 ≤ rd s r ∧ rd s r ≤ 3 := by
  unfold mIsSchema at hs
  simp only [Bool.and_eq_true, List.all_eq_true, decide_eq_true_eq] at hs
  have hn : r.toNat < s.length := by omega
  have e : rd s r = s[r.toNat] := by simp [rd, List.getD_eq_getElem?_getD, List.getElem?_eq_getElem hn]
  rw [e]
  exact hs.1 _ (List.getElem_mem _)
theorem schema_pos {s : List Int} (hs : mIsSchema s = true) : 1 ≤ (s.length : Int) := by
  unfold mIsSchema at hs
  simp only [Bool.and_eq_true, decide_eq_true_eq] at hs
  exact hs.2.1
theorem l5Fact_l0 (c : List Int) (hc : c.length ≤ 1048576) (s : List Int) (r : Int) (hr0 : 0 ≤ r) (hr1 : r < s.length) (m : Nat) (hm : rd s r = (m : Int)) (hm3 : m ≤ 3) : ∀ (n : Nat) (acc : List Int) (i h : Int), acc.length + n = m → 0 ≤ i → i ≤ c.length →
    ∃ l i' h', Ev (fun k => spec_l5Fact.l0 k (acc.length : Int) c i h s r acc) (r, l, i', h') ∧ l.length = m ∧ 0 ≤ i' ∧ i' ≤ c.length := by
  intro n
  induction n with
  | zero =>
    intro acc i h ha h0 h1
    refine ⟨acc, i, h, evn fun k => ?_, by omega, h0, h1⟩
    simp only [spec_l5Fact.l0]
    rw [if_pos hr0, if_pos hr1, if_neg (by omega)]
  | succ n ih =>
    intro acc i h ha h0 h1
    obtain ⟨x, i1, g1, e1, hx, hi1⟩ := l1Below_ok c i h 4 hc h0 h1
    obtain ⟨l, i', h', q, hs⟩ := ih (acc ++ [x]) i1 g1 (by simp; omega) hi1.1 hi1.2
    refine ⟨l, i', h', Ev.step (fun k => spec_l5Fact.l0.eq_2 ..) ?_, hs⟩
    have hw : wrap64 ((acc.length : Int) + 1) = ((acc ++ [x]).length : Int) := by rw [w64 (by omega) (by omega)]; simp
    simp only [if_pos hr0, if_pos hr1, if_pos (show (acc.length : Int) < rd s r by omega), e1, Option.bind_some, if_pos (show acc.length < 17592186044416 by omega), hw]
    exact q
theorem l5Fact_ok (c : List Int) (i h : Int) (s : List Int) (hs : mIsSchema s = true) (hc : c.length ≤ 1048576) (h0 : 0 ≤ i) (h1 : i ≤ c.length) :
    ∃ r l i' h', Ev (fun k => spec_l5Fact.f k c i h s) (r, l, i', h') ∧ (1 ≤ l.length ∧ l.length ≤ 3) ∧ 0 ≤ i' ∧ i' ≤ c.length := by
  unfold spec_l5Fact.f
  obtain ⟨x, i1, g1, e1, hx, hi1⟩ := l1Below_ok c i h (s.length : Int) hc h0 h1
  have hp := schema_pos hs
  have hx2 := hx.2.1 (by omega)
  have hr := rd_schema hs hx.1 hx2
  obtain ⟨m, hm⟩ := Int.eq_ofNat_of_zero_le (show 0 ≤ rd s x by omega)
  obtain ⟨l, i2, g2, q, hl, hi2⟩ := l5Fact_l0 c hc s x hx.1 hx2 m hm (by omega) m [] i1 g1 (by simp) hi1.1 hi1.2
  refine ⟨x, l, i2, g2, ?_, by omega, hi2⟩
  simp only [e1, Option.bind_some]
  exact q
/-- A fact put among facts, whatever they are. -/
def mPutG (f : S37) : List S37 → List S37
  | [] => [f]
  | x :: xs => if mFLess x f = true then x :: mPutG f xs else if x.f0 = f.f0 ∧ x.f1 = f.f1 then x :: xs else f :: x :: xs
theorem mPutG_len (f : S37) : ∀ l : List S37, (mPutG f l).length ≤ l.length + 1
  | [] => by simp [mPutG]
  | x :: xs => by
    unfold mPutG
    split
    · simp; exact mPutG_len f xs
    · split <;> simp
theorem mPutG_mem (f : S37) : ∀ (l : List S37) (y : S37), y ∈ mPutG f l → y = f ∨ y ∈ l
  | [], y, h => by simp [mPutG] at h; exact .inl h
  | x :: xs, y, h => by
    unfold mPutG at h
    split at h
    · rcases List.mem_cons.1 h with h | h
      · exact .inr (by rw [h]; simp)
      · rcases mPutG_mem f xs y h with h | h
        · exact .inl h
        · exact .inr (List.mem_cons_of_mem _ h)
    · split at h
      · exact .inr h
      · rcases List.mem_cons.1 h with h | h
        · exact .inl h
        · exact .inr h
theorem l5PutG_l0 (d : List S37) (f : S37) (hl : d.length ≤ 1048576) (hs : ∀ x ∈ d, x.f1.length ≤ 1048576) (hf : f.f1.length ≤ 1048576) :
    ∀ (suf pre : List S37), d = pre ++ suf → Ev (fun k => spec_l5Put.l0 k d pre false (pre.length : Int) f.f0 f.f1) (pre ++ mPutG f suf)
  | [], pre, e => by
    have e2 : pre = d := by rw [e]; simp
    subst e2
    refine Ev.step (fun k => spec_l5Put.l0.eq_2 ..) ?_
    simp only [if_neg (end_not _), Bool.false_eq_true, if_false, l5Copy_eq f.f0 f.f1 hf, Option.bind_some, if_pos (show pre.length < 4398046511104 by omega)]
    exact evc fun k => rfl
  | x :: suf, pre, e => by
    have hx : x.f1.length ≤ 1048576 := hs x (by rw [e]; simp)
    have hpl : pre.length < 1048576 := by rw [e] at hl; simp at hl; omega
    have hp : pre.length < 4398046511104 := by omega
    refine Ev.step (fun k => spec_l5Put.l0.eq_2 ..) ?_
    simp only [if_pos (lt_of e), Bool.false_eq_true, if_false, if_pos (len_nonneg _), rdIF_of e]
    refine evb (l5Less_ev x f (by omega)) ?_
    refine Ev.step (fun k => spec_l5Put.j1.eq_2 ..) ?_
    by_cases c : mFLess x f = true
    · have ih := l5PutG_l0 d f hl hs hf suf (pre ++ [x]) (by rw [e]; simp)
      simp only [c, Bool.not_true, Bool.false_eq_true, if_false, if_pos (lt_of e), if_pos (len_nonneg _), rdIF_of e, nx_of e (by omega), l5Copy_eq x.f0 x.f1 hx, Option.bind_some, if_pos hp, mPutG, if_true]
      rw [List.append_assoc] at ih
      exact ih
    · have c2 : mFLess x f = false := Bool.eq_false_iff.2 c
      have hp2 : (pre ++ [f]).length < 4398046511104 := by simp; omega
      simp only [c2, Bool.not_false, if_true, if_pos (lt_of e), if_pos (len_nonneg _), rdIF_of e, nx_of e (by omega)]
      refine evb (l5Same_ev x.f0 x.f1 f.f0 f.f1 hx) ?_
      by_cases sm : x.f0 = f.f0 ∧ x.f1 = f.f1
      · have ih := l5Put_true d f.f0 f.f1 hl hs suf (pre ++ [x]) (pre ++ [x]) (by rw [e]; simp) (by simp)
        simp only [decide_eq_true sm, if_true, l5Copy_eq x.f0 x.f1 hx, Option.bind_some, if_pos hp, mPutG, c2, Bool.false_eq_true, if_false, if_pos sm]
        simp only [List.append_assoc, List.singleton_append] at ih ⊢
        exact ih
      · have ih := l5Put_true d f.f0 f.f1 hl hs suf (pre ++ [x]) ((pre ++ [f]) ++ [x]) (by rw [e]; simp) (by simp)
        simp only [decide_eq_false sm, Bool.false_eq_true, if_false, l5Copy_eq f.f0 f.f1 hf, l5Copy_eq x.f0 x.f1 hx, Option.bind_some, if_pos hp, if_pos hp2, mPutG, c2, if_neg sm]
        simp only [List.append_assoc, List.singleton_append] at ih ⊢
        exact ih
theorem l5Db_l0 (c : List Int) (hc : c.length ≤ 1048576) (s : List Int) (hs : mIsSchema s = true) : ∀ (n : Nat) (acc : List S37) (i h : Int), acc.length + n ≤ 10 → (∀ x ∈ acc, x.f1.length ≤ 3) → 0 ≤ i → i ≤ c.length →
    ∃ d i' h', Ev (fun k => spec_l5Db.l0 k acc (n : Int) c i h s) (d, i', h') ∧ (d.length ≤ 10 ∧ ∀ x ∈ d, x.f1.length ≤ 3) ∧ 0 ≤ i' ∧ i' ≤ c.length := by
  intro n
  induction n with
  | zero =>
    intro acc i h ha hx h0 h1
    refine ⟨acc, i, h, evn fun k => ?_, ⟨by omega, hx⟩, h0, h1⟩
    simp only [spec_l5Db.l0]
    rw [if_neg (by omega)]
  | succ n ih =>
    intro acc i h ha hx h0 h1
    obtain ⟨r, l, i1, g1, q, hl, hi1⟩ := l5Fact_ok c i h s hs hc h0 h1
    have hp := l5PutG_l0 acc ⟨r, l⟩ (by omega) (fun x hm => by have := hx x hm; omega) (by show l.length ≤ 1048576; omega) acc [] rfl
    have hpl := mPutG_len ⟨r, l⟩ acc
    obtain ⟨d, i', h', w, hd, hi⟩ := ih (mPutG ⟨r, l⟩ acc) i1 g1 (by omega) (fun x hm => by rcases mPutG_mem _ _ _ hm with rfl | hm; exact hl.2; exact hx x hm) hi1.1 hi1.2
    refine ⟨d, i', h', Ev.step (fun k => spec_l5Db.l0.eq_2 ..) ?_, hd, hi⟩
    have hw : wrap64 (((n + 1 : Nat) : Int) - 1) = (n : Int) := by rw [w64 (by omega) (by omega)]; omega
    simp only [if_pos (show ((n + 1 : Nat) : Int) > 0 by omega), hw]
    refine evb q ?_
    exact evb (show Ev (fun k => spec_l5Put.f k acc r l) (mPutG ⟨r, l⟩ acc) from hp) w
theorem l5Db_ok (c : List Int) (i h : Int) (s : List Int) (hs : mIsSchema s = true) (hc : c.length ≤ 1048576) (h0 : 0 ≤ i) (h1 : i ≤ c.length) :
    ∃ d i' h', Ev (fun k => spec_l5Db.f k c i h s) (d, i', h') ∧ (d.length ≤ 10 ∧ ∀ x ∈ d, x.f1.length ≤ 3) ∧ 0 ≤ i' ∧ i' ≤ c.length := by
  unfold spec_l5Db.f
  obtain ⟨x, i1, g1, e1, hx, hi1⟩ := l1Below_ok c i h 9 hc h0 h1
  obtain ⟨n, rfl⟩ := Int.eq_ofNat_of_zero_le hx.1
  have hx2 := hx.2.1 (by omega)
  obtain ⟨d, i', h', q, hd⟩ := l5Db_l0 c hc s hs n [] i1 g1 (by simp; omega) (by simp) hi1.1 hi1.2
  refine ⟨d, i', h', ?_, hd⟩
  simp only [e1, Option.bind_some]
  exact q
theorem l5AnyFact_ok (c : List Int) (i h : Int) (s : List Int) (hsl : s.length ≤ 20) (hc : c.length ≤ 1048576) (h0 : 0 ≤ i) (h1 : i ≤ c.length) :
    ∃ r l i' h', Ev (fun k => spec_l5AnyFact.f k c i h s) (r, l, i', h') ∧ l.length ≤ 4 ∧ 0 ≤ i' ∧ i' ≤ c.length := by
  unfold spec_l5AnyFact.f
  obtain ⟨r, l, i1, g1, q, hl, hi1⟩ := l5Fact_ok c i h (mSafe s) (mSafe_schema s) hc h0 h1
  obtain ⟨y, i2, g2, e2, hy, hi2⟩ := l1Below_ok c i1 g1 10 hc hi1.1 hi1.2
  by_cases d0 : y = 0
  · obtain ⟨z, i3, g3, e3, hz, hi3⟩ := l1PickInt_ok c i2 g2 [0, 99, 100, (-1)] hc hi2.1 hi2.2 (by decide)
    refine ⟨r, l ++ [z], i3, g3, evb (l4Safe_ev s hsl) (evb q ?_), by simp; omega, hi3⟩
    simp only [e2, Option.bind_some, if_pos d0, e3, if_pos (show l.length < 17592186044416 by omega)]
    exact evc fun k => rfl
  · by_cases d1 : y = 1
    · obtain ⟨z, i3, g3, e3, hz, hi3⟩ := l1PickInt_ok c i2 g2 [(-1), 3, 4] hc hi2.1 hi2.2 (by decide)
      refine ⟨z, l, i3, g3, evb (l4Safe_ev s hsl) (evb q ?_), by omega, hi3⟩
      simp only [e2, Option.bind_some, if_neg d0, if_pos d1, e3]
      exact evc fun k => rfl
    · by_cases d2 : y = 2
      · obtain ⟨z, i3, g3, e3, hz, hi3⟩ := l1PickInt_ok c i2 g2 [99, 100, (-1)] hc hi2.1 hi2.2 (by decide)
        refine ⟨r, l.set (0 : Int).toNat z, i3, g3, evb (l4Safe_ev s hsl) (evb q ?_), by simp; omega, hi3⟩
        simp only [e2, Option.bind_some, if_neg d0, if_neg d1, if_pos d2, e3, if_pos (show 0 < (l.length : Int) by omega)]
        exact evc fun k => rfl
      · refine ⟨r, l, i2, g2, evb (l4Safe_ev s hsl) (evb q ?_), by omega, hi2⟩
        simp only [e2, Option.bind_some, if_neg d0, if_neg d1, if_neg d2]
        exact evc fun k => rfl
/-! ### Facts that are added are there, and removing them again leads back -/
theorem mAll2_refl {α : Type} (p : α → α → Bool) (hp : ∀ x, p x x = true) : ∀ l : List α, mAll2 p l l = true
  | [] => by simp [mAll2]
  | x :: xs => by simp [mAll2, hp x, mAll2_refl p hp xs]
theorem mEqL_refl {α : Type} (p : α → α → Bool) (hp : ∀ x, p x x = true) (l : List α) : mEqL p l l = true := by
  simp [mEqL, mAll2_refl p hp l]
theorem mEqFact_refl (x : S37) : mEqFact x x = true := by simp [mEqFact]
theorem mFact_eq {x f : S37} : (x.f0 = f.f0 ∧ x.f1 = f.f1) ↔ x = f := by
  obtain ⟨a, b⟩ := x
  obtain ⟨c, d⟩ := f
  simp
theorem mHas_put (f : S37) (d : List S37) : mHas (mPutF f d) f.f0 f.f1 = true := by
  unfold mHas
  rw [List.any_eq_true]
  refine ⟨f, (mPutF_perm f d).mem_iff.2 (by simp), by simp⟩
theorem mRem_not {d : List S37} {f : S37} (h : mHas d f.f0 f.f1 = false) : mRem d f.f0 f.f1 = d := by
  unfold mRem
  rw [List.filter_eq_self]
  intro x hx
  unfold mHas at h
  rw [List.any_eq_false] at h
  have h2 : ¬ (x.f0 = f.f0 ∧ x.f1 = f.f1) := by simpa using h x hx
  rw [decide_eq_false h2]; rfl
theorem mRem_put (f : S37) : ∀ d : List S37, mHas d f.f0 f.f1 = false → mRem (mPutF f d) f.f0 f.f1 = d
  | [], _ => by simp [mPutF, mRem]
  | x :: xs, h => by
    have hx : ¬ (x.f0 = f.f0 ∧ x.f1 = f.f1) := by
      unfold mHas at h
      rw [List.any_eq_false] at h
      simpa using h x List.mem_cons_self
    have hxs : mHas xs f.f0 f.f1 = false := by
      unfold mHas at h ⊢
      rw [List.any_eq_false] at h ⊢
      exact fun y hy => h y (List.mem_cons_of_mem _ hy)
    unfold mPutF
    by_cases c : mFLess x f = true
    · rw [if_pos c, mRem_cons, if_neg hx, mRem_put f xs hxs]
    · rw [if_neg c, mRem_cons, if_pos ⟨rfl, rfl⟩]
      exact mRem_not h
theorem mDb_put (s : List Int) (f : S37) (hf : mIsFact s f.f0 f.f1 = true) : ∀ (d : List S37) (p : Option S37), mDb s p d = true → mHas d f.f0 f.f1 = false → (∀ q, p = some q → mFLess q f = true) → mDb s p (mPutF f d) = true
  | [], none, _, _, _ => by simp [mPutF, mDb, hf]
  | [], some q, _, _, hq => by simp [mPutF, mDb, hf, hq q rfl]
  | x :: xs, p, h, hn, hq => by
    have hx : ¬ (x.f0 = f.f0 ∧ x.f1 = f.f1) := by
      unfold mHas at hn
      rw [List.any_eq_false] at hn
      simpa using hn x List.mem_cons_self
    have hxs : mHas xs f.f0 f.f1 = false := by
      unfold mHas at hn ⊢
      rw [List.any_eq_false] at hn ⊢
      exact fun y hy => hn y (List.mem_cons_of_mem _ hy)
    unfold mPutF
    by_cases c : mFLess x f = true
    · rw [if_pos c]
      cases p with
      | none =>
        simp only [mDb, Bool.and_eq_true] at h ⊢
        exact ⟨h.1, mDb_put s f hf xs (some x) h.2 hxs (fun q hq => by injection hq with hq; rw [← hq]; exact c)⟩
      | some q =>
        simp only [mDb, Bool.and_eq_true] at h ⊢
        exact ⟨h.1, h.2.1, mDb_put s f hf xs (some x) h.2.2 hxs (fun q hq => by injection hq with hq; rw [← hq]; exact c)⟩
    · rw [if_neg c]
      have hfx : mFLess f x = true := by
        cases e : mFLess f x with
        | true => rfl
        | false => exact absurd (mFact_eq.2 (mFLess_tot.cn x f (Bool.eq_false_iff.2 c) e)) hx
      cases p with
      | none =>
        simp only [mDb, Bool.and_eq_true] at h ⊢
        exact ⟨hf, h.1, hfx, h.2⟩
      | some q =>
        simp only [mDb, Bool.and_eq_true] at h ⊢
        exact ⟨hf, hq q rfl, h.1, hfx, h.2.2⟩
/-- What holds of a fact that fits. -/
theorem mFits_law {s : List Int} {d : List S37} {f : S37} (h : mFits s d f = true) :
    mRemove s (mPutF f d) f.f0 f.f1 = (d, true) ∧ mHas (mPutF f d) f.f0 f.f1 = true ∧ mHas d f.f0 f.f1 = false ∧ mIsDb s (mPutF f d) = true ∧ (mPutF f d).length = d.length + 1 ∧ (d.length : Int) < 24 := by
  unfold mFits at h
  simp only [Bool.and_eq_true, Bool.not_eq_true', decide_eq_true_eq] at h
  obtain ⟨h1, h2, h3, h4⟩ := h
  have hl : (mPutF f d).length = d.length + 1 := by have := (mPutF_perm f d).length_eq; simpa using this
  have hd : mIsDb s (mPutF f d) = true := by
    unfold mIsDb at h1 ⊢
    simp only [Bool.and_eq_true, decide_eq_true_eq] at h1 ⊢
    exact ⟨mDb_put s f h2 d none h1.1 h3 (fun q hq => by cases hq), h1.2.1, by omega⟩
  refine ⟨?_, mHas_put f d, h3, hd, hl, h4⟩
  unfold mRemove
  rw [hd, mHas_put f d, mRem_put f d h3]
  rfl
theorem mRemove_gone {s : List Int} {d e : List S37} {r : Int} {l : List Int} (h : mRemove s d r l = (e, true)) : mHas e r l = false := by
  unfold mRemove at h
  by_cases c : (mIsDb s d && mHas d r l) = true
  · rw [if_pos c] at h
    injection h with h1 _
    rw [← h1]
    unfold mHas mRem
    rw [List.any_eq_false]
    intro x hx
    have h3 := (List.mem_filter.1 hx).2
    intro h2
    rw [h2] at h3
    cases h3
  · rw [if_neg c] at h
    injection h with _ h2
    cases h2

end Go.Proofs.Ytfelabhakgcifaa.Pure
