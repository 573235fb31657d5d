/- The pure statement of the law FnExactIsFact: the program's function and the reference's agree, for all arguments within the row's bounds. -/
import Derived.Test.YtanmidjjcfkpeaaQFnExactIsFactx4
import Derived.Test.YtanmidjjcfkpeaaMine
import Derived.Test.YtanmidjjcfkpeaaOpen
set_option linter.unusedVariables false
set_option linter.unusedSimpArgs false
namespace Go.Proofs.Ytanmidjjcfkpeaa.Pure
open Go.RowKit Go.Proofs.Ytanmidjjcfkpeaa.QFnExactIsFact Go.Proofs.YtanmidjjcfkpeaaW.PrintWords Go.Proofs.YtanmidjjcfkpeaaW.PrintLast Go.Proofs.Ytanmidjjcfkpeaa.Mine Go.Proofs.Ytanmidjjcfkpeaa.Open

theorem szIntS_eq (l : List Int) (a : Int) (h : l.length ≤ maxLen) (h0 : 0 ≤ a) (h1 : a ≤ 1048576) : laws_szIntS.f l a = some (mSz l a) := by
  unfold maxLen at h
  unfold laws_szIntS.f mSz
  rw [w64 (by omega) (by omega)]
  by_cases hc : (l.length : Int) ≤ a
  · rw [if_neg (by omega), if_pos hc]
  · rw [if_pos (by omega), if_neg hc]

/-! ### A copy of a list -/
theorem toIntS_l0 (suf : List Int) : ∀ pre : List Int, (pre ++ suf).length ≤ 17592186044416 → Ev (fun k => laws_toIntS.l0 k (pre ++ suf) (pre ++ List.replicate suf.length 0) (pre.length : Int)) (pre ++ suf) := by
  induction suf with
  | nil =>
    intro pre h
    simp only [List.append_nil, List.length_nil, List.replicate_zero]
    refine evn fun k => ?_
    simp only [laws_toIntS.l0]
    rw [if_neg (end_not _)]
  | cons a t ih =>
    intro pre h
    have h1 := ih (pre ++ [a]) (by simpa using h)
    have hl : pre.length ≤ 140737488355328 := by simp at h; omega
    refine Ev.step (fun k => ?_) (by simpa using h1)
    simp only [laws_toIntS.l0]
    rw [if_pos (mid_lt _ _ _), if_pos (len_nonneg _)]
    simp only [List.length_cons, List.replicate_succ]
    rw [if_pos (mid_lt _ _ _), rd_mid, set_mid, iw (a := a) hl]
    simp
theorem toIntS_ev (l : List Int) (h : l.length ≤ 17592186044416) : Ev (fun k => laws_toIntS.f k l) l := by
  have h1 := toIntS_l0 l [] (by simpa using h)
  refine Ev.congr (fun k => ?_) h1
  unfold laws_toIntS.f
  rw [if_pos (by omega), if_pos (by simp; omega)]
  simp

/-! ### Equal lists -/
theorem eqIntS_l0 (suf : List Int) : ∀ (pre suf2 pre2 : List Int), pre.length = pre2.length → suf.length = suf2.length → (pre ++ suf).length ≤ 17592186044416 →
    Ev (fun k => laws_eqIntS.l0 k (pre ++ suf) (pre2 ++ suf2) (pre.length : Int)) (decide (suf = suf2)) := by
  induction suf with
  | nil =>
    intro pre suf2 pre2 hp hs h
    obtain rfl : suf2 = [] := List.eq_nil_of_length_eq_zero (by simpa using hs.symm)
    simp only [List.append_nil]
    refine evn fun k => ?_
    simp only [laws_eqIntS.l0]
    rw [if_neg (end_not _)]; simp
  | cons a t ih =>
    intro pre suf2 pre2 hp hs h
    obtain ⟨b, t2, rfl⟩ : ∃ b t2, suf2 = b :: t2 := by cases suf2 with
      | nil => simp at hs
      | cons b t2 => exact ⟨b, t2, rfl⟩
    have hl : pre.length ≤ 140737488355328 := by simp at h; omega
    have r1 : rd (pre2 ++ b :: t2) (pre.length : Int) = b := by rw [hp]; exact rd_mid _ _ _
    have l1 : (pre.length : Int) < ((pre2 ++ b :: t2).length : Int) := by rw [hp]; exact mid_lt _ _ _
    by_cases hab : a = b
    · subst hab
      have h1 := ih (pre ++ [a]) t2 (pre2 ++ [a]) (by simpa using hp) (by simpa using hs) (by simpa using h)
      have e : decide (a :: t = a :: t2) = decide (t = t2) := by simp
      rw [e]
      refine Ev.step (fun k => ?_) (by simpa using h1)
      simp only [laws_eqIntS.l0]
      rw [if_pos (mid_lt _ _ _), if_pos (len_nonneg _), if_pos l1, rd_mid, r1, if_pos rfl, iw (a := a) hl]
      simp
    · have e : decide (a :: t = b :: t2) = false := by simp [hab]
      rw [e]
      refine evn fun k => ?_
      simp only [laws_eqIntS.l0]
      rw [if_pos (mid_lt _ _ _), if_pos (len_nonneg _), if_pos l1, rd_mid, r1, if_neg hab]
theorem eqIntS_ev (l l2 : List Int) (h : l.length ≤ 17592186044416) : Ev (fun k => laws_eqIntS.f k l l2) (decide (l = l2)) := by
  by_cases hl : l.length = l2.length
  · have h1 := eqIntS_l0 l [] l2 [] rfl hl (by simpa using h)
    refine Ev.congr (fun k => ?_) h1
    unfold laws_eqIntS.f
    rw [if_pos (by omega)]
    simp
  · have e : decide (l = l2) = false := by simp; intro h; exact hl (by rw [h])
    rw [e]
    refine evc fun k => ?_
    unfold laws_eqIntS.f
    rw [if_neg (by omega)]

theorem szSchema_eq (l : List Int) (a : Int) (h : l.length ≤ maxLen) (h0 : 0 ≤ a) (h1 : a ≤ 1048576) : laws_szSchema.f l a = some (mSz l a) := by
  unfold laws_szSchema.f
  rw [szIntS_eq l a h h0 h1]
  simp only [Option.bind_some]
  unfold mSz
  by_cases hc : (l.length : Int) ≤ a
  · simp only [if_pos hc]; rw [if_neg (by omega)]
  · simp only [if_neg hc]; rfl
theorem toSchema_ev (l : List Int) (h : l.length ≤ 17592186044416) : Ev (fun k => laws_toSchema.f k l) l := by
  unfold laws_toSchema.f
  refine evb (toIntS_ev l h) ?_
  exact evc fun k => rfl
theorem eqSchema_ev (l m : List Int) (h : l.length ≤ 17592186044416) : Ev (fun k => laws_eqSchema.f k l m) (decide (l = m)) := by
  unfold laws_eqSchema.f
  refine evb (eqIntS_ev l m h) ?_
  refine evc fun k => ?_
  by_cases e : l = m
  · simp [e]
  · simp [e]
theorem szSchema_ok (l : List Int) (a : Int) (w : (WfL WfI) l) (h0 : 0 ≤ a) (h1 : a ≤ 1048576) : ∃ t, Ev (fun _ : Nat => laws_szSchema.f l a) t ∧ (t < 0 ∨ 0 ≤ t ∧ t ≤ a ∧ l.length ≤ 1048576) := by
  refine ⟨mSz l a, evc fun k => szSchema_eq l a w.2 h0 h1, ?_⟩
  unfold mSz
  by_cases hc : (l.length : Int) ≤ a
  · rw [if_pos hc]; right; omega
  · rw [if_neg hc]; left; omega

theorem szFact_eq (r : Int) (l : List Int) (a : Int) (h : l.length ≤ maxLen) (h0 : 0 ≤ a) (h1 : a ≤ 1048576) : laws_szFact.f r l a = some (mSz l a) := by
  unfold laws_szFact.f
  rw [szIntS_eq l a h h0 h1]
  simp only [Option.bind_some]
  unfold mSz
  by_cases hc : (l.length : Int) ≤ a
  · simp only [if_pos hc]; rw [if_neg (by omega)]
  · simp only [if_neg hc]; rfl
theorem toFact_ev (r : Int) (l : List Int) (h : l.length ≤ 17592186044416) : Ev (fun k => laws_toFact.f k r l) (r, l) := by
  unfold laws_toFact.f
  refine evb (toIntS_ev l h) ?_
  exact evc fun k => rfl
theorem eqFact_ev (r : Int) (l : List Int) (q : Int) (m : List Int) (h : l.length ≤ 17592186044416) : Ev (fun k => laws_eqFact.f k r l q m) (decide (r = q ∧ l = m)) := by
  unfold laws_eqFact.f
  by_cases hr : r = q
  · simp only [if_pos hr]
    refine evb (eqIntS_ev l m h) ?_
    refine evc fun k => ?_
    by_cases e : l = m
    · simp [e, hr]
    · simp [e]
  · simp only [if_neg hr]
    refine evc fun k => ?_
    simp [hr]
theorem szFact_ok (r : Int) (l : List Int) (a : Int) (w : (WfL WfI) l) (h0 : 0 ≤ a) (h1 : a ≤ 1048576) : ∃ t, Ev (fun _ : Nat => laws_szFact.f r l a) t ∧ (t < 0 ∨ 0 ≤ t ∧ t ≤ a ∧ l.length ≤ 1048576) := by
  refine ⟨mSz l a, evc fun k => szFact_eq r l a w.2 h0 h1, ?_⟩
  unfold mSz
  by_cases hc : (l.length : Int) ≤ a
  · rw [if_pos hc]; right; omega
  · rw [if_neg hc]; left; omega

theorem l1In_eq (x lo hi : Int) : spec_l1In.f x lo hi = some (decide (lo ≤ x ∧ x ≤ hi)) := by
  unfold spec_l1In.f
  by_cases h : x ≥ lo
  · rw [if_pos h]; congr 1; simp; omega
  · rw [if_neg h]; congr 1; simp; omega

theorem within_eq (x lo hi : Int) : impl_within.f x lo hi = some (decide (lo ≤ x ∧ x ≤ hi)) := by
  unfold impl_within.f
  by_cases h : x ≥ lo
  · rw [if_pos h]; congr 1; simp; omega
  · rw [if_neg h]; congr 1; simp; omega

/-! ### Terms -/

/-! ### IsSchema -/
theorem specSchema_ev (l : List Int) (h : l.length ≤ 140737488355328) : Ev (fun k => spec_IsSchema.f k l) (mIsSchema l) := by
  have key := idx_ind l (fun pre suf => Ev (fun k => spec_IsSchema.l0 k (pre.length : Int) l) (suf.all (fun n => decide (1 ≤ n ∧ n ≤ 3)) && decide (1 ≤ (l.length : Int) ∧ (l.length : Int) ≤ 4))) ?_ ?_
  · exact key
  · refine evn fun k => ?_
    simp only [spec_IsSchema.l0]
    rw [if_neg (end_not _), l1In_eq]
    simp
  · intro pre a suf e ih
    by_cases hp : 1 ≤ a ∧ a ≤ 3
    · have ht : ((a :: suf).all (fun n => decide (1 ≤ n ∧ n ≤ 3)) && decide (1 ≤ (l.length : Int) ∧ (l.length : Int) ≤ 4)) = (suf.all (fun n => decide (1 ≤ n ∧ n ≤ 3)) && decide (1 ≤ (l.length : Int) ∧ (l.length : Int) ≤ 4)) := by simp [hp]
      rw [ht]
      refine Ev.step (fun k => ?_) ih
      simp only [spec_IsSchema.l0]
      rw [if_pos (lt_of e), if_pos (len_nonneg _), rd_of e, l1In_eq, nx_of e h]
      simp [hp]
    · have ht : ((a :: suf).all (fun n => decide (1 ≤ n ∧ n ≤ 3)) && decide (1 ≤ (l.length : Int) ∧ (l.length : Int) ≤ 4)) = false := by simp [hp]
      rw [ht]
      refine evn fun k => ?_
      simp only [spec_IsSchema.l0]
      rw [if_pos (lt_of e), if_pos (len_nonneg _), rd_of e, l1In_eq]
      simp [hp]
theorem implSchema_ev (l : List Int) (h : l.length ≤ 140737488355328) : Ev (fun k => impl_IsSchema.f k l) (mIsSchema l) := by
  have key := idx_ind l (fun pre suf => Ev (fun k => impl_IsSchema.l0 k l (l.length : Int) (pre.length : Int) l) (suf.all (fun n => decide (1 ≤ n ∧ n ≤ 3)) && decide (1 ≤ (l.length : Int) ∧ (l.length : Int) ≤ 4))) ?_ ?_
  · exact key
  · refine evn fun k => ?_
    simp only [impl_IsSchema.l0]
    rw [if_neg (end_not _), within_eq]
    simp
  · intro pre a suf e ih
    by_cases hp : 1 ≤ a ∧ a ≤ 3
    · have ht : ((a :: suf).all (fun n => decide (1 ≤ n ∧ n ≤ 3)) && decide (1 ≤ (l.length : Int) ∧ (l.length : Int) ≤ 4)) = (suf.all (fun n => decide (1 ≤ n ∧ n ≤ 3)) && decide (1 ≤ (l.length : Int) ∧ (l.length : Int) ≤ 4)) := by simp [hp]
      rw [ht]
      refine Ev.step (fun k => ?_) ih
      simp only [impl_IsSchema.l0]
      rw [if_pos (lt_of e), if_pos (len_nonneg _), if_pos (lt_of e), rd_of e, within_eq, nx_of e h]
      simp [hp]
    · have ht : ((a :: suf).all (fun n => decide (1 ≤ n ∧ n ≤ 3)) && decide (1 ≤ (l.length : Int) ∧ (l.length : Int) ≤ 4)) = false := by simp [hp]
      rw [ht]
      refine evn fun k => ?_
      simp only [impl_IsSchema.l0]
      rw [if_pos (lt_of e), if_pos (len_nonneg _), if_pos (lt_of e), rd_of e, within_eq]
      simp [hp]

theorem specIsFact_l0 (r : Int) (l : List Int) (h : l.length ≤ 140737488355328) : Ev (fun k => spec_IsFact.l0 k 0 r l) (l.all (fun x => decide (0 ≤ x ∧ x ≤ 99))) := by
  refine idx_ind l (fun pre suf => Ev (fun k => spec_IsFact.l0 k (pre.length : Int) r l) (suf.all (fun x => decide (0 ≤ x ∧ x ≤ 99)))) ?_ ?_
  · refine evn fun k => ?_
    simp only [spec_IsFact.l0]
    rw [if_neg (end_not _)]; rfl
  · intro pre a suf e ih
    by_cases hp : 0 ≤ a ∧ a ≤ 99
    · rw [show (a :: suf).all (fun x => decide (0 ≤ x ∧ x ≤ 99)) = suf.all (fun x => decide (0 ≤ x ∧ x ≤ 99)) by simp [hp]]
      refine Ev.step (fun k => ?_) ih
      simp only [spec_IsFact.l0]
      rw [if_pos (lt_of e), if_pos (len_nonneg _), rd_of e, l1In_eq, nx_of e h]
      simp [hp]
    · rw [show (a :: suf).all (fun x => decide (0 ≤ x ∧ x ≤ 99)) = false by simp [hp]]
      refine evn fun k => ?_
      simp only [spec_IsFact.l0]
      rw [if_pos (lt_of e), if_pos (len_nonneg _), rd_of e, l1In_eq]
      simp [hp]
theorem specIsFact_ev (s : List Int) (r : Int) (l : List Int) (hs : s.length ≤ 140737488355328) (h : l.length ≤ 140737488355328) : Ev (fun k => spec_IsFact.f k s r l) (mIsFact s r l) := by
  unfold spec_IsFact.f mIsFact mTakes
  refine evb (specSchema_ev s hs) ?_
  have jt : Ev (fun k => spec_IsFact.j0 k true r l) false := evn fun k => by simp only [spec_IsFact.j0]; rw [if_pos trivial]
  by_cases c1 : mIsSchema s = true
  · simp only [c1, if_true, l1In_eq, Option.bind_some]
    rw [w64 (by omega) (by omega)]
    by_cases c2 : 0 ≤ r ∧ r < (s.length : Int)
    · have c2' : 0 ≤ r ∧ r ≤ (s.length : Int) - 1 := by omega
      rw [show decide (0 ≤ r ∧ r < (s.length : Int)) = true from decide_eq_true c2]
      simp only [c2', and_self, decide_true, if_true, if_pos c2.1, if_pos c2.2]
      by_cases c3 : rd s r = (l.length : Int)
      · rw [c3]
        simp only [bne_self_eq_false, decide_true, Bool.true_and]
        refine Ev.step (fun k => ?_) (specIsFact_l0 r l h)
        simp only [spec_IsFact.j0]
        rw [if_neg (by simp)]
      · rw [show ((l.length : Int) != rd s r) = true by simp; omega, show decide (rd s r = (l.length : Int)) = false from decide_eq_false c3]
        simpa using jt
    · have c2' : ¬ (0 ≤ r ∧ r ≤ (s.length : Int) - 1) := by omega
      simp only [c2', decide_false, Bool.false_eq_true, if_false]
      rw [show decide (0 ≤ r ∧ r < (s.length : Int)) = false from decide_eq_false c2]
      simpa using jt
  · simp only [if_neg c1]
    rw [show mIsSchema s = false by simpa using c1]
    simpa using jt
theorem implTakes_ev (s : List Int) (r n : Int) (hs : s.length ≤ 140737488355328) : Ev (fun k => impl_Schema_takes.f k s r n) (mTakes s r n) := by
  unfold impl_Schema_takes.f mTakes
  refine evb (implSchema_ev s hs) ?_
  by_cases c1 : mIsSchema s = true
  · simp only [c1, if_true, within_eq, Option.bind_some]
    rw [w64 (by omega) (by omega)]
    by_cases c2 : 0 ≤ r ∧ r < (s.length : Int)
    · have c2' : 0 ≤ r ∧ r ≤ (s.length : Int) - 1 := by omega
      rw [show decide (0 ≤ r ∧ r < (s.length : Int)) = true from decide_eq_true c2]
      simp only [c2', and_self, decide_true, if_true, if_pos c2.1, if_pos c2.2]
      refine evc fun k => ?_
      simp only [Bool.true_and]
      rfl
    · have c2' : ¬ (0 ≤ r ∧ r ≤ (s.length : Int) - 1) := by omega
      simp only [c2', decide_false, Bool.false_eq_true, if_false]
      refine evc fun k => ?_
      rw [show decide (0 ≤ r ∧ r < (s.length : Int)) = false from decide_eq_false c2]
      simp
  · simp only [if_neg c1]
    refine evc fun k => ?_
    rw [show mIsSchema s = false by simpa using c1]
    simp
theorem areValues_ev (l : List Int) (h : l.length ≤ 140737488355328) : Ev (fun k => impl_areValues.f k l) (l.all (fun x => decide (0 ≤ x ∧ x ≤ 99))) := by
  refine idx_ind l (fun pre suf => Ev (fun k => impl_areValues.l0 k l (l.length : Int) (pre.length : Int)) (suf.all (fun x => decide (0 ≤ x ∧ x ≤ 99)))) ?_ ?_
  · refine evn fun k => ?_
    simp only [impl_areValues.l0]
    rw [if_neg (end_not _)]; rfl
  · intro pre a suf e ih
    by_cases hp : 0 ≤ a ∧ a ≤ 99
    · rw [show (a :: suf).all (fun x => decide (0 ≤ x ∧ x ≤ 99)) = suf.all (fun x => decide (0 ≤ x ∧ x ≤ 99)) by simp [hp]]
      refine Ev.step (fun k => ?_) ih
      simp only [impl_areValues.l0]
      rw [if_pos (lt_of e), if_pos (len_nonneg _), if_pos (lt_of e), rd_of e, within_eq, nx_of e h]
      simp [hp]
    · rw [show (a :: suf).all (fun x => decide (0 ≤ x ∧ x ≤ 99)) = false by simp [hp]]
      refine evn fun k => ?_
      simp only [impl_areValues.l0]
      rw [if_pos (lt_of e), if_pos (len_nonneg _), if_pos (lt_of e), rd_of e, within_eq]
      simp [hp]
theorem implIsFact_ev (s : List Int) (r : Int) (l : List Int) (hs : s.length ≤ 140737488355328) (h : l.length ≤ 140737488355328) : Ev (fun k => impl_IsFact.f k s r l) (mIsFact s r l) := by
  unfold impl_IsFact.f mIsFact
  refine evb (implTakes_ev s r _ hs) ?_
  by_cases c : mTakes s r (l.length : Int) = true
  · simp only [c, if_true, Bool.true_and]
    refine evb (areValues_ev l h) ?_
    exact evc fun k => rfl
  · simp only [if_neg c]
    refine evc fun k => ?_
    rw [show mTakes s r (l.length : Int) = false by simpa using c]
    simp

theorem FnExactIsFact (s : List Int) (w0 : (WfL WfI) s) (r : Int) (l : List Int) (w1 : WfI r ∧ (WfL WfI) l) : ∃ k, laws_FnExactIsFact.f k s r l = some true := by
  refine Ev.rounds ?_
  unfold laws_FnExactIsFact.f
  obtain ⟨t0, z0, c0⟩ := szSchema_ok s 1048576 w0 (by omega) (by omega)
  refine evb z0 ?_
  rcases c0 with c0 | ⟨p0, q0, hs0⟩
  · simp only [if_pos c0]; exact evc fun k => rfl
  have n0 : ¬ t0 < 0 := by omega
  simp only [if_neg n0]
  obtain ⟨t1, z1, c1⟩ := szFact_ok r l t0 w1.2 (by omega) (by omega)
  refine evb z1 ?_
  rcases c1 with c1 | ⟨p1, q1, hs1⟩
  · simp only [if_pos c1]; exact evc fun k => rfl
  have n1 : ¬ t1 < 0 := by omega
  simp only [if_neg n1]
  refine evb (toSchema_ev s (by omega)) ?_
  refine evb (toFact_ev r l (by omega)) ?_
  refine evb (specIsFact_ev s r l (by omega) (by omega)) ?_
  refine evb (toSchema_ev s (by omega)) ?_
  refine evb (toFact_ev r l (by omega)) ?_
  refine evb (implIsFact_ev s r l (by omega) (by omega)) ?_
  simp only [bne_self_eq_false, Bool.false_eq_true, if_false]
  refine evb (toSchema_ev s (by omega)) ?_
  refine evb (eqSchema_ev s s (by omega)) ?_
  simp only [and_self, decide_true, if_true]
  refine evb (toFact_ev r l (by omega)) ?_
  refine evb (eqFact_ev r l r l (by omega)) ?_
  simp only [and_self, decide_true, if_true]
  exact evc fun k => rfl

end Go.Proofs.Ytanmidjjcfkpeaa.Pure
