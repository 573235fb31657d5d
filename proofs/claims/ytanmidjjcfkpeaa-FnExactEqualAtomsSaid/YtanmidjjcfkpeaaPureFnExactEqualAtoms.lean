/- The pure statement of the law FnExactEqualAtoms: the program's function and the reference's agree, for all arguments within the row's bounds. -/
import Derived.Test.YtanmidjjcfkpeaaQFnExactEqualAtomsx2
import Derived.Test.YtanmidjjcfkpeaaMine
import Derived.Test.YtanmidjjcfkpeaaOpen
set_option linter.unusedVariables false
set_option linter.unusedSimpArgs false
namespace Go.Proofs.Ytanmidjjcfkpeaa.Pure
open Go.RowKit Go.Proofs.Ytanmidjjcfkpeaa.QFnExactEqualAtoms Go.Proofs.YtanmidjjcfkpeaaW.PrintWords Go.Proofs.YtanmidjjcfkpeaaW.PrintLast Go.Proofs.Ytanmidjjcfkpeaa.Mine Go.Proofs.Ytanmidjjcfkpeaa.Open

theorem szIntS_eq (l : List Int) (a : Int) (h : l.length ≤ maxLen) (h0 : 0 ≤ a) (h1 : a ≤ 1048576) : laws_szIntS.f l a = some (mSz l a) := by
  unfold maxLen at h
  unfold laws_szIntS.f mSz
  rw [w64 (by omega) (by omega)]
  by_cases hc : (l.length : Int) ≤ a
  · rw [if_neg (by omega), if_pos hc]
  · rw [if_pos (by omega), if_neg hc]

/-! ### A copy of a list -/
theorem toIntS_l0 (suf : List Int) : ∀ pre : List Int, (pre ++ suf).length ≤ 17592186044416 → Ev (fun k => laws_toIntS.l0 k (pre ++ suf) (pre ++ List.replicate suf.length 0) (pre.length : Int)) (pre ++ suf) := by
  induction suf with
  | nil =>
    intro pre h
    simp only [List.append_nil, List.length_nil, List.replicate_zero]
    refine evn fun k => ?_
    simp only [laws_toIntS.l0]
    rw [if_neg (end_not _)]
  | cons a t ih =>
    intro pre h
    have h1 := ih (pre ++ [a]) (by simpa using h)
    have hl : pre.length ≤ 140737488355328 := by simp at h; omega
    refine Ev.step (fun k => ?_) (by simpa using h1)
    simp only [laws_toIntS.l0]
    rw [if_pos (mid_lt _ _ _), if_pos (len_nonneg _)]
    simp only [List.length_cons, List.replicate_succ]
    rw [if_pos (mid_lt _ _ _), rd_mid, set_mid, iw (a := a) hl]
    simp
theorem toIntS_ev (l : List Int) (h : l.length ≤ 17592186044416) : Ev (fun k => laws_toIntS.f k l) l := by
  have h1 := toIntS_l0 l [] (by simpa using h)
  refine Ev.congr (fun k => ?_) h1
  unfold laws_toIntS.f
  rw [if_pos (by omega), if_pos (by simp; omega)]
  simp

/-! ### Equal lists -/
theorem eqIntS_l0 (suf : List Int) : ∀ (pre suf2 pre2 : List Int), pre.length = pre2.length → suf.length = suf2.length → (pre ++ suf).length ≤ 17592186044416 →
    Ev (fun k => laws_eqIntS.l0 k (pre ++ suf) (pre2 ++ suf2) (pre.length : Int)) (decide (suf = suf2)) := by
  induction suf with
  | nil =>
    intro pre suf2 pre2 hp hs h
    obtain rfl : suf2 = [] := List.eq_nil_of_length_eq_zero (by simpa using hs.symm)
    simp only [List.append_nil]
    refine evn fun k => ?_
    simp only [laws_eqIntS.l0]
    rw [if_neg (end_not _)]; simp
  | cons a t ih =>
    intro pre suf2 pre2 hp hs h
    obtain ⟨b, t2, rfl⟩ : ∃ b t2, suf2 = b :: t2 := by cases suf2 with
      | nil => simp at hs
      | cons b t2 => exact ⟨b, t2, rfl⟩
    have hl : pre.length ≤ 140737488355328 := by simp at h; omega
    have r1 : rd (pre2 ++ b :: t2) (pre.length : Int) = b := by rw [hp]; exact rd_mid _ _ _
    have l1 : (pre.length : Int) < ((pre2 ++ b :: t2).length : Int) := by rw [hp]; exact mid_lt _ _ _
    by_cases hab : a = b
    · subst hab
      have h1 := ih (pre ++ [a]) t2 (pre2 ++ [a]) (by simpa using hp) (by simpa using hs) (by simpa using h)
      have e : decide (a :: t = a :: t2) = decide (t = t2) := by simp
      rw [e]
      refine Ev.step (fun k => ?_) (by simpa using h1)
      simp only [laws_eqIntS.l0]
      rw [if_pos (mid_lt _ _ _), if_pos (len_nonneg _), if_pos l1, rd_mid, r1, if_pos rfl, iw (a := a) hl]
      simp
    · have e : decide (a :: t = b :: t2) = false := by simp [hab]
      rw [e]
      refine evn fun k => ?_
      simp only [laws_eqIntS.l0]
      rw [if_pos (mid_lt _ _ _), if_pos (len_nonneg _), if_pos l1, rd_mid, r1, if_neg hab]
theorem eqIntS_ev (l l2 : List Int) (h : l.length ≤ 17592186044416) : Ev (fun k => laws_eqIntS.f k l l2) (decide (l = l2)) := by
  by_cases hl : l.length = l2.length
  · have h1 := eqIntS_l0 l [] l2 [] rfl hl (by simpa using h)
    refine Ev.congr (fun k => ?_) h1
    unfold laws_eqIntS.f
    rw [if_pos (by omega)]
    simp
  · have e : decide (l = l2) = false := by simp; intro h; exact hl (by rw [h])
    rw [e]
    refine evc fun k => ?_
    unfold laws_eqIntS.f
    rw [if_neg (by omega)]

theorem szAtom_eq (r : Int) (l : List Int) (a : Int) (h : l.length ≤ maxLen) (h0 : 0 ≤ a) (h1 : a ≤ 1048576) : laws_szAtom.f r l a = some (mSz l a) := by
  unfold laws_szAtom.f
  rw [szIntS_eq l a h h0 h1]
  simp only [Option.bind_some]
  unfold mSz
  by_cases hc : (l.length : Int) ≤ a
  · simp only [if_pos hc]; rw [if_neg (by omega)]
  · simp only [if_neg hc]; rfl
theorem toAtom_ev (r : Int) (l : List Int) (h : l.length ≤ 17592186044416) : Ev (fun k => laws_toAtom.f k r l) (r, l) := by
  unfold laws_toAtom.f
  refine evb (toIntS_ev l h) ?_
  exact evc fun k => rfl
theorem eqAtom_ev (r : Int) (l : List Int) (q : Int) (m : List Int) (h : l.length ≤ 17592186044416) : Ev (fun k => laws_eqAtom.f k r l q m) (decide (r = q ∧ l = m)) := by
  unfold laws_eqAtom.f
  by_cases hr : r = q
  · simp only [if_pos hr]
    refine evb (eqIntS_ev l m h) ?_
    refine evc fun k => ?_
    by_cases e : l = m
    · simp [e, hr]
    · simp [e]
  · simp only [if_neg hr]
    refine evc fun k => ?_
    simp [hr]
theorem szAtom_ok (r : Int) (l : List Int) (a : Int) (w : (WfL WfI) l) (h0 : 0 ≤ a) (h1 : a ≤ 1048576) : ∃ t, Ev (fun _ : Nat => laws_szAtom.f r l a) t ∧ (t < 0 ∨ 0 ≤ t ∧ t ≤ a ∧ l.length ≤ 1048576) := by
  refine ⟨mSz l a, evc fun k => szAtom_eq r l a w.2 h0 h1, ?_⟩
  unfold mSz
  by_cases hc : (l.length : Int) ≤ a
  · rw [if_pos hc]; right; omega
  · rw [if_neg hc]; left; omega

theorem l2Ints_ev (l m : List Int) (h : l.length ≤ 140737488355328) : Ev (fun k => spec_l2Ints.f k l m) (decide (l = m)) := by
  by_cases hl : l.length = m.length
  · have key := idx_ind l (fun pre suf => ∀ pre2 suf2, m = pre2 ++ suf2 → pre2.length = pre.length → Ev (fun k => spec_l2Ints.l0 k l m (pre.length : Int)) (decide (suf = suf2))) ?_ ?_
    · have r := key [] m rfl rfl
      refine Ev.congr (fun k => ?_) r
      unfold spec_l2Ints.f
      rw [if_pos (by omega)]
      rfl
    · intro pre2 suf2 e2 hp
      have : suf2 = [] := by
        have := congrArg List.length e2
        simp at this
        exact List.eq_nil_of_length_eq_zero (by omega)
      subst this
      refine evn fun k => ?_
      simp only [spec_l2Ints.l0]
      rw [if_neg (end_not _)]; simp
    · intro pre a suf e ih pre2 suf2 e2 hp
      obtain ⟨b, t2, rfl⟩ : ∃ b t2, suf2 = b :: t2 := by
        cases suf2 with
        | nil => exfalso; have h1 := congrArg List.length e; have h2 := congrArg List.length e2; simp at h1 h2; omega
        | cons b t2 => exact ⟨b, t2, rfl⟩
      have r2 : rd m (pre.length : Int) = b := by rw [← hp]; exact rd_of e2
      have l2 : (pre.length : Int) < (m.length : Int) := by rw [← hp]; exact lt_of e2
      by_cases hab : a = b
      · subst hab
        have r := ih (pre2 ++ [a]) t2 (by rw [e2]; simp) (by simp [hp])
        have ed : decide (a :: suf = a :: t2) = decide (suf = t2) := by simp
        rw [ed]
        refine Ev.step (fun k => ?_) r
        simp only [spec_l2Ints.l0]
        rw [if_pos (lt_of e), if_pos (len_nonneg _), if_pos l2, rd_of e, r2, if_pos rfl, nx_of e h]
      · have ed : decide (a :: suf = b :: t2) = false := by simp [hab]
        rw [ed]
        refine evn fun k => ?_
        simp only [spec_l2Ints.l0]
        rw [if_pos (lt_of e), if_pos (len_nonneg _), if_pos l2, rd_of e, r2, if_neg hab]
  · have e : decide (l = m) = false := by simp; intro h; exact hl (by rw [h])
    rw [e]
    refine evc fun k => ?_
    unfold spec_l2Ints.f
    rw [if_neg (by omega)]

theorem slEqual_ev (l m : List Int) (h : l.length ≤ 140737488355328) : Ev (fun k => slices_Equal_int_int.f k l m) (decide (l = m)) := by
  by_cases hl : l.length = m.length
  · have key := idx_ind l (fun pre suf => ∀ pre2 suf2, m = pre2 ++ suf2 → pre2.length = pre.length → Ev (fun k => slices_Equal_int_int.l0 k l m (l.length : Int) (pre.length : Int)) (decide (suf = suf2))) ?_ ?_
    · have r := key [] m rfl rfl
      refine Ev.congr (fun k => ?_) r
      unfold slices_Equal_int_int.f
      rw [if_pos (by omega)]
      rfl
    · intro pre2 suf2 e2 hp
      have : suf2 = [] := by
        have := congrArg List.length e2
        simp at this
        exact List.eq_nil_of_length_eq_zero (by omega)
      subst this
      refine evn fun k => ?_
      simp only [slices_Equal_int_int.l0]
      rw [if_neg (end_not _)]; simp
    · intro pre a suf e ih pre2 suf2 e2 hp
      obtain ⟨b, t2, rfl⟩ : ∃ b t2, suf2 = b :: t2 := by
        cases suf2 with
        | nil => exfalso; have h1 := congrArg List.length e; have h2 := congrArg List.length e2; simp at h1 h2; omega
        | cons b t2 => exact ⟨b, t2, rfl⟩
      have r2 : rd m (pre.length : Int) = b := by rw [← hp]; exact rd_of e2
      have l2 : (pre.length : Int) < (m.length : Int) := by rw [← hp]; exact lt_of e2
      by_cases hab : a = b
      · subst hab
        have r := ih (pre2 ++ [a]) t2 (by rw [e2]; simp) (by simp [hp])
        have ed : decide (a :: suf = a :: t2) = decide (suf = t2) := by simp
        rw [ed]
        refine Ev.step (fun k => ?_) r
        simp only [slices_Equal_int_int.l0]
        rw [if_pos (lt_of e), if_pos (len_nonneg _), if_pos (lt_of e), if_pos l2, rd_of e, r2, if_pos rfl, nx_of e h]
      · have ed : decide (a :: suf = b :: t2) = false := by simp [hab]
        rw [ed]
        refine evn fun k => ?_
        simp only [slices_Equal_int_int.l0]
        rw [if_pos (lt_of e), if_pos (len_nonneg _), if_pos (lt_of e), if_pos l2, rd_of e, r2, if_neg hab]
  · have e : decide (l = m) = false := by simp; intro h; exact hl (by rw [h])
    rw [e]
    refine evc fun k => ?_
    unfold slices_Equal_int_int.f
    rw [if_neg (by omega)]

theorem specEqAtoms_ev (r : Int) (l : List Int) (q : Int) (m : List Int) (h : l.length ≤ 140737488355328) : Ev (fun k => spec_EqualAtoms.f k r l q m) (decide (r = q ∧ l = m)) := by
  unfold spec_EqualAtoms.f
  by_cases hr : r = q
  · simp only [if_pos hr]
    refine evb (l2Ints_ev l m h) ?_
    refine evc fun k => ?_
    simp [hr]
  · simp only [if_neg hr]
    refine evc fun k => ?_
    simp [hr]
theorem implEqAtoms_ev (r : Int) (l : List Int) (q : Int) (m : List Int) (h : l.length ≤ 140737488355328) : Ev (fun k => impl_EqualAtoms.f k r l q m) (decide (r = q ∧ l = m)) := by
  unfold impl_EqualAtoms.f
  by_cases hr : r = q
  · simp only [if_pos hr]
    refine evb (slEqual_ev l m h) ?_
    refine evc fun k => ?_
    simp [hr]
  · simp only [if_neg hr]
    refine evc fun k => ?_
    simp [hr]

theorem FnExactEqualAtoms (r : Int) (l : List Int) (w0 : WfI r ∧ (WfL WfI) l) (q : Int) (m : List Int) (w1 : WfI q ∧ (WfL WfI) m) : ∃ k, laws_FnExactEqualAtoms.f k r l q m = some true := by
  refine Ev.rounds ?_
  unfold laws_FnExactEqualAtoms.f
  obtain ⟨t0, z0, c0⟩ := szAtom_ok r l 1048576 w0.2 (by omega) (by omega)
  refine evb z0 ?_
  rcases c0 with c0 | ⟨p0, q0, hs0⟩
  · simp only [if_pos c0]; exact evc fun k => rfl
  have n0 : ¬ t0 < 0 := by omega
  simp only [if_neg n0]
  obtain ⟨t1, z1, c1⟩ := szAtom_ok q m t0 w1.2 (by omega) (by omega)
  refine evb z1 ?_
  rcases c1 with c1 | ⟨p1, q1, hs1⟩
  · simp only [if_pos c1]; exact evc fun k => rfl
  have n1 : ¬ t1 < 0 := by omega
  simp only [if_neg n1]
  refine evb (toAtom_ev r l (by omega)) ?_
  refine evb (toAtom_ev q m (by omega)) ?_
  refine evb (specEqAtoms_ev r l q m (by omega)) ?_
  refine evb (toAtom_ev r l (by omega)) ?_
  refine evb (toAtom_ev q m (by omega)) ?_
  refine evb (implEqAtoms_ev r l q m (by omega)) ?_
  simp only [bne_self_eq_false, Bool.false_eq_true, if_false]
  refine evb (toAtom_ev r l (by omega)) ?_
  refine evb (eqAtom_ev r l r l (by omega)) ?_
  simp only [and_self, decide_true, if_true]
  refine evb (toAtom_ev q m (by omega)) ?_
  refine evb (eqAtom_ev q m q m (by omega)) ?_
  simp only [and_self, decide_true, if_true]
  exact evc fun k => rfl

end Go.Proofs.Ytanmidjjcfkpeaa.Pure
