/- The pure statement of the law FnExactLessAtom: the program's function and the reference's agree, for all arguments within the row's bounds. -/
import Derived.Test.YtanmidjjcfkpeaaQFnExactLessAtomx3
import Derived.Test.YtanmidjjcfkpeaaMine
import Derived.Test.YtanmidjjcfkpeaaOpen
set_option linter.unusedVariables false
set_option linter.unusedSimpArgs false
namespace Go.Proofs.Ytanmidjjcfkpeaa.Pure
open Go.RowKit Go.Proofs.Ytanmidjjcfkpeaa.QFnExactLessAtom Go.Proofs.YtanmidjjcfkpeaaW.PrintWords Go.Proofs.YtanmidjjcfkpeaaW.PrintLast Go.Proofs.Ytanmidjjcfkpeaa.Mine Go.Proofs.Ytanmidjjcfkpeaa.Open

theorem szIntS_eq (l : List Int) (a : Int) (h : l.length ≤ maxLen) (h0 : 0 ≤ a) (h1 : a ≤ 1048576) : laws_szIntS.f l a = some (mSz l a) := by
  unfold maxLen at h
  unfold laws_szIntS.f mSz
  rw [w64 (by omega) (by omega)]
  by_cases hc : (l.length : Int) ≤ a
  · rw [if_neg (by omega), if_pos hc]
  · rw [if_pos (by omega), if_neg hc]

/-! ### A copy of a list -/
theorem toIntS_l0 (suf : List Int) : ∀ pre : List Int, (pre ++ suf).length ≤ 17592186044416 → Ev (fun k => laws_toIntS.l0 k (pre ++ suf) (pre ++ List.replicate suf.length 0) (pre.length : Int)) (pre ++ suf) := by
  induction suf with
  | nil =>
    intro pre h
    simp only [List.append_nil, List.length_nil, List.replicate_zero]
    refine evn fun k => ?_
    simp only [laws_toIntS.l0]
    rw [if_neg (end_not _)]
  | cons a t ih =>
    intro pre h
    have h1 := ih (pre ++ [a]) (by simpa using h)
    have hl : pre.length ≤ 140737488355328 := by simp at h; omega
    refine Ev.step (fun k => ?_) (by simpa using h1)
    simp only [laws_toIntS.l0]
    rw [if_pos (mid_lt _ _ _), if_pos (len_nonneg _)]
    simp only [List.length_cons, List.replicate_succ]
    rw [if_pos (mid_lt _ _ _), rd_mid, set_mid, iw (a := a) hl]
    simp
theorem toIntS_ev (l : List Int) (h : l.length ≤ 17592186044416) : Ev (fun k => laws_toIntS.f k l) l := by
  have h1 := toIntS_l0 l [] (by simpa using h)
  refine Ev.congr (fun k => ?_) h1
  unfold laws_toIntS.f
  rw [if_pos (by omega), if_pos (by simp; omega)]
  simp

/-! ### Equal lists -/
theorem eqIntS_l0 (suf : List Int) : ∀ (pre suf2 pre2 : List Int), pre.length = pre2.length → suf.length = suf2.length → (pre ++ suf).length ≤ 17592186044416 →
    Ev (fun k => laws_eqIntS.l0 k (pre ++ suf) (pre2 ++ suf2) (pre.length : Int)) (decide (suf = suf2)) := by
  induction suf with
  | nil =>
    intro pre suf2 pre2 hp hs h
    obtain rfl : suf2 = [] := List.eq_nil_of_length_eq_zero (by simpa using hs.symm)
    simp only [List.append_nil]
    refine evn fun k => ?_
    simp only [laws_eqIntS.l0]
    rw [if_neg (end_not _)]; simp
  | cons a t ih =>
    intro pre suf2 pre2 hp hs h
    obtain ⟨b, t2, rfl⟩ : ∃ b t2, suf2 = b :: t2 := by cases suf2 with
      | nil => simp at hs
      | cons b t2 => exact ⟨b, t2, rfl⟩
    have hl : pre.length ≤ 140737488355328 := by simp at h; omega
    have r1 : rd (pre2 ++ b :: t2) (pre.length : Int) = b := by rw [hp]; exact rd_mid _ _ _
    have l1 : (pre.length : Int) < ((pre2 ++ b :: t2).length : Int) := by rw [hp]; exact mid_lt _ _ _
    by_cases hab : a = b
    · subst hab
      have h1 := ih (pre ++ [a]) t2 (pre2 ++ [a]) (by simpa using hp) (by simpa using hs) (by simpa using h)
      have e : decide (a :: t = a :: t2) = decide (t = t2) := by simp
      rw [e]
      refine Ev.step (fun k => ?_) (by simpa using h1)
      simp only [laws_eqIntS.l0]
      rw [if_pos (mid_lt _ _ _), if_pos (len_nonneg _), if_pos l1, rd_mid, r1, if_pos rfl, iw (a := a) hl]
      simp
    · have e : decide (a :: t = b :: t2) = false := by simp [hab]
      rw [e]
      refine evn fun k => ?_
      simp only [laws_eqIntS.l0]
      rw [if_pos (mid_lt _ _ _), if_pos (len_nonneg _), if_pos l1, rd_mid, r1, if_neg hab]
theorem eqIntS_ev (l l2 : List Int) (h : l.length ≤ 17592186044416) : Ev (fun k => laws_eqIntS.f k l l2) (decide (l = l2)) := by
  by_cases hl : l.length = l2.length
  · have h1 := eqIntS_l0 l [] l2 [] rfl hl (by simpa using h)
    refine Ev.congr (fun k => ?_) h1
    unfold laws_eqIntS.f
    rw [if_pos (by omega)]
    simp
  · have e : decide (l = l2) = false := by simp; intro h; exact hl (by rw [h])
    rw [e]
    refine evc fun k => ?_
    unfold laws_eqIntS.f
    rw [if_neg (by omega)]

theorem szAtom_eq (r : Int) (l : List Int) (a : Int) (h : l.length ≤ maxLen) (h0 : 0 ≤ a) (h1 : a ≤ 1048576) : laws_szAtom.f r l a = some (mSz l a) := by
  unfold laws_szAtom.f
  rw [szIntS_eq l a h h0 h1]
  simp only [Option.bind_some]
  unfold mSz
  by_cases hc : (l.length : Int) ≤ a
  · simp only [if_pos hc]; rw [if_neg (by omega)]
  · simp only [if_neg hc]; rfl
theorem toAtom_ev (r : Int) (l : List Int) (h : l.length ≤ 17592186044416) : Ev (fun k => laws_toAtom.f k r l) (r, l) := by
  unfold laws_toAtom.f
  refine evb (toIntS_ev l h) ?_
  exact evc fun k => rfl
theorem eqAtom_ev (r : Int) (l : List Int) (q : Int) (m : List Int) (h : l.length ≤ 17592186044416) : Ev (fun k => laws_eqAtom.f k r l q m) (decide (r = q ∧ l = m)) := by
  unfold laws_eqAtom.f
  by_cases hr : r = q
  · simp only [if_pos hr]
    refine evb (eqIntS_ev l m h) ?_
    refine evc fun k => ?_
    by_cases e : l = m
    · simp [e, hr]
    · simp [e]
  · simp only [if_neg hr]
    refine evc fun k => ?_
    simp [hr]
theorem szAtom_ok (r : Int) (l : List Int) (a : Int) (w : (WfL WfI) l) (h0 : 0 ≤ a) (h1 : a ≤ 1048576) : ∃ t, Ev (fun _ : Nat => laws_szAtom.f r l a) t ∧ (t < 0 ∨ 0 ≤ t ∧ t ≤ a ∧ l.length ≤ 1048576) := by
  refine ⟨mSz l a, evc fun k => szAtom_eq r l a w.2 h0 h1, ?_⟩
  unfold mSz
  by_cases hc : (l.length : Int) ≤ a
  · rw [if_pos hc]; right; omega
  · rw [if_neg hc]; left; omega

theorem l2Less_ev (l m : List Int) (h : l.length ≤ 140737488355328) : Ev (fun k => spec_l2Less.f k l m) (mLess l m) := by
  have key := idx_ind l (fun pre suf => ∀ pre2 suf2, m = pre2 ++ suf2 → pre2.length = pre.length → Ev (fun k => spec_l2Less.l0 k l m (pre.length : Int)) (mLess suf suf2)) ?_ ?_
  · exact key [] m rfl rfl
  · intro pre2 suf2 e2 hp
    have e3 : mLess [] suf2 = decide ((l.length : Int) < (m.length : Int)) := by
      rw [e2]
      cases suf2 with
      | nil => simp [mLess]; omega
      | cons b t => simp [mLess]; omega
    rw [e3]
    refine Ev.step (f := fun k => spec_l2Less.j1 k l m (l.length : Int) false) (fun k => ?_) (evn fun k => ?_)
    · simp only [spec_l2Less.l0]
      rw [if_neg (end_not _)]
    · simp only [spec_l2Less.j1]
      rw [if_neg (by simp)]
  · intro pre a suf e ih pre2 suf2 e2 hp
    cases suf2 with
    | nil =>
      have hml : m.length = pre.length := by rw [e2]; simp [hp]
      have hlm : ¬ ((l.length : Int) < (m.length : Int)) := by have := lt_of e; omega
      refine Ev.step (f := fun k => spec_l2Less.j1 k l m (pre.length : Int) false) (fun k => ?_) (evn fun k => ?_)
      · simp only [spec_l2Less.l0]
        rw [if_pos (lt_of e), decide_eq_false (by omega)]
      · simp only [spec_l2Less.j1]
        rw [if_neg (by simp), decide_eq_false hlm]; rfl
    | cons b t2 =>
      have r2 : rd m (pre.length : Int) = b := by rw [← hp]; exact rd_of e2
      have l2 : (pre.length : Int) < (m.length : Int) := by rw [← hp]; exact lt_of e2
      refine Ev.step (f := fun k => spec_l2Less.j1 k l m (pre.length : Int) true) (fun k => ?_) ?_
      · simp only [spec_l2Less.l0]
        rw [if_pos (lt_of e), decide_eq_true l2]
      · by_cases hab : a = b
        · have em : mLess (a :: suf) (b :: t2) = mLess suf t2 := by rw [mLess, if_pos hab]
          rw [em]
          have r := ih (pre2 ++ [b]) t2 (by rw [e2]; simp) (by simp [hp])
          refine Ev.step (fun k => ?_) r
          simp only [spec_l2Less.j1]
          rw [if_pos trivial, if_pos (len_nonneg _), if_pos (lt_of e), if_pos l2, rd_of e, r2, if_pos hab, nx_of e h]
        · have em : mLess (a :: suf) (b :: t2) = decide (a < b) := by rw [mLess, if_neg hab]
          rw [em]
          refine evn fun k => ?_
          simp only [spec_l2Less.j1]
          rw [if_pos trivial, if_pos (len_nonneg _), if_pos (lt_of e), if_pos l2, rd_of e, r2, if_neg hab]
theorem cmpInt_eq (a b : Int) : cmp_Compare_int.f a b = some (if a < b then -1 else if a > b then 1 else 0) := by
  unfold cmp_Compare_int.f cmp_isNaN_int.f
  simp only [bne_self_eq_false, Option.bind_some, Bool.false_eq_true, if_false]
  by_cases h1 : a < b
  · rw [if_pos h1, if_pos h1]
  · rw [if_neg h1, if_neg h1]
    by_cases h2 : a > b
    · rw [if_pos h2, if_pos h2]
    · rw [if_neg h2, if_neg h2]
theorem slCompare_ev (l m : List Int) (h : l.length ≤ 140737488355328) : Ev (fun k => slices_Compare_int_int.f k l m) (mCmp l m) := by
  have key := idx_ind l (fun pre suf => ∀ pre2 suf2, m = pre2 ++ suf2 → pre2.length = pre.length → Ev (fun k => slices_Compare_int_int.l0 k l m l (l.length : Int) (pre.length : Int)) (mCmp suf suf2)) ?_ ?_
  · exact key [] m rfl rfl
  · intro pre2 suf2 e2 hp
    refine evn fun k => ?_
    simp only [slices_Compare_int_int.l0]
    rw [if_neg (end_not _)]
    cases suf2 with
    | nil => rw [if_neg (by rw [e2]; simp; omega)]; rfl
    | cons b t => rw [if_pos (by rw [e2]; simp; omega)]; rfl
  · intro pre a suf e ih pre2 suf2 e2 hp
    cases suf2 with
    | nil =>
      have hml : m.length = pre.length := by rw [e2]; simp [hp]
      refine evn fun k => ?_
      simp only [slices_Compare_int_int.l0]
      rw [if_pos (lt_of e), if_pos (len_nonneg _), if_pos (lt_of e), if_pos (by omega)]; rfl
    | cons b t2 =>
      have r2 : rd m (pre.length : Int) = b := by rw [← hp]; exact rd_of e2
      have l2 : (pre.length : Int) < (m.length : Int) := by rw [← hp]; exact lt_of e2
      by_cases h1 : a < b
      · refine evn fun k => ?_
        simp only [slices_Compare_int_int.l0]
        rw [if_pos (lt_of e), if_pos (len_nonneg _), if_pos (lt_of e), if_neg (by omega), if_pos l2, rd_of e, r2, cmpInt_eq]
        simp only [Option.bind_some, if_pos h1, mCmp]; rfl
      · by_cases h2 : a > b
        · refine evn fun k => ?_
          simp only [slices_Compare_int_int.l0]
          rw [if_pos (lt_of e), if_pos (len_nonneg _), if_pos (lt_of e), if_neg (by omega), if_pos l2, rd_of e, r2, cmpInt_eq]
          simp only [Option.bind_some, if_neg h1, if_pos h2, mCmp]; rfl
        · have em : mCmp (a :: suf) (b :: t2) = mCmp suf t2 := by rw [mCmp, if_neg h1, if_neg h2]
          rw [em]
          have r := ih (pre2 ++ [b]) t2 (by rw [e2]; simp) (by simp [hp])
          refine Ev.step (fun k => ?_) r
          simp only [slices_Compare_int_int.l0]
          rw [if_pos (lt_of e), if_pos (len_nonneg _), if_pos (lt_of e), if_neg (by omega), if_pos l2, rd_of e, r2, cmpInt_eq]
          simp only [Option.bind_some, if_neg h1, if_neg h2, if_true]
          rw [nx_of e h]

theorem specLess_ev (r : Int) (l : List Int) (q : Int) (m : List Int) (h : l.length ≤ 140737488355328) : Ev (fun k => spec_LessAtom.f k r l q m) (if r = q then mLess l m else decide (r < q)) := by
  unfold spec_LessAtom.f
  by_cases hr : r = q
  · simp only [if_pos hr]
    refine evb (l2Less_ev l m h) ?_
    exact evc fun k => rfl
  · simp only [if_neg hr]
    exact evc fun k => rfl
theorem implLess_ev (r : Int) (l : List Int) (q : Int) (m : List Int) (h : l.length ≤ 140737488355328) : Ev (fun k => impl_LessAtom.f k r l q m) (if r = q then mLess l m else decide (r < q)) := by
  unfold impl_LessAtom.f
  by_cases h1 : r < q
  · simp only [if_pos h1]
    refine evc fun k => ?_
    rw [if_neg (by omega), decide_eq_true h1]
  · simp only [if_neg h1]
    by_cases hr : r = q
    · simp only [if_pos hr]
      refine evb (slCompare_ev l m h) ?_
      refine evc fun k => ?_
      rw [mCmp_neg]
    · simp only [if_neg hr]
      refine evc fun k => ?_
      rw [decide_eq_false h1]

theorem FnExactLessAtom (r : Int) (l : List Int) (w0 : WfI r ∧ (WfL WfI) l) (q : Int) (m : List Int) (w1 : WfI q ∧ (WfL WfI) m) : ∃ k, laws_FnExactLessAtom.f k r l q m = some true := by
  refine Ev.rounds ?_
  unfold laws_FnExactLessAtom.f
  obtain ⟨t0, z0, c0⟩ := szAtom_ok r l 1048576 w0.2 (by omega) (by omega)
  refine evb z0 ?_
  rcases c0 with c0 | ⟨p0, q0, hs0⟩
  · simp only [if_pos c0]; exact evc fun k => rfl
  have n0 : ¬ t0 < 0 := by omega
  simp only [if_neg n0]
  obtain ⟨t1, z1, c1⟩ := szAtom_ok q m t0 w1.2 (by omega) (by omega)
  refine evb z1 ?_
  rcases c1 with c1 | ⟨p1, q1, hs1⟩
  · simp only [if_pos c1]; exact evc fun k => rfl
  have n1 : ¬ t1 < 0 := by omega
  simp only [if_neg n1]
  refine evb (toAtom_ev r l (by omega)) ?_
  refine evb (toAtom_ev q m (by omega)) ?_
  refine evb (specLess_ev r l q m (by omega)) ?_
  refine evb (toAtom_ev r l (by omega)) ?_
  refine evb (toAtom_ev q m (by omega)) ?_
  refine evb (implLess_ev r l q m (by omega)) ?_
  simp only [bne_self_eq_false, Bool.false_eq_true, if_false]
  refine evb (toAtom_ev r l (by omega)) ?_
  refine evb (eqAtom_ev r l r l (by omega)) ?_
  simp only [and_self, decide_true, if_true]
  refine evb (toAtom_ev q m (by omega)) ?_
  refine evb (eqAtom_ev q m q m (by omega)) ?_
  simp only [and_self, decide_true, if_true]
  exact evc fun k => rfl

end Go.Proofs.Ytanmidjjcfkpeaa.Pure
