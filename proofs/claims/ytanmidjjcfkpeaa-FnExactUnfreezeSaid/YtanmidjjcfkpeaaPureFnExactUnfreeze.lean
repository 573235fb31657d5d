/- The pure statement of the law FnExactUnfreeze: the program's function and the reference's agree, for all arguments within the row's bounds. -/
import Derived.Test.YtanmidjjcfkpeaaQFnExactUnfreezex2
import Derived.Test.YtanmidjjcfkpeaaMine
import Derived.Test.YtanmidjjcfkpeaaOpen
set_option linter.unusedVariables false
set_option linter.unusedSimpArgs false
namespace Go.Proofs.Ytanmidjjcfkpeaa.Pure
open Go.RowKit Go.Proofs.Ytanmidjjcfkpeaa.QFnExactUnfreeze Go.Proofs.YtanmidjjcfkpeaaW.PrintWords Go.Proofs.YtanmidjjcfkpeaaW.PrintLast Go.Proofs.Ytanmidjjcfkpeaa.Mine Go.Proofs.Ytanmidjjcfkpeaa.Open

/-! ### A copy of a list -/
theorem toIntS_l0 (suf : List Int) : ∀ pre : List Int, (pre ++ suf).length ≤ 17592186044416 → Ev (fun k => laws_toIntS.l0 k (pre ++ suf) (pre ++ List.replicate suf.length 0) (pre.length : Int)) (pre ++ suf) := by
  induction suf with
  | nil =>
    intro pre h
    simp only [List.append_nil, List.length_nil, List.replicate_zero]
    refine evn fun k => ?_
    simp only [laws_toIntS.l0]
    rw [if_neg (end_not _)]
  | cons a t ih =>
    intro pre h
    have h1 := ih (pre ++ [a]) (by simpa using h)
    have hl : pre.length ≤ 140737488355328 := by simp at h; omega
    refine Ev.step (fun k => ?_) (by simpa using h1)
    simp only [laws_toIntS.l0]
    rw [if_pos (mid_lt _ _ _), if_pos (len_nonneg _)]
    simp only [List.length_cons, List.replicate_succ]
    rw [if_pos (mid_lt _ _ _), rd_mid, set_mid, iw (a := a) hl]
    simp
theorem toIntS_ev (l : List Int) (h : l.length ≤ 17592186044416) : Ev (fun k => laws_toIntS.f k l) l := by
  have h1 := toIntS_l0 l [] (by simpa using h)
  refine Ev.congr (fun k => ?_) h1
  unfold laws_toIntS.f
  rw [if_pos (by omega), if_pos (by simp; omega)]
  simp

/-! ### Equal lists -/
theorem eqIntS_l0 (suf : List Int) : ∀ (pre suf2 pre2 : List Int), pre.length = pre2.length → suf.length = suf2.length → (pre ++ suf).length ≤ 17592186044416 →
    Ev (fun k => laws_eqIntS.l0 k (pre ++ suf) (pre2 ++ suf2) (pre.length : Int)) (decide (suf = suf2)) := by
  induction suf with
  | nil =>
    intro pre suf2 pre2 hp hs h
    obtain rfl : suf2 = [] := List.eq_nil_of_length_eq_zero (by simpa using hs.symm)
    simp only [List.append_nil]
    refine evn fun k => ?_
    simp only [laws_eqIntS.l0]
    rw [if_neg (end_not _)]; simp
  | cons a t ih =>
    intro pre suf2 pre2 hp hs h
    obtain ⟨b, t2, rfl⟩ : ∃ b t2, suf2 = b :: t2 := by cases suf2 with
      | nil => simp at hs
      | cons b t2 => exact ⟨b, t2, rfl⟩
    have hl : pre.length ≤ 140737488355328 := by simp at h; omega
    have r1 : rd (pre2 ++ b :: t2) (pre.length : Int) = b := by rw [hp]; exact rd_mid _ _ _
    have l1 : (pre.length : Int) < ((pre2 ++ b :: t2).length : Int) := by rw [hp]; exact mid_lt _ _ _
    by_cases hab : a = b
    · subst hab
      have h1 := ih (pre ++ [a]) t2 (pre2 ++ [a]) (by simpa using hp) (by simpa using hs) (by simpa using h)
      have e : decide (a :: t = a :: t2) = decide (t = t2) := by simp
      rw [e]
      refine Ev.step (fun k => ?_) (by simpa using h1)
      simp only [laws_eqIntS.l0]
      rw [if_pos (mid_lt _ _ _), if_pos (len_nonneg _), if_pos l1, rd_mid, r1, if_pos rfl, iw (a := a) hl]
      simp
    · have e : decide (a :: t = b :: t2) = false := by simp [hab]
      rw [e]
      refine evn fun k => ?_
      simp only [laws_eqIntS.l0]
      rw [if_pos (mid_lt _ _ _), if_pos (len_nonneg _), if_pos l1, rd_mid, r1, if_neg hab]
theorem eqIntS_ev (l l2 : List Int) (h : l.length ≤ 17592186044416) : Ev (fun k => laws_eqIntS.f k l l2) (decide (l = l2)) := by
  by_cases hl : l.length = l2.length
  · have h1 := eqIntS_l0 l [] l2 [] rfl hl (by simpa using h)
    refine Ev.congr (fun k => ?_) h1
    unfold laws_eqIntS.f
    rw [if_pos (by omega)]
    simp
  · have e : decide (l = l2) = false := by simp; intro h; exact hl (by rw [h])
    rw [e]
    refine evc fun k => ?_
    unfold laws_eqIntS.f
    rw [if_neg (by omega)]

theorem markIntS_l0 (suf : List Int) : ∀ (pre : List Int) (m : Int), 0 ≤ m → m + suf.length ≤ 9223372036854775807 → (pre ++ suf).length ≤ 17592186044416 →
    Ev (fun k => laws_markIntS.l0 k (pre ++ suf) m (pre.length : Int)) (m + (suf.length : Int), pre ++ mMarks m suf.length) := by
  induction suf with
  | nil =>
    intro pre m h0 h1 h
    refine evn fun k => ?_
    simp only [laws_markIntS.l0, List.append_nil]
    rw [if_neg (end_not _)]; simp [mMarks]
  | cons a t ih =>
    intro pre m h0 h1 h
    have hl : pre.length ≤ 140737488355328 := by simp at h; omega
    have r := ih (pre ++ [m]) (m + 1) (by omega) (by simp at h1; omega) (by simpa using h)
    have e : m + ((a :: t).length : Int) = m + 1 + (t.length : Int) := by simp; omega
    rw [e]
    refine Ev.step (fun k => ?_) (by simpa [mMarks] using r)
    simp only [laws_markIntS.l0]
    rw [if_pos (mid_lt _ _ _), if_pos (len_nonneg _), set_mid, iw (a := m) hl, w64 (by omega) (by simp at h1; omega)]
    simp
theorem markIntS_ev (l : List Int) (m : Int) (h0 : 0 ≤ m) (h1 : m ≤ 4611686018427387904) (h : l.length ≤ 17592186044416) : Ev (fun k => laws_markIntS.f k l m) (m + (l.length : Int), mMarks m l.length) := by
  have r := markIntS_l0 l [] m h0 (by omega) (by simpa using h)
  exact r

theorem heldIntS_l0 : ∀ (n : Nat) (pre : List Int) (m : Int), 0 ≤ m → m + n ≤ 9223372036854775807 → pre.length + n ≤ 17592186044416 →
    Ev (fun k => laws_heldIntS.l0 k (pre ++ mMarks m n) m (pre.length : Int)) (m + (n : Int))
  | 0, pre, m, h0, h1, h => by
    refine evn fun k => ?_
    simp only [laws_heldIntS.l0, mMarks, List.append_nil]
    rw [if_neg (end_not _)]; simp
  | n + 1, pre, m, h0, h1, h => by
    have r := heldIntS_l0 n (pre ++ [m]) (m + 1) (by omega) (by omega) (by simp; omega)
    have e : m + ((n + 1 : Nat) : Int) = m + 1 + (n : Int) := by omega
    rw [e]
    refine Ev.step (fun k => ?_) (by simpa [mMarks] using r)
    rw [show mMarks m (n + 1) = m :: mMarks (m + 1) n from rfl]
    simp only [laws_heldIntS.l0]
    rw [if_pos (mid_lt _ _ _), if_pos (len_nonneg _), rd_mid, if_pos rfl, iw (a := m) (by omega), w64 (by omega) (by omega)]
    simp
theorem heldIntS_ev (m : Int) (n : Nat) (h0 : 0 ≤ m) (h1 : m ≤ 4611686018427387904) (h : n ≤ 17592186044416) : Ev (fun k => laws_heldIntS.f k (mMarks m n) m) (m + (n : Int)) := by
  have r := heldIntS_l0 n [] m h0 (by omega) (by simpa using h)
  exact r

def mUnf (v : Int) : Int := if v > 79 then wrap64 (wrap64 (v - 79) - 1) else wrap64 ((-1) - v)
theorem specUnf_l0 (suf : List Int) : ∀ (pre acc : List Int), (pre ++ suf).length ≤ 17592186044415 → acc.length = pre.length →
    Ev (fun k => spec_Unfreeze.l0 k (pre ++ suf) acc (pre.length : Int)) (acc ++ suf.map mUnf) := by
  induction suf with
  | nil =>
    intro pre acc h ha
    refine evn fun k => ?_
    simp only [spec_Unfreeze.l0, List.append_nil]
    rw [if_neg (end_not _)]; simp
  | cons a t ih =>
    intro pre acc h ha
    have hl : pre.length ≤ 140737488355328 := by simp at h; omega
    have hacc : acc.length < 17592186044416 := by simp at h; omega
    have r := ih (pre ++ [a]) (acc ++ [mUnf a]) (by simpa using h) (by simpa using ha)
    refine Ev.step (fun k => ?_) (by simpa using r)
    simp only [spec_Unfreeze.l0]
    rw [if_pos (mid_lt _ _ _), if_pos (len_nonneg _), rd_mid, iw (a := a) hl]
    unfold mUnf
    by_cases hv : a > 79
    · simp only [if_pos hv, if_pos hacc]; simp
    · simp only [if_neg hv, if_pos hacc]; simp
theorem specUnf_ev (l : List Int) (h : l.length ≤ 17592186044415) : Ev (fun k => spec_Unfreeze.f k l) (l.map mUnf) := specUnf_l0 l [] [] (by simpa using h) rfl
theorem implUnf_l0 (suf : List Int) : ∀ (pre acc : List Int), (pre ++ suf).length ≤ 17592186044415 → acc.length = pre.length →
    Ev (fun k => impl_Unfreeze.l0 k acc (pre ++ suf) ((pre ++ suf).length : Int) (pre.length : Int)) (acc ++ suf.map mUnf) := by
  induction suf with
  | nil =>
    intro pre acc h ha
    refine evn fun k => ?_
    simp only [impl_Unfreeze.l0, List.append_nil]
    rw [if_neg (end_not _)]; simp
  | cons a t ih =>
    intro pre acc h ha
    have hl : pre.length ≤ 140737488355328 := by simp at h; omega
    have hacc : acc.length < 17592186044416 := by simp at h; omega
    have r := ih (pre ++ [a]) (acc ++ [mUnf a]) (by simpa using h) (by simpa using ha)
    refine Ev.step (fun k => ?_) (by simpa using r)
    simp only [impl_Unfreeze.l0]
    rw [if_pos (mid_lt _ _ _), if_pos (len_nonneg _), if_pos (mid_lt _ _ _), rd_mid, iw (a := a) hl]
    unfold mUnf
    by_cases hv : a > 79
    · simp only [if_pos hv, if_pos hacc]; simp
    · simp only [if_neg hv, if_pos hacc]; simp
theorem implUnf_ev (l : List Int) (h : l.length ≤ 17592186044415) : Ev (fun k => impl_Unfreeze.f k l) (l.map mUnf) := by
  have r := implUnf_l0 l [] [] (by simpa using h) rfl
  exact r

theorem FnExactUnfreeze (l : List Int) (w0 : (WfL WfI) l) : ∃ k, laws_FnExactUnfreeze.f k l = some true := by
  refine Ev.rounds ?_
  unfold laws_FnExactUnfreeze.f
  by_cases hb : (l.length : Int) > 1048576
  · refine evc fun k => ?_; rw [if_pos hb]
  · simp only [if_neg hb]
    have hl : l.length ≤ 17592186044416 := by omega
    have hu : (l.map mUnf).length ≤ 17592186044416 := by simpa using hl
    refine evb (toIntS_ev l hl) ?_
    refine evb (specUnf_ev l (by omega)) ?_
    refine evb (toIntS_ev l hl) ?_
    refine evb (implUnf_ev l (by omega)) ?_
    refine evb (eqIntS_ev _ _ hu) ?_
    simp only [decide_true, if_true]
    refine evb (toIntS_ev l hl) ?_
    refine evb (eqIntS_ev _ _ hl) ?_
    simp only [decide_true, if_true]
    refine evb (markIntS_ev l 1 (by omega) (by omega) hl) ?_
    have hp : ¬ (1 + (l.length : Int) < 0) := by omega
    simp only [if_neg hp]
    refine evb (eqIntS_ev _ _ hu) ?_
    simp only [decide_true, Bool.not_true]
    refine Ev.step (fun k => by simp only [laws_FnExactUnfreeze.j0]; rfl) ?_
    simp only [Bool.false_eq_true, if_false]
    refine evb (markIntS_ev _ 1 (by omega) (by omega) hu) ?_
    have hp2 : ¬ (1 + ((l.map mUnf).length : Int) < 0) := by omega
    refine evb (heldIntS_ev 1 _ (by omega) (by omega) hu) ?_
    simp only [if_neg hp2, if_true]
    refine evb (toIntS_ev l hl) ?_
    refine evb (implUnf_ev l (by omega)) ?_
    refine evb (eqIntS_ev _ _ hu) ?_
    simp only [decide_true, if_true]
    refine evb (heldIntS_ev 1 _ (by omega) (by omega) hu) ?_
    simp only [if_neg hp2, if_true]
    exact evc fun k => rfl

end Go.Proofs.Ytanmidjjcfkpeaa.Pure
