/- The pure statement of the law FnExactSameTuples: the program's function and the reference's agree, for all arguments within the row's bounds. -/
import Derived.Test.YtpfpappamlgnoaaQFnExactSameTuplesx4
import Derived.Test.YtpfpappamlgnoaaMine
import Derived.Test.YtpfpappamlgnoaaOpen
set_option linter.unusedVariables false
set_option linter.unusedSimpArgs false
namespace Go.Proofs.Ytpfpappamlgnoaa.Pure
open Go.RowKit Go.Proofs.Ytpfpappamlgnoaa.QFnExactSameTuples Go.Proofs.YtpfpappamlgnoaaW.PrintWords Go.Proofs.YtpfpappamlgnoaaW.PrintLast Go.Proofs.Ytpfpappamlgnoaa.Mine Go.Proofs.Ytpfpappamlgnoaa.Open

/-! ### A copy of a list -/
theorem toIntS_l0 (suf : List Int) : ∀ pre : List Int, (pre ++ suf).length ≤ 17592186044416 → Ev (fun k => laws_toIntS.l0 k (pre ++ suf) (pre ++ List.replicate suf.length 0) (pre.length : Int)) (pre ++ suf) := by
  induction suf with
  | nil =>
    intro pre h
    simp only [List.append_nil, List.length_nil, List.replicate_zero]
    refine evn fun k => ?_
    simp only [laws_toIntS.l0]
    rw [if_neg (end_not _)]
  | cons a t ih =>
    intro pre h
    have h1 := ih (pre ++ [a]) (by simpa using h)
    have hl : pre.length ≤ 140737488355328 := by simp at h; omega
    refine Ev.step (fun k => ?_) (by simpa using h1)
    simp only [laws_toIntS.l0]
    rw [if_pos (mid_lt _ _ _), if_pos (len_nonneg _)]
    simp only [List.length_cons, List.replicate_succ]
    rw [if_pos (mid_lt _ _ _), rd_mid, set_mid, iw (a := a) hl]
    simp
theorem toIntS_ev (l : List Int) (h : l.length ≤ 17592186044416) : Ev (fun k => laws_toIntS.f k l) l := by
  have h1 := toIntS_l0 l [] (by simpa using h)
  refine Ev.congr (fun k => ?_) h1
  unfold laws_toIntS.f
  rw [if_pos (by omega), if_pos (by simp; omega)]
  simp

/-! ### Equal lists -/
theorem eqIntS_l0 (suf : List Int) : ∀ (pre suf2 pre2 : List Int), pre.length = pre2.length → suf.length = suf2.length → (pre ++ suf).length ≤ 17592186044416 →
    Ev (fun k => laws_eqIntS.l0 k (pre ++ suf) (pre2 ++ suf2) (pre.length : Int)) (decide (suf = suf2)) := by
  induction suf with
  | nil =>
    intro pre suf2 pre2 hp hs h
    obtain rfl : suf2 = [] := List.eq_nil_of_length_eq_zero (by simpa using hs.symm)
    simp only [List.append_nil]
    refine evn fun k => ?_
    simp only [laws_eqIntS.l0]
    rw [if_neg (end_not _)]; simp
  | cons a t ih =>
    intro pre suf2 pre2 hp hs h
    obtain ⟨b, t2, rfl⟩ : ∃ b t2, suf2 = b :: t2 := by cases suf2 with
      | nil => simp at hs
      | cons b t2 => exact ⟨b, t2, rfl⟩
    have hl : pre.length ≤ 140737488355328 := by simp at h; omega
    have r1 : rd (pre2 ++ b :: t2) (pre.length : Int) = b := by rw [hp]; exact rd_mid _ _ _
    have l1 : (pre.length : Int) < ((pre2 ++ b :: t2).length : Int) := by rw [hp]; exact mid_lt _ _ _
    by_cases hab : a = b
    · subst hab
      have h1 := ih (pre ++ [a]) t2 (pre2 ++ [a]) (by simpa using hp) (by simpa using hs) (by simpa using h)
      have e : decide (a :: t = a :: t2) = decide (t = t2) := by simp
      rw [e]
      refine Ev.step (fun k => ?_) (by simpa using h1)
      simp only [laws_eqIntS.l0]
      rw [if_pos (mid_lt _ _ _), if_pos (len_nonneg _), if_pos l1, rd_mid, r1, if_pos rfl, iw (a := a) hl]
      simp
    · have e : decide (a :: t = b :: t2) = false := by simp [hab]
      rw [e]
      refine evn fun k => ?_
      simp only [laws_eqIntS.l0]
      rw [if_pos (mid_lt _ _ _), if_pos (len_nonneg _), if_pos l1, rd_mid, r1, if_neg hab]
theorem eqIntS_ev (l l2 : List Int) (h : l.length ≤ 17592186044416) : Ev (fun k => laws_eqIntS.f k l l2) (decide (l = l2)) := by
  by_cases hl : l.length = l2.length
  · have h1 := eqIntS_l0 l [] l2 [] rfl hl (by simpa using h)
    refine Ev.congr (fun k => ?_) h1
    unfold laws_eqIntS.f
    rw [if_pos (by omega)]
    simp
  · have e : decide (l = l2) = false := by simp; intro h; exact hl (by rw [h])
    rw [e]
    refine evc fun k => ?_
    unfold laws_eqIntS.f
    rw [if_neg (by omega)]

theorem szIntS_eq (l : List Int) (a : Int) (h : l.length ≤ maxLen) (h0 : 0 ≤ a) (h1 : a ≤ 1048576) : laws_szIntS.f l a = some (mSz l a) := by
  unfold maxLen at h
  unfold laws_szIntS.f mSz
  rw [w64 (by omega) (by omega)]
  by_cases hc : (l.length : Int) ≤ a
  · rw [if_neg (by omega), if_pos hc]
  · rw [if_pos (by omega), if_neg hc]

/-! ### Lists of lists -/
theorem rdL_of {l pre suf : List (List Int)} {a : List Int} (e : l = pre ++ a :: suf) : rd_L1 l (pre.length : Int) = a := getD_of e _
theorem szIntSS_ok (l : List (List Int)) (a : Int) (w : (WfL (WfL WfI)) l) (h0 : 0 ≤ a) (h1 : a ≤ 1048576) :
    ∃ t, Ev (fun k => laws_szIntSS.f k l a) t ∧ (t < 0 ∨ 0 ≤ t ∧ t ≤ a ∧ l.length ≤ 1048576 ∧ ∀ x ∈ l, x.length ≤ 1048576) := by
  have hm : l.length ≤ 9223372036854775807 := by have := w.2; unfold maxLen at this; exact this
  unfold laws_szIntSS.f
  rw [w64 (by omega) (by omega)]
  by_cases hc : a - (l.length : Int) < 0
  · simp only [if_pos hc]; exact ⟨-1, evc fun k => rfl, .inl (by omega)⟩
  · simp only [if_neg hc]
    have hl : l.length ≤ 1048576 := by omega
    have key := idx_ind l (fun pre suf => ∀ b : Int, 0 ≤ b → b ≤ a → ∃ t, Ev (fun k => laws_szIntSS.l0 k l b (pre.length : Int)) t ∧ (t < 0 ∨ 0 ≤ t ∧ t ≤ a ∧ ∀ x ∈ suf, x.length ≤ 1048576)) ?_ ?_
    · obtain ⟨t, z, c⟩ := key (a - (l.length : Int)) (by omega) (by omega)
      exact ⟨t, z, c.imp id (fun ⟨p, q, r⟩ => ⟨p, q, hl, r⟩)⟩
    · intro b hb0 hb1
      refine ⟨b, evn fun k => ?_, .inr ⟨hb0, hb1, by simp⟩⟩
      simp only [laws_szIntSS.l0]
      rw [if_neg (end_not _)]
    · intro pre x suf e ih b hb0 hb1
      have hx : x ∈ l := by rw [e]; simp
      have z' := szIntS_eq x b (w.1 x hx).2 hb0 (by omega)
      by_cases c : (x.length : Int) ≤ b
      · have em : mSz x b = b - (x.length : Int) := by unfold mSz; rw [if_pos c]
        obtain ⟨t2, z2, c2⟩ := ih (b - (x.length : Int)) (by omega) (by omega)
        refine ⟨t2, Ev.step (fun k => ?_) z2, c2.imp id (fun ⟨p2, q2, r2⟩ => ⟨p2, q2, ?_⟩)⟩
        · simp only [laws_szIntSS.l0]
          rw [if_pos (lt_of e), if_pos (len_nonneg _), rdL_of e, z', em]
          simp only [Option.bind_some]
          rw [if_neg (by omega), nx_of e (by omega)]
        · intro y hy
          rcases List.mem_cons.1 hy with rfl | hy
          · omega
          · exact r2 y hy
      · have em : mSz x b = -1 := by unfold mSz; rw [if_neg c]
        refine ⟨-1, evn fun k => ?_, .inl (by omega)⟩
        simp only [laws_szIntSS.l0]
        rw [if_pos (lt_of e), if_pos (len_nonneg _), rdL_of e, z', em]
        simp only [Option.bind_some]
        rw [if_pos (by omega)]
theorem toIntSS_ev (l : List (List Int)) (hl : l.length ≤ 1048576) (hs : ∀ x ∈ l, x.length ≤ 1048576) : Ev (fun k => laws_toIntSS.f k l) l := by
  have key := idx_ind l (fun pre suf => Ev (fun k => laws_toIntSS.l0 k l (pre ++ List.replicate suf.length []) (pre.length : Int)) l) ?_ ?_
  · refine Ev.congr (fun k => ?_) key
    unfold laws_toIntSS.f
    rw [if_pos (by omega), if_pos (by omega)]
    simp
  · refine evn fun k => ?_
    simp only [laws_toIntSS.l0]
    rw [if_neg (end_not _)]
    simp
  · intro pre x suf e ih
    have hx : x.length ≤ 1048576 := hs x (by rw [e]; simp)
    refine Ev.step (fun k => laws_toIntSS.l0.eq_2 ..) ?_
    simp only [if_pos (lt_of e), if_pos (len_nonneg _), rdL_of e, nx_of e (show l.length ≤ 140737488355328 by omega)]
    refine evb (toIntS_ev x (by omega)) ?_
    have hc : (pre.length : Int) < ((pre ++ List.replicate (x :: suf).length [] : List (List Int)).length : Int) := by simp; omega
    simp only [if_pos hc]
    have es : (pre ++ List.replicate (x :: suf).length [] : List (List Int)).set ((pre.length : Int)).toNat x = (pre ++ [x]) ++ List.replicate suf.length [] := by
      rw [List.length_cons, List.replicate_succ]
      simp
    simp only [es]
    exact ih
theorem eqIntSS_ev (l : List (List Int)) (hl : l.length ≤ 1048576) (hs : ∀ x ∈ l, x.length ≤ 1048576) : Ev (fun k => laws_eqIntSS.f k l l) true := by
  have key := idx_ind l (fun pre suf => Ev (fun k => laws_eqIntSS.l0 k l l (pre.length : Int)) true) ?_ ?_
  · refine Ev.congr (fun k => ?_) key
    unfold laws_eqIntSS.f
    rw [if_pos rfl]; rfl
  · refine evn fun k => ?_
    simp only [laws_eqIntSS.l0]
    rw [if_neg (end_not _)]
  · intro pre x suf e ih
    have hx : x.length ≤ 1048576 := hs x (by rw [e]; simp)
    refine Ev.step (fun k => laws_eqIntSS.l0.eq_2 ..) ?_
    simp only [if_pos (lt_of e), if_pos (len_nonneg _), rdL_of e, nx_of e (show l.length ≤ 140737488355328 by omega)]
    refine evb (eqIntS_ev x x (by omega)) ?_
    simp only [decide_true, if_true]
    exact ih

theorem l2Ints_ev (l m : List Int) (h : l.length ≤ 140737488355328) : Ev (fun k => spec_l2Ints.f k l m) (decide (l = m)) := by
  by_cases hl : l.length = m.length
  · have key := idx_ind l (fun pre suf => ∀ pre2 suf2, m = pre2 ++ suf2 → pre2.length = pre.length → Ev (fun k => spec_l2Ints.l0 k l m (pre.length : Int)) (decide (suf = suf2))) ?_ ?_
    · have r := key [] m rfl rfl
      refine Ev.congr (fun k => ?_) r
      unfold spec_l2Ints.f
      rw [if_pos (by omega)]
      rfl
    · intro pre2 suf2 e2 hp
      have : suf2 = [] := by
        have := congrArg List.length e2
        simp at this
        exact List.eq_nil_of_length_eq_zero (by omega)
      subst this
      refine evn fun k => ?_
      simp only [spec_l2Ints.l0]
      rw [if_neg (end_not _)]; simp
    · intro pre a suf e ih pre2 suf2 e2 hp
      obtain ⟨b, t2, rfl⟩ : ∃ b t2, suf2 = b :: t2 := by
        cases suf2 with
        | nil => exfalso; have h1 := congrArg List.length e; have h2 := congrArg List.length e2; simp at h1 h2; omega
        | cons b t2 => exact ⟨b, t2, rfl⟩
      have r2 : rd m (pre.length : Int) = b := by rw [← hp]; exact rd_of e2
      have l2 : (pre.length : Int) < (m.length : Int) := by rw [← hp]; exact lt_of e2
      by_cases hab : a = b
      · subst hab
        have r := ih (pre2 ++ [a]) t2 (by rw [e2]; simp) (by simp [hp])
        have ed : decide (a :: suf = a :: t2) = decide (suf = t2) := by simp
        rw [ed]
        refine Ev.step (fun k => ?_) r
        simp only [spec_l2Ints.l0]
        rw [if_pos (lt_of e), if_pos (len_nonneg _), if_pos l2, rd_of e, r2, if_pos rfl, nx_of e h]
      · have ed : decide (a :: suf = b :: t2) = false := by simp [hab]
        rw [ed]
        refine evn fun k => ?_
        simp only [spec_l2Ints.l0]
        rw [if_pos (lt_of e), if_pos (len_nonneg _), if_pos l2, rd_of e, r2, if_neg hab]
  · have e : decide (l = m) = false := by simp; intro h; exact hl (by rw [h])
    rw [e]
    refine evc fun k => ?_
    unfold spec_l2Ints.f
    rw [if_neg (by omega)]

theorem l2Less_ev (l m : List Int) (h : l.length ≤ 140737488355328) : Ev (fun k => spec_l2Less.f k l m) (mLess l m) := by
  have key := idx_ind l (fun pre suf => ∀ pre2 suf2, m = pre2 ++ suf2 → pre2.length = pre.length → Ev (fun k => spec_l2Less.l0 k l m (pre.length : Int)) (mLess suf suf2)) ?_ ?_
  · exact key [] m rfl rfl
  · intro pre2 suf2 e2 hp
    have e3 : mLess [] suf2 = decide ((l.length : Int) < (m.length : Int)) := by
      rw [e2]
      cases suf2 with
      | nil => simp [mLess]; omega
      | cons b t => simp [mLess]; omega
    rw [e3]
    refine Ev.step (f := fun k => spec_l2Less.j1 k l m (l.length : Int) false) (fun k => ?_) (evn fun k => ?_)
    · simp only [spec_l2Less.l0]
      rw [if_neg (end_not _)]
    · simp only [spec_l2Less.j1]
      rw [if_neg (by simp)]
  · intro pre a suf e ih pre2 suf2 e2 hp
    cases suf2 with
    | nil =>
      have hml : m.length = pre.length := by rw [e2]; simp [hp]
      have hlm : ¬ ((l.length : Int) < (m.length : Int)) := by have := lt_of e; omega
      refine Ev.step (f := fun k => spec_l2Less.j1 k l m (pre.length : Int) false) (fun k => ?_) (evn fun k => ?_)
      · simp only [spec_l2Less.l0]
        rw [if_pos (lt_of e), decide_eq_false (by omega)]
      · simp only [spec_l2Less.j1]
        rw [if_neg (by simp), decide_eq_false hlm]; rfl
    | cons b t2 =>
      have r2 : rd m (pre.length : Int) = b := by rw [← hp]; exact rd_of e2
      have l2 : (pre.length : Int) < (m.length : Int) := by rw [← hp]; exact lt_of e2
      refine Ev.step (f := fun k => spec_l2Less.j1 k l m (pre.length : Int) true) (fun k => ?_) ?_
      · simp only [spec_l2Less.l0]
        rw [if_pos (lt_of e), decide_eq_true l2]
      · by_cases hab : a = b
        · have em : mLess (a :: suf) (b :: t2) = mLess suf t2 := by rw [mLess, if_pos hab]
          rw [em]
          have r := ih (pre2 ++ [b]) t2 (by rw [e2]; simp) (by simp [hp])
          refine Ev.step (fun k => ?_) r
          simp only [spec_l2Less.j1]
          rw [if_pos trivial, if_pos (len_nonneg _), if_pos (lt_of e), if_pos l2, rd_of e, r2, if_pos hab, nx_of e h]
        · have em : mLess (a :: suf) (b :: t2) = decide (a < b) := by rw [mLess, if_neg hab]
          rw [em]
          refine evn fun k => ?_
          simp only [spec_l2Less.j1]
          rw [if_pos trivial, if_pos (len_nonneg _), if_pos (lt_of e), if_pos l2, rd_of e, r2, if_neg hab]

/-! ### l6Sort -/
theorem mLess_irr : ∀ a : List Int, mLess a a = false
  | [] => rfl
  | a :: s => by rw [mLess, if_pos rfl]; exact mLess_irr s
theorem mLess_trans : ∀ a b c : List Int, mLess a b = true → mLess b c = true → mLess a c = true
  | [], [], _, h, _ => by simp [mLess] at h
  | _ :: _, [], _, h, _ => by simp [mLess] at h
  | _, _ :: _, [], _, h => by simp [mLess] at h
  | [], _ :: _, _ :: _, _, _ => rfl
  | a :: s, b :: t, c :: u, h1, h2 => by
    unfold mLess at h1 h2 ⊢
    by_cases e1 : a = b
    · rw [if_pos e1] at h1
      by_cases e2 : b = c
      · rw [if_pos e2] at h2
        rw [if_pos (e1.trans e2)]; exact mLess_trans s t u h1 h2
      · rw [if_neg e2] at h2
        rw [if_neg (by rw [e1]; exact e2), e1]; exact h2
    · rw [if_neg e1] at h1
      have l1 : a < b := by simpa using h1
      by_cases e2 : b = c
      · rw [if_neg (by omega)]; simp; omega
      · rw [if_neg e2] at h2
        have l2 : b < c := by simpa using h2
        rw [if_neg (by omega)]; simp; omega
theorem mLess_tot : ∀ a b : List Int, mLess a b = false → a = b ∨ mLess b a = true
  | [], [], _ => .inl rfl
  | [], _ :: _, h => by simp [mLess] at h
  | _ :: _, [], _ => .inr rfl
  | a :: s, b :: t, h => by
    unfold mLess at h ⊢
    by_cases e : a = b
    · rw [if_pos e] at h; rw [if_pos e.symm]
      rcases mLess_tot s t h with r | r
      · exact .inl (by rw [e, r])
      · exact .inr r
    · rw [if_neg e] at h; rw [if_neg (fun h => e h.symm)]
      have : ¬ a < b := by simpa using h
      right; simp; omega
def mPos (x : List Int) (o : List (List Int)) : Nat → Nat
  | 0 => 0
  | k + 1 => if mLess x (o.getD k []) = true then mPos x o k else k + 1
def mIns (once : Bool) (o : List (List Int)) (x : List Int) : List (List Int) :=
  if once = true ∧ 0 < mPos x o o.length ∧ o.getD (mPos x o o.length - 1) [] = x then o else o.take (mPos x o o.length) ++ x :: o.drop (mPos x o o.length)
def mSort (once : Bool) (l : List (List Int)) : List (List Int) := l.foldl (mIns once) []
theorem pos_le (x : List Int) (o : List (List Int)) : ∀ k, mPos x o k ≤ k
  | 0 => Nat.le_refl _
  | k + 1 => by
    unfold mPos
    by_cases h : mLess x (o.getD k []) = true
    · rw [if_pos h]; exact Nat.le_succ_of_le (pos_le x o k)
    · rw [if_neg h]; exact Nat.le_refl _
theorem pos_after (x : List Int) (o : List (List Int)) : ∀ k j, mPos x o k ≤ j → j < k → mLess x (o.getD j []) = true
  | 0, _, _, h => by omega
  | k + 1, j, h1, h2 => by
    unfold mPos at h1
    by_cases h : mLess x (o.getD k []) = true
    · rw [if_pos h] at h1
      by_cases e : j = k
      · rw [e]; exact h
      · exact pos_after x o k j h1 (by omega)
    · rw [if_neg h] at h1; omega
theorem pos_before (x : List Int) (o : List (List Int)) : ∀ k, 0 < mPos x o k → mLess x (o.getD (mPos x o k - 1) []) = false
  | 0, h => by simp [mPos] at h
  | k + 1, h1 => by
    unfold mPos at h1 ⊢
    by_cases h : mLess x (o.getD k []) = true
    · rw [if_pos h] at h1 ⊢; exact pos_before x o k h1
    · rw [if_neg h]; simpa using h
def Asc (o : List (List Int)) : Prop := o.Pairwise (fun a b => mLess a b = true)
theorem mem_getD {o : List (List Int)} {j : Nat} (h : j < o.length) : o.getD j [] ∈ o := by
  rw [List.getD_eq_getElem?_getD, List.getElem?_eq_getElem h]; exact List.getElem_mem h
theorem mem_drop_ix {o : List (List Int)} {p : Nat} {b : List Int} (h : b ∈ o.drop p) : ∃ j, p ≤ j ∧ j < o.length ∧ o.getD j [] = b := by
  obtain ⟨i, hi, rfl⟩ := List.mem_iff_getElem.1 h
  have hi' : p + i < o.length := by simp at hi; omega
  exact ⟨p + i, by omega, hi', by rw [List.getD_eq_getElem?_getD, List.getElem?_eq_getElem hi']; simp⟩
theorem ins_mem (once : Bool) (o : List (List Int)) (x y : List Int) : y ∈ mIns once o x ↔ y ∈ o ∨ y = x := by
  have hp := pos_le x o o.length
  unfold mIns
  by_cases c : once = true ∧ 0 < mPos x o o.length ∧ o.getD (mPos x o o.length - 1) [] = x
  · rw [if_pos c]
    constructor
    · exact .inl
    · rintro (h | h)
      · exact h
      · rw [h, ← c.2.2]; exact mem_getD (by omega)
  · rw [if_neg c]
    have e : ∀ p, (y ∈ o ↔ y ∈ o.take p ∨ y ∈ o.drop p) := fun p => by
      conv => lhs; rw [← List.take_append_drop p o]
      exact List.mem_append
    rw [e (mPos x o o.length), List.mem_append, List.mem_cons]
    constructor
    · rintro (h | h | h)
      · exact .inl (.inl h)
      · exact .inr h
      · exact .inl (.inr h)
    · rintro ((h | h) | h)
      · exact .inl h
      · exact .inr (.inr h)
      · exact .inr (.inl h)
theorem ins_asc (o : List (List Int)) (x : List Int) (h : Asc o) : Asc (mIns true o x) := by
  have hp := pos_le x o o.length
  unfold mIns
  by_cases c : true = true ∧ 0 < mPos x o o.length ∧ o.getD (mPos x o o.length - 1) [] = x
  · rw [if_pos c]; exact h
  · rw [if_neg c]
    have hB : ∀ b ∈ o.drop (mPos x o o.length), mLess x b = true := by
      intro b hb
      obtain ⟨j, h1, h2, rfl⟩ := mem_drop_ix hb
      exact pos_after x o o.length j h1 h2
    have hs : Asc (o.take (mPos x o o.length) ++ o.drop (mPos x o o.length)) := by rw [List.take_append_drop]; exact h
    unfold Asc at hs ⊢
    obtain ⟨pA, pB, pAB⟩ := List.pairwise_append.1 hs
    have hA : ∀ a ∈ o.take (mPos x o o.length), mLess a x = true := by
      by_cases z : 0 < mPos x o o.length
      · have hb := pos_before x o o.length z
        obtain ⟨q, hq⟩ : ∃ q, mPos x o o.length = q + 1 := ⟨_, (Nat.succ_pred_eq_of_pos z).symm⟩
        rw [hq] at hb c hp pA ⊢
        simp only [Nat.add_sub_cancel] at hb c
        have hql : q < o.length := by omega
        have hl : mLess (o.getD q []) x = true := by
          rcases mLess_tot _ _ hb with r | r
          · exact absurd ⟨trivial, Nat.succ_pos _, r.symm⟩ c
          · exact r
        have et : o.take (q + 1) = o.take q ++ [o.getD q []] := by
          rw [List.take_add_one, List.getElem?_eq_getElem hql, List.getD_eq_getElem?_getD, List.getElem?_eq_getElem hql]; rfl
        rw [et] at pA ⊢
        obtain ⟨_, _, pl⟩ := List.pairwise_append.1 pA
        intro a ha
        rcases List.mem_append.1 ha with r | r
        · exact mLess_trans _ _ _ (pl a r _ (by simp)) hl
        · rw [List.mem_singleton.1 r]; exact hl
      · have : mPos x o o.length = 0 := by omega
        rw [this]; simp
    refine List.pairwise_append.2 ⟨pA, List.pairwise_cons.2 ⟨hB, pB⟩, ?_⟩
    intro a ha b hb
    rcases List.mem_cons.1 hb with r | r
    · rw [r]; exact hA a ha
    · exact pAB a ha b r
theorem sort_mem (once : Bool) : ∀ (l o : List (List Int)) (y : List Int), y ∈ l.foldl (mIns once) o ↔ y ∈ o ∨ y ∈ l
  | [], o, y => by simp
  | x :: l, o, y => by
    rw [List.foldl_cons, sort_mem once l, ins_mem, List.mem_cons, or_assoc]
theorem sort_asc : ∀ (l o : List (List Int)), Asc o → Asc (l.foldl (mIns true) o)
  | [], _, h => h
  | x :: l, o, h => sort_asc l _ (ins_asc o x h)
theorem asc_ext : ∀ a b : List (List Int), Asc a → Asc b → (∀ x, x ∈ a ↔ x ∈ b) → a = b
  | [], [], _, _, _ => rfl
  | [], y :: t, _, _, h => by have := (h y).2 (by simp); simp at this
  | x :: s, [], _, _, h => by have := (h x).1 (by simp); simp at this
  | x :: s, y :: t, ha, hb, h => by
    unfold Asc at ha hb
    obtain ⟨a1, a2⟩ := List.pairwise_cons.1 ha
    obtain ⟨b1, b2⟩ := List.pairwise_cons.1 hb
    have exy : x = y := by
      rcases List.mem_cons.1 ((h x).1 (by simp)) with r | r
      · exact r
      · rcases List.mem_cons.1 ((h y).2 (by simp)) with q | q
        · exact q.symm
        · have := mLess_trans _ _ _ (a1 y q) (b1 x r)
          rw [mLess_irr] at this; cases this
    subst exy
    have irr : ∀ z, mLess x z = true → z ≠ x := fun z hz e => by rw [e, mLess_irr] at hz; cases hz
    rw [asc_ext s t a2 b2 (fun z => ?_)]
    constructor
    · intro hz
      rcases List.mem_cons.1 ((h z).1 (List.mem_cons_of_mem _ hz)) with r | r
      · exact absurd r (irr z (a1 z hz))
      · exact r
    · intro hz
      rcases List.mem_cons.1 ((h z).2 (List.mem_cons_of_mem _ hz)) with r | r
      · exact absurd r (irr z (b1 z hz))
      · exact r
theorem ins_len (once : Bool) (o : List (List Int)) (x : List Int) : (mIns once o x).length ≤ o.length + 1 := by
  have hp := pos_le x o o.length
  unfold mIns
  by_cases c : once = true ∧ 0 < mPos x o o.length ∧ o.getD (mPos x o o.length - 1) [] = x
  · rw [if_pos c]; omega
  · rw [if_neg c]; simp; omega
theorem rdD (o : List (List Int)) (k : Nat) : rd_L1 o (k : Int) = o.getD k [] := by simp [rd_L1]
theorem sort6_l3 (l : List (List Int)) (once : Bool) (o : List (List Int)) (i : Int) (acc : List (List Int)) (p : Nat) (hp : p ≤ o.length) (ho : o.length ≤ 10000000000) (ha : acc.length ≤ 10000000000) {r : List (List Int)}
    (h : Ev (fun k => spec_l6Sort.l0 k l once (acc ++ o.drop p) (wrap64 (i + 1))) r) : Ev (fun k => spec_l6Sort.l3 k l once o i acc (p : Int)) r := by
  have key := idx_ind (o.drop p) (fun pre suf => Ev (fun k => spec_l6Sort.l3 k l once o i (acc ++ pre) ((p + pre.length : Nat) : Int)) r) ?_ ?_
  · simpa using key
  · refine Ev.step (fun k => spec_l6Sort.l3.eq_2 ..) ?_
    have hn : ¬ (((p + (o.drop p).length : Nat) : Int) < (o.length : Int)) := by simp; omega
    simp only [if_neg hn]
    exact h
  · intro pre a suf e ih
    have hl : p + pre.length < o.length := by have := congrArg List.length e; simp at this; omega
    have hr : rd_L1 o ((p + pre.length : Nat) : Int) = a := by
      rw [rdD, List.getD_eq_getElem?_getD]
      have : (o.drop p)[pre.length]? = some a := by rw [e]; simp
      rw [List.getElem?_drop] at this
      rw [this]; rfl
    have h1 : ((p + pre.length : Nat) : Int) < (o.length : Int) := by omega
    have h2 : (0 : Int) ≤ ((p + pre.length : Nat) : Int) := by omega
    have h3 : (acc ++ pre).length < 5864062014805 := by simp; omega
    have h4 : wrap64 (((p + pre.length : Nat) : Int) + 1) = ((p + (pre ++ [a]).length : Nat) : Int) := by rw [w64 (by omega) (by omega)]; simp; omega
    refine Ev.step (fun k => spec_l6Sort.l3.eq_2 ..) ?_
    simp only [if_pos h1, if_pos h2, if_pos h3, hr, h4]
    rw [List.append_assoc]
    exact ih
theorem sort6_l2 (l : List (List Int)) (once : Bool) (o : List (List Int)) (i : Nat) (x : List Int) (p : Nat) (hp : p ≤ o.length) (ho : o.length ≤ 1000000000) (hi : i < l.length) (hx : l.getD i [] = x) (hxl : x.length ≤ 10000000000) {r : List (List Int)}
    (h : Ev (fun k => spec_l6Sort.l0 k l once (o.take p ++ x :: o.drop p) (wrap64 ((i : Int) + 1))) r) : Ev (fun k => spec_l6Sort.l2 k l once o (i : Int) (p : Int) [] 0) r := by
  have key := idx_ind (o.take p) (fun pre suf => Ev (fun k => spec_l6Sort.l2 k l once o (i : Int) (p : Int) pre (pre.length : Int)) r) ?_ ?_
  · exact key
  · refine Ev.step (fun k => spec_l6Sort.l2.eq_2 ..) ?_
    have hn : ¬ (((o.take p).length : Int) < (p : Int)) := by simp; omega
    have h2 : (0 : Int) ≤ (i : Int) := by omega
    have h1 : (i : Int) < (l.length : Int) := by omega
    have h3 : ([] : List Int).length + x.length < 17592186044416 := by simp; omega
    have h4 : (o.take p).length < 5864062014805 := by simp; omega
    have hr : rd_L1 l (i : Int) = x := by rw [rdD]; exact hx
    simp only [if_neg hn, Option.bind_some, if_pos h2, if_pos h1, hr, if_pos h3, if_pos h4]
    refine sort6_l3 l once o _ _ p hp (by omega) (by simp; omega) ?_
    simpa using h
  · intro pre a suf e ih
    have hl : pre.length < p := by have := congrArg List.length e; simp at this; omega
    have hr : rd_L1 o (pre.length : Int) = a := by
      rw [rdD, List.getD_eq_getElem?_getD]
      have : (o.take p)[pre.length]? = some a := by rw [e]; simp
      rw [List.getElem?_take, if_pos hl] at this
      rw [this]; rfl
    have h1 : (pre.length : Int) < (p : Int) := by omega
    have h2 : (pre.length : Int) < (o.length : Int) := by omega
    have h3 : pre.length < 5864062014805 := by omega
    refine Ev.step (fun k => spec_l6Sort.l2.eq_2 ..) ?_
    simp only [if_pos h1, if_pos (len_nonneg _), if_pos h2, if_pos h3, hr, iw (a := a) (show pre.length ≤ 140737488355328 by omega)]
    exact ih
theorem sort6_step (l : List (List Int)) (once : Bool) (o : List (List Int)) (i : Nat) (x : List Int) (ho : o.length ≤ 1000000000) (hi : i < l.length) (hx : l.getD i [] = x) (hxl : x.length ≤ 10000000000) (hos : ∀ y ∈ o, y.length ≤ 10000000000) {r : List (List Int)}
    (h : Ev (fun k => spec_l6Sort.l0 k l once (mIns once o x) (wrap64 ((i : Int) + 1))) r) : ∀ p, p ≤ o.length → mPos x o p = mPos x o o.length → Ev (fun k => spec_l6Sort.l1 k l once o (i : Int) (p : Int)) r := by
  have hr : rd_L1 l (i : Int) = x := by rw [rdD]; exact hx
  have hi0 : (0 : Int) ≤ (i : Int) := by omega
  have hi1 : (i : Int) < (l.length : Int) := by omega
  have j3f : (once = true ∧ 0 < mPos x o o.length ∧ o.getD (mPos x o o.length - 1) [] = x → False) → Ev (fun k => spec_l6Sort.j3 k l once o (i : Int) (mPos x o o.length : Int) false) r := by
    intro c
    refine Ev.step (fun k => spec_l6Sort.j3.eq_2 ..) ?_
    simp only [Bool.false_eq_true, if_false]
    refine sort6_l2 l once o i x _ (pos_le x o _) ho hi hx hxl ?_
    have e : mIns once o x = o.take (mPos x o o.length) ++ x :: o.drop (mPos x o o.length) := by unfold mIns; rw [if_neg c]
    rw [e] at h; exact h
  have j2 : Ev (fun k => spec_l6Sort.j2 k l once o (i : Int) (mPos x o o.length : Int)) r := by
    have hp := pos_le x o o.length
    refine Ev.step (fun k => spec_l6Sort.j2.eq_2 ..) ?_
    cases once with
    | false => simp only [Bool.false_eq_true, if_false]; exact j3f (fun c => by cases c.1)
    | true =>
      simp only [if_true]
      by_cases z : 0 < mPos x o o.length
      · have z1 : ((mPos x o o.length : Nat) : Int) > 0 := by omega
        have ew : wrap64 (((mPos x o o.length : Nat) : Int) - 1) = ((mPos x o o.length - 1 : Nat) : Int) := by rw [w64 (by omega) (by omega)]; omega
        have z2 : (0 : Int) ≤ ((mPos x o o.length - 1 : Nat) : Int) := by omega
        have z3 : ((mPos x o o.length - 1 : Nat) : Int) < (o.length : Int) := by omega
        simp only [if_pos z1, ew, if_pos z2, if_pos z3, if_pos hi0, if_pos hi1, hr, rdD]
        refine evb (l2Ints_ev _ _ (by have := hos _ (mem_getD (o := o) (j := mPos x o o.length - 1) (by omega)); omega)) ?_
        by_cases e : o.getD (mPos x o o.length - 1) [] = x
        · rw [decide_eq_true e]
          refine Ev.step (fun k => spec_l6Sort.j3.eq_2 ..) ?_
          simp only [if_true]
          have e : mIns true o x = o := by unfold mIns; rw [if_pos ⟨rfl, z, e⟩]
          rw [e] at h; exact h
        · rw [decide_eq_false e]
          exact j3f (fun c => e c.2.2)
      · have z1 : ¬ ((mPos x o o.length : Nat) : Int) > 0 := by omega
        simp only [if_neg z1]
        exact j3f (fun c => z c.2.1)
  intro p
  induction p with
  | zero =>
    intro _ e
    refine Ev.step (fun k => spec_l6Sort.l1.eq_2 ..) ?_
    have hn : ¬ (((0 : Nat) : Int) > 0) := by omega
    simp only [if_neg hn]
    rw [← e] at j2
    exact j2
  | succ p ih =>
    intro hp e
    refine Ev.step (fun k => spec_l6Sort.l1.eq_2 ..) ?_
    have z1 : ((p + 1 : Nat) : Int) > 0 := by omega
    have ew : wrap64 (((p + 1 : Nat) : Int) - 1) = (p : Int) := by rw [w64 (by omega) (by omega)]; omega
    have z2 : (0 : Int) ≤ (p : Int) := by omega
    have z3 : (p : Int) < (o.length : Int) := by omega
    simp only [if_pos z1, ew, if_pos z2, if_pos z3, if_pos hi0, if_pos hi1, hr, rdD]
    refine evb (l2Less_ev _ _ (by omega)) ?_
    by_cases c : mLess x (o.getD p []) = true
    · simp only [if_pos c]
      exact ih (by omega) (by rw [← e, mPos, if_pos c])
    · simp only [if_neg c]
      have : mPos x o (p + 1) = p + 1 := by rw [mPos, if_neg c]
      rw [this] at e
      rw [e]; exact j2
theorem l6Sort_ev (l : List (List Int)) (once : Bool) (hl : l.length ≤ 10000000) (hs : ∀ x ∈ l, x.length ≤ 10000000000) : Ev (fun k => spec_l6Sort.f k l once) (mSort once l) := by
  have key := idx_ind l (fun pre suf => ∀ o, o.length ≤ pre.length → (∀ y ∈ o, y ∈ l) → Ev (fun k => spec_l6Sort.l0 k l once o (pre.length : Int)) (suf.foldl (mIns once) o)) ?_ ?_
  · exact key [] (Nat.le_refl _) (by simp)
  · intro o _ _
    refine evn fun k => ?_
    simp only [spec_l6Sort.l0]
    rw [if_neg (end_not _)]; rfl
  · intro pre x suf e ih o ho hm
    have hpl : pre.length < l.length := by rw [e]; simp
    refine Ev.step (fun k => spec_l6Sort.l0.eq_2 ..) ?_
    simp only [if_pos (lt_of e)]
    have r := ih (mIns once o x) (by have := ins_len once o x; simp; omega) (fun y hy => by
      rcases (ins_mem once o x y).1 hy with h | h
      · exact hm y h
      · rw [h, e]; simp)
    rw [← nx_of e (show l.length ≤ 140737488355328 by omega)] at r
    exact sort6_step l once o pre.length x (by omega) hpl (by rw [e]; simp) (hs x (by rw [e]; simp)) (fun y hy => hs y (hm y hy)) r o.length (Nat.le_refl _) rfl

theorem slEqual_ev (l m : List Int) (h : l.length ≤ 140737488355328) : Ev (fun k => slices_Equal_int_int.f k l m) (decide (l = m)) := by
  by_cases hl : l.length = m.length
  · have key := idx_ind l (fun pre suf => ∀ pre2 suf2, m = pre2 ++ suf2 → pre2.length = pre.length → Ev (fun k => slices_Equal_int_int.l0 k l m (l.length : Int) (pre.length : Int)) (decide (suf = suf2))) ?_ ?_
    · have r := key [] m rfl rfl
      refine Ev.congr (fun k => ?_) r
      unfold slices_Equal_int_int.f
      rw [if_pos (by omega)]
      rfl
    · intro pre2 suf2 e2 hp
      have : suf2 = [] := by
        have := congrArg List.length e2
        simp at this
        exact List.eq_nil_of_length_eq_zero (by omega)
      subst this
      refine evn fun k => ?_
      simp only [slices_Equal_int_int.l0]
      rw [if_neg (end_not _)]; simp
    · intro pre a suf e ih pre2 suf2 e2 hp
      obtain ⟨b, t2, rfl⟩ : ∃ b t2, suf2 = b :: t2 := by
        cases suf2 with
        | nil => exfalso; have h1 := congrArg List.length e; have h2 := congrArg List.length e2; simp at h1 h2; omega
        | cons b t2 => exact ⟨b, t2, rfl⟩
      have r2 : rd m (pre.length : Int) = b := by rw [← hp]; exact rd_of e2
      have l2 : (pre.length : Int) < (m.length : Int) := by rw [← hp]; exact lt_of e2
      by_cases hab : a = b
      · subst hab
        have r := ih (pre2 ++ [a]) t2 (by rw [e2]; simp) (by simp [hp])
        have ed : decide (a :: suf = a :: t2) = decide (suf = t2) := by simp
        rw [ed]
        refine Ev.step (fun k => ?_) r
        simp only [slices_Equal_int_int.l0]
        rw [if_pos (lt_of e), if_pos (len_nonneg _), if_pos (lt_of e), if_pos l2, rd_of e, r2, if_pos rfl, nx_of e h]
      · have ed : decide (a :: suf = b :: t2) = false := by simp [hab]
        rw [ed]
        refine evn fun k => ?_
        simp only [slices_Equal_int_int.l0]
        rw [if_pos (lt_of e), if_pos (len_nonneg _), if_pos (lt_of e), if_pos l2, rd_of e, r2, if_neg hab]
  · have e : decide (l = m) = false := by simp; intro h; exact hl (by rw [h])
    rw [e]
    refine evc fun k => ?_
    unfold slices_Equal_int_int.f
    rw [if_neg (by omega)]

/-! ### SameTuples -/
theorem sort_len (once : Bool) : ∀ (l o : List (List Int)), (l.foldl (mIns once) o).length ≤ o.length + l.length
  | [], o => by simp
  | x :: l, o => by have a := sort_len once l (mIns once o x); have b := ins_len once o x; simp; omega
theorem specSame_ev (l m : List (List Int)) (hl : l.length ≤ 1048576) (hs : ∀ x ∈ l, x.length ≤ 1048576) (ml : m.length ≤ 1048576) (ms : ∀ x ∈ m, x.length ≤ 1048576) :
    Ev (fun k => spec_SameTuples.f k l m) (decide (mSort true l = mSort true m)) := by
  unfold spec_SameTuples.f
  refine evb (l6Sort_ev l true (by omega) (fun x hx => by have := hs x hx; omega)) ?_
  refine evb (l6Sort_ev m true (by omega) (fun x hx => by have := ms x hx; omega)) ?_
  have b1 := sort_len true l []
  have d1 : ∀ x ∈ mSort true l, x.length ≤ 1048576 := fun x hx => by
    rcases (sort_mem true l [] x).1 hx with h | h
    · simp at h
    · exact hs x h
  change (mSort true l).length ≤ _ at b1
  generalize mSort true l = a at b1 d1 ⊢
  generalize mSort true m = b
  simp only [List.length_nil, Nat.zero_add] at b1
  by_cases c : a.length = b.length
  · have c' : (a.length : Int) = (b.length : Int) := by omega
    simp only [if_pos c']
    have key := idx_ind a (fun pre suf => ∀ pre2 suf2, b = pre2 ++ suf2 → pre2.length = pre.length → Ev (fun k => spec_SameTuples.l0 k a b (pre.length : Int)) (decide (suf = suf2))) ?_ ?_
    · exact key [] b rfl rfl
    · intro pre2 suf2 e2 hp
      have : suf2 = [] := by
        have := congrArg List.length e2
        simp at this
        exact List.eq_nil_of_length_eq_zero (by omega)
      subst this
      refine evn fun k => ?_
      simp only [spec_SameTuples.l0]
      rw [if_neg (end_not _)]; simp
    · intro pre x suf e ih pre2 suf2 e2 hp
      obtain ⟨y, t2, rfl⟩ : ∃ y t2, suf2 = y :: t2 := by
        cases suf2 with
        | nil => exfalso; have h1 := congrArg List.length e; have h2 := congrArg List.length e2; simp at h1 h2; omega
        | cons y t2 => exact ⟨y, t2, rfl⟩
      have r2 : rd_L1 b (pre.length : Int) = y := by rw [← hp]; exact rdL_of e2
      have l2 : (pre.length : Int) < (b.length : Int) := by rw [← hp]; exact lt_of e2
      refine Ev.step (fun k => spec_SameTuples.l0.eq_2 ..) ?_
      simp only [if_pos (lt_of e), if_pos (len_nonneg _), if_pos l2, rdL_of e, r2, nx_of e (show a.length ≤ 140737488355328 by omega)]
      refine evb (l2Ints_ev x y (by have := d1 x (by rw [e]; simp); omega)) ?_
      by_cases hxy : x = y
      · subst hxy
        simp only [decide_true, if_true]
        have r := ih (pre2 ++ [x]) t2 (by rw [e2]; simp) (by simp [hp])
        rw [show decide (x :: suf = x :: t2) = decide (suf = t2) by simp]
        exact r
      · rw [decide_eq_false hxy, decide_eq_false (fun h => hxy (by injection h))]
        simp only [Bool.false_eq_true, if_false]
        exact evc fun k => rfl
  · have c' : ¬ (a.length : Int) = (b.length : Int) := by omega
    simp only [if_neg c']
    rw [decide_eq_false (fun h => c (by rw [h]))]
    exact evc fun k => rfl
theorem hasTuple_ev (l : List (List Int)) (x : List Int) (hl : l.length ≤ 1048576) (hs : ∀ x ∈ l, x.length ≤ 1048576) : Ev (fun k => impl_hasTuple.f k l x) (decide (x ∈ l)) := by
  have key := idx_ind l (fun pre suf => Ev (fun k => impl_hasTuple.l0 k x l (l.length : Int) (pre.length : Int)) (decide (x ∈ suf))) ?_ ?_
  · exact key
  · refine evn fun k => ?_
    simp only [impl_hasTuple.l0]
    rw [if_neg (end_not _)]; simp
  · intro pre a suf e ih
    refine Ev.step (fun k => impl_hasTuple.l0.eq_2 ..) ?_
    simp only [if_pos (lt_of e), if_pos (len_nonneg _), rdL_of e, nx_of e (show l.length ≤ 140737488355328 by omega)]
    refine evb (slEqual_ev a x (by have := hs a (by rw [e]; simp); omega)) ?_
    by_cases h : a = x
    · rw [decide_eq_true h, show decide (x ∈ a :: suf) = true by simp [h]]
      simp only [if_true]
      exact evc fun k => rfl
    · rw [decide_eq_false h, show decide (x ∈ a :: suf) = decide (x ∈ suf) by
        have : x ≠ a := fun e => h e.symm
        simp [this]]
      simp only [Bool.false_eq_true, if_false]
      exact ih
theorem implSame_ev (l m : List (List Int)) (hl : l.length ≤ 1048576) (hs : ∀ x ∈ l, x.length ≤ 1048576) (ml : m.length ≤ 1048576) (ms : ∀ x ∈ m, x.length ≤ 1048576) :
    Ev (fun k => impl_SameTuples.f k l m) (decide ((∀ x ∈ l, x ∈ m) ∧ (∀ x ∈ m, x ∈ l))) := by
  have key2 := idx_ind m (fun pre suf => Ev (fun k => impl_SameTuples.l1 k l m (m.length : Int) (pre.length : Int)) (decide (∀ x ∈ suf, x ∈ l))) ?_ ?_
  · have key := idx_ind l (fun pre suf => Ev (fun k => impl_SameTuples.l0 k l m l (l.length : Int) (pre.length : Int)) (decide ((∀ x ∈ suf, x ∈ m) ∧ (∀ x ∈ m, x ∈ l)))) ?_ ?_
    · exact key
    · refine Ev.step (fun k => impl_SameTuples.l0.eq_2 ..) ?_
      simp only [if_neg (end_not _)]
      rw [show decide ((∀ x ∈ ([] : List (List Int)), x ∈ m) ∧ (∀ x ∈ m, x ∈ l)) = decide (∀ x ∈ m, x ∈ l) by
        exact decide_eq_decide.2 ⟨fun h => h.2, fun h => ⟨by simp, h⟩⟩]
      exact key2
    · intro pre a suf e ih
      refine Ev.step (fun k => impl_SameTuples.l0.eq_2 ..) ?_
      simp only [if_pos (lt_of e), if_pos (len_nonneg _), rdL_of e, nx_of e (show l.length ≤ 140737488355328 by omega)]
      refine evb (hasTuple_ev m a ml ms) ?_
      by_cases h : a ∈ m
      · rw [decide_eq_true h, show decide ((∀ x ∈ a :: suf, x ∈ m) ∧ (∀ x ∈ m, x ∈ l)) = decide ((∀ x ∈ suf, x ∈ m) ∧ (∀ x ∈ m, x ∈ l)) by
          exact decide_eq_decide.2 ⟨fun H => ⟨fun x hx => H.1 x (List.mem_cons_of_mem _ hx), H.2⟩, fun H => ⟨fun x hx => by
            rcases List.mem_cons.1 hx with r | r
            · rw [r]; exact h
            · exact H.1 x r, H.2⟩⟩]
        simp only [if_true]
        exact ih
      · rw [decide_eq_false h, decide_eq_false (fun H => h (H.1 a List.mem_cons_self))]
        simp only [Bool.false_eq_true, if_false]
        exact evc fun k => rfl
  · refine evn fun k => ?_
    simp only [impl_SameTuples.l1]
    rw [if_neg (end_not _)]; simp
  · intro pre a suf e ih
    refine Ev.step (fun k => impl_SameTuples.l1.eq_2 ..) ?_
    simp only [if_pos (lt_of e), if_pos (len_nonneg _), rdL_of e, nx_of e (show m.length ≤ 140737488355328 by omega)]
    refine evb (hasTuple_ev l a hl hs) ?_
    by_cases h : a ∈ l
    · rw [decide_eq_true h, show decide (∀ x ∈ a :: suf, x ∈ l) = decide (∀ x ∈ suf, x ∈ l) by
        exact decide_eq_decide.2 ⟨fun H x hx => H x (List.mem_cons_of_mem _ hx), fun H x hx => by
          rcases List.mem_cons.1 hx with r | r
          · rw [r]; exact h
          · exact H x r⟩]
      simp only [if_true]
      exact ih
    · rw [decide_eq_false h, decide_eq_false (fun H => h (H a List.mem_cons_self))]
      simp only [Bool.false_eq_true, if_false]
      exact evc fun k => rfl
theorem same_iff (l m : List (List Int)) : decide ((∀ x ∈ l, x ∈ m) ∧ (∀ x ∈ m, x ∈ l)) = decide (mSort true l = mSort true m) := by
  refine decide_eq_decide.2 ⟨fun h => ?_, fun h => ?_⟩
  · refine asc_ext _ _ (sort_asc l [] List.Pairwise.nil) (sort_asc m [] List.Pairwise.nil) (fun x => ?_)
    unfold mSort
    rw [sort_mem, sort_mem]
    simp only [List.not_mem_nil, false_or]
    exact ⟨h.1 x, h.2 x⟩
  · have e : ∀ x, x ∈ l ↔ x ∈ m := fun x => by
      have a := sort_mem true l [] x
      have b := sort_mem true m [] x
      simp only [List.not_mem_nil, false_or] at a b
      rw [← a, ← b]
      unfold mSort at h
      rw [h]
    exact ⟨fun x => (e x).1, fun x => (e x).2⟩

theorem FnExactSameTuples (x : List (List Int)) (w0 : (WfL (WfL WfI)) x) (y : List (List Int)) (w1 : (WfL (WfL WfI)) y) : ∃ k, laws_FnExactSameTuples.f k x y = some true := by
  refine Ev.rounds ?_
  unfold laws_FnExactSameTuples.f
  obtain ⟨t0, z0, c0⟩ := szIntSS_ok x 1048576 w0 (by omega) (by omega)
  refine evb z0 ?_
  rcases c0 with c0 | ⟨p0, q0, hs0⟩
  · simp only [if_pos c0]; exact evc fun k => rfl
  have n0 : ¬ t0 < 0 := by omega
  simp only [if_neg n0]
  obtain ⟨t1, z1, c1⟩ := szIntSS_ok y t0 w1 (by omega) (by omega)
  refine evb z1 ?_
  rcases c1 with c1 | ⟨p1, q1, hs1⟩
  · simp only [if_pos c1]; exact evc fun k => rfl
  have n1 : ¬ t1 < 0 := by omega
  simp only [if_neg n1]
  refine evb (toIntSS_ev x (by omega) hs0.2) ?_
  refine evb (toIntSS_ev y (by omega) hs1.2) ?_
  refine evb (specSame_ev x y (by omega) hs0.2 (by omega) hs1.2) ?_
  refine evb (toIntSS_ev x (by omega) hs0.2) ?_
  refine evb (toIntSS_ev y (by omega) hs1.2) ?_
  refine evb ((same_iff x y) ▸ implSame_ev x y (by omega) hs0.2 (by omega) hs1.2) ?_
  simp only [bne_self_eq_false, Bool.false_eq_true, if_false]
  refine evb (toIntSS_ev x (by omega) hs0.2) ?_
  refine evb (eqIntSS_ev x (by omega) hs0.2) ?_
  simp only [and_self, decide_true, if_true]
  refine evb (toIntSS_ev y (by omega) hs1.2) ?_
  refine evb (eqIntSS_ev y (by omega) hs1.2) ?_
  simp only [and_self, decide_true, if_true]
  exact evc fun k => rfl

end Go.Proofs.Ytpfpappamlgnoaa.Pure
