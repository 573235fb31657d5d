/- The pure statement of the law FnExactEqualQueries: the program's function and the reference's agree, for all arguments within the row's bounds. -/
import Derived.Test.YtanbgnjfllpkgaaQFnExactEqualQueriesx5
import Derived.Test.YtanbgnjfllpkgaaMine
import Derived.Test.YtanbgnjfllpkgaaOpen
set_option linter.unusedVariables false
set_option linter.unusedSimpArgs false
namespace Go.Proofs.Ytanbgnjfllpkgaa.Pure
open Go.RowKit Go.Proofs.Ytanbgnjfllpkgaa.QFnExactEqualQueries Go.Proofs.YtanbgnjfllpkgaaW.PrintWords Go.Proofs.YtanbgnjfllpkgaaW.PrintLast Go.Proofs.Ytanbgnjfllpkgaa.Mine Go.Proofs.Ytanbgnjfllpkgaa.Open

theorem szIntS_eq (l : List Int) (a : Int) (h : l.length ≤ maxLen) (h0 : 0 ≤ a) (h1 : a ≤ 1048576) : laws_szIntS.f l a = some (mSz l a) := by
  unfold maxLen at h
  unfold laws_szIntS.f mSz
  rw [w64 (by omega) (by omega)]
  by_cases hc : (l.length : Int) ≤ a
  · rw [if_neg (by omega), if_pos hc]
  · rw [if_pos (by omega), if_neg hc]

/-! ### A copy of a list -/
theorem toIntS_l0 (suf : List Int) : ∀ pre : List Int, (pre ++ suf).length ≤ 17592186044416 → Ev (fun k => laws_toIntS.l0 k (pre ++ suf) (pre ++ List.replicate suf.length 0) (pre.length : Int)) (pre ++ suf) := by
  induction suf with
  | nil =>
    intro pre h
    simp only [List.append_nil, List.length_nil, List.replicate_zero]
    refine evn fun k => ?_
    simp only [laws_toIntS.l0]
    rw [if_neg (end_not _)]
  | cons a t ih =>
    intro pre h
    have h1 := ih (pre ++ [a]) (by simpa using h)
    have hl : pre.length ≤ 140737488355328 := by simp at h; omega
    refine Ev.step (fun k => ?_) (by simpa using h1)
    simp only [laws_toIntS.l0]
    rw [if_pos (mid_lt _ _ _), if_pos (len_nonneg _)]
    simp only [List.length_cons, List.replicate_succ]
    rw [if_pos (mid_lt _ _ _), rd_mid, set_mid, iw (a := a) hl]
    simp
theorem toIntS_ev (l : List Int) (h : l.length ≤ 17592186044416) : Ev (fun k => laws_toIntS.f k l) l := by
  have h1 := toIntS_l0 l [] (by simpa using h)
  refine Ev.congr (fun k => ?_) h1
  unfold laws_toIntS.f
  rw [if_pos (by omega), if_pos (by simp; omega)]
  simp

/-! ### Equal lists -/
theorem eqIntS_l0 (suf : List Int) : ∀ (pre suf2 pre2 : List Int), pre.length = pre2.length → suf.length = suf2.length → (pre ++ suf).length ≤ 17592186044416 →
    Ev (fun k => laws_eqIntS.l0 k (pre ++ suf) (pre2 ++ suf2) (pre.length : Int)) (decide (suf = suf2)) := by
  induction suf with
  | nil =>
    intro pre suf2 pre2 hp hs h
    obtain rfl : suf2 = [] := List.eq_nil_of_length_eq_zero (by simpa using hs.symm)
    simp only [List.append_nil]
    refine evn fun k => ?_
    simp only [laws_eqIntS.l0]
    rw [if_neg (end_not _)]; simp
  | cons a t ih =>
    intro pre suf2 pre2 hp hs h
    obtain ⟨b, t2, rfl⟩ : ∃ b t2, suf2 = b :: t2 := by cases suf2 with
      | nil => simp at hs
      | cons b t2 => exact ⟨b, t2, rfl⟩
    have hl : pre.length ≤ 140737488355328 := by simp at h; omega
    have r1 : rd (pre2 ++ b :: t2) (pre.length : Int) = b := by rw [hp]; exact rd_mid _ _ _
    have l1 : (pre.length : Int) < ((pre2 ++ b :: t2).length : Int) := by rw [hp]; exact mid_lt _ _ _
    by_cases hab : a = b
    · subst hab
      have h1 := ih (pre ++ [a]) t2 (pre2 ++ [a]) (by simpa using hp) (by simpa using hs) (by simpa using h)
      have e : decide (a :: t = a :: t2) = decide (t = t2) := by simp
      rw [e]
      refine Ev.step (fun k => ?_) (by simpa using h1)
      simp only [laws_eqIntS.l0]
      rw [if_pos (mid_lt _ _ _), if_pos (len_nonneg _), if_pos l1, rd_mid, r1, if_pos rfl, iw (a := a) hl]
      simp
    · have e : decide (a :: t = b :: t2) = false := by simp [hab]
      rw [e]
      refine evn fun k => ?_
      simp only [laws_eqIntS.l0]
      rw [if_pos (mid_lt _ _ _), if_pos (len_nonneg _), if_pos l1, rd_mid, r1, if_neg hab]
theorem eqIntS_ev (l l2 : List Int) (h : l.length ≤ 17592186044416) : Ev (fun k => laws_eqIntS.f k l l2) (decide (l = l2)) := by
  by_cases hl : l.length = l2.length
  · have h1 := eqIntS_l0 l [] l2 [] rfl hl (by simpa using h)
    refine Ev.congr (fun k => ?_) h1
    unfold laws_eqIntS.f
    rw [if_pos (by omega)]
    simp
  · have e : decide (l = l2) = false := by simp; intro h; exact hl (by rw [h])
    rw [e]
    refine evc fun k => ?_
    unfold laws_eqIntS.f
    rw [if_neg (by omega)]

theorem eqAtom_ev (r : Int) (l : List Int) (q : Int) (m : List Int) (h : l.length ≤ 17592186044416) : Ev (fun k => laws_eqAtom.f k r l q m) (decide (r = q ∧ l = m)) := by
  unfold laws_eqAtom.f
  by_cases hr : r = q
  · simp only [if_pos hr]
    refine evb (eqIntS_ev l m h) ?_
    refine evc fun k => ?_
    by_cases e : l = m
    · simp [e, hr]
    · simp [e]
  · simp only [if_neg hr]
    refine evc fun k => ?_
    simp [hr]

theorem szAtom_eq (r : Int) (l : List Int) (a : Int) (h : l.length ≤ maxLen) (h0 : 0 ≤ a) (h1 : a ≤ 1048576) : laws_szAtom.f r l a = some (mSz l a) := by
  unfold laws_szAtom.f
  rw [szIntS_eq l a h h0 h1]
  simp only [Option.bind_some]
  unfold mSz
  by_cases hc : (l.length : Int) ≤ a
  · simp only [if_pos hc]; rw [if_neg (by omega)]
  · simp only [if_neg hc]; rfl
theorem toAtom_ev (r : Int) (l : List Int) (h : l.length ≤ 17592186044416) : Ev (fun k => laws_toAtom.f k r l) (r, l) := by
  unfold laws_toAtom.f
  refine evb (toIntS_ev l h) ?_
  exact evc fun k => rfl
theorem szAtom_ok (r : Int) (l : List Int) (a : Int) (w : (WfL WfI) l) (h0 : 0 ≤ a) (h1 : a ≤ 1048576) : ∃ t, Ev (fun _ : Nat => laws_szAtom.f r l a) t ∧ (t < 0 ∨ 0 ≤ t ∧ t ≤ a ∧ l.length ≤ 1048576) := by
  refine ⟨mSz l a, evc fun k => szAtom_eq r l a w.2 h0 h1, ?_⟩
  unfold mSz
  by_cases hc : (l.length : Int) ≤ a
  · rw [if_pos hc]; right; omega
  · rw [if_neg hc]; left; omega

theorem rdIA_of {l pre suf : List S97} {a : S97} (e : l = pre ++ a :: suf) : rd_T97 l (pre.length : Int) = a := getD_of e _

/-! ### Lists of atoms -/
def cvA (x : S124) : S97 := ⟨x.f0, x.f1⟩
def SmA (l : List S124) : Prop := ∀ x ∈ l, x.f1.length ≤ 1048576
def SmAi (l : List S97) : Prop := ∀ x ∈ l, x.f1.length ≤ 1048576
theorem cvA_small {l : List S124} (h : ∀ x ∈ l, x.f1.length ≤ 1048576) : ∀ x ∈ l.map cvA, x.f1.length ≤ 1048576 := by
  intro x hx
  obtain ⟨y, hy, rfl⟩ := List.mem_map.1 hx
  exact h y hy
theorem rdLA_of {l pre suf : List S124} {a : S124} (e : l = pre ++ a :: suf) : rd_T124 l (pre.length : Int) = a := getD_of e _
theorem szAtomS_ok (l : List S124) (a : Int) (w : (WfL (fun x : S124 => WfI x.f0 ∧ (WfL WfI) x.f1)) l) (h0 : 0 ≤ a) (h1 : a ≤ 1048576) :
    ∃ t, Ev (fun k => laws_szAtomS.f k l a) t ∧ (t < 0 ∨ 0 ≤ t ∧ t ≤ a ∧ l.length ≤ 1048576 ∧ ∀ x ∈ l, x.f1.length ≤ 1048576) := by
  have hm : l.length ≤ 9223372036854775807 := by have := w.2; unfold maxLen at this; exact this
  unfold laws_szAtomS.f
  rw [w64 (by omega) (by omega)]
  by_cases hc : a - (l.length : Int) < 0
  · simp only [if_pos hc]; exact ⟨-1, evc fun k => rfl, .inl (by omega)⟩
  · simp only [if_neg hc]
    have hl : l.length ≤ 1048576 := by omega
    have key := idx_ind l (fun pre suf => ∀ b : Int, 0 ≤ b → b ≤ a → ∃ t, Ev (fun k => laws_szAtomS.l0 k l b (pre.length : Int)) t ∧ (t < 0 ∨ 0 ≤ t ∧ t ≤ a ∧ ∀ x ∈ suf, x.f1.length ≤ 1048576)) ?_ ?_
    · obtain ⟨t, z, c⟩ := key (a - (l.length : Int)) (by omega) (by omega)
      exact ⟨t, z, c.imp id (fun ⟨p, q, r⟩ => ⟨p, q, hl, r⟩)⟩
    · intro b hb0 hb1
      refine ⟨b, evn fun k => ?_, .inr ⟨hb0, hb1, by simp⟩⟩
      simp only [laws_szAtomS.l0]
      rw [if_neg (end_not _)]
    · intro pre x suf e ih b hb0 hb1
      have hx : x ∈ l := by rw [e]; simp
      obtain ⟨t, z, c⟩ := szAtom_ok x.f0 x.f1 b (w.1 x hx).2 hb0 (by omega)
      have z' : laws_szAtom.f x.f0 x.f1 b = some t := by obtain ⟨K, hK⟩ := z; exact hK K (Nat.le_refl _)
      rcases c with c | ⟨p, q, s⟩
      · refine ⟨-1, evn fun k => ?_, .inl (by omega)⟩
        simp only [laws_szAtomS.l0]
        rw [if_pos (lt_of e), if_pos (len_nonneg _), rdLA_of e, z']
        simp only [Option.bind_some]
        rw [if_pos c]
      · obtain ⟨t2, z2, c2⟩ := ih t p (by omega)
        refine ⟨t2, Ev.step (fun k => ?_) z2, c2.imp id (fun ⟨p2, q2, r2⟩ => ⟨p2, q2, ?_⟩)⟩
        · simp only [laws_szAtomS.l0]
          rw [if_pos (lt_of e), if_pos (len_nonneg _), rdLA_of e, z']
          simp only [Option.bind_some]
          rw [if_neg (by omega), nx_of e (by omega)]
        · intro y hy
          rcases List.mem_cons.1 hy with rfl | hy
          · exact s
          · exact r2 y hy
theorem toAtomS_ev (l : List S124) (hl : l.length ≤ 1048576) (hs : ∀ x ∈ l, x.f1.length ≤ 1048576) : Ev (fun k => laws_toAtomS.f k l) (l.map cvA) := by
  have key := idx_ind l (fun pre suf => Ev (fun k => laws_toAtomS.l0 k l (pre.map cvA ++ List.replicate suf.length z97) (pre.length : Int)) (l.map cvA)) ?_ ?_
  · refine Ev.congr (fun k => ?_) key
    unfold laws_toAtomS.f
    rw [if_pos (by omega), if_pos (by omega)]
    simp
  · refine evn fun k => ?_
    simp only [laws_toAtomS.l0]
    rw [if_neg (end_not _)]
    simp
  · intro pre x suf e ih
    have hx : x.f1.length ≤ 1048576 := hs x (by rw [e]; simp)
    refine Ev.step (f := fun k => (laws_toAtom.f k x.f0 x.f1).bind fun b => laws_toAtomS.l0 k l ((pre.map cvA ++ List.replicate (suf.length + 1) z97).set pre.length (⟨b.1, b.2⟩ : S97)) ((pre ++ [x]).length : Int)) (fun k => ?_) ?_
    · simp only [laws_toAtomS.l0]
      have hc : (pre.length : Int) < ((pre.map cvA ++ List.replicate (x :: suf).length z97).length : Int) := by simp; omega
      rw [if_pos (lt_of e), if_pos (len_nonneg _), rdLA_of e, nx_of e (by omega)]
      simp only [if_pos hc]
      simp
    · refine evb (toAtom_ev x.f0 x.f1 (by omega)) ?_
      have es : (pre.map cvA ++ List.replicate (suf.length + 1) z97).set pre.length (⟨x.f0, x.f1⟩ : S97) = (pre ++ [x]).map cvA ++ List.replicate suf.length z97 := by
        rw [List.replicate_succ]
        simp [cvA]
      simp only [es]
      exact ih
theorem eqAtomS_ev (l : List S97) (hl : l.length ≤ 1048576) (hs : ∀ x ∈ l, x.f1.length ≤ 1048576) : Ev (fun k => laws_eqAtomS.f k l l) true := by
  have key := idx_ind l (fun pre suf => Ev (fun k => laws_eqAtomS.l0 k l l (pre.length : Int)) true) ?_ ?_
  · refine Ev.congr (fun k => ?_) key
    unfold laws_eqAtomS.f
    rw [if_pos rfl]; rfl
  · refine evn fun k => ?_
    simp only [laws_eqAtomS.l0]
    rw [if_neg (end_not _)]
  · intro pre x suf e ih
    have hx : x.f1.length ≤ 1048576 := hs x (by rw [e]; simp)
    refine Ev.step (f := fun k => (laws_eqAtom.f k x.f0 x.f1 x.f0 x.f1).bind fun b => if b = true then laws_eqAtomS.l0 k l l ((pre ++ [x]).length : Int) else some false) (fun k => ?_) ?_
    · simp only [laws_eqAtomS.l0]
      rw [if_pos (lt_of e), if_pos (len_nonneg _), if_pos (lt_of e), rdIA_of e, nx_of e (by omega)]
    · refine evb (eqAtom_ev x.f0 x.f1 x.f0 x.f1 (by omega)) ?_
      simp only [and_self, decide_true, if_true]
      exact ih

/-! ### Queries -/
theorem szQuery_ok (h : List Int) (d : List S124) (a : Int) (w : (WfL WfI) h ∧ (WfL (fun x : S124 => WfI x.f0 ∧ (WfL WfI) x.f1)) d) (h0 : 0 ≤ a) (h1 : a ≤ 1048576) :
    ∃ t, Ev (fun k => laws_szQuery.f k h d a) t ∧ (t < 0 ∨ 0 ≤ t ∧ t ≤ a ∧ h.length ≤ 1048576 ∧ d.length ≤ 1048576 ∧ ∀ x ∈ d, x.f1.length ≤ 1048576) := by
  unfold laws_szQuery.f
  rw [szIntS_eq h a w.1.2 h0 h1]
  simp only [Option.bind_some]
  unfold mSz
  by_cases hc : (h.length : Int) ≤ a
  · simp only [if_pos hc]
    have hn : ¬ (a - (h.length : Int) < 0) := by omega
    simp only [if_neg hn]
    obtain ⟨t, z, c⟩ := szAtomS_ok d (a - (h.length : Int)) w.2 (by omega) (by omega)
    rcases c with c | ⟨p, q, s⟩
    · exact ⟨-1, evb z (by simp only [if_pos c]; exact evc fun k => rfl), .inl (by omega)⟩
    · have hp : ¬ t < 0 := by omega
      exact ⟨t, evb z (by simp only [if_neg hp]; exact evc fun k => rfl), .inr ⟨p, by omega, by omega, s⟩⟩
  · simp only [if_neg hc]
    exact ⟨-1, evc fun k => rfl, .inl (by omega)⟩
theorem toQuery_ev (h : List Int) (d : List S124) (hh : h.length ≤ 1048576) (hl : d.length ≤ 1048576) (hs : ∀ x ∈ d, x.f1.length ≤ 1048576) : Ev (fun k => laws_toQuery.f k h d) (h, d.map cvA) := by
  unfold laws_toQuery.f
  refine evb (toIntS_ev h (by omega)) ?_
  refine evb (toAtomS_ev d hl hs) ?_
  exact evc fun k => rfl
theorem eqQuery_ev (h : List Int) (d : List S97) (hh : h.length ≤ 1048576) (hl : d.length ≤ 1048576) (hs : ∀ x ∈ d, x.f1.length ≤ 1048576) : Ev (fun k => laws_eqQuery.f k h d h d) true := by
  unfold laws_eqQuery.f
  refine evb (eqIntS_ev h h (by omega)) ?_
  simp only [decide_true, if_true]
  refine evb (eqAtomS_ev d hl hs) ?_
  simp only [if_true]
  exact evc fun k => rfl

def mAll2 {α : Type} (p : α → α → Bool) : List α → List α → Bool
  | a :: s, b :: t => p a b && mAll2 p s t
  | _, _ => true
def mEqL {α : Type} (p : α → α → Bool) (l m : List α) : Bool := decide (l.length = m.length) && mAll2 p l m

theorem l2Ints_ev (l m : List Int) (h : l.length ≤ 140737488355328) : Ev (fun k => spec_l2Ints.f k l m) (decide (l = m)) := by
  by_cases hl : l.length = m.length
  · have key := idx_ind l (fun pre suf => ∀ pre2 suf2, m = pre2 ++ suf2 → pre2.length = pre.length → Ev (fun k => spec_l2Ints.l0 k l m (pre.length : Int)) (decide (suf = suf2))) ?_ ?_
    · have r := key [] m rfl rfl
      refine Ev.congr (fun k => ?_) r
      unfold spec_l2Ints.f
      rw [if_pos (by omega)]
      rfl
    · intro pre2 suf2 e2 hp
      have : suf2 = [] := by
        have := congrArg List.length e2
        simp at this
        exact List.eq_nil_of_length_eq_zero (by omega)
      subst this
      refine evn fun k => ?_
      simp only [spec_l2Ints.l0]
      rw [if_neg (end_not _)]; simp
    · intro pre a suf e ih pre2 suf2 e2 hp
      obtain ⟨b, t2, rfl⟩ : ∃ b t2, suf2 = b :: t2 := by
        cases suf2 with
        | nil => exfalso; have h1 := congrArg List.length e; have h2 := congrArg List.length e2; simp at h1 h2; omega
        | cons b t2 => exact ⟨b, t2, rfl⟩
      have r2 : rd m (pre.length : Int) = b := by rw [← hp]; exact rd_of e2
      have l2 : (pre.length : Int) < (m.length : Int) := by rw [← hp]; exact lt_of e2
      by_cases hab : a = b
      · subst hab
        have r := ih (pre2 ++ [a]) t2 (by rw [e2]; simp) (by simp [hp])
        have ed : decide (a :: suf = a :: t2) = decide (suf = t2) := by simp
        rw [ed]
        refine Ev.step (fun k => ?_) r
        simp only [spec_l2Ints.l0]
        rw [if_pos (lt_of e), if_pos (len_nonneg _), if_pos l2, rd_of e, r2, if_pos rfl, nx_of e h]
      · have ed : decide (a :: suf = b :: t2) = false := by simp [hab]
        rw [ed]
        refine evn fun k => ?_
        simp only [spec_l2Ints.l0]
        rw [if_pos (lt_of e), if_pos (len_nonneg _), if_pos l2, rd_of e, r2, if_neg hab]
  · have e : decide (l = m) = false := by simp; intro h; exact hl (by rw [h])
    rw [e]
    refine evc fun k => ?_
    unfold spec_l2Ints.f
    rw [if_neg (by omega)]

theorem slEqual_ev (l m : List Int) (h : l.length ≤ 140737488355328) : Ev (fun k => slices_Equal_int_int.f k l m) (decide (l = m)) := by
  by_cases hl : l.length = m.length
  · have key := idx_ind l (fun pre suf => ∀ pre2 suf2, m = pre2 ++ suf2 → pre2.length = pre.length → Ev (fun k => slices_Equal_int_int.l0 k l m (l.length : Int) (pre.length : Int)) (decide (suf = suf2))) ?_ ?_
    · have r := key [] m rfl rfl
      refine Ev.congr (fun k => ?_) r
      unfold slices_Equal_int_int.f
      rw [if_pos (by omega)]
      rfl
    · intro pre2 suf2 e2 hp
      have : suf2 = [] := by
        have := congrArg List.length e2
        simp at this
        exact List.eq_nil_of_length_eq_zero (by omega)
      subst this
      refine evn fun k => ?_
      simp only [slices_Equal_int_int.l0]
      rw [if_neg (end_not _)]; simp
    · intro pre a suf e ih pre2 suf2 e2 hp
      obtain ⟨b, t2, rfl⟩ : ∃ b t2, suf2 = b :: t2 := by
        cases suf2 with
        | nil => exfalso; have h1 := congrArg List.length e; have h2 := congrArg List.length e2; simp at h1 h2; omega
        | cons b t2 => exact ⟨b, t2, rfl⟩
      have r2 : rd m (pre.length : Int) = b := by rw [← hp]; exact rd_of e2
      have l2 : (pre.length : Int) < (m.length : Int) := by rw [← hp]; exact lt_of e2
      by_cases hab : a = b
      · subst hab
        have r := ih (pre2 ++ [a]) t2 (by rw [e2]; simp) (by simp [hp])
        have ed : decide (a :: suf = a :: t2) = decide (suf = t2) := by simp
        rw [ed]
        refine Ev.step (fun k => ?_) r
        simp only [slices_Equal_int_int.l0]
        rw [if_pos (lt_of e), if_pos (len_nonneg _), if_pos (lt_of e), if_pos l2, rd_of e, r2, if_pos rfl, nx_of e h]
      · have ed : decide (a :: suf = b :: t2) = false := by simp [hab]
        rw [ed]
        refine evn fun k => ?_
        simp only [slices_Equal_int_int.l0]
        rw [if_pos (lt_of e), if_pos (len_nonneg _), if_pos (lt_of e), if_pos l2, rd_of e, r2, if_neg hab]
  · have e : decide (l = m) = false := by simp; intro h; exact hl (by rw [h])
    rw [e]
    refine evc fun k => ?_
    unfold slices_Equal_int_int.f
    rw [if_neg (by omega)]

theorem specEqAtoms_ev (r : Int) (l : List Int) (q : Int) (m : List Int) (h : l.length ≤ 140737488355328) : Ev (fun k => spec_EqualAtoms.f k r l q m) (decide (r = q ∧ l = m)) := by
  unfold spec_EqualAtoms.f
  by_cases hr : r = q
  · simp only [if_pos hr]
    refine evb (l2Ints_ev l m h) ?_
    refine evc fun k => ?_
    simp [hr]
  · simp only [if_neg hr]
    refine evc fun k => ?_
    simp [hr]
theorem implEqAtoms_ev (r : Int) (l : List Int) (q : Int) (m : List Int) (h : l.length ≤ 140737488355328) : Ev (fun k => impl_EqualAtoms.f k r l q m) (decide (r = q ∧ l = m)) := by
  unfold impl_EqualAtoms.f
  by_cases hr : r = q
  · simp only [if_pos hr]
    refine evb (slEqual_ev l m h) ?_
    refine evc fun k => ?_
    simp [hr]
  · simp only [if_neg hr]
    refine evc fun k => ?_
    simp [hr]

/-! ### Atoms as lists -/
def mEqAtom (a b : S97) : Bool := decide (a.f0 = b.f0 ∧ a.f1 = b.f1)
theorem implEqAtomS_ev (l m : List S97) (hl : l.length ≤ 1048576) (hs : ∀ x ∈ l, x.f1.length ≤ 1048576) : Ev (fun k => impl_Atom.f k l m 0) (mEqL mEqAtom l m) := by
  unfold impl_Atom.f mEqL
  by_cases c : l.length = m.length
  · have c' : (l.length : Int) = (m.length : Int) := by omega
    simp only [if_pos c']
    rw [decide_eq_true c, Bool.true_and]
    have key := idx_ind l (fun pre suf => ∀ pre2 suf2, m = pre2 ++ suf2 → pre2.length = pre.length → Ev (fun k => impl_Atom.l0 k m l (l.length : Int) (pre.length : Int)) (mAll2 mEqAtom suf suf2)) ?_ ?_
    · exact key [] m rfl rfl
    · intro pre2 suf2 e2 hp
      refine evn fun k => ?_
      simp only [impl_Atom.l0]
      rw [if_neg (end_not _)]; rfl
    · intro pre x suf e ih pre2 suf2 e2 hp
      obtain ⟨y, t2, rfl⟩ : ∃ y t2, suf2 = y :: t2 := by
        cases suf2 with
        | nil => exfalso; have h1 := congrArg List.length e; have h2 := congrArg List.length e2; simp at h1 h2; omega
        | cons y t2 => exact ⟨y, t2, rfl⟩
      have r2 : rd_T97 m (pre.length : Int) = y := by rw [← hp]; exact rdIA_of e2
      have l2 : (pre.length : Int) < (m.length : Int) := by rw [← hp]; exact lt_of e2
      refine Ev.step (fun k => impl_Atom.l0.eq_2 ..) ?_
      simp only [if_pos (lt_of e), if_pos (len_nonneg _), if_pos l2, rdIA_of e, r2, nx_of e (show l.length ≤ 140737488355328 by omega)]
      refine evb (implEqAtoms_ev x.f0 x.f1 y.f0 y.f1 (by have := hs x (by rw [e]; simp); omega)) ?_
      unfold mAll2
      by_cases h : x.f0 = y.f0 ∧ x.f1 = y.f1
      · rw [show mEqAtom x y = true from decide_eq_true h, decide_eq_true h, Bool.true_and]
        simp only [if_true]
        exact ih (pre2 ++ [y]) t2 (by rw [e2]; simp) (by simp [hp])
      · rw [show mEqAtom x y = false from decide_eq_false h, decide_eq_false h, Bool.false_and]
        simp only [Bool.false_eq_true, if_false]
        exact evc fun k => rfl
  · have c' : ¬ (l.length : Int) = (m.length : Int) := by omega
    simp only [if_neg c']
    rw [decide_eq_false c, Bool.false_and]
    exact evc fun k => rfl
theorem specEqQ_l0 (h g : List Int) (l m : List S97) (hl : l.length ≤ 1048576) (hs : ∀ x ∈ l, x.f1.length ≤ 1048576) (c : l.length = m.length) : Ev (fun k => spec_EqualQueries.l0 k 0 h l g m) (mAll2 mEqAtom l m) := by
  have key := idx_ind l (fun pre suf => ∀ pre2 suf2, m = pre2 ++ suf2 → pre2.length = pre.length → Ev (fun k => spec_EqualQueries.l0 k (pre.length : Int) h l g m) (mAll2 mEqAtom suf suf2)) ?_ ?_
  · exact key [] m rfl rfl
  · intro pre2 suf2 e2 hp
    refine evn fun k => ?_
    simp only [spec_EqualQueries.l0]
    rw [if_neg (end_not _)]; rfl
  · intro pre x suf e ih pre2 suf2 e2 hp
    obtain ⟨y, t2, rfl⟩ : ∃ y t2, suf2 = y :: t2 := by
      cases suf2 with
      | nil => exfalso; have h1 := congrArg List.length e; have h2 := congrArg List.length e2; simp at h1 h2; omega
      | cons y t2 => exact ⟨y, t2, rfl⟩
    have r2 : rd_T97 m (pre.length : Int) = y := by rw [← hp]; exact rdIA_of e2
    have l2 : (pre.length : Int) < (m.length : Int) := by rw [← hp]; exact lt_of e2
    refine Ev.step (fun k => spec_EqualQueries.l0.eq_2 ..) ?_
    simp only [if_pos (lt_of e), if_pos (len_nonneg _), if_pos l2, rdIA_of e, r2, nx_of e (show l.length ≤ 140737488355328 by omega)]
    refine evb (specEqAtoms_ev x.f0 x.f1 y.f0 y.f1 (by have := hs x (by rw [e]; simp); omega)) ?_
    unfold mAll2
    by_cases h : x.f0 = y.f0 ∧ x.f1 = y.f1
    · rw [show mEqAtom x y = true from decide_eq_true h, decide_eq_true h, Bool.true_and]
      simp only [if_true]
      exact ih (pre2 ++ [y]) t2 (by rw [e2]; simp) (by simp [hp])
    · rw [show mEqAtom x y = false from decide_eq_false h, decide_eq_false h, Bool.false_and]
      simp only [Bool.false_eq_true, if_false]
      exact evc fun k => rfl
def mEqQ (h : List Int) (l : List S97) (g : List Int) (m : List S97) : Bool := decide (h = g) && mEqL mEqAtom l m
theorem specEqQ_ev (h : List Int) (l : List S97) (g : List Int) (m : List S97) (hh : h.length ≤ 1048576) (hl : l.length ≤ 1048576) (hs : ∀ x ∈ l, x.f1.length ≤ 1048576) : Ev (fun k => spec_EqualQueries.f k h l g m) (mEqQ h l g m) := by
  have jt : Ev (fun k => spec_EqualQueries.j0 k true h l g m) false := evn fun k => by simp only [spec_EqualQueries.j0]; rw [if_pos trivial]
  unfold spec_EqualQueries.f mEqQ mEqL
  refine evb (l2Ints_ev h g (by omega)) ?_
  by_cases c0 : h = g
  · rw [decide_eq_true c0, Bool.true_and]
    simp only [if_true]
    by_cases c : l.length = m.length
    · rw [decide_eq_true c, Bool.true_and, show ((l.length : Int) != (m.length : Int)) = false by simp [c]]
      refine Ev.step (fun k => spec_EqualQueries.j0.eq_2 ..) ?_
      simp only [Bool.false_eq_true, if_false]
      exact specEqQ_l0 h g l m hl hs c
    · rw [decide_eq_false c, Bool.false_and, show ((l.length : Int) != (m.length : Int)) = true by simp; omega]
      exact jt
  · rw [decide_eq_false c0, Bool.false_and]
    simp only [Bool.false_eq_true, if_false]
    exact jt
theorem implEqQ_ev (h : List Int) (l : List S97) (g : List Int) (m : List S97) (hh : h.length ≤ 1048576) (hl : l.length ≤ 1048576) (hs : ∀ x ∈ l, x.f1.length ≤ 1048576) : Ev (fun k => impl_EqualQueries.f k h l g m) (mEqQ h l g m) := by
  unfold impl_EqualQueries.f mEqQ
  refine evb (slEqual_ev h g (by omega)) ?_
  by_cases c0 : h = g
  · rw [decide_eq_true c0, Bool.true_and]
    simp only [if_true]
    refine evb (implEqAtomS_ev l m hl hs) ?_
    exact evc fun k => rfl
  · rw [decide_eq_false c0, Bool.false_and]
    simp only [Bool.false_eq_true, if_false]
    exact evc fun k => rfl

theorem FnExactEqualQueries (h : List Int) (d : List S124) (w0 : (WfL WfI) h ∧ (WfL (fun x : S124 => WfI x.f0 ∧ (WfL WfI) x.f1)) d) (g : List Int) (e : List S124) (w1 : (WfL WfI) g ∧ (WfL (fun x : S124 => WfI x.f0 ∧ (WfL WfI) x.f1)) e) : ∃ k, laws_FnExactEqualQueries.f k h d g e = some true := by
  refine Ev.rounds ?_
  unfold laws_FnExactEqualQueries.f
  obtain ⟨t0, z0, c0⟩ := szQuery_ok h d 1048576 w0 (by omega) (by omega)
  refine evb z0 ?_
  rcases c0 with c0 | ⟨p0, q0, hs0⟩
  · simp only [if_pos c0]; exact evc fun k => rfl
  have n0 : ¬ t0 < 0 := by omega
  simp only [if_neg n0]
  obtain ⟨t1, z1, c1⟩ := szQuery_ok g e t0 w1 (by omega) (by omega)
  refine evb z1 ?_
  rcases c1 with c1 | ⟨p1, q1, hs1⟩
  · simp only [if_pos c1]; exact evc fun k => rfl
  have n1 : ¬ t1 < 0 := by omega
  simp only [if_neg n1]
  refine evb (toQuery_ev h d hs0.1 hs0.2.1 hs0.2.2) ?_
  refine evb (toQuery_ev g e hs1.1 hs1.2.1 hs1.2.2) ?_
  refine evb (specEqQ_ev h (d.map cvA) g (e.map cvA) hs0.1 (by simpa using hs0.2.1) (cvA_small hs0.2.2)) ?_
  refine evb (toQuery_ev h d hs0.1 hs0.2.1 hs0.2.2) ?_
  refine evb (toQuery_ev g e hs1.1 hs1.2.1 hs1.2.2) ?_
  refine evb (implEqQ_ev h (d.map cvA) g (e.map cvA) hs0.1 (by simpa using hs0.2.1) (cvA_small hs0.2.2)) ?_
  simp only [bne_self_eq_false, Bool.false_eq_true, if_false]
  refine evb (toQuery_ev h d hs0.1 hs0.2.1 hs0.2.2) ?_
  refine evb (eqQuery_ev h (d.map cvA) hs0.1 (by simpa using hs0.2.1) (cvA_small hs0.2.2)) ?_
  simp only [and_self, decide_true, if_true]
  refine evb (toQuery_ev g e hs1.1 hs1.2.1 hs1.2.2) ?_
  refine evb (eqQuery_ev g (e.map cvA) hs1.1 (by simpa using hs1.2.1) (cvA_small hs1.2.2)) ?_
  simp only [and_self, decide_true, if_true]
  exact evc fun k => rfl

end Go.Proofs.Ytanbgnjfllpkgaa.Pure
