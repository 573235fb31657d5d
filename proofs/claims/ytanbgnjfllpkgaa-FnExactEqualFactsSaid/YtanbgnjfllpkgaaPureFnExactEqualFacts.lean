/- The pure statement of the law FnExactEqualFacts: the program's function and the reference's agree, for all arguments within the row's bounds. -/
import Derived.Test.YtanbgnjfllpkgaaQFnExactEqualFactsx3
import Derived.Test.YtanbgnjfllpkgaaMine
import Derived.Test.YtanbgnjfllpkgaaOpen
set_option linter.unusedVariables false
set_option linter.unusedSimpArgs false
namespace Go.Proofs.Ytanbgnjfllpkgaa.Pure
open Go.RowKit Go.Proofs.Ytanbgnjfllpkgaa.QFnExactEqualFacts Go.Proofs.YtanbgnjfllpkgaaW.PrintWords Go.Proofs.YtanbgnjfllpkgaaW.PrintLast Go.Proofs.Ytanbgnjfllpkgaa.Mine Go.Proofs.Ytanbgnjfllpkgaa.Open

theorem szIntS_eq (l : List Int) (a : Int) (h : l.length ≤ maxLen) (h0 : 0 ≤ a) (h1 : a ≤ 1048576) : laws_szIntS.f l a = some (mSz l a) := by
  unfold maxLen at h
  unfold laws_szIntS.f mSz
  rw [w64 (by omega) (by omega)]
  by_cases hc : (l.length : Int) ≤ a
  · rw [if_neg (by omega), if_pos hc]
  · rw [if_pos (by omega), if_neg hc]

/-! ### A copy of a list -/
theorem toIntS_l0 (suf : List Int) : ∀ pre : List Int, (pre ++ suf).length ≤ 17592186044416 → Ev (fun k => laws_toIntS.l0 k (pre ++ suf) (pre ++ List.replicate suf.length 0) (pre.length : Int)) (pre ++ suf) := by
  induction suf with
  | nil =>
    intro pre h
    simp only [List.append_nil, List.length_nil, List.replicate_zero]
    refine evn fun k => ?_
    simp only [laws_toIntS.l0]
    rw [if_neg (end_not _)]
  | cons a t ih =>
    intro pre h
    have h1 := ih (pre ++ [a]) (by simpa using h)
    have hl : pre.length ≤ 140737488355328 := by simp at h; omega
    refine Ev.step (fun k => ?_) (by simpa using h1)
    simp only [laws_toIntS.l0]
    rw [if_pos (mid_lt _ _ _), if_pos (len_nonneg _)]
    simp only [List.length_cons, List.replicate_succ]
    rw [if_pos (mid_lt _ _ _), rd_mid, set_mid, iw (a := a) hl]
    simp
theorem toIntS_ev (l : List Int) (h : l.length ≤ 17592186044416) : Ev (fun k => laws_toIntS.f k l) l := by
  have h1 := toIntS_l0 l [] (by simpa using h)
  refine Ev.congr (fun k => ?_) h1
  unfold laws_toIntS.f
  rw [if_pos (by omega), if_pos (by simp; omega)]
  simp

/-! ### Equal lists -/
theorem eqIntS_l0 (suf : List Int) : ∀ (pre suf2 pre2 : List Int), pre.length = pre2.length → suf.length = suf2.length → (pre ++ suf).length ≤ 17592186044416 →
    Ev (fun k => laws_eqIntS.l0 k (pre ++ suf) (pre2 ++ suf2) (pre.length : Int)) (decide (suf = suf2)) := by
  induction suf with
  | nil =>
    intro pre suf2 pre2 hp hs h
    obtain rfl : suf2 = [] := List.eq_nil_of_length_eq_zero (by simpa using hs.symm)
    simp only [List.append_nil]
    refine evn fun k => ?_
    simp only [laws_eqIntS.l0]
    rw [if_neg (end_not _)]; simp
  | cons a t ih =>
    intro pre suf2 pre2 hp hs h
    obtain ⟨b, t2, rfl⟩ : ∃ b t2, suf2 = b :: t2 := by cases suf2 with
      | nil => simp at hs
      | cons b t2 => exact ⟨b, t2, rfl⟩
    have hl : pre.length ≤ 140737488355328 := by simp at h; omega
    have r1 : rd (pre2 ++ b :: t2) (pre.length : Int) = b := by rw [hp]; exact rd_mid _ _ _
    have l1 : (pre.length : Int) < ((pre2 ++ b :: t2).length : Int) := by rw [hp]; exact mid_lt _ _ _
    by_cases hab : a = b
    · subst hab
      have h1 := ih (pre ++ [a]) t2 (pre2 ++ [a]) (by simpa using hp) (by simpa using hs) (by simpa using h)
      have e : decide (a :: t = a :: t2) = decide (t = t2) := by simp
      rw [e]
      refine Ev.step (fun k => ?_) (by simpa using h1)
      simp only [laws_eqIntS.l0]
      rw [if_pos (mid_lt _ _ _), if_pos (len_nonneg _), if_pos l1, rd_mid, r1, if_pos rfl, iw (a := a) hl]
      simp
    · have e : decide (a :: t = b :: t2) = false := by simp [hab]
      rw [e]
      refine evn fun k => ?_
      simp only [laws_eqIntS.l0]
      rw [if_pos (mid_lt _ _ _), if_pos (len_nonneg _), if_pos l1, rd_mid, r1, if_neg hab]
theorem eqIntS_ev (l l2 : List Int) (h : l.length ≤ 17592186044416) : Ev (fun k => laws_eqIntS.f k l l2) (decide (l = l2)) := by
  by_cases hl : l.length = l2.length
  · have h1 := eqIntS_l0 l [] l2 [] rfl hl (by simpa using h)
    refine Ev.congr (fun k => ?_) h1
    unfold laws_eqIntS.f
    rw [if_pos (by omega)]
    simp
  · have e : decide (l = l2) = false := by simp; intro h; exact hl (by rw [h])
    rw [e]
    refine evc fun k => ?_
    unfold laws_eqIntS.f
    rw [if_neg (by omega)]

theorem eqFact_ev (r : Int) (l : List Int) (q : Int) (m : List Int) (h : l.length ≤ 17592186044416) : Ev (fun k => laws_eqFact.f k r l q m) (decide (r = q ∧ l = m)) := by
  unfold laws_eqFact.f
  by_cases hr : r = q
  · simp only [if_pos hr]
    refine evb (eqIntS_ev l m h) ?_
    refine evc fun k => ?_
    by_cases e : l = m
    · simp [e, hr]
    · simp [e]
  · simp only [if_neg hr]
    refine evc fun k => ?_
    simp [hr]

theorem szFact_eq (r : Int) (l : List Int) (a : Int) (h : l.length ≤ maxLen) (h0 : 0 ≤ a) (h1 : a ≤ 1048576) : laws_szFact.f r l a = some (mSz l a) := by
  unfold laws_szFact.f
  rw [szIntS_eq l a h h0 h1]
  simp only [Option.bind_some]
  unfold mSz
  by_cases hc : (l.length : Int) ≤ a
  · simp only [if_pos hc]; rw [if_neg (by omega)]
  · simp only [if_neg hc]; rfl
theorem toFact_ev (r : Int) (l : List Int) (h : l.length ≤ 17592186044416) : Ev (fun k => laws_toFact.f k r l) (r, l) := by
  unfold laws_toFact.f
  refine evb (toIntS_ev l h) ?_
  exact evc fun k => rfl
theorem szFact_ok (r : Int) (l : List Int) (a : Int) (w : (WfL WfI) l) (h0 : 0 ≤ a) (h1 : a ≤ 1048576) : ∃ t, Ev (fun _ : Nat => laws_szFact.f r l a) t ∧ (t < 0 ∨ 0 ≤ t ∧ t ≤ a ∧ l.length ≤ 1048576) := by
  refine ⟨mSz l a, evc fun k => szFact_eq r l a w.2 h0 h1, ?_⟩
  unfold mSz
  by_cases hc : (l.length : Int) ≤ a
  · rw [if_pos hc]; right; omega
  · rw [if_neg hc]; left; omega

/-! ### Lists of facts -/
def cvF (x : S102) : S104 := ⟨x.f0, x.f1⟩
def SmF (l : List S102) : Prop := ∀ x ∈ l, x.f1.length ≤ 1048576
def SmFi (l : List S104) : Prop := ∀ x ∈ l, x.f1.length ≤ 1048576
theorem cvF_small {l : List S102} (h : ∀ x ∈ l, x.f1.length ≤ 1048576) : ∀ x ∈ l.map cvF, x.f1.length ≤ 1048576 := by
  intro x hx
  obtain ⟨y, hy, rfl⟩ := List.mem_map.1 hx
  exact h y hy
theorem rdLF_of {l pre suf : List S102} {a : S102} (e : l = pre ++ a :: suf) : rd_T102 l (pre.length : Int) = a := getD_of e _
theorem rdIF_of {l pre suf : List S104} {a : S104} (e : l = pre ++ a :: suf) : rd_T104 l (pre.length : Int) = a := getD_of e _
theorem szFactS_ok (l : List S102) (a : Int) (w : (WfL (fun x : S102 => WfI x.f0 ∧ (WfL WfI) x.f1)) l) (h0 : 0 ≤ a) (h1 : a ≤ 1048576) :
    ∃ t, Ev (fun k => laws_szFactS.f k l a) t ∧ (t < 0 ∨ 0 ≤ t ∧ t ≤ a ∧ l.length ≤ 1048576 ∧ ∀ x ∈ l, x.f1.length ≤ 1048576) := by
  have hm : l.length ≤ 9223372036854775807 := by have := w.2; unfold maxLen at this; exact this
  unfold laws_szFactS.f
  rw [w64 (by omega) (by omega)]
  by_cases hc : a - (l.length : Int) < 0
  · simp only [if_pos hc]; exact ⟨-1, evc fun k => rfl, .inl (by omega)⟩
  · simp only [if_neg hc]
    have hl : l.length ≤ 1048576 := by omega
    have key := idx_ind l (fun pre suf => ∀ b : Int, 0 ≤ b → b ≤ a → ∃ t, Ev (fun k => laws_szFactS.l0 k l b (pre.length : Int)) t ∧ (t < 0 ∨ 0 ≤ t ∧ t ≤ a ∧ ∀ x ∈ suf, x.f1.length ≤ 1048576)) ?_ ?_
    · obtain ⟨t, z, c⟩ := key (a - (l.length : Int)) (by omega) (by omega)
      exact ⟨t, z, c.imp id (fun ⟨p, q, r⟩ => ⟨p, q, hl, r⟩)⟩
    · intro b hb0 hb1
      refine ⟨b, evn fun k => ?_, .inr ⟨hb0, hb1, by simp⟩⟩
      simp only [laws_szFactS.l0]
      rw [if_neg (end_not _)]
    · intro pre x suf e ih b hb0 hb1
      have hx : x ∈ l := by rw [e]; simp
      obtain ⟨t, z, c⟩ := szFact_ok x.f0 x.f1 b (w.1 x hx).2 hb0 (by omega)
      have z' : laws_szFact.f x.f0 x.f1 b = some t := by obtain ⟨K, hK⟩ := z; exact hK K (Nat.le_refl _)
      rcases c with c | ⟨p, q, s⟩
      · refine ⟨-1, evn fun k => ?_, .inl (by omega)⟩
        simp only [laws_szFactS.l0]
        rw [if_pos (lt_of e), if_pos (len_nonneg _), rdLF_of e, z']
        simp only [Option.bind_some]
        rw [if_pos c]
      · obtain ⟨t2, z2, c2⟩ := ih t p (by omega)
        refine ⟨t2, Ev.step (fun k => ?_) z2, c2.imp id (fun ⟨p2, q2, r2⟩ => ⟨p2, q2, ?_⟩)⟩
        · simp only [laws_szFactS.l0]
          rw [if_pos (lt_of e), if_pos (len_nonneg _), rdLF_of e, z']
          simp only [Option.bind_some]
          rw [if_neg (by omega), nx_of e (by omega)]
        · intro y hy
          rcases List.mem_cons.1 hy with rfl | hy
          · exact s
          · exact r2 y hy
theorem toFactS_ev (l : List S102) (hl : l.length ≤ 1048576) (hs : ∀ x ∈ l, x.f1.length ≤ 1048576) : Ev (fun k => laws_toFactS.f k l) (l.map cvF) := by
  have key := idx_ind l (fun pre suf => Ev (fun k => laws_toFactS.l0 k l (pre.map cvF ++ List.replicate suf.length z104) (pre.length : Int)) (l.map cvF)) ?_ ?_
  · refine Ev.congr (fun k => ?_) key
    unfold laws_toFactS.f
    rw [if_pos (by omega), if_pos (by omega)]
    simp
  · refine evn fun k => ?_
    simp only [laws_toFactS.l0]
    rw [if_neg (end_not _)]
    simp
  · intro pre x suf e ih
    have hx : x.f1.length ≤ 1048576 := hs x (by rw [e]; simp)
    refine Ev.step (f := fun k => (laws_toFact.f k x.f0 x.f1).bind fun b => laws_toFactS.l0 k l ((pre.map cvF ++ List.replicate (suf.length + 1) z104).set pre.length (⟨b.1, b.2⟩ : S104)) ((pre ++ [x]).length : Int)) (fun k => ?_) ?_
    · simp only [laws_toFactS.l0]
      have hc : (pre.length : Int) < ((pre.map cvF ++ List.replicate (x :: suf).length z104).length : Int) := by simp; omega
      rw [if_pos (lt_of e), if_pos (len_nonneg _), rdLF_of e, nx_of e (by omega)]
      simp only [if_pos hc]
      simp
    · refine evb (toFact_ev x.f0 x.f1 (by omega)) ?_
      have es : (pre.map cvF ++ List.replicate (suf.length + 1) z104).set pre.length (⟨x.f0, x.f1⟩ : S104) = (pre ++ [x]).map cvF ++ List.replicate suf.length z104 := by
        rw [List.replicate_succ]
        simp [cvF]
      simp only [es]
      exact ih
theorem eqFactS_ev (l : List S104) (hl : l.length ≤ 1048576) (hs : ∀ x ∈ l, x.f1.length ≤ 1048576) : Ev (fun k => laws_eqFactS.f k l l) true := by
  have key := idx_ind l (fun pre suf => Ev (fun k => laws_eqFactS.l0 k l l (pre.length : Int)) true) ?_ ?_
  · refine Ev.congr (fun k => ?_) key
    unfold laws_eqFactS.f
    rw [if_pos rfl]; rfl
  · refine evn fun k => ?_
    simp only [laws_eqFactS.l0]
    rw [if_neg (end_not _)]
  · intro pre x suf e ih
    have hx : x.f1.length ≤ 1048576 := hs x (by rw [e]; simp)
    refine Ev.step (f := fun k => (laws_eqFact.f k x.f0 x.f1 x.f0 x.f1).bind fun b => if b = true then laws_eqFactS.l0 k l l ((pre ++ [x]).length : Int) else some false) (fun k => ?_) ?_
    · simp only [laws_eqFactS.l0]
      rw [if_pos (lt_of e), if_pos (len_nonneg _), if_pos (lt_of e), rdIF_of e, nx_of e (by omega)]
    · refine evb (eqFact_ev x.f0 x.f1 x.f0 x.f1 (by omega)) ?_
      simp only [and_self, decide_true, if_true]
      exact ih

def mAll2 {α : Type} (p : α → α → Bool) : List α → List α → Bool
  | a :: s, b :: t => p a b && mAll2 p s t
  | _, _ => true
def mEqL {α : Type} (p : α → α → Bool) (l m : List α) : Bool := decide (l.length = m.length) && mAll2 p l m

theorem l2Ints_ev (l m : List Int) (h : l.length ≤ 140737488355328) : Ev (fun k => spec_l2Ints.f k l m) (decide (l = m)) := by
  by_cases hl : l.length = m.length
  · have key := idx_ind l (fun pre suf => ∀ pre2 suf2, m = pre2 ++ suf2 → pre2.length = pre.length → Ev (fun k => spec_l2Ints.l0 k l m (pre.length : Int)) (decide (suf = suf2))) ?_ ?_
    · have r := key [] m rfl rfl
      refine Ev.congr (fun k => ?_) r
      unfold spec_l2Ints.f
      rw [if_pos (by omega)]
      rfl
    · intro pre2 suf2 e2 hp
      have : suf2 = [] := by
        have := congrArg List.length e2
        simp at this
        exact List.eq_nil_of_length_eq_zero (by omega)
      subst this
      refine evn fun k => ?_
      simp only [spec_l2Ints.l0]
      rw [if_neg (end_not _)]; simp
    · intro pre a suf e ih pre2 suf2 e2 hp
      obtain ⟨b, t2, rfl⟩ : ∃ b t2, suf2 = b :: t2 := by
        cases suf2 with
        | nil => exfalso; have h1 := congrArg List.length e; have h2 := congrArg List.length e2; simp at h1 h2; omega
        | cons b t2 => exact ⟨b, t2, rfl⟩
      have r2 : rd m (pre.length : Int) = b := by rw [← hp]; exact rd_of e2
      have l2 : (pre.length : Int) < (m.length : Int) := by rw [← hp]; exact lt_of e2
      by_cases hab : a = b
      · subst hab
        have r := ih (pre2 ++ [a]) t2 (by rw [e2]; simp) (by simp [hp])
        have ed : decide (a :: suf = a :: t2) = decide (suf = t2) := by simp
        rw [ed]
        refine Ev.step (fun k => ?_) r
        simp only [spec_l2Ints.l0]
        rw [if_pos (lt_of e), if_pos (len_nonneg _), if_pos l2, rd_of e, r2, if_pos rfl, nx_of e h]
      · have ed : decide (a :: suf = b :: t2) = false := by simp [hab]
        rw [ed]
        refine evn fun k => ?_
        simp only [spec_l2Ints.l0]
        rw [if_pos (lt_of e), if_pos (len_nonneg _), if_pos l2, rd_of e, r2, if_neg hab]
  · have e : decide (l = m) = false := by simp; intro h; exact hl (by rw [h])
    rw [e]
    refine evc fun k => ?_
    unfold spec_l2Ints.f
    rw [if_neg (by omega)]

theorem slEqual_ev (l m : List Int) (h : l.length ≤ 140737488355328) : Ev (fun k => slices_Equal_int_int.f k l m) (decide (l = m)) := by
  by_cases hl : l.length = m.length
  · have key := idx_ind l (fun pre suf => ∀ pre2 suf2, m = pre2 ++ suf2 → pre2.length = pre.length → Ev (fun k => slices_Equal_int_int.l0 k l m (l.length : Int) (pre.length : Int)) (decide (suf = suf2))) ?_ ?_
    · have r := key [] m rfl rfl
      refine Ev.congr (fun k => ?_) r
      unfold slices_Equal_int_int.f
      rw [if_pos (by omega)]
      rfl
    · intro pre2 suf2 e2 hp
      have : suf2 = [] := by
        have := congrArg List.length e2
        simp at this
        exact List.eq_nil_of_length_eq_zero (by omega)
      subst this
      refine evn fun k => ?_
      simp only [slices_Equal_int_int.l0]
      rw [if_neg (end_not _)]; simp
    · intro pre a suf e ih pre2 suf2 e2 hp
      obtain ⟨b, t2, rfl⟩ : ∃ b t2, suf2 = b :: t2 := by
        cases suf2 with
        | nil => exfalso; have h1 := congrArg List.length e; have h2 := congrArg List.length e2; simp at h1 h2; omega
        | cons b t2 => exact ⟨b, t2, rfl⟩
      have r2 : rd m (pre.length : Int) = b := by rw [← hp]; exact rd_of e2
      have l2 : (pre.length : Int) < (m.length : Int) := by rw [← hp]; exact lt_of e2
      by_cases hab : a = b
      · subst hab
        have r := ih (pre2 ++ [a]) t2 (by rw [e2]; simp) (by simp [hp])
        have ed : decide (a :: suf = a :: t2) = decide (suf = t2) := by simp
        rw [ed]
        refine Ev.step (fun k => ?_) r
        simp only [slices_Equal_int_int.l0]
        rw [if_pos (lt_of e), if_pos (len_nonneg _), if_pos (lt_of e), if_pos l2, rd_of e, r2, if_pos rfl, nx_of e h]
      · have ed : decide (a :: suf = b :: t2) = false := by simp [hab]
        rw [ed]
        refine evn fun k => ?_
        simp only [slices_Equal_int_int.l0]
        rw [if_pos (lt_of e), if_pos (len_nonneg _), if_pos (lt_of e), if_pos l2, rd_of e, r2, if_neg hab]
  · have e : decide (l = m) = false := by simp; intro h; exact hl (by rw [h])
    rw [e]
    refine evc fun k => ?_
    unfold slices_Equal_int_int.f
    rw [if_neg (by omega)]

theorem specEqFact_ev (r : Int) (l : List Int) (q : Int) (m : List Int) (h : l.length ≤ 140737488355328) : Ev (fun k => spec_l5Same.f k r l q m) (decide (r = q ∧ l = m)) := by
  unfold spec_l5Same.f
  by_cases hr : r = q
  · simp only [if_pos hr]
    refine evb (l2Ints_ev l m h) ?_
    refine evc fun k => ?_
    simp [hr]
  · simp only [if_neg hr]
    refine evc fun k => ?_
    simp [hr]
theorem implEqFact_ev (r : Int) (l : List Int) (q : Int) (m : List Int) (h : l.length ≤ 140737488355328) : Ev (fun k => impl_equalFact.f k r l q m) (decide (r = q ∧ l = m)) := by
  unfold impl_equalFact.f
  by_cases hr : r = q
  · simp only [if_pos hr]
    refine evb (slEqual_ev l m h) ?_
    refine evc fun k => ?_
    simp [hr]
  · simp only [if_neg hr]
    refine evc fun k => ?_
    simp [hr]

/-! ### Facts as lists -/
def mEqFact (a b : S104) : Bool := decide (a.f0 = b.f0 ∧ a.f1 = b.f1)
theorem implEqFactS_ev (l m : List S104) (hl : l.length ≤ 1048576) (hs : ∀ x ∈ l, x.f1.length ≤ 1048576) : Ev (fun k => impl_Fact.f k l m 0) (mEqL mEqFact l m) := by
  unfold impl_Fact.f mEqL
  by_cases c : l.length = m.length
  · have c' : (l.length : Int) = (m.length : Int) := by omega
    simp only [if_pos c']
    rw [decide_eq_true c, Bool.true_and]
    have key := idx_ind l (fun pre suf => ∀ pre2 suf2, m = pre2 ++ suf2 → pre2.length = pre.length → Ev (fun k => impl_Fact.l0 k m l (l.length : Int) (pre.length : Int)) (mAll2 mEqFact suf suf2)) ?_ ?_
    · exact key [] m rfl rfl
    · intro pre2 suf2 e2 hp
      refine evn fun k => ?_
      simp only [impl_Fact.l0]
      rw [if_neg (end_not _)]; rfl
    · intro pre x suf e ih pre2 suf2 e2 hp
      obtain ⟨y, t2, rfl⟩ : ∃ y t2, suf2 = y :: t2 := by
        cases suf2 with
        | nil => exfalso; have h1 := congrArg List.length e; have h2 := congrArg List.length e2; simp at h1 h2; omega
        | cons y t2 => exact ⟨y, t2, rfl⟩
      have r2 : rd_T104 m (pre.length : Int) = y := by rw [← hp]; exact rdIF_of e2
      have l2 : (pre.length : Int) < (m.length : Int) := by rw [← hp]; exact lt_of e2
      refine Ev.step (fun k => impl_Fact.l0.eq_2 ..) ?_
      simp only [if_pos (lt_of e), if_pos (len_nonneg _), if_pos l2, rdIF_of e, r2, nx_of e (show l.length ≤ 140737488355328 by omega)]
      refine evb (implEqFact_ev x.f0 x.f1 y.f0 y.f1 (by have := hs x (by rw [e]; simp); omega)) ?_
      unfold mAll2
      by_cases h : x.f0 = y.f0 ∧ x.f1 = y.f1
      · rw [show mEqFact x y = true from decide_eq_true h, decide_eq_true h, Bool.true_and]
        simp only [if_true]
        exact ih (pre2 ++ [y]) t2 (by rw [e2]; simp) (by simp [hp])
      · rw [show mEqFact x y = false from decide_eq_false h, decide_eq_false h, Bool.false_and]
        simp only [Bool.false_eq_true, if_false]
        exact evc fun k => rfl
  · have c' : ¬ (l.length : Int) = (m.length : Int) := by omega
    simp only [if_neg c']
    rw [decide_eq_false c, Bool.false_and]
    exact evc fun k => rfl
theorem specEqFacts_l0 (l m : List S104) (hl : l.length ≤ 1048576) (hs : ∀ x ∈ l, x.f1.length ≤ 1048576) (c : l.length = m.length) : Ev (fun k => spec_EqualFacts.l0 k l m 0) (mAll2 mEqFact l m) := by
  have key := idx_ind l (fun pre suf => ∀ pre2 suf2, m = pre2 ++ suf2 → pre2.length = pre.length → Ev (fun k => spec_EqualFacts.l0 k l m (pre.length : Int)) (mAll2 mEqFact suf suf2)) ?_ ?_
  · exact key [] m rfl rfl
  · intro pre2 suf2 e2 hp
    refine evn fun k => ?_
    simp only [spec_EqualFacts.l0]
    rw [if_neg (end_not _)]; rfl
  · intro pre x suf e ih pre2 suf2 e2 hp
    obtain ⟨y, t2, rfl⟩ : ∃ y t2, suf2 = y :: t2 := by
      cases suf2 with
      | nil => exfalso; have h1 := congrArg List.length e; have h2 := congrArg List.length e2; simp at h1 h2; omega
      | cons y t2 => exact ⟨y, t2, rfl⟩
    have r2 : rd_T104 m (pre.length : Int) = y := by rw [← hp]; exact rdIF_of e2
    have l2 : (pre.length : Int) < (m.length : Int) := by rw [← hp]; exact lt_of e2
    refine Ev.step (fun k => spec_EqualFacts.l0.eq_2 ..) ?_
    simp only [if_pos (lt_of e), if_pos (len_nonneg _), if_pos l2, rdIF_of e, r2, nx_of e (show l.length ≤ 140737488355328 by omega)]
    refine evb (specEqFact_ev x.f0 x.f1 y.f0 y.f1 (by have := hs x (by rw [e]; simp); omega)) ?_
    unfold mAll2
    by_cases h : x.f0 = y.f0 ∧ x.f1 = y.f1
    · rw [show mEqFact x y = true from decide_eq_true h, decide_eq_true h, Bool.true_and]
      simp only [if_true]
      exact ih (pre2 ++ [y]) t2 (by rw [e2]; simp) (by simp [hp])
    · rw [show mEqFact x y = false from decide_eq_false h, decide_eq_false h, Bool.false_and]
      simp only [Bool.false_eq_true, if_false]
      exact evc fun k => rfl
theorem specEqFacts_ev (l m : List S104) (hl : l.length ≤ 1048576) (hs : ∀ x ∈ l, x.f1.length ≤ 1048576) : Ev (fun k => spec_EqualFacts.f k l m) (mEqL mEqFact l m) := by
  unfold spec_EqualFacts.f mEqL
  by_cases c : l.length = m.length
  · have c' : (l.length : Int) = (m.length : Int) := by omega
    simp only [if_pos c']
    rw [decide_eq_true c, Bool.true_and]
    exact specEqFacts_l0 l m hl hs c
  · have c' : ¬ (l.length : Int) = (m.length : Int) := by omega
    simp only [if_neg c']
    rw [decide_eq_false c, Bool.false_and]
    exact evc fun k => rfl
theorem implEqFacts_ev (l m : List S104) (hl : l.length ≤ 1048576) (hs : ∀ x ∈ l, x.f1.length ≤ 1048576) : Ev (fun k => impl_EqualFacts.f k l m) (mEqL mEqFact l m) := by
  unfold impl_EqualFacts.f
  refine evb (implEqFactS_ev l m hl hs) ?_
  exact evc fun k => rfl

theorem FnExactEqualFacts (d : List S102) (w0 : (WfL (fun x : S102 => WfI x.f0 ∧ (WfL WfI) x.f1)) d) (e : List S102) (w1 : (WfL (fun x : S102 => WfI x.f0 ∧ (WfL WfI) x.f1)) e) : ∃ k, laws_FnExactEqualFacts.f k d e = some true := by
  refine Ev.rounds ?_
  unfold laws_FnExactEqualFacts.f
  obtain ⟨t0, z0, c0⟩ := szFactS_ok d 1048576 w0 (by omega) (by omega)
  refine evb z0 ?_
  rcases c0 with c0 | ⟨p0, q0, hs0⟩
  · simp only [if_pos c0]; exact evc fun k => rfl
  have n0 : ¬ t0 < 0 := by omega
  simp only [if_neg n0]
  obtain ⟨t1, z1, c1⟩ := szFactS_ok e t0 w1 (by omega) (by omega)
  refine evb z1 ?_
  rcases c1 with c1 | ⟨p1, q1, hs1⟩
  · simp only [if_pos c1]; exact evc fun k => rfl
  have n1 : ¬ t1 < 0 := by omega
  simp only [if_neg n1]
  refine evb (toFactS_ev d (by omega) hs0.2) ?_
  refine evb (toFactS_ev e (by omega) hs1.2) ?_
  refine evb (specEqFacts_ev (d.map cvF) (e.map cvF) (by simpa using (show d.length ≤ 1048576 by omega)) (cvF_small hs0.2)) ?_
  refine evb (toFactS_ev d (by omega) hs0.2) ?_
  refine evb (toFactS_ev e (by omega) hs1.2) ?_
  refine evb (implEqFacts_ev (d.map cvF) (e.map cvF) (by simpa using (show d.length ≤ 1048576 by omega)) (cvF_small hs0.2)) ?_
  simp only [bne_self_eq_false, Bool.false_eq_true, if_false]
  refine evb (toFactS_ev d (by omega) hs0.2) ?_
  refine evb (eqFactS_ev (d.map cvF) (by simpa using (show d.length ≤ 1048576 by omega)) (cvF_small hs0.2)) ?_
  simp only [and_self, decide_true, if_true]
  refine evb (toFactS_ev e (by omega) hs1.2) ?_
  refine evb (eqFactS_ev (e.map cvF) (by simpa using (show e.length ≤ 1048576 by omega)) (cvF_small hs1.2)) ?_
  simp only [and_self, decide_true, if_true]
  exact evc fun k => rfl

end Go.Proofs.Ytanbgnjfllpkgaa.Pure
