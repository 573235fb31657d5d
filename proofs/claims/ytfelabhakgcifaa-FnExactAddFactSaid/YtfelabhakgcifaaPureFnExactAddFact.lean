/- The pure statement of the law FnExactAddFact: the program's function and the reference's agree, for all arguments within the row's bounds. -/
import Derived.Test.YtfelabhakgcifaaQFnExactAddFactx0
import Derived.Test.YtfelabhakgcifaaQFnExactAddFactx1
import Derived.Test.YtfelabhakgcifaaQFnExactAddFactx2
import Derived.Test.YtfelabhakgcifaaQFnExactAddFactx3
import Derived.Test.YtfelabhakgcifaaQFnExactAddFactx4
import Derived.Test.YtfelabhakgcifaaQFnExactAddFactx5
import Derived.Test.YtfelabhakgcifaaQFnExactAddFactx6
import Derived.Test.YtfelabhakgcifaaQFnExactAddFactx7
import Derived.Test.YtfelabhakgcifaaQFnExactAddFactx8
import Derived.Test.YtfelabhakgcifaaQFnExactAddFactx9
import Derived.Test.YtfelabhakgcifaaQFnExactAddFactx10
import Derived.Test.YtfelabhakgcifaaQFnExactAddFactx11
import Derived.Test.YtfelabhakgcifaaQFnExactAddFactx12
import Derived.Test.YtfelabhakgcifaaVFnExactAddFactMine
import Derived.Test.YtfelabhakgcifaaVFnExactAddFactOpen
set_option linter.unusedVariables false
set_option linter.unusedSimpArgs false
namespace Go.Proofs.Ytfelabhakgcifaa.Pure
open Go.RowKit Go.Proofs.Ytfelabhakgcifaa.QFnExactAddFact Go.Proofs.YtfelabhakgcifaaW.PrintWords Go.Proofs.YtfelabhakgcifaaW.PrintLast Go.Proofs.Ytfelabhakgcifaa.Mine Go.Proofs.Ytfelabhakgcifaa.Open

theorem szIntS_eq (l : List Int) (a : Int) (h : l.length ≤ maxLen) (h0 : 0 ≤ a) (h1 : a ≤ 1048576) : laws_szIntS.f l a = some (mSz l a) := by
  unfold maxLen at h
  unfold laws_szIntS.f mSz
  rw [w64 (by omega) (by omega)]
  by_cases hc : (l.length : Int) ≤ a
  · rw [if_neg (by omega), if_pos hc]
  · rw [if_pos (by omega), if_neg hc]
/-! ### A copy of a list -/
theorem toIntS_l0 (suf : List Int) : ∀ pre : List Int, (pre ++ suf).length ≤ 17592186044416 → Ev (fun k => laws_toIntS.l0 k (pre ++ suf) (pre ++ List.replicate suf.length 0) (pre.length : Int)) (pre ++ suf) := by
  induction suf with
  | nil =>
    intro pre h
    simp only [List.append_nil, List.length_nil, List.replicate_zero]
    refine evn fun k => ?_
    simp only [laws_toIntS.l0]
    rw [if_neg (end_not _)]
  | cons a t ih =>
    intro pre h
    have h1 := ih (pre ++ [a]) (by simpa using h)
    have hl : pre.length ≤ 140737488355328 := by simp at h; omega
    refine Ev.step (fun k => ?_) (by simpa using h1)
    simp only [laws_toIntS.l0]
    rw [if_pos (mid_lt _ _ _), if_pos (len_nonneg _)]
    simp only [List.length_cons, List.replicate_succ]
    rw [if_pos (mid_lt _ _ _), rd_mid, set_mid, iw (a := a) hl]
    simp
theorem toIntS_ev (l : List Int) (h : l.length ≤ 17592186044416) : Ev (fun k => laws_toIntS.f k l) l := by
  have h1 := toIntS_l0 l [] (by simpa using h)
  refine Ev.congr (fun k => ?_) h1
  unfold laws_toIntS.f
  rw [if_pos (by omega), if_pos (by simp; omega)]
  simp
/-! ### Equal lists -/
theorem eqIntS_l0 (suf : List Int) : ∀ (pre suf2 pre2 : List Int), pre.length = pre2.length → suf.length = suf2.length → (pre ++ suf).length ≤ 17592186044416 →
    Ev (fun k => laws_eqIntS.l0 k (pre ++ suf) (pre2 ++ suf2) (pre.length : Int)) (decide (suf = suf2)) := by
  induction suf with
  | nil =>
    intro pre suf2 pre2 hp hs h
    obtain rfl : suf2 = [] := List.eq_nil_of_length_eq_zero (by simpa using hs.symm)
    simp only [List.append_nil]
    refine evn fun k => ?_
    simp only [laws_eqIntS.l0]
    rw [if_neg (end_not _)]; simp
  | cons a t ih =>
    intro pre suf2 pre2 hp hs h
    obtain ⟨b, t2, rfl⟩ : ∃ b t2, suf2 = b :: t2 := by cases suf2 with
      | nil => simp at hs
      | cons b t2 => exact ⟨b, t2, rfl⟩
    have hl : pre.length ≤ 140737488355328 := by simp at h; omega
    have r1 : rd (pre2 ++ b :: t2) (pre.length : Int) = b := by rw [hp]; exact rd_mid _ _ _
    have l1 : (pre.length : Int) < ((pre2 ++ b :: t2).length : Int) := by rw [hp]; exact mid_lt _ _ _
    by_cases hab : a = b
    · subst hab
      have h1 := ih (pre ++ [a]) t2 (pre2 ++ [a]) (by simpa using hp) (by simpa using hs) (by simpa using h)
      have e : decide (a :: t = a :: t2) = decide (t = t2) := by simp
      rw [e]
      refine Ev.step (fun k => ?_) (by simpa using h1)
      simp only [laws_eqIntS.l0]
      rw [if_pos (mid_lt _ _ _), if_pos (len_nonneg _), if_pos l1, rd_mid, r1, if_pos rfl, iw (a := a) hl]
      simp
    · have e : decide (a :: t = b :: t2) = false := by simp [hab]
      rw [e]
      refine evn fun k => ?_
      simp only [laws_eqIntS.l0]
      rw [if_pos (mid_lt _ _ _), if_pos (len_nonneg _), if_pos l1, rd_mid, r1, if_neg hab]
theorem eqIntS_ev (l l2 : List Int) (h : l.length ≤ 17592186044416) : Ev (fun k => laws_eqIntS.f k l l2) (decide (l = l2)) := by
  by_cases hl : l.length = l2.length
  · have h1 := eqIntS_l0 l [] l2 [] rfl hl (by simpa using h)
    refine Ev.congr (fun k => ?_) h1
    unfold laws_eqIntS.f
    rw [if_pos (by omega)]
    simp
  · have e : decide (l = l2) = false := by simp; intro h; exact hl (by rw [h])
    rw [e]
    refine evc fun k => ?_
    unfold laws_eqIntS.f
    rw [if_neg (by omega)]
theorem szSchema_eq (l : List Int) (a : Int) (h : l.length ≤ maxLen) (h0 : 0 ≤ a) (h1 : a ≤ 1048576) : laws_szSchema.f l a = some (mSz l a) := by
  unfold laws_szSchema.f
  rw [szIntS_eq l a h h0 h1]
  simp only [Option.bind_some]
  unfold mSz
  by_cases hc : (l.length : Int) ≤ a
  · simp only [if_pos hc]; rw [if_neg (by omega)]
  · simp only [if_neg hc]; rfl
theorem toSchema_ev (l : List Int) (h : l.length ≤ 17592186044416) : Ev (fun k => laws_toSchema.f k l) l := by
  unfold laws_toSchema.f
  refine evb (toIntS_ev l h) ?_
  exact evc fun k => rfl
theorem eqSchema_ev (l m : List Int) (h : l.length ≤ 17592186044416) : Ev (fun k => laws_eqSchema.f k l m) (decide (l = m)) := by
  unfold laws_eqSchema.f
  refine evb (eqIntS_ev l m h) ?_
  refine evc fun k => ?_
  by_cases e : l = m
  · simp [e]
  · simp [e]
theorem szSchema_ok (l : List Int) (a : Int) (w : (WfL WfI) l) (h0 : 0 ≤ a) (h1 : a ≤ 1048576) : ∃ t, Ev (fun _ : Nat => laws_szSchema.f l a) t ∧ (t < 0 ∨ 0 ≤ t ∧ t ≤ a ∧ l.length ≤ 1048576) := by
  refine ⟨mSz l a, evc fun k => szSchema_eq l a w.2 h0 h1, ?_⟩
  unfold mSz
  by_cases hc : (l.length : Int) ≤ a
  · rw [if_pos hc]; right; omega
  · rw [if_neg hc]; left; omega
theorem eqFact_ev (r : Int) (l : List Int) (q : Int) (m : List Int) (h : l.length ≤ 17592186044416) : Ev (fun k => laws_eqFact.f k r l q m) (decide (r = q ∧ l = m)) := by
  unfold laws_eqFact.f
  by_cases hr : r = q
  · simp only [if_pos hr]
    refine evb (eqIntS_ev l m h) ?_
    refine evc fun k => ?_
    by_cases e : l = m
    · simp [e, hr]
    · simp [e]
  · simp only [if_neg hr]
    refine evc fun k => ?_
    simp [hr]
theorem szFact_eq (r : Int) (l : List Int) (a : Int) (h : l.length ≤ maxLen) (h0 : 0 ≤ a) (h1 : a ≤ 1048576) : laws_szFact.f r l a = some (mSz l a) := by
  unfold laws_szFact.f
  rw [szIntS_eq l a h h0 h1]
  simp only [Option.bind_some]
  unfold mSz
  by_cases hc : (l.length : Int) ≤ a
  · simp only [if_pos hc]; rw [if_neg (by omega)]
  · simp only [if_neg hc]; rfl
theorem toFact_ev (r : Int) (l : List Int) (h : l.length ≤ 17592186044416) : Ev (fun k => laws_toFact.f k r l) (r, l) := by
  unfold laws_toFact.f
  refine evb (toIntS_ev l h) ?_
  exact evc fun k => rfl
theorem szFact_ok (r : Int) (l : List Int) (a : Int) (w : (WfL WfI) l) (h0 : 0 ≤ a) (h1 : a ≤ 1048576) : ∃ t, Ev (fun _ : Nat => laws_szFact.f r l a) t ∧ (t < 0 ∨ 0 ≤ t ∧ t ≤ a ∧ l.length ≤ 1048576) := by
  refine ⟨mSz l a, evc fun k => szFact_eq r l a w.2 h0 h1, ?_⟩
  unfold mSz
  by_cases hc : (l.length : Int) ≤ a
  · rw [if_pos hc]; right; omega
  · rw [if_neg hc]; left; omega
/-! ### Lists of facts -/
def cvF (x : S27) : S37 := ⟨x.f0, x.f1⟩
def SmF (l : List S27) : Prop := ∀ x ∈ l, x.f1.length ≤ 1048576
def SmFi (l : List S37) : Prop := ∀ x ∈ l, x.f1.length ≤ 1048576
theorem cvF_small {l : List S27} (h : ∀ x ∈ l, x.f1.length ≤ 1048576) : ∀ x ∈ l.map cvF, x.f1.length ≤ 1048576 := by
  intro x hx
  obtain ⟨y, hy, rfl⟩ := List.mem_map.1 hx
  exact h y hy
theorem rdLF_of {l pre suf : List S27} {a : S27} (e : l = pre ++ a :: suf) : rd_T27 l (pre.length : Int) = a := getD_of e _
theorem rdIF_of {l pre suf : List S37} {a : S37} (e : l = pre ++ a :: suf) : rd_T37 l (pre.length : Int) = a := getD_of e _
theorem szFactS_ok (l : List S27) (a : Int) (w : (WfL (fun x : S27 => WfI x.f0 ∧ (WfL WfI) x.f1)) l) (h0 : 0 ≤ a) (h1 : a ≤ 1048576) :
    ∃ t, Ev (fun k => laws_szFactS.f k l a) t ∧ (t < 0 ∨ 0 ≤ t ∧ t ≤ a ∧ l.length ≤ 1048576 ∧ ∀ x ∈ l, x.f1.length ≤ 1048576) := by
  have hm : l.length ≤ 9223372036854775807 := by have := w.2; unfold maxLen at this; exact this
  unfold laws_szFactS.f
  rw [w64 (by omega) (by omega)]
  by_cases hc : a - (l.length : Int) < 0
  · simp only [if_pos hc]; exact ⟨-1, evc fun k => rfl, .inl (by omega)⟩
  · simp only [if_neg hc]
    have hl : l.length ≤ 1048576 := by omega
    have key := idx_ind l (fun pre suf => ∀ b : Int, 0 ≤ b → b ≤ a → ∃ t, Ev (fun k => laws_szFactS.l0 k l b (pre.length : Int)) t ∧ (t < 0 ∨ 0 ≤ t ∧ t ≤ a ∧ ∀ x ∈ suf, x.f1.length ≤ 1048576)) ?_ ?_
    · obtain ⟨t, z, c⟩ := key (a - (l.length : Int)) (by omega) (by omega)
      exact ⟨t, z, c.imp id (fun ⟨p, q, r⟩ => ⟨p, q, hl, r⟩)⟩
    · intro b hb0 hb1
      refine ⟨b, evn fun k => ?_, .inr ⟨hb0, hb1, by simp⟩⟩
      simp only [laws_szFactS.l0]
      rw [if_neg (end_not _)]
    · intro pre x suf e ih b hb0 hb1
      have hx : x ∈ l := by rw [e]; simp
      obtain ⟨t, z, c⟩ := szFact_ok x.f0 x.f1 b (w.1 x hx).2 hb0 (by omega)
      have z' : laws_szFact.f x.f0 x.f1 b = some t := by obtain ⟨K, hK⟩ := z; exact hK K (Nat.le_refl _)
      rcases c with c | ⟨p, q, s⟩
      · refine ⟨-1, evn fun k => ?_, .inl (by omega)⟩
        simp only [laws_szFactS.l0]
        rw [if_pos (lt_of e), if_pos (len_nonneg _), rdLF_of e, z']
        simp only [Option.bind_some]
        rw [if_pos c]
      · obtain ⟨t2, z2, c2⟩ := ih t p (by omega)
        refine ⟨t2, Ev.step (fun k => ?_) z2, c2.imp id (fun ⟨p2, q2, r2⟩ => ⟨p2, q2, ?_⟩)⟩
        · simp only [laws_szFactS.l0]
          rw [if_pos (lt_of e), if_pos (len_nonneg _), rdLF_of e, z']
          simp only [Option.bind_some]
          rw [if_neg (by omega), nx_of e (by omega)]
        · intro y hy
          rcases List.mem_cons.1 hy with rfl | hy
          · exact s
          · exact r2 y hy
theorem toFactS_ev (l : List S27) (hl : l.length ≤ 1048576) (hs : ∀ x ∈ l, x.f1.length ≤ 1048576) : Ev (fun k => laws_toFactS.f k l) (l.map cvF) := by
  have key := idx_ind l (fun pre suf => Ev (fun k => laws_toFactS.l0 k l (pre.map cvF ++ List.replicate suf.length z37) (pre.length : Int)) (l.map cvF)) ?_ ?_
  · refine Ev.congr (fun k => ?_) key
    unfold laws_toFactS.f
    rw [if_pos (by omega), if_pos (by omega)]
    simp
  · refine evn fun k => ?_
    simp only [laws_toFactS.l0]
    rw [if_neg (end_not _)]
    simp
  · intro pre x suf e ih
    have hx : x.f1.length ≤ 1048576 := hs x (by rw [e]; simp)
    refine Ev.step (f := fun k => (laws_toFact.f k x.f0 x.f1).bind fun b => laws_toFactS.l0 k l ((pre.map cvF ++ List.replicate (suf.length + 1) z37).set pre.length (⟨b.1, b.2⟩ : S37)) ((pre ++ [x]).length : Int)) (fun k => ?_) ?_
    · simp only [laws_toFactS.l0]
      have hc : (pre.length : Int) < ((pre.map cvF ++ List.replicate (x :: suf).length z37).length : Int) := by simp; omega
      rw [if_pos (lt_of e), if_pos (len_nonneg _), rdLF_of e, nx_of e (by omega)]
      simp only [if_pos hc]
      simp
    · refine evb (toFact_ev x.f0 x.f1 (by omega)) ?_
      have es : (pre.map cvF ++ List.replicate (suf.length + 1) z37).set pre.length (⟨x.f0, x.f1⟩ : S37) = (pre ++ [x]).map cvF ++ List.replicate suf.length z37 := by
        rw [List.replicate_succ]
        simp [cvF]
      simp only [es]
      exact ih
theorem eqFactS_ev (l : List S37) (hl : l.length ≤ 1048576) (hs : ∀ x ∈ l, x.f1.length ≤ 1048576) : Ev (fun k => laws_eqFactS.f k l l) true := by
  have key := idx_ind l (fun pre suf => Ev (fun k => laws_eqFactS.l0 k l l (pre.length : Int)) true) ?_ ?_
  · refine Ev.congr (fun k => ?_) key
    unfold laws_eqFactS.f
    rw [if_pos rfl]; rfl
  · refine evn fun k => ?_
    simp only [laws_eqFactS.l0]
    rw [if_neg (end_not _)]
  · intro pre x suf e ih
    have hx : x.f1.length ≤ 1048576 := hs x (by rw [e]; simp)
    refine Ev.step (f := fun k => (laws_eqFact.f k x.f0 x.f1 x.f0 x.f1).bind fun b => if b = true then laws_eqFactS.l0 k l l ((pre ++ [x]).length : Int) else some false) (fun k => ?_) ?_
    · simp only [laws_eqFactS.l0]
      rw [if_pos (lt_of e), if_pos (len_nonneg _), if_pos (lt_of e), rdIF_of e, nx_of e (by omega)]
    · refine evb (eqFact_ev x.f0 x.f1 x.f0 x.f1 (by omega)) ?_
      simp only [and_self, decide_true, if_true]
      exact ih
theorem markIntS_l0 (suf : List Int) : ∀ (pre : List Int) (m : Int), 0 ≤ m → m + suf.length ≤ 9223372036854775807 → (pre ++ suf).length ≤ 17592186044416 →
    Ev (fun k => laws_markIntS.l0 k (pre ++ suf) m (pre.length : Int)) (m + (suf.length : Int), pre ++ mMarks m suf.length) := by
  induction suf with
  | nil =>
    intro pre m h0 h1 h
    refine evn fun k => ?_
    simp only [laws_markIntS.l0, List.append_nil]
    rw [if_neg (end_not _)]; simp [mMarks]
  | cons a t ih =>
    intro pre m h0 h1 h
    have hl : pre.length ≤ 140737488355328 := by simp at h; omega
    have r := ih (pre ++ [m]) (m + 1) (by omega) (by simp at h1; omega) (by simpa using h)
    have e : m + ((a :: t).length : Int) = m + 1 + (t.length : Int) := by simp; omega
    rw [e]
    refine Ev.step (fun k => ?_) (by simpa [mMarks] using r)
    simp only [laws_markIntS.l0]
    rw [if_pos (mid_lt _ _ _), if_pos (len_nonneg _), set_mid, iw (a := m) hl, w64 (by omega) (by simp at h1; omega)]
    simp
theorem markIntS_ev (l : List Int) (m : Int) (h0 : 0 ≤ m) (h1 : m ≤ 4611686018427387904) (h : l.length ≤ 17592186044416) : Ev (fun k => laws_markIntS.f k l m) (m + (l.length : Int), mMarks m l.length) := by
  have r := markIntS_l0 l [] m h0 (by omega) (by simpa using h)
  exact r
theorem heldIntS_l0 : ∀ (n : Nat) (pre : List Int) (m : Int), 0 ≤ m → m + n ≤ 9223372036854775807 → pre.length + n ≤ 17592186044416 →
    Ev (fun k => laws_heldIntS.l0 k (pre ++ mMarks m n) m (pre.length : Int)) (m + (n : Int))
  | 0, pre, m, h0, h1, h => by
    refine evn fun k => ?_
    simp only [laws_heldIntS.l0, mMarks, List.append_nil]
    rw [if_neg (end_not _)]; simp
  | n + 1, pre, m, h0, h1, h => by
    have r := heldIntS_l0 n (pre ++ [m]) (m + 1) (by omega) (by omega) (by simp; omega)
    have e : m + ((n + 1 : Nat) : Int) = m + 1 + (n : Int) := by omega
    rw [e]
    refine Ev.step (fun k => ?_) (by simpa [mMarks] using r)
    rw [show mMarks m (n + 1) = m :: mMarks (m + 1) n from rfl]
    simp only [laws_heldIntS.l0]
    rw [if_pos (mid_lt _ _ _), if_pos (len_nonneg _), rd_mid, if_pos rfl, iw (a := m) (by omega), w64 (by omega) (by omega)]
    simp
theorem heldIntS_ev (m : Int) (n : Nat) (h0 : 0 ≤ m) (h1 : m ≤ 4611686018427387904) (h : n ≤ 17592186044416) : Ev (fun k => laws_heldIntS.f k (mMarks m n) m) (m + (n : Int)) := by
  have r := heldIntS_l0 n [] m h0 (by omega) (by simpa using h)
  exact r
theorem l1In_eq (x lo hi : Int) : spec_l1In.f x lo hi = some (decide (lo ≤ x ∧ x ≤ hi)) := by
  unfold spec_l1In.f
  by_cases h : x ≥ lo
  · rw [if_pos h]; congr 1; simp; omega
  · rw [if_neg h]; congr 1; simp; omega
theorem within_eq (x lo hi : Int) : impl_within.f x lo hi = some (decide (lo ≤ x ∧ x ≤ hi)) := by
  unfold impl_within.f
  by_cases h : x ≥ lo
  · rw [if_pos h]; congr 1; simp; omega
  · rw [if_neg h]; congr 1; simp; omega
/-! ### Terms -/
/-! ### IsSchema -/
theorem specSchema_ev (l : List Int) (h : l.length ≤ 140737488355328) : Ev (fun k => spec_IsSchema.f k l) (mIsSchema l) := by
  have key := idx_ind l (fun pre suf => Ev (fun k => spec_IsSchema.l0 k (pre.length : Int) l) (suf.all (fun n => decide (1 ≤ n ∧ n ≤ 3)) && decide (1 ≤ (l.length : Int) ∧ (l.length : Int) ≤ 4))) ?_ ?_
  · exact key
  · refine evn fun k => ?_
    simp only [spec_IsSchema.l0]
    rw [if_neg (end_not _), l1In_eq]
    simp
  · intro pre a suf e ih
    by_cases hp : 1 ≤ a ∧ a ≤ 3
    · have ht : ((a :: suf).all (fun n => decide (1 ≤ n ∧ n ≤ 3)) && decide (1 ≤ (l.length : Int) ∧ (l.length : Int) ≤ 4)) = (suf.all (fun n => decide (1 ≤ n ∧ n ≤ 3)) && decide (1 ≤ (l.length : Int) ∧ (l.length : Int) ≤ 4)) := by simp [hp]
      rw [ht]
      refine Ev.step (fun k => ?_) ih
      simp only [spec_IsSchema.l0]
      rw [if_pos (lt_of e), if_pos (len_nonneg _), rd_of e, l1In_eq, nx_of e h]
      simp [hp]
    · have ht : ((a :: suf).all (fun n => decide (1 ≤ n ∧ n ≤ 3)) && decide (1 ≤ (l.length : Int) ∧ (l.length : Int) ≤ 4)) = false := by simp [hp]
      rw [ht]
      refine evn fun k => ?_
      simp only [spec_IsSchema.l0]
      rw [if_pos (lt_of e), if_pos (len_nonneg _), rd_of e, l1In_eq]
      simp [hp]
theorem implSchema_ev (l : List Int) (h : l.length ≤ 140737488355328) : Ev (fun k => impl_IsSchema.f k l) (mIsSchema l) := by
  have key := idx_ind l (fun pre suf => Ev (fun k => impl_IsSchema.l0 k l (l.length : Int) (pre.length : Int) l) (suf.all (fun n => decide (1 ≤ n ∧ n ≤ 3)) && decide (1 ≤ (l.length : Int) ∧ (l.length : Int) ≤ 4))) ?_ ?_
  · exact key
  · refine evn fun k => ?_
    simp only [impl_IsSchema.l0]
    rw [if_neg (end_not _), within_eq]
    simp
  · intro pre a suf e ih
    by_cases hp : 1 ≤ a ∧ a ≤ 3
    · have ht : ((a :: suf).all (fun n => decide (1 ≤ n ∧ n ≤ 3)) && decide (1 ≤ (l.length : Int) ∧ (l.length : Int) ≤ 4)) = (suf.all (fun n => decide (1 ≤ n ∧ n ≤ 3)) && decide (1 ≤ (l.length : Int) ∧ (l.length : Int) ≤ 4)) := by simp [hp]
      rw [ht]
      refine Ev.step (fun k => ?_) ih
      simp only [impl_IsSchema.l0]
      rw [if_pos (lt_of e), if_pos (len_nonneg _), if_pos (lt_of e), rd_of e, within_eq, nx_of e h]
      simp [hp]
    · have ht : ((a :: suf).all (fun n => decide (1 ≤ n ∧ n ≤ 3)) && decide (1 ≤ (l.length : Int) ∧ (l.length : Int) ≤ 4)) = false := by simp [hp]
      rw [ht]
      refine evn fun k => ?_
      simp only [impl_IsSchema.l0]
      rw [if_pos (lt_of e), if_pos (len_nonneg _), if_pos (lt_of e), rd_of e, within_eq]
      simp [hp]
theorem areValues_ev (l : List Int) (h : l.length ≤ 140737488355328) : Ev (fun k => impl_areValues.f k l) (l.all (fun x => decide (0 ≤ x ∧ x ≤ 99))) := by
  refine idx_ind l (fun pre suf => Ev (fun k => impl_areValues.l0 k l (l.length : Int) (pre.length : Int)) (suf.all (fun x => decide (0 ≤ x ∧ x ≤ 99)))) ?_ ?_
  · refine evn fun k => ?_
    simp only [impl_areValues.l0]
    rw [if_neg (end_not _)]; rfl
  · intro pre a suf e ih
    by_cases hp : 0 ≤ a ∧ a ≤ 99
    · rw [show (a :: suf).all (fun x => decide (0 ≤ x ∧ x ≤ 99)) = suf.all (fun x => decide (0 ≤ x ∧ x ≤ 99)) by simp [hp]]
      refine Ev.step (fun k => ?_) ih
      simp only [impl_areValues.l0]
      rw [if_pos (lt_of e), if_pos (len_nonneg _), if_pos (lt_of e), rd_of e, within_eq, nx_of e h]
      simp [hp]
    · rw [show (a :: suf).all (fun x => decide (0 ≤ x ∧ x ≤ 99)) = false by simp [hp]]
      refine evn fun k => ?_
      simp only [impl_areValues.l0]
      rw [if_pos (lt_of e), if_pos (len_nonneg _), if_pos (lt_of e), rd_of e, within_eq]
      simp [hp]
theorem implTakes_ev (s : List Int) (r n : Int) (hs : s.length ≤ 140737488355328) : Ev (fun k => impl_Schema_takes.f k s r n) (mTakes s r n) := by
  unfold impl_Schema_takes.f mTakes
  refine evb (implSchema_ev s hs) ?_
  by_cases c1 : mIsSchema s = true
  · simp only [c1, if_true, within_eq, Option.bind_some]
    rw [w64 (by omega) (by omega)]
    by_cases c2 : 0 ≤ r ∧ r < (s.length : Int)
    · have c2' : 0 ≤ r ∧ r ≤ (s.length : Int) - 1 := by omega
      rw [show decide (0 ≤ r ∧ r < (s.length : Int)) = true from decide_eq_true c2]
      simp only [c2', and_self, decide_true, if_true, if_pos c2.1, if_pos c2.2]
      refine evc fun k => ?_
      simp only [Bool.true_and]
      rfl
    · have c2' : ¬ (0 ≤ r ∧ r ≤ (s.length : Int) - 1) := by omega
      simp only [c2', decide_false, Bool.false_eq_true, if_false]
      refine evc fun k => ?_
      rw [show decide (0 ≤ r ∧ r < (s.length : Int)) = false from decide_eq_false c2]
      simp
  · simp only [if_neg c1]
    refine evc fun k => ?_
    rw [show mIsSchema s = false by simpa using c1]
    simp
theorem specIsFact_l0 (r : Int) (l : List Int) (h : l.length ≤ 140737488355328) : Ev (fun k => spec_IsFact.l0 k 0 r l) (l.all (fun x => decide (0 ≤ x ∧ x ≤ 99))) := by
  refine idx_ind l (fun pre suf => Ev (fun k => spec_IsFact.l0 k (pre.length : Int) r l) (suf.all (fun x => decide (0 ≤ x ∧ x ≤ 99)))) ?_ ?_
  · refine evn fun k => ?_
    simp only [spec_IsFact.l0]
    rw [if_neg (end_not _)]; rfl
  · intro pre a suf e ih
    by_cases hp : 0 ≤ a ∧ a ≤ 99
    · rw [show (a :: suf).all (fun x => decide (0 ≤ x ∧ x ≤ 99)) = suf.all (fun x => decide (0 ≤ x ∧ x ≤ 99)) by simp [hp]]
      refine Ev.step (fun k => ?_) ih
      simp only [spec_IsFact.l0]
      rw [if_pos (lt_of e), if_pos (len_nonneg _), rd_of e, l1In_eq, nx_of e h]
      simp [hp]
    · rw [show (a :: suf).all (fun x => decide (0 ≤ x ∧ x ≤ 99)) = false by simp [hp]]
      refine evn fun k => ?_
      simp only [spec_IsFact.l0]
      rw [if_pos (lt_of e), if_pos (len_nonneg _), rd_of e, l1In_eq]
      simp [hp]
theorem specIsFact_ev (s : List Int) (r : Int) (l : List Int) (hs : s.length ≤ 140737488355328) (h : l.length ≤ 140737488355328) : Ev (fun k => spec_IsFact.f k s r l) (mIsFact s r l) := by
  unfold spec_IsFact.f mIsFact mTakes
  refine evb (specSchema_ev s hs) ?_
  have jt : Ev (fun k => spec_IsFact.j0 k true r l) false := evn fun k => by simp only [spec_IsFact.j0]; rw [if_pos trivial]
  by_cases c1 : mIsSchema s = true
  · simp only [c1, if_true, l1In_eq, Option.bind_some]
    rw [w64 (by omega) (by omega)]
    by_cases c2 : 0 ≤ r ∧ r < (s.length : Int)
    · have c2' : 0 ≤ r ∧ r ≤ (s.length : Int) - 1 := by omega
      rw [show decide (0 ≤ r ∧ r < (s.length : Int)) = true from decide_eq_true c2]
      simp only [c2', and_self, decide_true, if_true, if_pos c2.1, if_pos c2.2]
      by_cases c3 : rd s r = (l.length : Int)
      · rw [c3]
        simp only [bne_self_eq_false, decide_true, Bool.true_and]
        refine Ev.step (fun k => ?_) (specIsFact_l0 r l h)
        simp only [spec_IsFact.j0]
        rw [if_neg (by simp)]
      · rw [show ((l.length : Int) != rd s r) = true by simp; omega, show decide (rd s r = (l.length : Int)) = false from decide_eq_false c3]
        simpa using jt
    · have c2' : ¬ (0 ≤ r ∧ r ≤ (s.length : Int) - 1) := by omega
      simp only [c2', decide_false, Bool.false_eq_true, if_false]
      rw [show decide (0 ≤ r ∧ r < (s.length : Int)) = false from decide_eq_false c2]
      simpa using jt
  · simp only [if_neg c1]
    rw [show mIsSchema s = false by simpa using c1]
    simpa using jt
theorem implIsFact_ev (s : List Int) (r : Int) (l : List Int) (hs : s.length ≤ 140737488355328) (h : l.length ≤ 140737488355328) : Ev (fun k => impl_IsFact.f k s r l) (mIsFact s r l) := by
  unfold impl_IsFact.f mIsFact
  refine evb (implTakes_ev s r _ hs) ?_
  by_cases c : mTakes s r (l.length : Int) = true
  · simp only [c, if_true, Bool.true_and]
    refine evb (areValues_ev l h) ?_
    exact evc fun k => rfl
  · simp only [if_neg c]
    refine evc fun k => ?_
    rw [show mTakes s r (l.length : Int) = false by simpa using c]
    simp
theorem l2Less_ev (l m : List Int) (h : l.length ≤ 140737488355328) : Ev (fun k => spec_l2Less.f k l m) (mLess l m) := by
  have key := idx_ind l (fun pre suf => ∀ pre2 suf2, m = pre2 ++ suf2 → pre2.length = pre.length → Ev (fun k => spec_l2Less.l0 k l m (pre.length : Int)) (mLess suf suf2)) ?_ ?_
  · exact key [] m rfl rfl
  · intro pre2 suf2 e2 hp
    have e3 : mLess [] suf2 = decide ((l.length : Int) < (m.length : Int)) := by
      rw [e2]
      cases suf2 with
      | nil => simp [mLess]; omega
      | cons b t => simp [mLess]; omega
    rw [e3]
    refine Ev.step (f := fun k => spec_l2Less.j1 k l m (l.length : Int) false) (fun k => ?_) (evn fun k => ?_)
    · simp only [spec_l2Less.l0]
      rw [if_neg (end_not _)]
    · simp only [spec_l2Less.j1]
      rw [if_neg (by simp)]
  · intro pre a suf e ih pre2 suf2 e2 hp
    cases suf2 with
    | nil =>
      have hml : m.length = pre.length := by rw [e2]; simp [hp]
      have hlm : ¬ ((l.length : Int) < (m.length : Int)) := by have := lt_of e; omega
      refine Ev.step (f := fun k => spec_l2Less.j1 k l m (pre.length : Int) false) (fun k => ?_) (evn fun k => ?_)
      · simp only [spec_l2Less.l0]
        rw [if_pos (lt_of e), decide_eq_false (by omega)]
      · simp only [spec_l2Less.j1]
        rw [if_neg (by simp), decide_eq_false hlm]; rfl
    | cons b t2 =>
      have r2 : rd m (pre.length : Int) = b := by rw [← hp]; exact rd_of e2
      have l2 : (pre.length : Int) < (m.length : Int) := by rw [← hp]; exact lt_of e2
      refine Ev.step (f := fun k => spec_l2Less.j1 k l m (pre.length : Int) true) (fun k => ?_) ?_
      · simp only [spec_l2Less.l0]
        rw [if_pos (lt_of e), decide_eq_true l2]
      · by_cases hab : a = b
        · have em : mLess (a :: suf) (b :: t2) = mLess suf t2 := by rw [mLess, if_pos hab]
          rw [em]
          have r := ih (pre2 ++ [b]) t2 (by rw [e2]; simp) (by simp [hp])
          refine Ev.step (fun k => ?_) r
          simp only [spec_l2Less.j1]
          rw [if_pos trivial, if_pos (len_nonneg _), if_pos (lt_of e), if_pos l2, rd_of e, r2, if_pos hab, nx_of e h]
        · have em : mLess (a :: suf) (b :: t2) = decide (a < b) := by rw [mLess, if_neg hab]
          rw [em]
          refine evn fun k => ?_
          simp only [spec_l2Less.j1]
          rw [if_pos trivial, if_pos (len_nonneg _), if_pos (lt_of e), if_pos l2, rd_of e, r2, if_neg hab]
theorem cmpInt_eq (a b : Int) : cmp_Compare_int.f a b = some (if a < b then -1 else if a > b then 1 else 0) := by
  unfold cmp_Compare_int.f cmp_isNaN_int.f
  simp only [bne_self_eq_false, Option.bind_some, Bool.false_eq_true, if_false]
  by_cases h1 : a < b
  · rw [if_pos h1, if_pos h1]
  · rw [if_neg h1, if_neg h1]
    by_cases h2 : a > b
    · rw [if_pos h2, if_pos h2]
    · rw [if_neg h2, if_neg h2]
theorem slCompare_ev (l m : List Int) (h : l.length ≤ 140737488355328) : Ev (fun k => slices_Compare_int_int.f k l m) (mCmp l m) := by
  have key := idx_ind l (fun pre suf => ∀ pre2 suf2, m = pre2 ++ suf2 → pre2.length = pre.length → Ev (fun k => slices_Compare_int_int.l0 k l m l (l.length : Int) (pre.length : Int)) (mCmp suf suf2)) ?_ ?_
  · exact key [] m rfl rfl
  · intro pre2 suf2 e2 hp
    refine evn fun k => ?_
    simp only [slices_Compare_int_int.l0]
    rw [if_neg (end_not _)]
    cases suf2 with
    | nil => rw [if_neg (by rw [e2]; simp; omega)]; rfl
    | cons b t => rw [if_pos (by rw [e2]; simp; omega)]; rfl
  · intro pre a suf e ih pre2 suf2 e2 hp
    cases suf2 with
    | nil =>
      have hml : m.length = pre.length := by rw [e2]; simp [hp]
      refine evn fun k => ?_
      simp only [slices_Compare_int_int.l0]
      rw [if_pos (lt_of e), if_pos (len_nonneg _), if_pos (lt_of e), if_pos (by omega)]; rfl
    | cons b t2 =>
      have r2 : rd m (pre.length : Int) = b := by rw [← hp]; exact rd_of e2
      have l2 : (pre.length : Int) < (m.length : Int) := by rw [← hp]; exact lt_of e2
      by_cases h1 : a < b
      · refine evn fun k => ?_
        simp only [slices_Compare_int_int.l0]
        rw [if_pos (lt_of e), if_pos (len_nonneg _), if_pos (lt_of e), if_neg (by omega), if_pos l2, rd_of e, r2, cmpInt_eq]
        simp only [Option.bind_some, if_pos h1, mCmp]; rfl
      · by_cases h2 : a > b
        · refine evn fun k => ?_
          simp only [slices_Compare_int_int.l0]
          rw [if_pos (lt_of e), if_pos (len_nonneg _), if_pos (lt_of e), if_neg (by omega), if_pos l2, rd_of e, r2, cmpInt_eq]
          simp only [Option.bind_some, if_neg h1, if_pos h2, mCmp]; rfl
        · have em : mCmp (a :: suf) (b :: t2) = mCmp suf t2 := by rw [mCmp, if_neg h1, if_neg h2]
          rw [em]
          have r := ih (pre2 ++ [b]) t2 (by rw [e2]; simp) (by simp [hp])
          refine Ev.step (fun k => ?_) r
          simp only [slices_Compare_int_int.l0]
          rw [if_pos (lt_of e), if_pos (len_nonneg _), if_pos (lt_of e), if_neg (by omega), if_pos l2, rd_of e, r2, cmpInt_eq]
          simp only [Option.bind_some, if_neg h1, if_neg h2, if_true]
          rw [nx_of e h]
/-! ### IsDatabase -/
def mFLess (a b : S37) : Bool := if a.f0 = b.f0 then mLess a.f1 b.f1 else decide (a.f0 < b.f0)
def mDb (s : List Int) : Option S37 → List S37 → Bool
  | _, [] => true
  | none, x :: t => mIsFact s x.f0 x.f1 && mDb s (some x) t
  | some p, x :: t => mIsFact s x.f0 x.f1 && (mFLess p x && mDb s (some x) t)
def mIsDb (s : List Int) (d : List S37) : Bool := mDb s none d && (mIsSchema s && decide ((d.length : Int) ≤ 24))
theorem l5Less_ev (a b : S37) (h : a.f1.length ≤ 140737488355328) : Ev (fun k => spec_l5Less.f k a.f0 a.f1 b.f0 b.f1) (mFLess a b) := by
  unfold spec_l5Less.f mFLess
  by_cases hr : a.f0 = b.f0
  · simp only [if_pos hr]
    exact evb (l2Less_ev a.f1 b.f1 h) (evc fun k => rfl)
  · simp only [if_neg hr]
    exact evc fun k => rfl
def mCmpF (a b : S37) : Int := if a.f0 < b.f0 then -1 else if a.f0 > b.f0 then 1 else mCmp a.f1 b.f1
theorem cmpF_ev (a b : S37) (h : a.f1.length ≤ 140737488355328) : Ev (fun k => impl_compareFacts.f k a.f0 a.f1 b.f0 b.f1) (mCmpF a b) := by
  unfold impl_compareFacts.f mCmpF
  by_cases h1 : a.f0 < b.f0
  · simp only [if_pos h1]; exact evc fun k => rfl
  · simp only [if_neg h1]
    by_cases h2 : a.f0 > b.f0
    · simp only [if_pos h2]; exact evc fun k => rfl
    · simp only [if_neg h2]
      exact evb (slCompare_ev a.f1 b.f1 h) (evc fun k => rfl)
theorem cmpF_less (a b : S37) : mCmpF a b ≥ 0 ↔ mFLess a b = false := by
  unfold mCmpF mFLess
  by_cases h1 : a.f0 < b.f0
  · rw [if_pos h1, if_neg (by omega)]; simp [h1]
  · rw [if_neg h1]
    by_cases h2 : a.f0 > b.f0
    · rw [if_pos h2, if_neg (by omega)]; simp [h1]
    · rw [if_neg h2, if_pos (by omega), ← mCmp_neg]
      simp
theorem rd_last {l pre suf : List S37} {p a : S37} (e : l = (pre ++ [p]) ++ a :: suf) (h : l.length ≤ 1048576) : wrap64 (((pre ++ [p]).length : Int) - 1) = (pre.length : Int) ∧ rd_T37 l (pre.length : Int) = p := by
  constructor
  · have : pre.length ≤ 1048576 := by rw [e] at h; simp at h; omega
    rw [w64 (by simp <;> omega) (by simp <;> omega)]; simp
  · exact rdIF_of (suf := a :: suf) (by rw [e]; simp)
theorem specIsDb_ev (s : List Int) (d : List S37) (hs : s.length ≤ 1048576) (hl : d.length ≤ 1048576) (hd : ∀ x ∈ d, x.f1.length ≤ 1048576) : Ev (fun k => spec_IsDatabase.f k s d) (mIsDb s d) := by
  have key := idx_ind d (fun pre suf => Ev (fun k => spec_IsDatabase.l0 k d (pre.length : Int) s) (mDb s pre.getLast? suf && (mIsSchema s && decide ((d.length : Int) ≤ 24)))) ?_ ?_
  · exact key
  · rw [show mDb s d.getLast? [] = true by cases d.getLast? <;> rfl, Bool.true_and]
    refine Ev.step (f := fun k => (spec_IsSchema.f k s).bind fun t => if t = true then some (decide ((d.length : Int) ≤ 24)) else some false) (fun k => ?_) ?_
    · simp only [spec_IsDatabase.l0]
      rw [if_neg (end_not _)]
    · refine evb (specSchema_ev s (by omega)) ?_
      refine evc fun k => ?_
      cases mIsSchema s <;> simp
  · intro pre x suf e ih
    have hx : x.f1.length ≤ 1048576 := hd x (by rw [e]; simp)
    rw [List.getLast?_concat] at ih
    rcases List.eq_nil_or_concat pre with h0 | ⟨L, p, h0⟩
    · subst h0
      refine Ev.step (f := fun k => (spec_IsFact.f k s x.f0 x.f1).bind fun t => if t = true then spec_IsDatabase.l0 k d (([] ++ [x] : List S37).length : Int) s else some false) (fun k => ?_) ?_
      · simp only [spec_IsDatabase.l0]
        rw [if_pos (lt_of e), if_pos (len_nonneg _), rdIF_of e, nx_of e (by omega)]
        simp
      · refine evb (specIsFact_ev s x.f0 x.f1 (by omega) (by omega)) ?_
        rw [List.getLast?_nil, mDb]
        by_cases c : mIsFact s x.f0 x.f1 = true
        · simp only [c, if_true, Bool.true_and]; exact ih
        · simp only [if_neg c]
          rw [show mIsFact s x.f0 x.f1 = false by simpa using c]
          exact evc fun k => rfl
    · rw [List.concat_eq_append] at h0
      subst h0
      obtain ⟨e1, e2⟩ := rd_last e hl
      have hp : p.f1.length ≤ 1048576 := hd p (by rw [e]; simp)
      refine Ev.step (f := fun k => (spec_IsFact.f k s x.f0 x.f1).bind fun t => if t = true then ((spec_l5Less.f k p.f0 p.f1 x.f0 x.f1).bind fun u => if u = true then spec_IsDatabase.l0 k d ((L ++ [p] ++ [x]).length : Int) s else some false) else some false) (fun k => ?_) ?_
      · simp only [spec_IsDatabase.l0]
        have z0 : ((L ++ [p]).length : Int) > 0 := by simp <;> omega
        have z1 : (L.length : Int) < (d.length : Int) := by rw [e]; simp; omega
        rw [if_pos (lt_of e), if_pos (len_nonneg _), rdIF_of e, nx_of e (by omega), e1, e2]
        simp only [if_pos z0, if_pos (len_nonneg L), if_pos z1]
      · refine evb (specIsFact_ev s x.f0 x.f1 (by omega) (by omega)) ?_
        rw [List.getLast?_concat, mDb]
        by_cases c : mIsFact s x.f0 x.f1 = true
        · simp only [c, if_true, Bool.true_and]
          refine evb (l5Less_ev p x (by omega)) ?_
          by_cases c2 : mFLess p x = true
          · simp only [c2, if_true, Bool.true_and]; exact ih
          · simp only [if_neg c2]
            rw [show mFLess p x = false by simpa using c2]
            exact evc fun k => rfl
        · simp only [if_neg c]
          rw [show mIsFact s x.f0 x.f1 = false by simpa using c]
          exact evc fun k => rfl
theorem implIsDb_ev (s : List Int) (d : List S37) (hs : s.length ≤ 1048576) (hl : d.length ≤ 1048576) (hd : ∀ x ∈ d, x.f1.length ≤ 1048576) : Ev (fun k => impl_IsDatabase.f k s d) (mIsDb s d) := by
  have key := idx_ind d (fun pre suf => Ev (fun k => impl_IsDatabase.l0 k d d (d.length : Int) (pre.length : Int) s) (mDb s pre.getLast? suf && (mIsSchema s && decide ((d.length : Int) ≤ 24)))) ?_ ?_
  · exact key
  · rw [show mDb s d.getLast? [] = true by cases d.getLast? <;> rfl, Bool.true_and]
    refine Ev.step (f := fun k => (impl_IsSchema.f k s).bind fun t => if t = true then some (decide ((d.length : Int) ≤ 24)) else some false) (fun k => ?_) ?_
    · simp only [impl_IsDatabase.l0]
      rw [if_neg (end_not _)]
    · refine evb (implSchema_ev s (by omega)) ?_
      refine evc fun k => ?_
      cases mIsSchema s <;> simp
  · intro pre x suf e ih
    have hx : x.f1.length ≤ 1048576 := hd x (by rw [e]; simp)
    rw [List.getLast?_concat] at ih
    rcases List.eq_nil_or_concat pre with h0 | ⟨L, p, h0⟩
    · subst h0
      refine Ev.step (f := fun k => (impl_IsFact.f k s x.f0 x.f1).bind fun t => if t = true then impl_IsDatabase.l0 k d d (d.length : Int) (([] ++ [x] : List S37).length : Int) s else some false) (fun k => ?_) ?_
      · simp only [impl_IsDatabase.l0]
        rw [if_pos (lt_of e), if_pos (len_nonneg _), if_pos (lt_of e), rdIF_of e, nx_of e (by omega)]
        simp
      · refine evb (implIsFact_ev s x.f0 x.f1 (by omega) (by omega)) ?_
        rw [List.getLast?_nil, mDb]
        by_cases c : mIsFact s x.f0 x.f1 = true
        · simp only [c, if_true, Bool.true_and]; exact ih
        · simp only [if_neg c]
          rw [show mIsFact s x.f0 x.f1 = false by simpa using c]
          exact evc fun k => rfl
    · rw [List.concat_eq_append] at h0
      subst h0
      obtain ⟨e1, e2⟩ := rd_last e hl
      have hp : p.f1.length ≤ 1048576 := hd p (by rw [e]; simp)
      refine Ev.step (f := fun k => (impl_IsFact.f k s x.f0 x.f1).bind fun t => if t = true then ((impl_compareFacts.f k p.f0 p.f1 x.f0 x.f1).bind fun u => if u ≥ 0 then some false else impl_IsDatabase.l0 k d d (d.length : Int) ((L ++ [p] ++ [x]).length : Int) s) else some false) (fun k => ?_) ?_
      · simp only [impl_IsDatabase.l0]
        have z0 : ((L ++ [p]).length : Int) > 0 := by simp <;> omega
        have z1 : (L.length : Int) < (d.length : Int) := by rw [e]; simp; omega
        rw [if_pos (lt_of e), if_pos (len_nonneg _), if_pos (lt_of e), rdIF_of e, nx_of e (by omega), e1, e2]
        simp only [if_pos z0, if_pos (len_nonneg L), if_pos z1]
      · refine evb (implIsFact_ev s x.f0 x.f1 (by omega) (by omega)) ?_
        rw [List.getLast?_concat, mDb]
        by_cases c : mIsFact s x.f0 x.f1 = true
        · simp only [c, if_true, Bool.true_and]
          refine evb (cmpF_ev p x (by omega)) ?_
          by_cases c2 : mFLess p x = true
          · have n2 : ¬ mCmpF p x ≥ 0 := by rw [cmpF_less, c2]; simp
            simp only [if_neg n2, c2, Bool.true_and]; exact ih
          · have f2 : mFLess p x = false := by simpa using c2
            simp only [if_pos ((cmpF_less p x).2 f2), f2]
            exact evc fun k => rfl
        · simp only [if_neg c]
          rw [show mIsFact s x.f0 x.f1 = false by simpa using c]
          exact evc fun k => rfl
theorem copyInts_eq (l : List Int) (h : l.length ≤ 1048576) : impl_copyInts.f l = some l := by
  unfold impl_copyInts.f
  simp only [Option.bind_some, List.length_nil, Nat.zero_add, List.nil_append]
  rw [if_pos (by omega)]
/-! ### Copies of facts -/
theorem copyFact_eq (r : Int) (l : List Int) (h : l.length ≤ 1048576) : impl_copyFact.f r l = some (r, l) := by
  unfold impl_copyFact.f
  rw [copyInts_eq l h]; rfl
theorem l5Copy_eq (r : Int) (l : List Int) (h : l.length ≤ 1048576) : spec_l5Copy.f r l = some (r, l) := by
  unfold spec_l5Copy.f
  simp only [Option.bind_some, List.length_nil, Nat.zero_add, List.nil_append]
  rw [if_pos (by omega)]
theorem copyFacts_ev (d : List S37) (hl : d.length ≤ 1048576) (hs : ∀ x ∈ d, x.f1.length ≤ 1048576) : Ev (fun k => impl_copyFacts.f k d) d := by
  refine idx_ind d (fun pre suf => Ev (fun k => impl_copyFacts.l0 k pre d (d.length : Int) (pre.length : Int)) d) ?_ ?_
  · refine evn fun k => ?_
    simp only [impl_copyFacts.l0]
    rw [if_neg (end_not _)]
  · intro pre x suf e ih
    have hx : x.f1.length ≤ 1048576 := hs x (by rw [e]; simp)
    have hp : pre.length < 4398046511104 := by rw [e] at hl; simp at hl; omega
    refine Ev.step (fun k => impl_copyFacts.l0.eq_2 ..) ?_
    simp only [if_pos (lt_of e), if_pos (len_nonneg _), rdIF_of e, nx_of e (by omega), copyFact_eq x.f0 x.f1 hx, Option.bind_some, if_pos hp]
    exact ih
theorem l5All_ev (d : List S37) (hl : d.length ≤ 1048576) (hs : ∀ x ∈ d, x.f1.length ≤ 1048576) : Ev (fun k => spec_l5All.f k d) d := by
  refine idx_ind d (fun pre suf => Ev (fun k => spec_l5All.l0 k d pre (pre.length : Int)) d) ?_ ?_
  · refine evn fun k => ?_
    simp only [spec_l5All.l0]
    rw [if_neg (end_not _)]
  · intro pre x suf e ih
    have hx : x.f1.length ≤ 1048576 := hs x (by rw [e]; simp)
    have hp : pre.length < 4398046511104 := by rw [e] at hl; simp at hl; omega
    refine Ev.step (fun k => spec_l5All.l0.eq_2 ..) ?_
    simp only [if_pos (lt_of e), if_pos (len_nonneg _), rdIF_of e, nx_of e (by omega), l5Copy_eq x.f0 x.f1 hx, Option.bind_some, if_pos hp]
    exact ih
/-! ### Strict total orders, and what a sort leaves -/
structure Tot {α : Type} (lt : α → α → Bool) : Prop where
  irr : ∀ a, lt a a = false
  tr : ∀ a b c, lt a b = true → lt b c = true → lt a c = true
  cn : ∀ a b, lt a b = false → lt b a = false → a = b
theorem Tot.asym {α : Type} {lt : α → α → Bool} (h : Tot lt) {a b : α} (e : lt a b = true) : lt b a = false := by
  cases e2 : lt b a
  · rfl
  · have := h.tr a b a e e2; rw [h.irr] at this; cases this
theorem Tot.nt {α : Type} {lt : α → α → Bool} (h : Tot lt) (a b c : α) (h1 : lt a b = false) (h2 : lt b c = false) : lt a c = false := by
  cases e : lt a c
  · rfl
  · cases e2 : lt b a
    · have := h.cn a b h1 e2; subst this; rw [e] at h2; cases h2
    · have := h.tr b a c e2 e; rw [this] at h2; cases h2
theorem Tot.sort {α : Type} {lt : α → α → Bool} (h : Tot lt) {l l' : List α} (hp : l'.Perm l) (hs : l'.Pairwise (fun x y => lt y x = false)) : l.mergeSort (fun x y => !lt y x) = l' := by
  refine (List.Perm.eq_of_pairwise (le := fun x y => (!lt y x) = true) ?_ ?_ ?_ (hp.trans (List.mergeSort_perm _ _).symm)).symm
  · intro a b _ _ h1 h2
    simp only [Bool.not_eq_true'] at h1 h2
    exact h.cn a b h2 h1
  · exact hs.imp (fun h => by simp [h])
  · refine List.pairwise_mergeSort ?_ ?_ l
    · intro a b c h1 h2
      simp only [Bool.not_eq_true'] at h1 h2 ⊢
      exact h.nt c b a h2 h1
    · intro a b
      cases e : lt b a
      · simp
      · simp [h.asym e]
theorem mLess_irr : ∀ s : List Int, mLess s s = false
  | [] => rfl
  | a :: s => by simp [mLess, mLess_irr s]
theorem mLess_tr : ∀ a b c : List Int, mLess a b = true → mLess b c = true → mLess a c = true
  | [], [], _, h, _ => by simp [mLess] at h
  | [], _ :: _, [], _, h => by simp [mLess] at h
  | [], _ :: _, _ :: _, _, _ => rfl
  | _ :: _, [], _, h, _ => by simp [mLess] at h
  | _ :: _, _ :: _, [], _, h => by simp [mLess] at h
  | x :: a, y :: b, z :: c, h1, h2 => by
    simp only [mLess] at h1 h2 ⊢
    by_cases e1 : x = y
    · subst e1
      rw [if_pos rfl] at h1
      by_cases e2 : x = z
      · rw [if_pos e2] at h2 ⊢; exact mLess_tr a b c h1 h2
      · rw [if_neg e2] at h2 ⊢; exact h2
    · rw [if_neg e1] at h1
      by_cases e2 : y = z
      · subst e2; rw [if_neg e1]; exact h1
      · rw [if_neg e2] at h2
        have p1 := of_decide_eq_true h1
        have p2 := of_decide_eq_true h2
        rw [if_neg (by omega)]; exact decide_eq_true (by omega)
theorem mLess_cn : ∀ a b : List Int, mLess a b = false → mLess b a = false → a = b
  | [], [], _, _ => rfl
  | [], _ :: _, h, _ => by simp [mLess] at h
  | _ :: _, [], _, h => by simp [mLess] at h
  | x :: a, y :: b, h1, h2 => by
    simp only [mLess] at h1 h2
    by_cases e1 : x = y
    · subst e1
      rw [if_pos rfl] at h1 h2
      rw [mLess_cn a b h1 h2]
    · rw [if_neg e1] at h1
      rw [if_neg (fun h => e1 h.symm)] at h2
      have p1 := of_decide_eq_false h1
      have p2 := of_decide_eq_false h2
      omega
theorem mLess_tot : Tot mLess := ⟨mLess_irr, mLess_tr, mLess_cn⟩
theorem l2Ints_ev (l m : List Int) (h : l.length ≤ 140737488355328) : Ev (fun k => spec_l2Ints.f k l m) (decide (l = m)) := by
  by_cases hl : l.length = m.length
  · have key := idx_ind l (fun pre suf => ∀ pre2 suf2, m = pre2 ++ suf2 → pre2.length = pre.length → Ev (fun k => spec_l2Ints.l0 k l m (pre.length : Int)) (decide (suf = suf2))) ?_ ?_
    · have r := key [] m rfl rfl
      refine Ev.congr (fun k => ?_) r
      unfold spec_l2Ints.f
      rw [if_pos (by omega)]
      rfl
    · intro pre2 suf2 e2 hp
      have : suf2 = [] := by
        have := congrArg List.length e2
        simp at this
        exact List.eq_nil_of_length_eq_zero (by omega)
      subst this
      refine evn fun k => ?_
      simp only [spec_l2Ints.l0]
      rw [if_neg (end_not _)]; simp
    · intro pre a suf e ih pre2 suf2 e2 hp
      obtain ⟨b, t2, rfl⟩ : ∃ b t2, suf2 = b :: t2 := by
        cases suf2 with
        | nil => exfalso; have h1 := congrArg List.length e; have h2 := congrArg List.length e2; simp at h1 h2; omega
        | cons b t2 => exact ⟨b, t2, rfl⟩
      have r2 : rd m (pre.length : Int) = b := by rw [← hp]; exact rd_of e2
      have l2 : (pre.length : Int) < (m.length : Int) := by rw [← hp]; exact lt_of e2
      by_cases hab : a = b
      · subst hab
        have r := ih (pre2 ++ [a]) t2 (by rw [e2]; simp) (by simp [hp])
        have ed : decide (a :: suf = a :: t2) = decide (suf = t2) := by simp
        rw [ed]
        refine Ev.step (fun k => ?_) r
        simp only [spec_l2Ints.l0]
        rw [if_pos (lt_of e), if_pos (len_nonneg _), if_pos l2, rd_of e, r2, if_pos rfl, nx_of e h]
      · have ed : decide (a :: suf = b :: t2) = false := by simp [hab]
        rw [ed]
        refine evn fun k => ?_
        simp only [spec_l2Ints.l0]
        rw [if_pos (lt_of e), if_pos (len_nonneg _), if_pos l2, rd_of e, r2, if_neg hab]
  · have e : decide (l = m) = false := by simp; intro h; exact hl (by rw [h])
    rw [e]
    refine evc fun k => ?_
    unfold spec_l2Ints.f
    rw [if_neg (by omega)]
theorem slEqual_ev (l m : List Int) (h : l.length ≤ 140737488355328) : Ev (fun k => slices_Equal_int_int.f k l m) (decide (l = m)) := by
  by_cases hl : l.length = m.length
  · have key := idx_ind l (fun pre suf => ∀ pre2 suf2, m = pre2 ++ suf2 → pre2.length = pre.length → Ev (fun k => slices_Equal_int_int.l0 k l m (l.length : Int) (pre.length : Int)) (decide (suf = suf2))) ?_ ?_
    · have r := key [] m rfl rfl
      refine Ev.congr (fun k => ?_) r
      unfold slices_Equal_int_int.f
      rw [if_pos (by omega)]
      rfl
    · intro pre2 suf2 e2 hp
      have : suf2 = [] := by
        have := congrArg List.length e2
        simp at this
        exact List.eq_nil_of_length_eq_zero (by omega)
      subst this
      refine evn fun k => ?_
      simp only [slices_Equal_int_int.l0]
      rw [if_neg (end_not _)]; simp
    · intro pre a suf e ih pre2 suf2 e2 hp
      obtain ⟨b, t2, rfl⟩ : ∃ b t2, suf2 = b :: t2 := by
        cases suf2 with
        | nil => exfalso; have h1 := congrArg List.length e; have h2 := congrArg List.length e2; simp at h1 h2; omega
        | cons b t2 => exact ⟨b, t2, rfl⟩
      have r2 : rd m (pre.length : Int) = b := by rw [← hp]; exact rd_of e2
      have l2 : (pre.length : Int) < (m.length : Int) := by rw [← hp]; exact lt_of e2
      by_cases hab : a = b
      · subst hab
        have r := ih (pre2 ++ [a]) t2 (by rw [e2]; simp) (by simp [hp])
        have ed : decide (a :: suf = a :: t2) = decide (suf = t2) := by simp
        rw [ed]
        refine Ev.step (fun k => ?_) r
        simp only [slices_Equal_int_int.l0]
        rw [if_pos (lt_of e), if_pos (len_nonneg _), if_pos (lt_of e), if_pos l2, rd_of e, r2, if_pos rfl, nx_of e h]
      · have ed : decide (a :: suf = b :: t2) = false := by simp [hab]
        rw [ed]
        refine evn fun k => ?_
        simp only [slices_Equal_int_int.l0]
        rw [if_pos (lt_of e), if_pos (len_nonneg _), if_pos (lt_of e), if_pos l2, rd_of e, r2, if_neg hab]
  · have e : decide (l = m) = false := by simp; intro h; exact hl (by rw [h])
    rw [e]
    refine evc fun k => ?_
    unfold slices_Equal_int_int.f
    rw [if_neg (by omega)]
theorem specEqFact_ev (r : Int) (l : List Int) (q : Int) (m : List Int) (h : l.length ≤ 140737488355328) : Ev (fun k => spec_l5Same.f k r l q m) (decide (r = q ∧ l = m)) := by
  unfold spec_l5Same.f
  by_cases hr : r = q
  · simp only [if_pos hr]
    refine evb (l2Ints_ev l m h) ?_
    refine evc fun k => ?_
    simp [hr]
  · simp only [if_neg hr]
    refine evc fun k => ?_
    simp [hr]
theorem implEqFact_ev (r : Int) (l : List Int) (q : Int) (m : List Int) (h : l.length ≤ 140737488355328) : Ev (fun k => impl_equalFact.f k r l q m) (decide (r = q ∧ l = m)) := by
  unfold impl_equalFact.f
  by_cases hr : r = q
  · simp only [if_pos hr]
    refine evb (slEqual_ev l m h) ?_
    refine evc fun k => ?_
    simp [hr]
  · simp only [if_neg hr]
    refine evc fun k => ?_
    simp [hr]
def mHas (d : List S37) (r : Int) (l : List Int) : Bool := d.any (fun x => decide (x.f0 = r ∧ x.f1 = l))
theorem specHasFact_ev (d : List S37) (r : Int) (l : List Int) (hl : d.length ≤ 1048576) (hs : ∀ x ∈ d, x.f1.length ≤ 1048576) : Ev (fun k => spec_HasFact.f k d r l) (mHas d r l) := by
  refine idx_ind d (fun pre suf => Ev (fun k => spec_HasFact.l0 k d (pre.length : Int) r l) (mHas suf r l)) ?_ ?_
  · refine evn fun k => ?_
    simp only [spec_HasFact.l0]
    rw [if_neg (end_not _)]; rfl
  · intro pre x suf e ih
    have hx : x.f1.length ≤ 1048576 := hs x (by rw [e]; simp)
    refine Ev.step (f := fun k => (spec_l5Same.f k x.f0 x.f1 r l).bind fun b => if b = true then some true else spec_HasFact.l0 k d ((pre ++ [x]).length : Int) r l) (fun k => ?_) ?_
    · simp only [spec_HasFact.l0]
      rw [if_pos (lt_of e), if_pos (len_nonneg _), rdIF_of e, nx_of e (by omega)]
    · refine evb (specEqFact_ev x.f0 x.f1 r l (by omega)) ?_
      by_cases c : x.f0 = r ∧ x.f1 = l
      · simp only [c, and_self, decide_true, if_true]
        rw [show mHas (x :: suf) r l = true by simp [mHas, c]]
        exact evc fun k => rfl
      · simp only [c, decide_false, Bool.false_eq_true, if_false]
        rw [show mHas (x :: suf) r l = mHas suf r l by simp [mHas, c]]
        exact ih
theorem implHasFact_ev (d : List S37) (r : Int) (l : List Int) (hl : d.length ≤ 1048576) (hs : ∀ x ∈ d, x.f1.length ≤ 1048576) : Ev (fun k => impl_HasFact.f k d r l) (mHas d r l) := by
  refine idx_ind d (fun pre suf => Ev (fun k => impl_HasFact.l0 k d (d.length : Int) (pre.length : Int) r l) (mHas suf r l)) ?_ ?_
  · refine evn fun k => ?_
    simp only [impl_HasFact.l0]
    rw [if_neg (end_not _)]; rfl
  · intro pre x suf e ih
    have hx : x.f1.length ≤ 1048576 := hs x (by rw [e]; simp)
    refine Ev.step (f := fun k => (impl_equalFact.f k x.f0 x.f1 r l).bind fun b => if b = true then some true else impl_HasFact.l0 k d (d.length : Int) ((pre ++ [x]).length : Int) r l) (fun k => ?_) ?_
    · simp only [impl_HasFact.l0]
      rw [if_pos (lt_of e), if_pos (len_nonneg _), if_pos (lt_of e), rdIF_of e, nx_of e (by omega)]
    · refine evb (implEqFact_ev x.f0 x.f1 r l (by omega)) ?_
      by_cases c : x.f0 = r ∧ x.f1 = l
      · simp only [c, and_self, decide_true, if_true]
        rw [show mHas (x :: suf) r l = true by simp [mHas, c]]
        exact evc fun k => rfl
      · simp only [c, decide_false, Bool.false_eq_true, if_false]
        rw [show mHas (x :: suf) r l = mHas suf r l by simp [mHas, c]]
        exact ih
/-! ### A fact put among facts -/
theorem mFLess_tot : Tot mFLess where
  irr a := by simp [mFLess, mLess_irr]
  tr a b c h1 h2 := by
    unfold mFLess at h1 h2 ⊢
    by_cases e1 : a.f0 = b.f0
    · rw [if_pos e1] at h1
      by_cases e2 : b.f0 = c.f0
      · rw [if_pos e2] at h2; rw [if_pos (by omega)]; exact mLess_tr _ _ _ h1 h2
      · rw [if_neg e2] at h2; rw [if_neg (by omega), e1]; exact h2
    · rw [if_neg e1] at h1
      by_cases e2 : b.f0 = c.f0
      · rw [if_neg (by omega), ← e2]; exact h1
      · rw [if_neg e2] at h2
        have p1 := of_decide_eq_true h1
        have p2 := of_decide_eq_true h2
        rw [if_neg (by omega)]; exact decide_eq_true (by omega)
  cn a b h1 h2 := by
    obtain ⟨a0, a1⟩ := a
    obtain ⟨b0, b1⟩ := b
    unfold mFLess at h1 h2
    simp only [] at h1 h2
    by_cases e1 : a0 = b0
    · subst e1; rw [if_pos rfl] at h1 h2; rw [mLess_cn _ _ h1 h2]
    · rw [if_neg e1] at h1; rw [if_neg (fun h => e1 h.symm)] at h2
      have p1 := of_decide_eq_false h1
      have p2 := of_decide_eq_false h2
      omega
def mPutF (f : S37) : List S37 → List S37
  | [] => [f]
  | x :: xs => if mFLess x f = true then x :: mPutF f xs else f :: x :: xs
theorem mPutF_perm (f : S37) : ∀ l : List S37, (mPutF f l).Perm (l ++ [f])
  | [] => List.Perm.refl _
  | x :: xs => by
    unfold mPutF
    split
    · exact (mPutF_perm f xs).cons x
    · exact (List.perm_append_singleton f (x :: xs)).symm
theorem mPutF_mem {f y : S37} {l : List S37} (h : y ∈ mPutF f l) : y = f ∨ y ∈ l := by
  have := (mPutF_perm f l).mem_iff.1 h
  simp at this
  rcases this with h | h
  · exact .inr h
  · exact .inl h
theorem mPutF_sorted (f : S37) : ∀ l : List S37, l.Pairwise (fun x y => mFLess x y = true) → (mPutF f l).Pairwise (fun x y => mFLess y x = false)
  | [], _ => by simp [mPutF]
  | x :: xs, h => by
    have h1 := List.pairwise_cons.1 h
    unfold mPutF
    by_cases c : mFLess x f = true
    · rw [if_pos c]
      refine List.pairwise_cons.2 ⟨fun y hy => ?_, mPutF_sorted f xs h1.2⟩
      rcases mPutF_mem hy with rfl | hy
      · exact mFLess_tot.asym c
      · exact mFLess_tot.asym (h1.1 y hy)
    · rw [if_neg c]
      refine List.pairwise_cons.2 ⟨fun y hy => ?_, h.imp (fun h => mFLess_tot.asym h)⟩
      rcases List.mem_cons.1 hy with rfl | hy
      · exact Bool.eq_false_iff.2 c
      · exact mFLess_tot.nt y x f (mFLess_tot.asym (h1.1 y hy)) (Bool.eq_false_iff.2 c)
theorem mPutF_sort (f : S37) (l : List S37) (h : l.Pairwise (fun x y => mFLess x y = true)) : (l ++ [f]).mergeSort (fun x y => !mFLess y x) = mPutF f l := mFLess_tot.sort (mPutF_perm f l) (mPutF_sorted f l h)
theorem l5Same_ev (r : Int) (l : List Int) (q : Int) (m : List Int) (h : l.length ≤ 1048576) : Ev (fun k => spec_l5Same.f k r l q m) (decide (r = q ∧ l = m)) := by
  unfold spec_l5Same.f
  by_cases c : r = q
  · subst c
    simp only [if_true]
    have r2 := l2Ints_ev l m (by omega)
    rw [show decide (True ∧ l = m) = decide (l = m) by simp]
    exact evb r2 (evc fun k => rfl)
  · simp only [if_neg c]
    rw [decide_eq_false (fun h => c h.1)]
    exact evc fun k => rfl
/-- The rest of a list behind a fact that is put at its place. -/
theorem l5Put_true (d : List S37) (r : Int) (l : List Int) (hl : d.length ≤ 1048576) (hs : ∀ x ∈ d, x.f1.length ≤ 1048576) :
    ∀ (suf pre acc : List S37), d = pre ++ suf → acc.length ≤ pre.length + 1 → Ev (fun k => spec_l5Put.l0 k d acc true (pre.length : Int) r l) (acc ++ suf)
  | [], pre, acc, e, ha => by
    have e2 : pre = d := by rw [e]; simp
    subst e2
    refine Ev.step (fun k => spec_l5Put.l0.eq_2 ..) ?_
    simp only [if_neg (end_not _), if_true, List.append_nil]
    exact evc fun k => rfl
  | x :: suf, pre, acc, e, ha => by
    have hx : x.f1.length ≤ 1048576 := hs x (by rw [e]; simp)
    have hp : acc.length < 4398046511104 := by rw [e] at hl; simp at hl; omega
    have ih := l5Put_true d r l hl hs suf (pre ++ [x]) (acc ++ [x]) (by rw [e]; simp) (by simp; omega)
    refine Ev.step (fun k => spec_l5Put.l0.eq_2 ..) ?_
    simp only [if_pos (lt_of e), if_true]
    refine Ev.step (fun k => spec_l5Put.j1.eq_2 ..) ?_
    simp only [Bool.false_eq_true, if_false, if_pos (lt_of e), if_pos (len_nonneg _), rdIF_of e, nx_of e (by omega), l5Copy_eq x.f0 x.f1 hx, Option.bind_some, if_pos hp]
    rw [List.append_assoc] at ih
    exact ih
theorem l5Put_l0 (d : List S37) (f : S37) (hl : d.length ≤ 1048576) (hs : ∀ x ∈ d, x.f1.length ≤ 1048576) (hf : f.f1.length ≤ 1048576) (hn : mHas d f.f0 f.f1 = false) :
    ∀ (suf pre : List S37), d = pre ++ suf → Ev (fun k => spec_l5Put.l0 k d pre false (pre.length : Int) f.f0 f.f1) (pre ++ mPutF f suf)
  | [], pre, e => by
    have e2 : pre = d := by rw [e]; simp
    subst e2
    refine Ev.step (fun k => spec_l5Put.l0.eq_2 ..) ?_
    simp only [if_neg (end_not _), Bool.false_eq_true, if_false, l5Copy_eq f.f0 f.f1 hf, Option.bind_some, if_pos (show pre.length < 4398046511104 by omega)]
    exact evc fun k => rfl
  | x :: suf, pre, e => by
    have hx : x.f1.length ≤ 1048576 := hs x (by rw [e]; simp)
    have hpl : pre.length < 1048576 := by rw [e] at hl; simp at hl; omega
    have hp : pre.length < 4398046511104 := by omega
    refine Ev.step (fun k => spec_l5Put.l0.eq_2 ..) ?_
    simp only [if_pos (lt_of e), Bool.false_eq_true, if_false, if_pos (len_nonneg _), rdIF_of e]
    refine evb (l5Less_ev x f (by omega)) ?_
    refine Ev.step (fun k => spec_l5Put.j1.eq_2 ..) ?_
    by_cases c : mFLess x f = true
    · have ih := l5Put_l0 d f hl hs hf hn suf (pre ++ [x]) (by rw [e]; simp)
      simp only [c, Bool.not_true, Bool.false_eq_true, if_false, if_pos (lt_of e), if_pos (len_nonneg _), rdIF_of e, nx_of e (by omega), l5Copy_eq x.f0 x.f1 hx, Option.bind_some, if_pos hp, mPutF, if_true]
      rw [List.append_assoc] at ih
      exact ih
    · have c2 : mFLess x f = false := Bool.eq_false_iff.2 c
      have hne : decide (x.f0 = f.f0 ∧ x.f1 = f.f1) = false := by
        have h2 := hn
        unfold mHas at h2
        rw [List.any_eq_false] at h2
        exact Bool.eq_false_iff.2 (h2 x (by rw [e]; simp))
      simp only [c2, Bool.not_false, if_true, if_pos (lt_of e), if_pos (len_nonneg _), rdIF_of e, nx_of e (by omega)]
      refine evb (l5Same_ev x.f0 x.f1 f.f0 f.f1 hx) ?_
      have hp2 : (pre ++ [f]).length < 4398046511104 := by simp; omega
      have ih := l5Put_true d f.f0 f.f1 hl hs suf (pre ++ [x]) ((pre ++ [f]) ++ [x]) (by rw [e]; simp) (by simp)
      simp only [hne, Bool.false_eq_true, if_false, l5Copy_eq f.f0 f.f1 hf, l5Copy_eq x.f0 x.f1 hx, Option.bind_some, if_pos hp, if_pos hp2, mPutF, c2]
      simp only [List.append_assoc, List.singleton_append] at ih ⊢
      exact ih
theorem l5Put_ev (d : List S37) (f : S37) (hl : d.length ≤ 1048576) (hs : ∀ x ∈ d, x.f1.length ≤ 1048576) (hf : f.f1.length ≤ 1048576) (hn : mHas d f.f0 f.f1 = false) : Ev (fun k => spec_l5Put.f k d f.f0 f.f1) (mPutF f d) := l5Put_l0 d f hl hs hf hn d [] rfl
/-- A database with a fact put in, if it fits. -/
def mFits (s : List Int) (d : List S37) (f : S37) : Bool := mIsDb s d && (mIsFact s f.f0 f.f1 && (!mHas d f.f0 f.f1 && decide ((d.length : Int) < 24)))
def mAddF (s : List Int) (d : List S37) (f : S37) : List S37 × Bool := if mFits s d f = true then (mPutF f d, true) else (d, false)
theorem specAdd_ev (s : List Int) (d : List S37) (f : S37) (hsl : s.length ≤ 1048576) (hl : d.length ≤ 1048576) (hs : ∀ x ∈ d, x.f1.length ≤ 1048576) (hf : f.f1.length ≤ 1048576) : Ev (fun k => spec_AddFact.f k s d f.f0 f.f1) (mAddF s d f) := by
  have jt : Ev (fun k => spec_AddFact.j0 k d true f.f0 f.f1) (d, false) := by
    refine Ev.step (fun k => spec_AddFact.j0.eq_2 ..) ?_
    simp only [if_true]
    exact evb (l5All_ev d hl hs) (evc fun k => rfl)
  unfold spec_AddFact.f mAddF mFits
  refine evb (specIsDb_ev s d hsl hl hs) ?_
  cases c1 : mIsDb s d
  · simp only [Bool.false_eq_true, if_false, Bool.false_and]; exact jt
  simp only [if_true, Bool.true_and]
  refine evb (specIsFact_ev s f.f0 f.f1 (by omega) (by omega)) ?_
  cases c2 : mIsFact s f.f0 f.f1
  · simp only [Bool.false_eq_true, if_false, Bool.false_and]; exact jt
  simp only [if_true, Bool.true_and]
  refine evb (specHasFact_ev d f.f0 f.f1 hl hs) ?_
  cases c3 : mHas d f.f0 f.f1
  · simp only [Bool.false_eq_true, if_false, Bool.not_false, Bool.true_and]
    by_cases c4 : (d.length : Int) < 24
    · rw [decide_eq_false (show ¬ (d.length : Int) ≥ 24 by omega), decide_eq_true c4]
      simp only [if_true]
      refine Ev.step (fun k => spec_AddFact.j0.eq_2 ..) ?_
      simp only [Bool.false_eq_true, if_false]
      exact evb (l5Put_ev d f hl hs hf c3) (evc fun k => rfl)
    · rw [decide_eq_true (show (d.length : Int) ≥ 24 by omega), decide_eq_false c4]
      simp only [Bool.false_eq_true, if_false]
      exact jt
  · simp only [if_true, Bool.not_true, Bool.false_and, Bool.false_eq_true, if_false]; exact jt
theorem mDb_sorted (s : List Int) : ∀ (d : List S37) (p : Option S37), mDb s p d = true → d.Pairwise (fun x y => mFLess x y = true) ∧ (∀ q, p = some q → ∀ x ∈ d, mFLess q x = true)
  | [], p, _ => ⟨List.Pairwise.nil, fun _ _ x hx => by cases hx⟩
  | x :: t, none, h => by
    simp only [mDb, Bool.and_eq_true] at h
    obtain ⟨h1, h2⟩ := mDb_sorted s t (some x) h.2
    exact ⟨List.pairwise_cons.2 ⟨fun y hy => h2 x rfl y hy, h1⟩, fun q hq => by cases hq⟩
  | x :: t, some p, h => by
    simp only [mDb, Bool.and_eq_true] at h
    obtain ⟨h1, h2⟩ := mDb_sorted s t (some x) h.2.2
    refine ⟨List.pairwise_cons.2 ⟨fun y hy => h2 x rfl y hy, h1⟩, fun q hq y hy => ?_⟩
    injection hq with hq
    subst hq
    rcases List.mem_cons.1 hy with rfl | hy
    · exact h.2.1
    · exact mFLess_tot.tr _ _ _ h.2.1 (h2 x rfl y hy)
theorem isDb_sorted {s : List Int} {d : List S37} (h : mIsDb s d = true) : d.Pairwise (fun x y => mFLess x y = true) := by
  unfold mIsDb at h
  simp only [Bool.and_eq_true] at h
  exact (mDb_sorted s d none h.1).1

end Go.Proofs.Ytfelabhakgcifaa.Pure
