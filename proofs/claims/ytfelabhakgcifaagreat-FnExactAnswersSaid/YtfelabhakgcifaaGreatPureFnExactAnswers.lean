/- The pure statement of the law FnExactAnswers: the program's function and the reference's agree, for all arguments within the row's bounds. -/
import Derived.Test.YtfelabhakgcifaaGreatQFnExactAnswersx0
import Derived.Test.YtfelabhakgcifaaGreatQFnExactAnswersx1
import Derived.Test.YtfelabhakgcifaaGreatQFnExactAnswersx2
import Derived.Test.YtfelabhakgcifaaGreatQFnExactAnswersx3
import Derived.Test.YtfelabhakgcifaaGreatQFnExactAnswersx4
import Derived.Test.YtfelabhakgcifaaGreatQFnExactAnswersx5
import Derived.Test.YtfelabhakgcifaaGreatQFnExactAnswersx6
import Derived.Test.YtfelabhakgcifaaGreatQFnExactAnswersx7
import Derived.Test.YtfelabhakgcifaaGreatQFnExactAnswersx8
import Derived.Test.YtfelabhakgcifaaGreatQFnExactAnswersx9
import Derived.Test.YtfelabhakgcifaaGreatQFnExactAnswersx10
import Derived.Test.YtfelabhakgcifaaGreatQFnExactAnswersx11
import Derived.Test.YtfelabhakgcifaaGreatQFnExactAnswersx12
import Derived.Test.YtfelabhakgcifaaGreatQFnExactAnswersx13
import Derived.Test.YtfelabhakgcifaaGreatQFnExactAnswersx14
import Derived.Test.YtfelabhakgcifaaGreatQFnExactAnswersx15
import Derived.Test.YtfelabhakgcifaaGreatQFnExactAnswersx16
import Derived.Test.YtfelabhakgcifaaGreatQFnExactAnswersx17
import Derived.Test.YtfelabhakgcifaaGreatQFnExactAnswersx18
import Derived.Test.YtfelabhakgcifaaGreatVFnExactAnswersMine
import Derived.Test.YtfelabhakgcifaaGreatVFnExactAnswersOpen
set_option linter.unusedVariables false
set_option linter.unusedSimpArgs false
namespace Go.Proofs.YtfelabhakgcifaaGreat.Pure
open Go.RowKit Go.Proofs.YtfelabhakgcifaaGreat.QFnExactAnswers Go.Proofs.YtfelabhakgcifaaGreatW.PrintWords Go.Proofs.YtfelabhakgcifaaGreatW.PrintLast Go.Proofs.YtfelabhakgcifaaGreat.Mine Go.Proofs.YtfelabhakgcifaaGreat.Open

theorem szIntS_eq (l : List Int) (a : Int) (h : l.length ≤ maxLen) (h0 : 0 ≤ a) (h1 : a ≤ 1048576) : laws_szIntS.f l a = some (mSz l a) := by
  unfold maxLen at h
  unfold laws_szIntS.f mSz
  rw [w64 (by omega) (by omega)]
  by_cases hc : (l.length : Int) ≤ a
  · rw [if_neg (by omega), if_pos hc]
  · rw [if_pos (by omega), if_neg hc]
theorem toIntS_l0 (suf : List Int) : ∀ pre : List Int, (pre ++ suf).length ≤ 17592186044416 → Ev (fun k => laws_toIntS.l0 k (pre ++ suf) (pre ++ List.replicate suf.length 0) (pre.length : Int)) (pre ++ suf) := by
  induction suf with
  | nil =>
    intro pre h
    simp only [List.append_nil, List.length_nil, List.replicate_zero]
    refine evn fun k => ?_
    simp only [laws_toIntS.l0]
    rw [if_neg (end_not _)]
  | cons a t ih =>
    intro pre h
    have h1 := ih (pre ++ [a]) (by simpa using h)
    have hl : pre.length ≤ 140737488355328 := by simp at h; omega
    refine Ev.step (fun k => ?_) (by simpa using h1)
    simp only [laws_toIntS.l0]
    rw [if_pos (mid_lt _ _ _), if_pos (len_nonneg _)]
    simp only [List.length_cons, List.replicate_succ]
    rw [if_pos (mid_lt _ _ _), rd_mid, set_mid, iw (a := a) hl]
    simp
theorem toIntS_ev (l : List Int) (h : l.length ≤ 17592186044416) : Ev (fun k => laws_toIntS.f k l) l := by
  have h1 := toIntS_l0 l [] (by simpa using h)
  refine Ev.congr (fun k => ?_) h1
  unfold laws_toIntS.f
  rw [if_pos (by omega), if_pos (by simp; omega)]
  simp
theorem eqIntS_l0 (suf : List Int) : ∀ (pre suf2 pre2 : List Int), pre.length = pre2.length → suf.length = suf2.length → (pre ++ suf).length ≤ 17592186044416 →
    Ev (fun k => laws_eqIntS.l0 k (pre ++ suf) (pre2 ++ suf2) (pre.length : Int)) (decide (suf = suf2)) := by
  induction suf with
  | nil =>
    intro pre suf2 pre2 hp hs h
    obtain rfl : suf2 = [] := List.eq_nil_of_length_eq_zero (by simpa using hs.symm)
    simp only [List.append_nil]
    refine evn fun k => ?_
    simp only [laws_eqIntS.l0]
    rw [if_neg (end_not _)]; simp
  | cons a t ih =>
    intro pre suf2 pre2 hp hs h
    obtain ⟨b, t2, rfl⟩ : ∃ b t2, suf2 = b :: t2 := by cases suf2 with
      | nil => simp at hs
      | cons b t2 => exact ⟨b, t2, rfl⟩
    have hl : pre.length ≤ 140737488355328 := by simp at h; omega
    have r1 : rd (pre2 ++ b :: t2) (pre.length : Int) = b := by rw [hp]; exact rd_mid _ _ _
    have l1 : (pre.length : Int) < ((pre2 ++ b :: t2).length : Int) := by rw [hp]; exact mid_lt _ _ _
    by_cases hab : a = b
    · subst hab
      have h1 := ih (pre ++ [a]) t2 (pre2 ++ [a]) (by simpa using hp) (by simpa using hs) (by simpa using h)
      have e : decide (a :: t = a :: t2) = decide (t = t2) := by simp
      rw [e]
      refine Ev.step (fun k => ?_) (by simpa using h1)
      simp only [laws_eqIntS.l0]
      rw [if_pos (mid_lt _ _ _), if_pos (len_nonneg _), if_pos l1, rd_mid, r1, if_pos rfl, iw (a := a) hl]
      simp
    · have e : decide (a :: t = b :: t2) = false := by simp [hab]
      rw [e]
      refine evn fun k => ?_
      simp only [laws_eqIntS.l0]
      rw [if_pos (mid_lt _ _ _), if_pos (len_nonneg _), if_pos l1, rd_mid, r1, if_neg hab]
theorem eqIntS_ev (l l2 : List Int) (h : l.length ≤ 17592186044416) : Ev (fun k => laws_eqIntS.f k l l2) (decide (l = l2)) := by
  by_cases hl : l.length = l2.length
  · have h1 := eqIntS_l0 l [] l2 [] rfl hl (by simpa using h)
    refine Ev.congr (fun k => ?_) h1
    unfold laws_eqIntS.f
    rw [if_pos (by omega)]
    simp
  · have e : decide (l = l2) = false := by simp; intro h; exact hl (by rw [h])
    rw [e]
    refine evc fun k => ?_
    unfold laws_eqIntS.f
    rw [if_neg (by omega)]
theorem szSchema_eq (l : List Int) (a : Int) (h : l.length ≤ maxLen) (h0 : 0 ≤ a) (h1 : a ≤ 1048576) : laws_szSchema.f l a = some (mSz l a) := by
  unfold laws_szSchema.f
  rw [szIntS_eq l a h h0 h1]
  simp only [Option.bind_some]
  unfold mSz
  by_cases hc : (l.length : Int) ≤ a
  · simp only [if_pos hc]; rw [if_neg (by omega)]
  · simp only [if_neg hc]; rfl
theorem toSchema_ev (l : List Int) (h : l.length ≤ 17592186044416) : Ev (fun k => laws_toSchema.f k l) l := by
  unfold laws_toSchema.f
  refine evb (toIntS_ev l h) ?_
  exact evc fun k => rfl
theorem eqSchema_ev (l m : List Int) (h : l.length ≤ 17592186044416) : Ev (fun k => laws_eqSchema.f k l m) (decide (l = m)) := by
  unfold laws_eqSchema.f
  refine evb (eqIntS_ev l m h) ?_
  refine evc fun k => ?_
  by_cases e : l = m
  · simp [e]
  · simp [e]
theorem szSchema_ok (l : List Int) (a : Int) (w : (WfL WfI) l) (h0 : 0 ≤ a) (h1 : a ≤ 1048576) : ∃ t, Ev (fun _ : Nat => laws_szSchema.f l a) t ∧ (t < 0 ∨ 0 ≤ t ∧ t ≤ a ∧ l.length ≤ 1048576) := by
  refine ⟨mSz l a, evc fun k => szSchema_eq l a w.2 h0 h1, ?_⟩
  unfold mSz
  by_cases hc : (l.length : Int) ≤ a
  · rw [if_pos hc]; right; omega
  · rw [if_neg hc]; left; omega
theorem eqFact_ev (r : Int) (l : List Int) (q : Int) (m : List Int) (h : l.length ≤ 17592186044416) : Ev (fun k => laws_eqFact.f k r l q m) (decide (r = q ∧ l = m)) := by
  unfold laws_eqFact.f
  by_cases hr : r = q
  · simp only [if_pos hr]
    refine evb (eqIntS_ev l m h) ?_
    refine evc fun k => ?_
    by_cases e : l = m
    · simp [e, hr]
    · simp [e]
  · simp only [if_neg hr]
    refine evc fun k => ?_
    simp [hr]
theorem szFact_eq (r : Int) (l : List Int) (a : Int) (h : l.length ≤ maxLen) (h0 : 0 ≤ a) (h1 : a ≤ 1048576) : laws_szFact.f r l a = some (mSz l a) := by
  unfold laws_szFact.f
  rw [szIntS_eq l a h h0 h1]
  simp only [Option.bind_some]
  unfold mSz
  by_cases hc : (l.length : Int) ≤ a
  · simp only [if_pos hc]; rw [if_neg (by omega)]
  · simp only [if_neg hc]; rfl
theorem toFact_ev (r : Int) (l : List Int) (h : l.length ≤ 17592186044416) : Ev (fun k => laws_toFact.f k r l) (r, l) := by
  unfold laws_toFact.f
  refine evb (toIntS_ev l h) ?_
  exact evc fun k => rfl
theorem szFact_ok (r : Int) (l : List Int) (a : Int) (w : (WfL WfI) l) (h0 : 0 ≤ a) (h1 : a ≤ 1048576) : ∃ t, Ev (fun _ : Nat => laws_szFact.f r l a) t ∧ (t < 0 ∨ 0 ≤ t ∧ t ≤ a ∧ l.length ≤ 1048576) := by
  refine ⟨mSz l a, evc fun k => szFact_eq r l a w.2 h0 h1, ?_⟩
  unfold mSz
  by_cases hc : (l.length : Int) ≤ a
  · rw [if_pos hc]; right; omega
  · rw [if_neg hc]; left; omega
def cvF (x : S59) : S64 := ⟨x.f0, x.f1⟩
theorem cvF_small {l : List S59} (h : ∀ x ∈ l, x.f1.length ≤ 1048576) : ∀ x ∈ l.map cvF, x.f1.length ≤ 1048576 := by
  intro x hx
  obtain ⟨y, hy, rfl⟩ := List.mem_map.1 hx
  exact h y hy
theorem rdLF_of {l pre suf : List S59} {a : S59} (e : l = pre ++ a :: suf) : rd_T59 l (pre.length : Int) = a := getD_of e _
theorem rdIF_of {l pre suf : List S64} {a : S64} (e : l = pre ++ a :: suf) : rd_T64 l (pre.length : Int) = a := getD_of e _
theorem szFactS_ok (l : List S59) (a : Int) (w : (WfL (fun x : S59 => WfI x.f0 ∧ (WfL WfI) x.f1)) l) (h0 : 0 ≤ a) (h1 : a ≤ 1048576) :
    ∃ t, Ev (fun k => laws_szFactS.f k l a) t ∧ (t < 0 ∨ 0 ≤ t ∧ t ≤ a ∧ l.length ≤ 1048576 ∧ ∀ x ∈ l, x.f1.length ≤ 1048576) := by
  have hm : l.length ≤ 9223372036854775807 := by have := w.2; unfold maxLen at this; exact this
  unfold laws_szFactS.f
  rw [w64 (by omega) (by omega)]
  by_cases hc : a - (l.length : Int) < 0
  · simp only [if_pos hc]; exact ⟨-1, evc fun k => rfl, .inl (by omega)⟩
  · simp only [if_neg hc]
    have hl : l.length ≤ 1048576 := by omega
    have key := idx_ind l (fun pre suf => ∀ b : Int, 0 ≤ b → b ≤ a → ∃ t, Ev (fun k => laws_szFactS.l0 k l b (pre.length : Int)) t ∧ (t < 0 ∨ 0 ≤ t ∧ t ≤ a ∧ ∀ x ∈ suf, x.f1.length ≤ 1048576)) ?_ ?_
    · obtain ⟨t, z, c⟩ := key (a - (l.length : Int)) (by omega) (by omega)
      exact ⟨t, z, c.imp id (fun ⟨p, q, r⟩ => ⟨p, q, hl, r⟩)⟩
    · intro b hb0 hb1
      refine ⟨b, evn fun k => ?_, .inr ⟨hb0, hb1, by simp⟩⟩
      simp only [laws_szFactS.l0]
      rw [if_neg (end_not _)]
    · intro pre x suf e ih b hb0 hb1
      have hx : x ∈ l := by rw [e]; simp
      obtain ⟨t, z, c⟩ := szFact_ok x.f0 x.f1 b (w.1 x hx).2 hb0 (by omega)
      have z' : laws_szFact.f x.f0 x.f1 b = some t := by obtain ⟨K, hK⟩ := z; exact hK K (Nat.le_refl _)
      rcases c with c | ⟨p, q, s⟩
      · refine ⟨-1, evn fun k => ?_, .inl (by omega)⟩
        simp only [laws_szFactS.l0]
        rw [if_pos (lt_of e), if_pos (len_nonneg _), rdLF_of e, z']
        simp only [Option.bind_some]
        rw [if_pos c]
      · obtain ⟨t2, z2, c2⟩ := ih t p (by omega)
        refine ⟨t2, Ev.step (fun k => ?_) z2, c2.imp id (fun ⟨p2, q2, r2⟩ => ⟨p2, q2, ?_⟩)⟩
        · simp only [laws_szFactS.l0]
          rw [if_pos (lt_of e), if_pos (len_nonneg _), rdLF_of e, z']
          simp only [Option.bind_some]
          rw [if_neg (by omega), nx_of e (by omega)]
        · intro y hy
          rcases List.mem_cons.1 hy with rfl | hy
          · exact s
          · exact r2 y hy
theorem toFactS_ev (l : List S59) (hl : l.length ≤ 1048576) (hs : ∀ x ∈ l, x.f1.length ≤ 1048576) : Ev (fun k => laws_toFactS.f k l) (l.map cvF) := by
  have key := idx_ind l (fun pre suf => Ev (fun k => laws_toFactS.l0 k l (pre.map cvF ++ List.replicate suf.length z64) (pre.length : Int)) (l.map cvF)) ?_ ?_
  · refine Ev.congr (fun k => ?_) key
    unfold laws_toFactS.f
    rw [if_pos (by omega), if_pos (by omega)]
    simp
  · refine evn fun k => ?_
    simp only [laws_toFactS.l0]
    rw [if_neg (end_not _)]
    simp
  · intro pre x suf e ih
    have hx : x.f1.length ≤ 1048576 := hs x (by rw [e]; simp)
    refine Ev.step (f := fun k => (laws_toFact.f k x.f0 x.f1).bind fun b => laws_toFactS.l0 k l ((pre.map cvF ++ List.replicate (suf.length + 1) z64).set pre.length (⟨b.1, b.2⟩ : S64)) ((pre ++ [x]).length : Int)) (fun k => ?_) ?_
    · simp only [laws_toFactS.l0]
      have hc : (pre.length : Int) < ((pre.map cvF ++ List.replicate (x :: suf).length z64).length : Int) := by simp; omega
      rw [if_pos (lt_of e), if_pos (len_nonneg _), rdLF_of e, nx_of e (by omega)]
      simp only [if_pos hc]
      simp
    · refine evb (toFact_ev x.f0 x.f1 (by omega)) ?_
      have es : (pre.map cvF ++ List.replicate (suf.length + 1) z64).set pre.length (⟨x.f0, x.f1⟩ : S64) = (pre ++ [x]).map cvF ++ List.replicate suf.length z64 := by
        rw [List.replicate_succ]
        simp [cvF]
      simp only [es]
      exact ih
theorem eqFactS_ev (l : List S64) (hl : l.length ≤ 1048576) (hs : ∀ x ∈ l, x.f1.length ≤ 1048576) : Ev (fun k => laws_eqFactS.f k l l) true := by
  have key := idx_ind l (fun pre suf => Ev (fun k => laws_eqFactS.l0 k l l (pre.length : Int)) true) ?_ ?_
  · refine Ev.congr (fun k => ?_) key
    unfold laws_eqFactS.f
    rw [if_pos rfl]; rfl
  · refine evn fun k => ?_
    simp only [laws_eqFactS.l0]
    rw [if_neg (end_not _)]
  · intro pre x suf e ih
    have hx : x.f1.length ≤ 1048576 := hs x (by rw [e]; simp)
    refine Ev.step (f := fun k => (laws_eqFact.f k x.f0 x.f1 x.f0 x.f1).bind fun b => if b = true then laws_eqFactS.l0 k l l ((pre ++ [x]).length : Int) else some false) (fun k => ?_) ?_
    · simp only [laws_eqFactS.l0]
      rw [if_pos (lt_of e), if_pos (len_nonneg _), if_pos (lt_of e), rdIF_of e, nx_of e (by omega)]
    · refine evb (eqFact_ev x.f0 x.f1 x.f0 x.f1 (by omega)) ?_
      simp only [and_self, decide_true, if_true]
      exact ih
theorem eqAtom_ev (r : Int) (l : List Int) (q : Int) (m : List Int) (h : l.length ≤ 17592186044416) : Ev (fun k => laws_eqAtom.f k r l q m) (decide (r = q ∧ l = m)) := by
  unfold laws_eqAtom.f
  by_cases hr : r = q
  · simp only [if_pos hr]
    refine evb (eqIntS_ev l m h) ?_
    refine evc fun k => ?_
    by_cases e : l = m
    · simp [e, hr]
    · simp [e]
  · simp only [if_neg hr]
    refine evc fun k => ?_
    simp [hr]
theorem szAtom_eq (r : Int) (l : List Int) (a : Int) (h : l.length ≤ maxLen) (h0 : 0 ≤ a) (h1 : a ≤ 1048576) : laws_szAtom.f r l a = some (mSz l a) := by
  unfold laws_szAtom.f
  rw [szIntS_eq l a h h0 h1]
  simp only [Option.bind_some]
  unfold mSz
  by_cases hc : (l.length : Int) ≤ a
  · simp only [if_pos hc]; rw [if_neg (by omega)]
  · simp only [if_neg hc]; rfl
theorem toAtom_ev (r : Int) (l : List Int) (h : l.length ≤ 17592186044416) : Ev (fun k => laws_toAtom.f k r l) (r, l) := by
  unfold laws_toAtom.f
  refine evb (toIntS_ev l h) ?_
  exact evc fun k => rfl
theorem szAtom_ok (r : Int) (l : List Int) (a : Int) (w : (WfL WfI) l) (h0 : 0 ≤ a) (h1 : a ≤ 1048576) : ∃ t, Ev (fun _ : Nat => laws_szAtom.f r l a) t ∧ (t < 0 ∨ 0 ≤ t ∧ t ≤ a ∧ l.length ≤ 1048576) := by
  refine ⟨mSz l a, evc fun k => szAtom_eq r l a w.2 h0 h1, ?_⟩
  unfold mSz
  by_cases hc : (l.length : Int) ≤ a
  · rw [if_pos hc]; right; omega
  · rw [if_neg hc]; left; omega
theorem rdIA_of {l pre suf : List S81} {a : S81} (e : l = pre ++ a :: suf) : rd_T81 l (pre.length : Int) = a := getD_of e _
def cvA (x : S79) : S81 := ⟨x.f0, x.f1⟩
theorem cvA_small {l : List S79} (h : ∀ x ∈ l, x.f1.length ≤ 1048576) : ∀ x ∈ l.map cvA, x.f1.length ≤ 1048576 := by
  intro x hx
  obtain ⟨y, hy, rfl⟩ := List.mem_map.1 hx
  exact h y hy
theorem rdLA_of {l pre suf : List S79} {a : S79} (e : l = pre ++ a :: suf) : rd_T79 l (pre.length : Int) = a := getD_of e _
theorem szAtomS_ok (l : List S79) (a : Int) (w : (WfL (fun x : S79 => WfI x.f0 ∧ (WfL WfI) x.f1)) l) (h0 : 0 ≤ a) (h1 : a ≤ 1048576) :
    ∃ t, Ev (fun k => laws_szAtomS.f k l a) t ∧ (t < 0 ∨ 0 ≤ t ∧ t ≤ a ∧ l.length ≤ 1048576 ∧ ∀ x ∈ l, x.f1.length ≤ 1048576) := by
  have hm : l.length ≤ 9223372036854775807 := by have := w.2; unfold maxLen at this; exact this
  unfold laws_szAtomS.f
  rw [w64 (by omega) (by omega)]
  by_cases hc : a - (l.length : Int) < 0
  · simp only [if_pos hc]; exact ⟨-1, evc fun k => rfl, .inl (by omega)⟩
  · simp only [if_neg hc]
    have hl : l.length ≤ 1048576 := by omega
    have key := idx_ind l (fun pre suf => ∀ b : Int, 0 ≤ b → b ≤ a → ∃ t, Ev (fun k => laws_szAtomS.l0 k l b (pre.length : Int)) t ∧ (t < 0 ∨ 0 ≤ t ∧ t ≤ a ∧ ∀ x ∈ suf, x.f1.length ≤ 1048576)) ?_ ?_
    · obtain ⟨t, z, c⟩ := key (a - (l.length : Int)) (by omega) (by omega)
      exact ⟨t, z, c.imp id (fun ⟨p, q, r⟩ => ⟨p, q, hl, r⟩)⟩
    · intro b hb0 hb1
      refine ⟨b, evn fun k => ?_, .inr ⟨hb0, hb1, by simp⟩⟩
      simp only [laws_szAtomS.l0]
      rw [if_neg (end_not _)]
    · intro pre x suf e ih b hb0 hb1
      have hx : x ∈ l := by rw [e]; simp
      obtain ⟨t, z, c⟩ := szAtom_ok x.f0 x.f1 b (w.1 x hx).2 hb0 (by omega)
      have z' : laws_szAtom.f x.f0 x.f1 b = some t := by obtain ⟨K, hK⟩ := z; exact hK K (Nat.le_refl _)
      rcases c with c | ⟨p, q, s⟩
      · refine ⟨-1, evn fun k => ?_, .inl (by omega)⟩
        simp only [laws_szAtomS.l0]
        rw [if_pos (lt_of e), if_pos (len_nonneg _), rdLA_of e, z']
        simp only [Option.bind_some]
        rw [if_pos c]
      · obtain ⟨t2, z2, c2⟩ := ih t p (by omega)
        refine ⟨t2, Ev.step (fun k => ?_) z2, c2.imp id (fun ⟨p2, q2, r2⟩ => ⟨p2, q2, ?_⟩)⟩
        · simp only [laws_szAtomS.l0]
          rw [if_pos (lt_of e), if_pos (len_nonneg _), rdLA_of e, z']
          simp only [Option.bind_some]
          rw [if_neg (by omega), nx_of e (by omega)]
        · intro y hy
          rcases List.mem_cons.1 hy with rfl | hy
          · exact s
          · exact r2 y hy
theorem toAtomS_ev (l : List S79) (hl : l.length ≤ 1048576) (hs : ∀ x ∈ l, x.f1.length ≤ 1048576) : Ev (fun k => laws_toAtomS.f k l) (l.map cvA) := by
  have key := idx_ind l (fun pre suf => Ev (fun k => laws_toAtomS.l0 k l (pre.map cvA ++ List.replicate suf.length z81) (pre.length : Int)) (l.map cvA)) ?_ ?_
  · refine Ev.congr (fun k => ?_) key
    unfold laws_toAtomS.f
    rw [if_pos (by omega), if_pos (by omega)]
    simp
  · refine evn fun k => ?_
    simp only [laws_toAtomS.l0]
    rw [if_neg (end_not _)]
    simp
  · intro pre x suf e ih
    have hx : x.f1.length ≤ 1048576 := hs x (by rw [e]; simp)
    refine Ev.step (f := fun k => (laws_toAtom.f k x.f0 x.f1).bind fun b => laws_toAtomS.l0 k l ((pre.map cvA ++ List.replicate (suf.length + 1) z81).set pre.length (⟨b.1, b.2⟩ : S81)) ((pre ++ [x]).length : Int)) (fun k => ?_) ?_
    · simp only [laws_toAtomS.l0]
      have hc : (pre.length : Int) < ((pre.map cvA ++ List.replicate (x :: suf).length z81).length : Int) := by simp; omega
      rw [if_pos (lt_of e), if_pos (len_nonneg _), rdLA_of e, nx_of e (by omega)]
      simp only [if_pos hc]
      simp
    · refine evb (toAtom_ev x.f0 x.f1 (by omega)) ?_
      have es : (pre.map cvA ++ List.replicate (suf.length + 1) z81).set pre.length (⟨x.f0, x.f1⟩ : S81) = (pre ++ [x]).map cvA ++ List.replicate suf.length z81 := by
        rw [List.replicate_succ]
        simp [cvA]
      simp only [es]
      exact ih
theorem eqAtomS_ev (l : List S81) (hl : l.length ≤ 1048576) (hs : ∀ x ∈ l, x.f1.length ≤ 1048576) : Ev (fun k => laws_eqAtomS.f k l l) true := by
  have key := idx_ind l (fun pre suf => Ev (fun k => laws_eqAtomS.l0 k l l (pre.length : Int)) true) ?_ ?_
  · refine Ev.congr (fun k => ?_) key
    unfold laws_eqAtomS.f
    rw [if_pos rfl]; rfl
  · refine evn fun k => ?_
    simp only [laws_eqAtomS.l0]
    rw [if_neg (end_not _)]
  · intro pre x suf e ih
    have hx : x.f1.length ≤ 1048576 := hs x (by rw [e]; simp)
    refine Ev.step (f := fun k => (laws_eqAtom.f k x.f0 x.f1 x.f0 x.f1).bind fun b => if b = true then laws_eqAtomS.l0 k l l ((pre ++ [x]).length : Int) else some false) (fun k => ?_) ?_
    · simp only [laws_eqAtomS.l0]
      rw [if_pos (lt_of e), if_pos (len_nonneg _), if_pos (lt_of e), rdIA_of e, nx_of e (by omega)]
    · refine evb (eqAtom_ev x.f0 x.f1 x.f0 x.f1 (by omega)) ?_
      simp only [and_self, decide_true, if_true]
      exact ih
theorem szQuery_ok (h : List Int) (d : List S79) (a : Int) (w : (WfL WfI) h ∧ (WfL (fun x : S79 => WfI x.f0 ∧ (WfL WfI) x.f1)) d) (h0 : 0 ≤ a) (h1 : a ≤ 1048576) :
    ∃ t, Ev (fun k => laws_szQuery.f k h d a) t ∧ (t < 0 ∨ 0 ≤ t ∧ t ≤ a ∧ h.length ≤ 1048576 ∧ d.length ≤ 1048576 ∧ ∀ x ∈ d, x.f1.length ≤ 1048576) := by
  unfold laws_szQuery.f
  rw [szIntS_eq h a w.1.2 h0 h1]
  simp only [Option.bind_some]
  unfold mSz
  by_cases hc : (h.length : Int) ≤ a
  · simp only [if_pos hc]
    have hn : ¬ (a - (h.length : Int) < 0) := by omega
    simp only [if_neg hn]
    obtain ⟨t, z, c⟩ := szAtomS_ok d (a - (h.length : Int)) w.2 (by omega) (by omega)
    rcases c with c | ⟨p, q, s⟩
    · exact ⟨-1, evb z (by simp only [if_pos c]; exact evc fun k => rfl), .inl (by omega)⟩
    · have hp : ¬ t < 0 := by omega
      exact ⟨t, evb z (by simp only [if_neg hp]; exact evc fun k => rfl), .inr ⟨p, by omega, by omega, s⟩⟩
  · simp only [if_neg hc]
    exact ⟨-1, evc fun k => rfl, .inl (by omega)⟩
theorem toQuery_ev (h : List Int) (d : List S79) (hh : h.length ≤ 1048576) (hl : d.length ≤ 1048576) (hs : ∀ x ∈ d, x.f1.length ≤ 1048576) : Ev (fun k => laws_toQuery.f k h d) (h, d.map cvA) := by
  unfold laws_toQuery.f
  refine evb (toIntS_ev h (by omega)) ?_
  refine evb (toAtomS_ev d hl hs) ?_
  exact evc fun k => rfl
theorem eqQuery_ev (h : List Int) (d : List S81) (hh : h.length ≤ 1048576) (hl : d.length ≤ 1048576) (hs : ∀ x ∈ d, x.f1.length ≤ 1048576) : Ev (fun k => laws_eqQuery.f k h d h d) true := by
  unfold laws_eqQuery.f
  refine evb (eqIntS_ev h h (by omega)) ?_
  simp only [decide_true, if_true]
  refine evb (eqAtomS_ev d hl hs) ?_
  simp only [if_true]
  exact evc fun k => rfl
theorem rdL_of {l pre suf : List (List Int)} {a : List Int} (e : l = pre ++ a :: suf) : rd_L1 l (pre.length : Int) = a := getD_of e _
theorem eqIntSS_ev (l : List (List Int)) (hl : l.length ≤ 1048576) (hs : ∀ x ∈ l, x.length ≤ 1048576) : Ev (fun k => laws_eqIntSS.f k l l) true := by
  have key := idx_ind l (fun pre suf => Ev (fun k => laws_eqIntSS.l0 k l l (pre.length : Int)) true) ?_ ?_
  · refine Ev.congr (fun k => ?_) key
    unfold laws_eqIntSS.f
    rw [if_pos rfl]; rfl
  · refine evn fun k => ?_
    simp only [laws_eqIntSS.l0]
    rw [if_neg (end_not _)]
  · intro pre x suf e ih
    have hx : x.length ≤ 1048576 := hs x (by rw [e]; simp)
    refine Ev.step (fun k => laws_eqIntSS.l0.eq_2 ..) ?_
    simp only [if_pos (lt_of e), if_pos (len_nonneg _), rdL_of e, nx_of e (show l.length ≤ 140737488355328 by omega)]
    refine evb (eqIntS_ev x x (by omega)) ?_
    simp only [decide_true, if_true]
    exact ih
theorem markIntS_l0 (suf : List Int) : ∀ (pre : List Int) (m : Int), 0 ≤ m → m + suf.length ≤ 9223372036854775807 → (pre ++ suf).length ≤ 17592186044416 →
    Ev (fun k => laws_markIntS.l0 k (pre ++ suf) m (pre.length : Int)) (m + (suf.length : Int), pre ++ mMarks m suf.length) := by
  induction suf with
  | nil =>
    intro pre m h0 h1 h
    refine evn fun k => ?_
    simp only [laws_markIntS.l0, List.append_nil]
    rw [if_neg (end_not _)]; simp [mMarks]
  | cons a t ih =>
    intro pre m h0 h1 h
    have hl : pre.length ≤ 140737488355328 := by simp at h; omega
    have r := ih (pre ++ [m]) (m + 1) (by omega) (by simp at h1; omega) (by simpa using h)
    have e : m + ((a :: t).length : Int) = m + 1 + (t.length : Int) := by simp; omega
    rw [e]
    refine Ev.step (fun k => ?_) (by simpa [mMarks] using r)
    simp only [laws_markIntS.l0]
    rw [if_pos (mid_lt _ _ _), if_pos (len_nonneg _), set_mid, iw (a := m) hl, w64 (by omega) (by simp at h1; omega)]
    simp
theorem markIntS_ev (l : List Int) (m : Int) (h0 : 0 ≤ m) (h1 : m ≤ 4611686018427387904) (h : l.length ≤ 17592186044416) : Ev (fun k => laws_markIntS.f k l m) (m + (l.length : Int), mMarks m l.length) := by
  have r := markIntS_l0 l [] m h0 (by omega) (by simpa using h)
  exact r
theorem heldIntS_l0 : ∀ (n : Nat) (pre : List Int) (m : Int), 0 ≤ m → m + n ≤ 9223372036854775807 → pre.length + n ≤ 17592186044416 →
    Ev (fun k => laws_heldIntS.l0 k (pre ++ mMarks m n) m (pre.length : Int)) (m + (n : Int))
  | 0, pre, m, h0, h1, h => by
    refine evn fun k => ?_
    simp only [laws_heldIntS.l0, mMarks, List.append_nil]
    rw [if_neg (end_not _)]; simp
  | n + 1, pre, m, h0, h1, h => by
    have r := heldIntS_l0 n (pre ++ [m]) (m + 1) (by omega) (by omega) (by simp; omega)
    have e : m + ((n + 1 : Nat) : Int) = m + 1 + (n : Int) := by omega
    rw [e]
    refine Ev.step (fun k => ?_) (by simpa [mMarks] using r)
    rw [show mMarks m (n + 1) = m :: mMarks (m + 1) n from rfl]
    simp only [laws_heldIntS.l0]
    rw [if_pos (mid_lt _ _ _), if_pos (len_nonneg _), rd_mid, if_pos rfl, iw (a := m) (by omega), w64 (by omega) (by omega)]
    simp
theorem heldIntS_ev (m : Int) (n : Nat) (h0 : 0 ≤ m) (h1 : m ≤ 4611686018427387904) (h : n ≤ 17592186044416) : Ev (fun k => laws_heldIntS.f k (mMarks m n) m) (m + (n : Int)) := by
  have r := heldIntS_l0 n [] m h0 (by omega) (by simpa using h)
  exact r
theorem l1In_eq (x lo hi : Int) : spec_l1In.f x lo hi = some (decide (lo ≤ x ∧ x ≤ hi)) := by
  unfold spec_l1In.f
  by_cases h : x ≥ lo
  · rw [if_pos h]; congr 1; simp; omega
  · rw [if_neg h]; congr 1; simp; omega
theorem within_eq (x lo hi : Int) : impl_within.f x lo hi = some (decide (lo ≤ x ∧ x ≤ hi)) := by
  unfold impl_within.f
  by_cases h : x ≥ lo
  · rw [if_pos h]; congr 1; simp; omega
  · rw [if_neg h]; congr 1; simp; omega
theorem specSchema_ev (l : List Int) (h : l.length ≤ 140737488355328) : Ev (fun k => spec_IsSchema.f k l) (mIsSchema l) := by
  have key := idx_ind l (fun pre suf => Ev (fun k => spec_IsSchema.l0 k (pre.length : Int) l) (suf.all (fun n => decide (1 ≤ n ∧ n ≤ 3)) && decide (1 ≤ (l.length : Int) ∧ (l.length : Int) ≤ 4))) ?_ ?_
  · exact key
  · refine evn fun k => ?_
    simp only [spec_IsSchema.l0]
    rw [if_neg (end_not _), l1In_eq]
    simp
  · intro pre a suf e ih
    by_cases hp : 1 ≤ a ∧ a ≤ 3
    · have ht : ((a :: suf).all (fun n => decide (1 ≤ n ∧ n ≤ 3)) && decide (1 ≤ (l.length : Int) ∧ (l.length : Int) ≤ 4)) = (suf.all (fun n => decide (1 ≤ n ∧ n ≤ 3)) && decide (1 ≤ (l.length : Int) ∧ (l.length : Int) ≤ 4)) := by simp [hp]
      rw [ht]
      refine Ev.step (fun k => ?_) ih
      simp only [spec_IsSchema.l0]
      rw [if_pos (lt_of e), if_pos (len_nonneg _), rd_of e, l1In_eq, nx_of e h]
      simp [hp]
    · have ht : ((a :: suf).all (fun n => decide (1 ≤ n ∧ n ≤ 3)) && decide (1 ≤ (l.length : Int) ∧ (l.length : Int) ≤ 4)) = false := by simp [hp]
      rw [ht]
      refine evn fun k => ?_
      simp only [spec_IsSchema.l0]
      rw [if_pos (lt_of e), if_pos (len_nonneg _), rd_of e, l1In_eq]
      simp [hp]
theorem implSchema_ev (l : List Int) (h : l.length ≤ 140737488355328) : Ev (fun k => impl_IsSchema.f k l) (mIsSchema l) := by
  have key := idx_ind l (fun pre suf => Ev (fun k => impl_IsSchema.l0 k l (l.length : Int) (pre.length : Int) l) (suf.all (fun n => decide (1 ≤ n ∧ n ≤ 3)) && decide (1 ≤ (l.length : Int) ∧ (l.length : Int) ≤ 4))) ?_ ?_
  · exact key
  · refine evn fun k => ?_
    simp only [impl_IsSchema.l0]
    rw [if_neg (end_not _), within_eq]
    simp
  · intro pre a suf e ih
    by_cases hp : 1 ≤ a ∧ a ≤ 3
    · have ht : ((a :: suf).all (fun n => decide (1 ≤ n ∧ n ≤ 3)) && decide (1 ≤ (l.length : Int) ∧ (l.length : Int) ≤ 4)) = (suf.all (fun n => decide (1 ≤ n ∧ n ≤ 3)) && decide (1 ≤ (l.length : Int) ∧ (l.length : Int) ≤ 4)) := by simp [hp]
      rw [ht]
      refine Ev.step (fun k => ?_) ih
      simp only [impl_IsSchema.l0]
      rw [if_pos (lt_of e), if_pos (len_nonneg _), if_pos (lt_of e), rd_of e, within_eq, nx_of e h]
      simp [hp]
    · have ht : ((a :: suf).all (fun n => decide (1 ≤ n ∧ n ≤ 3)) && decide (1 ≤ (l.length : Int) ∧ (l.length : Int) ≤ 4)) = false := by simp [hp]
      rw [ht]
      refine evn fun k => ?_
      simp only [impl_IsSchema.l0]
      rw [if_pos (lt_of e), if_pos (len_nonneg _), if_pos (lt_of e), rd_of e, within_eq]
      simp [hp]
theorem areValues_ev (l : List Int) (h : l.length ≤ 140737488355328) : Ev (fun k => impl_areValues.f k l) (l.all (fun x => decide (0 ≤ x ∧ x ≤ 99))) := by
  refine idx_ind l (fun pre suf => Ev (fun k => impl_areValues.l0 k l (l.length : Int) (pre.length : Int)) (suf.all (fun x => decide (0 ≤ x ∧ x ≤ 99)))) ?_ ?_
  · refine evn fun k => ?_
    simp only [impl_areValues.l0]
    rw [if_neg (end_not _)]; rfl
  · intro pre a suf e ih
    by_cases hp : 0 ≤ a ∧ a ≤ 99
    · rw [show (a :: suf).all (fun x => decide (0 ≤ x ∧ x ≤ 99)) = suf.all (fun x => decide (0 ≤ x ∧ x ≤ 99)) by simp [hp]]
      refine Ev.step (fun k => ?_) ih
      simp only [impl_areValues.l0]
      rw [if_pos (lt_of e), if_pos (len_nonneg _), if_pos (lt_of e), rd_of e, within_eq, nx_of e h]
      simp [hp]
    · rw [show (a :: suf).all (fun x => decide (0 ≤ x ∧ x ≤ 99)) = false by simp [hp]]
      refine evn fun k => ?_
      simp only [impl_areValues.l0]
      rw [if_pos (lt_of e), if_pos (len_nonneg _), if_pos (lt_of e), rd_of e, within_eq]
      simp [hp]
theorem implTakes_ev (s : List Int) (r n : Int) (hs : s.length ≤ 140737488355328) : Ev (fun k => impl_Schema_takes.f k s r n) (mTakes s r n) := by
  unfold impl_Schema_takes.f mTakes
  refine evb (implSchema_ev s hs) ?_
  by_cases c1 : mIsSchema s = true
  · simp only [c1, if_true, within_eq, Option.bind_some]
    rw [w64 (by omega) (by omega)]
    by_cases c2 : 0 ≤ r ∧ r < (s.length : Int)
    · have c2' : 0 ≤ r ∧ r ≤ (s.length : Int) - 1 := by omega
      rw [show decide (0 ≤ r ∧ r < (s.length : Int)) = true from decide_eq_true c2]
      simp only [c2', and_self, decide_true, if_true, if_pos c2.1, if_pos c2.2]
      refine evc fun k => ?_
      simp only [Bool.true_and]
      rfl
    · have c2' : ¬ (0 ≤ r ∧ r ≤ (s.length : Int) - 1) := by omega
      simp only [c2', decide_false, Bool.false_eq_true, if_false]
      refine evc fun k => ?_
      rw [show decide (0 ≤ r ∧ r < (s.length : Int)) = false from decide_eq_false c2]
      simp
  · simp only [if_neg c1]
    refine evc fun k => ?_
    rw [show mIsSchema s = false by simpa using c1]
    simp
theorem specIsFact_l0 (r : Int) (l : List Int) (h : l.length ≤ 140737488355328) : Ev (fun k => spec_IsFact.l0 k 0 r l) (l.all (fun x => decide (0 ≤ x ∧ x ≤ 99))) := by
  refine idx_ind l (fun pre suf => Ev (fun k => spec_IsFact.l0 k (pre.length : Int) r l) (suf.all (fun x => decide (0 ≤ x ∧ x ≤ 99)))) ?_ ?_
  · refine evn fun k => ?_
    simp only [spec_IsFact.l0]
    rw [if_neg (end_not _)]; rfl
  · intro pre a suf e ih
    by_cases hp : 0 ≤ a ∧ a ≤ 99
    · rw [show (a :: suf).all (fun x => decide (0 ≤ x ∧ x ≤ 99)) = suf.all (fun x => decide (0 ≤ x ∧ x ≤ 99)) by simp [hp]]
      refine Ev.step (fun k => ?_) ih
      simp only [spec_IsFact.l0]
      rw [if_pos (lt_of e), if_pos (len_nonneg _), rd_of e, l1In_eq, nx_of e h]
      simp [hp]
    · rw [show (a :: suf).all (fun x => decide (0 ≤ x ∧ x ≤ 99)) = false by simp [hp]]
      refine evn fun k => ?_
      simp only [spec_IsFact.l0]
      rw [if_pos (lt_of e), if_pos (len_nonneg _), rd_of e, l1In_eq]
      simp [hp]
theorem specIsFact_ev (s : List Int) (r : Int) (l : List Int) (hs : s.length ≤ 140737488355328) (h : l.length ≤ 140737488355328) : Ev (fun k => spec_IsFact.f k s r l) (mIsFact s r l) := by
  unfold spec_IsFact.f mIsFact mTakes
  refine evb (specSchema_ev s hs) ?_
  have jt : Ev (fun k => spec_IsFact.j0 k true r l) false := evn fun k => by simp only [spec_IsFact.j0]; rw [if_pos trivial]
  by_cases c1 : mIsSchema s = true
  · simp only [c1, if_true, l1In_eq, Option.bind_some]
    rw [w64 (by omega) (by omega)]
    by_cases c2 : 0 ≤ r ∧ r < (s.length : Int)
    · have c2' : 0 ≤ r ∧ r ≤ (s.length : Int) - 1 := by omega
      rw [show decide (0 ≤ r ∧ r < (s.length : Int)) = true from decide_eq_true c2]
      simp only [c2', and_self, decide_true, if_true, if_pos c2.1, if_pos c2.2]
      by_cases c3 : rd s r = (l.length : Int)
      · rw [c3]
        simp only [bne_self_eq_false, decide_true, Bool.true_and]
        refine Ev.step (fun k => ?_) (specIsFact_l0 r l h)
        simp only [spec_IsFact.j0]
        rw [if_neg (by simp)]
      · rw [show ((l.length : Int) != rd s r) = true by simp; omega, show decide (rd s r = (l.length : Int)) = false from decide_eq_false c3]
        simpa using jt
    · have c2' : ¬ (0 ≤ r ∧ r ≤ (s.length : Int) - 1) := by omega
      simp only [c2', decide_false, Bool.false_eq_true, if_false]
      rw [show decide (0 ≤ r ∧ r < (s.length : Int)) = false from decide_eq_false c2]
      simpa using jt
  · simp only [if_neg c1]
    rw [show mIsSchema s = false by simpa using c1]
    simpa using jt
theorem implIsFact_ev (s : List Int) (r : Int) (l : List Int) (hs : s.length ≤ 140737488355328) (h : l.length ≤ 140737488355328) : Ev (fun k => impl_IsFact.f k s r l) (mIsFact s r l) := by
  unfold impl_IsFact.f mIsFact
  refine evb (implTakes_ev s r _ hs) ?_
  by_cases c : mTakes s r (l.length : Int) = true
  · simp only [c, if_true, Bool.true_and]
    refine evb (areValues_ev l h) ?_
    exact evc fun k => rfl
  · simp only [if_neg c]
    refine evc fun k => ?_
    rw [show mTakes s r (l.length : Int) = false by simpa using c]
    simp
theorem l2Less_ev (l m : List Int) (h : l.length ≤ 140737488355328) : Ev (fun k => spec_l2Less.f k l m) (mLess l m) := by
  have key := idx_ind l (fun pre suf => ∀ pre2 suf2, m = pre2 ++ suf2 → pre2.length = pre.length → Ev (fun k => spec_l2Less.l0 k l m (pre.length : Int)) (mLess suf suf2)) ?_ ?_
  · exact key [] m rfl rfl
  · intro pre2 suf2 e2 hp
    have e3 : mLess [] suf2 = decide ((l.length : Int) < (m.length : Int)) := by
      rw [e2]
      cases suf2 with
      | nil => simp [mLess]; omega
      | cons b t => simp [mLess]; omega
    rw [e3]
    refine Ev.step (f := fun k => spec_l2Less.j1 k l m (l.length : Int) false) (fun k => ?_) (evn fun k => ?_)
    · simp only [spec_l2Less.l0]
      rw [if_neg (end_not _)]
    · simp only [spec_l2Less.j1]
      rw [if_neg (by simp)]
  · intro pre a suf e ih pre2 suf2 e2 hp
    cases suf2 with
    | nil =>
      have hml : m.length = pre.length := by rw [e2]; simp [hp]
      have hlm : ¬ ((l.length : Int) < (m.length : Int)) := by have := lt_of e; omega
      refine Ev.step (f := fun k => spec_l2Less.j1 k l m (pre.length : Int) false) (fun k => ?_) (evn fun k => ?_)
      · simp only [spec_l2Less.l0]
        rw [if_pos (lt_of e), decide_eq_false (by omega)]
      · simp only [spec_l2Less.j1]
        rw [if_neg (by simp), decide_eq_false hlm]; rfl
    | cons b t2 =>
      have r2 : rd m (pre.length : Int) = b := by rw [← hp]; exact rd_of e2
      have l2 : (pre.length : Int) < (m.length : Int) := by rw [← hp]; exact lt_of e2
      refine Ev.step (f := fun k => spec_l2Less.j1 k l m (pre.length : Int) true) (fun k => ?_) ?_
      · simp only [spec_l2Less.l0]
        rw [if_pos (lt_of e), decide_eq_true l2]
      · by_cases hab : a = b
        · have em : mLess (a :: suf) (b :: t2) = mLess suf t2 := by rw [mLess, if_pos hab]
          rw [em]
          have r := ih (pre2 ++ [b]) t2 (by rw [e2]; simp) (by simp [hp])
          refine Ev.step (fun k => ?_) r
          simp only [spec_l2Less.j1]
          rw [if_pos trivial, if_pos (len_nonneg _), if_pos (lt_of e), if_pos l2, rd_of e, r2, if_pos hab, nx_of e h]
        · have em : mLess (a :: suf) (b :: t2) = decide (a < b) := by rw [mLess, if_neg hab]
          rw [em]
          refine evn fun k => ?_
          simp only [spec_l2Less.j1]
          rw [if_pos trivial, if_pos (len_nonneg _), if_pos (lt_of e), if_pos l2, rd_of e, r2, if_neg hab]
theorem cmpInt_eq (a b : Int) : cmp_Compare_int.f a b = some (if a < b then -1 else if a > b then 1 else 0) := by
  unfold cmp_Compare_int.f cmp_isNaN_int.f
  simp only [bne_self_eq_false, Option.bind_some, Bool.false_eq_true, if_false]
  by_cases h1 : a < b
  · rw [if_pos h1, if_pos h1]
  · rw [if_neg h1, if_neg h1]
    by_cases h2 : a > b
    · rw [if_pos h2, if_pos h2]
    · rw [if_neg h2, if_neg h2]
theorem slCompare_ev (l m : List Int) (h : l.length ≤ 140737488355328) : Ev (fun k => slices_Compare_int_int.f k l m) (mCmp l m) := by
  have key := idx_ind l (fun pre suf => ∀ pre2 suf2, m = pre2 ++ suf2 → pre2.length = pre.length → Ev (fun k => slices_Compare_int_int.l0 k l m l (l.length : Int) (pre.length : Int)) (mCmp suf suf2)) ?_ ?_
  · exact key [] m rfl rfl
  · intro pre2 suf2 e2 hp
    refine evn fun k => ?_
    simp only [slices_Compare_int_int.l0]
    rw [if_neg (end_not _)]
    cases suf2 with
    | nil => rw [if_neg (by rw [e2]; simp; omega)]; rfl
    | cons b t => rw [if_pos (by rw [e2]; simp; omega)]; rfl
  · intro pre a suf e ih pre2 suf2 e2 hp
    cases suf2 with
    | nil =>
      have hml : m.length = pre.length := by rw [e2]; simp [hp]
      refine evn fun k => ?_
      simp only [slices_Compare_int_int.l0]
      rw [if_pos (lt_of e), if_pos (len_nonneg _), if_pos (lt_of e), if_pos (by omega)]; rfl
    | cons b t2 =>
      have r2 : rd m (pre.length : Int) = b := by rw [← hp]; exact rd_of e2
      have l2 : (pre.length : Int) < (m.length : Int) := by rw [← hp]; exact lt_of e2
      by_cases h1 : a < b
      · refine evn fun k => ?_
        simp only [slices_Compare_int_int.l0]
        rw [if_pos (lt_of e), if_pos (len_nonneg _), if_pos (lt_of e), if_neg (by omega), if_pos l2, rd_of e, r2, cmpInt_eq]
        simp only [Option.bind_some, if_pos h1, mCmp]; rfl
      · by_cases h2 : a > b
        · refine evn fun k => ?_
          simp only [slices_Compare_int_int.l0]
          rw [if_pos (lt_of e), if_pos (len_nonneg _), if_pos (lt_of e), if_neg (by omega), if_pos l2, rd_of e, r2, cmpInt_eq]
          simp only [Option.bind_some, if_neg h1, if_pos h2, mCmp]; rfl
        · have em : mCmp (a :: suf) (b :: t2) = mCmp suf t2 := by rw [mCmp, if_neg h1, if_neg h2]
          rw [em]
          have r := ih (pre2 ++ [b]) t2 (by rw [e2]; simp) (by simp [hp])
          refine Ev.step (fun k => ?_) r
          simp only [slices_Compare_int_int.l0]
          rw [if_pos (lt_of e), if_pos (len_nonneg _), if_pos (lt_of e), if_neg (by omega), if_pos l2, rd_of e, r2, cmpInt_eq]
          simp only [Option.bind_some, if_neg h1, if_neg h2, if_true]
          rw [nx_of e h]
def mFLess (a b : S64) : Bool := if a.f0 = b.f0 then mLess a.f1 b.f1 else decide (a.f0 < b.f0)
def mDb (s : List Int) : Option S64 → List S64 → Bool
  | _, [] => true
  | none, x :: t => mIsFact s x.f0 x.f1 && mDb s (some x) t
  | some p, x :: t => mIsFact s x.f0 x.f1 && (mFLess p x && mDb s (some x) t)
def mIsDb (s : List Int) (d : List S64) : Bool := mDb s none d && (mIsSchema s && decide ((d.length : Int) ≤ 24))
theorem l5Less_ev (a b : S64) (h : a.f1.length ≤ 140737488355328) : Ev (fun k => spec_l5Less.f k a.f0 a.f1 b.f0 b.f1) (mFLess a b) := by
  unfold spec_l5Less.f mFLess
  by_cases hr : a.f0 = b.f0
  · simp only [if_pos hr]
    exact evb (l2Less_ev a.f1 b.f1 h) (evc fun k => rfl)
  · simp only [if_neg hr]
    exact evc fun k => rfl
def mCmpF (a b : S64) : Int := if a.f0 < b.f0 then -1 else if a.f0 > b.f0 then 1 else mCmp a.f1 b.f1
theorem cmpF_ev (a b : S64) (h : a.f1.length ≤ 140737488355328) : Ev (fun k => impl_compareFacts.f k a.f0 a.f1 b.f0 b.f1) (mCmpF a b) := by
  unfold impl_compareFacts.f mCmpF
  by_cases h1 : a.f0 < b.f0
  · simp only [if_pos h1]; exact evc fun k => rfl
  · simp only [if_neg h1]
    by_cases h2 : a.f0 > b.f0
    · simp only [if_pos h2]; exact evc fun k => rfl
    · simp only [if_neg h2]
      exact evb (slCompare_ev a.f1 b.f1 h) (evc fun k => rfl)
theorem cmpF_less (a b : S64) : mCmpF a b ≥ 0 ↔ mFLess a b = false := by
  unfold mCmpF mFLess
  by_cases h1 : a.f0 < b.f0
  · rw [if_pos h1, if_neg (by omega)]; simp [h1]
  · rw [if_neg h1]
    by_cases h2 : a.f0 > b.f0
    · rw [if_pos h2, if_neg (by omega)]; simp [h1]
    · rw [if_neg h2, if_pos (by omega), ← mCmp_neg]
      simp
theorem rd_last {l pre suf : List S64} {p a : S64} (e : l = (pre ++ [p]) ++ a :: suf) (h : l.length ≤ 1048576) : wrap64 (((pre ++ [p]).length : Int) - 1) = (pre.length : Int) ∧ rd_T64 l (pre.length : Int) = p := by
  constructor
  · have : pre.length ≤ 1048576 := by rw [e] at h; simp at h; omega
    rw [w64 (by simp <;> omega) (by simp <;> omega)]; simp
  · exact rdIF_of (suf := a :: suf) (by rw [e]; simp)
theorem specIsDb_ev (s : List Int) (d : List S64) (hs : s.length ≤ 1048576) (hl : d.length ≤ 1048576) (hd : ∀ x ∈ d, x.f1.length ≤ 1048576) : Ev (fun k => spec_IsDatabase.f k s d) (mIsDb s d) := by
  have key := idx_ind d (fun pre suf => Ev (fun k => spec_IsDatabase.l0 k d (pre.length : Int) s) (mDb s pre.getLast? suf && (mIsSchema s && decide ((d.length : Int) ≤ 24)))) ?_ ?_
  · exact key
  · rw [show mDb s d.getLast? [] = true by cases d.getLast? <;> rfl, Bool.true_and]
    refine Ev.step (f := fun k => (spec_IsSchema.f k s).bind fun t => if t = true then some (decide ((d.length : Int) ≤ 24)) else some false) (fun k => ?_) ?_
    · simp only [spec_IsDatabase.l0]
      rw [if_neg (end_not _)]
    · refine evb (specSchema_ev s (by omega)) ?_
      refine evc fun k => ?_
      cases mIsSchema s <;> simp
  · intro pre x suf e ih
    have hx : x.f1.length ≤ 1048576 := hd x (by rw [e]; simp)
    rw [List.getLast?_concat] at ih
    rcases List.eq_nil_or_concat pre with h0 | ⟨L, p, h0⟩
    · subst h0
      refine Ev.step (f := fun k => (spec_IsFact.f k s x.f0 x.f1).bind fun t => if t = true then spec_IsDatabase.l0 k d (([] ++ [x] : List S64).length : Int) s else some false) (fun k => ?_) ?_
      · simp only [spec_IsDatabase.l0]
        rw [if_pos (lt_of e), if_pos (len_nonneg _), rdIF_of e, nx_of e (by omega)]
        simp
      · refine evb (specIsFact_ev s x.f0 x.f1 (by omega) (by omega)) ?_
        rw [List.getLast?_nil, mDb]
        by_cases c : mIsFact s x.f0 x.f1 = true
        · simp only [c, if_true, Bool.true_and]; exact ih
        · simp only [if_neg c]
          rw [show mIsFact s x.f0 x.f1 = false by simpa using c]
          exact evc fun k => rfl
    · rw [List.concat_eq_append] at h0
      subst h0
      obtain ⟨e1, e2⟩ := rd_last e hl
      have hp : p.f1.length ≤ 1048576 := hd p (by rw [e]; simp)
      refine Ev.step (f := fun k => (spec_IsFact.f k s x.f0 x.f1).bind fun t => if t = true then ((spec_l5Less.f k p.f0 p.f1 x.f0 x.f1).bind fun u => if u = true then spec_IsDatabase.l0 k d ((L ++ [p] ++ [x]).length : Int) s else some false) else some false) (fun k => ?_) ?_
      · simp only [spec_IsDatabase.l0]
        have z0 : ((L ++ [p]).length : Int) > 0 := by simp <;> omega
        have z1 : (L.length : Int) < (d.length : Int) := by rw [e]; simp; omega
        rw [if_pos (lt_of e), if_pos (len_nonneg _), rdIF_of e, nx_of e (by omega), e1, e2]
        simp only [if_pos z0, if_pos (len_nonneg L), if_pos z1]
      · refine evb (specIsFact_ev s x.f0 x.f1 (by omega) (by omega)) ?_
        rw [List.getLast?_concat, mDb]
        by_cases c : mIsFact s x.f0 x.f1 = true
        · simp only [c, if_true, Bool.true_and]
          refine evb (l5Less_ev p x (by omega)) ?_
          by_cases c2 : mFLess p x = true
          · simp only [c2, if_true, Bool.true_and]; exact ih
          · simp only [if_neg c2]
            rw [show mFLess p x = false by simpa using c2]
            exact evc fun k => rfl
        · simp only [if_neg c]
          rw [show mIsFact s x.f0 x.f1 = false by simpa using c]
          exact evc fun k => rfl
theorem implIsDb_ev (s : List Int) (d : List S64) (hs : s.length ≤ 1048576) (hl : d.length ≤ 1048576) (hd : ∀ x ∈ d, x.f1.length ≤ 1048576) : Ev (fun k => impl_IsDatabase.f k s d) (mIsDb s d) := by
  have key := idx_ind d (fun pre suf => Ev (fun k => impl_IsDatabase.l0 k d d (d.length : Int) (pre.length : Int) s) (mDb s pre.getLast? suf && (mIsSchema s && decide ((d.length : Int) ≤ 24)))) ?_ ?_
  · exact key
  · rw [show mDb s d.getLast? [] = true by cases d.getLast? <;> rfl, Bool.true_and]
    refine Ev.step (f := fun k => (impl_IsSchema.f k s).bind fun t => if t = true then some (decide ((d.length : Int) ≤ 24)) else some false) (fun k => ?_) ?_
    · simp only [impl_IsDatabase.l0]
      rw [if_neg (end_not _)]
    · refine evb (implSchema_ev s (by omega)) ?_
      refine evc fun k => ?_
      cases mIsSchema s <;> simp
  · intro pre x suf e ih
    have hx : x.f1.length ≤ 1048576 := hd x (by rw [e]; simp)
    rw [List.getLast?_concat] at ih
    rcases List.eq_nil_or_concat pre with h0 | ⟨L, p, h0⟩
    · subst h0
      refine Ev.step (f := fun k => (impl_IsFact.f k s x.f0 x.f1).bind fun t => if t = true then impl_IsDatabase.l0 k d d (d.length : Int) (([] ++ [x] : List S64).length : Int) s else some false) (fun k => ?_) ?_
      · simp only [impl_IsDatabase.l0]
        rw [if_pos (lt_of e), if_pos (len_nonneg _), if_pos (lt_of e), rdIF_of e, nx_of e (by omega)]
        simp
      · refine evb (implIsFact_ev s x.f0 x.f1 (by omega) (by omega)) ?_
        rw [List.getLast?_nil, mDb]
        by_cases c : mIsFact s x.f0 x.f1 = true
        · simp only [c, if_true, Bool.true_and]; exact ih
        · simp only [if_neg c]
          rw [show mIsFact s x.f0 x.f1 = false by simpa using c]
          exact evc fun k => rfl
    · rw [List.concat_eq_append] at h0
      subst h0
      obtain ⟨e1, e2⟩ := rd_last e hl
      have hp : p.f1.length ≤ 1048576 := hd p (by rw [e]; simp)
      refine Ev.step (f := fun k => (impl_IsFact.f k s x.f0 x.f1).bind fun t => if t = true then ((impl_compareFacts.f k p.f0 p.f1 x.f0 x.f1).bind fun u => if u ≥ 0 then some false else impl_IsDatabase.l0 k d d (d.length : Int) ((L ++ [p] ++ [x]).length : Int) s) else some false) (fun k => ?_) ?_
      · simp only [impl_IsDatabase.l0]
        have z0 : ((L ++ [p]).length : Int) > 0 := by simp <;> omega
        have z1 : (L.length : Int) < (d.length : Int) := by rw [e]; simp; omega
        rw [if_pos (lt_of e), if_pos (len_nonneg _), if_pos (lt_of e), rdIF_of e, nx_of e (by omega), e1, e2]
        simp only [if_pos z0, if_pos (len_nonneg L), if_pos z1]
      · refine evb (implIsFact_ev s x.f0 x.f1 (by omega) (by omega)) ?_
        rw [List.getLast?_concat, mDb]
        by_cases c : mIsFact s x.f0 x.f1 = true
        · simp only [c, if_true, Bool.true_and]
          refine evb (cmpF_ev p x (by omega)) ?_
          by_cases c2 : mFLess p x = true
          · have n2 : ¬ mCmpF p x ≥ 0 := by rw [cmpF_less, c2]; simp
            simp only [if_neg n2, c2, Bool.true_and]; exact ih
          · have f2 : mFLess p x = false := by simpa using c2
            simp only [if_pos ((cmpF_less p x).2 f2), f2]
            exact evc fun k => rfl
        · simp only [if_neg c]
          rw [show mIsFact s x.f0 x.f1 = false by simpa using c]
          exact evc fun k => rfl
theorem specIsVar_eq (t : Int) : spec_IsVar.f t = some (mIsVar t) := by
  simp [spec_IsVar.f, l1In_eq, mIsVar]
theorem specConstOf_eq (t : Int) : spec_ConstOf.f t = some (mConstOf t) := by
  unfold spec_ConstOf.f mConstOf
  simp only [l1In_eq, Option.bind_some]
  by_cases h : -80 ≤ t ∧ t ≤ -1
  · simp only [h, and_self, decide_true, if_true]; rw [w64 (by omega) (by omega)]
  · simp only [h, decide_false, Bool.false_eq_true, if_false]
theorem specIsTerm_eq (t : Int) : spec_IsTerm.f t = some (mIsTerm t) := by
  unfold spec_IsTerm.f
  simp only [specIsVar_eq, specConstOf_eq, Option.bind_some]
  unfold mIsVar mIsTerm mConstOf
  by_cases h : 0 ≤ t ∧ t ≤ 19
  · rw [if_pos (by simpa using h)]; congr 1; simp; omega
  · rw [if_neg (by simpa using h)]; congr 1
    by_cases h2 : -80 ≤ t ∧ t ≤ -1
    · rw [if_pos h2, decide_eq_true (by omega), decide_eq_true (by omega)]
    · rw [if_neg h2, decide_eq_false (by omega), decide_eq_false (by omega)]
theorem l3Terms_ev (l : List Int) (h : l.length ≤ 140737488355328) : Ev (fun k => spec_l3Terms.f k l) (l.all mIsTerm && decide ((l.length : Int) ≤ 3)) := by
  refine idx_ind l (fun pre suf => Ev (fun k => spec_l3Terms.l0 k l (pre.length : Int)) (suf.all mIsTerm && decide ((l.length : Int) ≤ 3))) ?_ ?_
  · refine evn fun k => ?_
    simp only [spec_l3Terms.l0]
    rw [if_neg (end_not _)]; rfl
  · intro pre a suf e ih
    by_cases hp : mIsTerm a = true
    · rw [show (a :: suf).all mIsTerm = suf.all mIsTerm by simp [hp]]
      refine Ev.step (fun k => ?_) ih
      simp only [spec_l3Terms.l0]
      rw [if_pos (lt_of e), if_pos (len_nonneg _), rd_of e, specIsTerm_eq, nx_of e h]
      simp [hp]
    · rw [show ((a :: suf).all mIsTerm && decide ((l.length : Int) ≤ 3)) = false by simp [hp]]
      refine evn fun k => ?_
      simp only [spec_l3Terms.l0]
      rw [if_pos (lt_of e), if_pos (len_nonneg _), rd_of e, specIsTerm_eq]
      simp [hp]
theorem implIsTerm_eq (t : Int) : impl_IsTerm.f t = some (mIsTerm t) := by
  simp [impl_IsTerm.f, within_eq, mIsTerm]
theorem areTerms_ev (l : List Int) (h : l.length ≤ 140737488355328) : Ev (fun k => impl_areTerms.f k l) (l.all mIsTerm) := by
  refine idx_ind l (fun pre suf => Ev (fun k => impl_areTerms.l0 k l (l.length : Int) (pre.length : Int)) (suf.all mIsTerm)) ?_ ?_
  · refine evn fun k => ?_
    simp only [impl_areTerms.l0]
    rw [if_neg (end_not _)]; rfl
  · intro pre a suf e ih
    by_cases hp : mIsTerm a = true
    · rw [show (a :: suf).all mIsTerm = suf.all mIsTerm by simp [hp]]
      refine Ev.step (fun k => ?_) ih
      simp only [impl_areTerms.l0]
      rw [if_pos (lt_of e), if_pos (len_nonneg _), if_pos (lt_of e), rd_of e, implIsTerm_eq, nx_of e h]
      simp [hp]
    · rw [show (a :: suf).all mIsTerm = false by simp [hp]]
      refine evn fun k => ?_
      simp only [impl_areTerms.l0]
      rw [if_pos (lt_of e), if_pos (len_nonneg _), if_pos (lt_of e), rd_of e, implIsTerm_eq]
      simp [hp]
theorem implIsAtom_ev (s : List Int) (r : Int) (l : List Int) (hs : s.length ≤ 140737488355328) (h : l.length ≤ 140737488355328) : Ev (fun k => impl_IsAtom.f k s r l) (mIsAtom s r l) := by
  unfold impl_IsAtom.f mIsAtom
  refine evb (implTakes_ev s r _ hs) ?_
  by_cases c : mTakes s r (l.length : Int) = true
  · simp only [c, if_true, Bool.true_and]
    refine evb (areTerms_ev l h) ?_
    exact evc fun k => rfl
  · simp only [if_neg c]
    refine evc fun k => ?_
    rw [show mTakes s r (l.length : Int) = false by simpa using c]
    simp
theorem specIsAtom_ev (s : List Int) (r : Int) (l : List Int) (hs : s.length ≤ 140737488355328) (h : l.length ≤ 140737488355328) : Ev (fun k => spec_IsAtom.f k s r l) (mIsAtom s r l) := by
  unfold spec_IsAtom.f mIsAtom mTakes
  refine evb (specSchema_ev s hs) ?_
  by_cases c1 : mIsSchema s = true
  · simp only [c1, if_true, l1In_eq, Option.bind_some]
    rw [w64 (by omega) (by omega)]
    by_cases c2 : 0 ≤ r ∧ r < (s.length : Int)
    · have c2' : 0 ≤ r ∧ r ≤ (s.length : Int) - 1 := by omega
      rw [show decide (0 ≤ r ∧ r < (s.length : Int)) = true from decide_eq_true c2]
      simp only [c2', and_self, decide_true, if_true, if_pos c2.1, if_pos c2.2]
      by_cases c3 : (l.length : Int) = rd s r
      · simp only [if_pos c3]
        refine evb (l3Terms_ev l h) ?_
        refine evc fun k => ?_
        have hb := mIsSchema_rd c1 c2.1 c2.2
        rw [show decide ((l.length : Int) ≤ 3) = true from decide_eq_true (by omega), show decide (rd s r = (l.length : Int)) = true from decide_eq_true c3.symm]
        simp
      · simp only [if_neg c3]
        refine evc fun k => ?_
        rw [show decide (rd s r = (l.length : Int)) = false from decide_eq_false (fun h => c3 h.symm)]
        simp
    · have c2' : ¬ (0 ≤ r ∧ r ≤ (s.length : Int) - 1) := by omega
      simp only [c2', decide_false, Bool.false_eq_true, if_false]
      refine evc fun k => ?_
      rw [show decide (0 ≤ r ∧ r < (s.length : Int)) = false from decide_eq_false c2]
      simp
  · simp only [if_neg c1]
    refine evc fun k => ?_
    rw [show mIsSchema s = false by simpa using c1]
    simp
theorem l2Has_ev (l : List Int) (t : Int) (h : l.length ≤ 140737488355328) : Ev (fun k => spec_l2Has.f k l t) (decide (t ∈ l)) := by
  refine idx_ind l (fun pre suf => Ev (fun k => spec_l2Has.l0 k l t (pre.length : Int)) (decide (t ∈ suf))) ?_ ?_
  · refine evn fun k => ?_
    simp only [spec_l2Has.l0]
    rw [if_neg (end_not _)]; simp
  · intro pre a suf e ih
    by_cases hc : a = t
    · rw [show decide (t ∈ a :: suf) = true by simp [hc]]
      refine evn fun k => ?_
      simp only [spec_l2Has.l0]
      rw [if_pos (lt_of e), if_pos (len_nonneg _), rd_of e, if_pos hc]
    · rw [show decide (t ∈ a :: suf) = decide (t ∈ suf) by simp [Ne.symm hc]]
      refine Ev.step (fun k => ?_) ih
      simp only [spec_l2Has.l0]
      rw [if_pos (lt_of e), if_pos (len_nonneg _), rd_of e, if_neg hc, nx_of e h]
def mBV (acc : List Int) (args : List Int) : List Int := args.foldl (fun acc t => if t ≥ 0 ∧ ¬ t ∈ acc then acc ++ [t] else acc) acc
theorem mBV_cons (acc : List Int) (t : Int) (r : List Int) : mBV acc (t :: r) = mBV (if t ≥ 0 ∧ ¬ t ∈ acc then acc ++ [t] else acc) r := rfl
theorem mBV_len : ∀ (args acc : List Int), (mBV acc args).length ≤ acc.length + args.length
  | [], acc => by simp [mBV]
  | t :: r, acc => by
    rw [mBV_cons]
    have h := mBV_len r (if t ≥ 0 ∧ ¬ t ∈ acc then acc ++ [t] else acc)
    by_cases hc : t ≥ 0 ∧ ¬ t ∈ acc
    · rw [if_pos hc] at h ⊢; simp at h ⊢; omega
    · rw [if_neg hc] at h ⊢; simp at h ⊢; omega
theorem mBV_mem : ∀ (args acc : List Int) (x : Int), x ∈ mBV acc args ↔ x ∈ acc ∨ (x ≥ 0 ∧ x ∈ args)
  | [], acc, x => by simp [mBV]
  | t :: r, acc, x => by
    rw [mBV_cons, mBV_mem r]
    by_cases hc : t ≥ 0 ∧ ¬ t ∈ acc
    · rw [if_pos hc]
      simp only [List.mem_append, List.mem_cons, List.not_mem_nil, or_false]
      constructor
      · rintro ((h | h) | h)
        · exact .inl h
        · exact .inr ⟨h ▸ hc.1, .inl h⟩
        · exact .inr ⟨h.1, .inr h.2⟩
      · rintro (h | ⟨h1, h | h⟩)
        · exact .inl (.inl h)
        · exact .inl (.inr h)
        · exact .inr ⟨h1, h⟩
    · rw [if_neg hc]
      simp only [List.mem_cons]
      constructor
      · rintro (h | h)
        · exact .inl h
        · exact .inr ⟨h.1, .inr h.2⟩
      · rintro (h | ⟨h1, h | h⟩)
        · exact .inl h
        · subst h
          rcases Decidable.em (x ∈ acc) with hm | hm
          · exact .inl hm
          · exact absurd ⟨h1, hm⟩ hc
        · exact .inr ⟨h1, h⟩
def mVars (d : List S81) (acc : List Int) : List Int := d.foldl (fun acc a => mBV acc a.f1) acc
theorem mVars_mem : ∀ (d : List S81) (acc : List Int) (x : Int), x ∈ mVars d acc ↔ x ∈ acc ∨ (x ≥ 0 ∧ ∃ a ∈ d, x ∈ a.f1)
  | [], acc, x => by simp [mVars]
  | a :: t, acc, x => by
    rw [show mVars (a :: t) acc = mVars t (mBV acc a.f1) from rfl, mVars_mem t, mBV_mem]
    simp only [List.mem_cons, exists_eq_or_imp]
    constructor
    · rintro ((h | h) | h)
      · exact .inl h
      · exact .inr ⟨h.1, .inl h.2⟩
      · exact .inr ⟨h.1, .inr h.2⟩
    · rintro (h | ⟨h1, h | h⟩)
      · exact .inl (.inl h)
      · exact .inl (.inr ⟨h1, h⟩)
      · exact .inr ⟨h1, h⟩
theorem mVars_len : ∀ (d : List S81) (acc : List Int), (∀ x ∈ d, x.f1.length ≤ 1048576) → (mVars d acc).length ≤ acc.length + d.length * 1048576
  | [], acc, _ => by simp [mVars]
  | a :: t, acc, h => by
    rw [show mVars (a :: t) acc = mVars t (mBV acc a.f1) from rfl]
    have h1 := mVars_len t (mBV acc a.f1) (fun x hx => h x (List.mem_cons_of_mem _ hx))
    have h2 := mBV_len a.f1 acc
    have h3 := h a List.mem_cons_self
    simp only [List.length_cons, Nat.add_mul]
    omega
theorem bodyVars_l1 (hh : List Int) (d : List S81) (i : Int) (x : S81) (R : List Int) (h0 : 0 ≤ i) (h1 : i < (d.length : Int)) (hx : rd_T81 d i = x) (hxl : x.f1.length ≤ 1048576) (hi : i ≤ 1048576) :
    ∀ (acc : List Int), acc.length ≤ 1099511627776 → (Ev (fun k => spec_l4BodyVars.l0 k (mBV acc x.f1) (i + 1) hh d) R) → Ev (fun k => spec_l4BodyVars.l1 k acc i 0 hh d) R := by
  intro acc hacc hend
  have key := idx_ind x.f1 (fun pre suf => ∀ a2 : List Int, a2.length + suf.length ≤ 1099512676352 → mBV a2 suf = mBV acc x.f1 → Ev (fun k => spec_l4BodyVars.l1 k a2 i (pre.length : Int) hh d) R) ?_ ?_
  · exact key acc (by omega) rfl
  · intro a2 h2 e2
    have e3 : a2 = mBV acc x.f1 := e2
    rw [e3]
    refine Ev.step (fun k => ?_) hend
    simp only [spec_l4BodyVars.l1]
    rw [if_pos h0, if_pos h1, hx, if_neg (end_not _), w64 (by omega) (by omega)]
  · intro pre t suf e ih a2 h2 e2
    have hp := lt_of e
    rw [mBV_cons] at e2
    have hl2 : a2.length < 17592186044416 := by simp at h2; omega
    by_cases ht : t ≥ 0
    · refine Ev.step (f := fun k => (spec_l2Has.f k a2 t).bind fun b => if b = true then spec_l4BodyVars.l1 k a2 i ((pre ++ [t]).length : Int) hh d else (if a2.length < 17592186044416 then spec_l4BodyVars.l1 k (a2 ++ [t]) i ((pre ++ [t]).length : Int) hh d else none)) (fun k => ?_) ?_
      · simp only [spec_l4BodyVars.l1]
        rw [if_pos h0, if_pos h1, hx, if_pos hp, if_pos (len_nonneg _), rd_of e, if_pos ht, nx_of e (by omega)]
      · refine evb (l2Has_ev a2 t (by omega)) ?_
        by_cases hm : t ∈ a2
        · simp only [hm, decide_true, if_true]
          rw [if_neg (fun h => h.2 hm)] at e2
          exact ih a2 (by simp at h2; omega) e2
        · simp only [hm, decide_false, Bool.false_eq_true, if_false, if_pos hl2]
          rw [if_pos ⟨ht, hm⟩] at e2
          exact ih (a2 ++ [t]) (by simp at h2 ⊢; omega) e2
    · rw [if_neg (fun h => ht h.1)] at e2
      refine Ev.step (fun k => ?_) (ih a2 (by simp at h2; omega) e2)
      simp only [spec_l4BodyVars.l1]
      rw [if_pos h0, if_pos h1, hx, if_pos hp, if_pos (len_nonneg _), rd_of e, if_neg ht, nx_of e (by omega)]
theorem bodyVars_ev (hh : List Int) (d : List S81) (hl : d.length ≤ 1048576) (hs : ∀ x ∈ d, x.f1.length ≤ 1048576) : Ev (fun k => spec_l4BodyVars.f k hh d) (mVars d []) := by
  have key := idx_ind d (fun pre suf => ∀ acc : List Int, acc.length ≤ pre.length * 1048576 → mVars suf acc = mVars d [] → Ev (fun k => spec_l4BodyVars.l0 k acc (pre.length : Int) hh d) (mVars d [])) ?_ ?_
  · exact key [] (by simp) rfl
  · intro acc ha e
    have e2 : acc = mVars d [] := e
    rw [← e2]
    refine evn fun k => ?_
    simp only [spec_l4BodyVars.l0]
    rw [if_neg (end_not _)]
  · intro pre x suf e ih acc ha e2
    have hx : x.f1.length ≤ 1048576 := hs x (by rw [e]; simp)
    have hp : pre.length < 1048576 := by rw [e] at hl; simp at hl; omega
    have hb := mBV_len x.f1 acc
    have r := ih (mBV acc x.f1) (by simp only [List.length_append, List.length_singleton, Nat.add_mul]; omega) e2
    have ei : ((pre ++ [x]).length : Int) = (pre.length : Int) + 1 := by simp
    rw [ei] at r
    refine Ev.step (fun k => ?_) (bodyVars_l1 hh d (pre.length : Int) x (mVars d []) (len_nonneg _) (lt_of e) (rdIA_of e) hx (by omega) acc (by omega) r)
    simp only [spec_l4BodyVars.l0]
    rw [if_pos (lt_of e)]
theorem slContains_ev (l : List Int) (t : Int) (h : l.length ≤ 140737488355328) : Ev (fun k => slices_Contains_int_int.f k l t) (decide (t ∈ l)) := by
  have key : ∃ j : Int, Ev (fun k => slices_Index_int_int.f k l t) j ∧ (j ≥ 0 ↔ t ∈ l) := by
    refine idx_ind l (fun pre suf => ∃ j : Int, Ev (fun k => slices_Index_int_int.l0 k l t (l.length : Int) (pre.length : Int)) j ∧ (j ≥ 0 ↔ t ∈ suf)) ?_ ?_
    · refine ⟨-1, evn fun k => ?_, by simp⟩
      simp only [slices_Index_int_int.l0]
      rw [if_neg (end_not _)]
    · intro pre a suf e ih
      by_cases hc : t = a
      · refine ⟨(pre.length : Int), evn fun k => ?_, by simp [hc]⟩
        simp only [slices_Index_int_int.l0]
        rw [if_pos (lt_of e), if_pos (len_nonneg _), if_pos (lt_of e), rd_of e, if_pos hc]
      · obtain ⟨j, z, hj⟩ := ih
        refine ⟨j, Ev.step (fun k => ?_) z, by rw [hj]; simp [hc]⟩
        simp only [slices_Index_int_int.l0]
        rw [if_pos (lt_of e), if_pos (len_nonneg _), if_pos (lt_of e), rd_of e, if_neg hc, nx_of e h]
  obtain ⟨j, z, hj⟩ := key
  unfold slices_Contains_int_int.f
  refine evb z ?_
  refine evc fun k => ?_
  by_cases hm : t ∈ l
  · rw [decide_eq_true hm, decide_eq_true (hj.2 hm)]
  · rw [decide_eq_false hm, decide_eq_false (fun h => hm (hj.1 h))]
def mOcc (d : List S81) (t : Int) : Bool := d.any (fun a => decide (t ∈ a.f1))
theorem occurs_ev (hh : List Int) (d : List S81) (t : Int) (hl : d.length ≤ 1048576) (hs : ∀ x ∈ d, x.f1.length ≤ 1048576) : Ev (fun k => impl_Query_occurs.f k hh d t) (mOcc d t) := by
  refine idx_ind d (fun pre suf => Ev (fun k => impl_Query_occurs.l0 k t d (d.length : Int) (pre.length : Int)) (mOcc suf t)) ?_ ?_
  · refine evn fun k => ?_
    simp only [impl_Query_occurs.l0]
    rw [if_neg (end_not _)]; rfl
  · intro pre x suf e ih
    have hx : x.f1.length ≤ 1048576 := hs x (by rw [e]; simp)
    refine Ev.step (f := fun k => (slices_Contains_int_int.f k x.f1 t).bind fun b => if b = true then some true else impl_Query_occurs.l0 k t d (d.length : Int) ((pre ++ [x]).length : Int)) (fun k => ?_) ?_
    · simp only [impl_Query_occurs.l0]
      rw [if_pos (lt_of e), if_pos (len_nonneg _), if_pos (lt_of e), rdIA_of e, nx_of e (by omega)]
    · refine evb (slContains_ev x.f1 t (by omega)) ?_
      by_cases hm : t ∈ x.f1
      · simp only [hm, decide_true, if_true]
        rw [show mOcc (x :: suf) t = true by simp [mOcc, hm]]
        exact evc fun k => rfl
      · simp only [hm, decide_false, Bool.false_eq_true, if_false]
        rw [show mOcc (x :: suf) t = mOcc suf t by simp [mOcc, hm]]
        exact ih
theorem mVars_occ (d : List S81) (t : Int) (h : 0 ≤ t) : decide (t ∈ mVars d []) = mOcc d t := by
  rw [Bool.eq_iff_iff]
  simp only [decide_eq_true_eq, mVars_mem, mOcc, List.any_eq_true]
  simp [h]
def mSafe (h : List Int) (d : List S81) : Bool := h.all (fun t => !mIsVar t || mOcc d t)
def mIsQuery (s h : List Int) (d : List S81) : Bool :=
  mIsSchema s && (decide ((h.length : Int) ≤ 3) && h.all mIsTerm) && decide (1 ≤ (d.length : Int) ∧ (d.length : Int) ≤ 4) && d.all (fun a => mIsAtom s a.f0 a.f1) && mSafe h d
theorem implIsVar_eq2 (t : Int) : impl_IsVar.f t = some (mIsVar t) := by
  simp [impl_IsVar.f, within_eq, mIsVar]
theorem isSafe_ev (h : List Int) (d : List S81) (hh : h.length ≤ 1048576) (hl : d.length ≤ 1048576) (hs : ∀ x ∈ d, x.f1.length ≤ 1048576) : Ev (fun k => impl_Query_isSafe.f k h d) (mSafe h d) := by
  refine idx_ind h (fun pre suf => Ev (fun k => impl_Query_isSafe.l0 k h (h.length : Int) (pre.length : Int) h d) (suf.all (fun t => !mIsVar t || mOcc d t))) ?_ ?_
  · refine evn fun k => ?_
    simp only [impl_Query_isSafe.l0]
    rw [if_neg (end_not _)]; rfl
  · intro pre t suf e ih
    by_cases hv : mIsVar t = true
    · refine Ev.step (f := fun k => (impl_Query_occurs.f k h d t).bind fun b => if b = true then impl_Query_isSafe.l0 k h (h.length : Int) ((pre ++ [t]).length : Int) h d else some false) (fun k => ?_) ?_
      · simp only [impl_Query_isSafe.l0]
        rw [if_pos (lt_of e), if_pos (len_nonneg _), if_pos (lt_of e), rd_of e, nx_of e (by omega), implIsVar_eq2]
        simp only [Option.bind_some]
        rw [if_pos hv]
      · refine evb (occurs_ev h d t hl hs) ?_
        by_cases ho : mOcc d t = true
        · simp only [ho, if_true]
          rw [show (t :: suf).all (fun t => !mIsVar t || mOcc d t) = suf.all (fun t => !mIsVar t || mOcc d t) by simp [ho]]
          exact ih
        · simp only [if_neg ho]
          rw [show (t :: suf).all (fun t => !mIsVar t || mOcc d t) = false by simp [hv, ho]]
          exact evc fun k => rfl
    · rw [show (t :: suf).all (fun t => !mIsVar t || mOcc d t) = suf.all (fun t => !mIsVar t || mOcc d t) by simp [hv]]
      refine Ev.step (fun k => ?_) ih
      simp only [impl_Query_isSafe.l0]
      rw [if_pos (lt_of e), if_pos (len_nonneg _), if_pos (lt_of e), rd_of e, nx_of e (by omega), implIsVar_eq2]
      simp only [Option.bind_some]
      rw [if_neg hv]
theorem implIsQuery_ev (s h : List Int) (d : List S81) (hsl : s.length ≤ 1048576) (hh : h.length ≤ 1048576) (hl : d.length ≤ 1048576) (hs : ∀ x ∈ d, x.f1.length ≤ 1048576) : Ev (fun k => impl_IsQuery.f k s h d) (mIsQuery s h d) := by
  unfold impl_IsQuery.f mIsQuery
  have jt : Ev (fun k => impl_IsQuery.j0 k true s h d) false := evn fun k => by simp only [impl_IsQuery.j0]; rw [if_pos trivial]
  refine evb (implSchema_ev s (by omega)) ?_
  by_cases c1 : mIsSchema s = true
  · simp only [c1, if_true, Bool.true_and]
    by_cases c2 : (h.length : Int) > 3
    · simp only [if_pos c2]
      rw [show decide ((h.length : Int) ≤ 3) = false from decide_eq_false (by omega)]
      simpa using jt
    · simp only [if_neg c2]
      rw [show decide ((h.length : Int) ≤ 3) = true from decide_eq_true (by omega)]
      refine evb (areTerms_ev h (by omega)) ?_
      by_cases c3 : h.all mIsTerm = true
      · simp only [c3, if_true, Bool.true_and, within_eq, Option.bind_some]
        by_cases c4 : 1 ≤ (d.length : Int) ∧ (d.length : Int) ≤ 4
        · rw [show decide (1 ≤ (d.length : Int) ∧ (d.length : Int) ≤ 4) = true from decide_eq_true c4]
          simp only [Bool.not_true, Bool.true_and]
          refine Ev.step (f := fun k => impl_IsQuery.l0 k d (d.length : Int) 0 s h d) (fun k => ?_) ?_
          · simp only [impl_IsQuery.j0]
            rw [if_neg (by simp)]
          · refine idx_ind d (fun pre suf => Ev (fun k => impl_IsQuery.l0 k d (d.length : Int) (pre.length : Int) s h d) (suf.all (fun a => mIsAtom s a.f0 a.f1) && mSafe h d)) ?_ ?_
            · refine Ev.step (f := fun k => (impl_Query_isSafe.f k h d).bind fun b => some b) (fun k => ?_) ?_
              · simp only [impl_IsQuery.l0]
                rw [if_neg (end_not _)]
              · exact evb (isSafe_ev h d hh hl hs) (evc fun k => rfl)
            · intro pre x suf e ih
              have hx : x.f1.length ≤ 1048576 := hs x (by rw [e]; simp)
              refine Ev.step (f := fun k => (impl_IsAtom.f k s x.f0 x.f1).bind fun b => if b = true then impl_IsQuery.l0 k d (d.length : Int) ((pre ++ [x]).length : Int) s h d else some false) (fun k => ?_) ?_
              · simp only [impl_IsQuery.l0]
                rw [if_pos (lt_of e), if_pos (len_nonneg _), if_pos (lt_of e), rdIA_of e, nx_of e (by omega)]
              · refine evb (implIsAtom_ev s x.f0 x.f1 (by omega) (by omega)) ?_
                by_cases ha : mIsAtom s x.f0 x.f1 = true
                · simp only [ha, if_true]
                  rw [show ((x :: suf).all (fun a => mIsAtom s a.f0 a.f1)) = suf.all (fun a => mIsAtom s a.f0 a.f1) by simp [ha]]
                  exact ih
                · simp only [if_neg ha]
                  rw [show ((x :: suf).all (fun a => mIsAtom s a.f0 a.f1)) = false by simp [ha]]
                  exact evc fun k => rfl
        · rw [show decide (1 ≤ (d.length : Int) ∧ (d.length : Int) ≤ 4) = false from decide_eq_false c4]
          simpa using jt
      · simp only [if_neg c3]
        rw [show h.all mIsTerm = false by simpa using c3]
        simpa using jt
  · simp only [if_neg c1]
    rw [show mIsSchema s = false by simpa using c1]
    simpa using jt
theorem fine_l1 (h : List Int) (d : List S81) (hh : h.length ≤ 1048576) (hl : d.length ≤ 1048576) (hs : ∀ x ∈ d, x.f1.length ≤ 1048576) : Ev (fun k => spec_l4Fine.l1 k 0 h d) (mSafe h d) := by
  refine idx_ind h (fun pre suf => Ev (fun k => spec_l4Fine.l1 k (pre.length : Int) h d) (suf.all (fun t => !mIsVar t || mOcc d t))) ?_ ?_
  · refine evn fun k => ?_
    simp only [spec_l4Fine.l1]
    rw [if_neg (end_not _)]; rfl
  · intro pre t suf e ih
    by_cases hv : mIsVar t = true
    · have ht : 0 ≤ t := by simp [mIsVar] at hv; omega
      refine Ev.step (f := fun k => (spec_l4BodyVars.f k h d).bind fun v => (spec_l2Has.f k v t).bind fun b => if b = true then spec_l4Fine.l1 k ((pre ++ [t]).length : Int) h d else some false) (fun k => ?_) ?_
      · simp only [spec_l4Fine.l1]
        rw [if_pos (lt_of e), if_pos (len_nonneg _), rd_of e, nx_of e (by omega), specIsVar_eq]
        simp only [Option.bind_some]
        rw [if_pos hv]
      · refine evb (bodyVars_ev h d hl hs) ?_
        have hvl := mVars_len d [] hs
        refine evb (l2Has_ev (mVars d []) t (by simp at hvl; omega)) ?_
        rw [mVars_occ d t ht]
        by_cases ho : mOcc d t = true
        · simp only [ho, if_true]
          rw [show (t :: suf).all (fun t => !mIsVar t || mOcc d t) = suf.all (fun t => !mIsVar t || mOcc d t) by simp [ho]]
          exact ih
        · simp only [if_neg ho]
          rw [show (t :: suf).all (fun t => !mIsVar t || mOcc d t) = false by simp [hv, ho]]
          exact evc fun k => rfl
    · rw [show (t :: suf).all (fun t => !mIsVar t || mOcc d t) = suf.all (fun t => !mIsVar t || mOcc d t) by simp [hv]]
      refine Ev.step (fun k => ?_) ih
      simp only [spec_l4Fine.l1]
      rw [if_pos (lt_of e), if_pos (len_nonneg _), rd_of e, nx_of e (by omega), specIsVar_eq]
      simp only [Option.bind_some]
      rw [if_neg hv]
theorem specIsQuery_ev (s h : List Int) (d : List S81) (hsl : s.length ≤ 1048576) (hh : h.length ≤ 1048576) (hl : d.length ≤ 1048576) (hs : ∀ x ∈ d, x.f1.length ≤ 1048576) : Ev (fun k => spec_IsQuery.f k s h d) (mIsQuery s h d) := by
  unfold spec_IsQuery.f
  refine evb (f := fun _ t => some t) ?_ (evc fun k => rfl)
  unfold spec_l4Fine.f mIsQuery
  have jt : Ev (fun k => spec_l4Fine.j0 k true s h d) false := evn fun k => by simp only [spec_l4Fine.j0]; rw [if_pos trivial]
  refine evb (specSchema_ev s (by omega)) ?_
  by_cases c1 : mIsSchema s = true
  · simp only [c1, if_true, Bool.true_and]
    refine evb (l3Terms_ev h (by omega)) ?_
    by_cases c3 : (h.all mIsTerm && decide ((h.length : Int) ≤ 3)) = true
    · rw [show (decide ((h.length : Int) ≤ 3) && h.all mIsTerm) = true by rw [Bool.and_comm]; exact c3]
      simp only [c3, if_true, Bool.true_and, l1In_eq, Option.bind_some]
      by_cases c4 : 1 ≤ (d.length : Int) ∧ (d.length : Int) ≤ 4
      · rw [show decide (1 ≤ (d.length : Int) ∧ (d.length : Int) ≤ 4) = true from decide_eq_true c4]
        simp only [Bool.not_true, Bool.true_and]
        refine Ev.step (f := fun k => spec_l4Fine.l0 k 0 s h d) (fun k => ?_) ?_
        · simp only [spec_l4Fine.j0]
          rw [if_neg (by simp)]
        · refine idx_ind d (fun pre suf => Ev (fun k => spec_l4Fine.l0 k (pre.length : Int) s h d) (suf.all (fun a => mIsAtom s a.f0 a.f1) && mSafe h d)) ?_ ?_
          · refine Ev.step (fun k => ?_) (fine_l1 h d hh hl hs)
            simp only [spec_l4Fine.l0]
            rw [if_neg (end_not _)]
          · intro pre x suf e ih
            have hx : x.f1.length ≤ 1048576 := hs x (by rw [e]; simp)
            refine Ev.step (f := fun k => (spec_IsAtom.f k s x.f0 x.f1).bind fun b => if b = true then spec_l4Fine.l0 k ((pre ++ [x]).length : Int) s h d else some false) (fun k => ?_) ?_
            · simp only [spec_l4Fine.l0]
              rw [if_pos (lt_of e), if_pos (len_nonneg _), rdIA_of e, nx_of e (by omega)]
            · refine evb (specIsAtom_ev s x.f0 x.f1 (by omega) (by omega)) ?_
              by_cases ha : mIsAtom s x.f0 x.f1 = true
              · simp only [ha, if_true]
                rw [show ((x :: suf).all (fun a => mIsAtom s a.f0 a.f1)) = suf.all (fun a => mIsAtom s a.f0 a.f1) by simp [ha]]
                exact ih
              · simp only [if_neg ha]
                rw [show ((x :: suf).all (fun a => mIsAtom s a.f0 a.f1)) = false by simp [ha]]
                exact evc fun k => rfl
      · rw [show decide (1 ≤ (d.length : Int) ∧ (d.length : Int) ≤ 4) = false from decide_eq_false c4]
        simpa using jt
    · rw [show (decide ((h.length : Int) ≤ 3) && h.all mIsTerm) = false by rw [Bool.and_comm]; simpa using c3]
      simp only [if_neg c3]
      simpa using jt
  · simp only [if_neg c1]
    rw [show mIsSchema s = false by simpa using c1]
    simpa using jt
theorem l2Ints_ev (l m : List Int) (h : l.length ≤ 140737488355328) : Ev (fun k => spec_l2Ints.f k l m) (decide (l = m)) := by
  by_cases hl : l.length = m.length
  · have key := idx_ind l (fun pre suf => ∀ pre2 suf2, m = pre2 ++ suf2 → pre2.length = pre.length → Ev (fun k => spec_l2Ints.l0 k l m (pre.length : Int)) (decide (suf = suf2))) ?_ ?_
    · have r := key [] m rfl rfl
      refine Ev.congr (fun k => ?_) r
      unfold spec_l2Ints.f
      rw [if_pos (by omega)]
      rfl
    · intro pre2 suf2 e2 hp
      have : suf2 = [] := by
        have := congrArg List.length e2
        simp at this
        exact List.eq_nil_of_length_eq_zero (by omega)
      subst this
      refine evn fun k => ?_
      simp only [spec_l2Ints.l0]
      rw [if_neg (end_not _)]; simp
    · intro pre a suf e ih pre2 suf2 e2 hp
      obtain ⟨b, t2, rfl⟩ : ∃ b t2, suf2 = b :: t2 := by
        cases suf2 with
        | nil => exfalso; have h1 := congrArg List.length e; have h2 := congrArg List.length e2; simp at h1 h2; omega
        | cons b t2 => exact ⟨b, t2, rfl⟩
      have r2 : rd m (pre.length : Int) = b := by rw [← hp]; exact rd_of e2
      have l2 : (pre.length : Int) < (m.length : Int) := by rw [← hp]; exact lt_of e2
      by_cases hab : a = b
      · subst hab
        have r := ih (pre2 ++ [a]) t2 (by rw [e2]; simp) (by simp [hp])
        have ed : decide (a :: suf = a :: t2) = decide (suf = t2) := by simp
        rw [ed]
        refine Ev.step (fun k => ?_) r
        simp only [spec_l2Ints.l0]
        rw [if_pos (lt_of e), if_pos (len_nonneg _), if_pos l2, rd_of e, r2, if_pos rfl, nx_of e h]
      · have ed : decide (a :: suf = b :: t2) = false := by simp [hab]
        rw [ed]
        refine evn fun k => ?_
        simp only [spec_l2Ints.l0]
        rw [if_pos (lt_of e), if_pos (len_nonneg _), if_pos l2, rd_of e, r2, if_neg hab]
  · have e : decide (l = m) = false := by simp; intro h; exact hl (by rw [h])
    rw [e]
    refine evc fun k => ?_
    unfold spec_l2Ints.f
    rw [if_neg (by omega)]
theorem m6Less_irr : ∀ a : List Int, mLess a a = false
  | [] => rfl
  | a :: s => by rw [mLess, if_pos rfl]; exact m6Less_irr s
theorem mLess_trans : ∀ a b c : List Int, mLess a b = true → mLess b c = true → mLess a c = true
  | [], [], _, h, _ => by simp [mLess] at h
  | _ :: _, [], _, h, _ => by simp [mLess] at h
  | _, _ :: _, [], _, h => by simp [mLess] at h
  | [], _ :: _, _ :: _, _, _ => rfl
  | a :: s, b :: t, c :: u, h1, h2 => by
    unfold mLess at h1 h2 ⊢
    by_cases e1 : a = b
    · rw [if_pos e1] at h1
      by_cases e2 : b = c
      · rw [if_pos e2] at h2
        rw [if_pos (e1.trans e2)]; exact mLess_trans s t u h1 h2
      · rw [if_neg e2] at h2
        rw [if_neg (by rw [e1]; exact e2), e1]; exact h2
    · rw [if_neg e1] at h1
      have l1 : a < b := by simpa using h1
      by_cases e2 : b = c
      · rw [if_neg (by omega)]; simp; omega
      · rw [if_neg e2] at h2
        have l2 : b < c := by simpa using h2
        rw [if_neg (by omega)]; simp; omega
theorem m6Less_tot : ∀ a b : List Int, mLess a b = false → a = b ∨ mLess b a = true
  | [], [], _ => .inl rfl
  | [], _ :: _, h => by simp [mLess] at h
  | _ :: _, [], _ => .inr rfl
  | a :: s, b :: t, h => by
    unfold mLess at h ⊢
    by_cases e : a = b
    · rw [if_pos e] at h; rw [if_pos e.symm]
      rcases m6Less_tot s t h with r | r
      · exact .inl (by rw [e, r])
      · exact .inr r
    · rw [if_neg e] at h; rw [if_neg (fun h => e h.symm)]
      have : ¬ a < b := by simpa using h
      right; simp; omega
def mPos (x : List Int) (o : List (List Int)) : Nat → Nat
  | 0 => 0
  | k + 1 => if mLess x (o.getD k []) = true then mPos x o k else k + 1
def mIns (once : Bool) (o : List (List Int)) (x : List Int) : List (List Int) :=
  if once = true ∧ 0 < mPos x o o.length ∧ o.getD (mPos x o o.length - 1) [] = x then o else o.take (mPos x o o.length) ++ x :: o.drop (mPos x o o.length)
def mSort (once : Bool) (l : List (List Int)) : List (List Int) := l.foldl (mIns once) []
theorem pos_le (x : List Int) (o : List (List Int)) : ∀ k, mPos x o k ≤ k
  | 0 => Nat.le_refl _
  | k + 1 => by
    unfold mPos
    by_cases h : mLess x (o.getD k []) = true
    · rw [if_pos h]; exact Nat.le_succ_of_le (pos_le x o k)
    · rw [if_neg h]; exact Nat.le_refl _
theorem pos_after (x : List Int) (o : List (List Int)) : ∀ k j, mPos x o k ≤ j → j < k → mLess x (o.getD j []) = true
  | 0, _, _, h => by omega
  | k + 1, j, h1, h2 => by
    unfold mPos at h1
    by_cases h : mLess x (o.getD k []) = true
    · rw [if_pos h] at h1
      by_cases e : j = k
      · rw [e]; exact h
      · exact pos_after x o k j h1 (by omega)
    · rw [if_neg h] at h1; omega
theorem pos_before (x : List Int) (o : List (List Int)) : ∀ k, 0 < mPos x o k → mLess x (o.getD (mPos x o k - 1) []) = false
  | 0, h => by simp [mPos] at h
  | k + 1, h1 => by
    unfold mPos at h1 ⊢
    by_cases h : mLess x (o.getD k []) = true
    · rw [if_pos h] at h1 ⊢; exact pos_before x o k h1
    · rw [if_neg h]; simpa using h
def Asc (o : List (List Int)) : Prop := o.Pairwise (fun a b => mLess a b = true)
theorem mem_getD {o : List (List Int)} {j : Nat} (h : j < o.length) : o.getD j [] ∈ o := by
  rw [List.getD_eq_getElem?_getD, List.getElem?_eq_getElem h]; exact List.getElem_mem h
theorem mem_drop_ix {o : List (List Int)} {p : Nat} {b : List Int} (h : b ∈ o.drop p) : ∃ j, p ≤ j ∧ j < o.length ∧ o.getD j [] = b := by
  obtain ⟨i, hi, rfl⟩ := List.mem_iff_getElem.1 h
  have hi' : p + i < o.length := by simp at hi; omega
  exact ⟨p + i, by omega, hi', by rw [List.getD_eq_getElem?_getD, List.getElem?_eq_getElem hi']; simp⟩
theorem ins_mem (once : Bool) (o : List (List Int)) (x y : List Int) : y ∈ mIns once o x ↔ y ∈ o ∨ y = x := by
  have hp := pos_le x o o.length
  unfold mIns
  by_cases c : once = true ∧ 0 < mPos x o o.length ∧ o.getD (mPos x o o.length - 1) [] = x
  · rw [if_pos c]
    constructor
    · exact .inl
    · rintro (h | h)
      · exact h
      · rw [h, ← c.2.2]; exact mem_getD (by omega)
  · rw [if_neg c]
    have e : ∀ p, (y ∈ o ↔ y ∈ o.take p ∨ y ∈ o.drop p) := fun p => by
      conv => lhs; rw [← List.take_append_drop p o]
      exact List.mem_append
    rw [e (mPos x o o.length), List.mem_append, List.mem_cons]
    constructor
    · rintro (h | h | h)
      · exact .inl (.inl h)
      · exact .inr h
      · exact .inl (.inr h)
    · rintro ((h | h) | h)
      · exact .inl h
      · exact .inr (.inr h)
      · exact .inr (.inl h)
theorem ins_asc (o : List (List Int)) (x : List Int) (h : Asc o) : Asc (mIns true o x) := by
  have hp := pos_le x o o.length
  unfold mIns
  by_cases c : true = true ∧ 0 < mPos x o o.length ∧ o.getD (mPos x o o.length - 1) [] = x
  · rw [if_pos c]; exact h
  · rw [if_neg c]
    have hB : ∀ b ∈ o.drop (mPos x o o.length), mLess x b = true := by
      intro b hb
      obtain ⟨j, h1, h2, rfl⟩ := mem_drop_ix hb
      exact pos_after x o o.length j h1 h2
    have hs : Asc (o.take (mPos x o o.length) ++ o.drop (mPos x o o.length)) := by rw [List.take_append_drop]; exact h
    unfold Asc at hs ⊢
    obtain ⟨pA, pB, pAB⟩ := List.pairwise_append.1 hs
    have hA : ∀ a ∈ o.take (mPos x o o.length), mLess a x = true := by
      by_cases z : 0 < mPos x o o.length
      · have hb := pos_before x o o.length z
        obtain ⟨q, hq⟩ : ∃ q, mPos x o o.length = q + 1 := ⟨_, (Nat.succ_pred_eq_of_pos z).symm⟩
        rw [hq] at hb c hp pA ⊢
        simp only [Nat.add_sub_cancel] at hb c
        have hql : q < o.length := by omega
        have hl : mLess (o.getD q []) x = true := by
          rcases m6Less_tot _ _ hb with r | r
          · exact absurd ⟨trivial, Nat.succ_pos _, r.symm⟩ c
          · exact r
        have et : o.take (q + 1) = o.take q ++ [o.getD q []] := by
          rw [List.take_add_one, List.getElem?_eq_getElem hql, List.getD_eq_getElem?_getD, List.getElem?_eq_getElem hql]; rfl
        rw [et] at pA ⊢
        obtain ⟨_, _, pl⟩ := List.pairwise_append.1 pA
        intro a ha
        rcases List.mem_append.1 ha with r | r
        · exact mLess_trans _ _ _ (pl a r _ (by simp)) hl
        · rw [List.mem_singleton.1 r]; exact hl
      · have : mPos x o o.length = 0 := by omega
        rw [this]; simp
    refine List.pairwise_append.2 ⟨pA, List.pairwise_cons.2 ⟨hB, pB⟩, ?_⟩
    intro a ha b hb
    rcases List.mem_cons.1 hb with r | r
    · rw [r]; exact hA a ha
    · exact pAB a ha b r
theorem sort_mem (once : Bool) : ∀ (l o : List (List Int)) (y : List Int), y ∈ l.foldl (mIns once) o ↔ y ∈ o ∨ y ∈ l
  | [], o, y => by simp
  | x :: l, o, y => by
    rw [List.foldl_cons, sort_mem once l, ins_mem, List.mem_cons, or_assoc]
theorem sort_asc : ∀ (l o : List (List Int)), Asc o → Asc (l.foldl (mIns true) o)
  | [], _, h => h
  | x :: l, o, h => sort_asc l _ (ins_asc o x h)
theorem asc_ext : ∀ a b : List (List Int), Asc a → Asc b → (∀ x, x ∈ a ↔ x ∈ b) → a = b
  | [], [], _, _, _ => rfl
  | [], y :: t, _, _, h => by have := (h y).2 (by simp); simp at this
  | x :: s, [], _, _, h => by have := (h x).1 (by simp); simp at this
  | x :: s, y :: t, ha, hb, h => by
    unfold Asc at ha hb
    obtain ⟨a1, a2⟩ := List.pairwise_cons.1 ha
    obtain ⟨b1, b2⟩ := List.pairwise_cons.1 hb
    have exy : x = y := by
      rcases List.mem_cons.1 ((h x).1 (by simp)) with r | r
      · exact r
      · rcases List.mem_cons.1 ((h y).2 (by simp)) with q | q
        · exact q.symm
        · have := mLess_trans _ _ _ (a1 y q) (b1 x r)
          rw [m6Less_irr] at this; cases this
    subst exy
    have irr : ∀ z, mLess x z = true → z ≠ x := fun z hz e => by rw [e, m6Less_irr] at hz; cases hz
    rw [asc_ext s t a2 b2 (fun z => ?_)]
    constructor
    · intro hz
      rcases List.mem_cons.1 ((h z).1 (List.mem_cons_of_mem _ hz)) with r | r
      · exact absurd r (irr z (a1 z hz))
      · exact r
    · intro hz
      rcases List.mem_cons.1 ((h z).2 (List.mem_cons_of_mem _ hz)) with r | r
      · exact absurd r (irr z (b1 z hz))
      · exact r
theorem ins_len (once : Bool) (o : List (List Int)) (x : List Int) : (mIns once o x).length ≤ o.length + 1 := by
  have hp := pos_le x o o.length
  unfold mIns
  by_cases c : once = true ∧ 0 < mPos x o o.length ∧ o.getD (mPos x o o.length - 1) [] = x
  · rw [if_pos c]; omega
  · rw [if_neg c]; simp; omega
theorem rdD (o : List (List Int)) (k : Nat) : rd_L1 o (k : Int) = o.getD k [] := by simp [rd_L1]
theorem sort6_l3 (l : List (List Int)) (once : Bool) (o : List (List Int)) (i : Int) (acc : List (List Int)) (p : Nat) (hp : p ≤ o.length) (ho : o.length ≤ 10000000000) (ha : acc.length ≤ 10000000000) {r : List (List Int)}
    (h : Ev (fun k => spec_l6Sort.l0 k l once (acc ++ o.drop p) (wrap64 (i + 1))) r) : Ev (fun k => spec_l6Sort.l3 k l once o i acc (p : Int)) r := by
  have key := idx_ind (o.drop p) (fun pre suf => Ev (fun k => spec_l6Sort.l3 k l once o i (acc ++ pre) ((p + pre.length : Nat) : Int)) r) ?_ ?_
  · simpa using key
  · refine Ev.step (fun k => spec_l6Sort.l3.eq_2 ..) ?_
    have hn : ¬ (((p + (o.drop p).length : Nat) : Int) < (o.length : Int)) := by simp; omega
    simp only [if_neg hn]
    exact h
  · intro pre a suf e ih
    have hl : p + pre.length < o.length := by have := congrArg List.length e; simp at this; omega
    have hr : rd_L1 o ((p + pre.length : Nat) : Int) = a := by
      rw [rdD, List.getD_eq_getElem?_getD]
      have : (o.drop p)[pre.length]? = some a := by rw [e]; simp
      rw [List.getElem?_drop] at this
      rw [this]; rfl
    have h1 : ((p + pre.length : Nat) : Int) < (o.length : Int) := by omega
    have h2 : (0 : Int) ≤ ((p + pre.length : Nat) : Int) := by omega
    have h3 : (acc ++ pre).length < 5864062014805 := by simp; omega
    have h4 : wrap64 (((p + pre.length : Nat) : Int) + 1) = ((p + (pre ++ [a]).length : Nat) : Int) := by rw [w64 (by omega) (by omega)]; simp; omega
    refine Ev.step (fun k => spec_l6Sort.l3.eq_2 ..) ?_
    simp only [if_pos h1, if_pos h2, if_pos h3, hr, h4]
    rw [List.append_assoc]
    exact ih
theorem sort6_l2 (l : List (List Int)) (once : Bool) (o : List (List Int)) (i : Nat) (x : List Int) (p : Nat) (hp : p ≤ o.length) (ho : o.length ≤ 1000000000) (hi : i < l.length) (hx : l.getD i [] = x) (hxl : x.length ≤ 10000000000) {r : List (List Int)}
    (h : Ev (fun k => spec_l6Sort.l0 k l once (o.take p ++ x :: o.drop p) (wrap64 ((i : Int) + 1))) r) : Ev (fun k => spec_l6Sort.l2 k l once o (i : Int) (p : Int) [] 0) r := by
  have key := idx_ind (o.take p) (fun pre suf => Ev (fun k => spec_l6Sort.l2 k l once o (i : Int) (p : Int) pre (pre.length : Int)) r) ?_ ?_
  · exact key
  · refine Ev.step (fun k => spec_l6Sort.l2.eq_2 ..) ?_
    have hn : ¬ (((o.take p).length : Int) < (p : Int)) := by simp; omega
    have h2 : (0 : Int) ≤ (i : Int) := by omega
    have h1 : (i : Int) < (l.length : Int) := by omega
    have h3 : ([] : List Int).length + x.length < 17592186044416 := by simp; omega
    have h4 : (o.take p).length < 5864062014805 := by simp; omega
    have hr : rd_L1 l (i : Int) = x := by rw [rdD]; exact hx
    simp only [if_neg hn, Option.bind_some, if_pos h2, if_pos h1, hr, if_pos h3, if_pos h4]
    refine sort6_l3 l once o _ _ p hp (by omega) (by simp; omega) ?_
    simpa using h
  · intro pre a suf e ih
    have hl : pre.length < p := by have := congrArg List.length e; simp at this; omega
    have hr : rd_L1 o (pre.length : Int) = a := by
      rw [rdD, List.getD_eq_getElem?_getD]
      have : (o.take p)[pre.length]? = some a := by rw [e]; simp
      rw [List.getElem?_take, if_pos hl] at this
      rw [this]; rfl
    have h1 : (pre.length : Int) < (p : Int) := by omega
    have h2 : (pre.length : Int) < (o.length : Int) := by omega
    have h3 : pre.length < 5864062014805 := by omega
    refine Ev.step (fun k => spec_l6Sort.l2.eq_2 ..) ?_
    simp only [if_pos h1, if_pos (len_nonneg _), if_pos h2, if_pos h3, hr, iw (a := a) (show pre.length ≤ 140737488355328 by omega)]
    exact ih
theorem sort6_step (l : List (List Int)) (once : Bool) (o : List (List Int)) (i : Nat) (x : List Int) (ho : o.length ≤ 1000000000) (hi : i < l.length) (hx : l.getD i [] = x) (hxl : x.length ≤ 10000000000) (hos : ∀ y ∈ o, y.length ≤ 10000000000) {r : List (List Int)}
    (h : Ev (fun k => spec_l6Sort.l0 k l once (mIns once o x) (wrap64 ((i : Int) + 1))) r) : ∀ p, p ≤ o.length → mPos x o p = mPos x o o.length → Ev (fun k => spec_l6Sort.l1 k l once o (i : Int) (p : Int)) r := by
  have hr : rd_L1 l (i : Int) = x := by rw [rdD]; exact hx
  have hi0 : (0 : Int) ≤ (i : Int) := by omega
  have hi1 : (i : Int) < (l.length : Int) := by omega
  have j3f : (once = true ∧ 0 < mPos x o o.length ∧ o.getD (mPos x o o.length - 1) [] = x → False) → Ev (fun k => spec_l6Sort.j3 k l once o (i : Int) (mPos x o o.length : Int) false) r := by
    intro c
    refine Ev.step (fun k => spec_l6Sort.j3.eq_2 ..) ?_
    simp only [Bool.false_eq_true, if_false]
    refine sort6_l2 l once o i x _ (pos_le x o _) ho hi hx hxl ?_
    have e : mIns once o x = o.take (mPos x o o.length) ++ x :: o.drop (mPos x o o.length) := by unfold mIns; rw [if_neg c]
    rw [e] at h; exact h
  have j2 : Ev (fun k => spec_l6Sort.j2 k l once o (i : Int) (mPos x o o.length : Int)) r := by
    have hp := pos_le x o o.length
    refine Ev.step (fun k => spec_l6Sort.j2.eq_2 ..) ?_
    cases once with
    | false => simp only [Bool.false_eq_true, if_false]; exact j3f (fun c => by cases c.1)
    | true =>
      simp only [if_true]
      by_cases z : 0 < mPos x o o.length
      · have z1 : ((mPos x o o.length : Nat) : Int) > 0 := by omega
        have ew : wrap64 (((mPos x o o.length : Nat) : Int) - 1) = ((mPos x o o.length - 1 : Nat) : Int) := by rw [w64 (by omega) (by omega)]; omega
        have z2 : (0 : Int) ≤ ((mPos x o o.length - 1 : Nat) : Int) := by omega
        have z3 : ((mPos x o o.length - 1 : Nat) : Int) < (o.length : Int) := by omega
        simp only [if_pos z1, ew, if_pos z2, if_pos z3, if_pos hi0, if_pos hi1, hr, rdD]
        refine evb (l2Ints_ev _ _ (by have := hos _ (mem_getD (o := o) (j := mPos x o o.length - 1) (by omega)); omega)) ?_
        by_cases e : o.getD (mPos x o o.length - 1) [] = x
        · rw [decide_eq_true e]
          refine Ev.step (fun k => spec_l6Sort.j3.eq_2 ..) ?_
          simp only [if_true]
          have e : mIns true o x = o := by unfold mIns; rw [if_pos ⟨rfl, z, e⟩]
          rw [e] at h; exact h
        · rw [decide_eq_false e]
          exact j3f (fun c => e c.2.2)
      · have z1 : ¬ ((mPos x o o.length : Nat) : Int) > 0 := by omega
        simp only [if_neg z1]
        exact j3f (fun c => z c.2.1)
  intro p
  induction p with
  | zero =>
    intro _ e
    refine Ev.step (fun k => spec_l6Sort.l1.eq_2 ..) ?_
    have hn : ¬ (((0 : Nat) : Int) > 0) := by omega
    simp only [if_neg hn]
    rw [← e] at j2
    exact j2
  | succ p ih =>
    intro hp e
    refine Ev.step (fun k => spec_l6Sort.l1.eq_2 ..) ?_
    have z1 : ((p + 1 : Nat) : Int) > 0 := by omega
    have ew : wrap64 (((p + 1 : Nat) : Int) - 1) = (p : Int) := by rw [w64 (by omega) (by omega)]; omega
    have z2 : (0 : Int) ≤ (p : Int) := by omega
    have z3 : (p : Int) < (o.length : Int) := by omega
    simp only [if_pos z1, ew, if_pos z2, if_pos z3, if_pos hi0, if_pos hi1, hr, rdD]
    refine evb (l2Less_ev _ _ (by omega)) ?_
    by_cases c : mLess x (o.getD p []) = true
    · simp only [if_pos c]
      exact ih (by omega) (by rw [← e, mPos, if_pos c])
    · simp only [if_neg c]
      have : mPos x o (p + 1) = p + 1 := by rw [mPos, if_neg c]
      rw [this] at e
      rw [e]; exact j2
theorem l6Sort_ev (l : List (List Int)) (once : Bool) (hl : l.length ≤ 10000000) (hs : ∀ x ∈ l, x.length ≤ 10000000000) : Ev (fun k => spec_l6Sort.f k l once) (mSort once l) := by
  have key := idx_ind l (fun pre suf => ∀ o, o.length ≤ pre.length → (∀ y ∈ o, y ∈ l) → Ev (fun k => spec_l6Sort.l0 k l once o (pre.length : Int)) (suf.foldl (mIns once) o)) ?_ ?_
  · exact key [] (Nat.le_refl _) (by simp)
  · intro o _ _
    refine evn fun k => ?_
    simp only [spec_l6Sort.l0]
    rw [if_neg (end_not _)]; rfl
  · intro pre x suf e ih o ho hm
    have hpl : pre.length < l.length := by rw [e]; simp
    refine Ev.step (fun k => spec_l6Sort.l0.eq_2 ..) ?_
    simp only [if_pos (lt_of e)]
    have r := ih (mIns once o x) (by have := ins_len once o x; simp; omega) (fun y hy => by
      rcases (ins_mem once o x y).1 hy with h | h
      · exact hm y h
      · rw [h, e]; simp)
    rw [← nx_of e (show l.length ≤ 140737488355328 by omega)] at r
    exact sort6_step l once o pre.length x (by omega) hpl (by rw [e]; simp) (hs x (by rw [e]; simp)) (fun y hy => hs y (hm y hy)) r o.length (Nat.le_refl _) rfl
theorem sort_len (once : Bool) : ∀ (l o : List (List Int)), (l.foldl (mIns once) o).length ≤ o.length + l.length
  | [], o => by simp
  | x :: l, o => by have a := sort_len once l (mIns once o x); have b := ins_len once o x; simp; omega
def mBind : List Int → List Int → List Int → List Int × Bool
  | [], _, b => (b, true)
  | _ :: _, [], b => (b, false)
  | t :: ts, v :: vs, b =>
    if t < 0 then (if -1 - t = v then mBind ts vs b else (b, false))
    else if rd b (20 + t) = 0 then mBind ts vs ((b.set t.toNat v).set (20 + t).toNat 1)
    else if rd b t = v then mBind ts vs b else (b, false)
theorem mBind_len : ∀ (ts vs b : List Int), (mBind ts vs b).1.length = b.length
  | [], _, b => rfl
  | _ :: _, [], b => rfl
  | t :: ts, v :: vs, b => by
    unfold mBind
    split
    · split
      · exact mBind_len ts vs b
      · rfl
    · split
      · rw [mBind_len ts vs]; simp
      · split
        · exact mBind_len ts vs b
        · rfl
def okA (l : List Int) : Prop := ∀ t ∈ l, -1000000 ≤ t ∧ t < 20
theorem rdN (l : List Int) (n : Nat) : rd l (n : Int) = l.getD n 0 := by simp [rd]
theorem rd_set (l : List Int) (i j : Nat) (v : Int) (hi : i < l.length) : rd (l.set i v) (j : Int) = if j = i then v else rd l (j : Int) := by
  rw [rdN, rdN, List.getD_eq_getElem?_getD, List.getD_eq_getElem?_getD]
  by_cases h : j = i
  · subst h; rw [if_pos rfl, List.getElem?_set_self hi]; rfl
  · rw [if_neg h, List.getElem?_set_ne (Ne.symm h)]
theorem l6Bind_l0 (vals0 args0 : List Int) (hl : args0.length ≤ 1048576) (hv : args0.length = vals0.length) : ∀ (ts pre vs pre2 b : List Int), args0 = pre ++ ts → vals0 = pre2 ++ vs → pre.length = pre2.length → b.length = 40 → okA ts →
    Ev (fun k => spec_l6Bind.l0 k args0 vals0 b (pre.length : Int)) (mBind ts vs b)
  | [], pre, vs, pre2, b, e1, e2, hp, hb, ho => by
    refine Ev.step (fun k => spec_l6Bind.l0.eq_2 ..) ?_
    have hpl : pre.length = args0.length := by rw [e1]; simp
    simp only [if_neg (show ¬ (pre.length : Int) < (args0.length : Int) by omega)]
    exact evc fun k => rfl
  | t :: ts, pre, [], pre2, b, e1, e2, hp, hb, ho => by
    have h1 := congrArg List.length e1
    have h2 := congrArg List.length e2
    simp at h1 h2
    omega
  | t :: ts, pre, v :: vs, pre2, b, e1, e2, hp, hb, ho => by
    have ht := ho t List.mem_cons_self
    have hx : rd args0 (pre.length : Int) = t := rd_of e1
    have hy : rd vals0 (pre.length : Int) = v := by rw [hp]; exact rd_of e2
    have hlt : (pre.length : Int) < (args0.length : Int) := lt_of e1
    have hlt2 : (pre.length : Int) < (vals0.length : Int) := by omega
    have ih := fun b' hb' => l6Bind_l0 vals0 args0 hl hv ts (pre ++ [t]) vs (pre2 ++ [v]) b' (by rw [e1]; simp) (by rw [e2]; simp) (by simp [hp]) hb' (fun x hx => ho x (List.mem_cons_of_mem _ hx))
    have hnx : wrap64 ((pre.length : Int) + 1) = ((pre ++ [t]).length : Int) := by rw [w64 (by omega) (by omega)]; simp
    refine Ev.step (fun k => spec_l6Bind.l0.eq_2 ..) ?_
    simp only [if_pos hlt, if_pos (len_nonneg _), hx, hy, if_pos hlt2, hnx]
    unfold mBind
    by_cases c : t < 0
    · have hw : wrap64 (-1 - t) = -1 - t := w64 (by omega) (by omega)
      simp only [if_pos c, hw]
      by_cases d : -1 - t = v
      · simp only [if_pos d]; exact ih b hb
      · simp only [if_neg d]; exact evc fun k => rfl
    · have hw : wrap64 (20 + t) = 20 + t := w64 (by omega) (by omega)
      simp only [if_neg c, hw, if_pos (show 0 ≤ 20 + t by omega), if_pos (show 20 + t < (b.length : Int) by omega), if_pos (show 0 ≤ t by omega), if_pos (show t < (b.length : Int) by omega)]
      by_cases d : rd b (20 + t) = 0
      · simp only [if_pos d]; exact ih _ (by simpa using hb)
      · simp only [if_neg d]
        by_cases e : rd b t = v
        · simp only [if_pos e]; exact ih b hb
        · simp only [if_neg e]; exact evc fun k => rfl
theorem l6Bind_ev (ts vs b : List Int) (hl : ts.length ≤ 1048576) (hv : ts.length = vs.length) (hb : b.length = 40) (ho : okA ts) : Ev (fun k => spec_l6Bind.f k ts vs b) (mBind ts vs b) := by
  unfold spec_l6Bind.f
  simp only [Option.bind_some, List.length_nil, List.nil_append, if_pos (show 0 + b.length < 17592186044416 by omega)]
  exact l6Bind_l0 vs ts hl hv ts [] vs [] b rfl rfl rfl hb ho
def mMatch (a : S81) (f : S64) (b : List Int) : List Int × Bool := if a.f0 = f.f0 ∧ a.f1.length = f.f1.length then mBind a.f1 f.f1 b else (b, false)
theorem mMatch_len (a : S81) (f : S64) (b : List Int) : (mMatch a f b).1.length = b.length := by
  unfold mMatch
  split
  · exact mBind_len _ _ _
  · rfl
def mDfs (db : List S64) : List S81 → List Int → List (List Int)
  | [], b => [b]
  | a :: ats, b => db.flatMap fun f => if (mMatch a f b).2 = true then mDfs db ats (mMatch a f b).1 else []
theorem mDfs_mem_len (db : List S64) : ∀ (ats : List S81) (b r : List Int), r ∈ mDfs db ats b → r.length = b.length
  | [], b, r, h => by rw [List.mem_singleton.1 h]
  | a :: ats, b, r, h => by
    obtain ⟨f, _, hr⟩ := List.mem_flatMap.1 h
    split at hr
    · rw [mDfs_mem_len db ats _ r hr, mMatch_len]
    · cases hr
theorem flat_len {α β : Type} (f : α → List β) (n : Nat) : ∀ l : List α, (∀ x ∈ l, (f x).length ≤ n) → (l.flatMap f).length ≤ l.length * n
  | [], _ => by simp
  | x :: xs, h => by
    rw [List.flatMap_cons, List.length_append, List.length_cons, Nat.succ_mul]
    have h1 := h x List.mem_cons_self
    have h2 := flat_len f n xs (fun y hy => h y (List.mem_cons_of_mem _ hy))
    omega
theorem mDfs_len (db : List S64) : ∀ (ats : List S81) (b : List Int), (mDfs db ats b).length ≤ db.length ^ ats.length
  | [], b => by simp [mDfs]
  | a :: ats, b => by
    rw [List.length_cons, Nat.pow_succ, Nat.mul_comm]
    refine flat_len _ _ db (fun f _ => ?_)
    split
    · exact mDfs_len db ats _
    · simp
def Ext (b b' : List Int) : Prop := ∀ v : Nat, v < 20 → rd b ((20 + v : Nat) : Int) ≠ 0 → rd b' ((20 + v : Nat) : Int) ≠ 0 ∧ rd b' (v : Int) = rd b (v : Int)
theorem Ext.refl (b : List Int) : Ext b b := fun v _ h => ⟨h, rfl⟩
theorem Ext.trans {a b c : List Int} (h : Ext a b) (k : Ext b c) : Ext a c := fun v hv h0 => ⟨(k v hv (h v hv h0).1).1, ((k v hv (h v hv h0).1).2).trans (h v hv h0).2⟩
def mVal (b : List Int) (t : Int) : Int := if t < 0 then -1 - t else rd b t
theorem mBind_ext : ∀ (ts vs b : List Int), b.length = 40 → okA ts → Ext b (mBind ts vs b).1 ∧ ((mBind ts vs b).2 = true → ts.length = vs.length → ∀ b', Ext (mBind ts vs b).1 b' → ts.map (mVal b') = vs)
  | [], vs, b, hb, ho => ⟨Ext.refl b, fun _ hl _ _ => by simp at hl; rw [List.length_eq_zero_iff.1 hl.symm]; rfl⟩
  | t :: ts, [], b, hb, ho => ⟨Ext.refl b, fun _ hl => by simp at hl⟩
  | t :: ts, v :: vs, b, hb, ho => by
    have ht := ho t List.mem_cons_self
    have ho' : okA ts := fun x hx => ho x (List.mem_cons_of_mem _ hx)
    unfold mBind
    by_cases c : t < 0
    · simp only [if_pos c]
      by_cases d : -1 - t = v
      · simp only [if_pos d]
        have ih := mBind_ext ts vs b hb ho'
        refine ⟨ih.1, fun h hl b' he => ?_⟩
        rw [List.map_cons, ih.2 h (by simpa using hl) b' he]
        unfold mVal
        rw [if_pos c, d]
      · simp only [if_neg d]
        exact ⟨Ext.refl b, fun h => by cases h⟩
    · simp only [if_neg c]
      obtain ⟨n, rfl⟩ := Int.eq_ofNat_of_zero_le (show 0 ≤ t by omega)
      have hn : n < 20 := by omega
      by_cases d : rd b (20 + (n : Int)) = 0
      · simp only [if_pos d]
        have e1 : ((n : Int)).toNat = n := by omega
        have e2 : (20 + (n : Int)).toNat = 20 + n := by omega
        rw [e1, e2]
        have hset : ∀ j : Nat, rd ((b.set n v).set (20 + n) 1) (j : Int) = if j = 20 + n then 1 else if j = n then v else rd b (j : Int) := by
          intro j
          rw [rd_set _ _ _ _ (by rw [List.length_set]; omega)]
          split
          · rfl
          · rw [rd_set _ _ _ _ (by omega)]
        have ih := mBind_ext ts vs ((b.set n v).set (20 + n) 1) (by simpa using hb) ho'
        have hx : Ext b ((b.set n v).set (20 + n) 1) := by
          intro w hw h0
          have hwn : w ≠ n := fun e => h0 (by rw [e]; have : ((20 + n : Nat) : Int) = 20 + (n : Int) := by omega
                                              rw [this]; exact d)
          rw [hset, hset, if_neg (by omega), if_neg (by omega), if_neg (by omega), if_neg hwn]
          exact ⟨h0, rfl⟩
        refine ⟨hx.trans ih.1, fun h hl b' he => ?_⟩
        rw [List.map_cons, ih.2 h (by simpa using hl) b' he]
        have h3 := (ih.1.trans he) n hn (by rw [hset, if_pos rfl]; decide)
        have h4 : mVal b' (n : Int) = v := by
          unfold mVal
          rw [if_neg (by omega), h3.2, hset, if_neg (by omega), if_pos rfl]
        rw [h4]
      · simp only [if_neg d]
        by_cases e : rd b (n : Int) = v
        · simp only [if_pos e]
          have ih := mBind_ext ts vs b hb ho'
          refine ⟨ih.1, fun h hl b' he => ?_⟩
          rw [List.map_cons, ih.2 h (by simpa using hl) b' he]
          have h3 := (ih.1.trans he) n hn (by have : ((20 + n : Nat) : Int) = 20 + (n : Int) := by omega
                                              rw [this]; exact d)
          have h4 : mVal b' (n : Int) = v := by
            unfold mVal
            rw [if_neg (by omega), h3.2, e]
          rw [h4]
        · simp only [if_neg e]
          exact ⟨Ext.refl b, fun h => by cases h⟩
theorem mMatch_ext (a : S81) (f : S64) (b : List Int) (hb : b.length = 40) (ho : okA a.f1) : Ext b (mMatch a f b).1 ∧ ((mMatch a f b).2 = true → ∀ b', Ext (mMatch a f b).1 b' → f = ⟨a.f0, a.f1.map (mVal b')⟩) := by
  unfold mMatch
  by_cases c : a.f0 = f.f0 ∧ a.f1.length = f.f1.length
  · simp only [if_pos c]
    have h := mBind_ext a.f1 f.f1 b hb ho
    refine ⟨h.1, fun ht b' he => ?_⟩
    rw [h.2 ht c.2 b' he, c.1]
  · simp only [if_neg c]
    exact ⟨Ext.refl b, fun h => by cases h⟩
theorem mDfs_ext (db : List S64) : ∀ (ats : List S81) (b r : List Int), b.length = 40 → (∀ a ∈ ats, okA a.f1) → r ∈ mDfs db ats b → Ext b r
  | [], b, r, hb, ho, h => by rw [List.mem_singleton.1 h]; exact Ext.refl b
  | a :: ats, b, r, hb, ho, h => by
    obtain ⟨f, _, hr⟩ := List.mem_flatMap.1 h
    split at hr
    · exact (mMatch_ext a f b hb (ho a List.mem_cons_self)).1.trans (mDfs_ext db ats _ r (by rw [mMatch_len]; exact hb) (fun x hx => ho x (List.mem_cons_of_mem _ hx)) hr)
    · cases hr
theorem rd_take (l : List Int) (n : Nat) (t : Int) (h0 : 0 ≤ t) (h : t.toNat < n) : rd (l.take n) t = rd l t := by
  obtain ⟨m, rfl⟩ := Int.eq_ofNat_of_zero_le h0
  rw [rdN, rdN, List.getD_eq_getElem?_getD, List.getD_eq_getElem?_getD, List.getElem?_take_of_lt (by simpa using h)]
def mEmpty : List Int := List.replicate 20 (-1) ++ List.replicate 20 0
def mBinds (db : List S64) (ats : List S81) : List (List Int) := (mDfs db ats mEmpty).map (fun r => r.take 20)
structure Tot {α : Type} (lt : α → α → Bool) : Prop where
  irr : ∀ a, lt a a = false
  tr : ∀ a b c, lt a b = true → lt b c = true → lt a c = true
  cn : ∀ a b, lt a b = false → lt b a = false → a = b
theorem Tot.asym {α : Type} {lt : α → α → Bool} (h : Tot lt) {a b : α} (e : lt a b = true) : lt b a = false := by
  cases e2 : lt b a
  · rfl
  · have := h.tr a b a e e2; rw [h.irr] at this; cases this
theorem Tot.nt {α : Type} {lt : α → α → Bool} (h : Tot lt) (a b c : α) (h1 : lt a b = false) (h2 : lt b c = false) : lt a c = false := by
  cases e : lt a c
  · rfl
  · cases e2 : lt b a
    · have := h.cn a b h1 e2; subst this; rw [e] at h2; cases h2
    · have := h.tr b a c e2 e; rw [this] at h2; cases h2
theorem Tot.sort {α : Type} {lt : α → α → Bool} (h : Tot lt) {l l' : List α} (hp : l'.Perm l) (hs : l'.Pairwise (fun x y => lt y x = false)) : l.mergeSort (fun x y => !lt y x) = l' := by
  refine (List.Perm.eq_of_pairwise (le := fun x y => (!lt y x) = true) ?_ ?_ ?_ (hp.trans (List.mergeSort_perm _ _).symm)).symm
  · intro a b _ _ h1 h2
    simp only [Bool.not_eq_true'] at h1 h2
    exact h.cn a b h2 h1
  · exact hs.imp (fun h => by simp [h])
  · refine List.pairwise_mergeSort ?_ ?_ l
    · intro a b c h1 h2
      simp only [Bool.not_eq_true'] at h1 h2 ⊢
      exact h.nt c b a h2 h1
    · intro a b
      cases e : lt b a
      · simp
      · simp [h.asym e]
theorem mLess_irr : ∀ s : List Int, mLess s s = false
  | [] => rfl
  | a :: s => by simp [mLess, mLess_irr s]
theorem mLess_tr : ∀ a b c : List Int, mLess a b = true → mLess b c = true → mLess a c = true
  | [], [], _, h, _ => by simp [mLess] at h
  | [], _ :: _, [], _, h => by simp [mLess] at h
  | [], _ :: _, _ :: _, _, _ => rfl
  | _ :: _, [], _, h, _ => by simp [mLess] at h
  | _ :: _, _ :: _, [], _, h => by simp [mLess] at h
  | x :: a, y :: b, z :: c, h1, h2 => by
    simp only [mLess] at h1 h2 ⊢
    by_cases e1 : x = y
    · subst e1
      rw [if_pos rfl] at h1
      by_cases e2 : x = z
      · rw [if_pos e2] at h2 ⊢; exact mLess_tr a b c h1 h2
      · rw [if_neg e2] at h2 ⊢; exact h2
    · rw [if_neg e1] at h1
      by_cases e2 : y = z
      · subst e2; rw [if_neg e1]; exact h1
      · rw [if_neg e2] at h2
        have p1 := of_decide_eq_true h1
        have p2 := of_decide_eq_true h2
        rw [if_neg (by omega)]; exact decide_eq_true (by omega)
theorem mLess_cn : ∀ a b : List Int, mLess a b = false → mLess b a = false → a = b
  | [], [], _, _ => rfl
  | [], _ :: _, h, _ => by simp [mLess] at h
  | _ :: _, [], _, h => by simp [mLess] at h
  | x :: a, y :: b, h1, h2 => by
    simp only [mLess] at h1 h2
    by_cases e1 : x = y
    · subst e1
      rw [if_pos rfl] at h1 h2
      rw [mLess_cn a b h1 h2]
    · rw [if_neg e1] at h1
      rw [if_neg (fun h => e1 h.symm)] at h2
      have p1 := of_decide_eq_false h1
      have p2 := of_decide_eq_false h2
      omega
theorem mLess_tot : Tot mLess := ⟨mLess_irr, mLess_tr, mLess_cn⟩
theorem okB {s h : List Int} {d : List S81} (hq : mIsQuery s h d = true) : (∀ a ∈ d, ∀ t ∈ a.f1, -80 ≤ t ∧ t ≤ 19) ∧ h.length ≤ 3 ∧ d.length ≤ 4 ∧ ∀ t ∈ h, -80 ≤ t ∧ t ≤ 19 := by
  unfold mIsQuery at hq
  simp only [Bool.and_eq_true, decide_eq_true_eq] at hq
  obtain ⟨⟨⟨⟨_, h1, h2⟩, h3⟩, h4⟩, _⟩ := hq
  refine ⟨fun a ha t ht => ?_, by omega, by omega, fun t ht => ?_⟩
  · have := List.all_eq_true.1 h4 a ha
    unfold mIsAtom at this
    simp only [Bool.and_eq_true] at this
    have := List.all_eq_true.1 this.2 t ht
    simpa [mIsTerm] using this
  · have := List.all_eq_true.1 h2 t ht
    simpa [mIsTerm] using this
theorem okB_A {d : List S81} (h : ∀ a ∈ d, ∀ t ∈ a.f1, -80 ≤ t ∧ t ≤ 19) : ∀ a ∈ d, okA a.f1 := fun a ha t ht => by have := h a ha t ht; exact ⟨by omega, by omega⟩
theorem db_len {s : List Int} {d : List S64} (h : mIsDb s d = true) : d.length ≤ 24 := by
  unfold mIsDb at h
  simp only [Bool.and_eq_true, decide_eq_true_eq] at h
  omega
theorem dfs_small {s s2 h : List Int} {b : List S81} {d : List S64} (hq : mIsQuery s h b = true) (hd : mIsDb s2 d = true) (x : List Int) : (mDfs d b x).length ≤ 331776 := by
  refine Nat.le_trans (mDfs_len d b x) ?_
  exact Nat.le_trans (Nat.pow_le_pow_left (db_len hd) _) (Nat.pow_le_pow_right (by decide) (okB hq).2.2.1)
def mBindings (s h : List Int) (b : List S81) (d : List S64) : List (List Int) := if (mIsQuery s h b && mIsDb s d) = true then mSort true (mBinds d b) else []
theorem mBinds_len (d : List S64) (b : List S81) : (mBinds d b).length = (mDfs d b mEmpty).length := by simp [mBinds]
theorem mBinds_mem {d : List S64} {b : List S81} {x : List Int} (h : x ∈ mBinds d b) : x.length = 20 := by
  obtain ⟨r, hr, rfl⟩ := List.mem_map.1 h
  rw [List.length_take, mDfs_mem_len d b mEmpty r hr]
  rfl
theorem mBindings_small (s h : List Int) (b : List S81) (d : List S64) : (mBindings s h b d).length ≤ 331776 ∧ ∀ x ∈ mBindings s h b d, x.length = 20 := by
  unfold mBindings
  split
  · rename_i c
    simp only [Bool.and_eq_true] at c
    refine ⟨?_, fun x hx => ?_⟩
    · have h1 := sort_len true (mBinds d b) []
      rw [mBinds_len] at h1
      have h2 := dfs_small c.1 c.2 mEmpty
      unfold mSort
      simp only [List.length_nil] at h1
      omega
    · have h1 := (sort_mem true (mBinds d b) [] x).1 hx
      rcases h1 with h1 | h1
      · cases h1
      · exact mBinds_mem h1
  · exact ⟨by simp, fun x hx => by cases hx⟩
theorem l6Empty_ev : Ev (fun k => spec_l6Empty.f k) mEmpty := by
  have h1 : ∀ n m : Nat, n + m = 20 → Ev (fun k => spec_l6Empty.l1 k (List.replicate 20 (-1) ++ List.replicate n 0) (n : Int)) mEmpty := by
    intro n m
    induction m generalizing n with
    | zero =>
      intro h
      have : n = 20 := by omega
      subst this
      refine Ev.step (fun k => spec_l6Empty.l1.eq_2 ..) ?_
      simp only [if_neg (show ¬ ((20 : Nat) : Int) < 20 by decide)]
      exact evc fun k => rfl
    | succ m ih =>
      intro h
      refine Ev.step (fun k => spec_l6Empty.l1.eq_2 ..) ?_
      simp only [if_pos (show (n : Int) < 20 by omega)]
      have e1 : wrap64 ((n : Int) + 1) = ((n + 1 : Nat) : Int) := by rw [w64 (by omega) (by omega)]; omega
      have e2 : (List.replicate 20 (-1) ++ List.replicate n (0 : Int)) ++ [0] = List.replicate 20 (-1) ++ List.replicate (n + 1) 0 := by rw [List.append_assoc, ← List.replicate_succ']
      have := ih (n + 1) (by omega)
      rw [← e1, ← e2] at this
      have hc : (List.replicate 20 (-1) ++ List.replicate n (0 : Int)).length < 17592186044416 := by simp; omega
      simp only [if_pos hc]
      exact this
  have h0 : ∀ n m : Nat, n + m = 20 → Ev (fun k => spec_l6Empty.l0 k (List.replicate n (-1)) (n : Int)) mEmpty := by
    intro n m
    induction m generalizing n with
    | zero =>
      intro h
      have : n = 20 := by omega
      subst this
      refine Ev.step (fun k => spec_l6Empty.l0.eq_2 ..) ?_
      simp only [if_neg (show ¬ ((20 : Nat) : Int) < 20 by decide)]
      exact h1 0 20 rfl
    | succ m ih =>
      intro h
      refine Ev.step (fun k => spec_l6Empty.l0.eq_2 ..) ?_
      simp only [if_pos (show (n : Int) < 20 by omega)]
      have e1 : wrap64 ((n : Int) + 1) = ((n + 1 : Nat) : Int) := by rw [w64 (by omega) (by omega)]; omega
      have e2 : List.replicate n (-1 : Int) ++ [-1] = List.replicate (n + 1) (-1) := by rw [← List.replicate_succ']
      have := ih (n + 1) (by omega)
      rw [← e1, ← e2] at this
      have hc : (List.replicate n (-1 : Int)).length < 17592186044416 := by simp; omega
      simp only [if_pos hc]
      exact this
  exact h0 0 20 rfl
def mKeep (xs : List (List Int)) (q : Nat) : List Nat := (List.range q).filter (fun p => decide (p = 0 ∨ xs.getD p [] ≠ xs.getD (p - 1) []))
def mCompact (xs : List (List Int)) : List (List Int) := (mKeep xs xs.length).map (fun i => xs.getD i [])
theorem mKeep_yes {xs : List (List Int)} {q : Nat} (h : q = 0 ∨ xs.getD q [] ≠ xs.getD (q - 1) []) : mKeep xs (q + 1) = mKeep xs q ++ [q] := by
  unfold mKeep
  rw [List.range_succ, List.filter_append, List.filter_cons_of_pos (by simpa using h)]
  rfl
theorem mKeep_no {xs : List (List Int)} {q : Nat} (h : ¬ (q = 0 ∨ xs.getD q [] ≠ xs.getD (q - 1) [])) : mKeep xs (q + 1) = mKeep xs q := by
  unfold mKeep
  rw [List.range_succ, List.filter_append, List.filter_cons_of_neg (by simpa using h)]
  simp
theorem mKeep_lt {xs : List (List Int)} {q p : Nat} (h : p ∈ mKeep xs q) : p < q := List.mem_range.1 (List.mem_filter.1 h).1
theorem mKeep_nodup (xs : List (List Int)) (q : Nat) : (mKeep xs q).Nodup := List.nodup_range.filter _
theorem mKeep_len (xs : List (List Int)) (q : Nat) : (mKeep xs q).length ≤ q := by
  have := List.length_filter_le (fun p => decide (p = 0 ∨ xs.getD p [] ≠ xs.getD (p - 1) [])) (List.range q)
  rw [List.length_range] at this
  exact this
theorem map_range_get (xs : List (List Int)) : (List.range xs.length).map (fun i => xs.getD i []) = xs := by
  apply List.ext_getElem
  · simp
  · intro i h1 h2
    rw [List.getElem_map, List.getElem_range, List.getD_eq_getElem?_getD, List.getElem?_eq_getElem h2]; rfl
theorem mCompact_all {xs : List (List Int)} (h : mKeep xs xs.length = List.range xs.length) : mCompact xs = xs := by
  unfold mCompact
  rw [h, map_range_get]
theorem mCompact_short {xs : List (List Int)} (h : xs.length < 2) : mCompact xs = xs := by
  refine mCompact_all ?_
  rcases (show xs.length = 0 ∨ xs.length = 1 by omega) with e | e
  · rw [e]; rfl
  · rw [e, mKeep_yes (.inl rfl)]; rfl
theorem mem_take_succ (ys : List (List Int)) (q : Nat) (hq : q < ys.length) (x : List Int) : x ∈ ys.take (q + 1) ↔ x ∈ ys.take q ∨ x = ys.getD q [] := by
  rw [List.take_succ_eq_append_getElem hq, List.mem_append, List.mem_singleton, List.getD_eq_getElem?_getD, List.getElem?_eq_getElem hq]
  rfl
theorem mem_take_ix {ys : List (List Int)} {q : Nat} {x : List Int} (hq : q ≤ ys.length) (h : x ∈ ys.take q) : ∃ i, i < q ∧ ys.getD i [] = x := by
  obtain ⟨i, hi, rfl⟩ := List.mem_iff_getElem.1 h
  have hi' : i < q ∧ i < ys.length := by simp at hi; omega
  exact ⟨i, hi'.1, by rw [List.getD_eq_getElem?_getD, List.getElem?_eq_getElem hi'.2]; simp⟩
theorem keep_asc (ys : List (List Int)) (hs : ys.Pairwise (fun x y => mLess y x = false)) : ∀ q, q ≤ ys.length → Asc ((mKeep ys q).map (fun i => ys.getD i [])) ∧ ∀ x, x ∈ (mKeep ys q).map (fun i => ys.getD i []) ↔ x ∈ ys.take q
  | 0, _ => ⟨by simp [mKeep, Asc], fun x => by simp [mKeep]⟩
  | q + 1, hq => by
    obtain ⟨ih1, ih2⟩ := keep_asc ys hs q (by omega)
    have hle : ∀ i j, i < j → j < ys.length → mLess (ys.getD j []) (ys.getD i []) = false := by
      intro i j hij hj
      have := List.pairwise_iff_getElem.1 hs i j (by omega) hj hij
      rw [List.getD_eq_getElem?_getD, List.getElem?_eq_getElem hj, List.getD_eq_getElem?_getD, List.getElem?_eq_getElem (show i < ys.length by omega)]
      exact this
    by_cases c : q = 0 ∨ ys.getD q [] ≠ ys.getD (q - 1) []
    · rw [mKeep_yes c, List.map_append]
      refine ⟨?_, fun x => ?_⟩
      · refine List.pairwise_append.2 ⟨ih1, by simp, fun a ha b hb => ?_⟩
        rw [List.map_singleton, List.mem_singleton] at hb
        subst hb
        obtain ⟨i, hi, rfl⟩ := mem_take_ix (by omega) ((ih2 a).1 ha)
        have h1 := hle i q hi (by omega)
        cases e : mLess (ys.getD i []) (ys.getD q []) with
        | true => rfl
        | false =>
          exfalso
          have he := mLess_tot.cn _ _ e h1
          rcases c with c | c
          · omega
          · by_cases hi2 : i = q - 1
            · subst hi2; exact c he.symm
            · have h2 := hle i (q - 1) (by omega) (by omega)
              have h3 := hle (q - 1) q (by omega) (by omega)
              rw [← he] at h3
              exact c (he.symm.trans (mLess_tot.cn _ _ h3 h2))
      · rw [List.mem_append, ih2, mem_take_succ ys q (by omega), List.map_singleton, List.mem_singleton]
    · rw [mKeep_no c]
      refine ⟨ih1, fun x => ?_⟩
      rw [ih2, mem_take_succ ys q (by omega)]
      refine ⟨.inl, fun h => ?_⟩
      rcases h with h | h
      · exact h
      · have h0 : q ≠ 0 := fun e => c (.inl e)
        have he : ys.getD q [] = ys.getD (q - 1) [] := Decidable.byContradiction fun e => c (.inr e)
        rw [h, he]
        have := (mem_take_succ ys (q - 1) (by omega) (ys.getD (q - 1) [])).2 (.inr rfl)
        rwa [show q - 1 + 1 = q by omega] at this
theorem compact_sort (l ys : List (List Int)) (hp : ys.Perm l) (hs : ys.Pairwise (fun x y => mLess y x = false)) : mCompact ys = mSort true l := by
  obtain ⟨h1, h2⟩ := keep_asc ys hs ys.length (Nat.le_refl _)
  refine asc_ext _ _ h1 (sort_asc l [] List.Pairwise.nil) (fun x => ?_)
  rw [show mCompact ys = (mKeep ys ys.length).map (fun i => ys.getD i []) from rfl, h2, List.take_length, hp.mem_iff]
  have := sort_mem true l [] x
  simp only [List.not_mem_nil, false_or] at this
  exact this.symm
theorem sort_same (l m : List (List Int)) (h : ∀ x, x ∈ l ↔ x ∈ m) : mSort true l = mSort true m := by
  refine asc_ext _ _ (sort_asc l [] List.Pairwise.nil) (sort_asc m [] List.Pairwise.nil) (fun x => ?_)
  have h1 := sort_mem true l [] x
  have h2 := sort_mem true m [] x
  simp only [List.not_mem_nil, false_or] at h1 h2
  exact h1.trans ((h x).trans h2.symm)
theorem slEqual_ev (l m : List Int) (h : l.length ≤ 140737488355328) : Ev (fun k => slices_Equal_int_int.f k l m) (decide (l = m)) := by
  by_cases hl : l.length = m.length
  · have key := idx_ind l (fun pre suf => ∀ pre2 suf2, m = pre2 ++ suf2 → pre2.length = pre.length → Ev (fun k => slices_Equal_int_int.l0 k l m (l.length : Int) (pre.length : Int)) (decide (suf = suf2))) ?_ ?_
    · have r := key [] m rfl rfl
      refine Ev.congr (fun k => ?_) r
      unfold slices_Equal_int_int.f
      rw [if_pos (by omega)]
      rfl
    · intro pre2 suf2 e2 hp
      have : suf2 = [] := by
        have := congrArg List.length e2
        simp at this
        exact List.eq_nil_of_length_eq_zero (by omega)
      subst this
      refine evn fun k => ?_
      simp only [slices_Equal_int_int.l0]
      rw [if_neg (end_not _)]; simp
    · intro pre a suf e ih pre2 suf2 e2 hp
      obtain ⟨b, t2, rfl⟩ : ∃ b t2, suf2 = b :: t2 := by
        cases suf2 with
        | nil => exfalso; have h1 := congrArg List.length e; have h2 := congrArg List.length e2; simp at h1 h2; omega
        | cons b t2 => exact ⟨b, t2, rfl⟩
      have r2 : rd m (pre.length : Int) = b := by rw [← hp]; exact rd_of e2
      have l2 : (pre.length : Int) < (m.length : Int) := by rw [← hp]; exact lt_of e2
      by_cases hab : a = b
      · subst hab
        have r := ih (pre2 ++ [a]) t2 (by rw [e2]; simp) (by simp [hp])
        have ed : decide (a :: suf = a :: t2) = decide (suf = t2) := by simp
        rw [ed]
        refine Ev.step (fun k => ?_) r
        simp only [slices_Equal_int_int.l0]
        rw [if_pos (lt_of e), if_pos (len_nonneg _), if_pos (lt_of e), if_pos l2, rd_of e, r2, if_pos rfl, nx_of e h]
      · have ed : decide (a :: suf = b :: t2) = false := by simp [hab]
        rw [ed]
        refine evn fun k => ?_
        simp only [slices_Equal_int_int.l0]
        rw [if_pos (lt_of e), if_pos (len_nonneg _), if_pos (lt_of e), if_pos l2, rd_of e, r2, if_neg hab]
  · have e : decide (l = m) = false := by simp; intro h; exact hl (by rw [h])
    rw [e]
    refine evc fun k => ?_
    unfold slices_Equal_int_int.f
    rw [if_neg (by omega)]
def mTuple (h r : List Int) : List Int := h.map (mVal r)
def mHeads (d : List S64) (b : List S81) (h : List Int) : List (List Int) := (mDfs d b mEmpty).map (mTuple h)
def mAnswers (s h : List Int) (b : List S81) (d : List S64) : List (List Int) := if (mIsQuery s h b && mIsDb s d) = true then mSort true (mHeads d b h) else []
theorem mHeads_len (d : List S64) (b : List S81) (h : List Int) : (mHeads d b h).length = (mDfs d b mEmpty).length := by simp [mHeads]
theorem mHeads_mem {d : List S64} {b : List S81} {h x : List Int} (hx : x ∈ mHeads d b h) : x.length = h.length := by
  obtain ⟨r, _, rfl⟩ := List.mem_map.1 hx
  simp [mTuple]
theorem mAnswers_small (s h : List Int) (b : List S81) (d : List S64) : (mAnswers s h b d).length ≤ 331776 ∧ ∀ x ∈ mAnswers s h b d, x.length ≤ 3 := by
  unfold mAnswers
  split
  · rename_i c
    simp only [Bool.and_eq_true] at c
    refine ⟨?_, fun x hx => ?_⟩
    · have h1 := sort_len true (mHeads d b h) []
      rw [mHeads_len] at h1
      have h2 := dfs_small c.1 c.2 mEmpty
      unfold mSort
      simp only [List.length_nil] at h1
      omega
    · have h1 := (sort_mem true (mHeads d b h) [] x).1 hx
      rcases h1 with h1 | h1
      · cases h1
      · rw [mHeads_mem h1]; exact (okB c.1).2.1
  · exact ⟨by simp, fun x hx => by cases hx⟩
theorem l6Tuple_ev (h r : List Int) (hl : h.length ≤ 1048576) (hr : r.length = 20) (ho : ∀ t ∈ h, -80 ≤ t ∧ t ≤ 19) : Ev (fun k => spec_l6Tuple.f k h r) (mTuple h r) := by
  refine idx_ind h (fun pre suf => Ev (fun k => spec_l6Tuple.l0 k h r (pre.map (mVal r)) (pre.length : Int)) (mTuple h r)) ?_ ?_
  · refine evn fun k => ?_
    simp only [spec_l6Tuple.l0]
    rw [if_neg (end_not _)]
    rfl
  · intro pre t suf e ih
    have ht := ho t (by rw [e]; simp)
    have hp : (pre.map (mVal r)).length < 17592186044416 := by rw [e] at hl; simp at hl ⊢; omega
    refine Ev.step (fun k => spec_l6Tuple.l0.eq_2 ..) ?_
    simp only [if_pos (lt_of e), if_pos (len_nonneg _), rd_of e, nx_of e (show h.length ≤ 140737488355328 by omega)]
    rw [List.map_append, List.map_singleton] at ih
    by_cases c : t < 0
    · have hw : wrap64 (-1 - t) = -1 - t := w64 (by omega) (by omega)
      have e1 : mVal r t = -1 - t := by unfold mVal; rw [if_pos c]
      simp only [if_pos c, if_pos hp, hw]
      rw [e1] at ih
      exact ih
    · have e1 : mVal r t = rd r t := by unfold mVal; rw [if_neg c]
      simp only [if_neg c, if_pos (show 0 ≤ t by omega), if_pos (show t < (r.length : Int) by omega), if_pos hp]
      rw [e1] at ih
      exact ih
theorem l6Heads_ev (h : List Int) (b : List S81) (l : List (List Int)) (hh : h.length ≤ 1048576) (ho : l ≠ [] → ∀ t ∈ h, -80 ≤ t ∧ t ≤ 19) (hl : l.length ≤ 1048576) (hs : ∀ x ∈ l, x.length = 20) : Ev (fun k => spec_l6Heads.f k h b l) (l.map (mTuple h)) := by
  refine idx_ind l (fun pre suf => Ev (fun k => spec_l6Heads.l0 k l (pre.map (mTuple h)) (pre.length : Int) h b) (l.map (mTuple h))) ?_ ?_
  · refine evn fun k => ?_
    simp only [spec_l6Heads.l0]
    rw [if_neg (end_not _)]
  · intro pre x suf e ih
    have hx := hs x (by rw [e]; simp)
    have hp : (pre.map (mTuple h)).length < 5864062014805 := by rw [e] at hl; simp at hl ⊢; omega
    refine Ev.step (fun k => spec_l6Heads.l0.eq_2 ..) ?_
    simp only [if_pos (lt_of e), if_pos (len_nonneg _), rdL_of e, nx_of e (show l.length ≤ 140737488355328 by omega)]
    refine evb (l6Tuple_ev h x hh hx (ho (by rw [e]; simp))) ?_
    rw [List.map_append, List.map_singleton] at ih
    simp only [if_pos hp]
    exact ih
theorem mBindings_query {s h : List Int} {b : List S81} {d : List S64} (hne : mBindings s h b d ≠ []) : mIsQuery s h b = true := by
  unfold mBindings at hne
  by_cases c : (mIsQuery s h b && mIsDb s d) = true
  · simp only [Bool.and_eq_true] at c; exact c.1
  · rw [if_neg c] at hne; exact absurd rfl hne
theorem mVal_take20 (r : List Int) (t : Int) (h : t < 20) : mVal (r.take 20) t = mVal r t := by
  unfold mVal
  by_cases c : t < 0
  · rw [if_pos c, if_pos c]
  · rw [if_neg c, if_neg c, rd_take r 20 t (by omega) (by omega)]
theorem tuple_take (h r : List Int) (ho : ∀ t ∈ h, -80 ≤ t ∧ t ≤ 19) : mTuple h (r.take 20) = mTuple h r := List.map_congr_left (fun t ht => mVal_take20 r t (by have := (ho t ht).2; omega))
theorem binds_tuples (d : List S64) (b : List S81) (h : List Int) (ho : ∀ t ∈ h, -80 ≤ t ∧ t ≤ 19) : (mBinds d b).map (mTuple h) = mHeads d b h := by
  unfold mBinds mHeads
  rw [List.map_map]
  exact List.map_congr_left (fun r _ => tuple_take h r ho)
theorem answers_spec (s h : List Int) (b : List S81) (d : List S64) : mSort true ((mBindings s h b d).map (mTuple h)) = mAnswers s h b d := by
  unfold mBindings mAnswers
  by_cases c : (mIsQuery s h b && mIsDb s d) = true
  · rw [if_pos c, if_pos c]
    have c2 := c
    simp only [Bool.and_eq_true] at c2
    refine sort_same _ _ (fun x => ?_)
    rw [← binds_tuples d b h (okB c2.1).2.2.2, List.mem_map, List.mem_map]
    have hm : ∀ y, y ∈ mSort true (mBinds d b) ↔ y ∈ mBinds d b := fun y => by
      have := sort_mem true (mBinds d b) [] y
      simp only [List.not_mem_nil, false_or] at this
      exact this
    exact ⟨fun ⟨y, hy, e⟩ => ⟨y, (hm y).1 hy, e⟩, fun ⟨y, hy, e⟩ => ⟨y, (hm y).2 hy, e⟩⟩
  · rw [if_neg c, if_neg c]; rfl
theorem mBind_bound : ∀ (ts vs b : List Int), b.length = 40 → okA ts → (mBind ts vs b).2 = true → ts.length = vs.length → ∀ n : Nat, (n : Int) ∈ ts → rd (mBind ts vs b).1 ((20 + n : Nat) : Int) ≠ 0
  | [], vs, b, hb, ho, h, hl, n, hn => by cases hn
  | t :: ts, [], b, hb, ho, h, hl, n, hn => by simp at hl
  | t :: ts, v :: vs, b, hb, ho, h, hl, n, hn => by
    have ht := ho t List.mem_cons_self
    have ho' : okA ts := fun x hx => ho x (List.mem_cons_of_mem _ hx)
    have hl' : ts.length = vs.length := by simpa using hl
    unfold mBind at h ⊢
    by_cases c : t < 0
    · simp only [if_pos c] at h ⊢
      by_cases d : -1 - t = v
      · simp only [if_pos d] at h ⊢
        rcases List.mem_cons.1 hn with e | hn
        · omega
        · exact mBind_bound ts vs b hb ho' h hl' n hn
      · simp only [if_neg d] at h; cases h
    · simp only [if_neg c] at h ⊢
      obtain ⟨m, rfl⟩ := Int.eq_ofNat_of_zero_le (show 0 ≤ t by omega)
      have hm : m < 20 := by omega
      have e2 : (20 + (m : Int)).toNat = 20 + m := by omega
      by_cases d : rd b (20 + (m : Int)) = 0
      · simp only [if_pos d] at h ⊢
        have hb2 : ((b.set ((m : Int)).toNat v).set (20 + (m : Int)).toNat 1).length = 40 := by simpa using hb
        rcases List.mem_cons.1 hn with e | hn
        · have e3 : n = m := by omega
          subst e3
          have hx := (mBind_ext ts vs ((b.set ((n : Int)).toNat v).set (20 + (n : Int)).toNat 1) hb2 ho').1
          refine (hx n hm ?_).1
          rw [e2, rd_set _ _ _ _ (by rw [List.length_set]; omega), if_pos rfl]
          decide
        · exact mBind_bound ts vs _ hb2 ho' h hl' n hn
      · simp only [if_neg d] at h ⊢
        by_cases e : rd b (m : Int) = v
        · simp only [if_pos e] at h ⊢
          rcases List.mem_cons.1 hn with e3 | hn
          · have e4 : n = m := by omega
            subst e4
            have hx := (mBind_ext ts vs b hb ho').1
            refine (hx n hm ?_).1
            have : ((20 + n : Nat) : Int) = 20 + (n : Int) := by omega
            rw [this]; exact d
          · exact mBind_bound ts vs b hb ho' h hl' n hn
        · simp only [if_neg e] at h; cases h
theorem mDfs_bound (db : List S64) : ∀ (ats : List S81) (b r : List Int), b.length = 40 → (∀ a ∈ ats, okA a.f1) → r ∈ mDfs db ats b → ∀ a ∈ ats, ∀ n : Nat, (n : Int) ∈ a.f1 → rd r ((20 + n : Nat) : Int) ≠ 0
  | [], b, r, hb, ho, h, a, ha, n, hn => by cases ha
  | a0 :: ats, b, r, hb, ho, h, a, ha, n, hn => by
    obtain ⟨f, _, hr⟩ := List.mem_flatMap.1 h
    have ho' : ∀ x ∈ ats, okA x.f1 := fun x hx => ho x (List.mem_cons_of_mem _ hx)
    have hml : (mMatch a0 f b).1.length = 40 := by rw [mMatch_len]; exact hb
    split at hr
    · rename_i cf
      rcases List.mem_cons.1 ha with e | ha
      · subst e
        have hn20 : n < 20 := by have := ho a List.mem_cons_self _ hn; omega
        refine (mDfs_ext db ats _ r hml ho' hr n hn20 ?_).1
        unfold mMatch at cf ⊢
        by_cases c : a.f0 = f.f0 ∧ a.f1.length = f.f1.length
        · simp only [if_pos c] at cf ⊢
          exact mBind_bound a.f1 f.f1 b hb (ho a List.mem_cons_self) cf c.2 n hn
        · simp only [if_neg c] at cf; cases cf
      · exact mDfs_bound db ats _ r hml ho' hr a ha n hn
    · cases hr
theorem head_bound {s h : List Int} {b : List S81} {d : List S64} {r : List Int} (hq : mIsQuery s h b = true) (hr : r ∈ mDfs d b mEmpty) (n : Nat) (hn : (n : Int) ∈ h) : rd r ((20 + n : Nat) : Int) ≠ 0 := by
  have hb := (okB hq).1
  have hh := (okB hq).2.2.2 _ hn
  have hs : mSafe h b = true := by
    unfold mIsQuery at hq
    simp only [Bool.and_eq_true, decide_eq_true_eq] at hq
    exact hq.2
  have h1 := List.all_eq_true.1 hs _ hn
  have hv : mIsVar (n : Int) = true := by unfold mIsVar; exact decide_eq_true ⟨by omega, by omega⟩
  rw [hv] at h1
  simp only [Bool.not_true, Bool.false_or] at h1
  unfold mOcc at h1
  obtain ⟨a, ha, hta⟩ := List.any_eq_true.1 h1
  exact mDfs_bound d b mEmpty r rfl (okB_A hb) hr a ha n (of_decide_eq_true hta)
theorem implIsVar_eq (t : Int) : impl_IsVar.f t = some (mIsVar t) := by
  simp [impl_IsVar.f, within_eq, mIsVar]
theorem implConstOf_eq (t : Int) : impl_ConstOf.f t = some (mConstOf t) := by
  unfold impl_ConstOf.f mConstOf
  simp only [implIsTerm_eq, implIsVar_eq, Option.bind_some, mIsTerm, mIsVar]
  by_cases h : -80 ≤ t ∧ t ≤ -1
  · rw [if_pos h, if_pos (by simp; omega), if_neg (by simp; omega)]; rw [w64 (by omega) (by omega)]
  · rw [if_neg h]
    by_cases h2 : -80 ≤ t ∧ t ≤ 19
    · rw [if_pos (by simpa using h2), if_pos (by simp; omega)]
    · rw [if_neg (by simpa using h2)]

end Go.Proofs.YtfelabhakgcifaaGreat.Pure
