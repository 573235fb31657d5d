/- The pure statement of the law FnExactVarsOf: the program's function and the reference's agree, for all arguments within the row's bounds. -/
import Derived.Test.YtpfpappamlgnoaaQFnExactVarsOfx0
import Derived.Test.YtpfpappamlgnoaaQFnExactVarsOfx1
import Derived.Test.YtpfpappamlgnoaaQFnExactVarsOfx2
import Derived.Test.YtpfpappamlgnoaaQFnExactVarsOfx3
import Derived.Test.YtpfpappamlgnoaaQFnExactVarsOfx4
import Derived.Test.YtpfpappamlgnoaaMine
import Derived.Test.YtpfpappamlgnoaaOpen
set_option linter.unusedVariables false
set_option linter.unusedSimpArgs false
namespace Go.Proofs.Ytpfpappamlgnoaa.Pure
open Go.RowKit Go.Proofs.Ytpfpappamlgnoaa.QFnExactVarsOf Go.Proofs.YtpfpappamlgnoaaW.PrintWords Go.Proofs.YtpfpappamlgnoaaW.PrintLast Go.Proofs.Ytpfpappamlgnoaa.Mine Go.Proofs.Ytpfpappamlgnoaa.Open

theorem szIntS_eq (l : List Int) (a : Int) (h : l.length ≤ maxLen) (h0 : 0 ≤ a) (h1 : a ≤ 1048576) : laws_szIntS.f l a = some (mSz l a) := by
  unfold maxLen at h
  unfold laws_szIntS.f mSz
  rw [w64 (by omega) (by omega)]
  by_cases hc : (l.length : Int) ≤ a
  · rw [if_neg (by omega), if_pos hc]
  · rw [if_pos (by omega), if_neg hc]
/-! ### A copy of a list -/
theorem toIntS_l0 (suf : List Int) : ∀ pre : List Int, (pre ++ suf).length ≤ 17592186044416 → Ev (fun k => laws_toIntS.l0 k (pre ++ suf) (pre ++ List.replicate suf.length 0) (pre.length : Int)) (pre ++ suf) := by
  induction suf with
  | nil =>
    intro pre h
    simp only [List.append_nil, List.length_nil, List.replicate_zero]
    refine evn fun k => ?_
    simp only [laws_toIntS.l0]
    rw [if_neg (end_not _)]
  | cons a t ih =>
    intro pre h
    have h1 := ih (pre ++ [a]) (by simpa using h)
    have hl : pre.length ≤ 140737488355328 := by simp at h; omega
    refine Ev.step (fun k => ?_) (by simpa using h1)
    simp only [laws_toIntS.l0]
    rw [if_pos (mid_lt _ _ _), if_pos (len_nonneg _)]
    simp only [List.length_cons, List.replicate_succ]
    rw [if_pos (mid_lt _ _ _), rd_mid, set_mid, iw (a := a) hl]
    simp
theorem toIntS_ev (l : List Int) (h : l.length ≤ 17592186044416) : Ev (fun k => laws_toIntS.f k l) l := by
  have h1 := toIntS_l0 l [] (by simpa using h)
  refine Ev.congr (fun k => ?_) h1
  unfold laws_toIntS.f
  rw [if_pos (by omega), if_pos (by simp; omega)]
  simp
/-! ### Equal lists -/
theorem eqIntS_l0 (suf : List Int) : ∀ (pre suf2 pre2 : List Int), pre.length = pre2.length → suf.length = suf2.length → (pre ++ suf).length ≤ 17592186044416 →
    Ev (fun k => laws_eqIntS.l0 k (pre ++ suf) (pre2 ++ suf2) (pre.length : Int)) (decide (suf = suf2)) := by
  induction suf with
  | nil =>
    intro pre suf2 pre2 hp hs h
    obtain rfl : suf2 = [] := List.eq_nil_of_length_eq_zero (by simpa using hs.symm)
    simp only [List.append_nil]
    refine evn fun k => ?_
    simp only [laws_eqIntS.l0]
    rw [if_neg (end_not _)]; simp
  | cons a t ih =>
    intro pre suf2 pre2 hp hs h
    obtain ⟨b, t2, rfl⟩ : ∃ b t2, suf2 = b :: t2 := by cases suf2 with
      | nil => simp at hs
      | cons b t2 => exact ⟨b, t2, rfl⟩
    have hl : pre.length ≤ 140737488355328 := by simp at h; omega
    have r1 : rd (pre2 ++ b :: t2) (pre.length : Int) = b := by rw [hp]; exact rd_mid _ _ _
    have l1 : (pre.length : Int) < ((pre2 ++ b :: t2).length : Int) := by rw [hp]; exact mid_lt _ _ _
    by_cases hab : a = b
    · subst hab
      have h1 := ih (pre ++ [a]) t2 (pre2 ++ [a]) (by simpa using hp) (by simpa using hs) (by simpa using h)
      have e : decide (a :: t = a :: t2) = decide (t = t2) := by simp
      rw [e]
      refine Ev.step (fun k => ?_) (by simpa using h1)
      simp only [laws_eqIntS.l0]
      rw [if_pos (mid_lt _ _ _), if_pos (len_nonneg _), if_pos l1, rd_mid, r1, if_pos rfl, iw (a := a) hl]
      simp
    · have e : decide (a :: t = b :: t2) = false := by simp [hab]
      rw [e]
      refine evn fun k => ?_
      simp only [laws_eqIntS.l0]
      rw [if_pos (mid_lt _ _ _), if_pos (len_nonneg _), if_pos l1, rd_mid, r1, if_neg hab]
theorem eqIntS_ev (l l2 : List Int) (h : l.length ≤ 17592186044416) : Ev (fun k => laws_eqIntS.f k l l2) (decide (l = l2)) := by
  by_cases hl : l.length = l2.length
  · have h1 := eqIntS_l0 l [] l2 [] rfl hl (by simpa using h)
    refine Ev.congr (fun k => ?_) h1
    unfold laws_eqIntS.f
    rw [if_pos (by omega)]
    simp
  · have e : decide (l = l2) = false := by simp; intro h; exact hl (by rw [h])
    rw [e]
    refine evc fun k => ?_
    unfold laws_eqIntS.f
    rw [if_neg (by omega)]
theorem eqAtom_ev (r : Int) (l : List Int) (q : Int) (m : List Int) (h : l.length ≤ 17592186044416) : Ev (fun k => laws_eqAtom.f k r l q m) (decide (r = q ∧ l = m)) := by
  unfold laws_eqAtom.f
  by_cases hr : r = q
  · simp only [if_pos hr]
    refine evb (eqIntS_ev l m h) ?_
    refine evc fun k => ?_
    by_cases e : l = m
    · simp [e, hr]
    · simp [e]
  · simp only [if_neg hr]
    refine evc fun k => ?_
    simp [hr]
theorem szAtom_eq (r : Int) (l : List Int) (a : Int) (h : l.length ≤ maxLen) (h0 : 0 ≤ a) (h1 : a ≤ 1048576) : laws_szAtom.f r l a = some (mSz l a) := by
  unfold laws_szAtom.f
  rw [szIntS_eq l a h h0 h1]
  simp only [Option.bind_some]
  unfold mSz
  by_cases hc : (l.length : Int) ≤ a
  · simp only [if_pos hc]; rw [if_neg (by omega)]
  · simp only [if_neg hc]; rfl
theorem toAtom_ev (r : Int) (l : List Int) (h : l.length ≤ 17592186044416) : Ev (fun k => laws_toAtom.f k r l) (r, l) := by
  unfold laws_toAtom.f
  refine evb (toIntS_ev l h) ?_
  exact evc fun k => rfl
theorem szAtom_ok (r : Int) (l : List Int) (a : Int) (w : (WfL WfI) l) (h0 : 0 ≤ a) (h1 : a ≤ 1048576) : ∃ t, Ev (fun _ : Nat => laws_szAtom.f r l a) t ∧ (t < 0 ∨ 0 ≤ t ∧ t ≤ a ∧ l.length ≤ 1048576) := by
  refine ⟨mSz l a, evc fun k => szAtom_eq r l a w.2 h0 h1, ?_⟩
  unfold mSz
  by_cases hc : (l.length : Int) ≤ a
  · rw [if_pos hc]; right; omega
  · rw [if_neg hc]; left; omega
theorem rdIA_of {l pre suf : List S38} {a : S38} (e : l = pre ++ a :: suf) : rd_T38 l (pre.length : Int) = a := getD_of e _
/-! ### Lists of atoms -/
def cvA (x : S35) : S38 := ⟨x.f0, x.f1⟩
def SmA (l : List S35) : Prop := ∀ x ∈ l, x.f1.length ≤ 1048576
def SmAi (l : List S38) : Prop := ∀ x ∈ l, x.f1.length ≤ 1048576
theorem cvA_small {l : List S35} (h : ∀ x ∈ l, x.f1.length ≤ 1048576) : ∀ x ∈ l.map cvA, x.f1.length ≤ 1048576 := by
  intro x hx
  obtain ⟨y, hy, rfl⟩ := List.mem_map.1 hx
  exact h y hy
theorem rdLA_of {l pre suf : List S35} {a : S35} (e : l = pre ++ a :: suf) : rd_T35 l (pre.length : Int) = a := getD_of e _
theorem szAtomS_ok (l : List S35) (a : Int) (w : (WfL (fun x : S35 => WfI x.f0 ∧ (WfL WfI) x.f1)) l) (h0 : 0 ≤ a) (h1 : a ≤ 1048576) :
    ∃ t, Ev (fun k => laws_szAtomS.f k l a) t ∧ (t < 0 ∨ 0 ≤ t ∧ t ≤ a ∧ l.length ≤ 1048576 ∧ ∀ x ∈ l, x.f1.length ≤ 1048576) := by
  have hm : l.length ≤ 9223372036854775807 := by have := w.2; unfold maxLen at this; exact this
  unfold laws_szAtomS.f
  rw [w64 (by omega) (by omega)]
  by_cases hc : a - (l.length : Int) < 0
  · simp only [if_pos hc]; exact ⟨-1, evc fun k => rfl, .inl (by omega)⟩
  · simp only [if_neg hc]
    have hl : l.length ≤ 1048576 := by omega
    have key := idx_ind l (fun pre suf => ∀ b : Int, 0 ≤ b → b ≤ a → ∃ t, Ev (fun k => laws_szAtomS.l0 k l b (pre.length : Int)) t ∧ (t < 0 ∨ 0 ≤ t ∧ t ≤ a ∧ ∀ x ∈ suf, x.f1.length ≤ 1048576)) ?_ ?_
    · obtain ⟨t, z, c⟩ := key (a - (l.length : Int)) (by omega) (by omega)
      exact ⟨t, z, c.imp id (fun ⟨p, q, r⟩ => ⟨p, q, hl, r⟩)⟩
    · intro b hb0 hb1
      refine ⟨b, evn fun k => ?_, .inr ⟨hb0, hb1, by simp⟩⟩
      simp only [laws_szAtomS.l0]
      rw [if_neg (end_not _)]
    · intro pre x suf e ih b hb0 hb1
      have hx : x ∈ l := by rw [e]; simp
      obtain ⟨t, z, c⟩ := szAtom_ok x.f0 x.f1 b (w.1 x hx).2 hb0 (by omega)
      have z' : laws_szAtom.f x.f0 x.f1 b = some t := by obtain ⟨K, hK⟩ := z; exact hK K (Nat.le_refl _)
      rcases c with c | ⟨p, q, s⟩
      · refine ⟨-1, evn fun k => ?_, .inl (by omega)⟩
        simp only [laws_szAtomS.l0]
        rw [if_pos (lt_of e), if_pos (len_nonneg _), rdLA_of e, z']
        simp only [Option.bind_some]
        rw [if_pos c]
      · obtain ⟨t2, z2, c2⟩ := ih t p (by omega)
        refine ⟨t2, Ev.step (fun k => ?_) z2, c2.imp id (fun ⟨p2, q2, r2⟩ => ⟨p2, q2, ?_⟩)⟩
        · simp only [laws_szAtomS.l0]
          rw [if_pos (lt_of e), if_pos (len_nonneg _), rdLA_of e, z']
          simp only [Option.bind_some]
          rw [if_neg (by omega), nx_of e (by omega)]
        · intro y hy
          rcases List.mem_cons.1 hy with rfl | hy
          · exact s
          · exact r2 y hy
theorem toAtomS_ev (l : List S35) (hl : l.length ≤ 1048576) (hs : ∀ x ∈ l, x.f1.length ≤ 1048576) : Ev (fun k => laws_toAtomS.f k l) (l.map cvA) := by
  have key := idx_ind l (fun pre suf => Ev (fun k => laws_toAtomS.l0 k l (pre.map cvA ++ List.replicate suf.length z38) (pre.length : Int)) (l.map cvA)) ?_ ?_
  · refine Ev.congr (fun k => ?_) key
    unfold laws_toAtomS.f
    rw [if_pos (by omega), if_pos (by omega)]
    simp
  · refine evn fun k => ?_
    simp only [laws_toAtomS.l0]
    rw [if_neg (end_not _)]
    simp
  · intro pre x suf e ih
    have hx : x.f1.length ≤ 1048576 := hs x (by rw [e]; simp)
    refine Ev.step (f := fun k => (laws_toAtom.f k x.f0 x.f1).bind fun b => laws_toAtomS.l0 k l ((pre.map cvA ++ List.replicate (suf.length + 1) z38).set pre.length (⟨b.1, b.2⟩ : S38)) ((pre ++ [x]).length : Int)) (fun k => ?_) ?_
    · simp only [laws_toAtomS.l0]
      have hc : (pre.length : Int) < ((pre.map cvA ++ List.replicate (x :: suf).length z38).length : Int) := by simp; omega
      rw [if_pos (lt_of e), if_pos (len_nonneg _), rdLA_of e, nx_of e (by omega)]
      simp only [if_pos hc]
      simp
    · refine evb (toAtom_ev x.f0 x.f1 (by omega)) ?_
      have es : (pre.map cvA ++ List.replicate (suf.length + 1) z38).set pre.length (⟨x.f0, x.f1⟩ : S38) = (pre ++ [x]).map cvA ++ List.replicate suf.length z38 := by
        rw [List.replicate_succ]
        simp [cvA]
      simp only [es]
      exact ih
theorem eqAtomS_ev (l : List S38) (hl : l.length ≤ 1048576) (hs : ∀ x ∈ l, x.f1.length ≤ 1048576) : Ev (fun k => laws_eqAtomS.f k l l) true := by
  have key := idx_ind l (fun pre suf => Ev (fun k => laws_eqAtomS.l0 k l l (pre.length : Int)) true) ?_ ?_
  · refine Ev.congr (fun k => ?_) key
    unfold laws_eqAtomS.f
    rw [if_pos rfl]; rfl
  · refine evn fun k => ?_
    simp only [laws_eqAtomS.l0]
    rw [if_neg (end_not _)]
  · intro pre x suf e ih
    have hx : x.f1.length ≤ 1048576 := hs x (by rw [e]; simp)
    refine Ev.step (f := fun k => (laws_eqAtom.f k x.f0 x.f1 x.f0 x.f1).bind fun b => if b = true then laws_eqAtomS.l0 k l l ((pre ++ [x]).length : Int) else some false) (fun k => ?_) ?_
    · simp only [laws_eqAtomS.l0]
      rw [if_pos (lt_of e), if_pos (len_nonneg _), if_pos (lt_of e), rdIA_of e, nx_of e (by omega)]
    · refine evb (eqAtom_ev x.f0 x.f1 x.f0 x.f1 (by omega)) ?_
      simp only [and_self, decide_true, if_true]
      exact ih
/-! ### Queries -/
theorem szQuery_ok (h : List Int) (d : List S35) (a : Int) (w : (WfL WfI) h ∧ (WfL (fun x : S35 => WfI x.f0 ∧ (WfL WfI) x.f1)) d) (h0 : 0 ≤ a) (h1 : a ≤ 1048576) :
    ∃ t, Ev (fun k => laws_szQuery.f k h d a) t ∧ (t < 0 ∨ 0 ≤ t ∧ t ≤ a ∧ h.length ≤ 1048576 ∧ d.length ≤ 1048576 ∧ ∀ x ∈ d, x.f1.length ≤ 1048576) := by
  unfold laws_szQuery.f
  rw [szIntS_eq h a w.1.2 h0 h1]
  simp only [Option.bind_some]
  unfold mSz
  by_cases hc : (h.length : Int) ≤ a
  · simp only [if_pos hc]
    have hn : ¬ (a - (h.length : Int) < 0) := by omega
    simp only [if_neg hn]
    obtain ⟨t, z, c⟩ := szAtomS_ok d (a - (h.length : Int)) w.2 (by omega) (by omega)
    rcases c with c | ⟨p, q, s⟩
    · exact ⟨-1, evb z (by simp only [if_pos c]; exact evc fun k => rfl), .inl (by omega)⟩
    · have hp : ¬ t < 0 := by omega
      exact ⟨t, evb z (by simp only [if_neg hp]; exact evc fun k => rfl), .inr ⟨p, by omega, by omega, s⟩⟩
  · simp only [if_neg hc]
    exact ⟨-1, evc fun k => rfl, .inl (by omega)⟩
theorem toQuery_ev (h : List Int) (d : List S35) (hh : h.length ≤ 1048576) (hl : d.length ≤ 1048576) (hs : ∀ x ∈ d, x.f1.length ≤ 1048576) : Ev (fun k => laws_toQuery.f k h d) (h, d.map cvA) := by
  unfold laws_toQuery.f
  refine evb (toIntS_ev h (by omega)) ?_
  refine evb (toAtomS_ev d hl hs) ?_
  exact evc fun k => rfl
theorem eqQuery_ev (h : List Int) (d : List S38) (hh : h.length ≤ 1048576) (hl : d.length ≤ 1048576) (hs : ∀ x ∈ d, x.f1.length ≤ 1048576) : Ev (fun k => laws_eqQuery.f k h d h d) true := by
  unfold laws_eqQuery.f
  refine evb (eqIntS_ev h h (by omega)) ?_
  simp only [decide_true, if_true]
  refine evb (eqAtomS_ev d hl hs) ?_
  simp only [if_true]
  exact evc fun k => rfl
theorem markIntS_l0 (suf : List Int) : ∀ (pre : List Int) (m : Int), 0 ≤ m → m + suf.length ≤ 9223372036854775807 → (pre ++ suf).length ≤ 17592186044416 →
    Ev (fun k => laws_markIntS.l0 k (pre ++ suf) m (pre.length : Int)) (m + (suf.length : Int), pre ++ mMarks m suf.length) := by
  induction suf with
  | nil =>
    intro pre m h0 h1 h
    refine evn fun k => ?_
    simp only [laws_markIntS.l0, List.append_nil]
    rw [if_neg (end_not _)]; simp [mMarks]
  | cons a t ih =>
    intro pre m h0 h1 h
    have hl : pre.length ≤ 140737488355328 := by simp at h; omega
    have r := ih (pre ++ [m]) (m + 1) (by omega) (by simp at h1; omega) (by simpa using h)
    have e : m + ((a :: t).length : Int) = m + 1 + (t.length : Int) := by simp; omega
    rw [e]
    refine Ev.step (fun k => ?_) (by simpa [mMarks] using r)
    simp only [laws_markIntS.l0]
    rw [if_pos (mid_lt _ _ _), if_pos (len_nonneg _), set_mid, iw (a := m) hl, w64 (by omega) (by simp at h1; omega)]
    simp
theorem markIntS_ev (l : List Int) (m : Int) (h0 : 0 ≤ m) (h1 : m ≤ 4611686018427387904) (h : l.length ≤ 17592186044416) : Ev (fun k => laws_markIntS.f k l m) (m + (l.length : Int), mMarks m l.length) := by
  have r := markIntS_l0 l [] m h0 (by omega) (by simpa using h)
  exact r
theorem heldIntS_l0 : ∀ (n : Nat) (pre : List Int) (m : Int), 0 ≤ m → m + n ≤ 9223372036854775807 → pre.length + n ≤ 17592186044416 →
    Ev (fun k => laws_heldIntS.l0 k (pre ++ mMarks m n) m (pre.length : Int)) (m + (n : Int))
  | 0, pre, m, h0, h1, h => by
    refine evn fun k => ?_
    simp only [laws_heldIntS.l0, mMarks, List.append_nil]
    rw [if_neg (end_not _)]; simp
  | n + 1, pre, m, h0, h1, h => by
    have r := heldIntS_l0 n (pre ++ [m]) (m + 1) (by omega) (by omega) (by simp; omega)
    have e : m + ((n + 1 : Nat) : Int) = m + 1 + (n : Int) := by omega
    rw [e]
    refine Ev.step (fun k => ?_) (by simpa [mMarks] using r)
    rw [show mMarks m (n + 1) = m :: mMarks (m + 1) n from rfl]
    simp only [laws_heldIntS.l0]
    rw [if_pos (mid_lt _ _ _), if_pos (len_nonneg _), rd_mid, if_pos rfl, iw (a := m) (by omega), w64 (by omega) (by omega)]
    simp
theorem heldIntS_ev (m : Int) (n : Nat) (h0 : 0 ≤ m) (h1 : m ≤ 4611686018427387904) (h : n ≤ 17592186044416) : Ev (fun k => laws_heldIntS.f k (mMarks m n) m) (m + (n : Int)) := by
  have r := heldIntS_l0 n [] m h0 (by omega) (by simpa using h)
  exact r
theorem l2Has_ev (l : List Int) (t : Int) (h : l.length ≤ 140737488355328) : Ev (fun k => spec_l2Has.f k l t) (decide (t ∈ l)) := by
  refine idx_ind l (fun pre suf => Ev (fun k => spec_l2Has.l0 k l t (pre.length : Int)) (decide (t ∈ suf))) ?_ ?_
  · refine evn fun k => ?_
    simp only [spec_l2Has.l0]
    rw [if_neg (end_not _)]; simp
  · intro pre a suf e ih
    by_cases hc : a = t
    · rw [show decide (t ∈ a :: suf) = true by simp [hc]]
      refine evn fun k => ?_
      simp only [spec_l2Has.l0]
      rw [if_pos (lt_of e), if_pos (len_nonneg _), rd_of e, if_pos hc]
    · rw [show decide (t ∈ a :: suf) = decide (t ∈ suf) by simp [Ne.symm hc]]
      refine Ev.step (fun k => ?_) ih
      simp only [spec_l2Has.l0]
      rw [if_pos (lt_of e), if_pos (len_nonneg _), rd_of e, if_neg hc, nx_of e h]
/-! ### The variables of a body -/
def mBV (acc : List Int) (args : List Int) : List Int := args.foldl (fun acc t => if t ≥ 0 ∧ ¬ t ∈ acc then acc ++ [t] else acc) acc
theorem mBV_cons (acc : List Int) (t : Int) (r : List Int) : mBV acc (t :: r) = mBV (if t ≥ 0 ∧ ¬ t ∈ acc then acc ++ [t] else acc) r := rfl
theorem mBV_len : ∀ (args acc : List Int), (mBV acc args).length ≤ acc.length + args.length
  | [], acc => by simp [mBV]
  | t :: r, acc => by
    rw [mBV_cons]
    have h := mBV_len r (if t ≥ 0 ∧ ¬ t ∈ acc then acc ++ [t] else acc)
    by_cases hc : t ≥ 0 ∧ ¬ t ∈ acc
    · rw [if_pos hc] at h ⊢; simp at h ⊢; omega
    · rw [if_neg hc] at h ⊢; simp at h ⊢; omega
theorem mBV_mem : ∀ (args acc : List Int) (x : Int), x ∈ mBV acc args ↔ x ∈ acc ∨ (x ≥ 0 ∧ x ∈ args)
  | [], acc, x => by simp [mBV]
  | t :: r, acc, x => by
    rw [mBV_cons, mBV_mem r]
    by_cases hc : t ≥ 0 ∧ ¬ t ∈ acc
    · rw [if_pos hc]
      simp only [List.mem_append, List.mem_cons, List.not_mem_nil, or_false]
      constructor
      · rintro ((h | h) | h)
        · exact .inl h
        · exact .inr ⟨h ▸ hc.1, .inl h⟩
        · exact .inr ⟨h.1, .inr h.2⟩
      · rintro (h | ⟨h1, h | h⟩)
        · exact .inl (.inl h)
        · exact .inl (.inr h)
        · exact .inr ⟨h1, h⟩
    · rw [if_neg hc]
      simp only [List.mem_cons]
      constructor
      · rintro (h | h)
        · exact .inl h
        · exact .inr ⟨h.1, .inr h.2⟩
      · rintro (h | ⟨h1, h | h⟩)
        · exact .inl h
        · subst h
          rcases Decidable.em (x ∈ acc) with hm | hm
          · exact .inl hm
          · exact absurd ⟨h1, hm⟩ hc
        · exact .inr ⟨h1, h⟩
def mVars (d : List S38) (acc : List Int) : List Int := d.foldl (fun acc a => mBV acc a.f1) acc
theorem mVars_mem : ∀ (d : List S38) (acc : List Int) (x : Int), x ∈ mVars d acc ↔ x ∈ acc ∨ (x ≥ 0 ∧ ∃ a ∈ d, x ∈ a.f1)
  | [], acc, x => by simp [mVars]
  | a :: t, acc, x => by
    rw [show mVars (a :: t) acc = mVars t (mBV acc a.f1) from rfl, mVars_mem t, mBV_mem]
    simp only [List.mem_cons, exists_eq_or_imp]
    constructor
    · rintro ((h | h) | h)
      · exact .inl h
      · exact .inr ⟨h.1, .inl h.2⟩
      · exact .inr ⟨h.1, .inr h.2⟩
    · rintro (h | ⟨h1, h | h⟩)
      · exact .inl (.inl h)
      · exact .inl (.inr ⟨h1, h⟩)
      · exact .inr ⟨h1, h⟩
theorem mVars_len : ∀ (d : List S38) (acc : List Int), (∀ x ∈ d, x.f1.length ≤ 1048576) → (mVars d acc).length ≤ acc.length + d.length * 1048576
  | [], acc, _ => by simp [mVars]
  | a :: t, acc, h => by
    rw [show mVars (a :: t) acc = mVars t (mBV acc a.f1) from rfl]
    have h1 := mVars_len t (mBV acc a.f1) (fun x hx => h x (List.mem_cons_of_mem _ hx))
    have h2 := mBV_len a.f1 acc
    have h3 := h a List.mem_cons_self
    simp only [List.length_cons, Nat.add_mul]
    omega
theorem bodyVars_l1 (hh : List Int) (d : List S38) (i : Int) (x : S38) (R : List Int) (h0 : 0 ≤ i) (h1 : i < (d.length : Int)) (hx : rd_T38 d i = x) (hxl : x.f1.length ≤ 1048576) (hi : i ≤ 1048576) :
    ∀ (acc : List Int), acc.length ≤ 1099511627776 → (Ev (fun k => spec_l4BodyVars.l0 k (mBV acc x.f1) (i + 1) hh d) R) → Ev (fun k => spec_l4BodyVars.l1 k acc i 0 hh d) R := by
  intro acc hacc hend
  have key := idx_ind x.f1 (fun pre suf => ∀ a2 : List Int, a2.length + suf.length ≤ 1099512676352 → mBV a2 suf = mBV acc x.f1 → Ev (fun k => spec_l4BodyVars.l1 k a2 i (pre.length : Int) hh d) R) ?_ ?_
  · exact key acc (by omega) rfl
  · intro a2 h2 e2
    have e3 : a2 = mBV acc x.f1 := e2
    rw [e3]
    refine Ev.step (fun k => ?_) hend
    simp only [spec_l4BodyVars.l1]
    rw [if_pos h0, if_pos h1, hx, if_neg (end_not _), w64 (by omega) (by omega)]
  · intro pre t suf e ih a2 h2 e2
    have hp := lt_of e
    rw [mBV_cons] at e2
    have hl2 : a2.length < 17592186044416 := by simp at h2; omega
    by_cases ht : t ≥ 0
    · refine Ev.step (f := fun k => (spec_l2Has.f k a2 t).bind fun b => if b = true then spec_l4BodyVars.l1 k a2 i ((pre ++ [t]).length : Int) hh d else (if a2.length < 17592186044416 then spec_l4BodyVars.l1 k (a2 ++ [t]) i ((pre ++ [t]).length : Int) hh d else none)) (fun k => ?_) ?_
      · simp only [spec_l4BodyVars.l1]
        rw [if_pos h0, if_pos h1, hx, if_pos hp, if_pos (len_nonneg _), rd_of e, if_pos ht, nx_of e (by omega)]
      · refine evb (l2Has_ev a2 t (by omega)) ?_
        by_cases hm : t ∈ a2
        · simp only [hm, decide_true, if_true]
          rw [if_neg (fun h => h.2 hm)] at e2
          exact ih a2 (by simp at h2; omega) e2
        · simp only [hm, decide_false, Bool.false_eq_true, if_false, if_pos hl2]
          rw [if_pos ⟨ht, hm⟩] at e2
          exact ih (a2 ++ [t]) (by simp at h2 ⊢; omega) e2
    · rw [if_neg (fun h => ht h.1)] at e2
      refine Ev.step (fun k => ?_) (ih a2 (by simp at h2; omega) e2)
      simp only [spec_l4BodyVars.l1]
      rw [if_pos h0, if_pos h1, hx, if_pos hp, if_pos (len_nonneg _), rd_of e, if_neg ht, nx_of e (by omega)]
theorem bodyVars_ev (hh : List Int) (d : List S38) (hl : d.length ≤ 1048576) (hs : ∀ x ∈ d, x.f1.length ≤ 1048576) : Ev (fun k => spec_l4BodyVars.f k hh d) (mVars d []) := by
  have key := idx_ind d (fun pre suf => ∀ acc : List Int, acc.length ≤ pre.length * 1048576 → mVars suf acc = mVars d [] → Ev (fun k => spec_l4BodyVars.l0 k acc (pre.length : Int) hh d) (mVars d [])) ?_ ?_
  · exact key [] (by simp) rfl
  · intro acc ha e
    have e2 : acc = mVars d [] := e
    rw [← e2]
    refine evn fun k => ?_
    simp only [spec_l4BodyVars.l0]
    rw [if_neg (end_not _)]
  · intro pre x suf e ih acc ha e2
    have hx : x.f1.length ≤ 1048576 := hs x (by rw [e]; simp)
    have hp : pre.length < 1048576 := by rw [e] at hl; simp at hl; omega
    have hb := mBV_len x.f1 acc
    have r := ih (mBV acc x.f1) (by simp only [List.length_append, List.length_singleton, Nat.add_mul]; omega) e2
    have ei : ((pre ++ [x]).length : Int) = (pre.length : Int) + 1 := by simp
    rw [ei] at r
    refine Ev.step (fun k => ?_) (bodyVars_l1 hh d (pre.length : Int) x (mVars d []) (len_nonneg _) (lt_of e) (rdIA_of e) hx (by omega) acc (by omega) r)
    simp only [spec_l4BodyVars.l0]
    rw [if_pos (lt_of e)]
theorem slContains_ev (l : List Int) (t : Int) (h : l.length ≤ 140737488355328) : Ev (fun k => slices_Contains_int_int.f k l t) (decide (t ∈ l)) := by
  have key : ∃ j : Int, Ev (fun k => slices_Index_int_int.f k l t) j ∧ (j ≥ 0 ↔ t ∈ l) := by
    refine idx_ind l (fun pre suf => ∃ j : Int, Ev (fun k => slices_Index_int_int.l0 k l t (l.length : Int) (pre.length : Int)) j ∧ (j ≥ 0 ↔ t ∈ suf)) ?_ ?_
    · refine ⟨-1, evn fun k => ?_, by simp⟩
      simp only [slices_Index_int_int.l0]
      rw [if_neg (end_not _)]
    · intro pre a suf e ih
      by_cases hc : t = a
      · refine ⟨(pre.length : Int), evn fun k => ?_, by simp [hc]⟩
        simp only [slices_Index_int_int.l0]
        rw [if_pos (lt_of e), if_pos (len_nonneg _), if_pos (lt_of e), rd_of e, if_pos hc]
      · obtain ⟨j, z, hj⟩ := ih
        refine ⟨j, Ev.step (fun k => ?_) z, by rw [hj]; simp [hc]⟩
        simp only [slices_Index_int_int.l0]
        rw [if_pos (lt_of e), if_pos (len_nonneg _), if_pos (lt_of e), rd_of e, if_neg hc, nx_of e h]
  obtain ⟨j, z, hj⟩ := key
  unfold slices_Contains_int_int.f
  refine evb z ?_
  refine evc fun k => ?_
  by_cases hm : t ∈ l
  · rw [decide_eq_true hm, decide_eq_true (hj.2 hm)]
  · rw [decide_eq_false hm, decide_eq_false (fun h => hm (hj.1 h))]
/-- A term is an argument of an atom of the body. -/
def mOcc (d : List S38) (t : Int) : Bool := d.any (fun a => decide (t ∈ a.f1))
theorem occurs_ev (hh : List Int) (d : List S38) (t : Int) (hl : d.length ≤ 1048576) (hs : ∀ x ∈ d, x.f1.length ≤ 1048576) : Ev (fun k => impl_Query_occurs.f k hh d t) (mOcc d t) := by
  refine idx_ind d (fun pre suf => Ev (fun k => impl_Query_occurs.l0 k t d (d.length : Int) (pre.length : Int)) (mOcc suf t)) ?_ ?_
  · refine evn fun k => ?_
    simp only [impl_Query_occurs.l0]
    rw [if_neg (end_not _)]; rfl
  · intro pre x suf e ih
    have hx : x.f1.length ≤ 1048576 := hs x (by rw [e]; simp)
    refine Ev.step (f := fun k => (slices_Contains_int_int.f k x.f1 t).bind fun b => if b = true then some true else impl_Query_occurs.l0 k t d (d.length : Int) ((pre ++ [x]).length : Int)) (fun k => ?_) ?_
    · simp only [impl_Query_occurs.l0]
      rw [if_pos (lt_of e), if_pos (len_nonneg _), if_pos (lt_of e), rdIA_of e, nx_of e (by omega)]
    · refine evb (slContains_ev x.f1 t (by omega)) ?_
      by_cases hm : t ∈ x.f1
      · simp only [hm, decide_true, if_true]
        rw [show mOcc (x :: suf) t = true by simp [mOcc, hm]]
        exact evc fun k => rfl
      · simp only [hm, decide_false, Bool.false_eq_true, if_false]
        rw [show mOcc (x :: suf) t = mOcc suf t by simp [mOcc, hm]]
        exact ih
theorem mVars_occ (d : List S38) (t : Int) (h : 0 ≤ t) : decide (t ∈ mVars d []) = mOcc d t := by
  rw [Bool.eq_iff_iff]
  simp only [decide_eq_true_eq, mVars_mem, mOcc, List.any_eq_true]
  simp [h]
/-! ### VarsOf -/
def mInQ (h : List Int) (d : List S38) (v : Int) : Bool := mOcc d v || decide (v ∈ h)
/-- The variables from 20 - n on. -/
def mVO (h : List Int) (d : List S38) : Nat → List Int
  | 0 => []
  | n + 1 => (if mInQ h d (19 - (n : Int)) = true then [19 - (n : Int)] else []) ++ mVO h d n
theorem mVO_len (h : List Int) (d : List S38) : ∀ n, (mVO h d n).length ≤ n
  | 0 => by simp [mVO]
  | n + 1 => by
    have := mVO_len h d n
    simp only [mVO, List.length_append]
    split <;> simp <;> omega
theorem specVarsOf_ev (h : List Int) (d : List S38) (hh : h.length ≤ 1048576) (hl : d.length ≤ 1048576) (hs : ∀ x ∈ d, x.f1.length ≤ 1048576) : Ev (fun k => spec_VarsOf.f k h d) (mVO h d 20) := by
  have key : ∀ (n : Nat) (v : Int) (acc : List Int), v + n = 20 → 0 ≤ v → acc.length ≤ 1000000 - n → n ≤ 20 → Ev (fun k => spec_VarsOf.l0 k acc v h d) (acc ++ mVO h d n) := by
    intro n
    induction n with
    | zero =>
      intro v acc e _ _ _
      refine evn fun k => ?_
      simp only [spec_VarsOf.l0]
      rw [if_neg (by omega)]; simp [mVO]
    | succ n ih =>
      intro v acc e h0 ha hn
      have hv : v = 19 - (n : Int) := by omega
      have hw : wrap64 (v + 1) = v + 1 := w64 (by omega) (by omega)
      have hacc : acc.length < 17592186044416 := by omega
      refine Ev.step (fun k => spec_VarsOf.l0.eq_2 ..) ?_
      simp only [if_pos (show v < 20 by omega), hw]
      refine evb (bodyVars_ev h d hl hs) ?_
      have hvl := mVars_len d [] hs
      refine evb (l2Has_ev (mVars d []) v (by simp at hvl; omega)) ?_
      rw [mVars_occ d v h0]
      have hq : mInQ h d (19 - (n : Int)) = (mOcc d v || decide (v ∈ h)) := by rw [← hv]; rfl
      by_cases ho : mOcc d v = true
      · have r := ih (v + 1) (acc ++ [v]) (by omega) (by omega) (by simp; omega) (by omega)
        simp only [ho, if_true, if_pos hacc]
        simp only [mVO, hq, ho, Bool.true_or, if_true]
        rw [← hv, ← List.append_assoc]
        exact r
      · simp only [if_neg ho]
        refine evb (l2Has_ev h v (by omega)) ?_
        have ho2 : mOcc d v = false := by simpa using ho
        by_cases hm : v ∈ h
        · have r := ih (v + 1) (acc ++ [v]) (by omega) (by omega) (by simp; omega) (by omega)
          simp only [hm, decide_true, if_true, if_pos hacc]
          simp only [mVO, hq, ho2, hm, decide_true, Bool.false_or, if_true]
          rw [← hv, ← List.append_assoc]
          exact r
        · have r := ih (v + 1) acc (by omega) (by omega) (by omega) (by omega)
          simp only [hm, decide_false, Bool.false_eq_true, if_false]
          simp only [mVO, hq, ho2, hm, decide_false, Bool.false_or, Bool.false_eq_true, if_false, List.nil_append]
          exact r
  have r := key 20 0 [] (by omega) (by omega) (by simp) (by omega)
  exact r
theorem implVarsOf_ev (h : List Int) (d : List S38) (hh : h.length ≤ 1048576) (hl : d.length ≤ 1048576) (hs : ∀ x ∈ d, x.f1.length ≤ 1048576) : Ev (fun k => impl_VarsOf.f k h d) (mVO h d 20) := by
  have key : ∀ (n : Nat) (v : Int) (acc : List Int), v + n = 20 → 0 ≤ v → acc.length ≤ 1000000 - n → n ≤ 20 → Ev (fun k => impl_VarsOf.l0 k acc v h d) (acc ++ mVO h d n) := by
    intro n
    induction n with
    | zero =>
      intro v acc e _ _ _
      refine evn fun k => ?_
      simp only [impl_VarsOf.l0]
      rw [if_neg (by omega)]; simp [mVO]
    | succ n ih =>
      intro v acc e h0 ha hn
      have hv : v = 19 - (n : Int) := by omega
      have hw : wrap64 (v + 1) = v + 1 := w64 (by omega) (by omega)
      have hacc : acc.length < 17592186044416 := by omega
      refine Ev.step (fun k => impl_VarsOf.l0.eq_2 ..) ?_
      simp only [if_pos (show v < 20 by omega), hw]
      refine evb (occurs_ev h d v hl hs) ?_
      have hq : mInQ h d (19 - (n : Int)) = (mOcc d v || decide (v ∈ h)) := by rw [← hv]; rfl
      by_cases ho : mOcc d v = true
      · have r := ih (v + 1) (acc ++ [v]) (by omega) (by omega) (by simp; omega) (by omega)
        simp only [ho, if_true, if_pos hacc]
        simp only [mVO, hq, ho, Bool.true_or, if_true]
        rw [← hv, ← List.append_assoc]
        exact r
      · simp only [if_neg ho]
        refine evb (slContains_ev h v (by omega)) ?_
        have ho2 : mOcc d v = false := by simpa using ho
        by_cases hm : v ∈ h
        · have r := ih (v + 1) (acc ++ [v]) (by omega) (by omega) (by simp; omega) (by omega)
          simp only [hm, decide_true, if_true, if_pos hacc]
          simp only [mVO, hq, ho2, hm, decide_true, Bool.false_or, if_true]
          rw [← hv, ← List.append_assoc]
          exact r
        · have r := ih (v + 1) acc (by omega) (by omega) (by omega) (by omega)
          simp only [hm, decide_false, Bool.false_eq_true, if_false]
          simp only [mVO, hq, ho2, hm, decide_false, Bool.false_or, Bool.false_eq_true, if_false, List.nil_append]
          exact r
  have r := key 20 0 [] (by omega) (by omega) (by simp) (by omega)
  exact r

end Go.Proofs.Ytpfpappamlgnoaa.Pure
