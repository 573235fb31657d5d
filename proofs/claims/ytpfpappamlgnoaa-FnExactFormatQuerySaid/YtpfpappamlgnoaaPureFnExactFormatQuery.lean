/- The pure statement of the law FnExactFormatQuery: the program's function and the reference's agree, for all arguments within the row's bounds. -/
import Derived.Test.YtpfpappamlgnoaaQFnExactFormatQueryx7
import Derived.Test.YtpfpappamlgnoaaMine
import Derived.Test.YtpfpappamlgnoaaOpen
set_option linter.unusedVariables false
set_option linter.unusedSimpArgs false
namespace Go.Proofs.Ytpfpappamlgnoaa.Pure
open Go.RowKit Go.Proofs.Ytpfpappamlgnoaa.QFnExactFormatQuery Go.Proofs.YtpfpappamlgnoaaW.PrintWords Go.Proofs.YtpfpappamlgnoaaW.PrintLast Go.Proofs.Ytpfpappamlgnoaa.Mine Go.Proofs.Ytpfpappamlgnoaa.Open

theorem szIntS_eq (l : List Int) (a : Int) (h : l.length ≤ maxLen) (h0 : 0 ≤ a) (h1 : a ≤ 1048576) : laws_szIntS.f l a = some (mSz l a) := by
  unfold maxLen at h
  unfold laws_szIntS.f mSz
  rw [w64 (by omega) (by omega)]
  by_cases hc : (l.length : Int) ≤ a
  · rw [if_neg (by omega), if_pos hc]
  · rw [if_pos (by omega), if_neg hc]

/-! ### A copy of a list -/
theorem toIntS_l0 (suf : List Int) : ∀ pre : List Int, (pre ++ suf).length ≤ 17592186044416 → Ev (fun k => laws_toIntS.l0 k (pre ++ suf) (pre ++ List.replicate suf.length 0) (pre.length : Int)) (pre ++ suf) := by
  induction suf with
  | nil =>
    intro pre h
    simp only [List.append_nil, List.length_nil, List.replicate_zero]
    refine evn fun k => ?_
    simp only [laws_toIntS.l0]
    rw [if_neg (end_not _)]
  | cons a t ih =>
    intro pre h
    have h1 := ih (pre ++ [a]) (by simpa using h)
    have hl : pre.length ≤ 140737488355328 := by simp at h; omega
    refine Ev.step (fun k => ?_) (by simpa using h1)
    simp only [laws_toIntS.l0]
    rw [if_pos (mid_lt _ _ _), if_pos (len_nonneg _)]
    simp only [List.length_cons, List.replicate_succ]
    rw [if_pos (mid_lt _ _ _), rd_mid, set_mid, iw (a := a) hl]
    simp
theorem toIntS_ev (l : List Int) (h : l.length ≤ 17592186044416) : Ev (fun k => laws_toIntS.f k l) l := by
  have h1 := toIntS_l0 l [] (by simpa using h)
  refine Ev.congr (fun k => ?_) h1
  unfold laws_toIntS.f
  rw [if_pos (by omega), if_pos (by simp; omega)]
  simp

/-! ### Equal lists -/
theorem eqIntS_l0 (suf : List Int) : ∀ (pre suf2 pre2 : List Int), pre.length = pre2.length → suf.length = suf2.length → (pre ++ suf).length ≤ 17592186044416 →
    Ev (fun k => laws_eqIntS.l0 k (pre ++ suf) (pre2 ++ suf2) (pre.length : Int)) (decide (suf = suf2)) := by
  induction suf with
  | nil =>
    intro pre suf2 pre2 hp hs h
    obtain rfl : suf2 = [] := List.eq_nil_of_length_eq_zero (by simpa using hs.symm)
    simp only [List.append_nil]
    refine evn fun k => ?_
    simp only [laws_eqIntS.l0]
    rw [if_neg (end_not _)]; simp
  | cons a t ih =>
    intro pre suf2 pre2 hp hs h
    obtain ⟨b, t2, rfl⟩ : ∃ b t2, suf2 = b :: t2 := by cases suf2 with
      | nil => simp at hs
      | cons b t2 => exact ⟨b, t2, rfl⟩
    have hl : pre.length ≤ 140737488355328 := by simp at h; omega
    have r1 : rd (pre2 ++ b :: t2) (pre.length : Int) = b := by rw [hp]; exact rd_mid _ _ _
    have l1 : (pre.length : Int) < ((pre2 ++ b :: t2).length : Int) := by rw [hp]; exact mid_lt _ _ _
    by_cases hab : a = b
    · subst hab
      have h1 := ih (pre ++ [a]) t2 (pre2 ++ [a]) (by simpa using hp) (by simpa using hs) (by simpa using h)
      have e : decide (a :: t = a :: t2) = decide (t = t2) := by simp
      rw [e]
      refine Ev.step (fun k => ?_) (by simpa using h1)
      simp only [laws_eqIntS.l0]
      rw [if_pos (mid_lt _ _ _), if_pos (len_nonneg _), if_pos l1, rd_mid, r1, if_pos rfl, iw (a := a) hl]
      simp
    · have e : decide (a :: t = b :: t2) = false := by simp [hab]
      rw [e]
      refine evn fun k => ?_
      simp only [laws_eqIntS.l0]
      rw [if_pos (mid_lt _ _ _), if_pos (len_nonneg _), if_pos l1, rd_mid, r1, if_neg hab]
theorem eqIntS_ev (l l2 : List Int) (h : l.length ≤ 17592186044416) : Ev (fun k => laws_eqIntS.f k l l2) (decide (l = l2)) := by
  by_cases hl : l.length = l2.length
  · have h1 := eqIntS_l0 l [] l2 [] rfl hl (by simpa using h)
    refine Ev.congr (fun k => ?_) h1
    unfold laws_eqIntS.f
    rw [if_pos (by omega)]
    simp
  · have e : decide (l = l2) = false := by simp; intro h; exact hl (by rw [h])
    rw [e]
    refine evc fun k => ?_
    unfold laws_eqIntS.f
    rw [if_neg (by omega)]

theorem szAtom_eq (r : Int) (l : List Int) (a : Int) (h : l.length ≤ maxLen) (h0 : 0 ≤ a) (h1 : a ≤ 1048576) : laws_szAtom.f r l a = some (mSz l a) := by
  unfold laws_szAtom.f
  rw [szIntS_eq l a h h0 h1]
  simp only [Option.bind_some]
  unfold mSz
  by_cases hc : (l.length : Int) ≤ a
  · simp only [if_pos hc]; rw [if_neg (by omega)]
  · simp only [if_neg hc]; rfl
theorem toAtom_ev (r : Int) (l : List Int) (h : l.length ≤ 17592186044416) : Ev (fun k => laws_toAtom.f k r l) (r, l) := by
  unfold laws_toAtom.f
  refine evb (toIntS_ev l h) ?_
  exact evc fun k => rfl
theorem eqAtom_ev (r : Int) (l : List Int) (q : Int) (m : List Int) (h : l.length ≤ 17592186044416) : Ev (fun k => laws_eqAtom.f k r l q m) (decide (r = q ∧ l = m)) := by
  unfold laws_eqAtom.f
  by_cases hr : r = q
  · simp only [if_pos hr]
    refine evb (eqIntS_ev l m h) ?_
    refine evc fun k => ?_
    by_cases e : l = m
    · simp [e, hr]
    · simp [e]
  · simp only [if_neg hr]
    refine evc fun k => ?_
    simp [hr]
theorem szAtom_ok (r : Int) (l : List Int) (a : Int) (w : (WfL WfI) l) (h0 : 0 ≤ a) (h1 : a ≤ 1048576) : ∃ t, Ev (fun _ : Nat => laws_szAtom.f r l a) t ∧ (t < 0 ∨ 0 ≤ t ∧ t ≤ a ∧ l.length ≤ 1048576) := by
  refine ⟨mSz l a, evc fun k => szAtom_eq r l a w.2 h0 h1, ?_⟩
  unfold mSz
  by_cases hc : (l.length : Int) ≤ a
  · rw [if_pos hc]; right; omega
  · rw [if_neg hc]; left; omega

theorem rdIA_of {l pre suf : List S38} {a : S38} (e : l = pre ++ a :: suf) : rd_T38 l (pre.length : Int) = a := getD_of e _

/-! ### Lists of atoms -/
def cvA (x : S35) : S38 := ⟨x.f0, x.f1⟩
def SmA (l : List S35) : Prop := ∀ x ∈ l, x.f1.length ≤ 1048576
def SmAi (l : List S38) : Prop := ∀ x ∈ l, x.f1.length ≤ 1048576
theorem cvA_small {l : List S35} (h : ∀ x ∈ l, x.f1.length ≤ 1048576) : ∀ x ∈ l.map cvA, x.f1.length ≤ 1048576 := by
  intro x hx
  obtain ⟨y, hy, rfl⟩ := List.mem_map.1 hx
  exact h y hy
theorem rdLA_of {l pre suf : List S35} {a : S35} (e : l = pre ++ a :: suf) : rd_T35 l (pre.length : Int) = a := getD_of e _
theorem szAtomS_ok (l : List S35) (a : Int) (w : (WfL (fun x : S35 => WfI x.f0 ∧ (WfL WfI) x.f1)) l) (h0 : 0 ≤ a) (h1 : a ≤ 1048576) :
    ∃ t, Ev (fun k => laws_szAtomS.f k l a) t ∧ (t < 0 ∨ 0 ≤ t ∧ t ≤ a ∧ l.length ≤ 1048576 ∧ ∀ x ∈ l, x.f1.length ≤ 1048576) := by
  have hm : l.length ≤ 9223372036854775807 := by have := w.2; unfold maxLen at this; exact this
  unfold laws_szAtomS.f
  rw [w64 (by omega) (by omega)]
  by_cases hc : a - (l.length : Int) < 0
  · simp only [if_pos hc]; exact ⟨-1, evc fun k => rfl, .inl (by omega)⟩
  · simp only [if_neg hc]
    have hl : l.length ≤ 1048576 := by omega
    have key := idx_ind l (fun pre suf => ∀ b : Int, 0 ≤ b → b ≤ a → ∃ t, Ev (fun k => laws_szAtomS.l0 k l b (pre.length : Int)) t ∧ (t < 0 ∨ 0 ≤ t ∧ t ≤ a ∧ ∀ x ∈ suf, x.f1.length ≤ 1048576)) ?_ ?_
    · obtain ⟨t, z, c⟩ := key (a - (l.length : Int)) (by omega) (by omega)
      exact ⟨t, z, c.imp id (fun ⟨p, q, r⟩ => ⟨p, q, hl, r⟩)⟩
    · intro b hb0 hb1
      refine ⟨b, evn fun k => ?_, .inr ⟨hb0, hb1, by simp⟩⟩
      simp only [laws_szAtomS.l0]
      rw [if_neg (end_not _)]
    · intro pre x suf e ih b hb0 hb1
      have hx : x ∈ l := by rw [e]; simp
      obtain ⟨t, z, c⟩ := szAtom_ok x.f0 x.f1 b (w.1 x hx).2 hb0 (by omega)
      have z' : laws_szAtom.f x.f0 x.f1 b = some t := by obtain ⟨K, hK⟩ := z; exact hK K (Nat.le_refl _)
      rcases c with c | ⟨p, q, s⟩
      · refine ⟨-1, evn fun k => ?_, .inl (by omega)⟩
        simp only [laws_szAtomS.l0]
        rw [if_pos (lt_of e), if_pos (len_nonneg _), rdLA_of e, z']
        simp only [Option.bind_some]
        rw [if_pos c]
      · obtain ⟨t2, z2, c2⟩ := ih t p (by omega)
        refine ⟨t2, Ev.step (fun k => ?_) z2, c2.imp id (fun ⟨p2, q2, r2⟩ => ⟨p2, q2, ?_⟩)⟩
        · simp only [laws_szAtomS.l0]
          rw [if_pos (lt_of e), if_pos (len_nonneg _), rdLA_of e, z']
          simp only [Option.bind_some]
          rw [if_neg (by omega), nx_of e (by omega)]
        · intro y hy
          rcases List.mem_cons.1 hy with rfl | hy
          · exact s
          · exact r2 y hy
theorem toAtomS_ev (l : List S35) (hl : l.length ≤ 1048576) (hs : ∀ x ∈ l, x.f1.length ≤ 1048576) : Ev (fun k => laws_toAtomS.f k l) (l.map cvA) := by
  have key := idx_ind l (fun pre suf => Ev (fun k => laws_toAtomS.l0 k l (pre.map cvA ++ List.replicate suf.length z38) (pre.length : Int)) (l.map cvA)) ?_ ?_
  · refine Ev.congr (fun k => ?_) key
    unfold laws_toAtomS.f
    rw [if_pos (by omega), if_pos (by omega)]
    simp
  · refine evn fun k => ?_
    simp only [laws_toAtomS.l0]
    rw [if_neg (end_not _)]
    simp
  · intro pre x suf e ih
    have hx : x.f1.length ≤ 1048576 := hs x (by rw [e]; simp)
    refine Ev.step (f := fun k => (laws_toAtom.f k x.f0 x.f1).bind fun b => laws_toAtomS.l0 k l ((pre.map cvA ++ List.replicate (suf.length + 1) z38).set pre.length (⟨b.1, b.2⟩ : S38)) ((pre ++ [x]).length : Int)) (fun k => ?_) ?_
    · simp only [laws_toAtomS.l0]
      have hc : (pre.length : Int) < ((pre.map cvA ++ List.replicate (x :: suf).length z38).length : Int) := by simp; omega
      rw [if_pos (lt_of e), if_pos (len_nonneg _), rdLA_of e, nx_of e (by omega)]
      simp only [if_pos hc]
      simp
    · refine evb (toAtom_ev x.f0 x.f1 (by omega)) ?_
      have es : (pre.map cvA ++ List.replicate (suf.length + 1) z38).set pre.length (⟨x.f0, x.f1⟩ : S38) = (pre ++ [x]).map cvA ++ List.replicate suf.length z38 := by
        rw [List.replicate_succ]
        simp [cvA]
      simp only [es]
      exact ih
theorem eqAtomS_ev (l : List S38) (hl : l.length ≤ 1048576) (hs : ∀ x ∈ l, x.f1.length ≤ 1048576) : Ev (fun k => laws_eqAtomS.f k l l) true := by
  have key := idx_ind l (fun pre suf => Ev (fun k => laws_eqAtomS.l0 k l l (pre.length : Int)) true) ?_ ?_
  · refine Ev.congr (fun k => ?_) key
    unfold laws_eqAtomS.f
    rw [if_pos rfl]; rfl
  · refine evn fun k => ?_
    simp only [laws_eqAtomS.l0]
    rw [if_neg (end_not _)]
  · intro pre x suf e ih
    have hx : x.f1.length ≤ 1048576 := hs x (by rw [e]; simp)
    refine Ev.step (f := fun k => (laws_eqAtom.f k x.f0 x.f1 x.f0 x.f1).bind fun b => if b = true then laws_eqAtomS.l0 k l l ((pre ++ [x]).length : Int) else some false) (fun k => ?_) ?_
    · simp only [laws_eqAtomS.l0]
      rw [if_pos (lt_of e), if_pos (len_nonneg _), if_pos (lt_of e), rdIA_of e, nx_of e (by omega)]
    · refine evb (eqAtom_ev x.f0 x.f1 x.f0 x.f1 (by omega)) ?_
      simp only [and_self, decide_true, if_true]
      exact ih

/-! ### Queries -/
theorem szQuery_ok (h : List Int) (d : List S35) (a : Int) (w : (WfL WfI) h ∧ (WfL (fun x : S35 => WfI x.f0 ∧ (WfL WfI) x.f1)) d) (h0 : 0 ≤ a) (h1 : a ≤ 1048576) :
    ∃ t, Ev (fun k => laws_szQuery.f k h d a) t ∧ (t < 0 ∨ 0 ≤ t ∧ t ≤ a ∧ h.length ≤ 1048576 ∧ d.length ≤ 1048576 ∧ ∀ x ∈ d, x.f1.length ≤ 1048576) := by
  unfold laws_szQuery.f
  rw [szIntS_eq h a w.1.2 h0 h1]
  simp only [Option.bind_some]
  unfold mSz
  by_cases hc : (h.length : Int) ≤ a
  · simp only [if_pos hc]
    have hn : ¬ (a - (h.length : Int) < 0) := by omega
    simp only [if_neg hn]
    obtain ⟨t, z, c⟩ := szAtomS_ok d (a - (h.length : Int)) w.2 (by omega) (by omega)
    rcases c with c | ⟨p, q, s⟩
    · exact ⟨-1, evb z (by simp only [if_pos c]; exact evc fun k => rfl), .inl (by omega)⟩
    · have hp : ¬ t < 0 := by omega
      exact ⟨t, evb z (by simp only [if_neg hp]; exact evc fun k => rfl), .inr ⟨p, by omega, by omega, s⟩⟩
  · simp only [if_neg hc]
    exact ⟨-1, evc fun k => rfl, .inl (by omega)⟩
theorem toQuery_ev (h : List Int) (d : List S35) (hh : h.length ≤ 1048576) (hl : d.length ≤ 1048576) (hs : ∀ x ∈ d, x.f1.length ≤ 1048576) : Ev (fun k => laws_toQuery.f k h d) (h, d.map cvA) := by
  unfold laws_toQuery.f
  refine evb (toIntS_ev h (by omega)) ?_
  refine evb (toAtomS_ev d hl hs) ?_
  exact evc fun k => rfl
theorem eqQuery_ev (h : List Int) (d : List S38) (hh : h.length ≤ 1048576) (hl : d.length ≤ 1048576) (hs : ∀ x ∈ d, x.f1.length ≤ 1048576) : Ev (fun k => laws_eqQuery.f k h d h d) true := by
  unfold laws_eqQuery.f
  refine evb (eqIntS_ev h h (by omega)) ?_
  simp only [decide_true, if_true]
  refine evb (eqAtomS_ev d hl hs) ?_
  simp only [if_true]
  exact evc fun k => rfl

/-! ### FormatInt -/
theorem tdiv_neg10 (m : Nat) : Int.tdiv (-(m : Int)) 10 = -((m / 10 : Nat) : Int) := by
  rw [Int.neg_tdiv, Int.tdiv_eq_ediv_of_nonneg (by omega)]; omega
theorem tmod_neg10 (m : Nat) : Int.tmod (-(m : Int)) 10 = -((m % 10 : Nat) : Int) := by
  rw [Int.neg_tmod, Int.tmod_eq_emod_of_nonneg (by omega)]; omega
theorem tdiv_pos10 (m : Nat) : Int.tdiv (m : Int) 10 = ((m / 10 : Nat) : Int) := by
  rw [Int.tdiv_eq_ediv_of_nonneg (by omega)]; omega
theorem tmod_pos10 (m : Nat) : Int.tmod (m : Int) 10 = ((m % 10 : Nat) : Int) := by
  rw [Int.tmod_eq_emod_of_nonneg (by omega)]; omega
theorem append_empty_left (b : ByteArray) : strOfNums [] ++ b = b := by simp [strOfNums, ByteArray.ext_iff]
theorem dig_byte (d : Nat) (h : d < 10) : (48 + (d : Int)) % 256 = 48 + (d : Int) := by omega
theorem specFmt_pos : ∀ (j m : Nat) (out : ByteArray), m < 10 ^ j → m ≤ 9223372036854775807 → out.size + j ≤ 1000 → Ev (fun k => spec_FormatInt.l0 k m out false) (strOfNums (mDig m) ++ out)
  | 0, m, out, h, hm, ho => by
    obtain rfl : m = 0 := by simpa using h
    refine evn fun k => ?_
    simp only [spec_FormatInt.l0]
    rw [if_pos (by omega), if_neg (by simp), mDig_zero, append_empty_left]
  | j + 1, m, out, h, hm, ho => by
    by_cases h0 : m = 0
    · subst h0
      refine evn fun k => ?_
      simp only [spec_FormatInt.l0]
      rw [if_pos (by omega), if_neg (by simp), mDig_zero, append_empty_left]
    · have hj : m / 10 < 10 ^ j := by rw [Nat.pow_succ] at h; omega
      have hs : (strOfNums [48 + ((m % 10 : Nat) : Int)] ++ out).size + j ≤ 1000 := by rw [ByteArray.size_append, strOfNums_size]; simp; omega
      have r := specFmt_pos j (m / 10) (strOfNums [48 + ((m % 10 : Nat) : Int)] ++ out) hj (by omega) hs
      rw [mDig_pos h0, strOfNums_append, ByteArray.append_assoc]
      refine Ev.step (fun k => ?_) r
      simp only [spec_FormatInt.l0]
      rw [if_neg (by omega), tmod_pos10, tdiv_pos10, if_neg (by omega)]
      simp only [Option.bind_some]
      rw [w64 (by omega) (by omega), dig_byte _ (by omega), if_pos (by rw [strOfNums_size]; simp; omega), w64 (by omega) (by omega)]
theorem specFmt_neg : ∀ (j m : Nat) (out : ByteArray), m < 10 ^ j → m ≤ 9223372036854775808 → out.size + j ≤ 1000 → Ev (fun k => spec_FormatInt.l0 k (-(m : Int)) out true) (strOfNums [45] ++ (strOfNums (mDig m) ++ out))
  | 0, m, out, h, hm, ho => by
    obtain rfl : m = 0 := by simpa using h
    refine evn fun k => ?_
    simp only [spec_FormatInt.l0]
    rw [if_pos (by omega), if_pos trivial, if_pos (by omega), mDig_zero, append_empty_left]
    rfl
  | j + 1, m, out, h, hm, ho => by
    by_cases h0 : m = 0
    · subst h0
      refine evn fun k => ?_
      simp only [spec_FormatInt.l0]
      rw [if_pos (by omega), if_pos trivial, if_pos (by omega), mDig_zero, append_empty_left]
      rfl
    · have hj : m / 10 < 10 ^ j := by rw [Nat.pow_succ] at h; omega
      have hs : (strOfNums [48 + ((m % 10 : Nat) : Int)] ++ out).size + j ≤ 1000 := by rw [ByteArray.size_append, strOfNums_size]; simp; omega
      have r := specFmt_neg j (m / 10) (strOfNums [48 + ((m % 10 : Nat) : Int)] ++ out) hj (by omega) hs
      rw [mDig_pos h0, strOfNums_append, ByteArray.append_assoc]
      refine Ev.step (fun k => ?_) r
      simp only [spec_FormatInt.l0]
      rw [if_neg (by omega), tmod_neg10, tdiv_neg10]
      by_cases hd : m % 10 = 0
      · rw [if_neg (by omega)]
        simp only [Option.bind_some]
        rw [w64 (by omega) (by omega), if_pos (by rw [strOfNums_size]; simp; omega), w64 (by omega) (by omega)]
        rw [show (48 + -((m % 10 : Nat) : Int)) % 256 = 48 + ((m % 10 : Nat) : Int) by omega]
      · rw [if_pos (by omega)]
        simp only [Option.bind_some]
        rw [w64 (x := - -((m % 10 : Nat) : Int)) (by omega) (by omega), w64 (by omega) (by omega), if_pos (by rw [strOfNums_size]; simp; omega), w64 (by omega) (by omega)]
        rw [show (48 + - -((m % 10 : Nat) : Int)) % 256 = 48 + ((m % 10 : Nat) : Int) by omega]
theorem append_empty_right (b : ByteArray) : b ++ (⟨#[]⟩ : ByteArray) = b := by simp [ByteArray.ext_iff]
theorem specFmt_ev (n : Int) (h0 : -9223372036854775808 ≤ n) (h1 : n ≤ 9223372036854775807) : Ev (fun k => spec_FormatInt.f k n) (strOfNums (mFmt n)) := by
  unfold spec_FormatInt.f mFmt
  by_cases hz : n = 0
  · simp only [if_pos hz]; exact evc fun k => rfl
  · simp only [if_neg hz]
    by_cases hn : n < 0
    · obtain ⟨m, rfl⟩ : ∃ m : Nat, n = -(m : Int) := ⟨n.natAbs, by omega⟩
      have r := specFmt_neg 20 m ⟨#[]⟩ (by omega) (by omega) (by simp [ByteArray.size])
      rw [append_empty_right] at r
      rw [if_pos hn, decide_eq_true hn, show (-(m : Int)).natAbs = m by omega]
      rw [show (45 : Int) :: mDig m = [45] ++ mDig m from rfl, strOfNums_append]
      exact r
    · obtain ⟨m, rfl⟩ : ∃ m : Nat, n = (m : Int) := ⟨n.natAbs, by omega⟩
      have r := specFmt_pos 20 m ⟨#[]⟩ (by omega) (by omega) (by simp [ByteArray.size])
      rw [append_empty_right] at r
      rw [if_neg hn, decide_eq_false hn, show ((m : Int)).natAbs = m by omega]
      exact r
theorem implRev : ∀ (n : Nat) (M A B : List Int), M.length ≤ n → A.length = B.length → (A ++ M ++ B).length ≤ 1000 → Ev (fun k => impl_FormatInt.l1 k (A ++ M ++ B) (A.length : Int) ((A.length : Int) + (M.length : Int) - 1)) (strOfNums (A ++ M.reverse ++ B))
  | n, [], A, B, hn, hab, hl => by
    refine evn fun k => ?_
    simp only [impl_FormatInt.l1]
    rw [if_neg (by simp <;> omega)]; simp
  | n, [a], A, B, hn, hab, hl => by
    refine evn fun k => ?_
    simp only [impl_FormatInt.l1]
    rw [if_neg (by simp <;> omega)]; simp
  | 0, a :: c :: R, A, B, hn, hab, hl => by simp at hn
  | n + 1, a :: c :: R, A, B, hn, hab, hl => by
    obtain ⟨M', b, hM⟩ : ∃ M' b, c :: R = M' ++ [b] := ⟨(c :: R).dropLast, (c :: R).getLast (by simp), (List.dropLast_concat_getLast (by simp)).symm⟩
    rw [hM]
    have hlen : M'.length + 1 = R.length + 1 := by have := congrArg List.length hM; simpa using this.symm
    have hsz : A.length + M'.length + B.length + 2 ≤ 1000 := by simp at hl; omega
    have r := implRev n M' (A ++ [b]) (a :: B) (by simp at hn; omega) (by simp [hab]) (by simp; omega)
    have e1 : (A ++ a :: (M' ++ [b]) ++ B) = A ++ a :: (M' ++ b :: B) := by simp
    have e2 : (A ++ a :: (M' ++ b :: B)) = (A ++ a :: M') ++ b :: B := by simp
    have ei : (A.length : Int) + ((a :: (M' ++ [b])).length : Int) - 1 = ((A ++ a :: M').length : Int) := by simp; omega
    have er : A ++ (a :: (M' ++ [b])).reverse ++ B = (A ++ [b]) ++ M'.reverse ++ (a :: B) := by simp
    rw [er, ei, e1]
    refine Ev.step (fun k => ?_) r
    simp only [impl_FormatInt.l1]
    have ra : rd (A ++ a :: (M' ++ b :: B)) (A.length : Int) = a := rd_mid _ _ _
    have rb : rd (A ++ a :: (M' ++ b :: B)) ((A ++ a :: M').length : Int) = b := by rw [e2]; exact rd_mid _ _ _
    rw [if_pos (by simp; omega), if_pos (by omega), if_pos (by simp; omega), if_pos (by omega), if_pos (by simp; omega), ra, rb, set_mid]
    have e3 : (A ++ b :: (M' ++ b :: B)) = (A ++ b :: M') ++ b :: B := by simp
    have e4 : ((A ++ a :: M').length : Int) = ((A ++ b :: M').length : Int) := by simp
    rw [e3, e4, set_mid, w64 (by omega) (by omega), w64 (by simp; omega) (by simp; omega)]
    congr 1
    · simp
    · simp
    · simp; omega
theorem implFmt_end (x : Int) (acc : List Int) (h : acc.length ≤ 900) : Ev (fun k => impl_FormatInt.l0 k x acc 0) (strOfNums ((if x < 0 then [45] else []) ++ acc.reverse)) := by
  have jr : ∀ y : List Int, y.length ≤ 901 → Ev (fun k => impl_FormatInt.j1 k y) (strOfNums y.reverse) := by
    intro y hy
    have r := implRev y.length y [] [] (Nat.le_refl _) rfl (by simp; omega)
    simp only [List.nil_append, List.append_nil, List.length_nil] at r
    refine Ev.step (fun k => ?_) r
    simp only [impl_FormatInt.j1]
    rw [w64 (by omega) (by omega)]
    congr 1; simp
  by_cases hx : x < 0
  · have r := jr (acc ++ [45]) (by simp; omega)
    rw [if_pos hx]
    refine Ev.step (fun k => ?_) (by simpa using r)
    simp only [impl_FormatInt.l0]
    rw [if_pos trivial, if_pos hx, if_pos (by omega)]
  · have r := jr acc (by omega)
    rw [if_neg hx]
    refine Ev.step (fun k => ?_) (by simpa using r)
    simp only [impl_FormatInt.l0]
    rw [if_pos trivial, if_neg hx]
theorem implFmt_pos (x : Int) : ∀ (j m : Nat) (acc : List Int), m < 10 ^ j → m ≤ 9223372036854775807 → acc.length + j ≤ 900 → Ev (fun k => impl_FormatInt.l0 k x acc m) (strOfNums ((if x < 0 then [45] else []) ++ (mDig m ++ acc.reverse)))
  | 0, m, acc, h, hm, ho => by
    obtain rfl : m = 0 := by simpa using h
    rw [mDig_zero]; exact implFmt_end x acc (by omega)
  | j + 1, m, acc, h, hm, ho => by
    by_cases h0 : m = 0
    · subst h0; rw [mDig_zero]; exact implFmt_end x acc (by omega)
    · have hj : m / 10 < 10 ^ j := by rw [Nat.pow_succ] at h; omega
      have r := implFmt_pos x j (m / 10) (acc ++ [48 + ((m % 10 : Nat) : Int)]) hj (by omega) (by simp; omega)
      rw [mDig_pos h0]
      refine Ev.step (fun k => ?_) (by simpa using r)
      simp only [impl_FormatInt.l0]
      rw [if_neg (by omega), tmod_pos10, tdiv_pos10, if_neg (by omega), if_pos (by omega), w64 (by omega) (by omega), dig_byte _ (by omega), w64 (by omega) (by omega)]
      simp
theorem implFmt_neg (x : Int) : ∀ (j m : Nat) (acc : List Int), m < 10 ^ j → m ≤ 9223372036854775808 → acc.length + j ≤ 900 → Ev (fun k => impl_FormatInt.l0 k x acc (-(m : Int))) (strOfNums ((if x < 0 then [45] else []) ++ (mDig m ++ acc.reverse)))
  | 0, m, acc, h, hm, ho => by
    obtain rfl : m = 0 := by simpa using h
    rw [mDig_zero]; exact implFmt_end x acc (by omega)
  | j + 1, m, acc, h, hm, ho => by
    by_cases h0 : m = 0
    · subst h0; rw [mDig_zero]; exact implFmt_end x acc (by omega)
    · have hj : m / 10 < 10 ^ j := by rw [Nat.pow_succ] at h; omega
      have r := implFmt_neg x j (m / 10) (acc ++ [48 + ((m % 10 : Nat) : Int)]) hj (by omega) (by simp; omega)
      rw [mDig_pos h0]
      refine Ev.step (fun k => ?_) (by simpa using r)
      simp only [impl_FormatInt.l0]
      rw [if_neg (by omega), tmod_neg10, tdiv_neg10]
      by_cases hd : m % 10 = 0
      · rw [if_neg (by omega), if_pos (by omega), w64 (by omega) (by omega), w64 (by omega) (by omega)]
        rw [show (48 + -((m % 10 : Nat) : Int)) % 256 = 48 + ((m % 10 : Nat) : Int) by omega]
        simp
      · rw [if_pos (by omega), if_pos (by omega), w64 (x := - -((m % 10 : Nat) : Int)) (by omega) (by omega), w64 (by omega) (by omega), w64 (by omega) (by omega)]
        rw [show (48 + - -((m % 10 : Nat) : Int)) % 256 = 48 + ((m % 10 : Nat) : Int) by omega]
        simp
theorem implFmt_ev (n : Int) (h0 : -9223372036854775808 ≤ n) (h1 : n ≤ 9223372036854775807) : Ev (fun k => impl_FormatInt.f k n) (strOfNums (mFmt n)) := by
  unfold impl_FormatInt.f mFmt
  by_cases hz : n = 0
  · simp only [if_pos hz]; exact evc fun k => rfl
  · simp only [if_neg hz]
    by_cases hn : n < 0
    · obtain ⟨m, rfl⟩ : ∃ m : Nat, n = -(m : Int) := ⟨n.natAbs, by omega⟩
      have r := implFmt_neg (-(m : Int)) 20 m [] (by omega) (by omega) (by simp)
      rw [if_pos hn] at r
      rw [if_pos hn, show (-(m : Int)).natAbs = m by omega]
      simpa using r
    · obtain ⟨m, rfl⟩ : ∃ m : Nat, n = (m : Int) := ⟨n.natAbs, by omega⟩
      have r := implFmt_pos (m : Int) 20 m [] (by omega) (by omega) (by simp)
      rw [if_neg hn] at r
      rw [if_neg hn, show ((m : Int)).natAbs = m by omega]
      simpa using r

theorem l1In_eq (x lo hi : Int) : spec_l1In.f x lo hi = some (decide (lo ≤ x ∧ x ≤ hi)) := by
  unfold spec_l1In.f
  by_cases h : x ≥ lo
  · rw [if_pos h]; congr 1; simp; omega
  · rw [if_neg h]; congr 1; simp; omega

theorem within_eq (x lo hi : Int) : impl_within.f x lo hi = some (decide (lo ≤ x ∧ x ≤ hi)) := by
  unfold impl_within.f
  by_cases h : x ≥ lo
  · rw [if_pos h]; congr 1; simp; omega
  · rw [if_neg h]; congr 1; simp; omega

/-! ### Terms -/

theorem specIsVar_eq (t : Int) : spec_IsVar.f t = some (mIsVar t) := by
  simp [spec_IsVar.f, l1In_eq, mIsVar]
theorem specConstOf_eq (t : Int) : spec_ConstOf.f t = some (mConstOf t) := by
  unfold spec_ConstOf.f mConstOf
  simp only [l1In_eq, Option.bind_some]
  by_cases h : -80 ≤ t ∧ t ≤ -1
  · simp only [h, and_self, decide_true, if_true]; rw [w64 (by omega) (by omega)]
  · simp only [h, decide_false, Bool.false_eq_true, if_false]

theorem implIsTerm_eq (t : Int) : impl_IsTerm.f t = some (mIsTerm t) := by
  simp [impl_IsTerm.f, within_eq, mIsTerm]

theorem implIsVar_eq (t : Int) : impl_IsVar.f t = some (mIsVar t) := by
  simp [impl_IsVar.f, within_eq, mIsVar]
theorem implConstOf_eq (t : Int) : impl_ConstOf.f t = some (mConstOf t) := by
  unfold impl_ConstOf.f mConstOf
  simp only [implIsTerm_eq, implIsVar_eq, Option.bind_some, mIsTerm, mIsVar]
  by_cases h : -80 ≤ t ∧ t ≤ -1
  · rw [if_pos h, if_pos (by simp; omega), if_neg (by simp; omega)]; rw [w64 (by omega) (by omega)]
  · rw [if_neg h]
    by_cases h2 : -80 ≤ t ∧ t ≤ 19
    · rw [if_pos (by simpa using h2), if_pos (by simp; omega)]
    · rw [if_neg (by simpa using h2)]

/-! ### FormatTerm -/
theorem str_cons (c : Int) (l : List Int) : strOfNums (c :: l) = strOfNums [c] ++ strOfNums l := by
  rw [← strOfNums_append]; rfl
theorem specFmtTerm_ev (t : Int) : Ev (fun k => spec_FormatTerm.f k t) (strOfNums (mFmtTerm t)) := by
  unfold spec_FormatTerm.f mFmtTerm
  simp only [specIsVar_eq, specConstOf_eq, Option.bind_some]
  by_cases hv : mIsVar t = true
  · simp only [if_pos hv]
    have hb : 0 ≤ t ∧ t ≤ 19 := by simpa [mIsVar] using hv
    refine evb (specFmt_ev t (by omega) (by omega)) ?_
    have hl := small_fmt (n := t) (by omega) (by omega)
    refine evc fun k => ?_
    rw [if_pos (by rw [strOfNums_size]; omega), str_cons]
    rfl
  · simp only [if_neg hv]
    have hb : ¬ (0 ≤ t ∧ t ≤ 19) := by simpa [mIsVar] using hv
    by_cases ht : -80 ≤ t ∧ t ≤ -1
    · have hc : mConstOf t = -1 - t := by unfold mConstOf; rw [if_pos ht]
      have hg : mConstOf t ≥ 0 := by omega
      simp only [if_pos hg]
      have hT : mIsTerm t = true := by simp [mIsTerm]; omega
      simp only [if_pos hT]
      rw [hc]
      refine evb (specFmt_ev (-1 - t) (by omega) (by omega)) ?_
      exact evc fun k => rfl
    · have hc : mConstOf t = -1 := by unfold mConstOf; rw [if_neg ht]
      have hg : ¬ mConstOf t ≥ 0 := by omega
      simp only [if_neg hg]
      have hT : ¬ mIsTerm t = true := by simp [mIsTerm]; omega
      simp only [if_neg hT]
      exact evc fun k => rfl
theorem implFmtTerm_ev (t : Int) : Ev (fun k => impl_FormatTerm.f k t) (strOfNums (mFmtTerm t)) := by
  unfold impl_FormatTerm.f mFmtTerm
  simp only [implIsVar_eq, implIsTerm_eq, implConstOf_eq, Option.bind_some]
  by_cases hv : mIsVar t = true
  · simp only [if_pos hv]
    have hb : 0 ≤ t ∧ t ≤ 19 := by simpa [mIsVar] using hv
    refine evb (implFmt_ev t (by omega) (by omega)) ?_
    have hl := small_fmt (n := t) (by omega) (by omega)
    refine evc fun k => ?_
    rw [if_pos (by rw [strOfNums_size]; omega), str_cons]
    rfl
  · simp only [if_neg hv]
    have hb : ¬ (0 ≤ t ∧ t ≤ 19) := by simpa [mIsVar] using hv
    by_cases hT : mIsTerm t = true
    · have ht : -80 ≤ t ∧ t ≤ 19 := by simpa [mIsTerm] using hT
      have hc : mConstOf t = -1 - t := by unfold mConstOf; rw [if_pos (by omega)]
      simp only [if_pos hT]
      rw [hc]
      refine evb (implFmt_ev (-1 - t) (by omega) (by omega)) ?_
      exact evc fun k => rfl
    · simp only [if_neg hT]
      exact evc fun k => rfl

theorem specIsTerm_eq (t : Int) : spec_IsTerm.f t = some (mIsTerm t) := by
  unfold spec_IsTerm.f
  simp only [specIsVar_eq, specConstOf_eq, Option.bind_some]
  unfold mIsVar mIsTerm mConstOf
  by_cases h : 0 ≤ t ∧ t ≤ 19
  · rw [if_pos (by simpa using h)]; congr 1; simp; omega
  · rw [if_neg (by simpa using h)]; congr 1
    by_cases h2 : -80 ≤ t ∧ t ≤ -1
    · rw [if_pos h2, decide_eq_true (by omega), decide_eq_true (by omega)]
    · rw [if_neg h2, decide_eq_false (by omega), decide_eq_false (by omega)]

theorem l3Terms_ev (l : List Int) (h : l.length ≤ 140737488355328) : Ev (fun k => spec_l3Terms.f k l) (l.all mIsTerm && decide ((l.length : Int) ≤ 3)) := by
  refine idx_ind l (fun pre suf => Ev (fun k => spec_l3Terms.l0 k l (pre.length : Int)) (suf.all mIsTerm && decide ((l.length : Int) ≤ 3))) ?_ ?_
  · refine evn fun k => ?_
    simp only [spec_l3Terms.l0]
    rw [if_neg (end_not _)]; rfl
  · intro pre a suf e ih
    by_cases hp : mIsTerm a = true
    · rw [show (a :: suf).all mIsTerm = suf.all mIsTerm by simp [hp]]
      refine Ev.step (fun k => ?_) ih
      simp only [spec_l3Terms.l0]
      rw [if_pos (lt_of e), if_pos (len_nonneg _), rd_of e, specIsTerm_eq, nx_of e h]
      simp [hp]
    · rw [show ((a :: suf).all mIsTerm && decide ((l.length : Int) ≤ 3)) = false by simp [hp]]
      refine evn fun k => ?_
      simp only [spec_l3Terms.l0]
      rw [if_pos (lt_of e), if_pos (len_nonneg _), rd_of e, specIsTerm_eq]
      simp [hp]

theorem areTerms_ev (l : List Int) (h : l.length ≤ 140737488355328) : Ev (fun k => impl_areTerms.f k l) (l.all mIsTerm) := by
  refine idx_ind l (fun pre suf => Ev (fun k => impl_areTerms.l0 k l (l.length : Int) (pre.length : Int)) (suf.all mIsTerm)) ?_ ?_
  · refine evn fun k => ?_
    simp only [impl_areTerms.l0]
    rw [if_neg (end_not _)]; rfl
  · intro pre a suf e ih
    by_cases hp : mIsTerm a = true
    · rw [show (a :: suf).all mIsTerm = suf.all mIsTerm by simp [hp]]
      refine Ev.step (fun k => ?_) ih
      simp only [impl_areTerms.l0]
      rw [if_pos (lt_of e), if_pos (len_nonneg _), if_pos (lt_of e), rd_of e, implIsTerm_eq, nx_of e h]
      simp [hp]
    · rw [show (a :: suf).all mIsTerm = false by simp [hp]]
      refine evn fun k => ?_
      simp only [impl_areTerms.l0]
      rw [if_pos (lt_of e), if_pos (len_nonneg _), if_pos (lt_of e), rd_of e, implIsTerm_eq]
      simp [hp]

/-! ### glued -/
theorem rdB_of {l pre suf : List ByteArray} {a : ByteArray} (e : l = pre ++ a :: suf) : rdOf ByteArray.empty l (pre.length : Int) = a := getD_of e _
theorem glued_ev (xs : List (List Int)) (sep : List Int) (hl : xs.length ≤ 1073741824) (hs : sep.length ≤ 10000) (hx : ∀ x ∈ xs, x.length ≤ 10000) :
    Ev (fun k => impl_glued.f k (xs.map strOfNums) (strOfNums sep)) (strOfNums (mJoin sep xs)) := by
  have key := idx_ind xs (fun pre suf => Ev (fun k => impl_glued.l0 k (strOfNums sep) (strOfNums (mJoin sep pre)) (xs.map strOfNums) ((xs.map strOfNums).length : Int) (pre.length : Int)) (strOfNums (mJoin sep xs))) ?_ ?_
  · exact key
  · refine evn fun k => ?_
    simp only [impl_glued.l0]
    rw [if_neg (by simp)]
  · intro pre a suf e ih
    have ea : xs.map strOfNums = pre.map strOfNums ++ strOfNums a :: suf.map strOfNums := by rw [e]; simp
    have hr : rdOf ByteArray.empty (xs.map strOfNums) (pre.length : Int) = strOfNums a := by
      have := rdB_of ea
      simpa using this
    have hlt : (pre.length : Int) < ((xs.map strOfNums).length : Int) := by rw [e]; simp; omega
    have hp : pre.length < 1073741824 := by rw [e] at hl; simp at hl; omega
    have hj := mJoin_len sep 10000 hs pre (fun x hxm => hx x (by rw [e]; simp [hxm]))
    have ha := hx a (by rw [e]; simp)
    have hjb : (mJoin sep pre).length ≤ 21474836480000 := by omega
    refine Ev.step (fun k => ?_) ih
    simp only [impl_glued.l0]
    rw [if_pos hlt, if_pos (len_nonneg _), if_pos hlt, hr, iw (a := a) (by omega)]
    by_cases h0 : pre = []
    · subst h0
      rw [if_neg (by simp), if_pos (by rw [strOfNums_size, strOfNums_size]; simp [mJoin]; omega), ← strOfNums_append]
      simp [mJoin, mJoinT]
    · have hp0 : 0 < pre.length := List.length_pos_iff.2 h0
      rw [if_pos (by omega), if_pos (by rw [strOfNums_size, strOfNums_size]; omega), ← strOfNums_append, if_pos (by rw [strOfNums_size, strOfNums_size]; simp; omega), ← strOfNums_append, mJoin_snoc sep a pre h0]
      simp

/-! ### FormatAtom -/
theorem join_terms_len (l : List Int) : (mJoin [44] (l.map mFmtTerm)).length ≤ l.length * 8 := by
  have := mJoin_len [44] 4 (by simp) (l.map mFmtTerm) (fun x hx => by obtain ⟨y, hy, rfl⟩ := List.mem_map.1 hx; exact term_fmt y)
  simpa using this
theorem l3List_ev (l : List Int) (hl : l.length ≤ 1048576) : Ev (fun k => spec_l3List.f k l) (strOfNums (mJoin [44] (l.map mFmtTerm))) := by
  have key := idx_ind l (fun pre suf => Ev (fun k => spec_l3List.l0 k l (strOfNums (mJoin [44] (pre.map mFmtTerm))) (pre.length : Int)) (strOfNums (mJoin [44] (l.map mFmtTerm)))) ?_ ?_
  · exact key
  · refine evn fun k => ?_
    simp only [spec_l3List.l0]
    rw [if_neg (end_not _)]
  · intro pre a suf e ih
    have hp : pre.length < 1048576 := by rw [e] at hl; simp at hl; omega
    have hj := join_terms_len pre
    have ha := term_fmt a
    by_cases h0 : pre = []
    · subst h0
      refine Ev.step (f := fun k => (spec_FormatTerm.f k a).bind fun t => if (strOfNums (mJoin [44] ([].map mFmtTerm))).size + t.size ≤ 9223372036854775807 then spec_l3List.l0 k l (strOfNums (mJoin [44] ([].map mFmtTerm)) ++ t) (([] ++ [a] : List Int).length : Int) else none) (fun k => ?_) ?_
      · simp only [spec_l3List.l0]
        rw [if_pos (lt_of e), if_neg (by simp), if_pos (len_nonneg _), rd_of e, nx_of e (by omega)]
      · refine evb (specFmtTerm_ev a) ?_
        have z : (strOfNums (mJoin [44] (([] : List Int).map mFmtTerm))).size + (strOfNums (mFmtTerm a)).size ≤ 9223372036854775807 := by rw [strOfNums_size, strOfNums_size]; simp [mJoin]; omega
        simp only [if_pos z, ← strOfNums_append]
        simpa [mJoin, mJoinT] using ih
    · have hp0 : 0 < pre.length := List.length_pos_iff.2 h0
      refine Ev.step (f := fun k => (spec_FormatTerm.f k a).bind fun t => if (strOfNums (mJoin [44] (pre.map mFmtTerm)) ++ strOfNums [44]).size + t.size ≤ 9223372036854775807 then spec_l3List.l0 k l ((strOfNums (mJoin [44] (pre.map mFmtTerm)) ++ strOfNums [44]) ++ t) ((pre ++ [a]).length : Int) else none) (fun k => ?_) ?_
      · simp only [spec_l3List.l0]
        rw [if_pos (lt_of e), if_pos (by omega), if_pos (by rw [strOfNums_size]; omega), if_pos (len_nonneg _), rd_of e, nx_of e (by omega)]
        rfl
      · refine evb (specFmtTerm_ev a) ?_
        have z : (strOfNums (mJoin [44] (pre.map mFmtTerm) ++ [44])).size + (strOfNums (mFmtTerm a)).size ≤ 9223372036854775807 := by rw [strOfNums_size, strOfNums_size]; simp; omega
        simp only [← strOfNums_append]
        simp only [if_pos z]
        have ej : mJoin [44] ((pre ++ [a]).map mFmtTerm) = mJoin [44] (pre.map mFmtTerm) ++ [44] ++ mFmtTerm a := by
          rw [List.map_append, List.map_cons, List.map_nil, mJoin_snoc [44] (mFmtTerm a) _ (map_ne h0)]; simp
        rw [← ej]
        exact ih
theorem rel_fmt2 {r : Int} (h : 0 ≤ r ∧ r ≤ 3) : (mFmt r).length ≤ 3 := small_fmt (by omega) (by omega)
theorem specFmtAtom_ev (r : Int) (l : List Int) (hl : l.length ≤ 1048576) : Ev (fun k => spec_FormatAtom.f k r l) (strOfNums (mFmtAtom r l)) := by
  unfold spec_FormatAtom.f
  have jt : Ev (fun k => spec_FormatAtom.j0 k true r l) (strOfNums []) := evn fun k => by simp only [spec_FormatAtom.j0]; rw [if_pos trivial]; rfl
  simp only [l1In_eq, Option.bind_some]
  by_cases c1 : 0 ≤ r ∧ r ≤ 3
  · simp only [c1, and_self, decide_true, if_true]
    refine evb (l3Terms_ev l (by omega)) ?_
    by_cases c2 : (l.length : Int) ≤ 3 ∧ l.all mIsTerm = true
    · have ef : mFmtAtom r l = [114] ++ mFmt r ++ [40] ++ mJoin [44] (l.map mFmtTerm) ++ [41] := by unfold mFmtAtom; rw [if_pos ⟨c1, c2⟩]
      rw [show (l.all mIsTerm && decide ((l.length : Int) ≤ 3)) = true by simp [c2.1]; simpa using c2.2, ef]
      have hr := rel_fmt2 c1
      have hj := join_terms_len l
      refine Ev.step (f := fun k => (spec_FormatInt.f k r).bind fun t => if 1 + t.size ≤ 9223372036854775807 then (if ((⟨#[114]⟩ : ByteArray) ++ t).size + 1 ≤ 9223372036854775807 then ((spec_l3List.f k l).bind fun u => (if (((⟨#[114]⟩ : ByteArray) ++ t) ++ (⟨#[40]⟩ : ByteArray)).size + u.size ≤ 9223372036854775807 then (if ((((⟨#[114]⟩ : ByteArray) ++ t) ++ (⟨#[40]⟩ : ByteArray)) ++ u).size + 1 ≤ 9223372036854775807 then (some (((((⟨#[114]⟩ : ByteArray) ++ t) ++ (⟨#[40]⟩ : ByteArray)) ++ u) ++ (⟨#[41]⟩ : ByteArray))) else none) else none)) else none) else none) (fun k => ?_) ?_
      · simp only [spec_FormatAtom.j0]
        rw [if_neg (by simp)]
      · refine evb (specFmt_ev r (by omega) (by omega)) ?_
        have e1 : (⟨#[114]⟩ : ByteArray) = strOfNums [114] := rfl
        have e2 : (⟨#[40]⟩ : ByteArray) = strOfNums [40] := rfl
        have e3 : (⟨#[41]⟩ : ByteArray) = strOfNums [41] := rfl
        simp only [e1, e2, e3, ← strOfNums_append, strOfNums_size]
        have z1 : 1 + (mFmt r).length ≤ 9223372036854775807 := by omega
        have z2 : ([114] ++ mFmt r).length + 1 ≤ 9223372036854775807 := by simp; omega
        simp only [if_pos z1, if_pos z2]
        refine evb (l3List_ev l hl) ?_
        simp only [← strOfNums_append, strOfNums_size]
        have z3 : ([114] ++ mFmt r ++ [40]).length + (mJoin [44] (l.map mFmtTerm)).length ≤ 9223372036854775807 := by simp; omega
        have z4 : ([114] ++ mFmt r ++ [40] ++ mJoin [44] (l.map mFmtTerm)).length + 1 ≤ 9223372036854775807 := by simp; omega
        simp only [if_pos z3, if_pos z4]
        exact evc fun k => rfl
    · have ef : mFmtAtom r l = [] := by unfold mFmtAtom; rw [if_neg (fun h => c2 h.2)]
      rw [show (l.all mIsTerm && decide ((l.length : Int) ≤ 3)) = false by
        rw [Bool.and_eq_false_iff]
        by_cases h3 : (l.length : Int) ≤ 3
        · left; simpa using fun h => c2 ⟨h3, h⟩
        · right; simpa using h3, ef]
      exact jt
  · have ef : mFmtAtom r l = [] := by unfold mFmtAtom; rw [if_neg (fun h => c1 h.1)]
    simp only [c1, decide_false, Bool.false_eq_true, if_false]
    rw [ef]; exact jt
theorem implFmtAtom_ev (r : Int) (l : List Int) (hl : l.length ≤ 1048576) : Ev (fun k => impl_FormatAtom.f k r l) (strOfNums (mFmtAtom r l)) := by
  unfold impl_FormatAtom.f
  have jt : Ev (fun k => impl_FormatAtom.j0 k true r l) (strOfNums []) := evn fun k => by simp only [impl_FormatAtom.j0]; rw [if_pos trivial]; rfl
  simp only [within_eq, Option.bind_some]
  by_cases c1 : 0 ≤ r ∧ r ≤ 3
  · simp only [c1, and_self, decide_true, if_true]
    by_cases c2 : (l.length : Int) > 3
    · have ef : mFmtAtom r l = [] := by unfold mFmtAtom; rw [if_neg (fun h => by have := h.2.1; omega)]
      simp only [if_pos c2]
      rw [ef]; exact jt
    · simp only [if_neg c2]
      refine evb (areTerms_ev l (by omega)) ?_
      by_cases c3 : l.all mIsTerm = true
      · have ef : mFmtAtom r l = [114] ++ mFmt r ++ [40] ++ mJoin [44] (l.map mFmtTerm) ++ [41] := by unfold mFmtAtom; rw [if_pos ⟨c1, by omega, c3⟩]
        rw [c3, ef]
        have hr := rel_fmt2 c1
        have hj := join_terms_len l
        refine Ev.step (f := fun k => impl_FormatAtom.l0 k ([] : List ByteArray) l (l.length : Int) 0 r l) (fun k => ?_) ?_
        · simp only [impl_FormatAtom.j0]
          rw [if_neg (by simp)]
        · have key := idx_ind l (fun pre suf => Ev (fun k => impl_FormatAtom.l0 k ((pre.map mFmtTerm).map strOfNums) l (l.length : Int) (pre.length : Int) r l) (strOfNums ([114] ++ mFmt r ++ [40] ++ mJoin [44] (l.map mFmtTerm) ++ [41]))) ?_ ?_
          · exact key
          · refine Ev.step (f := fun k => (impl_FormatInt.f k r).bind fun t => if 1 + t.size ≤ 9223372036854775807 then (if ((⟨#[114]⟩ : ByteArray) ++ t).size + 1 ≤ 9223372036854775807 then ((impl_glued.f k ((l.map mFmtTerm).map strOfNums) (strOfNums [44])).bind fun u => (if (((⟨#[114]⟩ : ByteArray) ++ t) ++ (⟨#[40]⟩ : ByteArray)).size + u.size ≤ 9223372036854775807 then (if ((((⟨#[114]⟩ : ByteArray) ++ t) ++ (⟨#[40]⟩ : ByteArray)) ++ u).size + 1 ≤ 9223372036854775807 then (some (((((⟨#[114]⟩ : ByteArray) ++ t) ++ (⟨#[40]⟩ : ByteArray)) ++ u) ++ (⟨#[41]⟩ : ByteArray))) else none) else none)) else none) else none) (fun k => ?_) ?_
            · simp only [impl_FormatAtom.l0]
              rw [if_neg (end_not _)]
              rfl
            · refine evb (implFmt_ev r (by omega) (by omega)) ?_
              have e1 : (⟨#[114]⟩ : ByteArray) = strOfNums [114] := rfl
              have e2 : (⟨#[40]⟩ : ByteArray) = strOfNums [40] := rfl
              have e3 : (⟨#[41]⟩ : ByteArray) = strOfNums [41] := rfl
              simp only [e1, e2, e3, ← strOfNums_append, strOfNums_size]
              have z1 : 1 + (mFmt r).length ≤ 9223372036854775807 := by omega
              have z2 : ([114] ++ mFmt r).length + 1 ≤ 9223372036854775807 := by simp; omega
              simp only [if_pos z1, if_pos z2]
              refine evb (glued_ev (l.map mFmtTerm) [44] (by simp; omega) (by simp) (fun x hx => by obtain ⟨y, hy, rfl⟩ := List.mem_map.1 hx; have := term_fmt y; omega)) ?_
              simp only [← strOfNums_append, strOfNums_size]
              have z3 : ([114] ++ mFmt r ++ [40]).length + (mJoin [44] (l.map mFmtTerm)).length ≤ 9223372036854775807 := by simp; omega
              have z4 : ([114] ++ mFmt r ++ [40] ++ mJoin [44] (l.map mFmtTerm)).length + 1 ≤ 9223372036854775807 := by simp; omega
              simp only [if_pos z3, if_pos z4]
              exact evc fun k => rfl
          · intro pre a suf e ih
            have hp : pre.length < 1048576 := by rw [e] at hl; simp at hl; omega
            refine Ev.step (f := fun k => (impl_FormatTerm.f k a).bind fun t => impl_FormatAtom.l0 k ((pre.map mFmtTerm).map strOfNums ++ [t]) l (l.length : Int) ((pre ++ [a]).length : Int) r l) (fun k => ?_) ?_
            · have hc : ((pre.map mFmtTerm).map strOfNums).length < 8796093022208 := by simp; omega
              simp only [impl_FormatAtom.l0]
              rw [if_pos (lt_of e), if_pos (len_nonneg _), if_pos (lt_of e), rd_of e, nx_of e (by omega)]
              simp only [if_pos hc]
            · refine evb (implFmtTerm_ev a) ?_
              simpa using ih
      · have ef : mFmtAtom r l = [] := by unfold mFmtAtom; rw [if_neg (fun h => c3 h.2.2)]
        rw [ef, show l.all mIsTerm = false by simpa using c3]
        exact jt
  · have ef : mFmtAtom r l = [] := by unfold mFmtAtom; rw [if_neg (fun h => c1 h.1)]
    simp only [c1, decide_false, Bool.false_eq_true, if_false]
    rw [ef]; exact jt

theorem str_nil {α : Type} (l : List Int) (x y : α) : (if (strOfNums l).toList = ([] : List UInt8) then x else y) = if l = [] then x else y := by
  have e : (strOfNums l).toList = ([] : List UInt8) ↔ l = [] := by
    rw [ByteArray.toList_eq]
    simp [strOfNums]
  by_cases h : l = []
  · rw [if_pos h, if_pos (e.2 h)]
  · rw [if_neg h, if_neg (fun h' => h (e.1 h'))]
theorem join_nil (sep : List Int) (xs : List (List Int)) (h : ∀ x ∈ xs, x ≠ []) : mJoin sep xs = [] ↔ xs = [] := by
  cases xs with
  | nil => simp [mJoin]
  | cons x t =>
    have := h x List.mem_cons_self
    simp [mJoin, this]

/-! ### FormatQuery -/
def fA (x : S38) : List Int := mFmtAtom x.f0 x.f1
theorem fA_len (x : S38) : (fA x).length ≤ 1000 := by
  unfold fA mFmtAtom
  by_cases h : (0 ≤ x.f0 ∧ x.f0 ≤ 3) ∧ (x.f1.length : Int) ≤ 3 ∧ x.f1.all mIsTerm = true
  · rw [if_pos h]
    have hr := rel_fmt2 h.1
    have hj := join_terms_len x.f1
    have := h.2.1
    simp; omega
  · rw [if_neg h]; simp
def mHead (h : List Int) : List Int := if h = [] then [121, 101, 115] else mJoin [44] (h.map mFmtTerm)
def mFmtQ (h : List Int) (d : List S38) : List Int :=
  if ∀ x ∈ d, fA x ≠ [] then mHead h ++ [32, 58, 45, 32] ++ mJoin [59, 32] (d.map fA) else []
def mFmtQuery (h : List Int) (d : List S38) : List Int :=
  if (h.length : Int) ≤ 3 ∧ h.all mIsTerm = true ∧ 1 ≤ (d.length : Int) ∧ (d.length : Int) ≤ 8 then mFmtQ h d else []
theorem fq_bad {h : List Int} {d pre suf : List S38} {a : S38} (e : d = pre ++ a :: suf) (ha : fA a = []) : mFmtQ h d = [] := by
  unfold mFmtQ; rw [if_neg]; intro H; exact H a (by rw [e]; simp) ha
theorem snoc_ok {pre : List S38} {a : S38} (hp : ∀ x ∈ pre, fA x ≠ []) (ha : fA a ≠ []) : ∀ x ∈ pre ++ [a], fA x ≠ [] := by
  intro x hx
  rcases List.mem_append.1 hx with h | h
  · exact hp x h
  · rw [List.mem_singleton.1 h]; exact ha
theorem head_len {h : List Int} (hl : h.length ≤ 3) : (mHead h).length ≤ 100 := by
  unfold mHead; by_cases c : h = []
  · rw [if_pos c]; simp
  · rw [if_neg c]; have := join_terms_len h; omega
theorem pre_join (pre : List S38) (h : pre.length ≤ 8) : (mJoin [59, 32] (pre.map fA)).length ≤ 16000 := by
  have hj := mJoin_len [59, 32] 1000 (by simp) (pre.map fA) (fun x hx => by obtain ⟨y, _, rfl⟩ := List.mem_map.1 hx; exact fA_len y)
  simp at hj; omega
def mSoFar (h : List Int) (pre : List S38) : List Int := mHead h ++ (if pre = [] then [] else [32, 58, 45, 32] ++ mJoin [59, 32] (pre.map fA))
theorem sofar_snoc (h : List Int) {pre : List S38} (a : S38) (h0 : pre ≠ []) : mSoFar h (pre ++ [a]) = mSoFar h pre ++ [59, 32] ++ fA a := by
  unfold mSoFar
  rw [if_neg (by simp), if_neg h0, List.map_append, List.map_cons, List.map_nil, mJoin_snoc [59, 32] (fA a) _ (map_ne h0)]
  simp
theorem sofar_len {h : List Int} {pre : List S38} (hl : h.length ≤ 3) (hp : pre.length ≤ 8) : (mSoFar h pre).length ≤ 17000 := by
  have a := head_len hl; have b := pre_join pre hp
  unfold mSoFar
  by_cases c : pre = []
  · rw [if_pos c]; simp; omega
  · rw [if_neg c]; simp; omega
theorem specFQ_l0 (h : List Int) (d : List S38) (hl : h.length ≤ 3) (dl : d.length ≤ 8) (d1 : 1 ≤ d.length) (hs : ∀ x ∈ d, x.f1.length ≤ 1048576) :
    Ev (fun k => spec_FormatQuery.l0 k (strOfNums (mHead h)) 0 h d) (strOfNums (mFmtQ h d)) := by
  have key := idx_ind d (fun pre suf => (∀ x ∈ pre, fA x ≠ []) → Ev (fun k => spec_FormatQuery.l0 k (strOfNums (mSoFar h pre)) (pre.length : Int) h d) (strOfNums (mFmtQ h d))) ?_ ?_
  · have := key (by simp)
    simpa [mSoFar] using this
  · intro hp
    refine evn fun k => ?_
    simp only [spec_FormatQuery.l0]
    rw [if_neg (end_not _)]
    unfold mFmtQ mSoFar
    rw [if_pos hp, if_neg (by intro e; rw [e] at d1; simp at d1), List.append_assoc]
  · intro pre a suf e ih hp
    have hpl : pre.length < 8 := by rw [e] at dl; simp at dl; omega
    have ha := fA_len a
    have hso := sofar_len (pre := pre) hl (by omega)
    refine Ev.step (fun k => spec_FormatQuery.l0.eq_2 ..) ?_
    simp only [if_pos (lt_of e), if_pos (len_nonneg _), rdIA_of e]
    refine evb (specFmtAtom_ev a.f0 a.f1 (hs a (by rw [e]; simp))) ?_
    simp only [str_nil]
    change Ev (fun k => if fA a = [] then _ else _) _
    by_cases hz : fA a = []
    · simp only [if_pos hz]
      rw [fq_bad e hz]; exact evc fun k => rfl
    · simp only [if_neg hz]
      have r := ih (snoc_ok hp hz)
      have e1 : (⟨#[32, 58, 45, 32]⟩ : ByteArray) = strOfNums [32, 58, 45, 32] := rfl
      have e2 : (⟨#[59, 32]⟩ : ByteArray) = strOfNums [59, 32] := rfl
      have ef : strOfNums (mFmtAtom a.f0 a.f1) = strOfNums (fA a) := rfl
      simp only [e1, e2, ef, ← strOfNums_append, strOfNums_size, nx_of e (show d.length ≤ 140737488355328 by omega)]
      by_cases h0 : pre = []
      · subst h0
        have z1 : (mSoFar h []).length + 4 ≤ 9223372036854775807 := by omega
        have z2 : (mSoFar h [] ++ [32, 58, 45, 32]).length + (fA a).length ≤ 9223372036854775807 := by simp; omega
        simp only [List.length_nil, Int.natCast_zero, if_true, if_pos z1, if_pos z2]
        simpa [mSoFar, mJoin, mJoinT] using r
      · have hp0 : ¬ (pre.length : Int) = 0 := by have := List.length_pos_iff.2 h0; omega
        have z1 : (mSoFar h pre).length + 2 ≤ 9223372036854775807 := by omega
        have z2 : (mSoFar h pre ++ [59, 32]).length + (fA a).length ≤ 9223372036854775807 := by simp; omega
        simp only [if_neg hp0, if_pos z1, if_pos z2]
        rw [← sofar_snoc h a h0]
        exact r
theorem specFmtQuery_ev (h : List Int) (d : List S38) (hl : h.length ≤ 1048576) (dl : d.length ≤ 1048576) (hs : ∀ x ∈ d, x.f1.length ≤ 1048576) : Ev (fun k => spec_FormatQuery.f k h d) (strOfNums (mFmtQuery h d)) := by
  unfold spec_FormatQuery.f
  have jt : Ev (fun k => spec_FormatQuery.j0 k true h d) (strOfNums []) := evn fun k => by simp only [spec_FormatQuery.j0]; rw [if_pos trivial]; rfl
  refine evb (l3Terms_ev h (by omega)) ?_
  simp only [l1In_eq, Option.bind_some]
  by_cases c1 : h.all mIsTerm = true ∧ (h.length : Int) ≤ 3
  · rw [show (h.all mIsTerm && decide ((h.length : Int) ≤ 3)) = true by simp [c1.2]; simpa using c1.1]
    simp only [if_true]
    by_cases c2 : 1 ≤ (d.length : Int) ∧ (d.length : Int) ≤ 8
    · simp only [c2, and_self, decide_true, Bool.not_true]
      rw [show mFmtQuery h d = mFmtQ h d by unfold mFmtQuery; rw [if_pos ⟨c1.2, c1.1, c2⟩]]
      refine Ev.step (fun k => spec_FormatQuery.j0.eq_2 ..) ?_
      simp only [Bool.false_eq_true, if_false]
      refine evb (l3List_ev h hl) ?_
      have r := specFQ_l0 h d (by omega) (by omega) (by omega) hs
      have e1 : (⟨#[121, 101, 115]⟩ : ByteArray) = strOfNums [121, 101, 115] := rfl
      by_cases hz : h = []
      · have hz' : (h.length : Int) = 0 := by rw [hz]; rfl
        simp only [if_pos hz', e1]
        refine Ev.step (fun k => spec_FormatQuery.j1.eq_2 ..) ?_
        rw [show mHead h = [121, 101, 115] by unfold mHead; rw [if_pos hz]] at r
        exact r
      · have hz' : ¬ (h.length : Int) = 0 := by have := List.length_pos_iff.2 hz; omega
        simp only [if_neg hz']
        refine Ev.step (fun k => spec_FormatQuery.j1.eq_2 ..) ?_
        rw [show mHead h = mJoin [44] (h.map mFmtTerm) by unfold mHead; rw [if_neg hz]] at r
        exact r
    · rw [show mFmtQuery h d = [] by unfold mFmtQuery; rw [if_neg (fun H => c2 H.2.2)]]
      simp only [c2, decide_false, Bool.not_false]
      exact jt
  · rw [show mFmtQuery h d = [] by unfold mFmtQuery; rw [if_neg (fun H => c1 ⟨H.2.1, H.1⟩)], show (h.all mIsTerm && decide ((h.length : Int) ≤ 3)) = false by
        rw [Bool.and_eq_false_iff]
        by_cases h3 : (h.length : Int) ≤ 3
        · left; exact Bool.eq_false_iff.2 fun H => c1 ⟨H, h3⟩
        · right; simpa using h3]
    simp only [Bool.false_eq_true, if_false]
    exact jt
theorem implFQ_l1 (h : List Int) (d : List S38) (hl : h.length ≤ 3) (dl : d.length ≤ 8) (d1 : 1 ≤ d.length) (hs : ∀ x ∈ d, x.f1.length ≤ 1048576) :
    Ev (fun k => impl_FormatQuery.l1 k ((h.map mFmtTerm).map strOfNums) ([] : List ByteArray) d (d.length : Int) 0) (strOfNums (mFmtQ h d)) := by
  have key := idx_ind d (fun pre suf => (∀ x ∈ pre, fA x ≠ []) → Ev (fun k => impl_FormatQuery.l1 k ((h.map mFmtTerm).map strOfNums) ((pre.map fA).map strOfNums) d (d.length : Int) (pre.length : Int)) (strOfNums (mFmtQ h d))) ?_ ?_
  · exact key (by simp)
  · intro hp
    refine Ev.step (fun k => impl_FormatQuery.l1.eq_2 ..) ?_
    simp only [if_neg (end_not _)]
    have e1 : (⟨#[32, 58, 45, 32]⟩ : ByteArray) = strOfNums [32, 58, 45, 32] := rfl
    have e2 : (⟨#[59, 32]⟩ : ByteArray) = strOfNums [59, 32] := rfl
    have e3 : (⟨#[44]⟩ : ByteArray) = strOfNums [44] := rfl
    have e4 : (⟨#[121, 101, 115]⟩ : ByteArray) = strOfNums [121, 101, 115] := rfl
    have hh := head_len hl
    have hd := pre_join d dl
    simp only [e1, e2, e3, e4]
    refine evb (glued_ev (h.map mFmtTerm) [44] (by simp; omega) (by simp) (fun x hx => by obtain ⟨y, hy, rfl⟩ := List.mem_map.1 hx; have := term_fmt y; omega)) ?_
    have gd := glued_ev (d.map fA) [59, 32] (by simp; omega) (by simp) (fun x hx => by obtain ⟨y, hy, rfl⟩ := List.mem_map.1 hx; have := fA_len y; omega)
    have em : mFmtQ h d = mHead h ++ [32, 58, 45, 32] ++ mJoin [59, 32] (d.map fA) := by unfold mFmtQ; rw [if_pos hp]
    rw [em]
    simp only [List.length_map]
    by_cases hz : h = []
    · have hz' : (h.length : Int) = 0 := by rw [hz]; rfl
      simp only [if_pos hz']
      have z0 : 3 + 4 ≤ 9223372036854775807 := by omega
      simp only [if_pos z0]
      refine evb gd ?_
      have eh : mHead h = [121, 101, 115] := by unfold mHead; rw [if_pos hz]
      rw [eh]
      simp only [← strOfNums_append, strOfNums_size]
      have z1 : ([121, 101, 115] ++ [32, 58, 45, 32] : List Int).length + (mJoin [59, 32] (d.map fA)).length ≤ 9223372036854775807 := by simp; omega
      simp only [if_pos z1]
      exact evc fun k => rfl
    · have hz' : ¬ (h.length : Int) = 0 := by have := List.length_pos_iff.2 hz; omega
      simp only [if_neg hz']
      have eh : mHead h = mJoin [44] (h.map mFmtTerm) := by unfold mHead; rw [if_neg hz]
      rw [eh] at hh ⊢
      simp only [strOfNums_size]
      have z0 : (mJoin [44] (h.map mFmtTerm)).length + 4 ≤ 9223372036854775807 := by omega
      simp only [if_pos z0]
      refine evb gd ?_
      simp only [← strOfNums_append, strOfNums_size]
      have z1 : (mJoin [44] (h.map mFmtTerm) ++ [32, 58, 45, 32] : List Int).length + (mJoin [59, 32] (d.map fA)).length ≤ 9223372036854775807 := by simp; omega
      simp only [if_pos z1]
      exact evc fun k => rfl
  · intro pre a suf e ih hp
    have hpl : pre.length < 8 := by rw [e] at dl; simp at dl; omega
    refine Ev.step (fun k => impl_FormatQuery.l1.eq_2 ..) ?_
    simp only [if_pos (lt_of e), if_pos (len_nonneg _), rdIA_of e]
    refine evb (implFmtAtom_ev a.f0 a.f1 (hs a (by rw [e]; simp))) ?_
    simp only [str_nil]
    change Ev (fun k => if fA a = [] then _ else _) _
    by_cases hz : fA a = []
    · simp only [if_pos hz]
      rw [fq_bad e hz]; exact evc fun k => rfl
    · have hc : ((pre.map fA).map strOfNums).length < 8796093022208 := by simp; omega
      simp only [if_neg hz, if_pos hc, nx_of e (show d.length ≤ 140737488355328 by omega)]
      have r := ih (snoc_ok hp hz)
      simpa [fA] using r
theorem implFmtQuery_ev (h : List Int) (d : List S38) (hl : h.length ≤ 1048576) (dl : d.length ≤ 1048576) (hs : ∀ x ∈ d, x.f1.length ≤ 1048576) : Ev (fun k => impl_FormatQuery.f k h d) (strOfNums (mFmtQuery h d)) := by
  unfold impl_FormatQuery.f
  have jt : Ev (fun k => impl_FormatQuery.j0 k true h d) (strOfNums []) := evn fun k => by simp only [impl_FormatQuery.j0]; rw [if_pos trivial]; rfl
  by_cases c0 : (h.length : Int) > 3
  · simp only [if_pos c0]
    rw [show mFmtQuery h d = [] by unfold mFmtQuery; rw [if_neg (fun H => by have := H.1; omega)]]
    exact jt
  simp only [if_neg c0]
  refine evb (areTerms_ev h (by omega)) ?_
  simp only [within_eq, Option.bind_some]
  by_cases c1 : h.all mIsTerm = true
  · rw [c1]
    simp only [if_true]
    by_cases c2 : 1 ≤ (d.length : Int) ∧ (d.length : Int) ≤ 8
    · simp only [c2, and_self, decide_true, Bool.not_true]
      rw [show mFmtQuery h d = mFmtQ h d by unfold mFmtQuery; rw [if_pos ⟨by omega, c1, c2⟩]]
      refine Ev.step (fun k => impl_FormatQuery.j0.eq_2 ..) ?_
      simp only [Bool.false_eq_true, if_false]
      have key := idx_ind h (fun pre suf => Ev (fun k => impl_FormatQuery.l0 k ((pre.map mFmtTerm).map strOfNums) ([] : List ByteArray) h (h.length : Int) (pre.length : Int) h d) (strOfNums (mFmtQ h d))) ?_ ?_
      · exact key
      · refine Ev.step (fun k => impl_FormatQuery.l0.eq_2 ..) ?_
        simp only [if_neg (end_not _)]
        exact implFQ_l1 h d (by omega) (by omega) (by omega) hs
      · intro pre a suf e ih
        refine Ev.step (fun k => impl_FormatQuery.l0.eq_2 ..) ?_
        simp only [if_pos (lt_of e), if_pos (len_nonneg _), rd_of e]
        refine evb (implFmtTerm_ev a) ?_
        have hc : ((pre.map mFmtTerm).map strOfNums).length < 8796093022208 := by rw [e] at c0; simp at c0 ⊢; omega
        simp only [if_pos hc, nx_of e (show h.length ≤ 140737488355328 by omega)]
        simpa using ih
    · rw [show mFmtQuery h d = [] by unfold mFmtQuery; rw [if_neg (fun H => c2 H.2.2)]]
      simp only [c2, decide_false, Bool.not_false]
      exact jt
  · rw [show mFmtQuery h d = [] by unfold mFmtQuery; rw [if_neg (fun H => c1 H.2.1)], show h.all mIsTerm = false by simpa using c1]
    simp only [Bool.false_eq_true, if_false]
    exact jt

theorem FnExactFormatQuery (h : List Int) (d : List S35) (w0 : (WfL WfI) h ∧ (WfL (fun x : S35 => WfI x.f0 ∧ (WfL WfI) x.f1)) d) : ∃ k, laws_FnExactFormatQuery.f k h d = some true := by
  refine Ev.rounds ?_
  unfold laws_FnExactFormatQuery.f
  obtain ⟨t0, z0, c0⟩ := szQuery_ok h d 1048576 w0 (by omega) (by omega)
  refine evb z0 ?_
  rcases c0 with c0 | ⟨p0, q0, hs0⟩
  · simp only [if_pos c0]; exact evc fun k => rfl
  have n0 : ¬ t0 < 0 := by omega
  simp only [if_neg n0]
  refine evb (toQuery_ev h d hs0.1 hs0.2.1 hs0.2.2) ?_
  refine evb (specFmtQuery_ev h (d.map cvA) hs0.1 (by simpa using hs0.2.1) (cvA_small hs0.2.2)) ?_
  refine evb (toQuery_ev h d hs0.1 hs0.2.1 hs0.2.2) ?_
  refine evb (implFmtQuery_ev h (d.map cvA) hs0.1 (by simpa using hs0.2.1) (cvA_small hs0.2.2)) ?_
  simp only [if_true]
  refine evb (toQuery_ev h d hs0.1 hs0.2.1 hs0.2.2) ?_
  refine evb (eqQuery_ev h (d.map cvA) hs0.1 (by simpa using hs0.2.1) (cvA_small hs0.2.2)) ?_
  simp only [and_self, decide_true, if_true]
  exact evc fun k => rfl

end Go.Proofs.Ytpfpappamlgnoaa.Pure
