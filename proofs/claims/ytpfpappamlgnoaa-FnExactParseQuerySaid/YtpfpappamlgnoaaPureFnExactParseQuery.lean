/- The pure statement of the law FnExactParseQuery: the program's function and the reference's agree, for all arguments within the row's bounds. -/
import Derived.Test.YtpfpappamlgnoaaQFnExactParseQueryx0
import Derived.Test.YtpfpappamlgnoaaQFnExactParseQueryx1
import Derived.Test.YtpfpappamlgnoaaQFnExactParseQueryx2
import Derived.Test.YtpfpappamlgnoaaQFnExactParseQueryx3
import Derived.Test.YtpfpappamlgnoaaQFnExactParseQueryx4
import Derived.Test.YtpfpappamlgnoaaQFnExactParseQueryx5
import Derived.Test.YtpfpappamlgnoaaQFnExactParseQueryx6
import Derived.Test.YtpfpappamlgnoaaQFnExactParseQueryx7
import Derived.Test.YtpfpappamlgnoaaQFnExactParseQueryx8
import Derived.Test.YtpfpappamlgnoaaQFnExactParseQueryx9
import Derived.Test.YtpfpappamlgnoaaQFnExactParseQueryx10
import Derived.Test.YtpfpappamlgnoaaQFnExactParseQueryx11
import Derived.Test.YtpfpappamlgnoaaQFnExactParseQueryx12
import Derived.Test.YtpfpappamlgnoaaQFnExactParseQueryx13
import Derived.Test.YtpfpappamlgnoaaQFnExactParseQueryx14
import Derived.Test.YtpfpappamlgnoaaQFnExactParseQueryx15
import Derived.Test.YtpfpappamlgnoaaQFnExactParseQueryx16
import Derived.Test.YtpfpappamlgnoaaQFnExactParseQueryx17
import Derived.Test.YtpfpappamlgnoaaVFnExactParseQueryMine
import Derived.Test.YtpfpappamlgnoaaVFnExactParseQueryOpen
set_option linter.unusedVariables false
set_option linter.unusedSimpArgs false
namespace Go.Proofs.Ytpfpappamlgnoaa.Pure
open Go.RowKit Go.Proofs.Ytpfpappamlgnoaa.QFnExactParseQuery Go.Proofs.YtpfpappamlgnoaaW.PrintWords Go.Proofs.YtpfpappamlgnoaaW.PrintLast Go.Proofs.Ytpfpappamlgnoaa.Mine Go.Proofs.Ytpfpappamlgnoaa.Open

theorem szIntS_eq (l : List Int) (a : Int) (h : l.length ≤ maxLen) (h0 : 0 ≤ a) (h1 : a ≤ 1048576) : laws_szIntS.f l a = some (mSz l a) := by
  unfold maxLen at h
  unfold laws_szIntS.f mSz
  rw [w64 (by omega) (by omega)]
  by_cases hc : (l.length : Int) ≤ a
  · rw [if_neg (by omega), if_pos hc]
  · rw [if_pos (by omega), if_neg hc]
/-! ### A copy of a list -/
theorem toIntS_l0 (suf : List Int) : ∀ pre : List Int, (pre ++ suf).length ≤ 17592186044416 → Ev (fun k => laws_toIntS.l0 k (pre ++ suf) (pre ++ List.replicate suf.length 0) (pre.length : Int)) (pre ++ suf) := by
  induction suf with
  | nil =>
    intro pre h
    simp only [List.append_nil, List.length_nil, List.replicate_zero]
    refine evn fun k => ?_
    simp only [laws_toIntS.l0]
    rw [if_neg (end_not _)]
  | cons a t ih =>
    intro pre h
    have h1 := ih (pre ++ [a]) (by simpa using h)
    have hl : pre.length ≤ 140737488355328 := by simp at h; omega
    refine Ev.step (fun k => ?_) (by simpa using h1)
    simp only [laws_toIntS.l0]
    rw [if_pos (mid_lt _ _ _), if_pos (len_nonneg _)]
    simp only [List.length_cons, List.replicate_succ]
    rw [if_pos (mid_lt _ _ _), rd_mid, set_mid, iw (a := a) hl]
    simp
theorem toIntS_ev (l : List Int) (h : l.length ≤ 17592186044416) : Ev (fun k => laws_toIntS.f k l) l := by
  have h1 := toIntS_l0 l [] (by simpa using h)
  refine Ev.congr (fun k => ?_) h1
  unfold laws_toIntS.f
  rw [if_pos (by omega), if_pos (by simp; omega)]
  simp
/-! ### Equal lists -/
theorem eqIntS_l0 (suf : List Int) : ∀ (pre suf2 pre2 : List Int), pre.length = pre2.length → suf.length = suf2.length → (pre ++ suf).length ≤ 17592186044416 →
    Ev (fun k => laws_eqIntS.l0 k (pre ++ suf) (pre2 ++ suf2) (pre.length : Int)) (decide (suf = suf2)) := by
  induction suf with
  | nil =>
    intro pre suf2 pre2 hp hs h
    obtain rfl : suf2 = [] := List.eq_nil_of_length_eq_zero (by simpa using hs.symm)
    simp only [List.append_nil]
    refine evn fun k => ?_
    simp only [laws_eqIntS.l0]
    rw [if_neg (end_not _)]; simp
  | cons a t ih =>
    intro pre suf2 pre2 hp hs h
    obtain ⟨b, t2, rfl⟩ : ∃ b t2, suf2 = b :: t2 := by cases suf2 with
      | nil => simp at hs
      | cons b t2 => exact ⟨b, t2, rfl⟩
    have hl : pre.length ≤ 140737488355328 := by simp at h; omega
    have r1 : rd (pre2 ++ b :: t2) (pre.length : Int) = b := by rw [hp]; exact rd_mid _ _ _
    have l1 : (pre.length : Int) < ((pre2 ++ b :: t2).length : Int) := by rw [hp]; exact mid_lt _ _ _
    by_cases hab : a = b
    · subst hab
      have h1 := ih (pre ++ [a]) t2 (pre2 ++ [a]) (by simpa using hp) (by simpa using hs) (by simpa using h)
      have e : decide (a :: t = a :: t2) = decide (t = t2) := by simp
      rw [e]
      refine Ev.step (fun k => ?_) (by simpa using h1)
      simp only [laws_eqIntS.l0]
      rw [if_pos (mid_lt _ _ _), if_pos (len_nonneg _), if_pos l1, rd_mid, r1, if_pos rfl, iw (a := a) hl]
      simp
    · have e : decide (a :: t = b :: t2) = false := by simp [hab]
      rw [e]
      refine evn fun k => ?_
      simp only [laws_eqIntS.l0]
      rw [if_pos (mid_lt _ _ _), if_pos (len_nonneg _), if_pos l1, rd_mid, r1, if_neg hab]
theorem eqIntS_ev (l l2 : List Int) (h : l.length ≤ 17592186044416) : Ev (fun k => laws_eqIntS.f k l l2) (decide (l = l2)) := by
  by_cases hl : l.length = l2.length
  · have h1 := eqIntS_l0 l [] l2 [] rfl hl (by simpa using h)
    refine Ev.congr (fun k => ?_) h1
    unfold laws_eqIntS.f
    rw [if_pos (by omega)]
    simp
  · have e : decide (l = l2) = false := by simp; intro h; exact hl (by rw [h])
    rw [e]
    refine evc fun k => ?_
    unfold laws_eqIntS.f
    rw [if_neg (by omega)]
theorem szSchema_eq (l : List Int) (a : Int) (h : l.length ≤ maxLen) (h0 : 0 ≤ a) (h1 : a ≤ 1048576) : laws_szSchema.f l a = some (mSz l a) := by
  unfold laws_szSchema.f
  rw [szIntS_eq l a h h0 h1]
  simp only [Option.bind_some]
  unfold mSz
  by_cases hc : (l.length : Int) ≤ a
  · simp only [if_pos hc]; rw [if_neg (by omega)]
  · simp only [if_neg hc]; rfl
theorem toSchema_ev (l : List Int) (h : l.length ≤ 17592186044416) : Ev (fun k => laws_toSchema.f k l) l := by
  unfold laws_toSchema.f
  refine evb (toIntS_ev l h) ?_
  exact evc fun k => rfl
theorem eqSchema_ev (l m : List Int) (h : l.length ≤ 17592186044416) : Ev (fun k => laws_eqSchema.f k l m) (decide (l = m)) := by
  unfold laws_eqSchema.f
  refine evb (eqIntS_ev l m h) ?_
  refine evc fun k => ?_
  by_cases e : l = m
  · simp [e]
  · simp [e]
theorem szSchema_ok (l : List Int) (a : Int) (w : (WfL WfI) l) (h0 : 0 ≤ a) (h1 : a ≤ 1048576) : ∃ t, Ev (fun _ : Nat => laws_szSchema.f l a) t ∧ (t < 0 ∨ 0 ≤ t ∧ t ≤ a ∧ l.length ≤ 1048576) := by
  refine ⟨mSz l a, evc fun k => szSchema_eq l a w.2 h0 h1, ?_⟩
  unfold mSz
  by_cases hc : (l.length : Int) ≤ a
  · rw [if_pos hc]; right; omega
  · rw [if_neg hc]; left; omega
theorem eqAtom_ev (r : Int) (l : List Int) (q : Int) (m : List Int) (h : l.length ≤ 17592186044416) : Ev (fun k => laws_eqAtom.f k r l q m) (decide (r = q ∧ l = m)) := by
  unfold laws_eqAtom.f
  by_cases hr : r = q
  · simp only [if_pos hr]
    refine evb (eqIntS_ev l m h) ?_
    refine evc fun k => ?_
    by_cases e : l = m
    · simp [e, hr]
    · simp [e]
  · simp only [if_neg hr]
    refine evc fun k => ?_
    simp [hr]
theorem rdIA_of {l pre suf : List S38} {a : S38} (e : l = pre ++ a :: suf) : rd_T38 l (pre.length : Int) = a := getD_of e _
/-! ### Lists of atoms -/
def SmAi (l : List S38) : Prop := ∀ x ∈ l, x.f1.length ≤ 1048576
theorem eqAtomS_ev (l : List S38) (hl : l.length ≤ 1048576) (hs : ∀ x ∈ l, x.f1.length ≤ 1048576) : Ev (fun k => laws_eqAtomS.f k l l) true := by
  have key := idx_ind l (fun pre suf => Ev (fun k => laws_eqAtomS.l0 k l l (pre.length : Int)) true) ?_ ?_
  · refine Ev.congr (fun k => ?_) key
    unfold laws_eqAtomS.f
    rw [if_pos rfl]; rfl
  · refine evn fun k => ?_
    simp only [laws_eqAtomS.l0]
    rw [if_neg (end_not _)]
  · intro pre x suf e ih
    have hx : x.f1.length ≤ 1048576 := hs x (by rw [e]; simp)
    refine Ev.step (f := fun k => (laws_eqAtom.f k x.f0 x.f1 x.f0 x.f1).bind fun b => if b = true then laws_eqAtomS.l0 k l l ((pre ++ [x]).length : Int) else some false) (fun k => ?_) ?_
    · simp only [laws_eqAtomS.l0]
      rw [if_pos (lt_of e), if_pos (len_nonneg _), if_pos (lt_of e), rdIA_of e, nx_of e (by omega)]
    · refine evb (eqAtom_ev x.f0 x.f1 x.f0 x.f1 (by omega)) ?_
      simp only [and_self, decide_true, if_true]
      exact ih
/-! ### Queries -/
theorem eqQuery_ev (h : List Int) (d : List S38) (hh : h.length ≤ 1048576) (hl : d.length ≤ 1048576) (hs : ∀ x ∈ d, x.f1.length ≤ 1048576) : Ev (fun k => laws_eqQuery.f k h d h d) true := by
  unfold laws_eqQuery.f
  refine evb (eqIntS_ev h h (by omega)) ?_
  simp only [decide_true, if_true]
  refine evb (eqAtomS_ev d hl hs) ?_
  simp only [if_true]
  exact evc fun k => rfl
theorem markIntS_l0 (suf : List Int) : ∀ (pre : List Int) (m : Int), 0 ≤ m → m + suf.length ≤ 9223372036854775807 → (pre ++ suf).length ≤ 17592186044416 →
    Ev (fun k => laws_markIntS.l0 k (pre ++ suf) m (pre.length : Int)) (m + (suf.length : Int), pre ++ mMarks m suf.length) := by
  induction suf with
  | nil =>
    intro pre m h0 h1 h
    refine evn fun k => ?_
    simp only [laws_markIntS.l0, List.append_nil]
    rw [if_neg (end_not _)]; simp [mMarks]
  | cons a t ih =>
    intro pre m h0 h1 h
    have hl : pre.length ≤ 140737488355328 := by simp at h; omega
    have r := ih (pre ++ [m]) (m + 1) (by omega) (by simp at h1; omega) (by simpa using h)
    have e : m + ((a :: t).length : Int) = m + 1 + (t.length : Int) := by simp; omega
    rw [e]
    refine Ev.step (fun k => ?_) (by simpa [mMarks] using r)
    simp only [laws_markIntS.l0]
    rw [if_pos (mid_lt _ _ _), if_pos (len_nonneg _), set_mid, iw (a := m) hl, w64 (by omega) (by simp at h1; omega)]
    simp
theorem markIntS_ev (l : List Int) (m : Int) (h0 : 0 ≤ m) (h1 : m ≤ 4611686018427387904) (h : l.length ≤ 17592186044416) : Ev (fun k => laws_markIntS.f k l m) (m + (l.length : Int), mMarks m l.length) := by
  have r := markIntS_l0 l [] m h0 (by omega) (by simpa using h)
  exact r
theorem heldIntS_l0 : ∀ (n : Nat) (pre : List Int) (m : Int), 0 ≤ m → m + n ≤ 9223372036854775807 → pre.length + n ≤ 17592186044416 →
    Ev (fun k => laws_heldIntS.l0 k (pre ++ mMarks m n) m (pre.length : Int)) (m + (n : Int))
  | 0, pre, m, h0, h1, h => by
    refine evn fun k => ?_
    simp only [laws_heldIntS.l0, mMarks, List.append_nil]
    rw [if_neg (end_not _)]; simp
  | n + 1, pre, m, h0, h1, h => by
    have r := heldIntS_l0 n (pre ++ [m]) (m + 1) (by omega) (by omega) (by simp; omega)
    have e : m + ((n + 1 : Nat) : Int) = m + 1 + (n : Int) := by omega
    rw [e]
    refine Ev.step (fun k => ?_) (by simpa [mMarks] using r)
    rw [show mMarks m (n + 1) = m :: mMarks (m + 1) n from rfl]
    simp only [laws_heldIntS.l0]
    rw [if_pos (mid_lt _ _ _), if_pos (len_nonneg _), rd_mid, if_pos rfl, iw (a := m) (by omega), w64 (by omega) (by omega)]
    simp
theorem heldIntS_ev (m : Int) (n : Nat) (h0 : 0 ≤ m) (h1 : m ≤ 4611686018427387904) (h : n ≤ 17592186044416) : Ev (fun k => laws_heldIntS.f k (mMarks m n) m) (m + (n : Int)) := by
  have r := heldIntS_l0 n [] m h0 (by omega) (by simpa using h)
  exact r
/-! ### FormatInt -/
theorem tdiv_neg10 (m : Nat) : Int.tdiv (-(m : Int)) 10 = -((m / 10 : Nat) : Int) := by
  rw [Int.neg_tdiv, Int.tdiv_eq_ediv_of_nonneg (by omega)]; omega
theorem tmod_neg10 (m : Nat) : Int.tmod (-(m : Int)) 10 = -((m % 10 : Nat) : Int) := by
  rw [Int.neg_tmod, Int.tmod_eq_emod_of_nonneg (by omega)]; omega
theorem tdiv_pos10 (m : Nat) : Int.tdiv (m : Int) 10 = ((m / 10 : Nat) : Int) := by
  rw [Int.tdiv_eq_ediv_of_nonneg (by omega)]; omega
theorem tmod_pos10 (m : Nat) : Int.tmod (m : Int) 10 = ((m % 10 : Nat) : Int) := by
  rw [Int.tmod_eq_emod_of_nonneg (by omega)]; omega
theorem append_empty_left (b : ByteArray) : strOfNums [] ++ b = b := by simp [strOfNums, ByteArray.ext_iff]
theorem dig_byte (d : Nat) (h : d < 10) : (48 + (d : Int)) % 256 = 48 + (d : Int) := by omega
theorem specFmt_pos : ∀ (j m : Nat) (out : ByteArray), m < 10 ^ j → m ≤ 9223372036854775807 → out.size + j ≤ 1000 → Ev (fun k => spec_FormatInt.l0 k m out false) (strOfNums (mDig m) ++ out)
  | 0, m, out, h, hm, ho => by
    obtain rfl : m = 0 := by simpa using h
    refine evn fun k => ?_
    simp only [spec_FormatInt.l0]
    rw [if_pos (by omega), if_neg (by simp), mDig_zero, append_empty_left]
  | j + 1, m, out, h, hm, ho => by
    by_cases h0 : m = 0
    · subst h0
      refine evn fun k => ?_
      simp only [spec_FormatInt.l0]
      rw [if_pos (by omega), if_neg (by simp), mDig_zero, append_empty_left]
    · have hj : m / 10 < 10 ^ j := by rw [Nat.pow_succ] at h; omega
      have hs : (strOfNums [48 + ((m % 10 : Nat) : Int)] ++ out).size + j ≤ 1000 := by rw [ByteArray.size_append, strOfNums_size]; simp; omega
      have r := specFmt_pos j (m / 10) (strOfNums [48 + ((m % 10 : Nat) : Int)] ++ out) hj (by omega) hs
      rw [mDig_pos h0, strOfNums_append, ByteArray.append_assoc]
      refine Ev.step (fun k => ?_) r
      simp only [spec_FormatInt.l0]
      rw [if_neg (by omega), tmod_pos10, tdiv_pos10, if_neg (by omega)]
      simp only [Option.bind_some]
      rw [w64 (by omega) (by omega), dig_byte _ (by omega), if_pos (by rw [strOfNums_size]; simp; omega), w64 (by omega) (by omega)]
theorem specFmt_neg : ∀ (j m : Nat) (out : ByteArray), m < 10 ^ j → m ≤ 9223372036854775808 → out.size + j ≤ 1000 → Ev (fun k => spec_FormatInt.l0 k (-(m : Int)) out true) (strOfNums [45] ++ (strOfNums (mDig m) ++ out))
  | 0, m, out, h, hm, ho => by
    obtain rfl : m = 0 := by simpa using h
    refine evn fun k => ?_
    simp only [spec_FormatInt.l0]
    rw [if_pos (by omega), if_pos trivial, if_pos (by omega), mDig_zero, append_empty_left]
    rfl
  | j + 1, m, out, h, hm, ho => by
    by_cases h0 : m = 0
    · subst h0
      refine evn fun k => ?_
      simp only [spec_FormatInt.l0]
      rw [if_pos (by omega), if_pos trivial, if_pos (by omega), mDig_zero, append_empty_left]
      rfl
    · have hj : m / 10 < 10 ^ j := by rw [Nat.pow_succ] at h; omega
      have hs : (strOfNums [48 + ((m % 10 : Nat) : Int)] ++ out).size + j ≤ 1000 := by rw [ByteArray.size_append, strOfNums_size]; simp; omega
      have r := specFmt_neg j (m / 10) (strOfNums [48 + ((m % 10 : Nat) : Int)] ++ out) hj (by omega) hs
      rw [mDig_pos h0, strOfNums_append, ByteArray.append_assoc]
      refine Ev.step (fun k => ?_) r
      simp only [spec_FormatInt.l0]
      rw [if_neg (by omega), tmod_neg10, tdiv_neg10]
      by_cases hd : m % 10 = 0
      · rw [if_neg (by omega)]
        simp only [Option.bind_some]
        rw [w64 (by omega) (by omega), if_pos (by rw [strOfNums_size]; simp; omega), w64 (by omega) (by omega)]
        rw [show (48 + -((m % 10 : Nat) : Int)) % 256 = 48 + ((m % 10 : Nat) : Int) by omega]
      · rw [if_pos (by omega)]
        simp only [Option.bind_some]
        rw [w64 (x := - -((m % 10 : Nat) : Int)) (by omega) (by omega), w64 (by omega) (by omega), if_pos (by rw [strOfNums_size]; simp; omega), w64 (by omega) (by omega)]
        rw [show (48 + - -((m % 10 : Nat) : Int)) % 256 = 48 + ((m % 10 : Nat) : Int) by omega]
theorem append_empty_right (b : ByteArray) : b ++ (⟨#[]⟩ : ByteArray) = b := by simp [ByteArray.ext_iff]
theorem specFmt_ev (n : Int) (h0 : -9223372036854775808 ≤ n) (h1 : n ≤ 9223372036854775807) : Ev (fun k => spec_FormatInt.f k n) (strOfNums (mFmt n)) := by
  unfold spec_FormatInt.f mFmt
  by_cases hz : n = 0
  · simp only [if_pos hz]; exact evc fun k => rfl
  · simp only [if_neg hz]
    by_cases hn : n < 0
    · obtain ⟨m, rfl⟩ : ∃ m : Nat, n = -(m : Int) := ⟨n.natAbs, by omega⟩
      have r := specFmt_neg 20 m ⟨#[]⟩ (by omega) (by omega) (by simp [ByteArray.size])
      rw [append_empty_right] at r
      rw [if_pos hn, decide_eq_true hn, show (-(m : Int)).natAbs = m by omega]
      rw [show (45 : Int) :: mDig m = [45] ++ mDig m from rfl, strOfNums_append]
      exact r
    · obtain ⟨m, rfl⟩ : ∃ m : Nat, n = (m : Int) := ⟨n.natAbs, by omega⟩
      have r := specFmt_pos 20 m ⟨#[]⟩ (by omega) (by omega) (by simp [ByteArray.size])
      rw [append_empty_right] at r
      rw [if_neg hn, decide_eq_false hn, show ((m : Int)).natAbs = m by omega]
      exact r
theorem implRev : ∀ (n : Nat) (M A B : List Int), M.length ≤ n → A.length = B.length → (A ++ M ++ B).length ≤ 1000 → Ev (fun k => impl_FormatInt.l1 k (A ++ M ++ B) (A.length : Int) ((A.length : Int) + (M.length : Int) - 1)) (strOfNums (A ++ M.reverse ++ B))
  | n, [], A, B, hn, hab, hl => by
    refine evn fun k => ?_
    simp only [impl_FormatInt.l1]
    rw [if_neg (by simp <;> omega)]; simp
  | n, [a], A, B, hn, hab, hl => by
    refine evn fun k => ?_
    simp only [impl_FormatInt.l1]
    rw [if_neg (by simp <;> omega)]; simp
  | 0, a :: c :: R, A, B, hn, hab, hl => by simp at hn
  | n + 1, a :: c :: R, A, B, hn, hab, hl => by
    obtain ⟨M', b, hM⟩ : ∃ M' b, c :: R = M' ++ [b] := ⟨(c :: R).dropLast, (c :: R).getLast (by simp), (List.dropLast_concat_getLast (by simp)).symm⟩
    rw [hM]
    have hlen : M'.length + 1 = R.length + 1 := by have := congrArg List.length hM; simpa using this.symm
    have hsz : A.length + M'.length + B.length + 2 ≤ 1000 := by simp at hl; omega
    have r := implRev n M' (A ++ [b]) (a :: B) (by simp at hn; omega) (by simp [hab]) (by simp; omega)
    have e1 : (A ++ a :: (M' ++ [b]) ++ B) = A ++ a :: (M' ++ b :: B) := by simp
    have e2 : (A ++ a :: (M' ++ b :: B)) = (A ++ a :: M') ++ b :: B := by simp
    have ei : (A.length : Int) + ((a :: (M' ++ [b])).length : Int) - 1 = ((A ++ a :: M').length : Int) := by simp; omega
    have er : A ++ (a :: (M' ++ [b])).reverse ++ B = (A ++ [b]) ++ M'.reverse ++ (a :: B) := by simp
    rw [er, ei, e1]
    refine Ev.step (fun k => ?_) r
    simp only [impl_FormatInt.l1]
    have ra : rd (A ++ a :: (M' ++ b :: B)) (A.length : Int) = a := rd_mid _ _ _
    have rb : rd (A ++ a :: (M' ++ b :: B)) ((A ++ a :: M').length : Int) = b := by rw [e2]; exact rd_mid _ _ _
    rw [if_pos (by simp; omega), if_pos (by omega), if_pos (by simp; omega), if_pos (by omega), if_pos (by simp; omega), ra, rb, set_mid]
    have e3 : (A ++ b :: (M' ++ b :: B)) = (A ++ b :: M') ++ b :: B := by simp
    have e4 : ((A ++ a :: M').length : Int) = ((A ++ b :: M').length : Int) := by simp
    rw [e3, e4, set_mid, w64 (by omega) (by omega), w64 (by simp; omega) (by simp; omega)]
    congr 1
    · simp
    · simp
    · simp; omega
theorem implFmt_end (x : Int) (acc : List Int) (h : acc.length ≤ 900) : Ev (fun k => impl_FormatInt.l0 k x acc 0) (strOfNums ((if x < 0 then [45] else []) ++ acc.reverse)) := by
  have jr : ∀ y : List Int, y.length ≤ 901 → Ev (fun k => impl_FormatInt.j1 k y) (strOfNums y.reverse) := by
    intro y hy
    have r := implRev y.length y [] [] (Nat.le_refl _) rfl (by simp; omega)
    simp only [List.nil_append, List.append_nil, List.length_nil] at r
    refine Ev.step (fun k => ?_) r
    simp only [impl_FormatInt.j1]
    rw [w64 (by omega) (by omega)]
    congr 1; simp
  by_cases hx : x < 0
  · have r := jr (acc ++ [45]) (by simp; omega)
    rw [if_pos hx]
    refine Ev.step (fun k => ?_) (by simpa using r)
    simp only [impl_FormatInt.l0]
    rw [if_pos trivial, if_pos hx, if_pos (by omega)]
  · have r := jr acc (by omega)
    rw [if_neg hx]
    refine Ev.step (fun k => ?_) (by simpa using r)
    simp only [impl_FormatInt.l0]
    rw [if_pos trivial, if_neg hx]
theorem implFmt_pos (x : Int) : ∀ (j m : Nat) (acc : List Int), m < 10 ^ j → m ≤ 9223372036854775807 → acc.length + j ≤ 900 → Ev (fun k => impl_FormatInt.l0 k x acc m) (strOfNums ((if x < 0 then [45] else []) ++ (mDig m ++ acc.reverse)))
  | 0, m, acc, h, hm, ho => by
    obtain rfl : m = 0 := by simpa using h
    rw [mDig_zero]; exact implFmt_end x acc (by omega)
  | j + 1, m, acc, h, hm, ho => by
    by_cases h0 : m = 0
    · subst h0; rw [mDig_zero]; exact implFmt_end x acc (by omega)
    · have hj : m / 10 < 10 ^ j := by rw [Nat.pow_succ] at h; omega
      have r := implFmt_pos x j (m / 10) (acc ++ [48 + ((m % 10 : Nat) : Int)]) hj (by omega) (by simp; omega)
      rw [mDig_pos h0]
      refine Ev.step (fun k => ?_) (by simpa using r)
      simp only [impl_FormatInt.l0]
      rw [if_neg (by omega), tmod_pos10, tdiv_pos10, if_neg (by omega), if_pos (by omega), w64 (by omega) (by omega), dig_byte _ (by omega), w64 (by omega) (by omega)]
      simp
theorem implFmt_neg (x : Int) : ∀ (j m : Nat) (acc : List Int), m < 10 ^ j → m ≤ 9223372036854775808 → acc.length + j ≤ 900 → Ev (fun k => impl_FormatInt.l0 k x acc (-(m : Int))) (strOfNums ((if x < 0 then [45] else []) ++ (mDig m ++ acc.reverse)))
  | 0, m, acc, h, hm, ho => by
    obtain rfl : m = 0 := by simpa using h
    rw [mDig_zero]; exact implFmt_end x acc (by omega)
  | j + 1, m, acc, h, hm, ho => by
    by_cases h0 : m = 0
    · subst h0; rw [mDig_zero]; exact implFmt_end x acc (by omega)
    · have hj : m / 10 < 10 ^ j := by rw [Nat.pow_succ] at h; omega
      have r := implFmt_neg x j (m / 10) (acc ++ [48 + ((m % 10 : Nat) : Int)]) hj (by omega) (by simp; omega)
      rw [mDig_pos h0]
      refine Ev.step (fun k => ?_) (by simpa using r)
      simp only [impl_FormatInt.l0]
      rw [if_neg (by omega), tmod_neg10, tdiv_neg10]
      by_cases hd : m % 10 = 0
      · rw [if_neg (by omega), if_pos (by omega), w64 (by omega) (by omega), w64 (by omega) (by omega)]
        rw [show (48 + -((m % 10 : Nat) : Int)) % 256 = 48 + ((m % 10 : Nat) : Int) by omega]
        simp
      · rw [if_pos (by omega), if_pos (by omega), w64 (x := - -((m % 10 : Nat) : Int)) (by omega) (by omega), w64 (by omega) (by omega), w64 (by omega) (by omega)]
        rw [show (48 + - -((m % 10 : Nat) : Int)) % 256 = 48 + ((m % 10 : Nat) : Int) by omega]
        simp
theorem implFmt_ev (n : Int) (h0 : -9223372036854775808 ≤ n) (h1 : n ≤ 9223372036854775807) : Ev (fun k => impl_FormatInt.f k n) (strOfNums (mFmt n)) := by
  unfold impl_FormatInt.f mFmt
  by_cases hz : n = 0
  · simp only [if_pos hz]; exact evc fun k => rfl
  · simp only [if_neg hz]
    by_cases hn : n < 0
    · obtain ⟨m, rfl⟩ : ∃ m : Nat, n = -(m : Int) := ⟨n.natAbs, by omega⟩
      have r := implFmt_neg (-(m : Int)) 20 m [] (by omega) (by omega) (by simp)
      rw [if_pos hn] at r
      rw [if_pos hn, show (-(m : Int)).natAbs = m by omega]
      simpa using r
    · obtain ⟨m, rfl⟩ : ∃ m : Nat, n = (m : Int) := ⟨n.natAbs, by omega⟩
      have r := implFmt_pos (m : Int) 20 m [] (by omega) (by omega) (by simp)
      rw [if_neg hn] at r
      rw [if_neg hn, show ((m : Int)).natAbs = m by omega]
      simpa using r
theorem within_eq (x lo hi : Int) : impl_within.f x lo hi = some (decide (lo ≤ x ∧ x ≤ hi)) := by
  unfold impl_within.f
  by_cases h : x ≥ lo
  · rw [if_pos h]; congr 1; simp; omega
  · rw [if_neg h]; congr 1; simp; omega
/-! ### ParseInt -/
theorem bt_rd (s : ByteArray) (i : Int) : bt s i = rd (bytesOf s) i := (rd_bytesOf s i).symm
theorem toList_if {α : Type} (a b : ByteArray) (x y : α) : (if a.toList = b.toList then x else y) = if a = b then x else y := by
  by_cases h : a = b
  · rw [if_pos h, if_pos (by rw [h])]
  · rw [if_neg h, if_neg (fun e => h (toList_inj.1 e))]
def mFin (s : ByteArray) (n : Int) : Int × Bool := if strOfNums (mFmt n) = s then (n, true) else (0, false)
def mImplParse (s : ByteArray) : Int × Bool :=
  let b := bytesOf s
  let a : Nat := if b.head? = some 45 then 1 else 0
  if 1 ≤ (b.length : Int) - a ∧ (b.length : Int) - a ≤ 9 then
    if (b.drop a).all mIsDg = true then mFin s (if a = 1 then -(mVal 0 (b.drop a)) else mVal 0 (b.drop a)) else (0, false)
  else (0, false)
theorem implParse_l0 (s : ByteArray) (a : Int) (ha : a = 0 ∨ a = 1) : ∀ (j : Nat) (suf pre : List Int) (v : Int), bytesOf s = pre ++ suf → suf.length ≤ j → 0 ≤ v → v + 1 ≤ 10 ^ (9 - j) → j ≤ 9 → pre.length + j ≤ 20 →
    Ev (fun k => impl_ParseInt.l0 k s a v (pre.length : Int)) (if suf.all mIsDg = true then mFin s (if a = 1 then -(mVal v suf) else mVal v suf) else (0, false)) := by
  intro j suf
  induction suf generalizing j with
  | nil =>
    intro pre v e hj h0 hv hj9 hp
    have hs : s.size = pre.length := by rw [← bytesOf_length, e]; simp
    have hv9 : v + 1 ≤ 10 ^ 9 := Int.le_trans hv (pow10_le (by omega))
    have hv10 : v ≤ 999999999 := by have : (10 : Int) ^ 9 = 1000000000 := by decide
                                    omega
    simp only [List.all_nil, if_true, mVal_nil]
    rcases ha with rfl | rfl
    · refine Ev.step (f := fun k => (impl_FormatInt.f k v).bind fun t => if t.toList = s.toList then some (v, true) else some (0, false)) (fun k => ?_) ?_
      · simp only [impl_ParseInt.l0]
        rw [if_neg (by omega), if_neg (by omega)]
      · refine evb (implFmt_ev v (by omega) (by omega)) ?_
        refine evc fun k => ?_
        rw [toList_if, show (if (0 : Int) = 1 then -v else v) = v by simp]
        unfold mFin
        by_cases hc : strOfNums (mFmt v) = s
        · rw [if_pos hc, if_pos hc]
        · rw [if_neg hc, if_neg hc]
    · refine Ev.step (f := fun k => (impl_FormatInt.f k (-v)).bind fun t => if t.toList = s.toList then some (-v, true) else some (0, false)) (fun k => ?_) ?_
      · simp only [impl_ParseInt.l0]
        rw [if_neg (by omega), if_pos trivial, w64 (by omega) (by omega)]
      · refine evb (implFmt_ev (-v) (by omega) (by omega)) ?_
        refine evc fun k => ?_
        rw [toList_if, show (if (1 : Int) = 1 then -v else v) = -v by simp]
        unfold mFin
        by_cases hc : strOfNums (mFmt (-v)) = s
        · rw [if_pos hc, if_pos hc]
        · rw [if_neg hc, if_neg hc]
  | cons c t ih =>
    intro pre v e hj h0 hv hj9 hp
    obtain ⟨j, rfl⟩ : ∃ i, j = i + 1 := ⟨j - 1, by simp at hj; omega⟩
    have hs : s.size = pre.length + t.length + 1 := by rw [← bytesOf_length, e]; simp; omega
    have hr : bt s (pre.length : Int) = c := by rw [bt_rd, e]; exact rd_mid _ _ _
    have hv9 : v + 1 ≤ 10 ^ 8 := Int.le_trans hv (pow10_le (by omega))
    have hv10 : v ≤ 99999999 := by have : (10 : Int) ^ 8 = 100000000 := by decide
                                   omega
    by_cases hd : 48 ≤ c ∧ c ≤ 57
    · have hdg : mIsDg c = true := by simp [mIsDg, hd]
      have e10 : (10 : Int) ^ (9 - j) = 10 ^ (9 - (j + 1)) * 10 := by rw [← Int.pow_succ]; congr 1; omega
      have r := ih j (pre ++ [c]) (10 * v + (c - 48)) (by rw [e]; simp) (by simpa using hj) (by omega) (by rw [e10]; omega) (by omega) (by simp at hj ⊢; omega)
      rw [show (c :: t).all mIsDg = t.all mIsDg by simp [hdg], mVal_cons]
      refine Ev.step (fun k => ?_) r
      simp only [impl_ParseInt.l0]
      rw [if_pos (by omega), if_pos (by omega), hr, if_neg (by omega), if_neg (by omega), w64 (x := 10 * v) (by omega) (by omega), show (c - 48) % 256 = c - 48 by omega, w64 (by omega) (by omega), iw (a := c) (by omega)]
    · have hdg : mIsDg c = false := by simp [mIsDg]; omega
      rw [show (c :: t).all mIsDg = false by simp [hdg], if_neg (by simp)]
      refine evn fun k => ?_
      simp only [impl_ParseInt.l0]
      rw [if_pos (by omega), if_pos (by omega), hr]
      by_cases h1 : c < 48
      · rw [if_pos h1]
      · rw [if_neg h1, if_pos (by omega)]
theorem implParse_ev (s : ByteArray) (hsz : s.size ≤ 140737488351232) : Ev (fun k => impl_ParseInt.f k s) (mImplParse s) := by
  have hlen := bytesOf_length s
  have j1 : ∀ a : Nat, a ≤ 1 → a ≤ s.size → Ev (fun k => impl_ParseInt.j1 k s (a : Int)) (if 1 ≤ ((bytesOf s).length : Int) - a ∧ ((bytesOf s).length : Int) - a ≤ 9 then
      if ((bytesOf s).drop a).all mIsDg = true then mFin s (if a = 1 then -(mVal 0 ((bytesOf s).drop a)) else mVal 0 ((bytesOf s).drop a)) else (0, false) else (0, false)) := by
    intro a ha hsa
    rw [hlen]
    by_cases hc : 1 ≤ (s.size : Int) - a ∧ (s.size : Int) - a ≤ 9
    · rw [if_pos hc]
      have r := implParse_l0 s (a : Int) (by omega) 9 ((bytesOf s).drop a) ((bytesOf s).take a) 0 (by simp) (by simp; omega) (by omega) (by decide) (by omega) (by simp; omega)
      have et : (((bytesOf s).take a).length : Int) = a := by simp; omega
      rw [et] at r
      have ea : ((a : Int) = 1) = (a = 1) := by simp; omega
      simp only [ea] at r
      refine Ev.step (fun k => ?_) r
      simp only [impl_ParseInt.j1]
      rw [w64 (by omega) (by omega), within_eq]
      simp only [Option.bind_some]
      rw [if_pos (by simpa using hc)]
    · rw [if_neg hc]
      refine evn fun k => ?_
      simp only [impl_ParseInt.j1]
      rw [w64 (by omega) (by omega), within_eq]
      simp only [Option.bind_some]
      rw [if_neg (by simpa using hc)]
  unfold impl_ParseInt.f mImplParse
  by_cases hz : (s.size : Int) > 0
  · simp only [if_pos hz, show (0 : Int) < (s.size : Int) from hz, if_true]
    obtain ⟨c, t, hb⟩ : ∃ c t, bytesOf s = c :: t := by
      cases h : bytesOf s with
      | nil => rw [h] at hlen; simp at hlen; omega
      | cons c t => exact ⟨c, t, rfl⟩
    have hc0 : bt s 0 = c := by rw [bt_rd, hb]; rfl
    rw [hc0]
    by_cases h45 : c = 45
    · have r := j1 1 (by omega) (by omega)
      have hh : (bytesOf s).head? = some 45 := by rw [hb, h45]; rfl
      simp only [hh, if_true]
      refine Ev.step (fun k => ?_) r
      simp only [impl_ParseInt.j0]
      rw [if_pos (by simpa using h45)]
      rfl
    · have r := j1 0 (by omega) (by omega)
      have hh : ¬ (bytesOf s).head? = some 45 := by rw [hb]; simpa using h45
      simp only [hh, if_false]
      refine Ev.step (fun k => ?_) r
      simp only [impl_ParseInt.j0]
      rw [if_neg (by simpa using h45)]
      rfl
  · simp only [if_neg hz]
    have hb : bytesOf s = [] := List.eq_nil_of_length_eq_zero (by omega)
    have r := j1 0 (by omega) (by omega)
    have hh : ¬ (bytesOf s).head? = some 45 := by rw [hb]; simp
    simp only [hh, if_false]
    refine Ev.step (fun k => ?_) r
    simp only [impl_ParseInt.j0]
    rw [if_neg (by simp)]
    rfl
/-- What ParseInt answers, as the document has it. -/
theorem implParse_yes (s : ByteArray) (n : Int) (h0 : -999999999 ≤ n) (h1 : n ≤ 999999999) (e : s = strOfNums (mFmt n)) : mImplParse s = (n, true) := by
  have hb : bytesOf s = mFmt n := by rw [e]; exact mFmt_bytes n
  unfold mImplParse
  rw [hb]
  have hl := mDg_len (m := n.natAbs) (by omega)
  have hd := mDg_digits n.natAbs
  have hv := mDg_val n.natAbs
  by_cases hn : n < 0
  · rw [mFmt_neg hn]
    simp only [List.head?_cons, if_true, List.length_cons, List.drop_succ_cons, List.drop_zero]
    rw [if_pos (by omega), if_pos hd, hv]
    unfold mFin
    rw [show -(n.natAbs : Int) = n by omega, if_pos e.symm]
  · rw [mFmt_nonneg (by omega)]
    have hh : ¬ (mDg n.natAbs).head? = some 45 := by
      cases hx : mDg n.natAbs with
      | nil => simp
      | cons c t =>
        rw [hx] at hd
        simp only [List.all_cons, Bool.and_eq_true, mIsDg, decide_eq_true_eq] at hd
        simp; omega
    simp only [hh, if_false, List.drop_zero]
    rw [if_pos (by omega), if_pos hd, hv, if_neg (by omega)]
    unfold mFin
    rw [show (n.natAbs : Int) = n by omega, if_pos e.symm]
theorem implParse_no (s : ByteArray) (h : ∀ n : Int, -999999999 ≤ n → n ≤ 999999999 → s ≠ strOfNums (mFmt n)) : mImplParse s = (0, false) := by
  unfold mImplParse
  simp only
  generalize ha : (if (bytesOf s).head? = some 45 then 1 else 0 : Nat) = a
  by_cases hc : 1 ≤ ((bytesOf s).length : Int) - (a : Int) ∧ ((bytesOf s).length : Int) - (a : Int) ≤ 9
  · rw [if_pos hc]
    by_cases hd : ((bytesOf s).drop a).all mIsDg = true
    · rw [if_pos hd]
      have hb := mVal_bound _ 0 (by omega) hd
      have hp : (10 : Int) ^ ((bytesOf s).drop a).length ≤ 10 ^ 9 := pow10_le (by rw [List.length_drop]; omega)
      have h9 : (10 : Int) ^ 9 = 1000000000 := by decide
      unfold mFin
      rw [if_neg]
      intro e
      by_cases h1 : a = 1
      · rw [if_pos h1] at e; exact h _ (by omega) (by omega) e.symm
      · rw [if_neg h1] at e; exact h _ (by omega) (by omega) e.symm
    · rw [if_neg hd]
  · rw [if_neg hc]
def mSpecParse (s : ByteArray) : Int × Bool :=
  let b := bytesOf s
  let d := (b.take 11).filter mIsDg
  if d.length > 9 then (0, false) else if b.length > 10 then (0, false) else mFin s (if b.head? = some 45 then -(mVal 0 d) else mVal 0 d)
theorem specParse_end (s : ByteArray) (v c i : Int) (h0 : 0 ≤ v) (h1 : v ≤ 1000000000000) :
    Ev (fun k => spec_ParseInt.j1 k s v c i false) (if c > 9 then (0, false) else if s.size > 10 then (0, false) else mFin s (if (bytesOf s).head? = some 45 then -v else v)) := by
  have hlen := bytesOf_length s
  have j2 : ∀ g : Bool, Ev (fun k => spec_ParseInt.j2 k s v c g) (if c > 9 then (0, false) else if s.size > 10 then (0, false) else mFin s (if g = true then -v else v)) := by
    intro g
    by_cases hc : c > 9
    · rw [if_pos hc]
      refine evn fun k => ?_
      simp only [spec_ParseInt.j2]
      cases g <;> simp [hc]
    · rw [if_neg hc]
      by_cases hs : s.size > 10
      · rw [if_pos hs]
        refine evn fun k => ?_
        simp only [spec_ParseInt.j2]
        have hs' : (s.size : Int) > 10 := by omega
        cases g <;> simp [hc, hs']
      · rw [if_neg hs]
        have hs' : ¬ (s.size : Int) > 10 := by omega
        cases g with
        | true =>
          refine Ev.step (f := fun k => (spec_FormatInt.f k (-v)).bind fun t => if t.toList = s.toList then some (-v, true) else some (0, false)) (fun k => ?_) ?_
          · simp only [spec_ParseInt.j2]
            rw [if_pos trivial, if_neg hc, if_neg hs', w64 (by omega) (by omega)]
          · refine evb (specFmt_ev (-v) (by omega) (by omega)) ?_
            refine evc fun k => ?_
            rw [toList_if, show (if true = true then -v else v) = -v by simp]
            unfold mFin
            by_cases hq : strOfNums (mFmt (-v)) = s
            · rw [if_pos hq, if_pos hq]
            · rw [if_neg hq, if_neg hq]
        | false =>
          refine Ev.step (f := fun k => (spec_FormatInt.f k v).bind fun t => if t.toList = s.toList then some (v, true) else some (0, false)) (fun k => ?_) ?_
          · simp only [spec_ParseInt.j2]
            rw [if_neg (by simp), if_neg hc, if_neg hs']
          · refine evb (specFmt_ev v (by omega) (by omega)) ?_
            refine evc fun k => ?_
            rw [toList_if, show (if false = true then -v else v) = v by simp]
            unfold mFin
            by_cases hq : strOfNums (mFmt v) = s
            · rw [if_pos hq, if_pos hq]
            · rw [if_neg hq, if_neg hq]
  by_cases hz : (s.size : Int) > 0
  · obtain ⟨x, t, hb⟩ : ∃ x t, bytesOf s = x :: t := by
      cases h : bytesOf s with
      | nil => rw [h] at hlen; simp at hlen; omega
      | cons c t => exact ⟨c, t, rfl⟩
    have hc0 : bt s 0 = x := by rw [bt_rd, hb]; rfl
    have r := j2 (x == 45)
    have e : ((x == 45) = true) = ((bytesOf s).head? = some 45) := by rw [hb]; simp
    simp only [e] at r
    refine Ev.step (fun k => ?_) r
    simp only [spec_ParseInt.j1]
    rw [if_neg (by simp), if_pos hz, if_pos hz, hc0]
  · have hb : bytesOf s = [] := List.eq_nil_of_length_eq_zero (by omega)
    have r := j2 false
    have e : ((false : Bool) = true) = ((bytesOf s).head? = some 45) := by rw [hb]; simp
    simp only [e] at r
    refine Ev.step (fun k => ?_) r
    simp only [spec_ParseInt.j1]
    rw [if_neg (by simp), if_neg hz]
theorem specParse_l0 (s : ByteArray) (hsz : s.size ≤ 140737488351232) : ∀ (suf pre : List Int) (v c : Int), bytesOf s = pre ++ suf → pre.length ≤ 11 → 0 ≤ v → v + 1 ≤ 10 ^ pre.length → 0 ≤ c → c ≤ pre.length →
    Ev (fun k => spec_ParseInt.l0 k s v c (pre.length : Int)) (if c + (((suf.take (11 - pre.length)).filter mIsDg).length : Int) > 9 then (0, false) else if s.size > 10 then (0, false) else
      mFin s (if (bytesOf s).head? = some 45 then -(mVal v ((suf.take (11 - pre.length)).filter mIsDg)) else mVal v ((suf.take (11 - pre.length)).filter mIsDg))) := by
  have p12 : ∀ n : Nat, n ≤ 11 → (10 : Int) ^ n ≤ 100000000000 := by
    intro n hn
    have h : (10 : Int) ^ n ≤ 10 ^ 11 := pow10_le hn
    have : (10 : Int) ^ 11 = 100000000000 := by decide
    omega
  intro suf
  induction suf with
  | nil =>
    intro pre v c e hp h0 h1 h2 h3
    have hs : s.size = pre.length := by rw [← bytesOf_length, e]; simp
    have hb := p12 _ hp
    have r := specParse_end s v c (pre.length : Int) h0 (by omega)
    simp only [List.take_nil, List.filter_nil, List.length_nil, mVal_nil]
    rw [show c + ((0 : Nat) : Int) = c by omega]
    refine Ev.step (fun k => ?_) r
    simp only [spec_ParseInt.l0]
    rw [if_neg (by omega)]
  | cons x t ih =>
    intro pre v c e hp h0 h1 h2 h3
    have hs : s.size = pre.length + t.length + 1 := by rw [← bytesOf_length, e]; simp; omega
    have hb := p12 _ hp
    by_cases h11 : pre.length = 11
    · have r := specParse_end s v c (pre.length : Int) h0 (by omega)
      rw [h11]
      simp only [Nat.sub_self, List.take_zero, List.filter_nil, List.length_nil, mVal_nil]
      rw [show c + ((0 : Nat) : Int) = c by omega]
      rw [h11] at r
      refine Ev.step (fun k => ?_) r
      simp only [spec_ParseInt.l0]
      rw [if_pos (by omega), show decide (((11 : Nat) : Int) < 11) = false from rfl]
    · have hr : bt s (pre.length : Int) = x := by rw [bt_rd, e]; exact rd_mid _ _ _
      have ek : 11 - pre.length = (11 - (pre ++ [x]).length) + 1 := by simp; omega
      have pw : (10 : Int) ^ (pre ++ [x]).length = 10 ^ pre.length * 10 := by simp [Int.pow_succ]
      rw [ek, List.take_succ_cons]
      by_cases hd : 48 ≤ x ∧ x ≤ 57
      · have hdg : mIsDg x = true := by simp [mIsDg, hd]
        have r := ih (pre ++ [x]) (10 * v + (x - 48)) (c + 1) (by rw [e]; simp) (by simp; omega) (by omega) (by rw [pw]; omega) (by omega) (by simp; omega)
        rw [List.filter_cons_of_pos hdg, mVal_cons]
        have el : c + ((x :: List.filter mIsDg (List.take (11 - (pre ++ [x]).length) t)).length : Int) = c + 1 + ((List.filter mIsDg (List.take (11 - (pre ++ [x]).length) t)).length : Int) := by simp; omega
        rw [el]
        refine Ev.step (f := fun k => spec_ParseInt.j1 k s v c (pre.length : Int) true) (fun k => ?_) (Ev.step (fun k => ?_) r)
        · simp only [spec_ParseInt.l0]
          rw [if_pos (by omega), decide_eq_true (by omega)]
        · simp only [spec_ParseInt.j1]
          rw [if_pos trivial, if_pos (by omega), if_pos (by omega), hr, if_pos hd.1, if_pos hd.2, w64 (x := v * 10) (by omega) (by omega), show (x - 48) % 256 = x - 48 by omega, w64 (x := v * 10 + (x - 48)) (by omega) (by omega), w64 (x := c + 1) (by omega) (by omega), iw (a := x) (by omega), show v * 10 = 10 * v by omega]
      · have hdg : ¬ mIsDg x = true := by simp [mIsDg]; omega
        have r := ih (pre ++ [x]) v c (by rw [e]; simp) (by simp; omega) h0 (by rw [pw]; omega) (by omega) (by simp; omega)
        rw [List.filter_cons_of_neg hdg]
        refine Ev.step (f := fun k => spec_ParseInt.j1 k s v c (pre.length : Int) true) (fun k => ?_) (Ev.step (fun k => ?_) r)
        · simp only [spec_ParseInt.l0]
          rw [if_pos (by omega), decide_eq_true (by omega)]
        · simp only [spec_ParseInt.j1]
          rw [if_pos trivial, if_pos (by omega), if_pos (by omega), hr, iw (a := x) (by omega)]
          by_cases h1' : x ≥ 48
          · rw [if_pos h1', if_neg (by omega)]
          · rw [if_neg h1']
theorem specParse_ev (s : ByteArray) (hsz : s.size ≤ 140737488351232) : Ev (fun k => spec_ParseInt.f k s) (mSpecParse s) := by
  have r := specParse_l0 s hsz (bytesOf s) [] 0 0 rfl (by simp) (by omega) (by simp) (by omega) (by simp)
  have e : mSpecParse s = (if (0 : Int) + ((((bytesOf s).take (11 - ([] : List Int).length)).filter mIsDg).length : Int) > 9 then (0, false) else if s.size > 10 then (0, false) else
      mFin s (if (bytesOf s).head? = some 45 then -(mVal 0 (((bytesOf s).take (11 - ([] : List Int).length)).filter mIsDg)) else mVal 0 (((bytesOf s).take (11 - ([] : List Int).length)).filter mIsDg))) := by
    unfold mSpecParse
    simp only [List.length_nil, Nat.sub_zero, bytesOf_length]
    congr 1
    simp; omega
  rw [e]
  exact r
theorem filter_dg {l : List Int} (h : l.all mIsDg = true) : l.filter mIsDg = l := List.filter_eq_self.2 (fun x hx => List.all_eq_true.1 h x hx)
theorem specParse_yes (s : ByteArray) (n : Int) (h0 : -999999999 ≤ n) (h1 : n ≤ 999999999) (e : s = strOfNums (mFmt n)) : mSpecParse s = (n, true) := by
  have hb : bytesOf s = mFmt n := by rw [e]; exact mFmt_bytes n
  unfold mSpecParse
  rw [hb]
  have hl := mDg_len (m := n.natAbs) (by omega)
  have hd := mDg_digits n.natAbs
  have hv := mDg_val n.natAbs
  by_cases hn : n < 0
  · rw [mFmt_neg hn]
    have et : ((45 :: mDg n.natAbs : List Int).take 11).filter mIsDg = mDg n.natAbs := by
      rw [List.take_of_length_le (by simp; omega), List.filter_cons_of_neg (by decide), filter_dg hd]
    simp only [et, List.head?_cons, if_true, List.length_cons]
    rw [if_neg (by omega), if_neg (by omega), hv]
    unfold mFin
    rw [show -(n.natAbs : Int) = n by omega, if_pos e.symm]
  · rw [mFmt_nonneg (by omega)]
    have hh : ¬ (mDg n.natAbs).head? = some 45 := by
      cases hx : mDg n.natAbs with
      | nil => simp
      | cons c t =>
        rw [hx] at hd
        simp only [List.all_cons, Bool.and_eq_true, mIsDg, decide_eq_true_eq] at hd
        simp; omega
    have et : ((mDg n.natAbs).take 11).filter mIsDg = mDg n.natAbs := by
      rw [List.take_of_length_le (by omega), filter_dg hd]
    simp only [et, hh, if_false]
    rw [if_neg (by omega), if_neg (by omega), hv]
    unfold mFin
    rw [show (n.natAbs : Int) = n by omega, if_pos e.symm]
theorem specParse_no (s : ByteArray) (h : ∀ n : Int, -999999999 ≤ n → n ≤ 999999999 → s ≠ strOfNums (mFmt n)) : mSpecParse s = (0, false) := by
  unfold mSpecParse
  simp only
  by_cases hc : (((bytesOf s).take 11).filter mIsDg).length > 9
  · rw [if_pos hc]
  · rw [if_neg hc]
    by_cases hs : (bytesOf s).length > 10
    · rw [if_pos hs]
    · rw [if_neg hs]
      have hb := mVal_bound (((bytesOf s).take 11).filter mIsDg) 0 (by omega) (by simp)
      have hp : (10 : Int) ^ (((bytesOf s).take 11).filter mIsDg).length ≤ 10 ^ 9 := pow10_le (by omega)
      have h9 : (10 : Int) ^ 9 = 1000000000 := by decide
      unfold mFin
      rw [if_neg]
      intro e
      by_cases h1 : (bytesOf s).head? = some 45
      · rw [if_pos h1] at e; exact h _ (by omega) (by omega) e.symm
      · rw [if_neg h1] at e; exact h _ (by omega) (by omega) e.symm
theorem parse_same (s : ByteArray) : mSpecParse s = mImplParse s := by
  by_cases h : ∃ n : Int, -999999999 ≤ n ∧ n ≤ 999999999 ∧ s = strOfNums (mFmt n)
  · obtain ⟨n, h0, h1, e⟩ := h
    rw [specParse_yes s n h0 h1 e, implParse_yes s n h0 h1 e]
  · have hn : ∀ n : Int, -999999999 ≤ n → n ≤ 999999999 → s ≠ strOfNums (mFmt n) := fun n h0 h1 e => h ⟨n, h0, h1, e⟩
    rw [specParse_no s hn, implParse_no s hn]
/-! ### Cutting a text -/
def mCut (c : Int) (acc : List Int) : List Int → List (List Int)
  | [] => [acc]
  | b :: t => if b = c then acc :: mCut c [] t else mCut c (acc ++ [b]) t
theorem mCut_len (c : Int) : ∀ (t acc : List Int), (mCut c acc t).length ≤ t.length + 1
  | [], _ => by simp [mCut]
  | b :: t, acc => by
    unfold mCut
    by_cases h : b = c
    · rw [if_pos h]; have := mCut_len c t []; simp; omega
    · rw [if_neg h]; have := mCut_len c t (acc ++ [b]); simp; omega
theorem mCut_small (c : Int) : ∀ (t acc x : List Int), x ∈ mCut c acc t → x.length ≤ acc.length + t.length
  | [], acc, x, h => by simp [mCut] at h; rw [h]; simp
  | b :: t, acc, x, h => by
    unfold mCut at h
    by_cases e : b = c
    · rw [if_pos e] at h
      rcases List.mem_cons.1 h with r | r
      · rw [r]; omega
      · have := mCut_small c t [] x r; simp at this ⊢; omega
    · rw [if_neg e] at h
      have := mCut_small c t _ x h; simp at this ⊢; omega
theorem mCut_run (c : Int) : ∀ (x acc t : List Int), c ∉ x → mCut c acc (x ++ t) = mCut c (acc ++ x) t
  | [], acc, t, _ => by simp
  | b :: x, acc, t, h => by
    have hb : ¬ b = c := fun e => h (by rw [e]; simp)
    rw [List.cons_append, mCut, if_neg hb, mCut_run c x (acc ++ [b]) t (fun hx => h (List.mem_cons_of_mem _ hx))]
    simp
theorem mCut_joinT (c : Int) : ∀ (xs : List (List Int)) (acc : List Int), (∀ x ∈ xs, c ∉ x) → mCut c acc (mJoinT [c] xs) = acc :: xs
  | [], acc, _ => by simp [mCut, mJoinT]
  | y :: t, acc, h => by
    have e : mJoinT [c] (y :: t) = c :: (y ++ mJoinT [c] t) := by simp [mJoinT]
    rw [e, mCut, if_pos rfl, mCut_run c y [] _ (h y (by simp)), List.nil_append, mCut_joinT c t y (fun x hx => h x (List.mem_cons_of_mem _ hx))]
theorem mCut_join (c : Int) (xs : List (List Int)) (hn : xs ≠ []) (h : ∀ x ∈ xs, c ∉ x) : mCut c [] (mJoin [c] xs) = xs := by
  cases xs with
  | nil => exact absurd rfl hn
  | cons x t =>
    rw [mJoin, mCut_run c x [] _ (h x (by simp)), List.nil_append, mCut_joinT c t x (fun y hy => h y (List.mem_cons_of_mem _ hy))]
theorem mJoinT_mem {sep : List Int} {b : Int} : ∀ {xs : List (List Int)}, b ∈ mJoinT sep xs → b ∈ sep ∨ ∃ x ∈ xs, b ∈ x
  | [], h => by simp [mJoinT] at h
  | x :: t, h => by
    unfold mJoinT at h
    rcases List.mem_append.1 h with h | h
    · rcases List.mem_append.1 h with h | h
      · exact .inl h
      · exact .inr ⟨x, by simp, h⟩
    · rcases mJoinT_mem h with h | ⟨y, hy, h⟩
      · exact .inl h
      · exact .inr ⟨y, List.mem_cons_of_mem _ hy, h⟩
theorem mJoin_mem {sep : List Int} {b : Int} {xs : List (List Int)} (h : b ∈ mJoin sep xs) : b ∈ sep ∨ ∃ x ∈ xs, b ∈ x := by
  cases xs with
  | nil => simp [mJoin] at h
  | cons x t =>
    unfold mJoin at h
    rcases List.mem_append.1 h with h | h
    · exact .inr ⟨x, by simp, h⟩
    · rcases mJoinT_mem h with h | ⟨y, hy, h⟩
      · exact .inl h
      · exact .inr ⟨y, List.mem_cons_of_mem _ hy, h⟩
theorem bytes_range (s : ByteArray) : ∀ x ∈ bytesOf s, 0 ≤ x ∧ x ≤ 255 := by
  intro x hx
  unfold bytesOf at hx
  obtain ⟨b, _, rfl⟩ := List.mem_map.1 hx
  have := b.toNat_lt
  omega
theorem l2Cut_ev (s : ByteArray) (c : Int) (hs : s.size ≤ 10000000) : Ev (fun k => spec_l2Cut.f k s c) ((mCut c [] (bytesOf s)).map strOfNums) := by
  have hlen := bytesOf_length s
  have key := idx_ind (bytesOf s) (fun pre suf => ∀ (out : List ByteArray) (acc : List Int), out.length ≤ pre.length → acc.length ≤ pre.length → Ev (fun k => spec_l2Cut.l0 k s c out (strOfNums acc) (pre.length : Int)) (out ++ (mCut c acc suf).map strOfNums)) ?_ ?_
  · have := key [] [] (Nat.le_refl _) (Nat.le_refl _)
    rw [List.nil_append] at this
    exact this
  · intro out acc ho ha
    refine evn fun k => ?_
    have hn : ¬ (((bytesOf s).length : Int) < (s.size : Int)) := by omega
    have h8 : out.length < 8796093022208 := by omega
    simp only [spec_l2Cut.l0]
    rw [if_neg hn, if_pos h8]
    simp [mCut]
  · intro pre b suf e ih out acc ho ha
    have hp : pre.length < s.size := by have := lt_of e; omega
    have h1 : (pre.length : Int) < (s.size : Int) := by omega
    have hb : bt s (pre.length : Int) = b := by rw [bt_rd]; exact rd_of e
    refine Ev.step (fun k => spec_l2Cut.l0.eq_2 ..) ?_
    have h8 : out.length < 8796093022208 := by omega
    simp only [if_pos h1, if_pos (len_nonneg _), hb, nx_of e (show (bytesOf s).length ≤ 140737488355328 by omega)]
    by_cases h : b = c
    · simp only [if_pos h, if_pos h8]
      have r := ih (out ++ [strOfNums acc]) [] (by simp; omega) (by simp)
      unfold mCut
      rw [if_pos h]
      rw [List.append_assoc] at r
      exact r
    · have h2 : (pre.length : Int) ≤ ((pre ++ [b]).length : Int) := by simp; omega
      have h3 : ((pre ++ [b]).length : Int) ≤ (s.size : Int) := by simp; omega
      have ex : s.extract ((pre.length : Int)).toNat (((pre ++ [b]).length : Int)).toNat = strOfNums [b] := by
        rw [extract_str, e]; simp
      have h4 : (strOfNums acc).size + (strOfNums [b]).size ≤ 9223372036854775807 := by rw [strOfNums_size, strOfNums_size]; simp; omega
      simp only [if_neg h, if_pos h2, if_pos h3, ex, if_pos h4, ← strOfNums_append]
      have r := ih out (acc ++ [b]) (by simp; omega) (by simp; omega)
      unfold mCut
      rw [if_neg h]
      exact r
/-! cut, by a text -/
def mSp (sp acc t : List Int) : List (List Int) :=
  if h : t.length < sp.length ∨ sp = [] then [acc ++ t] else if t.take sp.length = sp then acc :: mSp sp [] (t.drop sp.length) else mSp sp (acc ++ t.take 1) (t.drop 1)
termination_by t.length
decreasing_by
  all_goals
    have : 0 < sp.length := List.length_pos_iff.2 (fun e => h (.inr e))
    have : ¬ t.length < sp.length := fun e => h (.inl e)
    simp; omega
theorem mSp_len (sp : List Int) : ∀ (n : Nat) (t acc : List Int), t.length ≤ n → (mSp sp acc t).length ≤ t.length + 1 ∧ ∀ x ∈ mSp sp acc t, x.length ≤ acc.length + t.length := by
  intro n
  induction n with
  | zero =>
    intro t acc h
    have ht : t = [] := List.eq_nil_of_length_eq_zero (by omega)
    subst ht
    have hc : ([] : List Int).length < sp.length ∨ sp = [] := by
      cases sp with
      | nil => exact .inr rfl
      | cons => exact .inl (by simp)
    rw [mSp, dif_pos hc]; simp
  | succ n ih =>
    intro t acc h
    rw [mSp]
    by_cases hc : t.length < sp.length ∨ sp = []
    · rw [dif_pos hc]; simp
    · rw [dif_neg hc]
      have h0 : 0 < sp.length := List.length_pos_iff.2 (fun e => hc (.inr e))
      have h1 : ¬ t.length < sp.length := fun e => hc (.inl e)
      by_cases he : t.take sp.length = sp
      · rw [if_pos he]
        obtain ⟨a, b⟩ := ih (t.drop sp.length) [] (by simp; omega)
        simp at a b ⊢
        refine ⟨by omega, fun x hx => ?_⟩
        have := b x hx; omega
      · rw [if_neg he]
        obtain ⟨a, b⟩ := ih (t.drop 1) (acc ++ t.take 1) (by simp; omega)
        have l1 : (t.drop 1).length = t.length - 1 := by simp
        have l2 : (acc ++ t.take 1).length ≤ acc.length + 1 := by simp; omega
        refine ⟨by omega, fun x hx => ?_⟩
        have := b x hx; omega
theorem mSp_run (c : Int) (sp : List Int) : ∀ (x acc t : List Int), c ∉ x → mSp (c :: sp) acc (x ++ t) = mSp (c :: sp) (acc ++ x) t
  | [], acc, t, _ => by simp
  | b :: x, acc, t, h => by
    have hb : ¬ b = c := fun e => h (by rw [e]; simp)
    by_cases hl : (b :: (x ++ t)).length < (c :: sp).length
    · rw [List.cons_append, mSp, dif_pos (.inl hl), mSp, dif_pos (.inl (by simp at hl ⊢; omega))]; simp
    · rw [List.cons_append, mSp, dif_neg (by simp at hl ⊢; omega), if_neg (by simp [hb])]
      simp only [List.take_succ_cons, List.take_zero, List.drop_succ_cons, List.drop_zero]
      rw [mSp_run c sp x (acc ++ [b]) t (fun hx => h (List.mem_cons_of_mem _ hx))]
      simp
theorem mSp_joinT (c : Int) (sp : List Int) : ∀ (xs : List (List Int)) (acc : List Int), (∀ x ∈ xs, c ∉ x) → mSp (c :: sp) acc (mJoinT (c :: sp) xs) = acc :: xs
  | [], acc, _ => by rw [mJoinT, mSp, dif_pos (.inl (by simp))]; simp
  | y :: t, acc, h => by
    have e : mJoinT (c :: sp) (y :: t) = (c :: sp) ++ (y ++ mJoinT (c :: sp) t) := by simp [mJoinT]
    rw [e, mSp, dif_neg (by simp), if_pos (by simp), List.drop_left, mSp_run c sp y [] _ (h y (by simp)), List.nil_append, mSp_joinT c sp t y (fun x hx => h x (List.mem_cons_of_mem _ hx))]
theorem mSp_join (c : Int) (sp : List Int) (xs : List (List Int)) (hn : xs ≠ []) (h : ∀ x ∈ xs, c ∉ x) : mSp (c :: sp) [] (mJoin (c :: sp) xs) = xs := by
  cases xs with
  | nil => exact absurd rfl hn
  | cons x t =>
    rw [mJoin, mSp_run c sp x [] _ (h x (by simp)), List.nil_append, mSp_joinT c sp t x (fun y hy => h y (List.mem_cons_of_mem _ hy))]
theorem implCut_l0 (s : ByteArray) (sp : List Int) (hsp : bytesOf (strOfNums sp) = sp) (h0 : 0 < sp.length) (h10 : sp.length ≤ 100) (hs : s.size ≤ 10000000) : ∀ (n : Nat) (A acc t : List Int) (out : List ByteArray),
    bytesOf s = A ++ acc ++ t → t.length ≤ n → out.length ≤ A.length →
    Ev (fun k => impl_cut.l0 k s (strOfNums sp) out (A.length : Int) ((A ++ acc).length : Int)) (out ++ (mSp sp acc t).map strOfNums) := by
  have hlen := bytesOf_length s
  intro n
  induction n with
  | zero =>
    intro A acc t out e ht ho
    have ht : t = [] := List.eq_nil_of_length_eq_zero (by omega)
    subst ht
    have ha : A.length + acc.length = s.size := by rw [← hlen, e]; simp
    have ew : wrap64 (((A ++ acc).length : Int) + ((strOfNums sp).size : Int)) = ((A ++ acc).length : Int) + (sp.length : Int) := by
      rw [strOfNums_size]; exact w64 (by simp; omega) (by simp; omega)
    have hn : ¬ ((A ++ acc).length : Int) + (sp.length : Int) ≤ (s.size : Int) := by simp; omega
    have h2 : (A.length : Int) ≤ (s.size : Int) := by omega
    have h3 : out.length < 8796093022208 := by omega
    refine evn fun k => ?_
    simp only [impl_cut.l0]
    rw [ew, if_neg hn, if_pos (len_nonneg _), if_pos h2, if_pos h3, mSp, dif_pos (.inl (by simpa using h0)), extract_str, e]
    simp
    congr 1
    rw [List.take_of_length_le (by omega)]
  | succ n ih =>
    intro A acc t out e ht ho
    have ha : A.length + acc.length + t.length = s.size := by rw [← hlen, e]; simp; omega
    have ew : wrap64 (((A ++ acc).length : Int) + ((strOfNums sp).size : Int)) = ((A ++ acc).length : Int) + (sp.length : Int) := by
      rw [strOfNums_size]; exact w64 (by simp; omega) (by simp; omega)
    have h2 : (A.length : Int) ≤ (s.size : Int) := by omega
    have h3 : out.length < 8796093022208 := by omega
    by_cases hc : t.length < sp.length
    · have hn : ¬ ((A ++ acc).length : Int) + (sp.length : Int) ≤ (s.size : Int) := by simp; omega
      refine evn fun k => ?_
      simp only [impl_cut.l0]
      rw [ew, if_neg hn, if_pos (len_nonneg _), if_pos h2, if_pos h3, mSp, dif_pos (.inl hc), extract_str, e]
      simp
      congr 1
      rw [List.take_of_length_le (by simp; omega)]
    · have hn : ((A ++ acc).length : Int) + (sp.length : Int) ≤ (s.size : Int) := by simp; omega
      have h4 : ((A ++ acc).length : Int) ≤ ((A ++ acc).length : Int) + (sp.length : Int) := by omega
      have hsn : ¬ (t.length < sp.length ∨ sp = []) := by rintro (h | h); exact hc h; rw [h] at h0; simp at h0
      have ex : bytesOf (s.extract (((A ++ acc).length : Int)).toNat ((((A ++ acc).length : Int) + (sp.length : Int))).toNat) = t.take sp.length := by
        rw [bytes_extract, e]
        have e1 : (((A ++ acc).length : Int)).toNat = (A ++ acc).length := by omega
        have e2 : ((((A ++ acc).length : Int) + (sp.length : Int))).toNat - (A ++ acc).length = sp.length := by simp; omega
        rw [e1, e2, List.drop_left]
      refine Ev.step (fun k => impl_cut.l0.eq_2 ..) ?_
      simp only [ew, if_pos hn, if_pos (len_nonneg _), if_pos h4, toList_if]
      clear ew
      rw [mSp, dif_neg hsn]
      by_cases he : t.take sp.length = sp
      · have he' : s.extract (((A ++ acc).length : Int)).toNat ((((A ++ acc).length : Int) + (sp.length : Int))).toNat = strOfNums sp := bytes_inj (by rw [ex, hsp, he])
        have h5 : (A.length : Int) ≤ ((A ++ acc).length : Int) := by simp; omega
        have h6 : ((A ++ acc).length : Int) ≤ (s.size : Int) := by simp; omega
        have ex2 : s.extract ((A.length : Int)).toNat (((A ++ acc).length : Int)).toNat = strOfNums acc := by
          rw [extract_str, e]
          have e1 : (((A ++ acc).length : Int)).toNat - ((A.length : Int)).toNat = acc.length := by simp; omega
          have e2 : ((A.length : Int)).toNat = A.length := by omega
          rw [e1, e2, List.append_assoc, List.drop_left, List.take_left]
        simp only [if_pos he', if_pos h5, if_pos h6, if_pos h3, ex2]
        rw [if_pos he]
        have et : t = sp ++ t.drop sp.length := by conv => lhs; rw [← List.take_append_drop sp.length t, he]
        have r := ih (A ++ acc ++ sp) [] (t.drop sp.length) (out ++ [strOfNums acc]) (by rw [e, List.append_nil, List.append_assoc (A ++ acc), ← et]) (by simp; omega) (by simp; omega)
        have en : (((A ++ acc ++ sp).length : Nat) : Int) = ((A ++ acc).length : Int) + (sp.length : Int) := by simp; omega
        rw [List.append_nil, en] at r
        simpa using r
      · have he' : ¬ s.extract (((A ++ acc).length : Int)).toNat ((((A ++ acc).length : Int) + (sp.length : Int))).toNat = strOfNums sp := fun h => he (by rw [← ex, h, hsp])
        simp only [if_neg he']
        rw [if_neg he]
        obtain ⟨b, t2, rfl⟩ : ∃ b t2, t = b :: t2 := by
          cases t with
          | nil => exact absurd h0 hc
          | cons b t2 => exact ⟨b, t2, rfl⟩
        have r := ih A (acc ++ [b]) t2 out (by rw [e]; simp) (by simp at ht; omega) ho
        have en : wrap64 (((A ++ acc).length : Int) + 1) = ((A ++ (acc ++ [b])).length : Int) := by rw [w64 (by simp; omega) (by simp; omega)]; simp; omega
        rw [← en] at r
        exact r
theorem implCut_ev (s : ByteArray) (sp : List Int) (hsp : bytesOf (strOfNums sp) = sp) (h0 : 0 < sp.length) (h10 : sp.length ≤ 100) (hs : s.size ≤ 10000000) : Ev (fun k => impl_cut.f k s (strOfNums sp)) ((mSp sp [] (bytesOf s)).map strOfNums) := by
  have r := implCut_l0 s sp hsp h0 h10 hs (bytesOf s).length [] [] (bytesOf s) [] (by simp) (Nat.le_refl _) (Nat.le_refl _)
  rw [List.nil_append] at r
  exact r
/-! ### The shape of a written atom or fact -/
theorem fmt_rel {r : Int} (h0 : 0 ≤ r) (h1 : r ≤ 9) : mFmt r = [48 + r] := by
  unfold mFmt
  by_cases h : r = 0
  · subst h; rfl
  · rw [if_neg h, if_neg (by omega), mDig_pos (by omega), show r.natAbs / 10 = 0 by omega, mDig_zero]
    simp; omega
theorem shape_of {s : ByteArray} {r : Int} {inner : List Int} (hb : bytesOf s = 114 :: (48 + r) :: 40 :: (inner ++ [41])) :
    s.size = inner.length + 4 ∧ bt s 0 = 114 ∧ bt s 2 = 40 ∧ bt s ((s.size : Int) - 1) = 41 ∧ s.extract 1 2 = strOfNums [48 + r] ∧ s.extract 3 (s.size - 1) = strOfNums inner := by
  have hlen : s.size = inner.length + 4 := by rw [← bytesOf_length, hb]; simp
  refine ⟨hlen, ?_, ?_, ?_, ?_, ?_⟩
  · rw [bt_rd, hb]; rfl
  · rw [bt_rd, hb]; rfl
  · have e : (s.size : Int) - 1 = ((114 :: (48 + r) :: 40 :: inner : List Int).length : Int) := by rw [hlen]; simp; omega
    rw [bt_rd, hb, e, show (114 :: (48 + r) :: 40 :: (inner ++ [41]) : List Int) = (114 :: (48 + r) :: 40 :: inner) ++ 41 :: [] by simp, rd_mid]
  · rw [extract_str, hb]; simp
  · rw [extract_str, hb, hlen]
    simp
theorem strOfNums_nil : strOfNums [] = (⟨#[]⟩ : ByteArray) := rfl
theorem str_nil {α : Type} (l : List Int) (x y : α) : (if (strOfNums l).toList = ([] : List UInt8) then x else y) = if l = [] then x else y := by
  have e : (strOfNums l).toList = ([] : List UInt8) ↔ l = [] := by
    rw [ByteArray.toList_eq]
    simp [strOfNums]
  by_cases h : l = []
  · rw [if_pos h, if_pos (e.2 h)]
  · rw [if_neg h, if_neg (fun h' => h (e.1 h'))]
theorem join_nil (sep : List Int) (xs : List (List Int)) (h : ∀ x ∈ xs, x ≠ []) : mJoin sep xs = [] ↔ xs = [] := by
  cases xs with
  | nil => simp [mJoin]
  | cons x t =>
    have := h x List.mem_cons_self
    simp [mJoin, this]
def mSplit (s : ByteArray) : Int × List (List Int) × Bool :=
  if 4 ≤ (s.size : Int) ∧ bt s 0 = 114 ∧ bt s 2 = 40 ∧ bt s ((s.size : Int) - 1) = 41 then
    ((mImplParse (s.extract 1 2)).1, if bytesOf (s.extract 3 (s.size - 1)) = [] then [] else mSp [44] [] (bytesOf (s.extract 3 (s.size - 1))), (mImplParse (s.extract 1 2)).2)
  else (0, [], false)
theorem split_len (s : ByteArray) (h : 4 ≤ s.size ∨ True) : (mSplit s).2.1.length ≤ s.size ∧ ∀ x ∈ (mSplit s).2.1, x.length ≤ s.size := by
  unfold mSplit
  by_cases c : 4 ≤ (s.size : Int) ∧ bt s 0 = 114 ∧ bt s 2 = 40 ∧ bt s ((s.size : Int) - 1) = 41
  · rw [if_pos c]
    by_cases z : bytesOf (s.extract 3 (s.size - 1)) = []
    · simp only [if_pos z]; simp
    · simp only [if_neg z]
      obtain ⟨a, b⟩ := mSp_len [44] _ (bytesOf (s.extract 3 (s.size - 1))) [] (Nat.le_refl _)
      have hl : (bytesOf (s.extract 3 (s.size - 1))).length ≤ s.size - 4 := by rw [bytesOf_length, ByteArray.size_extract]; omega
      refine ⟨by omega, fun x hx => ?_⟩
      have := b x hx
      simp at this; omega
  · rw [if_neg c]; simp
theorem split_ev (s : ByteArray) (hs : s.size ≤ 10000000) : Ev (fun k => impl_split.f k s) ((mSplit s).1, (mSplit s).2.1.map strOfNums, (mSplit s).2.2) := by
  have jt : Ev (fun k => impl_split.j0 k s true) ((0 : Int), ([] : List ByteArray), false) := evn fun k => by simp only [impl_split.j0]; rw [if_pos trivial]
  unfold impl_split.f mSplit
  by_cases h4 : (s.size : Int) < 4
  · simp only [if_pos h4]
    rw [if_neg (fun c => by omega)]
    exact jt
  · have h0 : 0 < (s.size : Int) := by omega
    have h2 : 2 < (s.size : Int) := by omega
    have ew : wrap64 ((s.size : Int) - 1) = (s.size : Int) - 1 := w64 (by omega) (by omega)
    have h1 : 0 ≤ (s.size : Int) - 1 := by omega
    have h3 : (s.size : Int) - 1 < (s.size : Int) := by omega
    simp only [if_neg h4, if_pos h0, if_pos h2, ew, if_pos h1, if_pos h3]
    by_cases c0 : bt s 0 = 114
    · by_cases c2 : bt s 2 = 40
      · by_cases c3 : bt s ((s.size : Int) - 1) = 41
        · simp only [if_pos c0, if_pos c2]
          rw [if_pos ⟨by omega, c0, c2, c3⟩, c3]
          refine Ev.step (fun k => impl_split.j0.eq_2 ..) ?_
          have h5 : 2 ≤ (s.size : Int) := by omega
          have h6 : 3 ≤ (s.size : Int) - 1 := by omega
          have h7 : (s.size : Int) - 1 ≤ (s.size : Int) := by omega
          have h8 : (1 : Int) ≤ 2 := by omega
          have et : ((s.size : Int) - 1).toNat = s.size - 1 := by omega
          simp only [bne_self_eq_false, Bool.false_eq_true, if_false, if_pos h8, if_pos h5, ew, if_pos h6, if_pos h7, et]
          refine evb (implParse_ev _ (by rw [ByteArray.size_extract]; omega)) ?_
          have es := str_bytes (s.extract 3 (s.size - 1))
          have hn : ((s.extract 3 (s.size - 1)).toList = ([] : List UInt8)) = (bytesOf (s.extract 3 (s.size - 1)) = []) := by
            have := str_nil (bytesOf (s.extract 3 (s.size - 1))) True False
            rw [es] at this
            simpa using this
          simp only [hn]
          by_cases z : bytesOf (s.extract 3 (s.size - 1)) = []
          · simp only [if_pos z]
            exact evc fun k => rfl
          · simp only [if_neg z]
            refine evb (implCut_ev (s.extract 3 (s.size - 1)) [44] (bytes_str (by simp)) (by simp) (by simp) (by rw [ByteArray.size_extract]; omega)) ?_
            exact evc fun k => rfl
        · simp only [if_pos c0, if_pos c2]
          rw [if_neg (fun c => c3 c.2.2.2), show (bt s ((s.size : Int) - 1) != 41) = true by simpa using c3]
          exact jt
      · simp only [if_pos c0, if_neg c2]
        rw [if_neg (fun c => c2 c.2.2.1)]
        exact jt
    · simp only [if_neg c0]
      rw [if_neg (fun c => c0 c.2.1)]
      exact jt
theorem split_yes {s : ByteArray} {r : Int} {inner : List Int} (h0 : 0 ≤ r) (h1 : r ≤ 9) (hi : ∀ x ∈ inner, 0 ≤ x ∧ x ≤ 255) (hb : bytesOf s = 114 :: (48 + r) :: 40 :: (inner ++ [41])) : mSplit s = (r, if inner = [] then [] else mSp [44] [] inner, true) := by
  obtain ⟨a, b, c, d, e, f⟩ := shape_of hb
  unfold mSplit
  rw [if_pos ⟨by omega, b, c, d⟩, e, f, bytes_str hi, implParse_yes (strOfNums [48 + r]) r (by omega) (by omega) (by rw [fmt_rel h0 h1])]
theorem l1In_eq (x lo hi : Int) : spec_l1In.f x lo hi = some (decide (lo ≤ x ∧ x ≤ hi)) := by
  unfold spec_l1In.f
  by_cases h : x ≥ lo
  · rw [if_pos h]; congr 1; simp; omega
  · rw [if_neg h]; congr 1; simp; omega
/-! ### Terms -/
theorem specIsVar_eq (t : Int) : spec_IsVar.f t = some (mIsVar t) := by
  simp [spec_IsVar.f, l1In_eq, mIsVar]
theorem specConstOf_eq (t : Int) : spec_ConstOf.f t = some (mConstOf t) := by
  unfold spec_ConstOf.f mConstOf
  simp only [l1In_eq, Option.bind_some]
  by_cases h : -80 ≤ t ∧ t ≤ -1
  · simp only [h, and_self, decide_true, if_true]; rw [w64 (by omega) (by omega)]
  · simp only [h, decide_false, Bool.false_eq_true, if_false]
theorem implIsTerm_eq (t : Int) : impl_IsTerm.f t = some (mIsTerm t) := by
  simp [impl_IsTerm.f, within_eq, mIsTerm]
theorem implIsVar_eq (t : Int) : impl_IsVar.f t = some (mIsVar t) := by
  simp [impl_IsVar.f, within_eq, mIsVar]
theorem implConstOf_eq (t : Int) : impl_ConstOf.f t = some (mConstOf t) := by
  unfold impl_ConstOf.f mConstOf
  simp only [implIsTerm_eq, implIsVar_eq, Option.bind_some, mIsTerm, mIsVar]
  by_cases h : -80 ≤ t ∧ t ≤ -1
  · rw [if_pos h, if_pos (by simp; omega), if_neg (by simp; omega)]; rw [w64 (by omega) (by omega)]
  · rw [if_neg h]
    by_cases h2 : -80 ≤ t ∧ t ≤ 19
    · rw [if_pos (by simpa using h2), if_pos (by simp; omega)]
    · rw [if_neg (by simpa using h2)]
/-! ### FormatTerm -/
theorem str_cons (c : Int) (l : List Int) : strOfNums (c :: l) = strOfNums [c] ++ strOfNums l := by
  rw [← strOfNums_append]; rfl
theorem specFmtTerm_ev (t : Int) : Ev (fun k => spec_FormatTerm.f k t) (strOfNums (mFmtTerm t)) := by
  unfold spec_FormatTerm.f mFmtTerm
  simp only [specIsVar_eq, specConstOf_eq, Option.bind_some]
  by_cases hv : mIsVar t = true
  · simp only [if_pos hv]
    have hb : 0 ≤ t ∧ t ≤ 19 := by simpa [mIsVar] using hv
    refine evb (specFmt_ev t (by omega) (by omega)) ?_
    have hl := small_fmt (n := t) (by omega) (by omega)
    refine evc fun k => ?_
    rw [if_pos (by rw [strOfNums_size]; omega), str_cons]
    rfl
  · simp only [if_neg hv]
    have hb : ¬ (0 ≤ t ∧ t ≤ 19) := by simpa [mIsVar] using hv
    by_cases ht : -80 ≤ t ∧ t ≤ -1
    · have hc : mConstOf t = -1 - t := by unfold mConstOf; rw [if_pos ht]
      have hg : mConstOf t ≥ 0 := by omega
      simp only [if_pos hg]
      have hT : mIsTerm t = true := by simp [mIsTerm]; omega
      simp only [if_pos hT]
      rw [hc]
      refine evb (specFmt_ev (-1 - t) (by omega) (by omega)) ?_
      exact evc fun k => rfl
    · have hc : mConstOf t = -1 := by unfold mConstOf; rw [if_neg ht]
      have hg : ¬ mConstOf t ≥ 0 := by omega
      simp only [if_neg hg]
      have hT : ¬ mIsTerm t = true := by simp [mIsTerm]; omega
      simp only [if_neg hT]
      exact evc fun k => rfl
theorem implFmtTerm_ev (t : Int) : Ev (fun k => impl_FormatTerm.f k t) (strOfNums (mFmtTerm t)) := by
  unfold impl_FormatTerm.f mFmtTerm
  simp only [implIsVar_eq, implIsTerm_eq, implConstOf_eq, Option.bind_some]
  by_cases hv : mIsVar t = true
  · simp only [if_pos hv]
    have hb : 0 ≤ t ∧ t ≤ 19 := by simpa [mIsVar] using hv
    refine evb (implFmt_ev t (by omega) (by omega)) ?_
    have hl := small_fmt (n := t) (by omega) (by omega)
    refine evc fun k => ?_
    rw [if_pos (by rw [strOfNums_size]; omega), str_cons]
    rfl
  · simp only [if_neg hv]
    have hb : ¬ (0 ≤ t ∧ t ≤ 19) := by simpa [mIsVar] using hv
    by_cases hT : mIsTerm t = true
    · have ht : -80 ≤ t ∧ t ≤ 19 := by simpa [mIsTerm] using hT
      have hc : mConstOf t = -1 - t := by unfold mConstOf; rw [if_pos (by omega)]
      simp only [if_pos hT]
      rw [hc]
      refine evb (implFmt_ev (-1 - t) (by omega) (by omega)) ?_
      exact evc fun k => rfl
    · simp only [if_neg hT]
      exact evc fun k => rfl
theorem specIsTerm_eq (t : Int) : spec_IsTerm.f t = some (mIsTerm t) := by
  unfold spec_IsTerm.f
  simp only [specIsVar_eq, specConstOf_eq, Option.bind_some]
  unfold mIsVar mIsTerm mConstOf
  by_cases h : 0 ≤ t ∧ t ≤ 19
  · rw [if_pos (by simpa using h)]; congr 1; simp; omega
  · rw [if_neg (by simpa using h)]; congr 1
    by_cases h2 : -80 ≤ t ∧ t ≤ -1
    · rw [if_pos h2, decide_eq_true (by omega), decide_eq_true (by omega)]
    · rw [if_neg h2, decide_eq_false (by omega), decide_eq_false (by omega)]
theorem l3Terms_ev (l : List Int) (h : l.length ≤ 140737488355328) : Ev (fun k => spec_l3Terms.f k l) (l.all mIsTerm && decide ((l.length : Int) ≤ 3)) := by
  refine idx_ind l (fun pre suf => Ev (fun k => spec_l3Terms.l0 k l (pre.length : Int)) (suf.all mIsTerm && decide ((l.length : Int) ≤ 3))) ?_ ?_
  · refine evn fun k => ?_
    simp only [spec_l3Terms.l0]
    rw [if_neg (end_not _)]; rfl
  · intro pre a suf e ih
    by_cases hp : mIsTerm a = true
    · rw [show (a :: suf).all mIsTerm = suf.all mIsTerm by simp [hp]]
      refine Ev.step (fun k => ?_) ih
      simp only [spec_l3Terms.l0]
      rw [if_pos (lt_of e), if_pos (len_nonneg _), rd_of e, specIsTerm_eq, nx_of e h]
      simp [hp]
    · rw [show ((a :: suf).all mIsTerm && decide ((l.length : Int) ≤ 3)) = false by simp [hp]]
      refine evn fun k => ?_
      simp only [spec_l3Terms.l0]
      rw [if_pos (lt_of e), if_pos (len_nonneg _), rd_of e, specIsTerm_eq]
      simp [hp]
theorem areTerms_ev (l : List Int) (h : l.length ≤ 140737488355328) : Ev (fun k => impl_areTerms.f k l) (l.all mIsTerm) := by
  refine idx_ind l (fun pre suf => Ev (fun k => impl_areTerms.l0 k l (l.length : Int) (pre.length : Int)) (suf.all mIsTerm)) ?_ ?_
  · refine evn fun k => ?_
    simp only [impl_areTerms.l0]
    rw [if_neg (end_not _)]; rfl
  · intro pre a suf e ih
    by_cases hp : mIsTerm a = true
    · rw [show (a :: suf).all mIsTerm = suf.all mIsTerm by simp [hp]]
      refine Ev.step (fun k => ?_) ih
      simp only [impl_areTerms.l0]
      rw [if_pos (lt_of e), if_pos (len_nonneg _), if_pos (lt_of e), rd_of e, implIsTerm_eq, nx_of e h]
      simp [hp]
    · rw [show (a :: suf).all mIsTerm = false by simp [hp]]
      refine evn fun k => ?_
      simp only [impl_areTerms.l0]
      rw [if_pos (lt_of e), if_pos (len_nonneg _), if_pos (lt_of e), rd_of e, implIsTerm_eq]
      simp [hp]
/-! ### glued -/
theorem rdB_of {l pre suf : List ByteArray} {a : ByteArray} (e : l = pre ++ a :: suf) : rdOf ByteArray.empty l (pre.length : Int) = a := getD_of e _
theorem glued_ev (xs : List (List Int)) (sep : List Int) (hl : xs.length ≤ 1073741824) (hs : sep.length ≤ 10000) (hx : ∀ x ∈ xs, x.length ≤ 10000) :
    Ev (fun k => impl_glued.f k (xs.map strOfNums) (strOfNums sep)) (strOfNums (mJoin sep xs)) := by
  have key := idx_ind xs (fun pre suf => Ev (fun k => impl_glued.l0 k (strOfNums sep) (strOfNums (mJoin sep pre)) (xs.map strOfNums) ((xs.map strOfNums).length : Int) (pre.length : Int)) (strOfNums (mJoin sep xs))) ?_ ?_
  · exact key
  · refine evn fun k => ?_
    simp only [impl_glued.l0]
    rw [if_neg (by simp)]
  · intro pre a suf e ih
    have ea : xs.map strOfNums = pre.map strOfNums ++ strOfNums a :: suf.map strOfNums := by rw [e]; simp
    have hr : rdOf ByteArray.empty (xs.map strOfNums) (pre.length : Int) = strOfNums a := by
      have := rdB_of ea
      simpa using this
    have hlt : (pre.length : Int) < ((xs.map strOfNums).length : Int) := by rw [e]; simp; omega
    have hp : pre.length < 1073741824 := by rw [e] at hl; simp at hl; omega
    have hj := mJoin_len sep 10000 hs pre (fun x hxm => hx x (by rw [e]; simp [hxm]))
    have ha := hx a (by rw [e]; simp)
    have hjb : (mJoin sep pre).length ≤ 21474836480000 := by omega
    refine Ev.step (fun k => ?_) ih
    simp only [impl_glued.l0]
    rw [if_pos hlt, if_pos (len_nonneg _), if_pos hlt, hr, iw (a := a) (by omega)]
    by_cases h0 : pre = []
    · subst h0
      rw [if_neg (by simp), if_pos (by rw [strOfNums_size, strOfNums_size]; simp [mJoin]; omega), ← strOfNums_append]
      simp [mJoin, mJoinT]
    · have hp0 : 0 < pre.length := List.length_pos_iff.2 h0
      rw [if_pos (by omega), if_pos (by rw [strOfNums_size, strOfNums_size]; omega), ← strOfNums_append, if_pos (by rw [strOfNums_size, strOfNums_size]; simp; omega), ← strOfNums_append, mJoin_snoc sep a pre h0]
      simp
/-! ### FormatAtom -/
theorem join_terms_len (l : List Int) : (mJoin [44] (l.map mFmtTerm)).length ≤ l.length * 8 := by
  have := mJoin_len [44] 4 (by simp) (l.map mFmtTerm) (fun x hx => by obtain ⟨y, hy, rfl⟩ := List.mem_map.1 hx; exact term_fmt y)
  simpa using this
theorem l3List_ev (l : List Int) (hl : l.length ≤ 1048576) : Ev (fun k => spec_l3List.f k l) (strOfNums (mJoin [44] (l.map mFmtTerm))) := by
  have key := idx_ind l (fun pre suf => Ev (fun k => spec_l3List.l0 k l (strOfNums (mJoin [44] (pre.map mFmtTerm))) (pre.length : Int)) (strOfNums (mJoin [44] (l.map mFmtTerm)))) ?_ ?_
  · exact key
  · refine evn fun k => ?_
    simp only [spec_l3List.l0]
    rw [if_neg (end_not _)]
  · intro pre a suf e ih
    have hp : pre.length < 1048576 := by rw [e] at hl; simp at hl; omega
    have hj := join_terms_len pre
    have ha := term_fmt a
    by_cases h0 : pre = []
    · subst h0
      refine Ev.step (f := fun k => (spec_FormatTerm.f k a).bind fun t => if (strOfNums (mJoin [44] ([].map mFmtTerm))).size + t.size ≤ 9223372036854775807 then spec_l3List.l0 k l (strOfNums (mJoin [44] ([].map mFmtTerm)) ++ t) (([] ++ [a] : List Int).length : Int) else none) (fun k => ?_) ?_
      · simp only [spec_l3List.l0]
        rw [if_pos (lt_of e), if_neg (by simp), if_pos (len_nonneg _), rd_of e, nx_of e (by omega)]
      · refine evb (specFmtTerm_ev a) ?_
        have z : (strOfNums (mJoin [44] (([] : List Int).map mFmtTerm))).size + (strOfNums (mFmtTerm a)).size ≤ 9223372036854775807 := by rw [strOfNums_size, strOfNums_size]; simp [mJoin]; omega
        simp only [if_pos z, ← strOfNums_append]
        simpa [mJoin, mJoinT] using ih
    · have hp0 : 0 < pre.length := List.length_pos_iff.2 h0
      refine Ev.step (f := fun k => (spec_FormatTerm.f k a).bind fun t => if (strOfNums (mJoin [44] (pre.map mFmtTerm)) ++ strOfNums [44]).size + t.size ≤ 9223372036854775807 then spec_l3List.l0 k l ((strOfNums (mJoin [44] (pre.map mFmtTerm)) ++ strOfNums [44]) ++ t) ((pre ++ [a]).length : Int) else none) (fun k => ?_) ?_
      · simp only [spec_l3List.l0]
        rw [if_pos (lt_of e), if_pos (by omega), if_pos (by rw [strOfNums_size]; omega), if_pos (len_nonneg _), rd_of e, nx_of e (by omega)]
        rfl
      · refine evb (specFmtTerm_ev a) ?_
        have z : (strOfNums (mJoin [44] (pre.map mFmtTerm) ++ [44])).size + (strOfNums (mFmtTerm a)).size ≤ 9223372036854775807 := by rw [strOfNums_size, strOfNums_size]; simp; omega
        simp only [← strOfNums_append]
        simp only [if_pos z]
        have ej : mJoin [44] ((pre ++ [a]).map mFmtTerm) = mJoin [44] (pre.map mFmtTerm) ++ [44] ++ mFmtTerm a := by
          rw [List.map_append, List.map_cons, List.map_nil, mJoin_snoc [44] (mFmtTerm a) _ (map_ne h0)]; simp
        rw [← ej]
        exact ih
theorem rel_fmt2 {r : Int} (h : 0 ≤ r ∧ r ≤ 3) : (mFmt r).length ≤ 3 := small_fmt (by omega) (by omega)
theorem specFmtAtom_ev (r : Int) (l : List Int) (hl : l.length ≤ 1048576) : Ev (fun k => spec_FormatAtom.f k r l) (strOfNums (mFmtAtom r l)) := by
  unfold spec_FormatAtom.f
  have jt : Ev (fun k => spec_FormatAtom.j0 k true r l) (strOfNums []) := evn fun k => by simp only [spec_FormatAtom.j0]; rw [if_pos trivial]; rfl
  simp only [l1In_eq, Option.bind_some]
  by_cases c1 : 0 ≤ r ∧ r ≤ 3
  · simp only [c1, and_self, decide_true, if_true]
    refine evb (l3Terms_ev l (by omega)) ?_
    by_cases c2 : (l.length : Int) ≤ 3 ∧ l.all mIsTerm = true
    · have ef : mFmtAtom r l = [114] ++ mFmt r ++ [40] ++ mJoin [44] (l.map mFmtTerm) ++ [41] := by unfold mFmtAtom; rw [if_pos ⟨c1, c2⟩]
      rw [show (l.all mIsTerm && decide ((l.length : Int) ≤ 3)) = true by simp [c2.1]; simpa using c2.2, ef]
      have hr := rel_fmt2 c1
      have hj := join_terms_len l
      refine Ev.step (f := fun k => (spec_FormatInt.f k r).bind fun t => if 1 + t.size ≤ 9223372036854775807 then (if ((⟨#[114]⟩ : ByteArray) ++ t).size + 1 ≤ 9223372036854775807 then ((spec_l3List.f k l).bind fun u => (if (((⟨#[114]⟩ : ByteArray) ++ t) ++ (⟨#[40]⟩ : ByteArray)).size + u.size ≤ 9223372036854775807 then (if ((((⟨#[114]⟩ : ByteArray) ++ t) ++ (⟨#[40]⟩ : ByteArray)) ++ u).size + 1 ≤ 9223372036854775807 then (some (((((⟨#[114]⟩ : ByteArray) ++ t) ++ (⟨#[40]⟩ : ByteArray)) ++ u) ++ (⟨#[41]⟩ : ByteArray))) else none) else none)) else none) else none) (fun k => ?_) ?_
      · simp only [spec_FormatAtom.j0]
        rw [if_neg (by simp)]
      · refine evb (specFmt_ev r (by omega) (by omega)) ?_
        have e1 : (⟨#[114]⟩ : ByteArray) = strOfNums [114] := rfl
        have e2 : (⟨#[40]⟩ : ByteArray) = strOfNums [40] := rfl
        have e3 : (⟨#[41]⟩ : ByteArray) = strOfNums [41] := rfl
        simp only [e1, e2, e3, ← strOfNums_append, strOfNums_size]
        have z1 : 1 + (mFmt r).length ≤ 9223372036854775807 := by omega
        have z2 : ([114] ++ mFmt r).length + 1 ≤ 9223372036854775807 := by simp; omega
        simp only [if_pos z1, if_pos z2]
        refine evb (l3List_ev l hl) ?_
        simp only [← strOfNums_append, strOfNums_size]
        have z3 : ([114] ++ mFmt r ++ [40]).length + (mJoin [44] (l.map mFmtTerm)).length ≤ 9223372036854775807 := by simp; omega
        have z4 : ([114] ++ mFmt r ++ [40] ++ mJoin [44] (l.map mFmtTerm)).length + 1 ≤ 9223372036854775807 := by simp; omega
        simp only [if_pos z3, if_pos z4]
        exact evc fun k => rfl
    · have ef : mFmtAtom r l = [] := by unfold mFmtAtom; rw [if_neg (fun h => c2 h.2)]
      rw [show (l.all mIsTerm && decide ((l.length : Int) ≤ 3)) = false by
        rw [Bool.and_eq_false_iff]
        by_cases h3 : (l.length : Int) ≤ 3
        · left; simpa using fun h => c2 ⟨h3, h⟩
        · right; simpa using h3, ef]
      exact jt
  · have ef : mFmtAtom r l = [] := by unfold mFmtAtom; rw [if_neg (fun h => c1 h.1)]
    simp only [c1, decide_false, Bool.false_eq_true, if_false]
    rw [ef]; exact jt
theorem implFmtAtom_ev (r : Int) (l : List Int) (hl : l.length ≤ 1048576) : Ev (fun k => impl_FormatAtom.f k r l) (strOfNums (mFmtAtom r l)) := by
  unfold impl_FormatAtom.f
  have jt : Ev (fun k => impl_FormatAtom.j0 k true r l) (strOfNums []) := evn fun k => by simp only [impl_FormatAtom.j0]; rw [if_pos trivial]; rfl
  simp only [within_eq, Option.bind_some]
  by_cases c1 : 0 ≤ r ∧ r ≤ 3
  · simp only [c1, and_self, decide_true, if_true]
    by_cases c2 : (l.length : Int) > 3
    · have ef : mFmtAtom r l = [] := by unfold mFmtAtom; rw [if_neg (fun h => by have := h.2.1; omega)]
      simp only [if_pos c2]
      rw [ef]; exact jt
    · simp only [if_neg c2]
      refine evb (areTerms_ev l (by omega)) ?_
      by_cases c3 : l.all mIsTerm = true
      · have ef : mFmtAtom r l = [114] ++ mFmt r ++ [40] ++ mJoin [44] (l.map mFmtTerm) ++ [41] := by unfold mFmtAtom; rw [if_pos ⟨c1, by omega, c3⟩]
        rw [c3, ef]
        have hr := rel_fmt2 c1
        have hj := join_terms_len l
        refine Ev.step (f := fun k => impl_FormatAtom.l0 k ([] : List ByteArray) l (l.length : Int) 0 r l) (fun k => ?_) ?_
        · simp only [impl_FormatAtom.j0]
          rw [if_neg (by simp)]
        · have key := idx_ind l (fun pre suf => Ev (fun k => impl_FormatAtom.l0 k ((pre.map mFmtTerm).map strOfNums) l (l.length : Int) (pre.length : Int) r l) (strOfNums ([114] ++ mFmt r ++ [40] ++ mJoin [44] (l.map mFmtTerm) ++ [41]))) ?_ ?_
          · exact key
          · refine Ev.step (f := fun k => (impl_FormatInt.f k r).bind fun t => if 1 + t.size ≤ 9223372036854775807 then (if ((⟨#[114]⟩ : ByteArray) ++ t).size + 1 ≤ 9223372036854775807 then ((impl_glued.f k ((l.map mFmtTerm).map strOfNums) (strOfNums [44])).bind fun u => (if (((⟨#[114]⟩ : ByteArray) ++ t) ++ (⟨#[40]⟩ : ByteArray)).size + u.size ≤ 9223372036854775807 then (if ((((⟨#[114]⟩ : ByteArray) ++ t) ++ (⟨#[40]⟩ : ByteArray)) ++ u).size + 1 ≤ 9223372036854775807 then (some (((((⟨#[114]⟩ : ByteArray) ++ t) ++ (⟨#[40]⟩ : ByteArray)) ++ u) ++ (⟨#[41]⟩ : ByteArray))) else none) else none)) else none) else none) (fun k => ?_) ?_
            · simp only [impl_FormatAtom.l0]
              rw [if_neg (end_not _)]
              rfl
            · refine evb (implFmt_ev r (by omega) (by omega)) ?_
              have e1 : (⟨#[114]⟩ : ByteArray) = strOfNums [114] := rfl
              have e2 : (⟨#[40]⟩ : ByteArray) = strOfNums [40] := rfl
              have e3 : (⟨#[41]⟩ : ByteArray) = strOfNums [41] := rfl
              simp only [e1, e2, e3, ← strOfNums_append, strOfNums_size]
              have z1 : 1 + (mFmt r).length ≤ 9223372036854775807 := by omega
              have z2 : ([114] ++ mFmt r).length + 1 ≤ 9223372036854775807 := by simp; omega
              simp only [if_pos z1, if_pos z2]
              refine evb (glued_ev (l.map mFmtTerm) [44] (by simp; omega) (by simp) (fun x hx => by obtain ⟨y, hy, rfl⟩ := List.mem_map.1 hx; have := term_fmt y; omega)) ?_
              simp only [← strOfNums_append, strOfNums_size]
              have z3 : ([114] ++ mFmt r ++ [40]).length + (mJoin [44] (l.map mFmtTerm)).length ≤ 9223372036854775807 := by simp; omega
              have z4 : ([114] ++ mFmt r ++ [40] ++ mJoin [44] (l.map mFmtTerm)).length + 1 ≤ 9223372036854775807 := by simp; omega
              simp only [if_pos z3, if_pos z4]
              exact evc fun k => rfl
          · intro pre a suf e ih
            have hp : pre.length < 1048576 := by rw [e] at hl; simp at hl; omega
            refine Ev.step (f := fun k => (impl_FormatTerm.f k a).bind fun t => impl_FormatAtom.l0 k ((pre.map mFmtTerm).map strOfNums ++ [t]) l (l.length : Int) ((pre ++ [a]).length : Int) r l) (fun k => ?_) ?_
            · have hc : ((pre.map mFmtTerm).map strOfNums).length < 8796093022208 := by simp; omega
              simp only [impl_FormatAtom.l0]
              rw [if_pos (lt_of e), if_pos (len_nonneg _), if_pos (lt_of e), rd_of e, nx_of e (by omega)]
              simp only [if_pos hc]
            · refine evb (implFmtTerm_ev a) ?_
              simpa using ih
      · have ef : mFmtAtom r l = [] := by unfold mFmtAtom; rw [if_neg (fun h => c3 h.2.2)]
        rw [ef, show l.all mIsTerm = false by simpa using c3]
        exact jt
  · have ef : mFmtAtom r l = [] := by unfold mFmtAtom; rw [if_neg (fun h => c1 h.1)]
    simp only [c1, decide_false, Bool.false_eq_true, if_false]
    rw [ef]; exact jt
/-! ### ParseTerm -/
theorem mFmtTerm_ne {t : Int} (h : mIsTerm t = true) : mFmtTerm t ≠ [] := by
  unfold mFmtTerm
  by_cases hv : mIsVar t = true
  · rw [if_pos hv]; simp
  · rw [if_neg hv, if_pos h]
    have hb : -80 ≤ t ∧ t ≤ 19 := by simpa [mIsTerm] using h
    have hb2 : ¬ (0 ≤ t ∧ t ≤ 19) := by simpa [mIsVar] using hv
    rw [mFmt_nonneg (by omega)]
    have := mDg_len (m := (-1 - t).natAbs) (by omega)
    intro e; rw [e] at this; simp at this
theorem mFmtTerm_no {t : Int} (h : ¬ mIsTerm t = true) : mFmtTerm t = [] := by
  unfold mFmtTerm
  have hv : ¬ mIsVar t = true := by
    simp only [mIsTerm, decide_eq_true_eq] at h
    simp [mIsVar]; omega
  rw [if_neg hv, if_neg h]
theorem mFmtTerm_bytes (t : Int) : bytesOf (strOfNums (mFmtTerm t)) = mFmtTerm t := by
  refine bytes_str fun x hx => ?_
  unfold mFmtTerm at hx
  by_cases hv : mIsVar t = true
  · rw [if_pos hv] at hx
    rcases List.mem_cons.1 hx with rfl | hx
    · omega
    · have hb := mFmt_bytes t
      have : 0 ≤ t ∧ t ≤ 19 := by simpa [mIsVar] using hv
      rw [mFmt_nonneg this.1] at hx
      exact dg_bytes (mDg_digits _) x hx
  · rw [if_neg hv] at hx
    by_cases hT : mIsTerm t = true
    · rw [if_pos hT] at hx
      have hb : -80 ≤ t ∧ t ≤ 19 := by simpa [mIsTerm] using hT
      have hb2 : ¬ (0 ≤ t ∧ t ≤ 19) := by simpa [mIsVar] using hv
      rw [mFmt_nonneg (by omega)] at hx
      exact dg_bytes (mDg_digits _) x hx
    · rw [if_neg hT] at hx; simp at hx
/-- How the last test of a read term ends. -/
def mTFin (s : ByteArray) (t : Int) : Int × Bool := if strOfNums (mFmtTerm t) = s then (t, true) else (0, false)
theorem tfin_no (s : ByteArray) (hs : s ≠ ⟨#[]⟩) (h : ∀ t, mIsTerm t = true → s ≠ strOfNums (mFmtTerm t)) (t : Int) : mTFin s t = (0, false) := by
  unfold mTFin
  rw [if_neg]
  intro e
  by_cases hT : mIsTerm t = true
  · exact h t hT e.symm
  · rw [mFmtTerm_no hT] at e; exact hs e.symm
theorem tfin_yes (s : ByteArray) (t : Int) (h : s = strOfNums (mFmtTerm t)) : mTFin s t = (t, true) := by
  unfold mTFin; rw [if_pos h.symm]
theorem empty_toList {α : Type} (s : ByteArray) (x y : α) : (if s.toList = ([] : List UInt8) then x else y) = if s = ⟨#[]⟩ then x else y := by
  have e : s.toList = ([] : List UInt8) ↔ s = ⟨#[]⟩ := by
    rw [← toList_inj, show (⟨#[]⟩ : ByteArray).toList = [] by rw [ByteArray.toList_eq]]
  by_cases h : s = ⟨#[]⟩
  · rw [if_pos h, if_pos (e.2 h)]
  · rw [if_neg h, if_neg (fun h' => h (e.1 h'))]
theorem extract_tail (s : ByteArray) (c : Int) (l : List Int) (h : bytesOf s = c :: l) : s.extract 1 s.size = strOfNums l := by
  have hl := bytesOf_length s
  rw [extract_str, h]
  rw [h] at hl
  simp only [List.drop_succ_cons, List.drop_zero]
  rw [List.take_of_length_le (by simp at hl; omega)]
def mImplTerm (s : ByteArray) : Int × Bool :=
  if s = ⟨#[]⟩ then (0, false) else if (bytesOf s).head? = some 88 then mTFin s (mImplParse (s.extract 1 s.size)).1 else mTFin s (mMkConst (mImplParse s).1)
theorem implTFin_ev (s : ByteArray) (t : Int) : Ev (fun k => (impl_FormatTerm.f k t).bind fun u => if u.toList = s.toList then some (t, true) else some (0, false)) (mTFin s t) := by
  refine evb (implFmtTerm_ev t) ?_
  refine evc fun k => ?_
  rw [toList_if]
  unfold mTFin
  by_cases h : strOfNums (mFmtTerm t) = s
  · rw [if_pos h, if_pos h]
  · rw [if_neg h, if_neg h]
theorem specTFin_ev (s : ByteArray) (t : Int) : Ev (fun k => (spec_FormatTerm.f k t).bind fun u => if u.toList = s.toList then some (t, true) else some (0, false)) (mTFin s t) := by
  refine evb (specFmtTerm_ev t) ?_
  refine evc fun k => ?_
  rw [toList_if]
  unfold mTFin
  by_cases h : strOfNums (mFmtTerm t) = s
  · rw [if_pos h, if_pos h]
  · rw [if_neg h, if_neg h]
theorem implMakeConst_eq (n : Int) : impl_MakeConst.f n = some (mMkConst n) := by
  unfold impl_MakeConst.f mMkConst
  simp only [within_eq, Option.bind_some]
  by_cases h : 0 ≤ n ∧ n ≤ 79
  · simp only [h, and_self, decide_true, if_true]; rw [w64 (by omega) (by omega)]
  · simp only [h, decide_false, Bool.false_eq_true, if_false]
theorem extract_size (s : ByteArray) : (s.extract 1 s.size).size ≤ s.size := by
  rw [ByteArray.size_extract]; omega
theorem implTerm_ev (s : ByteArray) (hs : s.size ≤ 140737488351232) : Ev (fun k => impl_ParseTerm.f k s) (mImplTerm s) := by
  have hlen := bytesOf_length s
  unfold impl_ParseTerm.f mImplTerm
  by_cases hz : (s.size : Int) > 0
  · have hne : ¬ s = ⟨#[]⟩ := by intro e; rw [e] at hz; simp [ByteArray.size] at hz
    simp only [if_pos hz, if_true, show (0 : Int) < (s.size : Int) from hz]
    rw [if_neg hne]
    obtain ⟨c, t, hb⟩ : ∃ c t, bytesOf s = c :: t := by
      cases h : bytesOf s with
      | nil => rw [h] at hlen; simp at hlen; omega
      | cons c t => exact ⟨c, t, rfl⟩
    have hc0 : bt s 0 = c := by rw [bt_rd, hb]; rfl
    rw [hc0]
    by_cases h88 : c = 88
    · rw [if_pos (by rw [hb, h88]; rfl)]
      refine Ev.step (f := fun k => (impl_ParseInt.f k (s.extract 1 s.size)).bind fun p => (impl_FormatTerm.f k p.1).bind fun u => if u.toList = s.toList then some (p.1, true) else some (0, false)) (fun k => ?_) ?_
      · simp only [impl_ParseTerm.j0]
        rw [if_pos (by simpa using h88), if_pos (by omega)]
        congr 1
        funext p
        rw [empty_toList, if_neg hne]
      · refine evb (implParse_ev _ (by have := extract_size s; omega)) ?_
        exact implTFin_ev s _
    · rw [if_neg (by rw [hb]; simpa using h88)]
      refine Ev.step (f := fun k => (impl_ParseInt.f k s).bind fun p => (impl_FormatTerm.f k (mMkConst p.1)).bind fun u => if u.toList = s.toList then some (mMkConst p.1, true) else some (0, false)) (fun k => ?_) ?_
      · simp only [impl_ParseTerm.j0]
        rw [if_neg (by simpa using h88)]
        congr 1
        funext p
        rw [implMakeConst_eq]
        simp only [Option.bind_some]
        rw [empty_toList, if_neg hne]
      · refine evb (implParse_ev s hs) ?_
        exact implTFin_ev s _
  · have he : s = ⟨#[]⟩ := by
      refine bytes_inj ?_
      rw [List.eq_nil_of_length_eq_zero (show (bytesOf s).length = 0 by omega)]; rfl
    simp only [if_neg hz]
    rw [if_pos he]
    refine Ev.step (f := fun k => (impl_ParseInt.f k s).bind fun p => some (0, false)) (fun k => ?_) ?_
    · simp only [impl_ParseTerm.j0]
      rw [if_neg (by simp)]
      congr 1
      funext p
      rw [implMakeConst_eq]
      simp only [Option.bind_some]
      rw [empty_toList, if_pos he]
    · exact evb (implParse_ev s hs) (evc fun k => rfl)
def mSpecTerm (s : ByteArray) : Int × Bool :=
  if s = ⟨#[]⟩ then (0, false) else if (bytesOf s).head? = some 88 ∧ s.size > 1 then (if (mSpecParse (s.extract 1 s.size)).2 = true then mTFin s (mSpecParse (s.extract 1 s.size)).1 else mTFin s (-1000))
  else if (mSpecParse s).2 = true ∧ (mSpecParse s).1 ≥ 0 then mTFin s (wrap64 ((-1) - (mSpecParse s).1)) else mTFin s (-1000)
theorem specTerm_ev (s : ByteArray) (hs : s.size ≤ 140737488351232) : Ev (fun k => spec_ParseTerm.f k s) (mSpecTerm s) := by
  have hlen := bytesOf_length s
  -- the number's way
  have num : s ≠ ⟨#[]⟩ → Ev (fun k => spec_ParseTerm.j0 k s (-1000) false) (if (mSpecParse s).2 = true ∧ (mSpecParse s).1 ≥ 0 then mTFin s (wrap64 ((-1) - (mSpecParse s).1)) else mTFin s (-1000)) := by
    intro hne
    have j1 : ∀ (n : Int) (g : Bool), Ev (fun k => spec_ParseTerm.j1 k s (-1000) n g) (if g = true then mTFin s (wrap64 ((-1) - n)) else mTFin s (-1000)) := by
      intro n g
      cases g with
      | true =>
        refine Ev.step (fun k => ?_) (specTFin_ev s (wrap64 ((-1) - n)))
        simp only [spec_ParseTerm.j1]
        rw [if_pos trivial, empty_toList, if_neg hne]
      | false =>
        refine Ev.step (fun k => ?_) (specTFin_ev s (-1000))
        simp only [spec_ParseTerm.j1]
        rw [if_neg (by simp), empty_toList, if_neg hne]
    refine Ev.step (f := fun k => (spec_ParseInt.f k s).bind fun p => if p.2 = true then spec_ParseTerm.j1 k s (-1000) p.1 (decide (p.1 ≥ 0)) else spec_ParseTerm.j1 k s (-1000) p.1 false) (fun k => ?_) ?_
    · simp only [spec_ParseTerm.j0]
      rw [if_neg (by simp)]
    · refine evb (specParse_ev s hs) ?_
      by_cases h2 : (mSpecParse s).2 = true
      · simp only [if_pos h2]
        have r := j1 (mSpecParse s).1 (decide ((mSpecParse s).1 ≥ 0))
        by_cases h3 : (mSpecParse s).1 ≥ 0
        · rw [if_pos ⟨h2, h3⟩]; simpa [h3] using r
        · rw [if_neg (fun h => h3 h.2)]; simpa [h3] using r
      · simp only [if_neg h2]
        rw [if_neg (fun h => h2 h.1)]
        simpa using j1 (mSpecParse s).1 false
  unfold spec_ParseTerm.f mSpecTerm
  by_cases he : s = ⟨#[]⟩
  · rw [if_pos he]
    have hz : ¬ (s.size : Int) > 1 := by rw [he]; simp [ByteArray.size]
    simp only [if_neg hz]
    have j1 : ∀ (n : Int) (g : Bool), Ev (fun k => spec_ParseTerm.j1 k s (-1000) n g) (0, false) := by
      intro n g
      refine evn fun k => ?_
      simp only [spec_ParseTerm.j1]
      cases g <;> simp only [Bool.false_eq_true, if_false, if_true] <;> rw [empty_toList, if_pos he]
    refine Ev.step (f := fun k => (spec_ParseInt.f k s).bind fun p => if p.2 = true then spec_ParseTerm.j1 k s (-1000) p.1 (decide (p.1 ≥ 0)) else spec_ParseTerm.j1 k s (-1000) p.1 false) (fun k => ?_) ?_
    · simp only [spec_ParseTerm.j0]
      rw [if_neg (by simp)]
    · refine evb (specParse_ev s hs) ?_
      by_cases h2 : (mSpecParse s).2 = true
      · simp only [if_pos h2]; exact j1 _ _
      · simp only [if_neg h2]; exact j1 _ _
  · rw [if_neg he]
    have hpos : 0 < s.size := by
      rcases Nat.eq_zero_or_pos s.size with h | h
      · exact absurd (bytes_inj (show bytesOf s = bytesOf ⟨#[]⟩ by rw [List.eq_nil_of_length_eq_zero (show (bytesOf s).length = 0 by omega)]; rfl)) he
      · exact h
    obtain ⟨c, t, hb⟩ : ∃ c t, bytesOf s = c :: t := by
      cases h : bytesOf s with
      | nil => rw [h] at hlen; simp at hlen; omega
      | cons c t => exact ⟨c, t, rfl⟩
    have hc0 : bt s 0 = c := by rw [bt_rd, hb]; rfl
    by_cases h1 : (s.size : Int) > 1
    · simp only [if_pos h1, if_true, show (0 : Int) < (s.size : Int) by omega]
      rw [hc0]
      by_cases h88 : c = 88
      · rw [if_pos ⟨by rw [hb, h88]; rfl, by omega⟩]
        refine Ev.step (f := fun k => (spec_ParseInt.f k (s.extract 1 s.size)).bind fun p => if p.2 = true then (spec_FormatTerm.f k p.1).bind fun u => if u.toList = s.toList then some (p.1, true) else some (0, false) else (spec_FormatTerm.f k (-1000)).bind fun u => if u.toList = s.toList then some (-1000, true) else some (0, false)) (fun k => ?_) ?_
        · simp only [spec_ParseTerm.j0]
          rw [if_pos (by simpa using h88), if_pos (by omega)]
          congr 1
          funext p
          rw [empty_toList, if_neg he, empty_toList, if_neg he]
        · refine evb (specParse_ev _ (by have := extract_size s; omega)) ?_
          by_cases h2 : (mSpecParse (s.extract 1 s.size)).2 = true
          · simp only [if_pos h2]; exact specTFin_ev s _
          · simp only [if_neg h2]; exact specTFin_ev s _
      · rw [if_neg (fun h => h88 (by rw [hb] at h; simpa using h.1))]
        rw [show (c == 88) = false by simpa using h88]
        exact num he
    · simp only [if_neg h1]
      rw [if_neg (fun h => h1 (by have := h.2; omega))]
      exact num he
/-- Both read the same terms. -/
theorem term_yes (s : ByteArray) (t : Int) (hT : mIsTerm t = true) (e : s = strOfNums (mFmtTerm t)) : mImplTerm s = (t, true) ∧ mSpecTerm s = (t, true) := by
  have hb : bytesOf s = mFmtTerm t := by rw [e]; exact mFmtTerm_bytes t
  have hr : -80 ≤ t ∧ t ≤ 19 := by simpa [mIsTerm] using hT
  have hne : ¬ s = ⟨#[]⟩ := by intro h; rw [h] at hb; exact mFmtTerm_ne hT hb.symm
  by_cases hv : mIsVar t = true
  · have hv2 : 0 ≤ t ∧ t ≤ 19 := by simpa [mIsVar] using hv
    have hf : mFmtTerm t = 88 :: mFmt t := by unfold mFmtTerm; rw [if_pos hv]
    have hx : s.extract 1 s.size = strOfNums (mFmt t) := extract_tail s 88 _ (by rw [hb, hf])
    have hl := mDg_len (m := t.natAbs) (by omega)
    have hsz : s.size > 1 := by rw [← bytesOf_length, hb, hf, mFmt_nonneg (by omega)]; simp; omega
    constructor
    · unfold mImplTerm
      rw [if_neg hne, if_pos (by rw [hb, hf]; rfl), hx, implParse_yes _ t (by omega) (by omega) rfl]
      exact tfin_yes s t e
    · unfold mSpecTerm
      rw [if_neg hne, if_pos ⟨by rw [hb, hf]; rfl, hsz⟩, hx, specParse_yes _ t (by omega) (by omega) rfl]
      simp only [if_true]
      exact tfin_yes s t e
  · have hv2 : ¬ (0 ≤ t ∧ t ≤ 19) := by simpa [mIsVar] using hv
    have hf : mFmtTerm t = mFmt (-1 - t) := by unfold mFmtTerm; rw [if_neg hv, if_pos hT]
    have hs : s = strOfNums (mFmt (-1 - t)) := by rw [← hf]; exact e
    have hh : ¬ (bytesOf s).head? = some 88 := by
      rw [hb, hf, mFmt_nonneg (by omega)]
      have hd := mDg_digits (-1 - t).natAbs
      cases hx : mDg (-1 - t).natAbs with
      | nil => simp
      | cons c u =>
        rw [hx] at hd
        simp only [List.all_cons, Bool.and_eq_true, mIsDg, decide_eq_true_eq] at hd
        simp; omega
    constructor
    · unfold mImplTerm
      rw [if_neg hne, if_neg hh, implParse_yes s (-1 - t) (by omega) (by omega) hs]
      have : mMkConst (-1 - t) = t := by unfold mMkConst; rw [if_pos (by omega)]; omega
      simp only [this]
      exact tfin_yes s t e
    · unfold mSpecTerm
      rw [if_neg hne, if_neg (fun h => hh h.1), specParse_yes s (-1 - t) (by omega) (by omega) hs]
      simp only
      rw [if_pos ⟨trivial, by omega⟩, w64 (by omega) (by omega), show (-1 : Int) - (-1 - t) = t by omega]
      exact tfin_yes s t e
theorem term_no (s : ByteArray) (h : ∀ t, mIsTerm t = true → s ≠ strOfNums (mFmtTerm t)) : mImplTerm s = (0, false) ∧ mSpecTerm s = (0, false) := by
  unfold mImplTerm mSpecTerm
  by_cases he : s = ⟨#[]⟩
  · rw [if_pos he, if_pos he]; exact ⟨rfl, rfl⟩
  · rw [if_neg he, if_neg he]
    simp only [tfin_no s he h, ite_self]
    exact ⟨trivial, trivial⟩
theorem term_same (s : ByteArray) : mImplTerm s = mSpecTerm s := by
  by_cases h : ∃ t, mIsTerm t = true ∧ s = strOfNums (mFmtTerm t)
  · obtain ⟨t, h0, e⟩ := h
    have := term_yes s t h0 e
    rw [this.1, this.2]
  · have := term_no s (fun t h0 e => h ⟨t, h0, e⟩)
    rw [this.1, this.2]
/-! ### ParseAtom -/
def mAFin (s : ByteArray) (r : Int) (l : List Int) : Int × List Int × Bool := if strOfNums (mFmtAtom r l) = s then (r, l, true) else (0, [], false)
theorem implAFin_ev (s : ByteArray) (r : Int) (l : List Int) (hl : l.length ≤ 1048576) :
    Ev (fun k => (impl_FormatAtom.f k r l).bind fun u => if u.toList = s.toList then some (r, l, true) else some (0, ([] : List Int), false)) (mAFin s r l) := by
  refine evb (implFmtAtom_ev r l hl) ?_
  unfold mAFin
  refine evc fun k => ?_
  rw [toList_if]
  by_cases e : strOfNums (mFmtAtom r l) = s
  · rw [if_pos e, if_pos e]
  · rw [if_neg e, if_neg e]
theorem specAFin_ev (s : ByteArray) (r : Int) (l : List Int) (hl : l.length ≤ 1048576) :
    Ev (fun k => (spec_FormatAtom.f k r l).bind fun u => if u.toList = s.toList then some (r, l, true) else some (0, ([] : List Int), false)) (mAFin s r l) := by
  refine evb (specFmtAtom_ev r l hl) ?_
  unfold mAFin
  refine evc fun k => ?_
  rw [toList_if]
  by_cases e : strOfNums (mFmtAtom r l) = s
  · rw [if_pos e, if_pos e]
  · rw [if_neg e, if_neg e]
/-- The terms of a list of texts, if all are terms. -/
def mTerms (acc : List Int) : List (List Int) → Option (List Int)
  | [] => some acc
  | x :: t => if (mImplTerm (strOfNums x)).2 = true then mTerms (acc ++ [(mImplTerm (strOfNums x)).1]) t else none
def mTEnd (s : ByteArray) (r : Int) : Option (List Int) → Int × List Int × Bool
  | some l => mAFin s r l
  | none => (0, [], false)
def mImplPA (s : ByteArray) : Int × List Int × Bool := if (mSplit s).2.2 = true then mTEnd s (mSplit s).1 (mTerms [] (mSplit s).2.1) else (0, [], false)
theorem implPA_ev (s : ByteArray) (hs : s.size ≤ 1048576) : Ev (fun k => impl_ParseAtom.f k s) (mImplPA s) := by
  obtain ⟨sl, sx⟩ := split_len s (.inr trivial)
  unfold impl_ParseAtom.f mImplPA
  refine evb (split_ev s (by omega)) ?_
  by_cases h : (mSplit s).2.2 = true
  · simp only [if_pos h]
    generalize (mSplit s).1 = r at *
    generalize (mSplit s).2.1 = ps at *
    have key := idx_ind ps (fun pre suf => ∀ acc : List Int, acc.length ≤ pre.length → Ev (fun k => impl_ParseAtom.l0 k s (ps.map strOfNums) ((ps.map strOfNums).length : Int) (pre.length : Int) r acc) (mTEnd s r (mTerms acc suf))) ?_ ?_
    · exact key [] (Nat.le_refl _)
    · intro acc ha
      refine Ev.step (fun k => impl_ParseAtom.l0.eq_2 ..) ?_
      have hn : ¬ (ps.length : Int) < ((ps.map strOfNums).length : Int) := by simp
      simp only [if_neg hn]
      exact implAFin_ev s r _ (by omega)
    · intro pre x suf e ih acc ha
      have ea : ps.map strOfNums = pre.map strOfNums ++ strOfNums x :: suf.map strOfNums := by rw [e]; simp
      have hr : rdOf ByteArray.empty (ps.map strOfNums) (pre.length : Int) = strOfNums x := by
        have := getD_of ea ByteArray.empty
        simpa [rdOf] using this
      have hlt : (pre.length : Int) < ((ps.map strOfNums).length : Int) := by rw [e]; simp; omega
      have hpl : pre.length < ps.length := by rw [e]; simp
      have h8 : acc.length < 17592186044416 := by omega
      refine Ev.step (fun k => impl_ParseAtom.l0.eq_2 ..) ?_
      simp only [if_pos hlt, if_pos (len_nonneg _), hr, iw (a := x) (show pre.length ≤ 140737488355328 by omega)]
      refine evb (implTerm_ev _ (by rw [strOfNums_size]; have := sx x (by rw [e]; simp); omega)) ?_
      unfold mTerms
      by_cases q : (mImplTerm (strOfNums x)).2 = true
      · simp only [if_pos q, if_pos h8]
        exact ih _ (by simp; omega)
      · simp only [if_neg q]
        exact evc fun k => rfl
  · simp only [if_neg h]
    exact evc fun k => rfl
def mTrm (x : List Int) : Int := if (mSpecTerm (strOfNums x)).2 = true then (mSpecTerm (strOfNums x)).1 else -1000
def mArgs (s : ByteArray) : List Int := if bytesOf s = [] then [] else (mCut 44 [] (bytesOf s)).map mTrm
theorem mArgs_len (s : ByteArray) : (mArgs s).length ≤ s.size + 1 := by
  unfold mArgs
  by_cases c : bytesOf s = []
  · rw [if_pos c]; simp
  · rw [if_neg c]; have := mCut_len 44 (bytesOf s) []; rw [bytesOf_length] at this; simpa using this
theorem l3Args_ev (s : ByteArray) (hs : s.size ≤ 1048576) : Ev (fun k => spec_l3Args.f k s) (mArgs s) := by
  unfold spec_l3Args.f mArgs
  have es := str_bytes s
  have hn : (s.toList = ([] : List UInt8)) = (bytesOf s = []) := by
    have := str_nil (bytesOf s) True False
    rw [es] at this
    simpa using this
  simp only [Option.bind_some, hn]
  by_cases z : bytesOf s = []
  · simp only [if_pos z]
    exact evc fun k => rfl
  · simp only [if_neg z]
    refine evb (l2Cut_ev s 44 (by omega)) ?_
    have cl := mCut_len 44 (bytesOf s) []
    have cx := mCut_small 44 (bytesOf s) []
    rw [bytesOf_length] at cl cx
    generalize mCut 44 [] (bytesOf s) = ps at *
    have key := idx_ind ps (fun pre suf => Ev (fun k => spec_l3Args.l0 k (pre.map mTrm) (ps.map strOfNums) (pre.length : Int)) (ps.map mTrm)) ?_ ?_
    · exact key
    · refine Ev.step (fun k => spec_l3Args.l0.eq_2 ..) ?_
      have hn : ¬ (ps.length : Int) < ((ps.map strOfNums).length : Int) := by simp
      simp only [if_neg hn]
      exact evc fun k => rfl
    · intro pre x suf e ih
      have ea : ps.map strOfNums = pre.map strOfNums ++ strOfNums x :: suf.map strOfNums := by rw [e]; simp
      have hr : rdOf ByteArray.empty (ps.map strOfNums) (pre.length : Int) = strOfNums x := by
        have := getD_of ea ByteArray.empty
        simpa [rdOf] using this
      have hlt : (pre.length : Int) < ((ps.map strOfNums).length : Int) := by rw [e]; simp; omega
      have hpl : pre.length < ps.length := by rw [e]; simp
      have h9 : (pre.map mTrm).length < 17592186044416 := by simp; omega
      refine Ev.step (fun k => spec_l3Args.l0.eq_2 ..) ?_
      simp only [if_pos hlt, if_pos (len_nonneg _), hr, iw (a := x) (show pre.length ≤ 140737488355328 by omega)]
      refine evb (specTerm_ev _ (by rw [strOfNums_size]; have := cx x (by rw [e]; simp); simp at this; omega)) ?_
      simp only [if_pos h9]
      rw [List.map_append] at ih
      by_cases q : (mSpecTerm (strOfNums x)).2 = true
      · simp only [if_pos q]
        have en : [x].map mTrm = [(mSpecTerm (strOfNums x)).1] := by simp [mTrm, q]
        rw [en] at ih; exact ih
      · simp only [if_neg q]
        have en : [x].map mTrm = [-1000] := by simp [mTrm, q]
        rw [en] at ih; exact ih
def mSpecPA (s : ByteArray) : Int × List Int × Bool :=
  if (s.size : Int) < 4 then (0, [], false) else if (mSpecParse (s.extract 1 2)).2 = true then mAFin s (mSpecParse (s.extract 1 2)).1 (mArgs (s.extract 3 (s.size - 1))) else (0, [], false)
theorem specPA_ev (s : ByteArray) (hs : s.size ≤ 1048576) : Ev (fun k => spec_ParseAtom.f k s) (mSpecPA s) := by
  unfold spec_ParseAtom.f mSpecPA
  by_cases h5 : (s.size : Int) < 4
  · simp only [if_pos h5]; exact evc fun k => rfl
  · have ew : wrap64 ((s.size : Int) - 1) = (s.size : Int) - 1 := w64 (by omega) (by omega)
    have h2 : 2 ≤ (s.size : Int) := by omega
    have h6 : 3 ≤ (s.size : Int) - 1 := by omega
    have h7 : (s.size : Int) - 1 ≤ (s.size : Int) := by omega
    have h8 : (1 : Int) ≤ 2 := by omega
    have et : ((s.size : Int) - 1).toNat = s.size - 1 := by omega
    simp only [if_neg h5, if_pos h8, if_pos h2, ew, if_pos h6, if_pos h7, et]
    refine evb (specParse_ev _ (by rw [ByteArray.size_extract]; omega)) ?_
    have hx : (s.extract 3 (s.size - 1)).size ≤ s.size - 4 := by rw [ByteArray.size_extract]; omega
    refine evb (l3Args_ev _ (by omega)) ?_
    have := mArgs_len (s.extract 3 (s.size - 1))
    by_cases g : (mSpecParse (s.extract 1 2)).2 = true
    · simp only [if_pos g]
      exact specAFin_ev s _ _ (by omega)
    · simp only [if_neg g]
      exact evc fun k => rfl
theorem mFmtTerm_ok {t : Int} : (44 : Int) ∉ mFmtTerm t ∧ ∀ b ∈ mFmtTerm t, 0 ≤ b ∧ b ≤ 255 := by
  unfold mFmtTerm
  by_cases hv : mIsVar t = true
  · rw [if_pos hv]
    have h0 : 0 ≤ t ∧ t ≤ 19 := by simpa [mIsVar] using hv
    rw [mFmt_nonneg h0.1]
    refine ⟨fun h => ?_, fun b hb => ?_⟩
    · rcases List.mem_cons.1 h with h | h
      · omega
      · have := List.all_eq_true.1 (mDg_digits _) 44 h
        simp [mIsDg] at this
    · rcases List.mem_cons.1 hb with h | h
      · omega
      · exact dg_bytes (mDg_digits _) b h
  · rw [if_neg hv]
    by_cases hT : mIsTerm t = true
    · rw [if_pos hT]
      have h0 : -80 ≤ t ∧ t ≤ 19 := by simpa [mIsTerm] using hT
      have h1 : ¬ (0 ≤ t ∧ t ≤ 19) := by simpa [mIsVar] using hv
      rw [mFmt_nonneg (by omega)]
      refine ⟨fun h => ?_, dg_bytes (mDg_digits _)⟩
      have := List.all_eq_true.1 (mDg_digits _) 44 h
      simp [mIsDg] at this
    · rw [if_neg hT]; simp
theorem mTerms_yes : ∀ (l acc : List Int), (∀ t ∈ l, mIsTerm t = true) → mTerms acc (l.map mFmtTerm) = some (acc ++ l)
  | [], acc, _ => by simp [mTerms]
  | t :: l, acc, h => by
    have e := (term_yes (strOfNums (mFmtTerm t)) t (h t (by simp)) rfl).1
    rw [List.map_cons, mTerms, e, if_pos rfl, mTerms_yes l _ (fun x hx => h x (List.mem_cons_of_mem _ hx))]
    simp
theorem terms_join_nil (l : List Int) (h : ∀ t ∈ l, mIsTerm t = true) : mJoin [44] (l.map mFmtTerm) = [] ↔ l = [] := by
  cases l with
  | nil => simp [mJoin]
  | cons t l =>
    have := mFmtTerm_ne (h t (by simp))
    simp [mJoin, this]
theorem fmtAtom_ok {r : Int} {l : List Int} (h : mFmtAtom r l ≠ []) : (0 ≤ r ∧ r ≤ 3) ∧ (l.length : Int) ≤ 3 ∧ l.all mIsTerm = true := by
  unfold mFmtAtom at h
  by_cases c : (0 ≤ r ∧ r ≤ 3) ∧ (l.length : Int) ≤ 3 ∧ l.all mIsTerm = true
  · exact c
  · rw [if_neg c] at h; exact absurd rfl h
theorem pa_yes {s : ByteArray} {r : Int} {l : List Int} (hn : mFmtAtom r l ≠ []) (hs : strOfNums (mFmtAtom r l) = s) : mImplPA s = (r, l, true) ∧ mSpecPA s = (r, l, true) := by
  obtain ⟨⟨hr0, hr1⟩, hl, hv⟩ := fmtAtom_ok hn
  have hfin : mAFin s r l = (r, l, true) := by unfold mAFin; rw [if_pos hs]
  have hv' : ∀ x ∈ l, mIsTerm x = true := by simpa using hv
  have eF : mFmtAtom r l = 114 :: (48 + r) :: 40 :: (mJoin [44] (l.map mFmtTerm) ++ [41]) := by
    unfold mFmtAtom
    rw [if_pos ⟨⟨hr0, hr1⟩, hl, hv⟩, fmt_rel hr0 (by omega)]
    simp
  have hi : ∀ b ∈ mJoin [44] (l.map mFmtTerm), 0 ≤ b ∧ b ≤ 255 := by
    intro b hb
    rcases mJoin_mem hb with h | ⟨y, hy, h⟩
    · simp at h; omega
    · obtain ⟨x, hx, rfl⟩ := List.mem_map.1 hy
      exact mFmtTerm_ok.2 b h
  have hb : bytesOf s = 114 :: (48 + r) :: 40 :: (mJoin [44] (l.map mFmtTerm) ++ [41]) := by
    rw [← hs, eF]
    refine bytes_str fun x hx => ?_
    simp only [List.mem_cons, List.mem_append, List.not_mem_nil, or_false] at hx
    rcases hx with h | h | h | h | h
    · omega
    · omega
    · omega
    · exact hi x h
    · omega
  have h44 : ∀ y ∈ l.map mFmtTerm, (44 : Int) ∉ y := by
    intro y hy
    obtain ⟨x, hx, rfl⟩ := List.mem_map.1 hy
    exact mFmtTerm_ok.1
  have hjn := terms_join_nil l hv'
  obtain ⟨q1, q2, q3, q4, q5, q6⟩ := shape_of hb
  constructor
  · unfold mImplPA
    rw [split_yes hr0 (by omega) hi hb]
    simp only [if_true]
    by_cases z : l = []
    · rw [if_pos (hjn.2 z)]
      subst z
      exact hfin
    · rw [if_neg (fun h => z (hjn.1 h)), mSp_join 44 [] _ (map_ne z) h44, mTerms_yes l [] hv']
      exact hfin
  · unfold mSpecPA
    rw [if_neg (by omega), q5, q6, specParse_yes (strOfNums [48 + r]) r (by omega) (by omega) (by rw [fmt_rel hr0 (by omega)])]
    simp only [if_true]
    have ea : mArgs (strOfNums (mJoin [44] (l.map mFmtTerm))) = l := by
      unfold mArgs
      rw [bytes_str hi]
      by_cases z : l = []
      · rw [if_pos (hjn.2 z), z]
      · rw [if_neg (fun h => z (hjn.1 h)), mCut_join 44 _ (map_ne z) h44, List.map_map]
        conv => rhs; rw [← List.map_id l]
        refine List.map_congr_left fun x hx => ?_
        simp only [Function.comp, id, mTrm]
        rw [(term_yes (strOfNums (mFmtTerm x)) x (hv' x hx) rfl).2]
        rfl
    rw [ea]
    exact hfin
theorem pa_small {s : ByteArray} (h : s.size < 4) : mImplPA s = (0, [], false) ∧ mSpecPA s = (0, [], false) := by
  constructor
  · have e : mSplit s = (0, [], false) := by unfold mSplit; rw [if_neg (fun c => by have := c.1; omega)]
    unfold mImplPA; rw [e]; rfl
  · unfold mSpecPA; rw [if_pos (by omega)]
theorem pa_no {s : ByteArray} (H : ¬ ∃ r l, mFmtAtom r l ≠ [] ∧ strOfNums (mFmtAtom r l) = s) : mImplPA s = (0, [], false) ∧ mSpecPA s = (0, [], false) := by
  by_cases h4 : s.size < 4
  · exact pa_small h4
  have hz : ∀ r l, mAFin s r l = (0, [], false) := fun r l => by
    unfold mAFin
    rw [if_neg]
    intro c
    refine H ⟨r, l, fun e => ?_, c⟩
    rw [e] at c
    rw [← c] at h4
    exact h4 (by decide)
  have hz2 : ∀ r o, mTEnd s r o = (0, [], false) := fun r o => by
    cases o with
    | none => rfl
    | some l => exact hz r l
  constructor
  · unfold mImplPA; simp only [hz2, ite_self]
  · unfold mSpecPA; simp only [hz, ite_self]
theorem pa_same (s : ByteArray) : mImplPA s = mSpecPA s := by
  by_cases H : ∃ r l, mFmtAtom r l ≠ [] ∧ strOfNums (mFmtAtom r l) = s
  · obtain ⟨r, l, hn, hs⟩ := H
    rw [(pa_yes hn hs).1, (pa_yes hn hs).2]
  · rw [(pa_no H).1, (pa_no H).2]
theorem pa_len (s : ByteArray) : (mSpecPA s).2.1.length ≤ 3 := by
  by_cases H : ∃ r l, mFmtAtom r l ≠ [] ∧ strOfNums (mFmtAtom r l) = s
  · obtain ⟨r, l, hn, hs⟩ := H
    rw [(pa_yes hn hs).2]
    have := fmtAtom_ok hn
    simp only []; omega
  · rw [(pa_no H).2]; simp
/-! ### FormatQuery -/
def fA (x : S38) : List Int := mFmtAtom x.f0 x.f1
theorem fA_len (x : S38) : (fA x).length ≤ 1000 := by
  unfold fA mFmtAtom
  by_cases h : (0 ≤ x.f0 ∧ x.f0 ≤ 3) ∧ (x.f1.length : Int) ≤ 3 ∧ x.f1.all mIsTerm = true
  · rw [if_pos h]
    have hr := rel_fmt2 h.1
    have hj := join_terms_len x.f1
    have := h.2.1
    simp; omega
  · rw [if_neg h]; simp
def mHead (h : List Int) : List Int := if h = [] then [121, 101, 115] else mJoin [44] (h.map mFmtTerm)
def mFmtQ (h : List Int) (d : List S38) : List Int :=
  if ∀ x ∈ d, fA x ≠ [] then mHead h ++ [32, 58, 45, 32] ++ mJoin [59, 32] (d.map fA) else []
def mFmtQuery (h : List Int) (d : List S38) : List Int :=
  if (h.length : Int) ≤ 3 ∧ h.all mIsTerm = true ∧ 1 ≤ (d.length : Int) ∧ (d.length : Int) ≤ 8 then mFmtQ h d else []
theorem fq_bad {h : List Int} {d pre suf : List S38} {a : S38} (e : d = pre ++ a :: suf) (ha : fA a = []) : mFmtQ h d = [] := by
  unfold mFmtQ; rw [if_neg]; intro H; exact H a (by rw [e]; simp) ha
theorem snoc_ok {pre : List S38} {a : S38} (hp : ∀ x ∈ pre, fA x ≠ []) (ha : fA a ≠ []) : ∀ x ∈ pre ++ [a], fA x ≠ [] := by
  intro x hx
  rcases List.mem_append.1 hx with h | h
  · exact hp x h
  · rw [List.mem_singleton.1 h]; exact ha
theorem head_len {h : List Int} (hl : h.length ≤ 3) : (mHead h).length ≤ 100 := by
  unfold mHead; by_cases c : h = []
  · rw [if_pos c]; simp
  · rw [if_neg c]; have := join_terms_len h; omega
theorem pre_join (pre : List S38) (h : pre.length ≤ 8) : (mJoin [59, 32] (pre.map fA)).length ≤ 16000 := by
  have hj := mJoin_len [59, 32] 1000 (by simp) (pre.map fA) (fun x hx => by obtain ⟨y, _, rfl⟩ := List.mem_map.1 hx; exact fA_len y)
  simp at hj; omega
def mSoFar (h : List Int) (pre : List S38) : List Int := mHead h ++ (if pre = [] then [] else [32, 58, 45, 32] ++ mJoin [59, 32] (pre.map fA))
theorem sofar_snoc (h : List Int) {pre : List S38} (a : S38) (h0 : pre ≠ []) : mSoFar h (pre ++ [a]) = mSoFar h pre ++ [59, 32] ++ fA a := by
  unfold mSoFar
  rw [if_neg (by simp), if_neg h0, List.map_append, List.map_cons, List.map_nil, mJoin_snoc [59, 32] (fA a) _ (map_ne h0)]
  simp
theorem sofar_len {h : List Int} {pre : List S38} (hl : h.length ≤ 3) (hp : pre.length ≤ 8) : (mSoFar h pre).length ≤ 17000 := by
  have a := head_len hl; have b := pre_join pre hp
  unfold mSoFar
  by_cases c : pre = []
  · rw [if_pos c]; simp; omega
  · rw [if_neg c]; simp; omega
theorem specFQ_l0 (h : List Int) (d : List S38) (hl : h.length ≤ 3) (dl : d.length ≤ 8) (d1 : 1 ≤ d.length) (hs : ∀ x ∈ d, x.f1.length ≤ 1048576) :
    Ev (fun k => spec_FormatQuery.l0 k (strOfNums (mHead h)) 0 h d) (strOfNums (mFmtQ h d)) := by
  have key := idx_ind d (fun pre suf => (∀ x ∈ pre, fA x ≠ []) → Ev (fun k => spec_FormatQuery.l0 k (strOfNums (mSoFar h pre)) (pre.length : Int) h d) (strOfNums (mFmtQ h d))) ?_ ?_
  · have := key (by simp)
    simpa [mSoFar] using this
  · intro hp
    refine evn fun k => ?_
    simp only [spec_FormatQuery.l0]
    rw [if_neg (end_not _)]
    unfold mFmtQ mSoFar
    rw [if_pos hp, if_neg (by intro e; rw [e] at d1; simp at d1), List.append_assoc]
  · intro pre a suf e ih hp
    have hpl : pre.length < 8 := by rw [e] at dl; simp at dl; omega
    have ha := fA_len a
    have hso := sofar_len (pre := pre) hl (by omega)
    refine Ev.step (fun k => spec_FormatQuery.l0.eq_2 ..) ?_
    simp only [if_pos (lt_of e), if_pos (len_nonneg _), rdIA_of e]
    refine evb (specFmtAtom_ev a.f0 a.f1 (hs a (by rw [e]; simp))) ?_
    simp only [str_nil]
    change Ev (fun k => if fA a = [] then _ else _) _
    by_cases hz : fA a = []
    · simp only [if_pos hz]
      rw [fq_bad e hz]; exact evc fun k => rfl
    · simp only [if_neg hz]
      have r := ih (snoc_ok hp hz)
      have e1 : (⟨#[32, 58, 45, 32]⟩ : ByteArray) = strOfNums [32, 58, 45, 32] := rfl
      have e2 : (⟨#[59, 32]⟩ : ByteArray) = strOfNums [59, 32] := rfl
      have ef : strOfNums (mFmtAtom a.f0 a.f1) = strOfNums (fA a) := rfl
      simp only [e1, e2, ef, ← strOfNums_append, strOfNums_size, nx_of e (show d.length ≤ 140737488355328 by omega)]
      by_cases h0 : pre = []
      · subst h0
        have z1 : (mSoFar h []).length + 4 ≤ 9223372036854775807 := by omega
        have z2 : (mSoFar h [] ++ [32, 58, 45, 32]).length + (fA a).length ≤ 9223372036854775807 := by simp; omega
        simp only [List.length_nil, Int.natCast_zero, if_true, if_pos z1, if_pos z2]
        simpa [mSoFar, mJoin, mJoinT] using r
      · have hp0 : ¬ (pre.length : Int) = 0 := by have := List.length_pos_iff.2 h0; omega
        have z1 : (mSoFar h pre).length + 2 ≤ 9223372036854775807 := by omega
        have z2 : (mSoFar h pre ++ [59, 32]).length + (fA a).length ≤ 9223372036854775807 := by simp; omega
        simp only [if_neg hp0, if_pos z1, if_pos z2]
        rw [← sofar_snoc h a h0]
        exact r
theorem specFmtQuery_ev (h : List Int) (d : List S38) (hl : h.length ≤ 1048576) (dl : d.length ≤ 1048576) (hs : ∀ x ∈ d, x.f1.length ≤ 1048576) : Ev (fun k => spec_FormatQuery.f k h d) (strOfNums (mFmtQuery h d)) := by
  unfold spec_FormatQuery.f
  have jt : Ev (fun k => spec_FormatQuery.j0 k true h d) (strOfNums []) := evn fun k => by simp only [spec_FormatQuery.j0]; rw [if_pos trivial]; rfl
  refine evb (l3Terms_ev h (by omega)) ?_
  simp only [l1In_eq, Option.bind_some]
  by_cases c1 : h.all mIsTerm = true ∧ (h.length : Int) ≤ 3
  · rw [show (h.all mIsTerm && decide ((h.length : Int) ≤ 3)) = true by simp [c1.2]; simpa using c1.1]
    simp only [if_true]
    by_cases c2 : 1 ≤ (d.length : Int) ∧ (d.length : Int) ≤ 8
    · simp only [c2, and_self, decide_true, Bool.not_true]
      rw [show mFmtQuery h d = mFmtQ h d by unfold mFmtQuery; rw [if_pos ⟨c1.2, c1.1, c2⟩]]
      refine Ev.step (fun k => spec_FormatQuery.j0.eq_2 ..) ?_
      simp only [Bool.false_eq_true, if_false]
      refine evb (l3List_ev h hl) ?_
      have r := specFQ_l0 h d (by omega) (by omega) (by omega) hs
      have e1 : (⟨#[121, 101, 115]⟩ : ByteArray) = strOfNums [121, 101, 115] := rfl
      by_cases hz : h = []
      · have hz' : (h.length : Int) = 0 := by rw [hz]; rfl
        simp only [if_pos hz', e1]
        refine Ev.step (fun k => spec_FormatQuery.j1.eq_2 ..) ?_
        rw [show mHead h = [121, 101, 115] by unfold mHead; rw [if_pos hz]] at r
        exact r
      · have hz' : ¬ (h.length : Int) = 0 := by have := List.length_pos_iff.2 hz; omega
        simp only [if_neg hz']
        refine Ev.step (fun k => spec_FormatQuery.j1.eq_2 ..) ?_
        rw [show mHead h = mJoin [44] (h.map mFmtTerm) by unfold mHead; rw [if_neg hz]] at r
        exact r
    · rw [show mFmtQuery h d = [] by unfold mFmtQuery; rw [if_neg (fun H => c2 H.2.2)]]
      simp only [c2, decide_false, Bool.not_false]
      exact jt
  · rw [show mFmtQuery h d = [] by unfold mFmtQuery; rw [if_neg (fun H => c1 ⟨H.2.1, H.1⟩)], show (h.all mIsTerm && decide ((h.length : Int) ≤ 3)) = false by
        rw [Bool.and_eq_false_iff]
        by_cases h3 : (h.length : Int) ≤ 3
        · left; exact Bool.eq_false_iff.2 fun H => c1 ⟨H, h3⟩
        · right; simpa using h3]
    simp only [Bool.false_eq_true, if_false]
    exact jt
theorem implFQ_l1 (h : List Int) (d : List S38) (hl : h.length ≤ 3) (dl : d.length ≤ 8) (d1 : 1 ≤ d.length) (hs : ∀ x ∈ d, x.f1.length ≤ 1048576) :
    Ev (fun k => impl_FormatQuery.l1 k ((h.map mFmtTerm).map strOfNums) ([] : List ByteArray) d (d.length : Int) 0) (strOfNums (mFmtQ h d)) := by
  have key := idx_ind d (fun pre suf => (∀ x ∈ pre, fA x ≠ []) → Ev (fun k => impl_FormatQuery.l1 k ((h.map mFmtTerm).map strOfNums) ((pre.map fA).map strOfNums) d (d.length : Int) (pre.length : Int)) (strOfNums (mFmtQ h d))) ?_ ?_
  · exact key (by simp)
  · intro hp
    refine Ev.step (fun k => impl_FormatQuery.l1.eq_2 ..) ?_
    simp only [if_neg (end_not _)]
    have e1 : (⟨#[32, 58, 45, 32]⟩ : ByteArray) = strOfNums [32, 58, 45, 32] := rfl
    have e2 : (⟨#[59, 32]⟩ : ByteArray) = strOfNums [59, 32] := rfl
    have e3 : (⟨#[44]⟩ : ByteArray) = strOfNums [44] := rfl
    have e4 : (⟨#[121, 101, 115]⟩ : ByteArray) = strOfNums [121, 101, 115] := rfl
    have hh := head_len hl
    have hd := pre_join d dl
    simp only [e1, e2, e3, e4]
    refine evb (glued_ev (h.map mFmtTerm) [44] (by simp; omega) (by simp) (fun x hx => by obtain ⟨y, hy, rfl⟩ := List.mem_map.1 hx; have := term_fmt y; omega)) ?_
    have gd := glued_ev (d.map fA) [59, 32] (by simp; omega) (by simp) (fun x hx => by obtain ⟨y, hy, rfl⟩ := List.mem_map.1 hx; have := fA_len y; omega)
    have em : mFmtQ h d = mHead h ++ [32, 58, 45, 32] ++ mJoin [59, 32] (d.map fA) := by unfold mFmtQ; rw [if_pos hp]
    rw [em]
    simp only [List.length_map]
    by_cases hz : h = []
    · have hz' : (h.length : Int) = 0 := by rw [hz]; rfl
      simp only [if_pos hz']
      have z0 : 3 + 4 ≤ 9223372036854775807 := by omega
      simp only [if_pos z0]
      refine evb gd ?_
      have eh : mHead h = [121, 101, 115] := by unfold mHead; rw [if_pos hz]
      rw [eh]
      simp only [← strOfNums_append, strOfNums_size]
      have z1 : ([121, 101, 115] ++ [32, 58, 45, 32] : List Int).length + (mJoin [59, 32] (d.map fA)).length ≤ 9223372036854775807 := by simp; omega
      simp only [if_pos z1]
      exact evc fun k => rfl
    · have hz' : ¬ (h.length : Int) = 0 := by have := List.length_pos_iff.2 hz; omega
      simp only [if_neg hz']
      have eh : mHead h = mJoin [44] (h.map mFmtTerm) := by unfold mHead; rw [if_neg hz]
      rw [eh] at hh ⊢
      simp only [strOfNums_size]
      have z0 : (mJoin [44] (h.map mFmtTerm)).length + 4 ≤ 9223372036854775807 := by omega
      simp only [if_pos z0]
      refine evb gd ?_
      simp only [← strOfNums_append, strOfNums_size]
      have z1 : (mJoin [44] (h.map mFmtTerm) ++ [32, 58, 45, 32] : List Int).length + (mJoin [59, 32] (d.map fA)).length ≤ 9223372036854775807 := by simp; omega
      simp only [if_pos z1]
      exact evc fun k => rfl
  · intro pre a suf e ih hp
    have hpl : pre.length < 8 := by rw [e] at dl; simp at dl; omega
    refine Ev.step (fun k => impl_FormatQuery.l1.eq_2 ..) ?_
    simp only [if_pos (lt_of e), if_pos (len_nonneg _), rdIA_of e]
    refine evb (implFmtAtom_ev a.f0 a.f1 (hs a (by rw [e]; simp))) ?_
    simp only [str_nil]
    change Ev (fun k => if fA a = [] then _ else _) _
    by_cases hz : fA a = []
    · simp only [if_pos hz]
      rw [fq_bad e hz]; exact evc fun k => rfl
    · have hc : ((pre.map fA).map strOfNums).length < 8796093022208 := by simp; omega
      simp only [if_neg hz, if_pos hc, nx_of e (show d.length ≤ 140737488355328 by omega)]
      have r := ih (snoc_ok hp hz)
      simpa [fA] using r
theorem implFmtQuery_ev (h : List Int) (d : List S38) (hl : h.length ≤ 1048576) (dl : d.length ≤ 1048576) (hs : ∀ x ∈ d, x.f1.length ≤ 1048576) : Ev (fun k => impl_FormatQuery.f k h d) (strOfNums (mFmtQuery h d)) := by
  unfold impl_FormatQuery.f
  have jt : Ev (fun k => impl_FormatQuery.j0 k true h d) (strOfNums []) := evn fun k => by simp only [impl_FormatQuery.j0]; rw [if_pos trivial]; rfl
  by_cases c0 : (h.length : Int) > 3
  · simp only [if_pos c0]
    rw [show mFmtQuery h d = [] by unfold mFmtQuery; rw [if_neg (fun H => by have := H.1; omega)]]
    exact jt
  simp only [if_neg c0]
  refine evb (areTerms_ev h (by omega)) ?_
  simp only [within_eq, Option.bind_some]
  by_cases c1 : h.all mIsTerm = true
  · rw [c1]
    simp only [if_true]
    by_cases c2 : 1 ≤ (d.length : Int) ∧ (d.length : Int) ≤ 8
    · simp only [c2, and_self, decide_true, Bool.not_true]
      rw [show mFmtQuery h d = mFmtQ h d by unfold mFmtQuery; rw [if_pos ⟨by omega, c1, c2⟩]]
      refine Ev.step (fun k => impl_FormatQuery.j0.eq_2 ..) ?_
      simp only [Bool.false_eq_true, if_false]
      have key := idx_ind h (fun pre suf => Ev (fun k => impl_FormatQuery.l0 k ((pre.map mFmtTerm).map strOfNums) ([] : List ByteArray) h (h.length : Int) (pre.length : Int) h d) (strOfNums (mFmtQ h d))) ?_ ?_
      · exact key
      · refine Ev.step (fun k => impl_FormatQuery.l0.eq_2 ..) ?_
        simp only [if_neg (end_not _)]
        exact implFQ_l1 h d (by omega) (by omega) (by omega) hs
      · intro pre a suf e ih
        refine Ev.step (fun k => impl_FormatQuery.l0.eq_2 ..) ?_
        simp only [if_pos (lt_of e), if_pos (len_nonneg _), rd_of e]
        refine evb (implFmtTerm_ev a) ?_
        have hc : ((pre.map mFmtTerm).map strOfNums).length < 8796093022208 := by rw [e] at c0; simp at c0 ⊢; omega
        simp only [if_pos hc, nx_of e (show h.length ≤ 140737488355328 by omega)]
        simpa using ih
    · rw [show mFmtQuery h d = [] by unfold mFmtQuery; rw [if_neg (fun H => c2 H.2.2)]]
      simp only [c2, decide_false, Bool.not_false]
      exact jt
  · rw [show mFmtQuery h d = [] by unfold mFmtQuery; rw [if_neg (fun H => c1 H.2.1)], show h.all mIsTerm = false by simpa using c1]
    simp only [Bool.false_eq_true, if_false]
    exact jt
/-! ### IsSchema -/
theorem specSchema_ev (l : List Int) (h : l.length ≤ 140737488355328) : Ev (fun k => spec_IsSchema.f k l) (mIsSchema l) := by
  have key := idx_ind l (fun pre suf => Ev (fun k => spec_IsSchema.l0 k (pre.length : Int) l) (suf.all (fun n => decide (1 ≤ n ∧ n ≤ 3)) && decide (1 ≤ (l.length : Int) ∧ (l.length : Int) ≤ 4))) ?_ ?_
  · exact key
  · refine evn fun k => ?_
    simp only [spec_IsSchema.l0]
    rw [if_neg (end_not _), l1In_eq]
    simp
  · intro pre a suf e ih
    by_cases hp : 1 ≤ a ∧ a ≤ 3
    · have ht : ((a :: suf).all (fun n => decide (1 ≤ n ∧ n ≤ 3)) && decide (1 ≤ (l.length : Int) ∧ (l.length : Int) ≤ 4)) = (suf.all (fun n => decide (1 ≤ n ∧ n ≤ 3)) && decide (1 ≤ (l.length : Int) ∧ (l.length : Int) ≤ 4)) := by simp [hp]
      rw [ht]
      refine Ev.step (fun k => ?_) ih
      simp only [spec_IsSchema.l0]
      rw [if_pos (lt_of e), if_pos (len_nonneg _), rd_of e, l1In_eq, nx_of e h]
      simp [hp]
    · have ht : ((a :: suf).all (fun n => decide (1 ≤ n ∧ n ≤ 3)) && decide (1 ≤ (l.length : Int) ∧ (l.length : Int) ≤ 4)) = false := by simp [hp]
      rw [ht]
      refine evn fun k => ?_
      simp only [spec_IsSchema.l0]
      rw [if_pos (lt_of e), if_pos (len_nonneg _), rd_of e, l1In_eq]
      simp [hp]
theorem implSchema_ev (l : List Int) (h : l.length ≤ 140737488355328) : Ev (fun k => impl_IsSchema.f k l) (mIsSchema l) := by
  have key := idx_ind l (fun pre suf => Ev (fun k => impl_IsSchema.l0 k l (l.length : Int) (pre.length : Int) l) (suf.all (fun n => decide (1 ≤ n ∧ n ≤ 3)) && decide (1 ≤ (l.length : Int) ∧ (l.length : Int) ≤ 4))) ?_ ?_
  · exact key
  · refine evn fun k => ?_
    simp only [impl_IsSchema.l0]
    rw [if_neg (end_not _), within_eq]
    simp
  · intro pre a suf e ih
    by_cases hp : 1 ≤ a ∧ a ≤ 3
    · have ht : ((a :: suf).all (fun n => decide (1 ≤ n ∧ n ≤ 3)) && decide (1 ≤ (l.length : Int) ∧ (l.length : Int) ≤ 4)) = (suf.all (fun n => decide (1 ≤ n ∧ n ≤ 3)) && decide (1 ≤ (l.length : Int) ∧ (l.length : Int) ≤ 4)) := by simp [hp]
      rw [ht]
      refine Ev.step (fun k => ?_) ih
      simp only [impl_IsSchema.l0]
      rw [if_pos (lt_of e), if_pos (len_nonneg _), if_pos (lt_of e), rd_of e, within_eq, nx_of e h]
      simp [hp]
    · have ht : ((a :: suf).all (fun n => decide (1 ≤ n ∧ n ≤ 3)) && decide (1 ≤ (l.length : Int) ∧ (l.length : Int) ≤ 4)) = false := by simp [hp]
      rw [ht]
      refine evn fun k => ?_
      simp only [impl_IsSchema.l0]
      rw [if_pos (lt_of e), if_pos (len_nonneg _), if_pos (lt_of e), rd_of e, within_eq]
      simp [hp]
theorem implTakes_ev (s : List Int) (r n : Int) (hs : s.length ≤ 140737488355328) : Ev (fun k => impl_Schema_takes.f k s r n) (mTakes s r n) := by
  unfold impl_Schema_takes.f mTakes
  refine evb (implSchema_ev s hs) ?_
  by_cases c1 : mIsSchema s = true
  · simp only [c1, if_true, within_eq, Option.bind_some]
    rw [w64 (by omega) (by omega)]
    by_cases c2 : 0 ≤ r ∧ r < (s.length : Int)
    · have c2' : 0 ≤ r ∧ r ≤ (s.length : Int) - 1 := by omega
      rw [show decide (0 ≤ r ∧ r < (s.length : Int)) = true from decide_eq_true c2]
      simp only [c2', and_self, decide_true, if_true, if_pos c2.1, if_pos c2.2]
      refine evc fun k => ?_
      simp only [Bool.true_and]
      rfl
    · have c2' : ¬ (0 ≤ r ∧ r ≤ (s.length : Int) - 1) := by omega
      simp only [c2', decide_false, Bool.false_eq_true, if_false]
      refine evc fun k => ?_
      rw [show decide (0 ≤ r ∧ r < (s.length : Int)) = false from decide_eq_false c2]
      simp
  · simp only [if_neg c1]
    refine evc fun k => ?_
    rw [show mIsSchema s = false by simpa using c1]
    simp
theorem implIsAtom_ev (s : List Int) (r : Int) (l : List Int) (hs : s.length ≤ 140737488355328) (h : l.length ≤ 140737488355328) : Ev (fun k => impl_IsAtom.f k s r l) (mIsAtom s r l) := by
  unfold impl_IsAtom.f mIsAtom
  refine evb (implTakes_ev s r _ hs) ?_
  by_cases c : mTakes s r (l.length : Int) = true
  · simp only [c, if_true, Bool.true_and]
    refine evb (areTerms_ev l h) ?_
    exact evc fun k => rfl
  · simp only [if_neg c]
    refine evc fun k => ?_
    rw [show mTakes s r (l.length : Int) = false by simpa using c]
    simp
theorem specIsAtom_ev (s : List Int) (r : Int) (l : List Int) (hs : s.length ≤ 140737488355328) (h : l.length ≤ 140737488355328) : Ev (fun k => spec_IsAtom.f k s r l) (mIsAtom s r l) := by
  unfold spec_IsAtom.f mIsAtom mTakes
  refine evb (specSchema_ev s hs) ?_
  by_cases c1 : mIsSchema s = true
  · simp only [c1, if_true, l1In_eq, Option.bind_some]
    rw [w64 (by omega) (by omega)]
    by_cases c2 : 0 ≤ r ∧ r < (s.length : Int)
    · have c2' : 0 ≤ r ∧ r ≤ (s.length : Int) - 1 := by omega
      rw [show decide (0 ≤ r ∧ r < (s.length : Int)) = true from decide_eq_true c2]
      simp only [c2', and_self, decide_true, if_true, if_pos c2.1, if_pos c2.2]
      by_cases c3 : (l.length : Int) = rd s r
      · simp only [if_pos c3]
        refine evb (l3Terms_ev l h) ?_
        refine evc fun k => ?_
        have hb := mIsSchema_rd c1 c2.1 c2.2
        rw [show decide ((l.length : Int) ≤ 3) = true from decide_eq_true (by omega), show decide (rd s r = (l.length : Int)) = true from decide_eq_true c3.symm]
        simp
      · simp only [if_neg c3]
        refine evc fun k => ?_
        rw [show decide (rd s r = (l.length : Int)) = false from decide_eq_false (fun h => c3 h.symm)]
        simp
    · have c2' : ¬ (0 ≤ r ∧ r ≤ (s.length : Int) - 1) := by omega
      simp only [c2', decide_false, Bool.false_eq_true, if_false]
      refine evc fun k => ?_
      rw [show decide (0 ≤ r ∧ r < (s.length : Int)) = false from decide_eq_false c2]
      simp
  · simp only [if_neg c1]
    refine evc fun k => ?_
    rw [show mIsSchema s = false by simpa using c1]
    simp
theorem l2Has_ev (l : List Int) (t : Int) (h : l.length ≤ 140737488355328) : Ev (fun k => spec_l2Has.f k l t) (decide (t ∈ l)) := by
  refine idx_ind l (fun pre suf => Ev (fun k => spec_l2Has.l0 k l t (pre.length : Int)) (decide (t ∈ suf))) ?_ ?_
  · refine evn fun k => ?_
    simp only [spec_l2Has.l0]
    rw [if_neg (end_not _)]; simp
  · intro pre a suf e ih
    by_cases hc : a = t
    · rw [show decide (t ∈ a :: suf) = true by simp [hc]]
      refine evn fun k => ?_
      simp only [spec_l2Has.l0]
      rw [if_pos (lt_of e), if_pos (len_nonneg _), rd_of e, if_pos hc]
    · rw [show decide (t ∈ a :: suf) = decide (t ∈ suf) by simp [Ne.symm hc]]
      refine Ev.step (fun k => ?_) ih
      simp only [spec_l2Has.l0]
      rw [if_pos (lt_of e), if_pos (len_nonneg _), rd_of e, if_neg hc, nx_of e h]
/-! ### The variables of a body -/
def mBV (acc : List Int) (args : List Int) : List Int := args.foldl (fun acc t => if t ≥ 0 ∧ ¬ t ∈ acc then acc ++ [t] else acc) acc
theorem mBV_cons (acc : List Int) (t : Int) (r : List Int) : mBV acc (t :: r) = mBV (if t ≥ 0 ∧ ¬ t ∈ acc then acc ++ [t] else acc) r := rfl
theorem mBV_len : ∀ (args acc : List Int), (mBV acc args).length ≤ acc.length + args.length
  | [], acc => by simp [mBV]
  | t :: r, acc => by
    rw [mBV_cons]
    have h := mBV_len r (if t ≥ 0 ∧ ¬ t ∈ acc then acc ++ [t] else acc)
    by_cases hc : t ≥ 0 ∧ ¬ t ∈ acc
    · rw [if_pos hc] at h ⊢; simp at h ⊢; omega
    · rw [if_neg hc] at h ⊢; simp at h ⊢; omega
theorem mBV_mem : ∀ (args acc : List Int) (x : Int), x ∈ mBV acc args ↔ x ∈ acc ∨ (x ≥ 0 ∧ x ∈ args)
  | [], acc, x => by simp [mBV]
  | t :: r, acc, x => by
    rw [mBV_cons, mBV_mem r]
    by_cases hc : t ≥ 0 ∧ ¬ t ∈ acc
    · rw [if_pos hc]
      simp only [List.mem_append, List.mem_cons, List.not_mem_nil, or_false]
      constructor
      · rintro ((h | h) | h)
        · exact .inl h
        · exact .inr ⟨h ▸ hc.1, .inl h⟩
        · exact .inr ⟨h.1, .inr h.2⟩
      · rintro (h | ⟨h1, h | h⟩)
        · exact .inl (.inl h)
        · exact .inl (.inr h)
        · exact .inr ⟨h1, h⟩
    · rw [if_neg hc]
      simp only [List.mem_cons]
      constructor
      · rintro (h | h)
        · exact .inl h
        · exact .inr ⟨h.1, .inr h.2⟩
      · rintro (h | ⟨h1, h | h⟩)
        · exact .inl h
        · subst h
          rcases Decidable.em (x ∈ acc) with hm | hm
          · exact .inl hm
          · exact absurd ⟨h1, hm⟩ hc
        · exact .inr ⟨h1, h⟩
def mVars (d : List S38) (acc : List Int) : List Int := d.foldl (fun acc a => mBV acc a.f1) acc
theorem mVars_mem : ∀ (d : List S38) (acc : List Int) (x : Int), x ∈ mVars d acc ↔ x ∈ acc ∨ (x ≥ 0 ∧ ∃ a ∈ d, x ∈ a.f1)
  | [], acc, x => by simp [mVars]
  | a :: t, acc, x => by
    rw [show mVars (a :: t) acc = mVars t (mBV acc a.f1) from rfl, mVars_mem t, mBV_mem]
    simp only [List.mem_cons, exists_eq_or_imp]
    constructor
    · rintro ((h | h) | h)
      · exact .inl h
      · exact .inr ⟨h.1, .inl h.2⟩
      · exact .inr ⟨h.1, .inr h.2⟩
    · rintro (h | ⟨h1, h | h⟩)
      · exact .inl (.inl h)
      · exact .inl (.inr ⟨h1, h⟩)
      · exact .inr ⟨h1, h⟩
theorem mVars_len : ∀ (d : List S38) (acc : List Int), (∀ x ∈ d, x.f1.length ≤ 1048576) → (mVars d acc).length ≤ acc.length + d.length * 1048576
  | [], acc, _ => by simp [mVars]
  | a :: t, acc, h => by
    rw [show mVars (a :: t) acc = mVars t (mBV acc a.f1) from rfl]
    have h1 := mVars_len t (mBV acc a.f1) (fun x hx => h x (List.mem_cons_of_mem _ hx))
    have h2 := mBV_len a.f1 acc
    have h3 := h a List.mem_cons_self
    simp only [List.length_cons, Nat.add_mul]
    omega
theorem bodyVars_l1 (hh : List Int) (d : List S38) (i : Int) (x : S38) (R : List Int) (h0 : 0 ≤ i) (h1 : i < (d.length : Int)) (hx : rd_T38 d i = x) (hxl : x.f1.length ≤ 1048576) (hi : i ≤ 1048576) :
    ∀ (acc : List Int), acc.length ≤ 1099511627776 → (Ev (fun k => spec_l4BodyVars.l0 k (mBV acc x.f1) (i + 1) hh d) R) → Ev (fun k => spec_l4BodyVars.l1 k acc i 0 hh d) R := by
  intro acc hacc hend
  have key := idx_ind x.f1 (fun pre suf => ∀ a2 : List Int, a2.length + suf.length ≤ 1099512676352 → mBV a2 suf = mBV acc x.f1 → Ev (fun k => spec_l4BodyVars.l1 k a2 i (pre.length : Int) hh d) R) ?_ ?_
  · exact key acc (by omega) rfl
  · intro a2 h2 e2
    have e3 : a2 = mBV acc x.f1 := e2
    rw [e3]
    refine Ev.step (fun k => ?_) hend
    simp only [spec_l4BodyVars.l1]
    rw [if_pos h0, if_pos h1, hx, if_neg (end_not _), w64 (by omega) (by omega)]
  · intro pre t suf e ih a2 h2 e2
    have hp := lt_of e
    rw [mBV_cons] at e2
    have hl2 : a2.length < 17592186044416 := by simp at h2; omega
    by_cases ht : t ≥ 0
    · refine Ev.step (f := fun k => (spec_l2Has.f k a2 t).bind fun b => if b = true then spec_l4BodyVars.l1 k a2 i ((pre ++ [t]).length : Int) hh d else (if a2.length < 17592186044416 then spec_l4BodyVars.l1 k (a2 ++ [t]) i ((pre ++ [t]).length : Int) hh d else none)) (fun k => ?_) ?_
      · simp only [spec_l4BodyVars.l1]
        rw [if_pos h0, if_pos h1, hx, if_pos hp, if_pos (len_nonneg _), rd_of e, if_pos ht, nx_of e (by omega)]
      · refine evb (l2Has_ev a2 t (by omega)) ?_
        by_cases hm : t ∈ a2
        · simp only [hm, decide_true, if_true]
          rw [if_neg (fun h => h.2 hm)] at e2
          exact ih a2 (by simp at h2; omega) e2
        · simp only [hm, decide_false, Bool.false_eq_true, if_false, if_pos hl2]
          rw [if_pos ⟨ht, hm⟩] at e2
          exact ih (a2 ++ [t]) (by simp at h2 ⊢; omega) e2
    · rw [if_neg (fun h => ht h.1)] at e2
      refine Ev.step (fun k => ?_) (ih a2 (by simp at h2; omega) e2)
      simp only [spec_l4BodyVars.l1]
      rw [if_pos h0, if_pos h1, hx, if_pos hp, if_pos (len_nonneg _), rd_of e, if_neg ht, nx_of e (by omega)]
theorem bodyVars_ev (hh : List Int) (d : List S38) (hl : d.length ≤ 1048576) (hs : ∀ x ∈ d, x.f1.length ≤ 1048576) : Ev (fun k => spec_l4BodyVars.f k hh d) (mVars d []) := by
  have key := idx_ind d (fun pre suf => ∀ acc : List Int, acc.length ≤ pre.length * 1048576 → mVars suf acc = mVars d [] → Ev (fun k => spec_l4BodyVars.l0 k acc (pre.length : Int) hh d) (mVars d [])) ?_ ?_
  · exact key [] (by simp) rfl
  · intro acc ha e
    have e2 : acc = mVars d [] := e
    rw [← e2]
    refine evn fun k => ?_
    simp only [spec_l4BodyVars.l0]
    rw [if_neg (end_not _)]
  · intro pre x suf e ih acc ha e2
    have hx : x.f1.length ≤ 1048576 := hs x (by rw [e]; simp)
    have hp : pre.length < 1048576 := by rw [e] at hl; simp at hl; omega
    have hb := mBV_len x.f1 acc
    have r := ih (mBV acc x.f1) (by simp only [List.length_append, List.length_singleton, Nat.add_mul]; omega) e2
    have ei : ((pre ++ [x]).length : Int) = (pre.length : Int) + 1 := by simp
    rw [ei] at r
    refine Ev.step (fun k => ?_) (bodyVars_l1 hh d (pre.length : Int) x (mVars d []) (len_nonneg _) (lt_of e) (rdIA_of e) hx (by omega) acc (by omega) r)
    simp only [spec_l4BodyVars.l0]
    rw [if_pos (lt_of e)]
theorem slContains_ev (l : List Int) (t : Int) (h : l.length ≤ 140737488355328) : Ev (fun k => slices_Contains_int_int.f k l t) (decide (t ∈ l)) := by
  have key : ∃ j : Int, Ev (fun k => slices_Index_int_int.f k l t) j ∧ (j ≥ 0 ↔ t ∈ l) := by
    refine idx_ind l (fun pre suf => ∃ j : Int, Ev (fun k => slices_Index_int_int.l0 k l t (l.length : Int) (pre.length : Int)) j ∧ (j ≥ 0 ↔ t ∈ suf)) ?_ ?_
    · refine ⟨-1, evn fun k => ?_, by simp⟩
      simp only [slices_Index_int_int.l0]
      rw [if_neg (end_not _)]
    · intro pre a suf e ih
      by_cases hc : t = a
      · refine ⟨(pre.length : Int), evn fun k => ?_, by simp [hc]⟩
        simp only [slices_Index_int_int.l0]
        rw [if_pos (lt_of e), if_pos (len_nonneg _), if_pos (lt_of e), rd_of e, if_pos hc]
      · obtain ⟨j, z, hj⟩ := ih
        refine ⟨j, Ev.step (fun k => ?_) z, by rw [hj]; simp [hc]⟩
        simp only [slices_Index_int_int.l0]
        rw [if_pos (lt_of e), if_pos (len_nonneg _), if_pos (lt_of e), rd_of e, if_neg hc, nx_of e h]
  obtain ⟨j, z, hj⟩ := key
  unfold slices_Contains_int_int.f
  refine evb z ?_
  refine evc fun k => ?_
  by_cases hm : t ∈ l
  · rw [decide_eq_true hm, decide_eq_true (hj.2 hm)]
  · rw [decide_eq_false hm, decide_eq_false (fun h => hm (hj.1 h))]
/-- A term is an argument of an atom of the body. -/
def mOcc (d : List S38) (t : Int) : Bool := d.any (fun a => decide (t ∈ a.f1))
theorem occurs_ev (hh : List Int) (d : List S38) (t : Int) (hl : d.length ≤ 1048576) (hs : ∀ x ∈ d, x.f1.length ≤ 1048576) : Ev (fun k => impl_Query_occurs.f k hh d t) (mOcc d t) := by
  refine idx_ind d (fun pre suf => Ev (fun k => impl_Query_occurs.l0 k t d (d.length : Int) (pre.length : Int)) (mOcc suf t)) ?_ ?_
  · refine evn fun k => ?_
    simp only [impl_Query_occurs.l0]
    rw [if_neg (end_not _)]; rfl
  · intro pre x suf e ih
    have hx : x.f1.length ≤ 1048576 := hs x (by rw [e]; simp)
    refine Ev.step (f := fun k => (slices_Contains_int_int.f k x.f1 t).bind fun b => if b = true then some true else impl_Query_occurs.l0 k t d (d.length : Int) ((pre ++ [x]).length : Int)) (fun k => ?_) ?_
    · simp only [impl_Query_occurs.l0]
      rw [if_pos (lt_of e), if_pos (len_nonneg _), if_pos (lt_of e), rdIA_of e, nx_of e (by omega)]
    · refine evb (slContains_ev x.f1 t (by omega)) ?_
      by_cases hm : t ∈ x.f1
      · simp only [hm, decide_true, if_true]
        rw [show mOcc (x :: suf) t = true by simp [mOcc, hm]]
        exact evc fun k => rfl
      · simp only [hm, decide_false, Bool.false_eq_true, if_false]
        rw [show mOcc (x :: suf) t = mOcc suf t by simp [mOcc, hm]]
        exact ih
theorem mVars_occ (d : List S38) (t : Int) (h : 0 ≤ t) : decide (t ∈ mVars d []) = mOcc d t := by
  rw [Bool.eq_iff_iff]
  simp only [decide_eq_true_eq, mVars_mem, mOcc, List.any_eq_true]
  simp [h]
/-! ### IsQuery -/
def mSafe (h : List Int) (d : List S38) : Bool := h.all (fun t => !mIsVar t || mOcc d t)
def mIsQuery (s h : List Int) (d : List S38) : Bool :=
  mIsSchema s && (decide ((h.length : Int) ≤ 3) && h.all mIsTerm) && decide (1 ≤ (d.length : Int) ∧ (d.length : Int) ≤ 4) && d.all (fun a => mIsAtom s a.f0 a.f1) && mSafe h d
theorem implIsVar_eq2 (t : Int) : impl_IsVar.f t = some (mIsVar t) := by
  simp [impl_IsVar.f, within_eq, mIsVar]
theorem isSafe_ev (h : List Int) (d : List S38) (hh : h.length ≤ 1048576) (hl : d.length ≤ 1048576) (hs : ∀ x ∈ d, x.f1.length ≤ 1048576) : Ev (fun k => impl_Query_isSafe.f k h d) (mSafe h d) := by
  refine idx_ind h (fun pre suf => Ev (fun k => impl_Query_isSafe.l0 k h (h.length : Int) (pre.length : Int) h d) (suf.all (fun t => !mIsVar t || mOcc d t))) ?_ ?_
  · refine evn fun k => ?_
    simp only [impl_Query_isSafe.l0]
    rw [if_neg (end_not _)]; rfl
  · intro pre t suf e ih
    by_cases hv : mIsVar t = true
    · refine Ev.step (f := fun k => (impl_Query_occurs.f k h d t).bind fun b => if b = true then impl_Query_isSafe.l0 k h (h.length : Int) ((pre ++ [t]).length : Int) h d else some false) (fun k => ?_) ?_
      · simp only [impl_Query_isSafe.l0]
        rw [if_pos (lt_of e), if_pos (len_nonneg _), if_pos (lt_of e), rd_of e, nx_of e (by omega), implIsVar_eq2]
        simp only [Option.bind_some]
        rw [if_pos hv]
      · refine evb (occurs_ev h d t hl hs) ?_
        by_cases ho : mOcc d t = true
        · simp only [ho, if_true]
          rw [show (t :: suf).all (fun t => !mIsVar t || mOcc d t) = suf.all (fun t => !mIsVar t || mOcc d t) by simp [ho]]
          exact ih
        · simp only [if_neg ho]
          rw [show (t :: suf).all (fun t => !mIsVar t || mOcc d t) = false by simp [hv, ho]]
          exact evc fun k => rfl
    · rw [show (t :: suf).all (fun t => !mIsVar t || mOcc d t) = suf.all (fun t => !mIsVar t || mOcc d t) by simp [hv]]
      refine Ev.step (fun k => ?_) ih
      simp only [impl_Query_isSafe.l0]
      rw [if_pos (lt_of e), if_pos (len_nonneg _), if_pos (lt_of e), rd_of e, nx_of e (by omega), implIsVar_eq2]
      simp only [Option.bind_some]
      rw [if_neg hv]
theorem implIsQuery_ev (s h : List Int) (d : List S38) (hsl : s.length ≤ 1048576) (hh : h.length ≤ 1048576) (hl : d.length ≤ 1048576) (hs : ∀ x ∈ d, x.f1.length ≤ 1048576) : Ev (fun k => impl_IsQuery.f k s h d) (mIsQuery s h d) := by
  unfold impl_IsQuery.f mIsQuery
  have jt : Ev (fun k => impl_IsQuery.j0 k true s h d) false := evn fun k => by simp only [impl_IsQuery.j0]; rw [if_pos trivial]
  refine evb (implSchema_ev s (by omega)) ?_
  by_cases c1 : mIsSchema s = true
  · simp only [c1, if_true, Bool.true_and]
    by_cases c2 : (h.length : Int) > 3
    · simp only [if_pos c2]
      rw [show decide ((h.length : Int) ≤ 3) = false from decide_eq_false (by omega)]
      simpa using jt
    · simp only [if_neg c2]
      rw [show decide ((h.length : Int) ≤ 3) = true from decide_eq_true (by omega)]
      refine evb (areTerms_ev h (by omega)) ?_
      by_cases c3 : h.all mIsTerm = true
      · simp only [c3, if_true, Bool.true_and, within_eq, Option.bind_some]
        by_cases c4 : 1 ≤ (d.length : Int) ∧ (d.length : Int) ≤ 4
        · rw [show decide (1 ≤ (d.length : Int) ∧ (d.length : Int) ≤ 4) = true from decide_eq_true c4]
          simp only [Bool.not_true, Bool.true_and]
          refine Ev.step (f := fun k => impl_IsQuery.l0 k d (d.length : Int) 0 s h d) (fun k => ?_) ?_
          · simp only [impl_IsQuery.j0]
            rw [if_neg (by simp)]
          · refine idx_ind d (fun pre suf => Ev (fun k => impl_IsQuery.l0 k d (d.length : Int) (pre.length : Int) s h d) (suf.all (fun a => mIsAtom s a.f0 a.f1) && mSafe h d)) ?_ ?_
            · refine Ev.step (f := fun k => (impl_Query_isSafe.f k h d).bind fun b => some b) (fun k => ?_) ?_
              · simp only [impl_IsQuery.l0]
                rw [if_neg (end_not _)]
              · exact evb (isSafe_ev h d hh hl hs) (evc fun k => rfl)
            · intro pre x suf e ih
              have hx : x.f1.length ≤ 1048576 := hs x (by rw [e]; simp)
              refine Ev.step (f := fun k => (impl_IsAtom.f k s x.f0 x.f1).bind fun b => if b = true then impl_IsQuery.l0 k d (d.length : Int) ((pre ++ [x]).length : Int) s h d else some false) (fun k => ?_) ?_
              · simp only [impl_IsQuery.l0]
                rw [if_pos (lt_of e), if_pos (len_nonneg _), if_pos (lt_of e), rdIA_of e, nx_of e (by omega)]
              · refine evb (implIsAtom_ev s x.f0 x.f1 (by omega) (by omega)) ?_
                by_cases ha : mIsAtom s x.f0 x.f1 = true
                · simp only [ha, if_true]
                  rw [show ((x :: suf).all (fun a => mIsAtom s a.f0 a.f1)) = suf.all (fun a => mIsAtom s a.f0 a.f1) by simp [ha]]
                  exact ih
                · simp only [if_neg ha]
                  rw [show ((x :: suf).all (fun a => mIsAtom s a.f0 a.f1)) = false by simp [ha]]
                  exact evc fun k => rfl
        · rw [show decide (1 ≤ (d.length : Int) ∧ (d.length : Int) ≤ 4) = false from decide_eq_false c4]
          simpa using jt
      · simp only [if_neg c3]
        rw [show h.all mIsTerm = false by simpa using c3]
        simpa using jt
  · simp only [if_neg c1]
    rw [show mIsSchema s = false by simpa using c1]
    simpa using jt
theorem fine_l1 (h : List Int) (d : List S38) (hh : h.length ≤ 1048576) (hl : d.length ≤ 1048576) (hs : ∀ x ∈ d, x.f1.length ≤ 1048576) : Ev (fun k => spec_l4Fine.l1 k 0 h d) (mSafe h d) := by
  refine idx_ind h (fun pre suf => Ev (fun k => spec_l4Fine.l1 k (pre.length : Int) h d) (suf.all (fun t => !mIsVar t || mOcc d t))) ?_ ?_
  · refine evn fun k => ?_
    simp only [spec_l4Fine.l1]
    rw [if_neg (end_not _)]; rfl
  · intro pre t suf e ih
    by_cases hv : mIsVar t = true
    · have ht : 0 ≤ t := by simp [mIsVar] at hv; omega
      refine Ev.step (f := fun k => (spec_l4BodyVars.f k h d).bind fun v => (spec_l2Has.f k v t).bind fun b => if b = true then spec_l4Fine.l1 k ((pre ++ [t]).length : Int) h d else some false) (fun k => ?_) ?_
      · simp only [spec_l4Fine.l1]
        rw [if_pos (lt_of e), if_pos (len_nonneg _), rd_of e, nx_of e (by omega), specIsVar_eq]
        simp only [Option.bind_some]
        rw [if_pos hv]
      · refine evb (bodyVars_ev h d hl hs) ?_
        have hvl := mVars_len d [] hs
        refine evb (l2Has_ev (mVars d []) t (by simp at hvl; omega)) ?_
        rw [mVars_occ d t ht]
        by_cases ho : mOcc d t = true
        · simp only [ho, if_true]
          rw [show (t :: suf).all (fun t => !mIsVar t || mOcc d t) = suf.all (fun t => !mIsVar t || mOcc d t) by simp [ho]]
          exact ih
        · simp only [if_neg ho]
          rw [show (t :: suf).all (fun t => !mIsVar t || mOcc d t) = false by simp [hv, ho]]
          exact evc fun k => rfl
    · rw [show (t :: suf).all (fun t => !mIsVar t || mOcc d t) = suf.all (fun t => !mIsVar t || mOcc d t) by simp [hv]]
      refine Ev.step (fun k => ?_) ih
      simp only [spec_l4Fine.l1]
      rw [if_pos (lt_of e), if_pos (len_nonneg _), rd_of e, nx_of e (by omega), specIsVar_eq]
      simp only [Option.bind_some]
      rw [if_neg hv]
theorem specIsQuery_ev (s h : List Int) (d : List S38) (hsl : s.length ≤ 1048576) (hh : h.length ≤ 1048576) (hl : d.length ≤ 1048576) (hs : ∀ x ∈ d, x.f1.length ≤ 1048576) : Ev (fun k => spec_IsQuery.f k s h d) (mIsQuery s h d) := by
  unfold spec_IsQuery.f
  refine evb (f := fun _ t => some t) ?_ (evc fun k => rfl)
  unfold spec_l4Fine.f mIsQuery
  have jt : Ev (fun k => spec_l4Fine.j0 k true s h d) false := evn fun k => by simp only [spec_l4Fine.j0]; rw [if_pos trivial]
  refine evb (specSchema_ev s (by omega)) ?_
  by_cases c1 : mIsSchema s = true
  · simp only [c1, if_true, Bool.true_and]
    refine evb (l3Terms_ev h (by omega)) ?_
    by_cases c3 : (h.all mIsTerm && decide ((h.length : Int) ≤ 3)) = true
    · rw [show (decide ((h.length : Int) ≤ 3) && h.all mIsTerm) = true by rw [Bool.and_comm]; exact c3]
      simp only [c3, if_true, Bool.true_and, l1In_eq, Option.bind_some]
      by_cases c4 : 1 ≤ (d.length : Int) ∧ (d.length : Int) ≤ 4
      · rw [show decide (1 ≤ (d.length : Int) ∧ (d.length : Int) ≤ 4) = true from decide_eq_true c4]
        simp only [Bool.not_true, Bool.true_and]
        refine Ev.step (f := fun k => spec_l4Fine.l0 k 0 s h d) (fun k => ?_) ?_
        · simp only [spec_l4Fine.j0]
          rw [if_neg (by simp)]
        · refine idx_ind d (fun pre suf => Ev (fun k => spec_l4Fine.l0 k (pre.length : Int) s h d) (suf.all (fun a => mIsAtom s a.f0 a.f1) && mSafe h d)) ?_ ?_
          · refine Ev.step (fun k => ?_) (fine_l1 h d hh hl hs)
            simp only [spec_l4Fine.l0]
            rw [if_neg (end_not _)]
          · intro pre x suf e ih
            have hx : x.f1.length ≤ 1048576 := hs x (by rw [e]; simp)
            refine Ev.step (f := fun k => (spec_IsAtom.f k s x.f0 x.f1).bind fun b => if b = true then spec_l4Fine.l0 k ((pre ++ [x]).length : Int) s h d else some false) (fun k => ?_) ?_
            · simp only [spec_l4Fine.l0]
              rw [if_pos (lt_of e), if_pos (len_nonneg _), rdIA_of e, nx_of e (by omega)]
            · refine evb (specIsAtom_ev s x.f0 x.f1 (by omega) (by omega)) ?_
              by_cases ha : mIsAtom s x.f0 x.f1 = true
              · simp only [ha, if_true]
                rw [show ((x :: suf).all (fun a => mIsAtom s a.f0 a.f1)) = suf.all (fun a => mIsAtom s a.f0 a.f1) by simp [ha]]
                exact ih
              · simp only [if_neg ha]
                rw [show ((x :: suf).all (fun a => mIsAtom s a.f0 a.f1)) = false by simp [ha]]
                exact evc fun k => rfl
      · rw [show decide (1 ≤ (d.length : Int) ∧ (d.length : Int) ≤ 4) = false from decide_eq_false c4]
        simpa using jt
    · rw [show (decide ((h.length : Int) ≤ 3) && h.all mIsTerm) = false by rw [Bool.and_comm]; simpa using c3]
      simp only [if_neg c3]
      simpa using jt
  · simp only [if_neg c1]
    rw [show mIsSchema s = false by simpa using c1]
    simpa using jt
/-! ### ParseQuery: both answer (q, true) just where the text is the format of a valid query q -/
def mQFin (s : List Int) (t : ByteArray) (h : List Int) (d : List S38) : List Int × List S38 × Bool := if mIsQuery s h d = true ∧ strOfNums (mFmtQuery h d) = t then (h, d, true) else ([], [], false)
theorem implQFin_ev (s : List Int) (t : ByteArray) (h : List Int) (d : List S38) (hs : s.length ≤ 1048576) (hh : h.length ≤ 1048576) (hl : d.length ≤ 1048576) (hd : ∀ x ∈ d, x.f1.length ≤ 1048576) :
    Ev (fun k => (impl_IsQuery.f k s h d).bind fun b => if b = true then ((impl_FormatQuery.f k h d).bind fun u => if u.toList = t.toList then some (h, d, true) else some (([] : List Int), ([] : List S38), false)) else some (([] : List Int), ([] : List S38), false)) (mQFin s t h d) := by
  refine evb (implIsQuery_ev s h d hs hh hl hd) ?_
  unfold mQFin
  by_cases c : mIsQuery s h d = true
  · simp only [c, if_true, true_and]
    refine evb (implFmtQuery_ev h d hh hl hd) ?_
    refine evc fun k => ?_
    rw [toList_if]
    by_cases e : strOfNums (mFmtQuery h d) = t
    · rw [if_pos e, if_pos e]
    · rw [if_neg e, if_neg e]
  · simp only [if_neg c, if_neg (fun z : mIsQuery s h d = true ∧ strOfNums (mFmtQuery h d) = t => c z.1)]
    exact evc fun k => rfl
theorem specQFin_ev (s : List Int) (t : ByteArray) (h : List Int) (d : List S38) (hs : s.length ≤ 1048576) (hh : h.length ≤ 1048576) (hl : d.length ≤ 1048576) (hd : ∀ x ∈ d, x.f1.length ≤ 1048576) :
    Ev (fun k => (spec_IsQuery.f k s h d).bind fun b => if b = true then ((spec_FormatQuery.f k h d).bind fun u => if u.toList = t.toList then some (h, d, true) else some (([] : List Int), ([] : List S38), false)) else some (([] : List Int), ([] : List S38), false)) (mQFin s t h d) := by
  refine evb (specIsQuery_ev s h d hs hh hl hd) ?_
  unfold mQFin
  by_cases c : mIsQuery s h d = true
  · simp only [c, if_true, true_and]
    refine evb (specFmtQuery_ev h d hh hl hd) ?_
    refine evc fun k => ?_
    rw [toList_if]
    by_cases e : strOfNums (mFmtQuery h d) = t
    · rw [if_pos e, if_pos e]
    · rw [if_neg e, if_neg e]
  · simp only [if_neg c, if_neg (fun z : mIsQuery s h d = true ∧ strOfNums (mFmtQuery h d) = t => c z.1)]
    exact evc fun k => rfl
/-! what the program's parser comes to -/
def mAtoms (acc : List S38) : List (List Int) → Option (List S38)
  | [] => some acc
  | x :: t => if (mImplPA (strOfNums x)).2.2 = true then mAtoms (acc ++ [⟨(mImplPA (strOfNums x)).1, (mImplPA (strOfNums x)).2.1⟩]) t else none
def mQEnd (s : List Int) (t : ByteArray) (h : List Int) : Option (List S38) → List Int × List S38 × Bool
  | some d => mQFin s t h d
  | none => ([], [], false)
def mQBody (s : List Int) (t : ByteArray) (h b : List Int) : List Int × List S38 × Bool := mQEnd s t h (mAtoms [] (mSp [59, 32] [] b))
def mQHead (s : List Int) (t : ByteArray) (b : List Int) : Option (List Int) → List Int × List S38 × Bool
  | some h => mQBody s t h b
  | none => ([], [], false)
def mQSides (s : List Int) (t : ByteArray) : List (List Int) → List Int × List S38 × Bool
  | [a, b] => if strOfNums a = strOfNums [121, 101, 115] then mQBody s t [] b else mQHead s t b (mTerms [] (mSp [44] [] a))
  | _ => ([], [], false)
def mImplPQ (s : List Int) (t : ByteArray) : List Int × List S38 × Bool := mQSides s t (mSp [32, 58, 45, 32] [] (bytesOf t))
theorem pa_args (s : ByteArray) : (mImplPA s).2.1.length ≤ 3 := by rw [pa_same]; exact pa_len s
theorem mSp_total (sp : List Int) : ∀ (n : Nat) (t acc : List Int), t.length ≤ n → ((mSp sp acc t).map List.length).sum + (mSp sp acc t).length * sp.length = acc.length + t.length + sp.length := by
  intro n
  induction n with
  | zero =>
    intro t acc h
    have ht : t = [] := List.eq_nil_of_length_eq_zero (by omega)
    subst ht
    have hc : ([] : List Int).length < sp.length ∨ sp = [] := by
      cases sp with
      | nil => exact .inr rfl
      | cons => exact .inl (by simp)
    rw [mSp, dif_pos hc]; simp
  | succ n ih =>
    intro t acc h
    rw [mSp]
    by_cases hc : t.length < sp.length ∨ sp = []
    · rw [dif_pos hc]; simp
    · rw [dif_neg hc]
      have h0 : 0 < sp.length := List.length_pos_iff.2 (fun e => hc (.inr e))
      have h1 : ¬ t.length < sp.length := fun e => hc (.inl e)
      by_cases he : t.take sp.length = sp
      · rw [if_pos he]
        have r := ih (t.drop sp.length) [] (by simp; omega)
        simp only [List.map_cons, List.sum_cons, List.length_cons, Nat.add_mul, Nat.one_mul, List.length_drop, List.length_nil] at r ⊢
        omega
      · rw [if_neg he]
        have r := ih (t.drop 1) (acc ++ t.take 1) (by simp; omega)
        simp only [List.length_drop, List.length_append, List.length_take] at r
        omega
theorem yes_eq : (strOfNums [121, 101, 115]).toList = ([121, 101, 115] : List UInt8) := by rw [ByteArray.toList_eq]; rfl
theorem yes_if {α : Type} (a : ByteArray) (x y : α) : (if a.toList = ([121, 101, 115] : List UInt8) then x else y) = if a = strOfNums [121, 101, 115] then x else y := by
  rw [← yes_eq]; exact toList_if a _ x y
theorem implPQ_l1 (s : List Int) (t : ByteArray) (h : List Int) (ps : List (List Int)) (hs : s.length ≤ 1048576) (hh : h.length ≤ 1048576) (hl : ps.length ≤ 1048576) (hx : ∀ x ∈ ps, x.length ≤ 1048576) :
    Ev (fun k => impl_ParseQuery.l1 k t (ps.map strOfNums) ((ps.map strOfNums).length : Int) 0 s h []) (mQEnd s t h (mAtoms [] ps)) := by
  have key := idx_ind ps (fun pre suf => ∀ acc : List S38, acc.length ≤ pre.length → (∀ x ∈ acc, x.f1.length ≤ 3) → Ev (fun k => impl_ParseQuery.l1 k t (ps.map strOfNums) ((ps.map strOfNums).length : Int) (pre.length : Int) s h acc) (mQEnd s t h (mAtoms acc suf))) ?_ ?_
  · exact key [] (Nat.le_refl _) (fun _ hx => by simp at hx)
  · intro acc ha hb
    refine Ev.step (fun k => impl_ParseQuery.l1.eq_2 ..) ?_
    have hn : ¬ (ps.length : Int) < ((ps.map strOfNums).length : Int) := by simp
    simp only [if_neg hn]
    exact implQFin_ev s t h acc hs hh (by omega) (fun x hx => by have := hb x hx; omega)
  · intro pre x suf e ih acc ha hb
    have ea : ps.map strOfNums = pre.map strOfNums ++ strOfNums x :: suf.map strOfNums := by rw [e]; simp
    have hr : rdOf ByteArray.empty (ps.map strOfNums) (pre.length : Int) = strOfNums x := by
      have := getD_of ea ByteArray.empty
      simpa [rdOf] using this
    have hlt : (pre.length : Int) < ((ps.map strOfNums).length : Int) := by rw [e]; simp; omega
    have hpl : pre.length < ps.length := by rw [e]; simp
    have h8 : acc.length < 4398046511104 := by omega
    refine Ev.step (fun k => impl_ParseQuery.l1.eq_2 ..) ?_
    simp only [if_pos hlt, if_pos (len_nonneg _), hr, iw (a := x) (show pre.length ≤ 140737488355328 by omega)]
    refine evb (implPA_ev _ (by rw [strOfNums_size]; exact hx x (by rw [e]; simp))) ?_
    unfold mAtoms
    by_cases q : (mImplPA (strOfNums x)).2.2 = true
    · simp only [if_pos q, if_pos h8]
      refine ih _ (by simp; omega) (fun y hy => ?_)
      rcases List.mem_append.1 hy with hy | hy
      · exact hb y hy
      · rw [List.mem_singleton.1 hy]; exact pa_args _
    · simp only [if_neg q]
      exact evc fun k => rfl
theorem mSp_sub (sp : List Int) : ∀ (n : Nat) (t acc : List Int), t.length ≤ n → ∀ x ∈ mSp sp acc t, ∀ c ∈ x, c ∈ acc ∨ c ∈ t := by
  intro n
  induction n with
  | zero =>
    intro t acc h
    have ht : t = [] := List.eq_nil_of_length_eq_zero (by omega)
    subst ht
    have hc : ([] : List Int).length < sp.length ∨ sp = [] := by
      cases sp with
      | nil => exact .inr rfl
      | cons => exact .inl (by simp)
    rw [mSp, dif_pos hc]
    intro x hx c hcx
    rw [List.mem_singleton.1 hx] at hcx
    exact List.mem_append.1 hcx
  | succ n ih =>
    intro t acc h
    rw [mSp]
    by_cases hc : t.length < sp.length ∨ sp = []
    · rw [dif_pos hc]
      intro x hx c hcx
      rw [List.mem_singleton.1 hx] at hcx
      exact List.mem_append.1 hcx
    · rw [dif_neg hc]
      have h0 : 0 < sp.length := List.length_pos_iff.2 (fun e => hc (.inr e))
      have h1 : ¬ t.length < sp.length := fun e => hc (.inl e)
      by_cases he : t.take sp.length = sp
      · rw [if_pos he]
        intro x hx c hcx
        rcases List.mem_cons.1 hx with hx | hx
        · rw [hx] at hcx; exact .inl hcx
        · rcases ih (t.drop sp.length) [] (by simp; omega) x hx c hcx with h2 | h2
          · simp at h2
          · exact .inr (List.mem_of_mem_drop h2)
      · rw [if_neg he]
        intro x hx c hcx
        rcases ih (t.drop 1) (acc ++ t.take 1) (by simp; omega) x hx c hcx with h2 | h2
        · rcases List.mem_append.1 h2 with h2 | h2
          · exact .inl h2
          · exact .inr (List.mem_of_mem_take h2)
        · exact .inr (List.mem_of_mem_drop h2)
theorem mSp_bytes (sp : List Int) (t : ByteArray) : ∀ x ∈ mSp sp [] (bytesOf t), bytesOf (strOfNums x) = x := by
  intro x hx
  refine bytes_str fun c hc => ?_
  rcases mSp_sub sp _ (bytesOf t) [] (Nat.le_refl _) x hx c hc with h | h
  · simp at h
  · exact bytes_range t c h
theorem implPQ_j1 (s : List Int) (t : ByteArray) (h a b : List Int) (hs : s.length ≤ 1048576) (hh : h.length ≤ 1048576) (hb : b.length < 1048576) (hbb : bytesOf (strOfNums b) = b) :
    Ev (fun k => impl_ParseQuery.j1 k t ([a, b].map strOfNums) s h) (mQBody s t h b) := by
  refine Ev.step (fun k => impl_ParseQuery.j1.eq_2 ..) ?_
  have h1 : (1 : Int) < (([a, b].map strOfNums).length : Int) := by simp
  have h2 : rdOf ByteArray.empty ([a, b].map strOfNums) 1 = strOfNums b := rfl
  simp only [if_pos h1, h2]
  refine evb (implCut_ev (strOfNums b) [59, 32] (by decide) (by decide) (by decide) (by rw [strOfNums_size]; omega)) ?_
  have hl := mSp_len [59, 32] b.length b [] (Nat.le_refl _)
  rw [hbb]
  refine implPQ_l1 s t h _ hs hh (by omega) (fun x hx => ?_)
  have := hl.2 x hx
  simp at this; omega
theorem implPQ_l0 (s : List Int) (t : ByteArray) (a b : List Int) (ps : List (List Int)) (hs : s.length ≤ 1048576) (hl : ps.length ≤ 1048576) (hx : ∀ x ∈ ps, x.length ≤ 1048576) (hb : b.length < 1048576) (hbb : bytesOf (strOfNums b) = b) :
    Ev (fun k => impl_ParseQuery.l0 k t ([a, b].map strOfNums) (ps.map strOfNums) ((ps.map strOfNums).length : Int) 0 s []) (mQHead s t b (mTerms [] ps)) := by
  have key := idx_ind ps (fun pre suf => ∀ acc : List Int, acc.length ≤ pre.length → Ev (fun k => impl_ParseQuery.l0 k t ([a, b].map strOfNums) (ps.map strOfNums) ((ps.map strOfNums).length : Int) (pre.length : Int) s acc) (mQHead s t b (mTerms acc suf))) ?_ ?_
  · exact key [] (Nat.le_refl _)
  · intro acc ha
    refine Ev.step (fun k => impl_ParseQuery.l0.eq_2 ..) ?_
    have hn : ¬ (ps.length : Int) < ((ps.map strOfNums).length : Int) := by simp
    simp only [if_neg hn]
    exact implPQ_j1 s t acc a b hs (by omega) hb hbb
  · intro pre x suf e ih acc ha
    have ea : ps.map strOfNums = pre.map strOfNums ++ strOfNums x :: suf.map strOfNums := by rw [e]; simp
    have hr : rdOf ByteArray.empty (ps.map strOfNums) (pre.length : Int) = strOfNums x := by
      have := getD_of ea ByteArray.empty
      simpa [rdOf] using this
    have hlt : (pre.length : Int) < ((ps.map strOfNums).length : Int) := by rw [e]; simp; omega
    have hpl : pre.length < ps.length := by rw [e]; simp
    have h8 : acc.length < 17592186044416 := by omega
    refine Ev.step (fun k => impl_ParseQuery.l0.eq_2 ..) ?_
    simp only [if_pos hlt, if_pos (len_nonneg _), hr, iw (a := x) (show pre.length ≤ 140737488355328 by omega)]
    refine evb (implTerm_ev _ (by rw [strOfNums_size]; have := hx x (by rw [e]; simp); omega)) ?_
    unfold mTerms
    by_cases q : (mImplTerm (strOfNums x)).2 = true
    · simp only [if_pos q, if_pos h8]
      exact ih _ (by simp; omega)
    · simp only [if_neg q]
      exact evc fun k => rfl
theorem implPQ_ev (s : List Int) (t : ByteArray) (hs : s.length ≤ 1048576) (ht : t.size ≤ 1048576) : Ev (fun k => impl_ParseQuery.f k s t) (mImplPQ s t) := by
  unfold impl_ParseQuery.f mImplPQ
  have hsep : (⟨#[32, 58, 45, 32]⟩ : ByteArray) = strOfNums [32, 58, 45, 32] := rfl
  have hcom : (⟨#[44]⟩ : ByteArray) = strOfNums [44] := rfl
  rw [hsep, hcom]
  refine evb (implCut_ev t [32, 58, 45, 32] (by decide) (by decide) (by decide) (by omega)) ?_
  have tot := mSp_total [32, 58, 45, 32] (bytesOf t).length (bytesOf t) [] (Nat.le_refl _)
  have byt := mSp_bytes [32, 58, 45, 32] t
  rw [bytesOf_length] at tot
  generalize mSp [32, 58, 45, 32] [] (bytesOf t) = ps at tot byt ⊢
  rcases ps with _ | ⟨a, _ | ⟨b, _ | ⟨c, r⟩⟩⟩
  · have h : ¬ (([] : List (List Int)).map strOfNums).length = (2 : Int) := by simp
    simp only [if_neg h]; exact evc fun k => rfl
  · have h : ¬ ((([a] : List (List Int)).map strOfNums).length : Int) = 2 := by simp
    simp only [if_neg h]; exact evc fun k => rfl
  · have h : ((([a, b] : List (List Int)).map strOfNums).length : Int) = 2 := by simp
    have h0 : (0 : Int) < (([a, b].map strOfNums).length : Int) := by simp
    have h2 : rdOf ByteArray.empty ([a, b].map strOfNums) 0 = strOfNums a := rfl
    simp only [List.map_cons, List.map_nil, List.sum_cons, List.sum_nil, List.length_cons, List.length_nil] at tot
    have ha := byt a (by simp)
    have hb := byt b (by simp)
    simp only [if_pos h, if_pos h0, h2, yes_if]
    unfold mQSides
    by_cases y : strOfNums a = strOfNums [121, 101, 115]
    · simp only [if_pos y]
      exact implPQ_j1 s t [] a b hs (by simp) (by omega) hb
    · simp only [if_neg y]
      refine evb (implCut_ev (strOfNums a) [44] (by decide) (by decide) (by decide) (by rw [strOfNums_size]; omega)) ?_
      have hl := mSp_len [44] a.length a [] (Nat.le_refl _)
      rw [ha]
      refine implPQ_l0 s t a b _ hs (by omega) (fun x hx => ?_) (by omega) hb
      have := hl.2 x hx
      simp at this; omega
  · have h : ¬ (((a :: b :: c :: r).map strOfNums).length : Int) = 2 := by simp; omega
    simp only [if_neg h]; exact evc fun k => rfl
/-! what the reference's parser comes to -/
def mFirst (sp acc t : List Int) : Option (List Int × List Int) :=
  if h : t.length < sp.length ∨ sp = [] then none else if t.take sp.length = sp then some (acc, t.drop sp.length) else mFirst sp (acc ++ t.take 1) (t.drop 1)
termination_by t.length
decreasing_by
  all_goals
    have : 0 < sp.length := List.length_pos_iff.2 (fun e => h (.inr e))
    have : ¬ t.length < sp.length := fun e => h (.inl e)
    simp; omega
def mDrops : List (List Int) → List (List Int)
  | [] => []
  | p :: ps => p :: ps.map (List.drop 1)
def mPA (x : List Int) : S38 := ⟨(mSpecPA (strOfNums x)).1, (mSpecPA (strOfNums x)).2.1⟩
def mSpecBody (s : List Int) (t : ByteArray) (h b : List Int) : List Int × List S38 × Bool := mQFin s t h ((mDrops (mCut 59 [] b)).map mPA)
def mSpecSides (s : List Int) (t : ByteArray) : Option (List Int × List Int) → List Int × List S38 × Bool
  | some (a, b) => if strOfNums a = strOfNums [121, 101, 115] then mSpecBody s t [] b else mSpecBody s t (mArgs (strOfNums a)) b
  | none => ([], [], false)
def mSpecPQ (s : List Int) (t : ByteArray) : List Int × List S38 × Bool := mSpecSides s t (mFirst [32, 58, 45, 32] [] (bytesOf t))
theorem mCut_sub (c : Int) : ∀ (t acc x : List Int), x ∈ mCut c acc t → ∀ b ∈ x, b ∈ acc ∨ b ∈ t
  | [], acc, x, h, b, hb => by
    rw [mCut, List.mem_singleton] at h
    rw [h] at hb; exact .inl hb
  | d :: t, acc, x, h, b, hb => by
    unfold mCut at h
    by_cases e : d = c
    · rw [if_pos e] at h
      rcases List.mem_cons.1 h with h | h
      · rw [h] at hb; exact .inl hb
      · rcases mCut_sub c t [] x h b hb with h2 | h2
        · simp at h2
        · exact .inr (List.mem_cons_of_mem _ h2)
    · rw [if_neg e] at h
      rcases mCut_sub c t (acc ++ [d]) x h b hb with h2 | h2
      · rcases List.mem_append.1 h2 with h2 | h2
        · exact .inl h2
        · rw [List.mem_singleton.1 h2]; exact .inr (by simp)
      · exact .inr (List.mem_cons_of_mem _ h2)
theorem specPQ_l1 (s : List Int) (t : ByteArray) (h : List Int) (ps : List (List Int)) (hs : s.length ≤ 1048576) (hh : h.length ≤ 1048576) (hl : ps.length ≤ 1048576) (hx : ∀ x ∈ ps, x.length ≤ 1048576) (hb : ∀ x ∈ ps, bytesOf (strOfNums x) = x) :
    Ev (fun k => spec_ParseQuery.l1 k t (ps.map strOfNums) 0 s h []) (mQFin s t h ((mDrops ps).map mPA)) := by
  have key := idx_ind ps (fun pre suf => ∀ acc : List S38, acc.length ≤ pre.length → (∀ x ∈ acc, x.f1.length ≤ 3) → acc ++ (if pre = [] then mDrops suf else suf.map (List.drop 1)).map mPA = (mDrops ps).map mPA → Ev (fun k => spec_ParseQuery.l1 k t (ps.map strOfNums) (pre.length : Int) s h acc) (mQFin s t h ((mDrops ps).map mPA))) ?_ ?_
  · exact key [] (Nat.le_refl _) (fun _ hx => by simp at hx) (by simp)
  · intro acc ha ha3 e
    have e2 : acc = (mDrops ps).map mPA := by
      rw [← e]; split <;> simp [mDrops]
    rw [← e2]
    refine Ev.step (fun k => spec_ParseQuery.l1.eq_2 ..) ?_
    have hn : ¬ (ps.length : Int) < ((ps.map strOfNums).length : Int) := by simp
    simp only [if_neg hn]
    exact specQFin_ev s t h acc hs hh (by omega) (fun x hx => by have := ha3 x hx; omega)
  · intro pre x suf e ih acc ha ha3 e2
    have ea : ps.map strOfNums = pre.map strOfNums ++ strOfNums x :: suf.map strOfNums := by rw [e]; simp
    have hr : rdOf ByteArray.empty (ps.map strOfNums) (pre.length : Int) = strOfNums x := by
      have := getD_of ea ByteArray.empty
      simpa [rdOf] using this
    have hlt : (pre.length : Int) < ((ps.map strOfNums).length : Int) := by rw [e]; simp; omega
    have hpl : pre.length < ps.length := by rw [e]; simp
    have h8 : acc.length < 4398046511104 := by omega
    have hxl := hx x (by rw [e]; simp)
    have hxb := hb x (by rw [e]; simp)
    have nxt (y : List Int) (hy : acc ++ (mPA y :: (suf.map (List.drop 1)).map mPA) = (mDrops ps).map mPA) : Ev (fun k => spec_ParseQuery.l1 k t (ps.map strOfNums) ((pre ++ [x]).length : Int) s h (acc ++ [mPA y])) (mQFin s t h ((mDrops ps).map mPA)) := by
      refine ih (acc ++ [mPA y]) (by simp; omega) (fun z hz => ?_) ?_
      · rcases List.mem_append.1 hz with hz | hz
        · exact ha3 z hz
        · rw [List.mem_singleton.1 hz]; exact pa_len _
      · rw [if_neg (by simp), List.append_assoc]; exact hy
    refine Ev.step (fun k => spec_ParseQuery.l1.eq_2 ..) ?_
    simp only [if_pos hlt, if_pos (len_nonneg _), hr, iw (a := x) (show pre.length ≤ 140737488355328 by omega)]
    by_cases z : pre = []
    · subst z
      have hn : ¬ ((([] : List (List Int)).length : Int) > 0) := by simp
      simp only [if_neg hn]
      refine evb (specPA_ev _ (by rw [strOfNums_size]; exact hxl)) ?_
      simp only [if_pos h8]
      exact nxt x (by rw [← e2]; simp [mDrops])
    · have hp : (pre.length : Int) > 0 := by have := List.length_pos_iff.2 z; omega
      rw [if_neg z] at e2
      simp only [if_pos hp, strOfNums_size]
      by_cases z2 : x = []
      · subst z2
        have hn : ¬ ((([] : List Int).length : Int) > 0) := by simp
        simp only [if_neg hn]
        refine evb (specPA_ev _ (by rw [strOfNums_size]; exact hxl)) ?_
        simp only [if_pos h8]
        exact nxt [] (by rw [← e2]; simp)
      · have hp2 : (x.length : Int) > 0 := by have := List.length_pos_iff.2 z2; omega
        have hp3 : 1 ≤ (x.length : Int) := by omega
        have hxt : (strOfNums x).extract 1 x.length = strOfNums (x.drop 1) := by
          rw [extract_str, hxb, List.take_of_length_le (by simp)]
        simp only [if_pos hp2, if_pos hp3, hxt]
        refine evb (specPA_ev _ (by rw [strOfNums_size]; simp; omega)) ?_
        simp only [if_pos h8]
        exact nxt (x.drop 1) (by rw [← e2]; simp)
theorem specPQ_j1 (s : List Int) (t : ByteArray) (h a b : List Int) (hs : s.length ≤ 1048576) (hh : h.length ≤ 1048576) (ht : t.size ≤ 1048576) (e : bytesOf t = a ++ ([32, 58, 45, 32] ++ b)) :
    Ev (fun k => spec_ParseQuery.j1 k t (a.length : Int) s h) (mSpecBody s t h b) := by
  have hlen := bytesOf_length t
  have hsz : a.length + 4 + b.length = t.size := by rw [← hlen, e]; simp; omega
  refine Ev.step (fun k => spec_ParseQuery.j1.eq_2 ..) ?_
  have ew : wrap64 ((a.length : Int) + 4) = (a.length : Int) + 4 := w64 (by omega) (by omega)
  have h1 : 0 ≤ (a.length : Int) + 4 := by omega
  have h2 : (a.length : Int) + 4 ≤ (t.size : Int) := by omega
  have e1 : ((a.length : Int) + 4).toNat = a.length + 4 := by omega
  have hx : t.extract (a.length + 4) t.size = strOfNums b := by
    rw [extract_str, e, List.drop_append, List.drop_eq_nil_of_le (by omega), show a.length + 4 - a.length = 4 by omega, List.take_of_length_le (by simp; omega)]
    rfl
  have hbb : bytesOf (strOfNums b) = b := bytes_str fun c hc => bytes_range t c (by rw [e]; simp [hc])
  simp only [ew, if_pos h1, if_pos h2, e1, hx]
  refine evb (l2Cut_ev (strOfNums b) 59 (by rw [strOfNums_size]; omega)) ?_
  rw [hbb]
  have hl := mCut_len 59 b []
  refine specPQ_l1 s t h _ hs hh (by omega) (fun x hx => ?_) (fun x hx => ?_)
  · have := mCut_small 59 b [] x hx; simp at this; omega
  · refine bytes_str fun c hc => ?_
    rcases mCut_sub 59 b [] x hx c hc with h3 | h3
    · simp at h3
    · exact bytes_range t c (by rw [e]; simp [h3])
theorem specPQ_l0 (s : List Int) (t : ByteArray) (hs : s.length ≤ 1048576) (ht : t.size ≤ 1048576) : ∀ (n : Nat) (acc rest : List Int), bytesOf t = acc ++ rest → rest.length ≤ n →
    Ev (fun k => spec_ParseQuery.l0 k t (acc.length : Int) s) (mSpecSides s t (mFirst [32, 58, 45, 32] acc rest)) := by
  have hlen := bytesOf_length t
  intro n
  induction n with
  | zero =>
    intro acc rest e hr
    have hr0 : rest = [] := List.eq_nil_of_length_eq_zero (by omega)
    subst hr0
    have hsz : acc.length = t.size := by rw [← hlen, e]; simp
    have ew : wrap64 ((acc.length : Int) + 4) = (acc.length : Int) + 4 := w64 (by omega) (by omega)
    have hn : ¬ (acc.length : Int) + 4 ≤ (t.size : Int) := by omega
    refine Ev.step (fun k => spec_ParseQuery.l0.eq_2 ..) ?_
    simp only [ew, if_neg hn]
    rw [mFirst, dif_pos (.inl (by simp))]
    exact evc fun k => rfl
  | succ n ih =>
    intro acc rest e hr
    have hsz : acc.length + rest.length = t.size := by rw [← hlen, e]; simp
    have ew : wrap64 ((acc.length : Int) + 4) = (acc.length : Int) + 4 := w64 (by omega) (by omega)
    refine Ev.step (fun k => spec_ParseQuery.l0.eq_2 ..) ?_
    by_cases hc : rest.length < 4
    · have hn : ¬ (acc.length : Int) + 4 ≤ (t.size : Int) := by omega
      simp only [ew, if_neg hn]
      rw [mFirst, dif_pos (.inl (by simpa using hc))]
      exact evc fun k => rfl
    · have hn : (acc.length : Int) + 4 ≤ (t.size : Int) := by omega
      have h4 : (acc.length : Int) ≤ (acc.length : Int) + 4 := by omega
      have e0 : ((acc.length : Int)).toNat = acc.length := by omega
      have e1 : ((acc.length : Int) + 4).toNat = acc.length + 4 := by omega
      have hsn : ¬ (rest.length < ([32, 58, 45, 32] : List Int).length ∨ ([32, 58, 45, 32] : List Int) = []) := by simp; omega
      have ex : bytesOf (t.extract acc.length (acc.length + 4)) = rest.take 4 := by
        rw [bytes_extract, e, List.drop_left, show acc.length + 4 - acc.length = 4 by omega]
      have hsep : ([32, 58, 45, 32] : List UInt8) = (strOfNums [32, 58, 45, 32]).toList := by rw [ByteArray.toList_eq]; rfl
      simp only [ew, if_pos hn, if_pos (len_nonneg _), if_pos h4, e0, e1, hsep, toList_if]
      rw [mFirst, dif_neg hsn]
      by_cases he : rest.take 4 = [32, 58, 45, 32]
      · have he' : t.extract acc.length (acc.length + 4) = strOfNums [32, 58, 45, 32] := bytes_inj (by rw [ex, he]; decide)
        have h5 : (acc.length : Int) ≤ (t.size : Int) := by omega
        have ex2 : t.extract 0 acc.length = strOfNums acc := by
          rw [extract_str, e, List.drop_zero, Nat.sub_zero, List.take_left]
        simp only [if_pos he', if_pos h5, ex2, yes_if]
        rw [if_pos (show rest.take ([32, 58, 45, 32] : List Int).length = [32, 58, 45, 32] from he)]
        have et : rest = [32, 58, 45, 32] ++ rest.drop 4 := by conv => lhs; rw [← List.take_append_drop 4 rest, he]
        show Ev _ (mSpecSides s t (some (acc, rest.drop 4)))
        unfold mSpecSides
        by_cases y : strOfNums acc = strOfNums [121, 101, 115]
        · simp only [if_pos y]
          exact specPQ_j1 s t [] acc (rest.drop 4) hs (by simp) ht (by rw [e, ← et])
        · simp only [if_neg y]
          have hal := mArgs_len (strOfNums acc)
          rw [strOfNums_size] at hal
          refine evb (l3Args_ev (strOfNums acc) (by rw [strOfNums_size]; omega)) ?_
          exact specPQ_j1 s t _ acc (rest.drop 4) hs (by omega) ht (by rw [e, ← et])
      · have he' : ¬ t.extract acc.length (acc.length + 4) = strOfNums [32, 58, 45, 32] := fun h => he (by rw [← ex, h]; decide)
        simp only [if_neg he']
        rw [if_neg (show ¬ rest.take ([32, 58, 45, 32] : List Int).length = [32, 58, 45, 32] from he)]
        obtain ⟨b, t2, rfl⟩ : ∃ b t2, rest = b :: t2 := by
          cases rest with
          | nil => simp at hc
          | cons b t2 => exact ⟨b, t2, rfl⟩
        have r := ih (acc ++ [b]) t2 (by rw [e]; simp) (by simp at hr; omega)
        have en : wrap64 ((acc.length : Int) + 1) = ((acc ++ [b]).length : Int) := iw (by omega)
        rw [en]
        exact r
theorem specPQ_ev (s : List Int) (t : ByteArray) (hs : s.length ≤ 1048576) (ht : t.size ≤ 1048576) : Ev (fun k => spec_ParseQuery.f k s t) (mSpecPQ s t) :=
  specPQ_l0 s t hs ht _ [] (bytesOf t) rfl (Nat.le_refl _)
/-! where the text is a query's format -/
theorem mFmtTerm_chars {t b : Int} (h : b ∈ mFmtTerm t) : (48 ≤ b ∧ b ≤ 57) ∨ b = 88 := by
  have dg : ∀ n, b ∈ mDg n → 48 ≤ b ∧ b ≤ 57 := fun n hb => by
    have := List.all_eq_true.1 (mDg_digits n) b hb
    simpa [mIsDg] using this
  unfold mFmtTerm at h
  by_cases hv : mIsVar t = true
  · rw [if_pos hv] at h
    have h0 : 0 ≤ t ∧ t ≤ 19 := by simpa [mIsVar] using hv
    rw [mFmt_nonneg h0.1] at h
    rcases List.mem_cons.1 h with h | h
    · exact .inr h
    · exact .inl (dg _ h)
  · rw [if_neg hv] at h
    by_cases hT : mIsTerm t = true
    · rw [if_pos hT] at h
      have h0 : -80 ≤ t ∧ t ≤ 19 := by simpa [mIsTerm] using hT
      have h1 : ¬ (0 ≤ t ∧ t ≤ 19) := by simpa [mIsVar] using hv
      rw [mFmt_nonneg (by omega)] at h
      exact .inl (dg _ h)
    · rw [if_neg hT] at h; simp at h
theorem terms_chars {l : List Int} {b : Int} (h : b ∈ mJoin [44] (l.map mFmtTerm)) : (48 ≤ b ∧ b ≤ 57) ∨ b = 88 ∨ b = 44 := by
  rcases mJoin_mem h with h | ⟨y, hy, h⟩
  · exact .inr (.inr (List.mem_singleton.1 h))
  · obtain ⟨x, _, rfl⟩ := List.mem_map.1 hy
    rcases mFmtTerm_chars h with h | h
    · exact .inl h
    · exact .inr (.inl h)
theorem fA_chars {x : S38} {b : Int} (h : b ∈ fA x) : (48 ≤ b ∧ b ≤ 57) ∨ b = 88 ∨ b = 44 ∨ b = 114 ∨ b = 40 ∨ b = 41 := by
  have hn : mFmtAtom x.f0 x.f1 ≠ [] := fun e => by unfold fA at h; rw [e] at h; simp at h
  obtain ⟨⟨hr0, hr1⟩, hl, hv⟩ := fmtAtom_ok hn
  unfold fA mFmtAtom at h
  rw [if_pos ⟨⟨hr0, hr1⟩, hl, hv⟩, fmt_rel hr0 (by omega)] at h
  simp only [List.mem_append, List.mem_cons, List.not_mem_nil, or_false] at h
  rcases h with (((h | h) | h) | h) | h
  · omega
  · omega
  · omega
  · rcases terms_chars h with h | h | h <;> omega
  · omega
theorem head_chars {h : List Int} {b : Int} (hb : b ∈ mHead h) : b ≠ 32 ∧ b ≠ 58 ∧ 0 ≤ b ∧ b ≤ 255 := by
  unfold mHead at hb
  by_cases c : h = []
  · rw [if_pos c] at hb; simp at hb; omega
  · rw [if_neg c] at hb; rcases terms_chars hb with h | h | h <;> omega
theorem body_chars {d : List S38} {b : Int} (hb : b ∈ mJoin [59, 32] (d.map fA)) : b ≠ 58 ∧ 0 ≤ b ∧ b ≤ 255 := by
  rcases mJoin_mem hb with h | ⟨y, hy, h⟩
  · simp at h; omega
  · obtain ⟨x, _, rfl⟩ := List.mem_map.1 hy
    rcases fA_chars h with h | h | h | h | h | h <;> omega
theorem mSp_no (sp : List Int) (c : Int) (hc : c ∈ sp) : ∀ (n : Nat) (t acc : List Int), t.length ≤ n → c ∉ t → mSp sp acc t = [acc ++ t] := by
  intro n
  induction n with
  | zero =>
    intro t acc h _
    have ht : t = [] := List.eq_nil_of_length_eq_zero (by omega)
    subst ht
    have h1 : ([] : List Int).length < sp.length ∨ sp = [] := .inl (by have := List.length_pos_of_mem hc; simpa using this)
    rw [mSp, dif_pos h1]
  | succ n ih =>
    intro t acc h hn
    rw [mSp]
    by_cases h1 : t.length < sp.length ∨ sp = []
    · rw [dif_pos h1]
    · rw [dif_neg h1]
      have h0 := List.length_pos_of_mem hc
      have h2 : ¬ t.length < sp.length := fun e => h1 (.inl e)
      rw [if_neg (fun e => hn (List.mem_of_mem_take (e.symm ▸ hc))), ih (t.drop 1) _ (by simp; omega) (fun e => hn (List.mem_of_mem_drop e)), List.append_assoc, List.take_append_drop]
theorem mFirst_run (c : Int) (sp : List Int) : ∀ (x acc t : List Int), c ∉ x → sp.length ≤ t.length → mFirst (c :: sp) acc (x ++ (c :: sp) ++ t) = some (acc ++ x, t)
  | [], acc, t, _, _ => by
    rw [mFirst, dif_neg (by simp), if_pos (by simp)]; simp
  | b :: x, acc, t, h, hl => by
    have hb : ¬ b = c := fun e => h (by rw [e]; simp)
    rw [List.cons_append, List.cons_append, mFirst, dif_neg (by simp; omega), if_neg (by simp [hb])]
    simp only [List.take_succ_cons, List.take_zero, List.drop_succ_cons, List.drop_zero]
    rw [mFirst_run c sp x (acc ++ [b]) t (fun hx => h (List.mem_cons_of_mem _ hx)) hl]
    simp
theorem fq_of {s h : List Int} {d : List S38} (q : mIsQuery s h d = true) : (∀ x ∈ d, fA x ≠ []) ∧ (∀ t ∈ h, mIsTerm t = true) ∧ d ≠ [] ∧ mFmtQuery h d = mHead h ++ [32, 58, 45, 32] ++ mJoin [59, 32] (d.map fA) := by
  simp only [mIsQuery, Bool.and_eq_true, decide_eq_true_eq] at q
  obtain ⟨⟨⟨⟨q0, q1, q2⟩, q3⟩, q4⟩, q5⟩ := q
  have qs := q0
  simp only [mIsSchema, Bool.and_eq_true, decide_eq_true_eq] at qs
  have hA : ∀ x ∈ d, fA x ≠ [] := by
    intro x hx
    have ha := List.all_eq_true.1 q4 x hx
    simp only [mIsAtom, Bool.and_eq_true] at ha
    have ht := ha.1
    simp only [mTakes, Bool.and_eq_true, decide_eq_true_eq] at ht
    obtain ⟨⟨h0, h1⟩, h2⟩ := ht
    have hr := mIsSchema_rd q0 h1.1 h1.2
    unfold fA mFmtAtom
    rw [if_pos ⟨⟨by omega, by omega⟩, by omega, ha.2⟩]
    simp
  refine ⟨hA, List.all_eq_true.1 q2, fun e => by rw [e] at q3; simp at q3, ?_⟩
  unfold mFmtQuery
  rw [if_pos ⟨q1, q2, q3.1, by omega⟩]
  unfold mFmtQ
  rw [if_pos hA]
theorem mAtoms_yes : ∀ (l acc : List S38), (∀ x ∈ l, fA x ≠ []) → mAtoms acc (l.map fA) = some (acc ++ l)
  | [], acc, _ => by simp [mAtoms]
  | x :: l, acc, h => by
    have e := (pa_yes (h x (by simp)) rfl).1
    rw [List.map_cons, mAtoms]
    show (if (mImplPA (strOfNums (mFmtAtom x.f0 x.f1))).2.2 = true then _ else _) = _
    rw [show fA x = mFmtAtom x.f0 x.f1 from rfl, e, if_pos rfl, mAtoms_yes l _ (fun y hy => h y (List.mem_cons_of_mem _ hy))]
    simp
theorem mJoinT_two (a b : Int) : ∀ xs : List (List Int), mJoinT [a, b] xs = mJoinT [a] (xs.map (fun x => b :: x))
  | [] => rfl
  | x :: t => by simp [mJoinT, mJoinT_two a b t]
theorem drops_yes (d : List S38) (hd : d ≠ []) : mDrops (mCut 59 [] (mJoin [59, 32] (d.map fA))) = d.map fA := by
  have h59 : ∀ x : S38, (59 : Int) ∉ fA x := fun x hx => by rcases fA_chars hx with h | h | h | h | h | h <;> omega
  cases d with
  | nil => exact absurd rfl hd
  | cons x t =>
    rw [List.map_cons, mJoin, mJoinT_two, mCut_run 59 (fA x) [] _ (h59 x), List.nil_append, mCut_joinT 59 _ (fA x) (fun y hy => ?_)]
    · simp [mDrops, Function.comp_def]
    · obtain ⟨z, hz, rfl⟩ := List.mem_map.1 hy
      obtain ⟨w, _, rfl⟩ := List.mem_map.1 hz
      intro hc
      rcases List.mem_cons.1 hc with hc | hc
      · omega
      · exact h59 w hc
theorem mPA_yes {x : S38} (h : fA x ≠ []) : mPA (fA x) = x := by
  have e := (pa_yes h rfl).2
  unfold mPA
  rw [show fA x = mFmtAtom x.f0 x.f1 from rfl, e]
theorem args_yes (l : List Int) (hv : ∀ t ∈ l, mIsTerm t = true) : mArgs (strOfNums (mJoin [44] (l.map mFmtTerm))) = l := by
  have hi : ∀ b ∈ mJoin [44] (l.map mFmtTerm), 0 ≤ b ∧ b ≤ 255 := fun b hb => by rcases terms_chars hb with h | h | h <;> omega
  have h44 : ∀ y ∈ l.map mFmtTerm, (44 : Int) ∉ y := by
    intro y hy
    obtain ⟨x, hx, rfl⟩ := List.mem_map.1 hy
    exact mFmtTerm_ok.1
  have hjn := terms_join_nil l hv
  unfold mArgs
  rw [bytes_str hi]
  by_cases z : l = []
  · rw [if_pos (hjn.2 z), z]
  · rw [if_neg (fun h => z (hjn.1 h)), mCut_join 44 _ (map_ne z) h44, List.map_map]
    conv => rhs; rw [← List.map_id l]
    refine List.map_congr_left fun x hx => ?_
    simp only [Function.comp, id, mTrm]
    rw [(term_yes (strOfNums (mFmtTerm x)) x (hv x hx) rfl).2]
    rfl
theorem head_yes {h : List Int} (hh : h ≠ []) : ¬ strOfNums (mHead h) = strOfNums [121, 101, 115] := by
  intro e
  have e2 := congrArg bytesOf e
  rw [bytes_str (fun b hb => (head_chars hb).2.2), bytes_str (by simp)] at e2
  unfold mHead at e2
  rw [if_neg hh] at e2
  have h1 : (121 : Int) ∈ mJoin [44] (h.map mFmtTerm) := by rw [e2]; simp
  rcases terms_chars h1 with h2 | h2 | h2 <;> omega
theorem pq_yes {s : List Int} {t : ByteArray} {h : List Int} {d : List S38} (q : mIsQuery s h d = true) (e : strOfNums (mFmtQuery h d) = t) : mImplPQ s t = (h, d, true) ∧ mSpecPQ s t = (h, d, true) := by
  obtain ⟨hA, hT, hd, eF⟩ := fq_of q
  have hfin : mQFin s t h d = (h, d, true) := by unfold mQFin; rw [if_pos ⟨q, e⟩]
  have hb : bytesOf t = mHead h ++ ([32, 58, 45, 32] ++ mJoin [59, 32] (d.map fA)) := by
    rw [← e, eF, List.append_assoc]
    refine bytes_str fun x hx => ?_
    simp only [List.mem_append] at hx
    rcases hx with h1 | h1 | h1
    · exact (head_chars h1).2.2
    · simp at h1; omega
    · exact (body_chars h1).2
  have h59 : ∀ y ∈ d.map fA, (59 : Int) ∉ y := by
    intro y hy
    obtain ⟨x, _, rfl⟩ := List.mem_map.1 hy
    intro hx
    rcases fA_chars hx with h | h | h | h | h | h <;> omega
  have hbd : mQBody s t h (mJoin [59, 32] (d.map fA)) = (h, d, true) := by
    unfold mQBody
    rw [mSp_join 59 [32] _ (map_ne hd) h59, mAtoms_yes d [] hA]
    exact hfin
  have hsb : mSpecBody s t h (mJoin [59, 32] (d.map fA)) = (h, d, true) := by
    unfold mSpecBody
    rw [drops_yes d hd, List.map_map]
    have em : d.map (mPA ∘ fA) = d := by
      conv => rhs; rw [← List.map_id d]
      exact List.map_congr_left fun x hx => mPA_yes (hA x hx)
    rw [em]; exact hfin
  have hdrop : List.drop ([32, 58, 45, 32] : List Int).length (([32, 58, 45, 32] : List Int) ++ mJoin [59, 32] (d.map fA)) = mJoin [59, 32] (d.map fA) := List.drop_left
  constructor
  · unfold mImplPQ
    rw [hb, mSp_run 32 [58, 45, 32] (mHead h) [] _ (fun hx => (head_chars hx).1 rfl), List.nil_append, mSp, dif_neg (by simp), if_pos (by simp), hdrop, mSp_no [32, 58, 45, 32] 58 (by simp) _ _ [] (Nat.le_refl _) (fun hx => (body_chars hx).1 rfl), List.nil_append]
    show (if strOfNums (mHead h) = strOfNums [121, 101, 115] then mQBody s t [] (mJoin [59, 32] (d.map fA)) else mQHead s t (mJoin [59, 32] (d.map fA)) (mTerms [] (mSp [44] [] (mHead h)))) = _
    by_cases z : h = []
    · subst z
      rw [if_pos (by simp [mHead])]; exact hbd
    · rw [if_neg (head_yes z)]
      have h44 : ∀ y ∈ h.map mFmtTerm, (44 : Int) ∉ y := by
        intro y hy
        obtain ⟨x, hx, rfl⟩ := List.mem_map.1 hy
        exact mFmtTerm_ok.1
      have eh : mHead h = mJoin [44] (h.map mFmtTerm) := by unfold mHead; rw [if_neg z]
      rw [eh, mSp_join 44 [] _ (map_ne z) h44, mTerms_yes h [] hT]
      exact hbd
  · unfold mSpecPQ
    have hl : ([58, 45, 32] : List Int).length ≤ (mJoin [59, 32] (d.map fA)).length := by
      cases d with
      | nil => exact absurd rfl hd
      | cons x r =>
        have hx := hA x (by simp)
        have h3 : 3 ≤ (fA x).length := by
          unfold fA mFmtAtom at hx ⊢
          by_cases c : (0 ≤ x.f0 ∧ x.f0 ≤ 3) ∧ (x.f1.length : Int) ≤ 3 ∧ x.f1.all mIsTerm = true
          · rw [if_pos c, fmt_rel c.1.1 (by omega)]; simp
          · rw [if_neg c] at hx; exact absurd rfl hx
        simp [mJoin]; omega
    rw [hb, show mHead h ++ ([32, 58, 45, 32] ++ mJoin [59, 32] (d.map fA)) = mHead h ++ (32 :: [58, 45, 32]) ++ mJoin [59, 32] (d.map fA) from by simp, mFirst_run 32 [58, 45, 32] (mHead h) [] _ (fun hx => (head_chars hx).1 rfl) hl, List.nil_append]
    show (if strOfNums (mHead h) = strOfNums [121, 101, 115] then mSpecBody s t [] (mJoin [59, 32] (d.map fA)) else mSpecBody s t (mArgs (strOfNums (mHead h))) (mJoin [59, 32] (d.map fA))) = _
    by_cases z : h = []
    · subst z
      rw [if_pos (by simp [mHead])]; exact hsb
    · rw [if_neg (head_yes z)]
      have eh : mHead h = mJoin [44] (h.map mFmtTerm) := by unfold mHead; rw [if_neg z]
      rw [eh, args_yes h hT]; exact hsb
theorem qfin_no {s : List Int} {t : ByteArray} (H : ¬ ∃ h d, mIsQuery s h d = true ∧ strOfNums (mFmtQuery h d) = t) (h : List Int) (d : List S38) : mQFin s t h d = ([], [], false) := by
  unfold mQFin; rw [if_neg (fun c => H ⟨h, d, c⟩)]
theorem pq_no {s : List Int} {t : ByteArray} (H : ¬ ∃ h d, mIsQuery s h d = true ∧ strOfNums (mFmtQuery h d) = t) : mImplPQ s t = ([], [], false) ∧ mSpecPQ s t = ([], [], false) := by
  have nb : ∀ h b, mQBody s t h b = ([], [], false) := by
    intro h b
    unfold mQBody mQEnd
    split
    · exact qfin_no H _ _
    · rfl
  constructor
  · unfold mImplPQ mQSides
    split
    · split
      · exact nb _ _
      · unfold mQHead
        split
        · exact nb _ _
        · rfl
    · rfl
  · unfold mSpecPQ mSpecSides
    split
    · split
      · exact qfin_no H _ _
      · exact qfin_no H _ _
    · rfl
theorem pq_same (s : List Int) (t : ByteArray) : mImplPQ s t = mSpecPQ s t := by
  by_cases H : ∃ h d, mIsQuery s h d = true ∧ strOfNums (mFmtQuery h d) = t
  · obtain ⟨h, d, q, e⟩ := H
    obtain ⟨a, b⟩ := pq_yes q e
    rw [a, b]
  · obtain ⟨a, b⟩ := pq_no H
    rw [a, b]
/-- What the parser gives is small. -/
theorem pq_small (s : List Int) (t : ByteArray) : (mSpecPQ s t).1.length ≤ 3 ∧ (mSpecPQ s t).2.1.length ≤ 4 ∧ ∀ x ∈ (mSpecPQ s t).2.1, x.f1.length ≤ 3 := by
  by_cases H : ∃ h d, mIsQuery s h d = true ∧ strOfNums (mFmtQuery h d) = t
  · obtain ⟨h, d, q, e⟩ := H
    rw [(pq_yes q e).2]
    have hA := (fq_of q).1
    simp only [mIsQuery, Bool.and_eq_true, decide_eq_true_eq] at q
    obtain ⟨⟨⟨⟨q0, q1, q2⟩, q3⟩, q4⟩, q5⟩ := q
    refine ⟨by simp only []; omega, by simp only []; omega, fun x hx => ?_⟩
    have := (fmtAtom_ok (hA x hx)).2.1
    omega
  · rw [(pq_no H).2]; simp

end Go.Proofs.Ytpfpappamlgnoaa.Pure
