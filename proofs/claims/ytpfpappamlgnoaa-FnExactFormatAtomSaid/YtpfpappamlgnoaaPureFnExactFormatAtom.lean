/- The pure statement of the law FnExactFormatAtom: the program's function and the reference's agree, for all arguments within the row's bounds. -/
import Derived.Test.YtpfpappamlgnoaaQFnExactFormatAtomx5
import Derived.Test.YtpfpappamlgnoaaMine
import Derived.Test.YtpfpappamlgnoaaOpen
set_option linter.unusedVariables false
set_option linter.unusedSimpArgs false
namespace Go.Proofs.Ytpfpappamlgnoaa.Pure
open Go.RowKit Go.Proofs.Ytpfpappamlgnoaa.QFnExactFormatAtom Go.Proofs.YtpfpappamlgnoaaW.PrintWords Go.Proofs.YtpfpappamlgnoaaW.PrintLast Go.Proofs.Ytpfpappamlgnoaa.Mine Go.Proofs.Ytpfpappamlgnoaa.Open

theorem szIntS_eq (l : List Int) (a : Int) (h : l.length ≤ maxLen) (h0 : 0 ≤ a) (h1 : a ≤ 1048576) : laws_szIntS.f l a = some (mSz l a) := by
  unfold maxLen at h
  unfold laws_szIntS.f mSz
  rw [w64 (by omega) (by omega)]
  by_cases hc : (l.length : Int) ≤ a
  · rw [if_neg (by omega), if_pos hc]
  · rw [if_pos (by omega), if_neg hc]

/-! ### A copy of a list -/
theorem toIntS_l0 (suf : List Int) : ∀ pre : List Int, (pre ++ suf).length ≤ 17592186044416 → Ev (fun k => laws_toIntS.l0 k (pre ++ suf) (pre ++ List.replicate suf.length 0) (pre.length : Int)) (pre ++ suf) := by
  induction suf with
  | nil =>
    intro pre h
    simp only [List.append_nil, List.length_nil, List.replicate_zero]
    refine evn fun k => ?_
    simp only [laws_toIntS.l0]
    rw [if_neg (end_not _)]
  | cons a t ih =>
    intro pre h
    have h1 := ih (pre ++ [a]) (by simpa using h)
    have hl : pre.length ≤ 140737488355328 := by simp at h; omega
    refine Ev.step (fun k => ?_) (by simpa using h1)
    simp only [laws_toIntS.l0]
    rw [if_pos (mid_lt _ _ _), if_pos (len_nonneg _)]
    simp only [List.length_cons, List.replicate_succ]
    rw [if_pos (mid_lt _ _ _), rd_mid, set_mid, iw (a := a) hl]
    simp
theorem toIntS_ev (l : List Int) (h : l.length ≤ 17592186044416) : Ev (fun k => laws_toIntS.f k l) l := by
  have h1 := toIntS_l0 l [] (by simpa using h)
  refine Ev.congr (fun k => ?_) h1
  unfold laws_toIntS.f
  rw [if_pos (by omega), if_pos (by simp; omega)]
  simp

/-! ### Equal lists -/
theorem eqIntS_l0 (suf : List Int) : ∀ (pre suf2 pre2 : List Int), pre.length = pre2.length → suf.length = suf2.length → (pre ++ suf).length ≤ 17592186044416 →
    Ev (fun k => laws_eqIntS.l0 k (pre ++ suf) (pre2 ++ suf2) (pre.length : Int)) (decide (suf = suf2)) := by
  induction suf with
  | nil =>
    intro pre suf2 pre2 hp hs h
    obtain rfl : suf2 = [] := List.eq_nil_of_length_eq_zero (by simpa using hs.symm)
    simp only [List.append_nil]
    refine evn fun k => ?_
    simp only [laws_eqIntS.l0]
    rw [if_neg (end_not _)]; simp
  | cons a t ih =>
    intro pre suf2 pre2 hp hs h
    obtain ⟨b, t2, rfl⟩ : ∃ b t2, suf2 = b :: t2 := by cases suf2 with
      | nil => simp at hs
      | cons b t2 => exact ⟨b, t2, rfl⟩
    have hl : pre.length ≤ 140737488355328 := by simp at h; omega
    have r1 : rd (pre2 ++ b :: t2) (pre.length : Int) = b := by rw [hp]; exact rd_mid _ _ _
    have l1 : (pre.length : Int) < ((pre2 ++ b :: t2).length : Int) := by rw [hp]; exact mid_lt _ _ _
    by_cases hab : a = b
    · subst hab
      have h1 := ih (pre ++ [a]) t2 (pre2 ++ [a]) (by simpa using hp) (by simpa using hs) (by simpa using h)
      have e : decide (a :: t = a :: t2) = decide (t = t2) := by simp
      rw [e]
      refine Ev.step (fun k => ?_) (by simpa using h1)
      simp only [laws_eqIntS.l0]
      rw [if_pos (mid_lt _ _ _), if_pos (len_nonneg _), if_pos l1, rd_mid, r1, if_pos rfl, iw (a := a) hl]
      simp
    · have e : decide (a :: t = b :: t2) = false := by simp [hab]
      rw [e]
      refine evn fun k => ?_
      simp only [laws_eqIntS.l0]
      rw [if_pos (mid_lt _ _ _), if_pos (len_nonneg _), if_pos l1, rd_mid, r1, if_neg hab]
theorem eqIntS_ev (l l2 : List Int) (h : l.length ≤ 17592186044416) : Ev (fun k => laws_eqIntS.f k l l2) (decide (l = l2)) := by
  by_cases hl : l.length = l2.length
  · have h1 := eqIntS_l0 l [] l2 [] rfl hl (by simpa using h)
    refine Ev.congr (fun k => ?_) h1
    unfold laws_eqIntS.f
    rw [if_pos (by omega)]
    simp
  · have e : decide (l = l2) = false := by simp; intro h; exact hl (by rw [h])
    rw [e]
    refine evc fun k => ?_
    unfold laws_eqIntS.f
    rw [if_neg (by omega)]

theorem szAtom_eq (r : Int) (l : List Int) (a : Int) (h : l.length ≤ maxLen) (h0 : 0 ≤ a) (h1 : a ≤ 1048576) : laws_szAtom.f r l a = some (mSz l a) := by
  unfold laws_szAtom.f
  rw [szIntS_eq l a h h0 h1]
  simp only [Option.bind_some]
  unfold mSz
  by_cases hc : (l.length : Int) ≤ a
  · simp only [if_pos hc]; rw [if_neg (by omega)]
  · simp only [if_neg hc]; rfl
theorem toAtom_ev (r : Int) (l : List Int) (h : l.length ≤ 17592186044416) : Ev (fun k => laws_toAtom.f k r l) (r, l) := by
  unfold laws_toAtom.f
  refine evb (toIntS_ev l h) ?_
  exact evc fun k => rfl
theorem eqAtom_ev (r : Int) (l : List Int) (q : Int) (m : List Int) (h : l.length ≤ 17592186044416) : Ev (fun k => laws_eqAtom.f k r l q m) (decide (r = q ∧ l = m)) := by
  unfold laws_eqAtom.f
  by_cases hr : r = q
  · simp only [if_pos hr]
    refine evb (eqIntS_ev l m h) ?_
    refine evc fun k => ?_
    by_cases e : l = m
    · simp [e, hr]
    · simp [e]
  · simp only [if_neg hr]
    refine evc fun k => ?_
    simp [hr]
theorem szAtom_ok (r : Int) (l : List Int) (a : Int) (w : (WfL WfI) l) (h0 : 0 ≤ a) (h1 : a ≤ 1048576) : ∃ t, Ev (fun _ : Nat => laws_szAtom.f r l a) t ∧ (t < 0 ∨ 0 ≤ t ∧ t ≤ a ∧ l.length ≤ 1048576) := by
  refine ⟨mSz l a, evc fun k => szAtom_eq r l a w.2 h0 h1, ?_⟩
  unfold mSz
  by_cases hc : (l.length : Int) ≤ a
  · rw [if_pos hc]; right; omega
  · rw [if_neg hc]; left; omega

/-! ### FormatInt -/
theorem tdiv_neg10 (m : Nat) : Int.tdiv (-(m : Int)) 10 = -((m / 10 : Nat) : Int) := by
  rw [Int.neg_tdiv, Int.tdiv_eq_ediv_of_nonneg (by omega)]; omega
theorem tmod_neg10 (m : Nat) : Int.tmod (-(m : Int)) 10 = -((m % 10 : Nat) : Int) := by
  rw [Int.neg_tmod, Int.tmod_eq_emod_of_nonneg (by omega)]; omega
theorem tdiv_pos10 (m : Nat) : Int.tdiv (m : Int) 10 = ((m / 10 : Nat) : Int) := by
  rw [Int.tdiv_eq_ediv_of_nonneg (by omega)]; omega
theorem tmod_pos10 (m : Nat) : Int.tmod (m : Int) 10 = ((m % 10 : Nat) : Int) := by
  rw [Int.tmod_eq_emod_of_nonneg (by omega)]; omega
theorem append_empty_left (b : ByteArray) : strOfNums [] ++ b = b := by simp [strOfNums, ByteArray.ext_iff]
theorem dig_byte (d : Nat) (h : d < 10) : (48 + (d : Int)) % 256 = 48 + (d : Int) := by omega
theorem specFmt_pos : ∀ (j m : Nat) (out : ByteArray), m < 10 ^ j → m ≤ 9223372036854775807 → out.size + j ≤ 1000 → Ev (fun k => spec_FormatInt.l0 k m out false) (strOfNums (mDig m) ++ out)
  | 0, m, out, h, hm, ho => by
    obtain rfl : m = 0 := by simpa using h
    refine evn fun k => ?_
    simp only [spec_FormatInt.l0]
    rw [if_pos (by omega), if_neg (by simp), mDig_zero, append_empty_left]
  | j + 1, m, out, h, hm, ho => by
    by_cases h0 : m = 0
    · subst h0
      refine evn fun k => ?_
      simp only [spec_FormatInt.l0]
      rw [if_pos (by omega), if_neg (by simp), mDig_zero, append_empty_left]
    · have hj : m / 10 < 10 ^ j := by rw [Nat.pow_succ] at h; omega
      have hs : (strOfNums [48 + ((m % 10 : Nat) : Int)] ++ out).size + j ≤ 1000 := by rw [ByteArray.size_append, strOfNums_size]; simp; omega
      have r := specFmt_pos j (m / 10) (strOfNums [48 + ((m % 10 : Nat) : Int)] ++ out) hj (by omega) hs
      rw [mDig_pos h0, strOfNums_append, ByteArray.append_assoc]
      refine Ev.step (fun k => ?_) r
      simp only [spec_FormatInt.l0]
      rw [if_neg (by omega), tmod_pos10, tdiv_pos10, if_neg (by omega)]
      simp only [Option.bind_some]
      rw [w64 (by omega) (by omega), dig_byte _ (by omega), if_pos (by rw [strOfNums_size]; simp; omega), w64 (by omega) (by omega)]
theorem specFmt_neg : ∀ (j m : Nat) (out : ByteArray), m < 10 ^ j → m ≤ 9223372036854775808 → out.size + j ≤ 1000 → Ev (fun k => spec_FormatInt.l0 k (-(m : Int)) out true) (strOfNums [45] ++ (strOfNums (mDig m) ++ out))
  | 0, m, out, h, hm, ho => by
    obtain rfl : m = 0 := by simpa using h
    refine evn fun k => ?_
    simp only [spec_FormatInt.l0]
    rw [if_pos (by omega), if_pos trivial, if_pos (by omega), mDig_zero, append_empty_left]
    rfl
  | j + 1, m, out, h, hm, ho => by
    by_cases h0 : m = 0
    · subst h0
      refine evn fun k => ?_
      simp only [spec_FormatInt.l0]
      rw [if_pos (by omega), if_pos trivial, if_pos (by omega), mDig_zero, append_empty_left]
      rfl
    · have hj : m / 10 < 10 ^ j := by rw [Nat.pow_succ] at h; omega
      have hs : (strOfNums [48 + ((m % 10 : Nat) : Int)] ++ out).size + j ≤ 1000 := by rw [ByteArray.size_append, strOfNums_size]; simp; omega
      have r := specFmt_neg j (m / 10) (strOfNums [48 + ((m % 10 : Nat) : Int)] ++ out) hj (by omega) hs
      rw [mDig_pos h0, strOfNums_append, ByteArray.append_assoc]
      refine Ev.step (fun k => ?_) r
      simp only [spec_FormatInt.l0]
      rw [if_neg (by omega), tmod_neg10, tdiv_neg10]
      by_cases hd : m % 10 = 0
      · rw [if_neg (by omega)]
        simp only [Option.bind_some]
        rw [w64 (by omega) (by omega), if_pos (by rw [strOfNums_size]; simp; omega), w64 (by omega) (by omega)]
        rw [show (48 + -((m % 10 : Nat) : Int)) % 256 = 48 + ((m % 10 : Nat) : Int) by omega]
      · rw [if_pos (by omega)]
        simp only [Option.bind_some]
        rw [w64 (x := - -((m % 10 : Nat) : Int)) (by omega) (by omega), w64 (by omega) (by omega), if_pos (by rw [strOfNums_size]; simp; omega), w64 (by omega) (by omega)]
        rw [show (48 + - -((m % 10 : Nat) : Int)) % 256 = 48 + ((m % 10 : Nat) : Int) by omega]
theorem append_empty_right (b : ByteArray) : b ++ (⟨#[]⟩ : ByteArray) = b := by simp [ByteArray.ext_iff]
theorem specFmt_ev (n : Int) (h0 : -9223372036854775808 ≤ n) (h1 : n ≤ 9223372036854775807) : Ev (fun k => spec_FormatInt.f k n) (strOfNums (mFmt n)) := by
  unfold spec_FormatInt.f mFmt
  by_cases hz : n = 0
  · simp only [if_pos hz]; exact evc fun k => rfl
  · simp only [if_neg hz]
    by_cases hn : n < 0
    · obtain ⟨m, rfl⟩ : ∃ m : Nat, n = -(m : Int) := ⟨n.natAbs, by omega⟩
      have r := specFmt_neg 20 m ⟨#[]⟩ (by omega) (by omega) (by simp [ByteArray.size])
      rw [append_empty_right] at r
      rw [if_pos hn, decide_eq_true hn, show (-(m : Int)).natAbs = m by omega]
      rw [show (45 : Int) :: mDig m = [45] ++ mDig m from rfl, strOfNums_append]
      exact r
    · obtain ⟨m, rfl⟩ : ∃ m : Nat, n = (m : Int) := ⟨n.natAbs, by omega⟩
      have r := specFmt_pos 20 m ⟨#[]⟩ (by omega) (by omega) (by simp [ByteArray.size])
      rw [append_empty_right] at r
      rw [if_neg hn, decide_eq_false hn, show ((m : Int)).natAbs = m by omega]
      exact r
theorem implRev : ∀ (n : Nat) (M A B : List Int), M.length ≤ n → A.length = B.length → (A ++ M ++ B).length ≤ 1000 → Ev (fun k => impl_FormatInt.l1 k (A ++ M ++ B) (A.length : Int) ((A.length : Int) + (M.length : Int) - 1)) (strOfNums (A ++ M.reverse ++ B))
  | n, [], A, B, hn, hab, hl => by
    refine evn fun k => ?_
    simp only [impl_FormatInt.l1]
    rw [if_neg (by simp <;> omega)]; simp
  | n, [a], A, B, hn, hab, hl => by
    refine evn fun k => ?_
    simp only [impl_FormatInt.l1]
    rw [if_neg (by simp <;> omega)]; simp
  | 0, a :: c :: R, A, B, hn, hab, hl => by simp at hn
  | n + 1, a :: c :: R, A, B, hn, hab, hl => by
    obtain ⟨M', b, hM⟩ : ∃ M' b, c :: R = M' ++ [b] := ⟨(c :: R).dropLast, (c :: R).getLast (by simp), (List.dropLast_concat_getLast (by simp)).symm⟩
    rw [hM]
    have hlen : M'.length + 1 = R.length + 1 := by have := congrArg List.length hM; simpa using this.symm
    have hsz : A.length + M'.length + B.length + 2 ≤ 1000 := by simp at hl; omega
    have r := implRev n M' (A ++ [b]) (a :: B) (by simp at hn; omega) (by simp [hab]) (by simp; omega)
    have e1 : (A ++ a :: (M' ++ [b]) ++ B) = A ++ a :: (M' ++ b :: B) := by simp
    have e2 : (A ++ a :: (M' ++ b :: B)) = (A ++ a :: M') ++ b :: B := by simp
    have ei : (A.length : Int) + ((a :: (M' ++ [b])).length : Int) - 1 = ((A ++ a :: M').length : Int) := by simp; omega
    have er : A ++ (a :: (M' ++ [b])).reverse ++ B = (A ++ [b]) ++ M'.reverse ++ (a :: B) := by simp
    rw [er, ei, e1]
    refine Ev.step (fun k => ?_) r
    simp only [impl_FormatInt.l1]
    have ra : rd (A ++ a :: (M' ++ b :: B)) (A.length : Int) = a := rd_mid _ _ _
    have rb : rd (A ++ a :: (M' ++ b :: B)) ((A ++ a :: M').length : Int) = b := by rw [e2]; exact rd_mid _ _ _
    rw [if_pos (by simp; omega), if_pos (by omega), if_pos (by simp; omega), if_pos (by omega), if_pos (by simp; omega), ra, rb, set_mid]
    have e3 : (A ++ b :: (M' ++ b :: B)) = (A ++ b :: M') ++ b :: B := by simp
    have e4 : ((A ++ a :: M').length : Int) = ((A ++ b :: M').length : Int) := by simp
    rw [e3, e4, set_mid, w64 (by omega) (by omega), w64 (by simp; omega) (by simp; omega)]
    congr 1
    · simp
    · simp
    · simp; omega
theorem implFmt_end (x : Int) (acc : List Int) (h : acc.length ≤ 900) : Ev (fun k => impl_FormatInt.l0 k x acc 0) (strOfNums ((if x < 0 then [45] else []) ++ acc.reverse)) := by
  have jr : ∀ y : List Int, y.length ≤ 901 → Ev (fun k => impl_FormatInt.j1 k y) (strOfNums y.reverse) := by
    intro y hy
    have r := implRev y.length y [] [] (Nat.le_refl _) rfl (by simp; omega)
    simp only [List.nil_append, List.append_nil, List.length_nil] at r
    refine Ev.step (fun k => ?_) r
    simp only [impl_FormatInt.j1]
    rw [w64 (by omega) (by omega)]
    congr 1; simp
  by_cases hx : x < 0
  · have r := jr (acc ++ [45]) (by simp; omega)
    rw [if_pos hx]
    refine Ev.step (fun k => ?_) (by simpa using r)
    simp only [impl_FormatInt.l0]
    rw [if_pos trivial, if_pos hx, if_pos (by omega)]
  · have r := jr acc (by omega)
    rw [if_neg hx]
    refine Ev.step (fun k => ?_) (by simpa using r)
    simp only [impl_FormatInt.l0]
    rw [if_pos trivial, if_neg hx]
theorem implFmt_pos (x : Int) : ∀ (j m : Nat) (acc : List Int), m < 10 ^ j → m ≤ 9223372036854775807 → acc.length + j ≤ 900 → Ev (fun k => impl_FormatInt.l0 k x acc m) (strOfNums ((if x < 0 then [45] else []) ++ (mDig m ++ acc.reverse)))
  | 0, m, acc, h, hm, ho => by
    obtain rfl : m = 0 := by simpa using h
    rw [mDig_zero]; exact implFmt_end x acc (by omega)
  | j + 1, m, acc, h, hm, ho => by
    by_cases h0 : m = 0
    · subst h0; rw [mDig_zero]; exact implFmt_end x acc (by omega)
    · have hj : m / 10 < 10 ^ j := by rw [Nat.pow_succ] at h; omega
      have r := implFmt_pos x j (m / 10) (acc ++ [48 + ((m % 10 : Nat) : Int)]) hj (by omega) (by simp; omega)
      rw [mDig_pos h0]
      refine Ev.step (fun k => ?_) (by simpa using r)
      simp only [impl_FormatInt.l0]
      rw [if_neg (by omega), tmod_pos10, tdiv_pos10, if_neg (by omega), if_pos (by omega), w64 (by omega) (by omega), dig_byte _ (by omega), w64 (by omega) (by omega)]
      simp
theorem implFmt_neg (x : Int) : ∀ (j m : Nat) (acc : List Int), m < 10 ^ j → m ≤ 9223372036854775808 → acc.length + j ≤ 900 → Ev (fun k => impl_FormatInt.l0 k x acc (-(m : Int))) (strOfNums ((if x < 0 then [45] else []) ++ (mDig m ++ acc.reverse)))
  | 0, m, acc, h, hm, ho => by
    obtain rfl : m = 0 := by simpa using h
    rw [mDig_zero]; exact implFmt_end x acc (by omega)
  | j + 1, m, acc, h, hm, ho => by
    by_cases h0 : m = 0
    · subst h0; rw [mDig_zero]; exact implFmt_end x acc (by omega)
    · have hj : m / 10 < 10 ^ j := by rw [Nat.pow_succ] at h; omega
      have r := implFmt_neg x j (m / 10) (acc ++ [48 + ((m % 10 : Nat) : Int)]) hj (by omega) (by simp; omega)
      rw [mDig_pos h0]
      refine Ev.step (fun k => ?_) (by simpa using r)
      simp only [impl_FormatInt.l0]
      rw [if_neg (by omega), tmod_neg10, tdiv_neg10]
      by_cases hd : m % 10 = 0
      · rw [if_neg (by omega), if_pos (by omega), w64 (by omega) (by omega), w64 (by omega) (by omega)]
        rw [show (48 + -((m % 10 : Nat) : Int)) % 256 = 48 + ((m % 10 : Nat) : Int) by omega]
        simp
      · rw [if_pos (by omega), if_pos (by omega), w64 (x := - -((m % 10 : Nat) : Int)) (by omega) (by omega), w64 (by omega) (by omega), w64 (by omega) (by omega)]
        rw [show (48 + - -((m % 10 : Nat) : Int)) % 256 = 48 + ((m % 10 : Nat) : Int) by omega]
        simp
theorem implFmt_ev (n : Int) (h0 : -9223372036854775808 ≤ n) (h1 : n ≤ 9223372036854775807) : Ev (fun k => impl_FormatInt.f k n) (strOfNums (mFmt n)) := by
  unfold impl_FormatInt.f mFmt
  by_cases hz : n = 0
  · simp only [if_pos hz]; exact evc fun k => rfl
  · simp only [if_neg hz]
    by_cases hn : n < 0
    · obtain ⟨m, rfl⟩ : ∃ m : Nat, n = -(m : Int) := ⟨n.natAbs, by omega⟩
      have r := implFmt_neg (-(m : Int)) 20 m [] (by omega) (by omega) (by simp)
      rw [if_pos hn] at r
      rw [if_pos hn, show (-(m : Int)).natAbs = m by omega]
      simpa using r
    · obtain ⟨m, rfl⟩ : ∃ m : Nat, n = (m : Int) := ⟨n.natAbs, by omega⟩
      have r := implFmt_pos (m : Int) 20 m [] (by omega) (by omega) (by simp)
      rw [if_neg hn] at r
      rw [if_neg hn, show ((m : Int)).natAbs = m by omega]
      simpa using r

theorem l1In_eq (x lo hi : Int) : spec_l1In.f x lo hi = some (decide (lo ≤ x ∧ x ≤ hi)) := by
  unfold spec_l1In.f
  by_cases h : x ≥ lo
  · rw [if_pos h]; congr 1; simp; omega
  · rw [if_neg h]; congr 1; simp; omega

theorem within_eq (x lo hi : Int) : impl_within.f x lo hi = some (decide (lo ≤ x ∧ x ≤ hi)) := by
  unfold impl_within.f
  by_cases h : x ≥ lo
  · rw [if_pos h]; congr 1; simp; omega
  · rw [if_neg h]; congr 1; simp; omega

/-! ### Terms -/

theorem specIsVar_eq (t : Int) : spec_IsVar.f t = some (mIsVar t) := by
  simp [spec_IsVar.f, l1In_eq, mIsVar]
theorem specConstOf_eq (t : Int) : spec_ConstOf.f t = some (mConstOf t) := by
  unfold spec_ConstOf.f mConstOf
  simp only [l1In_eq, Option.bind_some]
  by_cases h : -80 ≤ t ∧ t ≤ -1
  · simp only [h, and_self, decide_true, if_true]; rw [w64 (by omega) (by omega)]
  · simp only [h, decide_false, Bool.false_eq_true, if_false]

theorem implIsTerm_eq (t : Int) : impl_IsTerm.f t = some (mIsTerm t) := by
  simp [impl_IsTerm.f, within_eq, mIsTerm]

theorem implIsVar_eq (t : Int) : impl_IsVar.f t = some (mIsVar t) := by
  simp [impl_IsVar.f, within_eq, mIsVar]
theorem implConstOf_eq (t : Int) : impl_ConstOf.f t = some (mConstOf t) := by
  unfold impl_ConstOf.f mConstOf
  simp only [implIsTerm_eq, implIsVar_eq, Option.bind_some, mIsTerm, mIsVar]
  by_cases h : -80 ≤ t ∧ t ≤ -1
  · rw [if_pos h, if_pos (by simp; omega), if_neg (by simp; omega)]; rw [w64 (by omega) (by omega)]
  · rw [if_neg h]
    by_cases h2 : -80 ≤ t ∧ t ≤ 19
    · rw [if_pos (by simpa using h2), if_pos (by simp; omega)]
    · rw [if_neg (by simpa using h2)]

/-! ### FormatTerm -/
theorem str_cons (c : Int) (l : List Int) : strOfNums (c :: l) = strOfNums [c] ++ strOfNums l := by
  rw [← strOfNums_append]; rfl
theorem specFmtTerm_ev (t : Int) : Ev (fun k => spec_FormatTerm.f k t) (strOfNums (mFmtTerm t)) := by
  unfold spec_FormatTerm.f mFmtTerm
  simp only [specIsVar_eq, specConstOf_eq, Option.bind_some]
  by_cases hv : mIsVar t = true
  · simp only [if_pos hv]
    have hb : 0 ≤ t ∧ t ≤ 19 := by simpa [mIsVar] using hv
    refine evb (specFmt_ev t (by omega) (by omega)) ?_
    have hl := small_fmt (n := t) (by omega) (by omega)
    refine evc fun k => ?_
    rw [if_pos (by rw [strOfNums_size]; omega), str_cons]
    rfl
  · simp only [if_neg hv]
    have hb : ¬ (0 ≤ t ∧ t ≤ 19) := by simpa [mIsVar] using hv
    by_cases ht : -80 ≤ t ∧ t ≤ -1
    · have hc : mConstOf t = -1 - t := by unfold mConstOf; rw [if_pos ht]
      have hg : mConstOf t ≥ 0 := by omega
      simp only [if_pos hg]
      have hT : mIsTerm t = true := by simp [mIsTerm]; omega
      simp only [if_pos hT]
      rw [hc]
      refine evb (specFmt_ev (-1 - t) (by omega) (by omega)) ?_
      exact evc fun k => rfl
    · have hc : mConstOf t = -1 := by unfold mConstOf; rw [if_neg ht]
      have hg : ¬ mConstOf t ≥ 0 := by omega
      simp only [if_neg hg]
      have hT : ¬ mIsTerm t = true := by simp [mIsTerm]; omega
      simp only [if_neg hT]
      exact evc fun k => rfl
theorem implFmtTerm_ev (t : Int) : Ev (fun k => impl_FormatTerm.f k t) (strOfNums (mFmtTerm t)) := by
  unfold impl_FormatTerm.f mFmtTerm
  simp only [implIsVar_eq, implIsTerm_eq, implConstOf_eq, Option.bind_some]
  by_cases hv : mIsVar t = true
  · simp only [if_pos hv]
    have hb : 0 ≤ t ∧ t ≤ 19 := by simpa [mIsVar] using hv
    refine evb (implFmt_ev t (by omega) (by omega)) ?_
    have hl := small_fmt (n := t) (by omega) (by omega)
    refine evc fun k => ?_
    rw [if_pos (by rw [strOfNums_size]; omega), str_cons]
    rfl
  · simp only [if_neg hv]
    have hb : ¬ (0 ≤ t ∧ t ≤ 19) := by simpa [mIsVar] using hv
    by_cases hT : mIsTerm t = true
    · have ht : -80 ≤ t ∧ t ≤ 19 := by simpa [mIsTerm] using hT
      have hc : mConstOf t = -1 - t := by unfold mConstOf; rw [if_pos (by omega)]
      simp only [if_pos hT]
      rw [hc]
      refine evb (implFmt_ev (-1 - t) (by omega) (by omega)) ?_
      exact evc fun k => rfl
    · simp only [if_neg hT]
      exact evc fun k => rfl

theorem specIsTerm_eq (t : Int) : spec_IsTerm.f t = some (mIsTerm t) := by
  unfold spec_IsTerm.f
  simp only [specIsVar_eq, specConstOf_eq, Option.bind_some]
  unfold mIsVar mIsTerm mConstOf
  by_cases h : 0 ≤ t ∧ t ≤ 19
  · rw [if_pos (by simpa using h)]; congr 1; simp; omega
  · rw [if_neg (by simpa using h)]; congr 1
    by_cases h2 : -80 ≤ t ∧ t ≤ -1
    · rw [if_pos h2, decide_eq_true (by omega), decide_eq_true (by omega)]
    · rw [if_neg h2, decide_eq_false (by omega), decide_eq_false (by omega)]

theorem l3Terms_ev (l : List Int) (h : l.length ≤ 140737488355328) : Ev (fun k => spec_l3Terms.f k l) (l.all mIsTerm && decide ((l.length : Int) ≤ 3)) := by
  refine idx_ind l (fun pre suf => Ev (fun k => spec_l3Terms.l0 k l (pre.length : Int)) (suf.all mIsTerm && decide ((l.length : Int) ≤ 3))) ?_ ?_
  · refine evn fun k => ?_
    simp only [spec_l3Terms.l0]
    rw [if_neg (end_not _)]; rfl
  · intro pre a suf e ih
    by_cases hp : mIsTerm a = true
    · rw [show (a :: suf).all mIsTerm = suf.all mIsTerm by simp [hp]]
      refine Ev.step (fun k => ?_) ih
      simp only [spec_l3Terms.l0]
      rw [if_pos (lt_of e), if_pos (len_nonneg _), rd_of e, specIsTerm_eq, nx_of e h]
      simp [hp]
    · rw [show ((a :: suf).all mIsTerm && decide ((l.length : Int) ≤ 3)) = false by simp [hp]]
      refine evn fun k => ?_
      simp only [spec_l3Terms.l0]
      rw [if_pos (lt_of e), if_pos (len_nonneg _), rd_of e, specIsTerm_eq]
      simp [hp]

theorem areTerms_ev (l : List Int) (h : l.length ≤ 140737488355328) : Ev (fun k => impl_areTerms.f k l) (l.all mIsTerm) := by
  refine idx_ind l (fun pre suf => Ev (fun k => impl_areTerms.l0 k l (l.length : Int) (pre.length : Int)) (suf.all mIsTerm)) ?_ ?_
  · refine evn fun k => ?_
    simp only [impl_areTerms.l0]
    rw [if_neg (end_not _)]; rfl
  · intro pre a suf e ih
    by_cases hp : mIsTerm a = true
    · rw [show (a :: suf).all mIsTerm = suf.all mIsTerm by simp [hp]]
      refine Ev.step (fun k => ?_) ih
      simp only [impl_areTerms.l0]
      rw [if_pos (lt_of e), if_pos (len_nonneg _), if_pos (lt_of e), rd_of e, implIsTerm_eq, nx_of e h]
      simp [hp]
    · rw [show (a :: suf).all mIsTerm = false by simp [hp]]
      refine evn fun k => ?_
      simp only [impl_areTerms.l0]
      rw [if_pos (lt_of e), if_pos (len_nonneg _), if_pos (lt_of e), rd_of e, implIsTerm_eq]
      simp [hp]

/-! ### glued -/
theorem rdB_of {l pre suf : List ByteArray} {a : ByteArray} (e : l = pre ++ a :: suf) : rdOf ByteArray.empty l (pre.length : Int) = a := getD_of e _
theorem glued_ev (xs : List (List Int)) (sep : List Int) (hl : xs.length ≤ 1073741824) (hs : sep.length ≤ 10000) (hx : ∀ x ∈ xs, x.length ≤ 10000) :
    Ev (fun k => impl_glued.f k (xs.map strOfNums) (strOfNums sep)) (strOfNums (mJoin sep xs)) := by
  have key := idx_ind xs (fun pre suf => Ev (fun k => impl_glued.l0 k (strOfNums sep) (strOfNums (mJoin sep pre)) (xs.map strOfNums) ((xs.map strOfNums).length : Int) (pre.length : Int)) (strOfNums (mJoin sep xs))) ?_ ?_
  · exact key
  · refine evn fun k => ?_
    simp only [impl_glued.l0]
    rw [if_neg (by simp)]
  · intro pre a suf e ih
    have ea : xs.map strOfNums = pre.map strOfNums ++ strOfNums a :: suf.map strOfNums := by rw [e]; simp
    have hr : rdOf ByteArray.empty (xs.map strOfNums) (pre.length : Int) = strOfNums a := by
      have := rdB_of ea
      simpa using this
    have hlt : (pre.length : Int) < ((xs.map strOfNums).length : Int) := by rw [e]; simp; omega
    have hp : pre.length < 1073741824 := by rw [e] at hl; simp at hl; omega
    have hj := mJoin_len sep 10000 hs pre (fun x hxm => hx x (by rw [e]; simp [hxm]))
    have ha := hx a (by rw [e]; simp)
    have hjb : (mJoin sep pre).length ≤ 21474836480000 := by omega
    refine Ev.step (fun k => ?_) ih
    simp only [impl_glued.l0]
    rw [if_pos hlt, if_pos (len_nonneg _), if_pos hlt, hr, iw (a := a) (by omega)]
    by_cases h0 : pre = []
    · subst h0
      rw [if_neg (by simp), if_pos (by rw [strOfNums_size, strOfNums_size]; simp [mJoin]; omega), ← strOfNums_append]
      simp [mJoin, mJoinT]
    · have hp0 : 0 < pre.length := List.length_pos_iff.2 h0
      rw [if_pos (by omega), if_pos (by rw [strOfNums_size, strOfNums_size]; omega), ← strOfNums_append, if_pos (by rw [strOfNums_size, strOfNums_size]; simp; omega), ← strOfNums_append, mJoin_snoc sep a pre h0]
      simp

/-! ### FormatAtom -/
theorem join_terms_len (l : List Int) : (mJoin [44] (l.map mFmtTerm)).length ≤ l.length * 8 := by
  have := mJoin_len [44] 4 (by simp) (l.map mFmtTerm) (fun x hx => by obtain ⟨y, hy, rfl⟩ := List.mem_map.1 hx; exact term_fmt y)
  simpa using this
theorem l3List_ev (l : List Int) (hl : l.length ≤ 1048576) : Ev (fun k => spec_l3List.f k l) (strOfNums (mJoin [44] (l.map mFmtTerm))) := by
  have key := idx_ind l (fun pre suf => Ev (fun k => spec_l3List.l0 k l (strOfNums (mJoin [44] (pre.map mFmtTerm))) (pre.length : Int)) (strOfNums (mJoin [44] (l.map mFmtTerm)))) ?_ ?_
  · exact key
  · refine evn fun k => ?_
    simp only [spec_l3List.l0]
    rw [if_neg (end_not _)]
  · intro pre a suf e ih
    have hp : pre.length < 1048576 := by rw [e] at hl; simp at hl; omega
    have hj := join_terms_len pre
    have ha := term_fmt a
    by_cases h0 : pre = []
    · subst h0
      refine Ev.step (f := fun k => (spec_FormatTerm.f k a).bind fun t => if (strOfNums (mJoin [44] ([].map mFmtTerm))).size + t.size ≤ 9223372036854775807 then spec_l3List.l0 k l (strOfNums (mJoin [44] ([].map mFmtTerm)) ++ t) (([] ++ [a] : List Int).length : Int) else none) (fun k => ?_) ?_
      · simp only [spec_l3List.l0]
        rw [if_pos (lt_of e), if_neg (by simp), if_pos (len_nonneg _), rd_of e, nx_of e (by omega)]
      · refine evb (specFmtTerm_ev a) ?_
        have z : (strOfNums (mJoin [44] (([] : List Int).map mFmtTerm))).size + (strOfNums (mFmtTerm a)).size ≤ 9223372036854775807 := by rw [strOfNums_size, strOfNums_size]; simp [mJoin]; omega
        simp only [if_pos z, ← strOfNums_append]
        simpa [mJoin, mJoinT] using ih
    · have hp0 : 0 < pre.length := List.length_pos_iff.2 h0
      refine Ev.step (f := fun k => (spec_FormatTerm.f k a).bind fun t => if (strOfNums (mJoin [44] (pre.map mFmtTerm)) ++ strOfNums [44]).size + t.size ≤ 9223372036854775807 then spec_l3List.l0 k l ((strOfNums (mJoin [44] (pre.map mFmtTerm)) ++ strOfNums [44]) ++ t) ((pre ++ [a]).length : Int) else none) (fun k => ?_) ?_
      · simp only [spec_l3List.l0]
        rw [if_pos (lt_of e), if_pos (by omega), if_pos (by rw [strOfNums_size]; omega), if_pos (len_nonneg _), rd_of e, nx_of e (by omega)]
        rfl
      · refine evb (specFmtTerm_ev a) ?_
        have z : (strOfNums (mJoin [44] (pre.map mFmtTerm) ++ [44])).size + (strOfNums (mFmtTerm a)).size ≤ 9223372036854775807 := by rw [strOfNums_size, strOfNums_size]; simp; omega
        simp only [← strOfNums_append]
        simp only [if_pos z]
        have ej : mJoin [44] ((pre ++ [a]).map mFmtTerm) = mJoin [44] (pre.map mFmtTerm) ++ [44] ++ mFmtTerm a := by
          rw [List.map_append, List.map_cons, List.map_nil, mJoin_snoc [44] (mFmtTerm a) _ (map_ne h0)]; simp
        rw [← ej]
        exact ih
theorem rel_fmt2 {r : Int} (h : 0 ≤ r ∧ r ≤ 3) : (mFmt r).length ≤ 3 := small_fmt (by omega) (by omega)
theorem specFmtAtom_ev (r : Int) (l : List Int) (hl : l.length ≤ 1048576) : Ev (fun k => spec_FormatAtom.f k r l) (strOfNums (mFmtAtom r l)) := by
  unfold spec_FormatAtom.f
  have jt : Ev (fun k => spec_FormatAtom.j0 k true r l) (strOfNums []) := evn fun k => by simp only [spec_FormatAtom.j0]; rw [if_pos trivial]; rfl
  simp only [l1In_eq, Option.bind_some]
  by_cases c1 : 0 ≤ r ∧ r ≤ 3
  · simp only [c1, and_self, decide_true, if_true]
    refine evb (l3Terms_ev l (by omega)) ?_
    by_cases c2 : (l.length : Int) ≤ 3 ∧ l.all mIsTerm = true
    · have ef : mFmtAtom r l = [114] ++ mFmt r ++ [40] ++ mJoin [44] (l.map mFmtTerm) ++ [41] := by unfold mFmtAtom; rw [if_pos ⟨c1, c2⟩]
      rw [show (l.all mIsTerm && decide ((l.length : Int) ≤ 3)) = true by simp [c2.1]; simpa using c2.2, ef]
      have hr := rel_fmt2 c1
      have hj := join_terms_len l
      refine Ev.step (f := fun k => (spec_FormatInt.f k r).bind fun t => if 1 + t.size ≤ 9223372036854775807 then (if ((⟨#[114]⟩ : ByteArray) ++ t).size + 1 ≤ 9223372036854775807 then ((spec_l3List.f k l).bind fun u => (if (((⟨#[114]⟩ : ByteArray) ++ t) ++ (⟨#[40]⟩ : ByteArray)).size + u.size ≤ 9223372036854775807 then (if ((((⟨#[114]⟩ : ByteArray) ++ t) ++ (⟨#[40]⟩ : ByteArray)) ++ u).size + 1 ≤ 9223372036854775807 then (some (((((⟨#[114]⟩ : ByteArray) ++ t) ++ (⟨#[40]⟩ : ByteArray)) ++ u) ++ (⟨#[41]⟩ : ByteArray))) else none) else none)) else none) else none) (fun k => ?_) ?_
      · simp only [spec_FormatAtom.j0]
        rw [if_neg (by simp)]
      · refine evb (specFmt_ev r (by omega) (by omega)) ?_
        have e1 : (⟨#[114]⟩ : ByteArray) = strOfNums [114] := rfl
        have e2 : (⟨#[40]⟩ : ByteArray) = strOfNums [40] := rfl
        have e3 : (⟨#[41]⟩ : ByteArray) = strOfNums [41] := rfl
        simp only [e1, e2, e3, ← strOfNums_append, strOfNums_size]
        have z1 : 1 + (mFmt r).length ≤ 9223372036854775807 := by omega
        have z2 : ([114] ++ mFmt r).length + 1 ≤ 9223372036854775807 := by simp; omega
        simp only [if_pos z1, if_pos z2]
        refine evb (l3List_ev l hl) ?_
        simp only [← strOfNums_append, strOfNums_size]
        have z3 : ([114] ++ mFmt r ++ [40]).length + (mJoin [44] (l.map mFmtTerm)).length ≤ 9223372036854775807 := by simp; omega
        have z4 : ([114] ++ mFmt r ++ [40] ++ mJoin [44] (l.map mFmtTerm)).length + 1 ≤ 9223372036854775807 := by simp; omega
        simp only [if_pos z3, if_pos z4]
        exact evc fun k => rfl
    · have ef : mFmtAtom r l = [] := by unfold mFmtAtom; rw [if_neg (fun h => c2 h.2)]
      rw [show (l.all mIsTerm && decide ((l.length : Int) ≤ 3)) = false by
        rw [Bool.and_eq_false_iff]
        by_cases h3 : (l.length : Int) ≤ 3
        · left; simpa using fun h => c2 ⟨h3, h⟩
        · right; simpa using h3, ef]
      exact jt
  · have ef : mFmtAtom r l = [] := by unfold mFmtAtom; rw [if_neg (fun h => c1 h.1)]
    simp only [c1, decide_false, Bool.false_eq_true, if_false]
    rw [ef]; exact jt
theorem implFmtAtom_ev (r : Int) (l : List Int) (hl : l.length ≤ 1048576) : Ev (fun k => impl_FormatAtom.f k r l) (strOfNums (mFmtAtom r l)) := by
  unfold impl_FormatAtom.f
  have jt : Ev (fun k => impl_FormatAtom.j0 k true r l) (strOfNums []) := evn fun k => by simp only [impl_FormatAtom.j0]; rw [if_pos trivial]; rfl
  simp only [within_eq, Option.bind_some]
  by_cases c1 : 0 ≤ r ∧ r ≤ 3
  · simp only [c1, and_self, decide_true, if_true]
    by_cases c2 : (l.length : Int) > 3
    · have ef : mFmtAtom r l = [] := by unfold mFmtAtom; rw [if_neg (fun h => by have := h.2.1; omega)]
      simp only [if_pos c2]
      rw [ef]; exact jt
    · simp only [if_neg c2]
      refine evb (areTerms_ev l (by omega)) ?_
      by_cases c3 : l.all mIsTerm = true
      · have ef : mFmtAtom r l = [114] ++ mFmt r ++ [40] ++ mJoin [44] (l.map mFmtTerm) ++ [41] := by unfold mFmtAtom; rw [if_pos ⟨c1, by omega, c3⟩]
        rw [c3, ef]
        have hr := rel_fmt2 c1
        have hj := join_terms_len l
        refine Ev.step (f := fun k => impl_FormatAtom.l0 k ([] : List ByteArray) l (l.length : Int) 0 r l) (fun k => ?_) ?_
        · simp only [impl_FormatAtom.j0]
          rw [if_neg (by simp)]
        · have key := idx_ind l (fun pre suf => Ev (fun k => impl_FormatAtom.l0 k ((pre.map mFmtTerm).map strOfNums) l (l.length : Int) (pre.length : Int) r l) (strOfNums ([114] ++ mFmt r ++ [40] ++ mJoin [44] (l.map mFmtTerm) ++ [41]))) ?_ ?_
          · exact key
          · refine Ev.step (f := fun k => (impl_FormatInt.f k r).bind fun t => if 1 + t.size ≤ 9223372036854775807 then (if ((⟨#[114]⟩ : ByteArray) ++ t).size + 1 ≤ 9223372036854775807 then ((impl_glued.f k ((l.map mFmtTerm).map strOfNums) (strOfNums [44])).bind fun u => (if (((⟨#[114]⟩ : ByteArray) ++ t) ++ (⟨#[40]⟩ : ByteArray)).size + u.size ≤ 9223372036854775807 then (if ((((⟨#[114]⟩ : ByteArray) ++ t) ++ (⟨#[40]⟩ : ByteArray)) ++ u).size + 1 ≤ 9223372036854775807 then (some (((((⟨#[114]⟩ : ByteArray) ++ t) ++ (⟨#[40]⟩ : ByteArray)) ++ u) ++ (⟨#[41]⟩ : ByteArray))) else none) else none)) else none) else none) (fun k => ?_) ?_
            · simp only [impl_FormatAtom.l0]
              rw [if_neg (end_not _)]
              rfl
            · refine evb (implFmt_ev r (by omega) (by omega)) ?_
              have e1 : (⟨#[114]⟩ : ByteArray) = strOfNums [114] := rfl
              have e2 : (⟨#[40]⟩ : ByteArray) = strOfNums [40] := rfl
              have e3 : (⟨#[41]⟩ : ByteArray) = strOfNums [41] := rfl
              simp only [e1, e2, e3, ← strOfNums_append, strOfNums_size]
              have z1 : 1 + (mFmt r).length ≤ 9223372036854775807 := by omega
              have z2 : ([114] ++ mFmt r).length + 1 ≤ 9223372036854775807 := by simp; omega
              simp only [if_pos z1, if_pos z2]
              refine evb (glued_ev (l.map mFmtTerm) [44] (by simp; omega) (by simp) (fun x hx => by obtain ⟨y, hy, rfl⟩ := List.mem_map.1 hx; have := term_fmt y; omega)) ?_
              simp only [← strOfNums_append, strOfNums_size]
              have z3 : ([114] ++ mFmt r ++ [40]).length + (mJoin [44] (l.map mFmtTerm)).length ≤ 9223372036854775807 := by simp; omega
              have z4 : ([114] ++ mFmt r ++ [40] ++ mJoin [44] (l.map mFmtTerm)).length + 1 ≤ 9223372036854775807 := by simp; omega
              simp only [if_pos z3, if_pos z4]
              exact evc fun k => rfl
          · intro pre a suf e ih
            have hp : pre.length < 1048576 := by rw [e] at hl; simp at hl; omega
            refine Ev.step (f := fun k => (impl_FormatTerm.f k a).bind fun t => impl_FormatAtom.l0 k ((pre.map mFmtTerm).map strOfNums ++ [t]) l (l.length : Int) ((pre ++ [a]).length : Int) r l) (fun k => ?_) ?_
            · have hc : ((pre.map mFmtTerm).map strOfNums).length < 8796093022208 := by simp; omega
              simp only [impl_FormatAtom.l0]
              rw [if_pos (lt_of e), if_pos (len_nonneg _), if_pos (lt_of e), rd_of e, nx_of e (by omega)]
              simp only [if_pos hc]
            · refine evb (implFmtTerm_ev a) ?_
              simpa using ih
      · have ef : mFmtAtom r l = [] := by unfold mFmtAtom; rw [if_neg (fun h => c3 h.2.2)]
        rw [ef, show l.all mIsTerm = false by simpa using c3]
        exact jt
  · have ef : mFmtAtom r l = [] := by unfold mFmtAtom; rw [if_neg (fun h => c1 h.1)]
    simp only [c1, decide_false, Bool.false_eq_true, if_false]
    rw [ef]; exact jt

theorem FnExactFormatAtom (r : Int) (l : List Int) (w0 : WfI r ∧ (WfL WfI) l) : ∃ k, laws_FnExactFormatAtom.f k r l = some true := by
  refine Ev.rounds ?_
  unfold laws_FnExactFormatAtom.f
  obtain ⟨t0, z0, c0⟩ := szAtom_ok r l 1048576 w0.2 (by omega) (by omega)
  refine evb z0 ?_
  rcases c0 with c0 | ⟨p0, q0, hs0⟩
  · simp only [if_pos c0]; exact evc fun k => rfl
  have n0 : ¬ t0 < 0 := by omega
  simp only [if_neg n0]
  refine evb (toAtom_ev r l (by omega)) ?_
  refine evb (specFmtAtom_ev r l (by omega)) ?_
  refine evb (toAtom_ev r l (by omega)) ?_
  refine evb (implFmtAtom_ev r l (by omega)) ?_
  simp only [if_true]
  refine evb (toAtom_ev r l (by omega)) ?_
  refine evb (eqAtom_ev r l r l (by omega)) ?_
  simp only [and_self, decide_true, if_true]
  exact evc fun k => rfl

end Go.Proofs.Ytpfpappamlgnoaa.Pure
