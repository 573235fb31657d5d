/- The pure statement of the law FnExactFormatMapping: the program's function and the reference's agree, for all arguments within the row's bounds. -/
import Derived.Test.YtpfpappamlgnoaaQFnExactFormatMappingx4
import Derived.Test.YtpfpappamlgnoaaMine
import Derived.Test.YtpfpappamlgnoaaOpen
set_option linter.unusedVariables false
set_option linter.unusedSimpArgs false
namespace Go.Proofs.Ytpfpappamlgnoaa.Pure
open Go.RowKit Go.Proofs.Ytpfpappamlgnoaa.QFnExactFormatMapping Go.Proofs.YtpfpappamlgnoaaW.PrintWords Go.Proofs.YtpfpappamlgnoaaW.PrintLast Go.Proofs.Ytpfpappamlgnoaa.Mine Go.Proofs.Ytpfpappamlgnoaa.Open

/-! ### FormatInt -/
theorem tdiv_neg10 (m : Nat) : Int.tdiv (-(m : Int)) 10 = -((m / 10 : Nat) : Int) := by
  rw [Int.neg_tdiv, Int.tdiv_eq_ediv_of_nonneg (by omega)]; omega
theorem tmod_neg10 (m : Nat) : Int.tmod (-(m : Int)) 10 = -((m % 10 : Nat) : Int) := by
  rw [Int.neg_tmod, Int.tmod_eq_emod_of_nonneg (by omega)]; omega
theorem tdiv_pos10 (m : Nat) : Int.tdiv (m : Int) 10 = ((m / 10 : Nat) : Int) := by
  rw [Int.tdiv_eq_ediv_of_nonneg (by omega)]; omega
theorem tmod_pos10 (m : Nat) : Int.tmod (m : Int) 10 = ((m % 10 : Nat) : Int) := by
  rw [Int.tmod_eq_emod_of_nonneg (by omega)]; omega
theorem append_empty_left (b : ByteArray) : strOfNums [] ++ b = b := by simp [strOfNums, ByteArray.ext_iff]
theorem dig_byte (d : Nat) (h : d < 10) : (48 + (d : Int)) % 256 = 48 + (d : Int) := by omega
theorem specFmt_pos : ∀ (j m : Nat) (out : ByteArray), m < 10 ^ j → m ≤ 9223372036854775807 → out.size + j ≤ 1000 → Ev (fun k => spec_FormatInt.l0 k m out false) (strOfNums (mDig m) ++ out)
  | 0, m, out, h, hm, ho => by
    obtain rfl : m = 0 := by simpa using h
    refine evn fun k => ?_
    simp only [spec_FormatInt.l0]
    rw [if_pos (by omega), if_neg (by simp), mDig_zero, append_empty_left]
  | j + 1, m, out, h, hm, ho => by
    by_cases h0 : m = 0
    · subst h0
      refine evn fun k => ?_
      simp only [spec_FormatInt.l0]
      rw [if_pos (by omega), if_neg (by simp), mDig_zero, append_empty_left]
    · have hj : m / 10 < 10 ^ j := by rw [Nat.pow_succ] at h; omega
      have hs : (strOfNums [48 + ((m % 10 : Nat) : Int)] ++ out).size + j ≤ 1000 := by rw [ByteArray.size_append, strOfNums_size]; simp; omega
      have r := specFmt_pos j (m / 10) (strOfNums [48 + ((m % 10 : Nat) : Int)] ++ out) hj (by omega) hs
      rw [mDig_pos h0, strOfNums_append, ByteArray.append_assoc]
      refine Ev.step (fun k => ?_) r
      simp only [spec_FormatInt.l0]
      rw [if_neg (by omega), tmod_pos10, tdiv_pos10, if_neg (by omega)]
      simp only [Option.bind_some]
      rw [w64 (by omega) (by omega), dig_byte _ (by omega), if_pos (by rw [strOfNums_size]; simp; omega), w64 (by omega) (by omega)]
theorem specFmt_neg : ∀ (j m : Nat) (out : ByteArray), m < 10 ^ j → m ≤ 9223372036854775808 → out.size + j ≤ 1000 → Ev (fun k => spec_FormatInt.l0 k (-(m : Int)) out true) (strOfNums [45] ++ (strOfNums (mDig m) ++ out))
  | 0, m, out, h, hm, ho => by
    obtain rfl : m = 0 := by simpa using h
    refine evn fun k => ?_
    simp only [spec_FormatInt.l0]
    rw [if_pos (by omega), if_pos trivial, if_pos (by omega), mDig_zero, append_empty_left]
    rfl
  | j + 1, m, out, h, hm, ho => by
    by_cases h0 : m = 0
    · subst h0
      refine evn fun k => ?_
      simp only [spec_FormatInt.l0]
      rw [if_pos (by omega), if_pos trivial, if_pos (by omega), mDig_zero, append_empty_left]
      rfl
    · have hj : m / 10 < 10 ^ j := by rw [Nat.pow_succ] at h; omega
      have hs : (strOfNums [48 + ((m % 10 : Nat) : Int)] ++ out).size + j ≤ 1000 := by rw [ByteArray.size_append, strOfNums_size]; simp; omega
      have r := specFmt_neg j (m / 10) (strOfNums [48 + ((m % 10 : Nat) : Int)] ++ out) hj (by omega) hs
      rw [mDig_pos h0, strOfNums_append, ByteArray.append_assoc]
      refine Ev.step (fun k => ?_) r
      simp only [spec_FormatInt.l0]
      rw [if_neg (by omega), tmod_neg10, tdiv_neg10]
      by_cases hd : m % 10 = 0
      · rw [if_neg (by omega)]
        simp only [Option.bind_some]
        rw [w64 (by omega) (by omega), if_pos (by rw [strOfNums_size]; simp; omega), w64 (by omega) (by omega)]
        rw [show (48 + -((m % 10 : Nat) : Int)) % 256 = 48 + ((m % 10 : Nat) : Int) by omega]
      · rw [if_pos (by omega)]
        simp only [Option.bind_some]
        rw [w64 (x := - -((m % 10 : Nat) : Int)) (by omega) (by omega), w64 (by omega) (by omega), if_pos (by rw [strOfNums_size]; simp; omega), w64 (by omega) (by omega)]
        rw [show (48 + - -((m % 10 : Nat) : Int)) % 256 = 48 + ((m % 10 : Nat) : Int) by omega]
theorem append_empty_right (b : ByteArray) : b ++ (⟨#[]⟩ : ByteArray) = b := by simp [ByteArray.ext_iff]
theorem specFmt_ev (n : Int) (h0 : -9223372036854775808 ≤ n) (h1 : n ≤ 9223372036854775807) : Ev (fun k => spec_FormatInt.f k n) (strOfNums (mFmt n)) := by
  unfold spec_FormatInt.f mFmt
  by_cases hz : n = 0
  · simp only [if_pos hz]; exact evc fun k => rfl
  · simp only [if_neg hz]
    by_cases hn : n < 0
    · obtain ⟨m, rfl⟩ : ∃ m : Nat, n = -(m : Int) := ⟨n.natAbs, by omega⟩
      have r := specFmt_neg 20 m ⟨#[]⟩ (by omega) (by omega) (by simp [ByteArray.size])
      rw [append_empty_right] at r
      rw [if_pos hn, decide_eq_true hn, show (-(m : Int)).natAbs = m by omega]
      rw [show (45 : Int) :: mDig m = [45] ++ mDig m from rfl, strOfNums_append]
      exact r
    · obtain ⟨m, rfl⟩ : ∃ m : Nat, n = (m : Int) := ⟨n.natAbs, by omega⟩
      have r := specFmt_pos 20 m ⟨#[]⟩ (by omega) (by omega) (by simp [ByteArray.size])
      rw [append_empty_right] at r
      rw [if_neg hn, decide_eq_false hn, show ((m : Int)).natAbs = m by omega]
      exact r
theorem implRev : ∀ (n : Nat) (M A B : List Int), M.length ≤ n → A.length = B.length → (A ++ M ++ B).length ≤ 1000 → Ev (fun k => impl_FormatInt.l1 k (A ++ M ++ B) (A.length : Int) ((A.length : Int) + (M.length : Int) - 1)) (strOfNums (A ++ M.reverse ++ B))
  | n, [], A, B, hn, hab, hl => by
    refine evn fun k => ?_
    simp only [impl_FormatInt.l1]
    rw [if_neg (by simp <;> omega)]; simp
  | n, [a], A, B, hn, hab, hl => by
    refine evn fun k => ?_
    simp only [impl_FormatInt.l1]
    rw [if_neg (by simp <;> omega)]; simp
  | 0, a :: c :: R, A, B, hn, hab, hl => by simp at hn
  | n + 1, a :: c :: R, A, B, hn, hab, hl => by
    obtain ⟨M', b, hM⟩ : ∃ M' b, c :: R = M' ++ [b] := ⟨(c :: R).dropLast, (c :: R).getLast (by simp), (List.dropLast_concat_getLast (by simp)).symm⟩
    rw [hM]
    have hlen : M'.length + 1 = R.length + 1 := by have := congrArg List.length hM; simpa using this.symm
    have hsz : A.length + M'.length + B.length + 2 ≤ 1000 := by simp at hl; omega
    have r := implRev n M' (A ++ [b]) (a :: B) (by simp at hn; omega) (by simp [hab]) (by simp; omega)
    have e1 : (A ++ a :: (M' ++ [b]) ++ B) = A ++ a :: (M' ++ b :: B) := by simp
    have e2 : (A ++ a :: (M' ++ b :: B)) = (A ++ a :: M') ++ b :: B := by simp
    have ei : (A.length : Int) + ((a :: (M' ++ [b])).length : Int) - 1 = ((A ++ a :: M').length : Int) := by simp; omega
    have er : A ++ (a :: (M' ++ [b])).reverse ++ B = (A ++ [b]) ++ M'.reverse ++ (a :: B) := by simp
    rw [er, ei, e1]
    refine Ev.step (fun k => ?_) r
    simp only [impl_FormatInt.l1]
    have ra : rd (A ++ a :: (M' ++ b :: B)) (A.length : Int) = a := rd_mid _ _ _
    have rb : rd (A ++ a :: (M' ++ b :: B)) ((A ++ a :: M').length : Int) = b := by rw [e2]; exact rd_mid _ _ _
    rw [if_pos (by simp; omega), if_pos (by omega), if_pos (by simp; omega), if_pos (by omega), if_pos (by simp; omega), ra, rb, set_mid]
    have e3 : (A ++ b :: (M' ++ b :: B)) = (A ++ b :: M') ++ b :: B := by simp
    have e4 : ((A ++ a :: M').length : Int) = ((A ++ b :: M').length : Int) := by simp
    rw [e3, e4, set_mid, w64 (by omega) (by omega), w64 (by simp; omega) (by simp; omega)]
    congr 1
    · simp
    · simp
    · simp; omega
theorem implFmt_end (x : Int) (acc : List Int) (h : acc.length ≤ 900) : Ev (fun k => impl_FormatInt.l0 k x acc 0) (strOfNums ((if x < 0 then [45] else []) ++ acc.reverse)) := by
  have jr : ∀ y : List Int, y.length ≤ 901 → Ev (fun k => impl_FormatInt.j1 k y) (strOfNums y.reverse) := by
    intro y hy
    have r := implRev y.length y [] [] (Nat.le_refl _) rfl (by simp; omega)
    simp only [List.nil_append, List.append_nil, List.length_nil] at r
    refine Ev.step (fun k => ?_) r
    simp only [impl_FormatInt.j1]
    rw [w64 (by omega) (by omega)]
    congr 1; simp
  by_cases hx : x < 0
  · have r := jr (acc ++ [45]) (by simp; omega)
    rw [if_pos hx]
    refine Ev.step (fun k => ?_) (by simpa using r)
    simp only [impl_FormatInt.l0]
    rw [if_pos trivial, if_pos hx, if_pos (by omega)]
  · have r := jr acc (by omega)
    rw [if_neg hx]
    refine Ev.step (fun k => ?_) (by simpa using r)
    simp only [impl_FormatInt.l0]
    rw [if_pos trivial, if_neg hx]
theorem implFmt_pos (x : Int) : ∀ (j m : Nat) (acc : List Int), m < 10 ^ j → m ≤ 9223372036854775807 → acc.length + j ≤ 900 → Ev (fun k => impl_FormatInt.l0 k x acc m) (strOfNums ((if x < 0 then [45] else []) ++ (mDig m ++ acc.reverse)))
  | 0, m, acc, h, hm, ho => by
    obtain rfl : m = 0 := by simpa using h
    rw [mDig_zero]; exact implFmt_end x acc (by omega)
  | j + 1, m, acc, h, hm, ho => by
    by_cases h0 : m = 0
    · subst h0; rw [mDig_zero]; exact implFmt_end x acc (by omega)
    · have hj : m / 10 < 10 ^ j := by rw [Nat.pow_succ] at h; omega
      have r := implFmt_pos x j (m / 10) (acc ++ [48 + ((m % 10 : Nat) : Int)]) hj (by omega) (by simp; omega)
      rw [mDig_pos h0]
      refine Ev.step (fun k => ?_) (by simpa using r)
      simp only [impl_FormatInt.l0]
      rw [if_neg (by omega), tmod_pos10, tdiv_pos10, if_neg (by omega), if_pos (by omega), w64 (by omega) (by omega), dig_byte _ (by omega), w64 (by omega) (by omega)]
      simp
theorem implFmt_neg (x : Int) : ∀ (j m : Nat) (acc : List Int), m < 10 ^ j → m ≤ 9223372036854775808 → acc.length + j ≤ 900 → Ev (fun k => impl_FormatInt.l0 k x acc (-(m : Int))) (strOfNums ((if x < 0 then [45] else []) ++ (mDig m ++ acc.reverse)))
  | 0, m, acc, h, hm, ho => by
    obtain rfl : m = 0 := by simpa using h
    rw [mDig_zero]; exact implFmt_end x acc (by omega)
  | j + 1, m, acc, h, hm, ho => by
    by_cases h0 : m = 0
    · subst h0; rw [mDig_zero]; exact implFmt_end x acc (by omega)
    · have hj : m / 10 < 10 ^ j := by rw [Nat.pow_succ] at h; omega
      have r := implFmt_neg x j (m / 10) (acc ++ [48 + ((m % 10 : Nat) : Int)]) hj (by omega) (by simp; omega)
      rw [mDig_pos h0]
      refine Ev.step (fun k => ?_) (by simpa using r)
      simp only [impl_FormatInt.l0]
      rw [if_neg (by omega), tmod_neg10, tdiv_neg10]
      by_cases hd : m % 10 = 0
      · rw [if_neg (by omega), if_pos (by omega), w64 (by omega) (by omega), w64 (by omega) (by omega)]
        rw [show (48 + -((m % 10 : Nat) : Int)) % 256 = 48 + ((m % 10 : Nat) : Int) by omega]
        simp
      · rw [if_pos (by omega), if_pos (by omega), w64 (x := - -((m % 10 : Nat) : Int)) (by omega) (by omega), w64 (by omega) (by omega), w64 (by omega) (by omega)]
        rw [show (48 + - -((m % 10 : Nat) : Int)) % 256 = 48 + ((m % 10 : Nat) : Int) by omega]
        simp
theorem implFmt_ev (n : Int) (h0 : -9223372036854775808 ≤ n) (h1 : n ≤ 9223372036854775807) : Ev (fun k => impl_FormatInt.f k n) (strOfNums (mFmt n)) := by
  unfold impl_FormatInt.f mFmt
  by_cases hz : n = 0
  · simp only [if_pos hz]; exact evc fun k => rfl
  · simp only [if_neg hz]
    by_cases hn : n < 0
    · obtain ⟨m, rfl⟩ : ∃ m : Nat, n = -(m : Int) := ⟨n.natAbs, by omega⟩
      have r := implFmt_neg (-(m : Int)) 20 m [] (by omega) (by omega) (by simp)
      rw [if_pos hn] at r
      rw [if_pos hn, show (-(m : Int)).natAbs = m by omega]
      simpa using r
    · obtain ⟨m, rfl⟩ : ∃ m : Nat, n = (m : Int) := ⟨n.natAbs, by omega⟩
      have r := implFmt_pos (m : Int) 20 m [] (by omega) (by omega) (by simp)
      rw [if_neg hn] at r
      rw [if_neg hn, show ((m : Int)).natAbs = m by omega]
      simpa using r

theorem l1In_eq (x lo hi : Int) : spec_l1In.f x lo hi = some (decide (lo ≤ x ∧ x ≤ hi)) := by
  unfold spec_l1In.f
  by_cases h : x ≥ lo
  · rw [if_pos h]; congr 1; simp; omega
  · rw [if_neg h]; congr 1; simp; omega

theorem within_eq (x lo hi : Int) : impl_within.f x lo hi = some (decide (lo ≤ x ∧ x ≤ hi)) := by
  unfold impl_within.f
  by_cases h : x ≥ lo
  · rw [if_pos h]; congr 1; simp; omega
  · rw [if_neg h]; congr 1; simp; omega

/-! ### Terms -/

theorem specIsVar_eq (t : Int) : spec_IsVar.f t = some (mIsVar t) := by
  simp [spec_IsVar.f, l1In_eq, mIsVar]
theorem specConstOf_eq (t : Int) : spec_ConstOf.f t = some (mConstOf t) := by
  unfold spec_ConstOf.f mConstOf
  simp only [l1In_eq, Option.bind_some]
  by_cases h : -80 ≤ t ∧ t ≤ -1
  · simp only [h, and_self, decide_true, if_true]; rw [w64 (by omega) (by omega)]
  · simp only [h, decide_false, Bool.false_eq_true, if_false]

theorem implIsTerm_eq (t : Int) : impl_IsTerm.f t = some (mIsTerm t) := by
  simp [impl_IsTerm.f, within_eq, mIsTerm]

theorem implIsVar_eq (t : Int) : impl_IsVar.f t = some (mIsVar t) := by
  simp [impl_IsVar.f, within_eq, mIsVar]
theorem implConstOf_eq (t : Int) : impl_ConstOf.f t = some (mConstOf t) := by
  unfold impl_ConstOf.f mConstOf
  simp only [implIsTerm_eq, implIsVar_eq, Option.bind_some, mIsTerm, mIsVar]
  by_cases h : -80 ≤ t ∧ t ≤ -1
  · rw [if_pos h, if_pos (by simp; omega), if_neg (by simp; omega)]; rw [w64 (by omega) (by omega)]
  · rw [if_neg h]
    by_cases h2 : -80 ≤ t ∧ t ≤ 19
    · rw [if_pos (by simpa using h2), if_pos (by simp; omega)]
    · rw [if_neg (by simpa using h2)]

/-! ### FormatTerm -/
theorem str_cons (c : Int) (l : List Int) : strOfNums (c :: l) = strOfNums [c] ++ strOfNums l := by
  rw [← strOfNums_append]; rfl
theorem specFmtTerm_ev (t : Int) : Ev (fun k => spec_FormatTerm.f k t) (strOfNums (mFmtTerm t)) := by
  unfold spec_FormatTerm.f mFmtTerm
  simp only [specIsVar_eq, specConstOf_eq, Option.bind_some]
  by_cases hv : mIsVar t = true
  · simp only [if_pos hv]
    have hb : 0 ≤ t ∧ t ≤ 19 := by simpa [mIsVar] using hv
    refine evb (specFmt_ev t (by omega) (by omega)) ?_
    have hl := small_fmt (n := t) (by omega) (by omega)
    refine evc fun k => ?_
    rw [if_pos (by rw [strOfNums_size]; omega), str_cons]
    rfl
  · simp only [if_neg hv]
    have hb : ¬ (0 ≤ t ∧ t ≤ 19) := by simpa [mIsVar] using hv
    by_cases ht : -80 ≤ t ∧ t ≤ -1
    · have hc : mConstOf t = -1 - t := by unfold mConstOf; rw [if_pos ht]
      have hg : mConstOf t ≥ 0 := by omega
      simp only [if_pos hg]
      have hT : mIsTerm t = true := by simp [mIsTerm]; omega
      simp only [if_pos hT]
      rw [hc]
      refine evb (specFmt_ev (-1 - t) (by omega) (by omega)) ?_
      exact evc fun k => rfl
    · have hc : mConstOf t = -1 := by unfold mConstOf; rw [if_neg ht]
      have hg : ¬ mConstOf t ≥ 0 := by omega
      simp only [if_neg hg]
      have hT : ¬ mIsTerm t = true := by simp [mIsTerm]; omega
      simp only [if_neg hT]
      exact evc fun k => rfl
theorem implFmtTerm_ev (t : Int) : Ev (fun k => impl_FormatTerm.f k t) (strOfNums (mFmtTerm t)) := by
  unfold impl_FormatTerm.f mFmtTerm
  simp only [implIsVar_eq, implIsTerm_eq, implConstOf_eq, Option.bind_some]
  by_cases hv : mIsVar t = true
  · simp only [if_pos hv]
    have hb : 0 ≤ t ∧ t ≤ 19 := by simpa [mIsVar] using hv
    refine evb (implFmt_ev t (by omega) (by omega)) ?_
    have hl := small_fmt (n := t) (by omega) (by omega)
    refine evc fun k => ?_
    rw [if_pos (by rw [strOfNums_size]; omega), str_cons]
    rfl
  · simp only [if_neg hv]
    have hb : ¬ (0 ≤ t ∧ t ≤ 19) := by simpa [mIsVar] using hv
    by_cases hT : mIsTerm t = true
    · have ht : -80 ≤ t ∧ t ≤ 19 := by simpa [mIsTerm] using hT
      have hc : mConstOf t = -1 - t := by unfold mConstOf; rw [if_pos (by omega)]
      simp only [if_pos hT]
      rw [hc]
      refine evb (implFmt_ev (-1 - t) (by omega) (by omega)) ?_
      exact evc fun k => rfl
    · simp only [if_neg hT]
      exact evc fun k => rfl

theorem specIsTerm_eq (t : Int) : spec_IsTerm.f t = some (mIsTerm t) := by
  unfold spec_IsTerm.f
  simp only [specIsVar_eq, specConstOf_eq, Option.bind_some]
  unfold mIsVar mIsTerm mConstOf
  by_cases h : 0 ≤ t ∧ t ≤ 19
  · rw [if_pos (by simpa using h)]; congr 1; simp; omega
  · rw [if_neg (by simpa using h)]; congr 1
    by_cases h2 : -80 ≤ t ∧ t ≤ -1
    · rw [if_pos h2, decide_eq_true (by omega), decide_eq_true (by omega)]
    · rw [if_neg h2, decide_eq_false (by omega), decide_eq_false (by omega)]

/-! ### glued -/
theorem rdB_of {l pre suf : List ByteArray} {a : ByteArray} (e : l = pre ++ a :: suf) : rdOf ByteArray.empty l (pre.length : Int) = a := getD_of e _
theorem glued_ev (xs : List (List Int)) (sep : List Int) (hl : xs.length ≤ 1073741824) (hs : sep.length ≤ 10000) (hx : ∀ x ∈ xs, x.length ≤ 10000) :
    Ev (fun k => impl_glued.f k (xs.map strOfNums) (strOfNums sep)) (strOfNums (mJoin sep xs)) := by
  have key := idx_ind xs (fun pre suf => Ev (fun k => impl_glued.l0 k (strOfNums sep) (strOfNums (mJoin sep pre)) (xs.map strOfNums) ((xs.map strOfNums).length : Int) (pre.length : Int)) (strOfNums (mJoin sep xs))) ?_ ?_
  · exact key
  · refine evn fun k => ?_
    simp only [impl_glued.l0]
    rw [if_neg (by simp)]
  · intro pre a suf e ih
    have ea : xs.map strOfNums = pre.map strOfNums ++ strOfNums a :: suf.map strOfNums := by rw [e]; simp
    have hr : rdOf ByteArray.empty (xs.map strOfNums) (pre.length : Int) = strOfNums a := by
      have := rdB_of ea
      simpa using this
    have hlt : (pre.length : Int) < ((xs.map strOfNums).length : Int) := by rw [e]; simp; omega
    have hp : pre.length < 1073741824 := by rw [e] at hl; simp at hl; omega
    have hj := mJoin_len sep 10000 hs pre (fun x hxm => hx x (by rw [e]; simp [hxm]))
    have ha := hx a (by rw [e]; simp)
    have hjb : (mJoin sep pre).length ≤ 21474836480000 := by omega
    refine Ev.step (fun k => ?_) ih
    simp only [impl_glued.l0]
    rw [if_pos hlt, if_pos (len_nonneg _), if_pos hlt, hr, iw (a := a) (by omega)]
    by_cases h0 : pre = []
    · subst h0
      rw [if_neg (by simp), if_pos (by rw [strOfNums_size, strOfNums_size]; simp [mJoin]; omega), ← strOfNums_append]
      simp [mJoin, mJoinT]
    · have hp0 : 0 < pre.length := List.length_pos_iff.2 h0
      rw [if_pos (by omega), if_pos (by rw [strOfNums_size, strOfNums_size]; omega), ← strOfNums_append, if_pos (by rw [strOfNums_size, strOfNums_size]; simp; omega), ← strOfNums_append, mJoin_snoc sep a pre h0]
      simp

/-! ### FormatMapping -/
/-- The pieces of a mapping's text from place i on; none where an element is no term, or its place no variable. -/
def mPieces : Int → List Int → Option (List (List Int))
  | _, [] => some []
  | i, t :: r => if t = -1000 then mPieces (i + 1) r else if mIsVar i = true ∧ mIsTerm t = true then (mPieces (i + 1) r).map (fun p => (mFmtTerm i ++ [61] ++ mFmtTerm t) :: p) else none
def mFmtMap (m : List Int) : List Int := match mPieces 0 m with
  | none => []
  | some [] => [110, 111, 110, 101]
  | some (p :: q) => mJoin [32] (p :: q)
theorem piece_len (i t : Int) : (mFmtTerm i ++ [61] ++ mFmtTerm t).length ≤ 10 := by
  have h1 := term_fmt i
  have h2 := term_fmt t
  simp; omega
def mMapEnd (acc : List (List Int)) : Option (List (List Int)) → ByteArray
  | none => strOfNums []
  | some q => if acc ++ q = [] then strOfNums [110, 111, 110, 101] else strOfNums (mJoin [32] (acc ++ q))
theorem implMap_l0 (m : List Int) (hm : m.length ≤ 1048576) : Ev (fun k => impl_FormatMapping.f k m) (mMapEnd [] (mPieces 0 m)) := by
  have key := idx_ind m (fun pre suf => ∀ acc : List (List Int), acc.length ≤ pre.length → (∀ x ∈ acc, x.length ≤ 10) → Ev (fun k => impl_FormatMapping.l0 k (acc.map strOfNums) m (m.length : Int) (pre.length : Int)) (mMapEnd acc (mPieces (pre.length : Int) suf))) ?_ ?_
  · exact key [] (Nat.le_refl _) (by simp)
  · intro acc ha hx
    rw [show mMapEnd acc (mPieces (m.length : Int) []) = if acc = [] then strOfNums [110, 111, 110, 101] else strOfNums (mJoin [32] acc) by simp [mMapEnd, mPieces]]
    by_cases h0 : acc = []
    · rw [if_pos h0]
      subst h0
      refine evn fun k => ?_
      simp only [impl_FormatMapping.l0]
      rw [if_neg (end_not _), if_pos (by simp)]
      rfl
    · rw [if_neg h0]
      have hp : 0 < acc.length := List.length_pos_iff.2 h0
      refine Ev.step (f := fun k => (impl_glued.f k (acc.map strOfNums) (strOfNums [32])).bind fun t => some t) (fun k => ?_) ?_
      · simp only [impl_FormatMapping.l0]
        rw [if_neg (end_not _), if_neg (by simp; omega)]
        rfl
      · exact evb (glued_ev acc [32] (by omega) (by simp) (fun x hx' => by have := hx x hx'; omega)) (evc fun k => rfl)
  · intro pre t suf e ih acc ha hx
    have hp : pre.length < 1048576 := by rw [e] at hm; simp at hm; omega
    have hpl : ((pre ++ [t]).length : Int) = (pre.length : Int) + 1 := by simp
    by_cases ht : t = -1000
    · have r := ih acc (by simp; omega) hx
      rw [hpl] at r
      rw [mPieces, if_pos ht]
      refine Ev.step (fun k => ?_) r
      simp only [impl_FormatMapping.l0]
      rw [if_pos (lt_of e), if_pos (len_nonneg _), if_pos (lt_of e), rd_of e, if_pos ht, w64 (by omega) (by omega)]
    · rw [mPieces, if_neg ht]
      have jbad : Ev (fun k => impl_FormatMapping.j1 k (acc.map strOfNums) (pre.length : Int) t m (m.length : Int) (pre.length : Int) true) (strOfNums []) := evn fun k => by
        simp only [impl_FormatMapping.j1]
        rw [if_pos trivial]; rfl
      by_cases hv : mIsVar (pre.length : Int) = true
      · by_cases hT : mIsTerm t = true
        · rw [if_pos ⟨hv, hT⟩]
          have r := ih (acc ++ [mFmtTerm (pre.length : Int) ++ [61] ++ mFmtTerm t]) (by simp; omega) (fun x hx' => by
            rcases List.mem_append.1 hx' with h | h
            · exact hx x h
            · rw [List.mem_singleton.1 h]; exact piece_len _ _)
          rw [hpl] at r
          have em : mMapEnd acc ((mPieces ((pre.length : Int) + 1) suf).map (fun p => (mFmtTerm (pre.length : Int) ++ [61] ++ mFmtTerm t) :: p)) = mMapEnd (acc ++ [mFmtTerm (pre.length : Int) ++ [61] ++ mFmtTerm t]) (mPieces ((pre.length : Int) + 1) suf) := by
            cases mPieces ((pre.length : Int) + 1) suf with
            | none => rfl
            | some q => simp [mMapEnd]
          rw [em]
          refine Ev.step (f := fun k => impl_FormatMapping.j1 k (acc.map strOfNums) (pre.length : Int) t m (m.length : Int) (pre.length : Int) false) (fun k => ?_) ?_
          · simp only [impl_FormatMapping.l0]
            rw [if_pos (lt_of e), if_pos (len_nonneg _), if_pos (lt_of e), rd_of e, if_neg ht, implIsVar_eq]
            simp only [Option.bind_some]
            rw [if_pos hv, implIsTerm_eq]
            simp only [Option.bind_some, hT, Bool.not_true]
          · refine Ev.step (f := fun k => (impl_FormatTerm.f k (pre.length : Int)).bind fun u => if u.size + 1 ≤ 9223372036854775807 then ((impl_FormatTerm.f k t).bind fun v => if (u ++ strOfNums [61]).size + v.size ≤ 9223372036854775807 then (if (acc.map strOfNums).length < 8796093022208 then impl_FormatMapping.l0 k (acc.map strOfNums ++ [(u ++ strOfNums [61]) ++ v]) m (m.length : Int) ((pre.length : Int) + 1) else none) else none) else none) (fun k => ?_) ?_
            · simp only [impl_FormatMapping.j1]
              rw [if_neg (by simp), w64 (by omega) (by omega)]
              rfl
            · refine evb (implFmtTerm_ev _) ?_
              have h1 := term_fmt (pre.length : Int)
              have h2 := term_fmt t
              have z1 : (strOfNums (mFmtTerm (pre.length : Int))).size + 1 ≤ 9223372036854775807 := by rw [strOfNums_size]; omega
              simp only [if_pos z1]
              refine evb (implFmtTerm_ev t) ?_
              have z2 : (strOfNums (mFmtTerm (pre.length : Int) ++ [61])).size + (strOfNums (mFmtTerm t)).size ≤ 9223372036854775807 := by rw [strOfNums_size, strOfNums_size]; simp; omega
              have z3 : (acc.map strOfNums).length < 8796093022208 := by simp; omega
              simp only [← strOfNums_append]
              simp only [if_pos z2, if_pos z3]
              simpa using r
        · rw [if_neg (fun h => hT h.2)]
          show Ev _ (strOfNums [])
          refine Ev.step (fun k => ?_) jbad
          simp only [impl_FormatMapping.l0]
          rw [if_pos (lt_of e), if_pos (len_nonneg _), if_pos (lt_of e), rd_of e, if_neg ht, implIsVar_eq]
          simp only [Option.bind_some]
          rw [if_pos hv, implIsTerm_eq]
          simp only [Option.bind_some, show mIsTerm t = false by simpa using hT, Bool.not_false]
      · rw [if_neg (fun h => hv h.1)]
        show Ev _ (strOfNums [])
        refine Ev.step (fun k => ?_) jbad
        simp only [impl_FormatMapping.l0]
        rw [if_pos (lt_of e), if_pos (len_nonneg _), if_pos (lt_of e), rd_of e, if_neg ht, implIsVar_eq]
        simp only [Option.bind_some]
        rw [if_neg hv]
theorem str_nil {α : Type} (l : List Int) (x y : α) : (if (strOfNums l).toList = ([] : List UInt8) then x else y) = if l = [] then x else y := by
  have e : (strOfNums l).toList = ([] : List UInt8) ↔ l = [] := by
    rw [ByteArray.toList_eq]
    simp [strOfNums]
  by_cases h : l = []
  · rw [if_pos h, if_pos (e.2 h)]
  · rw [if_neg h, if_neg (fun h' => h (e.1 h'))]
theorem join_nil (sep : List Int) (xs : List (List Int)) (h : ∀ x ∈ xs, x ≠ []) : mJoin sep xs = [] ↔ xs = [] := by
  cases xs with
  | nil => simp [mJoin]
  | cons x t =>
    have := h x List.mem_cons_self
    simp [mJoin, this]
theorem specMap_l0 (m : List Int) (hm : m.length ≤ 1048576) : Ev (fun k => spec_FormatMapping.f k m) (mMapEnd [] (mPieces 0 m)) := by
  have key := idx_ind m (fun pre suf => ∀ acc : List (List Int), acc.length ≤ pre.length → (∀ x ∈ acc, x.length ≤ 10 ∧ x ≠ []) → Ev (fun k => spec_FormatMapping.l0 k m (strOfNums (mJoin [32] acc)) (pre.length : Int)) (mMapEnd acc (mPieces (pre.length : Int) suf))) ?_ ?_
  · exact key [] (Nat.le_refl _) (by simp)
  · intro acc ha hx
    rw [show mMapEnd acc (mPieces (m.length : Int) []) = if acc = [] then strOfNums [110, 111, 110, 101] else strOfNums (mJoin [32] acc) by simp [mMapEnd, mPieces]]
    refine evn fun k => ?_
    simp only [spec_FormatMapping.l0]
    rw [if_neg (end_not _), str_nil]
    have jn := join_nil [32] acc (fun x h => (hx x h).2)
    by_cases h0 : acc = []
    · rw [if_pos h0, if_pos (jn.2 h0)]; rfl
    · rw [if_neg h0, if_neg (fun h => h0 (jn.1 h))]
  · intro pre t suf e ih acc ha hx
    have hp : pre.length < 1048576 := by rw [e] at hm; simp at hm; omega
    have hpl : ((pre ++ [t]).length : Int) = (pre.length : Int) + 1 := by simp
    have jn := join_nil [32] acc (fun x h => (hx x h).2)
    have hjl := mJoin_len [32] 10 (by simp) acc (fun x h => (hx x h).1)
    by_cases ht : t = -1000
    · have r := ih acc (by simp; omega) hx
      rw [hpl] at r
      rw [mPieces, if_pos ht]
      refine Ev.step (fun k => ?_) r
      simp only [spec_FormatMapping.l0]
      rw [if_pos (lt_of e), if_pos (len_nonneg _), rd_of e, if_pos ht, w64 (by omega) (by omega)]
    · rw [mPieces, if_neg ht]
      have jbad : Ev (fun k => spec_FormatMapping.j1 k m (strOfNums (mJoin [32] acc)) (pre.length : Int) true) (strOfNums []) := evn fun k => by
        simp only [spec_FormatMapping.j1]
        rw [if_pos trivial]; rfl
      by_cases hT : mIsTerm t = true
      · by_cases hv : mIsVar (pre.length : Int) = true
        · rw [if_pos ⟨hv, hT⟩]
          have hne : mFmtTerm (pre.length : Int) ++ [61] ++ mFmtTerm t ≠ [] := by simp
          have r := ih (acc ++ [mFmtTerm (pre.length : Int) ++ [61] ++ mFmtTerm t]) (by simp; omega) (fun x hx' => by
            rcases List.mem_append.1 hx' with h | h
            · exact hx x h
            · rw [List.mem_singleton.1 h]; exact ⟨piece_len _ _, hne⟩)
          rw [hpl] at r
          have em : mMapEnd acc ((mPieces ((pre.length : Int) + 1) suf).map (fun p => (mFmtTerm (pre.length : Int) ++ [61] ++ mFmtTerm t) :: p)) = mMapEnd (acc ++ [mFmtTerm (pre.length : Int) ++ [61] ++ mFmtTerm t]) (mPieces ((pre.length : Int) + 1) suf) := by
            cases mPieces ((pre.length : Int) + 1) suf with
            | none => rfl
            | some q => simp [mMapEnd]
          rw [em]
          have h1 := term_fmt (pre.length : Int)
          have h2 := term_fmt t
          refine Ev.step (f := fun k => spec_FormatMapping.j1 k m (strOfNums (mJoin [32] acc)) (pre.length : Int) false) (fun k => ?_) ?_
          · simp only [spec_FormatMapping.l0]
            rw [if_pos (lt_of e), if_pos (len_nonneg _), rd_of e, if_neg ht, specIsTerm_eq]
            simp only [Option.bind_some]
            rw [if_pos hT, specIsVar_eq]
            simp only [Option.bind_some, hv, Bool.not_true]
          · by_cases h0 : acc = []
            · subst h0
              refine Ev.step (f := fun k => (spec_FormatTerm.f k (pre.length : Int)).bind fun u => if (strOfNums (mJoin [32] [])).size + u.size ≤ 9223372036854775807 then (if (strOfNums (mJoin [32] []) ++ u).size + 1 ≤ 9223372036854775807 then ((spec_FormatTerm.f k t).bind fun v => if ((strOfNums (mJoin [32] []) ++ u) ++ strOfNums [61]).size + v.size ≤ 9223372036854775807 then spec_FormatMapping.l0 k m (((strOfNums (mJoin [32] []) ++ u) ++ strOfNums [61]) ++ v) ((pre.length : Int) + 1) else none) else none) else none) (fun k => ?_) ?_
              · simp only [spec_FormatMapping.j1]
                rw [if_neg (by simp), str_nil, if_pos (jn.2 rfl), w64 (by omega) (by omega)]
                simp only [if_pos (len_nonneg pre), if_pos (lt_of e), rd_of e]
                rfl
              · refine evb (specFmtTerm_ev _) ?_
                simp only [← strOfNums_append, strOfNums_size]
                have z1 : (mJoin [32] ([] : List (List Int))).length + (mFmtTerm (pre.length : Int)).length ≤ 9223372036854775807 := by simp [mJoin]; omega
                have z2 : (mJoin [32] ([] : List (List Int)) ++ mFmtTerm (pre.length : Int)).length + 1 ≤ 9223372036854775807 := by simp [mJoin]; omega
                simp only [if_pos z1, if_pos z2]
                refine evb (specFmtTerm_ev t) ?_
                simp only [← strOfNums_append, strOfNums_size]
                have z3 : (mJoin [32] ([] : List (List Int)) ++ mFmtTerm (pre.length : Int) ++ [61]).length + (mFmtTerm t).length ≤ 9223372036854775807 := by simp [mJoin]; omega
                simp only [if_pos z3]
                simpa [mJoin, mJoinT] using r
            · refine Ev.step (f := fun k => (spec_FormatTerm.f k (pre.length : Int)).bind fun u => if (strOfNums (mJoin [32] acc) ++ strOfNums [32]).size + u.size ≤ 9223372036854775807 then (if ((strOfNums (mJoin [32] acc) ++ strOfNums [32]) ++ u).size + 1 ≤ 9223372036854775807 then ((spec_FormatTerm.f k t).bind fun v => if (((strOfNums (mJoin [32] acc) ++ strOfNums [32]) ++ u) ++ strOfNums [61]).size + v.size ≤ 9223372036854775807 then spec_FormatMapping.l0 k m ((((strOfNums (mJoin [32] acc) ++ strOfNums [32]) ++ u) ++ strOfNums [61]) ++ v) ((pre.length : Int) + 1) else none) else none) else none) (fun k => ?_) ?_
              · simp only [spec_FormatMapping.j1]
                rw [if_neg (by simp), str_nil, if_neg (fun h => h0 (jn.1 h)), if_pos (by rw [strOfNums_size]; omega), w64 (by omega) (by omega)]
                simp only [if_pos (len_nonneg pre), if_pos (lt_of e), rd_of e]
                rfl
              · refine evb (specFmtTerm_ev _) ?_
                simp only [← strOfNums_append, strOfNums_size]
                have z1 : (mJoin [32] acc ++ [32]).length + (mFmtTerm (pre.length : Int)).length ≤ 9223372036854775807 := by simp; omega
                have z2 : (mJoin [32] acc ++ [32] ++ mFmtTerm (pre.length : Int)).length + 1 ≤ 9223372036854775807 := by simp; omega
                simp only [if_pos z1, if_pos z2]
                refine evb (specFmtTerm_ev t) ?_
                simp only [← strOfNums_append, strOfNums_size]
                have z3 : (mJoin [32] acc ++ [32] ++ mFmtTerm (pre.length : Int) ++ [61]).length + (mFmtTerm t).length ≤ 9223372036854775807 := by simp; omega
                simp only [if_pos z3]
                rw [mJoin_snoc [32] _ acc h0] at r
                simpa using r
        · rw [if_neg (fun h => hv h.1)]
          show Ev _ (strOfNums [])
          refine Ev.step (fun k => ?_) jbad
          simp only [spec_FormatMapping.l0]
          rw [if_pos (lt_of e), if_pos (len_nonneg _), rd_of e, if_neg ht, specIsTerm_eq]
          simp only [Option.bind_some]
          rw [if_pos hT, specIsVar_eq]
          simp only [Option.bind_some, show mIsVar (pre.length : Int) = false by simpa using hv, Bool.not_false]
      · rw [if_neg (fun h => hT h.2)]
        show Ev _ (strOfNums [])
        refine Ev.step (fun k => ?_) jbad
        simp only [spec_FormatMapping.l0]
        rw [if_pos (lt_of e), if_pos (len_nonneg _), rd_of e, if_neg ht, specIsTerm_eq]
        simp only [Option.bind_some]
        rw [if_neg hT]

/-! ### A copy of a list -/
theorem toIntS_l0 (suf : List Int) : ∀ pre : List Int, (pre ++ suf).length ≤ 17592186044416 → Ev (fun k => laws_toIntS.l0 k (pre ++ suf) (pre ++ List.replicate suf.length 0) (pre.length : Int)) (pre ++ suf) := by
  induction suf with
  | nil =>
    intro pre h
    simp only [List.append_nil, List.length_nil, List.replicate_zero]
    refine evn fun k => ?_
    simp only [laws_toIntS.l0]
    rw [if_neg (end_not _)]
  | cons a t ih =>
    intro pre h
    have h1 := ih (pre ++ [a]) (by simpa using h)
    have hl : pre.length ≤ 140737488355328 := by simp at h; omega
    refine Ev.step (fun k => ?_) (by simpa using h1)
    simp only [laws_toIntS.l0]
    rw [if_pos (mid_lt _ _ _), if_pos (len_nonneg _)]
    simp only [List.length_cons, List.replicate_succ]
    rw [if_pos (mid_lt _ _ _), rd_mid, set_mid, iw (a := a) hl]
    simp
theorem toIntS_ev (l : List Int) (h : l.length ≤ 17592186044416) : Ev (fun k => laws_toIntS.f k l) l := by
  have h1 := toIntS_l0 l [] (by simpa using h)
  refine Ev.congr (fun k => ?_) h1
  unfold laws_toIntS.f
  rw [if_pos (by omega), if_pos (by simp; omega)]
  simp

/-! ### Equal lists -/
theorem eqIntS_l0 (suf : List Int) : ∀ (pre suf2 pre2 : List Int), pre.length = pre2.length → suf.length = suf2.length → (pre ++ suf).length ≤ 17592186044416 →
    Ev (fun k => laws_eqIntS.l0 k (pre ++ suf) (pre2 ++ suf2) (pre.length : Int)) (decide (suf = suf2)) := by
  induction suf with
  | nil =>
    intro pre suf2 pre2 hp hs h
    obtain rfl : suf2 = [] := List.eq_nil_of_length_eq_zero (by simpa using hs.symm)
    simp only [List.append_nil]
    refine evn fun k => ?_
    simp only [laws_eqIntS.l0]
    rw [if_neg (end_not _)]; simp
  | cons a t ih =>
    intro pre suf2 pre2 hp hs h
    obtain ⟨b, t2, rfl⟩ : ∃ b t2, suf2 = b :: t2 := by cases suf2 with
      | nil => simp at hs
      | cons b t2 => exact ⟨b, t2, rfl⟩
    have hl : pre.length ≤ 140737488355328 := by simp at h; omega
    have r1 : rd (pre2 ++ b :: t2) (pre.length : Int) = b := by rw [hp]; exact rd_mid _ _ _
    have l1 : (pre.length : Int) < ((pre2 ++ b :: t2).length : Int) := by rw [hp]; exact mid_lt _ _ _
    by_cases hab : a = b
    · subst hab
      have h1 := ih (pre ++ [a]) t2 (pre2 ++ [a]) (by simpa using hp) (by simpa using hs) (by simpa using h)
      have e : decide (a :: t = a :: t2) = decide (t = t2) := by simp
      rw [e]
      refine Ev.step (fun k => ?_) (by simpa using h1)
      simp only [laws_eqIntS.l0]
      rw [if_pos (mid_lt _ _ _), if_pos (len_nonneg _), if_pos l1, rd_mid, r1, if_pos rfl, iw (a := a) hl]
      simp
    · have e : decide (a :: t = b :: t2) = false := by simp [hab]
      rw [e]
      refine evn fun k => ?_
      simp only [laws_eqIntS.l0]
      rw [if_pos (mid_lt _ _ _), if_pos (len_nonneg _), if_pos l1, rd_mid, r1, if_neg hab]
theorem eqIntS_ev (l l2 : List Int) (h : l.length ≤ 17592186044416) : Ev (fun k => laws_eqIntS.f k l l2) (decide (l = l2)) := by
  by_cases hl : l.length = l2.length
  · have h1 := eqIntS_l0 l [] l2 [] rfl hl (by simpa using h)
    refine Ev.congr (fun k => ?_) h1
    unfold laws_eqIntS.f
    rw [if_pos (by omega)]
    simp
  · have e : decide (l = l2) = false := by simp; intro h; exact hl (by rw [h])
    rw [e]
    refine evc fun k => ?_
    unfold laws_eqIntS.f
    rw [if_neg (by omega)]

theorem FnExactFormatMapping (m : List Int) (w0 : (WfL WfI) m) : ∃ k, laws_FnExactFormatMapping.f k m = some true := by
  refine Ev.rounds ?_
  unfold laws_FnExactFormatMapping.f
  by_cases hb : (m.length : Int) > 1048576
  · refine evc fun k => ?_; rw [if_pos hb]
  · simp only [if_neg hb]
    have hl : m.length ≤ 17592186044416 := by omega
    refine evb (toIntS_ev m hl) ?_
    refine evb (specMap_l0 m (by omega)) ?_
    refine evb (toIntS_ev m hl) ?_
    refine evb (implMap_l0 m (by omega)) ?_
    simp only [if_true]
    refine evb (toIntS_ev m hl) ?_
    refine evb (eqIntS_ev m m hl) ?_
    simp only [decide_true, if_true]
    exact evc fun k => rfl

end Go.Proofs.Ytpfpappamlgnoaa.Pure
