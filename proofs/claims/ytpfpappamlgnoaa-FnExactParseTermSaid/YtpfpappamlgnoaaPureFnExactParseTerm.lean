/- The pure statement of the law FnExactParseTerm: the program's function and the reference's agree, for all arguments within the row's bounds. -/
import Derived.Test.YtpfpappamlgnoaaQFnExactParseTermx4
import Derived.Test.YtpfpappamlgnoaaMine
import Derived.Test.YtpfpappamlgnoaaOpen
set_option linter.unusedVariables false
set_option linter.unusedSimpArgs false
namespace Go.Proofs.Ytpfpappamlgnoaa.Pure
open Go.RowKit Go.Proofs.Ytpfpappamlgnoaa.QFnExactParseTerm Go.Proofs.YtpfpappamlgnoaaW.PrintWords Go.Proofs.YtpfpappamlgnoaaW.PrintLast Go.Proofs.Ytpfpappamlgnoaa.Mine Go.Proofs.Ytpfpappamlgnoaa.Open

/-! ### FormatInt -/
theorem tdiv_neg10 (m : Nat) : Int.tdiv (-(m : Int)) 10 = -((m / 10 : Nat) : Int) := by
  rw [Int.neg_tdiv, Int.tdiv_eq_ediv_of_nonneg (by omega)]; omega
theorem tmod_neg10 (m : Nat) : Int.tmod (-(m : Int)) 10 = -((m % 10 : Nat) : Int) := by
  rw [Int.neg_tmod, Int.tmod_eq_emod_of_nonneg (by omega)]; omega
theorem tdiv_pos10 (m : Nat) : Int.tdiv (m : Int) 10 = ((m / 10 : Nat) : Int) := by
  rw [Int.tdiv_eq_ediv_of_nonneg (by omega)]; omega
theorem tmod_pos10 (m : Nat) : Int.tmod (m : Int) 10 = ((m % 10 : Nat) : Int) := by
  rw [Int.tmod_eq_emod_of_nonneg (by omega)]; omega
theorem append_empty_left (b : ByteArray) : strOfNums [] ++ b = b := by simp [strOfNums, ByteArray.ext_iff]
theorem dig_byte (d : Nat) (h : d < 10) : (48 + (d : Int)) % 256 = 48 + (d : Int) := by omega
theorem specFmt_pos : ∀ (j m : Nat) (out : ByteArray), m < 10 ^ j → m ≤ 9223372036854775807 → out.size + j ≤ 1000 → Ev (fun k => spec_FormatInt.l0 k m out false) (strOfNums (mDig m) ++ out)
  | 0, m, out, h, hm, ho => by
    obtain rfl : m = 0 := by simpa using h
    refine evn fun k => ?_
    simp only [spec_FormatInt.l0]
    rw [if_pos (by omega), if_neg (by simp), mDig_zero, append_empty_left]
  | j + 1, m, out, h, hm, ho => by
    by_cases h0 : m = 0
    · subst h0
      refine evn fun k => ?_
      simp only [spec_FormatInt.l0]
      rw [if_pos (by omega), if_neg (by simp), mDig_zero, append_empty_left]
    · have hj : m / 10 < 10 ^ j := by rw [Nat.pow_succ] at h; omega
      have hs : (strOfNums [48 + ((m % 10 : Nat) : Int)] ++ out).size + j ≤ 1000 := by rw [ByteArray.size_append, strOfNums_size]; simp; omega
      have r := specFmt_pos j (m / 10) (strOfNums [48 + ((m % 10 : Nat) : Int)] ++ out) hj (by omega) hs
      rw [mDig_pos h0, strOfNums_append, ByteArray.append_assoc]
      refine Ev.step (fun k => ?_) r
      simp only [spec_FormatInt.l0]
      rw [if_neg (by omega), tmod_pos10, tdiv_pos10, if_neg (by omega)]
      simp only [Option.bind_some]
      rw [w64 (by omega) (by omega), dig_byte _ (by omega), if_pos (by rw [strOfNums_size]; simp; omega), w64 (by omega) (by omega)]
theorem specFmt_neg : ∀ (j m : Nat) (out : ByteArray), m < 10 ^ j → m ≤ 9223372036854775808 → out.size + j ≤ 1000 → Ev (fun k => spec_FormatInt.l0 k (-(m : Int)) out true) (strOfNums [45] ++ (strOfNums (mDig m) ++ out))
  | 0, m, out, h, hm, ho => by
    obtain rfl : m = 0 := by simpa using h
    refine evn fun k => ?_
    simp only [spec_FormatInt.l0]
    rw [if_pos (by omega), if_pos trivial, if_pos (by omega), mDig_zero, append_empty_left]
    rfl
  | j + 1, m, out, h, hm, ho => by
    by_cases h0 : m = 0
    · subst h0
      refine evn fun k => ?_
      simp only [spec_FormatInt.l0]
      rw [if_pos (by omega), if_pos trivial, if_pos (by omega), mDig_zero, append_empty_left]
      rfl
    · have hj : m / 10 < 10 ^ j := by rw [Nat.pow_succ] at h; omega
      have hs : (strOfNums [48 + ((m % 10 : Nat) : Int)] ++ out).size + j ≤ 1000 := by rw [ByteArray.size_append, strOfNums_size]; simp; omega
      have r := specFmt_neg j (m / 10) (strOfNums [48 + ((m % 10 : Nat) : Int)] ++ out) hj (by omega) hs
      rw [mDig_pos h0, strOfNums_append, ByteArray.append_assoc]
      refine Ev.step (fun k => ?_) r
      simp only [spec_FormatInt.l0]
      rw [if_neg (by omega), tmod_neg10, tdiv_neg10]
      by_cases hd : m % 10 = 0
      · rw [if_neg (by omega)]
        simp only [Option.bind_some]
        rw [w64 (by omega) (by omega), if_pos (by rw [strOfNums_size]; simp; omega), w64 (by omega) (by omega)]
        rw [show (48 + -((m % 10 : Nat) : Int)) % 256 = 48 + ((m % 10 : Nat) : Int) by omega]
      · rw [if_pos (by omega)]
        simp only [Option.bind_some]
        rw [w64 (x := - -((m % 10 : Nat) : Int)) (by omega) (by omega), w64 (by omega) (by omega), if_pos (by rw [strOfNums_size]; simp; omega), w64 (by omega) (by omega)]
        rw [show (48 + - -((m % 10 : Nat) : Int)) % 256 = 48 + ((m % 10 : Nat) : Int) by omega]
theorem append_empty_right (b : ByteArray) : b ++ (⟨#[]⟩ : ByteArray) = b := by simp [ByteArray.ext_iff]
theorem specFmt_ev (n : Int) (h0 : -9223372036854775808 ≤ n) (h1 : n ≤ 9223372036854775807) : Ev (fun k => spec_FormatInt.f k n) (strOfNums (mFmt n)) := by
  unfold spec_FormatInt.f mFmt
  by_cases hz : n = 0
  · simp only [if_pos hz]; exact evc fun k => rfl
  · simp only [if_neg hz]
    by_cases hn : n < 0
    · obtain ⟨m, rfl⟩ : ∃ m : Nat, n = -(m : Int) := ⟨n.natAbs, by omega⟩
      have r := specFmt_neg 20 m ⟨#[]⟩ (by omega) (by omega) (by simp [ByteArray.size])
      rw [append_empty_right] at r
      rw [if_pos hn, decide_eq_true hn, show (-(m : Int)).natAbs = m by omega]
      rw [show (45 : Int) :: mDig m = [45] ++ mDig m from rfl, strOfNums_append]
      exact r
    · obtain ⟨m, rfl⟩ : ∃ m : Nat, n = (m : Int) := ⟨n.natAbs, by omega⟩
      have r := specFmt_pos 20 m ⟨#[]⟩ (by omega) (by omega) (by simp [ByteArray.size])
      rw [append_empty_right] at r
      rw [if_neg hn, decide_eq_false hn, show ((m : Int)).natAbs = m by omega]
      exact r
theorem implRev : ∀ (n : Nat) (M A B : List Int), M.length ≤ n → A.length = B.length → (A ++ M ++ B).length ≤ 1000 → Ev (fun k => impl_FormatInt.l1 k (A ++ M ++ B) (A.length : Int) ((A.length : Int) + (M.length : Int) - 1)) (strOfNums (A ++ M.reverse ++ B))
  | n, [], A, B, hn, hab, hl => by
    refine evn fun k => ?_
    simp only [impl_FormatInt.l1]
    rw [if_neg (by simp <;> omega)]; simp
  | n, [a], A, B, hn, hab, hl => by
    refine evn fun k => ?_
    simp only [impl_FormatInt.l1]
    rw [if_neg (by simp <;> omega)]; simp
  | 0, a :: c :: R, A, B, hn, hab, hl => by simp at hn
  | n + 1, a :: c :: R, A, B, hn, hab, hl => by
    obtain ⟨M', b, hM⟩ : ∃ M' b, c :: R = M' ++ [b] := ⟨(c :: R).dropLast, (c :: R).getLast (by simp), (List.dropLast_concat_getLast (by simp)).symm⟩
    rw [hM]
    have hlen : M'.length + 1 = R.length + 1 := by have := congrArg List.length hM; simpa using this.symm
    have hsz : A.length + M'.length + B.length + 2 ≤ 1000 := by simp at hl; omega
    have r := implRev n M' (A ++ [b]) (a :: B) (by simp at hn; omega) (by simp [hab]) (by simp; omega)
    have e1 : (A ++ a :: (M' ++ [b]) ++ B) = A ++ a :: (M' ++ b :: B) := by simp
    have e2 : (A ++ a :: (M' ++ b :: B)) = (A ++ a :: M') ++ b :: B := by simp
    have ei : (A.length : Int) + ((a :: (M' ++ [b])).length : Int) - 1 = ((A ++ a :: M').length : Int) := by simp; omega
    have er : A ++ (a :: (M' ++ [b])).reverse ++ B = (A ++ [b]) ++ M'.reverse ++ (a :: B) := by simp
    rw [er, ei, e1]
    refine Ev.step (fun k => ?_) r
    simp only [impl_FormatInt.l1]
    have ra : rd (A ++ a :: (M' ++ b :: B)) (A.length : Int) = a := rd_mid _ _ _
    have rb : rd (A ++ a :: (M' ++ b :: B)) ((A ++ a :: M').length : Int) = b := by rw [e2]; exact rd_mid _ _ _
    rw [if_pos (by simp; omega), if_pos (by omega), if_pos (by simp; omega), if_pos (by omega), if_pos (by simp; omega), ra, rb, set_mid]
    have e3 : (A ++ b :: (M' ++ b :: B)) = (A ++ b :: M') ++ b :: B := by simp
    have e4 : ((A ++ a :: M').length : Int) = ((A ++ b :: M').length : Int) := by simp
    rw [e3, e4, set_mid, w64 (by omega) (by omega), w64 (by simp; omega) (by simp; omega)]
    congr 1
    · simp
    · simp
    · simp; omega
theorem implFmt_end (x : Int) (acc : List Int) (h : acc.length ≤ 900) : Ev (fun k => impl_FormatInt.l0 k x acc 0) (strOfNums ((if x < 0 then [45] else []) ++ acc.reverse)) := by
  have jr : ∀ y : List Int, y.length ≤ 901 → Ev (fun k => impl_FormatInt.j1 k y) (strOfNums y.reverse) := by
    intro y hy
    have r := implRev y.length y [] [] (Nat.le_refl _) rfl (by simp; omega)
    simp only [List.nil_append, List.append_nil, List.length_nil] at r
    refine Ev.step (fun k => ?_) r
    simp only [impl_FormatInt.j1]
    rw [w64 (by omega) (by omega)]
    congr 1; simp
  by_cases hx : x < 0
  · have r := jr (acc ++ [45]) (by simp; omega)
    rw [if_pos hx]
    refine Ev.step (fun k => ?_) (by simpa using r)
    simp only [impl_FormatInt.l0]
    rw [if_pos trivial, if_pos hx, if_pos (by omega)]
  · have r := jr acc (by omega)
    rw [if_neg hx]
    refine Ev.step (fun k => ?_) (by simpa using r)
    simp only [impl_FormatInt.l0]
    rw [if_pos trivial, if_neg hx]
theorem implFmt_pos (x : Int) : ∀ (j m : Nat) (acc : List Int), m < 10 ^ j → m ≤ 9223372036854775807 → acc.length + j ≤ 900 → Ev (fun k => impl_FormatInt.l0 k x acc m) (strOfNums ((if x < 0 then [45] else []) ++ (mDig m ++ acc.reverse)))
  | 0, m, acc, h, hm, ho => by
    obtain rfl : m = 0 := by simpa using h
    rw [mDig_zero]; exact implFmt_end x acc (by omega)
  | j + 1, m, acc, h, hm, ho => by
    by_cases h0 : m = 0
    · subst h0; rw [mDig_zero]; exact implFmt_end x acc (by omega)
    · have hj : m / 10 < 10 ^ j := by rw [Nat.pow_succ] at h; omega
      have r := implFmt_pos x j (m / 10) (acc ++ [48 + ((m % 10 : Nat) : Int)]) hj (by omega) (by simp; omega)
      rw [mDig_pos h0]
      refine Ev.step (fun k => ?_) (by simpa using r)
      simp only [impl_FormatInt.l0]
      rw [if_neg (by omega), tmod_pos10, tdiv_pos10, if_neg (by omega), if_pos (by omega), w64 (by omega) (by omega), dig_byte _ (by omega), w64 (by omega) (by omega)]
      simp
theorem implFmt_neg (x : Int) : ∀ (j m : Nat) (acc : List Int), m < 10 ^ j → m ≤ 9223372036854775808 → acc.length + j ≤ 900 → Ev (fun k => impl_FormatInt.l0 k x acc (-(m : Int))) (strOfNums ((if x < 0 then [45] else []) ++ (mDig m ++ acc.reverse)))
  | 0, m, acc, h, hm, ho => by
    obtain rfl : m = 0 := by simpa using h
    rw [mDig_zero]; exact implFmt_end x acc (by omega)
  | j + 1, m, acc, h, hm, ho => by
    by_cases h0 : m = 0
    · subst h0; rw [mDig_zero]; exact implFmt_end x acc (by omega)
    · have hj : m / 10 < 10 ^ j := by rw [Nat.pow_succ] at h; omega
      have r := implFmt_neg x j (m / 10) (acc ++ [48 + ((m % 10 : Nat) : Int)]) hj (by omega) (by simp; omega)
      rw [mDig_pos h0]
      refine Ev.step (fun k => ?_) (by simpa using r)
      simp only [impl_FormatInt.l0]
      rw [if_neg (by omega), tmod_neg10, tdiv_neg10]
      by_cases hd : m % 10 = 0
      · rw [if_neg (by omega), if_pos (by omega), w64 (by omega) (by omega), w64 (by omega) (by omega)]
        rw [show (48 + -((m % 10 : Nat) : Int)) % 256 = 48 + ((m % 10 : Nat) : Int) by omega]
        simp
      · rw [if_pos (by omega), if_pos (by omega), w64 (x := - -((m % 10 : Nat) : Int)) (by omega) (by omega), w64 (by omega) (by omega), w64 (by omega) (by omega)]
        rw [show (48 + - -((m % 10 : Nat) : Int)) % 256 = 48 + ((m % 10 : Nat) : Int) by omega]
        simp
theorem implFmt_ev (n : Int) (h0 : -9223372036854775808 ≤ n) (h1 : n ≤ 9223372036854775807) : Ev (fun k => impl_FormatInt.f k n) (strOfNums (mFmt n)) := by
  unfold impl_FormatInt.f mFmt
  by_cases hz : n = 0
  · simp only [if_pos hz]; exact evc fun k => rfl
  · simp only [if_neg hz]
    by_cases hn : n < 0
    · obtain ⟨m, rfl⟩ : ∃ m : Nat, n = -(m : Int) := ⟨n.natAbs, by omega⟩
      have r := implFmt_neg (-(m : Int)) 20 m [] (by omega) (by omega) (by simp)
      rw [if_pos hn] at r
      rw [if_pos hn, show (-(m : Int)).natAbs = m by omega]
      simpa using r
    · obtain ⟨m, rfl⟩ : ∃ m : Nat, n = (m : Int) := ⟨n.natAbs, by omega⟩
      have r := implFmt_pos (m : Int) 20 m [] (by omega) (by omega) (by simp)
      rw [if_neg hn] at r
      rw [if_neg hn, show ((m : Int)).natAbs = m by omega]
      simpa using r

theorem within_eq (x lo hi : Int) : impl_within.f x lo hi = some (decide (lo ≤ x ∧ x ≤ hi)) := by
  unfold impl_within.f
  by_cases h : x ≥ lo
  · rw [if_pos h]; congr 1; simp; omega
  · rw [if_neg h]; congr 1; simp; omega

/-! ### ParseInt -/
theorem bt_rd (s : ByteArray) (i : Int) : bt s i = rd (bytesOf s) i := (rd_bytesOf s i).symm
theorem toList_if {α : Type} (a b : ByteArray) (x y : α) : (if a.toList = b.toList then x else y) = if a = b then x else y := by
  by_cases h : a = b
  · rw [if_pos h, if_pos (by rw [h])]
  · rw [if_neg h, if_neg (fun e => h (toList_inj.1 e))]
def mFin (s : ByteArray) (n : Int) : Int × Bool := if strOfNums (mFmt n) = s then (n, true) else (0, false)
def mImplParse (s : ByteArray) : Int × Bool :=
  let b := bytesOf s
  let a : Nat := if b.head? = some 45 then 1 else 0
  if 1 ≤ (b.length : Int) - a ∧ (b.length : Int) - a ≤ 9 then
    if (b.drop a).all mIsDg = true then mFin s (if a = 1 then -(mVal 0 (b.drop a)) else mVal 0 (b.drop a)) else (0, false)
  else (0, false)
theorem implParse_l0 (s : ByteArray) (a : Int) (ha : a = 0 ∨ a = 1) : ∀ (j : Nat) (suf pre : List Int) (v : Int), bytesOf s = pre ++ suf → suf.length ≤ j → 0 ≤ v → v + 1 ≤ 10 ^ (9 - j) → j ≤ 9 → pre.length + j ≤ 20 →
    Ev (fun k => impl_ParseInt.l0 k s a v (pre.length : Int)) (if suf.all mIsDg = true then mFin s (if a = 1 then -(mVal v suf) else mVal v suf) else (0, false)) := by
  intro j suf
  induction suf generalizing j with
  | nil =>
    intro pre v e hj h0 hv hj9 hp
    have hs : s.size = pre.length := by rw [← bytesOf_length, e]; simp
    have hv9 : v + 1 ≤ 10 ^ 9 := Int.le_trans hv (pow10_le (by omega))
    have hv10 : v ≤ 999999999 := by have : (10 : Int) ^ 9 = 1000000000 := by decide
                                    omega
    simp only [List.all_nil, if_true, mVal_nil]
    rcases ha with rfl | rfl
    · refine Ev.step (f := fun k => (impl_FormatInt.f k v).bind fun t => if t.toList = s.toList then some (v, true) else some (0, false)) (fun k => ?_) ?_
      · simp only [impl_ParseInt.l0]
        rw [if_neg (by omega), if_neg (by omega)]
      · refine evb (implFmt_ev v (by omega) (by omega)) ?_
        refine evc fun k => ?_
        rw [toList_if, show (if (0 : Int) = 1 then -v else v) = v by simp]
        unfold mFin
        by_cases hc : strOfNums (mFmt v) = s
        · rw [if_pos hc, if_pos hc]
        · rw [if_neg hc, if_neg hc]
    · refine Ev.step (f := fun k => (impl_FormatInt.f k (-v)).bind fun t => if t.toList = s.toList then some (-v, true) else some (0, false)) (fun k => ?_) ?_
      · simp only [impl_ParseInt.l0]
        rw [if_neg (by omega), if_pos trivial, w64 (by omega) (by omega)]
      · refine evb (implFmt_ev (-v) (by omega) (by omega)) ?_
        refine evc fun k => ?_
        rw [toList_if, show (if (1 : Int) = 1 then -v else v) = -v by simp]
        unfold mFin
        by_cases hc : strOfNums (mFmt (-v)) = s
        · rw [if_pos hc, if_pos hc]
        · rw [if_neg hc, if_neg hc]
  | cons c t ih =>
    intro pre v e hj h0 hv hj9 hp
    obtain ⟨j, rfl⟩ : ∃ i, j = i + 1 := ⟨j - 1, by simp at hj; omega⟩
    have hs : s.size = pre.length + t.length + 1 := by rw [← bytesOf_length, e]; simp; omega
    have hr : bt s (pre.length : Int) = c := by rw [bt_rd, e]; exact rd_mid _ _ _
    have hv9 : v + 1 ≤ 10 ^ 8 := Int.le_trans hv (pow10_le (by omega))
    have hv10 : v ≤ 99999999 := by have : (10 : Int) ^ 8 = 100000000 := by decide
                                   omega
    by_cases hd : 48 ≤ c ∧ c ≤ 57
    · have hdg : mIsDg c = true := by simp [mIsDg, hd]
      have e10 : (10 : Int) ^ (9 - j) = 10 ^ (9 - (j + 1)) * 10 := by rw [← Int.pow_succ]; congr 1; omega
      have r := ih j (pre ++ [c]) (10 * v + (c - 48)) (by rw [e]; simp) (by simpa using hj) (by omega) (by rw [e10]; omega) (by omega) (by simp at hj ⊢; omega)
      rw [show (c :: t).all mIsDg = t.all mIsDg by simp [hdg], mVal_cons]
      refine Ev.step (fun k => ?_) r
      simp only [impl_ParseInt.l0]
      rw [if_pos (by omega), if_pos (by omega), hr, if_neg (by omega), if_neg (by omega), w64 (x := 10 * v) (by omega) (by omega), show (c - 48) % 256 = c - 48 by omega, w64 (by omega) (by omega), iw (a := c) (by omega)]
    · have hdg : mIsDg c = false := by simp [mIsDg]; omega
      rw [show (c :: t).all mIsDg = false by simp [hdg], if_neg (by simp)]
      refine evn fun k => ?_
      simp only [impl_ParseInt.l0]
      rw [if_pos (by omega), if_pos (by omega), hr]
      by_cases h1 : c < 48
      · rw [if_pos h1]
      · rw [if_neg h1, if_pos (by omega)]
theorem implParse_ev (s : ByteArray) (hsz : s.size ≤ 140737488351232) : Ev (fun k => impl_ParseInt.f k s) (mImplParse s) := by
  have hlen := bytesOf_length s
  have j1 : ∀ a : Nat, a ≤ 1 → a ≤ s.size → Ev (fun k => impl_ParseInt.j1 k s (a : Int)) (if 1 ≤ ((bytesOf s).length : Int) - a ∧ ((bytesOf s).length : Int) - a ≤ 9 then
      if ((bytesOf s).drop a).all mIsDg = true then mFin s (if a = 1 then -(mVal 0 ((bytesOf s).drop a)) else mVal 0 ((bytesOf s).drop a)) else (0, false) else (0, false)) := by
    intro a ha hsa
    rw [hlen]
    by_cases hc : 1 ≤ (s.size : Int) - a ∧ (s.size : Int) - a ≤ 9
    · rw [if_pos hc]
      have r := implParse_l0 s (a : Int) (by omega) 9 ((bytesOf s).drop a) ((bytesOf s).take a) 0 (by simp) (by simp; omega) (by omega) (by decide) (by omega) (by simp; omega)
      have et : (((bytesOf s).take a).length : Int) = a := by simp; omega
      rw [et] at r
      have ea : ((a : Int) = 1) = (a = 1) := by simp; omega
      simp only [ea] at r
      refine Ev.step (fun k => ?_) r
      simp only [impl_ParseInt.j1]
      rw [w64 (by omega) (by omega), within_eq]
      simp only [Option.bind_some]
      rw [if_pos (by simpa using hc)]
    · rw [if_neg hc]
      refine evn fun k => ?_
      simp only [impl_ParseInt.j1]
      rw [w64 (by omega) (by omega), within_eq]
      simp only [Option.bind_some]
      rw [if_neg (by simpa using hc)]
  unfold impl_ParseInt.f mImplParse
  by_cases hz : (s.size : Int) > 0
  · simp only [if_pos hz, show (0 : Int) < (s.size : Int) from hz, if_true]
    obtain ⟨c, t, hb⟩ : ∃ c t, bytesOf s = c :: t := by
      cases h : bytesOf s with
      | nil => rw [h] at hlen; simp at hlen; omega
      | cons c t => exact ⟨c, t, rfl⟩
    have hc0 : bt s 0 = c := by rw [bt_rd, hb]; rfl
    rw [hc0]
    by_cases h45 : c = 45
    · have r := j1 1 (by omega) (by omega)
      have hh : (bytesOf s).head? = some 45 := by rw [hb, h45]; rfl
      simp only [hh, if_true]
      refine Ev.step (fun k => ?_) r
      simp only [impl_ParseInt.j0]
      rw [if_pos (by simpa using h45)]
      rfl
    · have r := j1 0 (by omega) (by omega)
      have hh : ¬ (bytesOf s).head? = some 45 := by rw [hb]; simpa using h45
      simp only [hh, if_false]
      refine Ev.step (fun k => ?_) r
      simp only [impl_ParseInt.j0]
      rw [if_neg (by simpa using h45)]
      rfl
  · simp only [if_neg hz]
    have hb : bytesOf s = [] := List.eq_nil_of_length_eq_zero (by omega)
    have r := j1 0 (by omega) (by omega)
    have hh : ¬ (bytesOf s).head? = some 45 := by rw [hb]; simp
    simp only [hh, if_false]
    refine Ev.step (fun k => ?_) r
    simp only [impl_ParseInt.j0]
    rw [if_neg (by simp)]
    rfl
/-- What ParseInt answers, as the document has it. -/
theorem implParse_yes (s : ByteArray) (n : Int) (h0 : -999999999 ≤ n) (h1 : n ≤ 999999999) (e : s = strOfNums (mFmt n)) : mImplParse s = (n, true) := by
  have hb : bytesOf s = mFmt n := by rw [e]; exact mFmt_bytes n
  unfold mImplParse
  rw [hb]
  have hl := mDg_len (m := n.natAbs) (by omega)
  have hd := mDg_digits n.natAbs
  have hv := mDg_val n.natAbs
  by_cases hn : n < 0
  · rw [mFmt_neg hn]
    simp only [List.head?_cons, if_true, List.length_cons, List.drop_succ_cons, List.drop_zero]
    rw [if_pos (by omega), if_pos hd, hv]
    unfold mFin
    rw [show -(n.natAbs : Int) = n by omega, if_pos e.symm]
  · rw [mFmt_nonneg (by omega)]
    have hh : ¬ (mDg n.natAbs).head? = some 45 := by
      cases hx : mDg n.natAbs with
      | nil => simp
      | cons c t =>
        rw [hx] at hd
        simp only [List.all_cons, Bool.and_eq_true, mIsDg, decide_eq_true_eq] at hd
        simp; omega
    simp only [hh, if_false, List.drop_zero]
    rw [if_pos (by omega), if_pos hd, hv, if_neg (by omega)]
    unfold mFin
    rw [show (n.natAbs : Int) = n by omega, if_pos e.symm]
theorem implParse_no (s : ByteArray) (h : ∀ n : Int, -999999999 ≤ n → n ≤ 999999999 → s ≠ strOfNums (mFmt n)) : mImplParse s = (0, false) := by
  unfold mImplParse
  simp only
  generalize ha : (if (bytesOf s).head? = some 45 then 1 else 0 : Nat) = a
  by_cases hc : 1 ≤ ((bytesOf s).length : Int) - (a : Int) ∧ ((bytesOf s).length : Int) - (a : Int) ≤ 9
  · rw [if_pos hc]
    by_cases hd : ((bytesOf s).drop a).all mIsDg = true
    · rw [if_pos hd]
      have hb := mVal_bound _ 0 (by omega) hd
      have hp : (10 : Int) ^ ((bytesOf s).drop a).length ≤ 10 ^ 9 := pow10_le (by rw [List.length_drop]; omega)
      have h9 : (10 : Int) ^ 9 = 1000000000 := by decide
      unfold mFin
      rw [if_neg]
      intro e
      by_cases h1 : a = 1
      · rw [if_pos h1] at e; exact h _ (by omega) (by omega) e.symm
      · rw [if_neg h1] at e; exact h _ (by omega) (by omega) e.symm
    · rw [if_neg hd]
  · rw [if_neg hc]
def mSpecParse (s : ByteArray) : Int × Bool :=
  let b := bytesOf s
  let d := (b.take 11).filter mIsDg
  if d.length > 9 then (0, false) else if b.length > 10 then (0, false) else mFin s (if b.head? = some 45 then -(mVal 0 d) else mVal 0 d)
theorem specParse_end (s : ByteArray) (v c i : Int) (h0 : 0 ≤ v) (h1 : v ≤ 1000000000000) :
    Ev (fun k => spec_ParseInt.j1 k s v c i false) (if c > 9 then (0, false) else if s.size > 10 then (0, false) else mFin s (if (bytesOf s).head? = some 45 then -v else v)) := by
  have hlen := bytesOf_length s
  have j2 : ∀ g : Bool, Ev (fun k => spec_ParseInt.j2 k s v c g) (if c > 9 then (0, false) else if s.size > 10 then (0, false) else mFin s (if g = true then -v else v)) := by
    intro g
    by_cases hc : c > 9
    · rw [if_pos hc]
      refine evn fun k => ?_
      simp only [spec_ParseInt.j2]
      cases g <;> simp [hc]
    · rw [if_neg hc]
      by_cases hs : s.size > 10
      · rw [if_pos hs]
        refine evn fun k => ?_
        simp only [spec_ParseInt.j2]
        have hs' : (s.size : Int) > 10 := by omega
        cases g <;> simp [hc, hs']
      · rw [if_neg hs]
        have hs' : ¬ (s.size : Int) > 10 := by omega
        cases g with
        | true =>
          refine Ev.step (f := fun k => (spec_FormatInt.f k (-v)).bind fun t => if t.toList = s.toList then some (-v, true) else some (0, false)) (fun k => ?_) ?_
          · simp only [spec_ParseInt.j2]
            rw [if_pos trivial, if_neg hc, if_neg hs', w64 (by omega) (by omega)]
          · refine evb (specFmt_ev (-v) (by omega) (by omega)) ?_
            refine evc fun k => ?_
            rw [toList_if, show (if true = true then -v else v) = -v by simp]
            unfold mFin
            by_cases hq : strOfNums (mFmt (-v)) = s
            · rw [if_pos hq, if_pos hq]
            · rw [if_neg hq, if_neg hq]
        | false =>
          refine Ev.step (f := fun k => (spec_FormatInt.f k v).bind fun t => if t.toList = s.toList then some (v, true) else some (0, false)) (fun k => ?_) ?_
          · simp only [spec_ParseInt.j2]
            rw [if_neg (by simp), if_neg hc, if_neg hs']
          · refine evb (specFmt_ev v (by omega) (by omega)) ?_
            refine evc fun k => ?_
            rw [toList_if, show (if false = true then -v else v) = v by simp]
            unfold mFin
            by_cases hq : strOfNums (mFmt v) = s
            · rw [if_pos hq, if_pos hq]
            · rw [if_neg hq, if_neg hq]
  by_cases hz : (s.size : Int) > 0
  · obtain ⟨x, t, hb⟩ : ∃ x t, bytesOf s = x :: t := by
      cases h : bytesOf s with
      | nil => rw [h] at hlen; simp at hlen; omega
      | cons c t => exact ⟨c, t, rfl⟩
    have hc0 : bt s 0 = x := by rw [bt_rd, hb]; rfl
    have r := j2 (x == 45)
    have e : ((x == 45) = true) = ((bytesOf s).head? = some 45) := by rw [hb]; simp
    simp only [e] at r
    refine Ev.step (fun k => ?_) r
    simp only [spec_ParseInt.j1]
    rw [if_neg (by simp), if_pos hz, if_pos hz, hc0]
  · have hb : bytesOf s = [] := List.eq_nil_of_length_eq_zero (by omega)
    have r := j2 false
    have e : ((false : Bool) = true) = ((bytesOf s).head? = some 45) := by rw [hb]; simp
    simp only [e] at r
    refine Ev.step (fun k => ?_) r
    simp only [spec_ParseInt.j1]
    rw [if_neg (by simp), if_neg hz]
theorem specParse_l0 (s : ByteArray) (hsz : s.size ≤ 140737488351232) : ∀ (suf pre : List Int) (v c : Int), bytesOf s = pre ++ suf → pre.length ≤ 11 → 0 ≤ v → v + 1 ≤ 10 ^ pre.length → 0 ≤ c → c ≤ pre.length →
    Ev (fun k => spec_ParseInt.l0 k s v c (pre.length : Int)) (if c + (((suf.take (11 - pre.length)).filter mIsDg).length : Int) > 9 then (0, false) else if s.size > 10 then (0, false) else
      mFin s (if (bytesOf s).head? = some 45 then -(mVal v ((suf.take (11 - pre.length)).filter mIsDg)) else mVal v ((suf.take (11 - pre.length)).filter mIsDg))) := by
  have p12 : ∀ n : Nat, n ≤ 11 → (10 : Int) ^ n ≤ 100000000000 := by
    intro n hn
    have h : (10 : Int) ^ n ≤ 10 ^ 11 := pow10_le hn
    have : (10 : Int) ^ 11 = 100000000000 := by decide
    omega
  intro suf
  induction suf with
  | nil =>
    intro pre v c e hp h0 h1 h2 h3
    have hs : s.size = pre.length := by rw [← bytesOf_length, e]; simp
    have hb := p12 _ hp
    have r := specParse_end s v c (pre.length : Int) h0 (by omega)
    simp only [List.take_nil, List.filter_nil, List.length_nil, mVal_nil]
    rw [show c + ((0 : Nat) : Int) = c by omega]
    refine Ev.step (fun k => ?_) r
    simp only [spec_ParseInt.l0]
    rw [if_neg (by omega)]
  | cons x t ih =>
    intro pre v c e hp h0 h1 h2 h3
    have hs : s.size = pre.length + t.length + 1 := by rw [← bytesOf_length, e]; simp; omega
    have hb := p12 _ hp
    by_cases h11 : pre.length = 11
    · have r := specParse_end s v c (pre.length : Int) h0 (by omega)
      rw [h11]
      simp only [Nat.sub_self, List.take_zero, List.filter_nil, List.length_nil, mVal_nil]
      rw [show c + ((0 : Nat) : Int) = c by omega]
      rw [h11] at r
      refine Ev.step (fun k => ?_) r
      simp only [spec_ParseInt.l0]
      rw [if_pos (by omega), show decide (((11 : Nat) : Int) < 11) = false from rfl]
    · have hr : bt s (pre.length : Int) = x := by rw [bt_rd, e]; exact rd_mid _ _ _
      have ek : 11 - pre.length = (11 - (pre ++ [x]).length) + 1 := by simp; omega
      have pw : (10 : Int) ^ (pre ++ [x]).length = 10 ^ pre.length * 10 := by simp [Int.pow_succ]
      rw [ek, List.take_succ_cons]
      by_cases hd : 48 ≤ x ∧ x ≤ 57
      · have hdg : mIsDg x = true := by simp [mIsDg, hd]
        have r := ih (pre ++ [x]) (10 * v + (x - 48)) (c + 1) (by rw [e]; simp) (by simp; omega) (by omega) (by rw [pw]; omega) (by omega) (by simp; omega)
        rw [List.filter_cons_of_pos hdg, mVal_cons]
        have el : c + ((x :: List.filter mIsDg (List.take (11 - (pre ++ [x]).length) t)).length : Int) = c + 1 + ((List.filter mIsDg (List.take (11 - (pre ++ [x]).length) t)).length : Int) := by simp; omega
        rw [el]
        refine Ev.step (f := fun k => spec_ParseInt.j1 k s v c (pre.length : Int) true) (fun k => ?_) (Ev.step (fun k => ?_) r)
        · simp only [spec_ParseInt.l0]
          rw [if_pos (by omega), decide_eq_true (by omega)]
        · simp only [spec_ParseInt.j1]
          rw [if_pos trivial, if_pos (by omega), if_pos (by omega), hr, if_pos hd.1, if_pos hd.2, w64 (x := v * 10) (by omega) (by omega), show (x - 48) % 256 = x - 48 by omega, w64 (x := v * 10 + (x - 48)) (by omega) (by omega), w64 (x := c + 1) (by omega) (by omega), iw (a := x) (by omega), show v * 10 = 10 * v by omega]
      · have hdg : ¬ mIsDg x = true := by simp [mIsDg]; omega
        have r := ih (pre ++ [x]) v c (by rw [e]; simp) (by simp; omega) h0 (by rw [pw]; omega) (by omega) (by simp; omega)
        rw [List.filter_cons_of_neg hdg]
        refine Ev.step (f := fun k => spec_ParseInt.j1 k s v c (pre.length : Int) true) (fun k => ?_) (Ev.step (fun k => ?_) r)
        · simp only [spec_ParseInt.l0]
          rw [if_pos (by omega), decide_eq_true (by omega)]
        · simp only [spec_ParseInt.j1]
          rw [if_pos trivial, if_pos (by omega), if_pos (by omega), hr, iw (a := x) (by omega)]
          by_cases h1' : x ≥ 48
          · rw [if_pos h1', if_neg (by omega)]
          · rw [if_neg h1']
theorem specParse_ev (s : ByteArray) (hsz : s.size ≤ 140737488351232) : Ev (fun k => spec_ParseInt.f k s) (mSpecParse s) := by
  have r := specParse_l0 s hsz (bytesOf s) [] 0 0 rfl (by simp) (by omega) (by simp) (by omega) (by simp)
  have e : mSpecParse s = (if (0 : Int) + ((((bytesOf s).take (11 - ([] : List Int).length)).filter mIsDg).length : Int) > 9 then (0, false) else if s.size > 10 then (0, false) else
      mFin s (if (bytesOf s).head? = some 45 then -(mVal 0 (((bytesOf s).take (11 - ([] : List Int).length)).filter mIsDg)) else mVal 0 (((bytesOf s).take (11 - ([] : List Int).length)).filter mIsDg))) := by
    unfold mSpecParse
    simp only [List.length_nil, Nat.sub_zero, bytesOf_length]
    congr 1
    simp; omega
  rw [e]
  exact r
theorem filter_dg {l : List Int} (h : l.all mIsDg = true) : l.filter mIsDg = l := List.filter_eq_self.2 (fun x hx => List.all_eq_true.1 h x hx)
theorem specParse_yes (s : ByteArray) (n : Int) (h0 : -999999999 ≤ n) (h1 : n ≤ 999999999) (e : s = strOfNums (mFmt n)) : mSpecParse s = (n, true) := by
  have hb : bytesOf s = mFmt n := by rw [e]; exact mFmt_bytes n
  unfold mSpecParse
  rw [hb]
  have hl := mDg_len (m := n.natAbs) (by omega)
  have hd := mDg_digits n.natAbs
  have hv := mDg_val n.natAbs
  by_cases hn : n < 0
  · rw [mFmt_neg hn]
    have et : ((45 :: mDg n.natAbs : List Int).take 11).filter mIsDg = mDg n.natAbs := by
      rw [List.take_of_length_le (by simp; omega), List.filter_cons_of_neg (by decide), filter_dg hd]
    simp only [et, List.head?_cons, if_true, List.length_cons]
    rw [if_neg (by omega), if_neg (by omega), hv]
    unfold mFin
    rw [show -(n.natAbs : Int) = n by omega, if_pos e.symm]
  · rw [mFmt_nonneg (by omega)]
    have hh : ¬ (mDg n.natAbs).head? = some 45 := by
      cases hx : mDg n.natAbs with
      | nil => simp
      | cons c t =>
        rw [hx] at hd
        simp only [List.all_cons, Bool.and_eq_true, mIsDg, decide_eq_true_eq] at hd
        simp; omega
    have et : ((mDg n.natAbs).take 11).filter mIsDg = mDg n.natAbs := by
      rw [List.take_of_length_le (by omega), filter_dg hd]
    simp only [et, hh, if_false]
    rw [if_neg (by omega), if_neg (by omega), hv]
    unfold mFin
    rw [show (n.natAbs : Int) = n by omega, if_pos e.symm]
theorem specParse_no (s : ByteArray) (h : ∀ n : Int, -999999999 ≤ n → n ≤ 999999999 → s ≠ strOfNums (mFmt n)) : mSpecParse s = (0, false) := by
  unfold mSpecParse
  simp only
  by_cases hc : (((bytesOf s).take 11).filter mIsDg).length > 9
  · rw [if_pos hc]
  · rw [if_neg hc]
    by_cases hs : (bytesOf s).length > 10
    · rw [if_pos hs]
    · rw [if_neg hs]
      have hb := mVal_bound (((bytesOf s).take 11).filter mIsDg) 0 (by omega) (by simp)
      have hp : (10 : Int) ^ (((bytesOf s).take 11).filter mIsDg).length ≤ 10 ^ 9 := pow10_le (by omega)
      have h9 : (10 : Int) ^ 9 = 1000000000 := by decide
      unfold mFin
      rw [if_neg]
      intro e
      by_cases h1 : (bytesOf s).head? = some 45
      · rw [if_pos h1] at e; exact h _ (by omega) (by omega) e.symm
      · rw [if_neg h1] at e; exact h _ (by omega) (by omega) e.symm
theorem parse_same (s : ByteArray) : mSpecParse s = mImplParse s := by
  by_cases h : ∃ n : Int, -999999999 ≤ n ∧ n ≤ 999999999 ∧ s = strOfNums (mFmt n)
  · obtain ⟨n, h0, h1, e⟩ := h
    rw [specParse_yes s n h0 h1 e, implParse_yes s n h0 h1 e]
  · have hn : ∀ n : Int, -999999999 ≤ n → n ≤ 999999999 → s ≠ strOfNums (mFmt n) := fun n h0 h1 e => h ⟨n, h0, h1, e⟩
    rw [specParse_no s hn, implParse_no s hn]

theorem l1In_eq (x lo hi : Int) : spec_l1In.f x lo hi = some (decide (lo ≤ x ∧ x ≤ hi)) := by
  unfold spec_l1In.f
  by_cases h : x ≥ lo
  · rw [if_pos h]; congr 1; simp; omega
  · rw [if_neg h]; congr 1; simp; omega

/-! ### Terms -/

theorem specIsVar_eq (t : Int) : spec_IsVar.f t = some (mIsVar t) := by
  simp [spec_IsVar.f, l1In_eq, mIsVar]
theorem specConstOf_eq (t : Int) : spec_ConstOf.f t = some (mConstOf t) := by
  unfold spec_ConstOf.f mConstOf
  simp only [l1In_eq, Option.bind_some]
  by_cases h : -80 ≤ t ∧ t ≤ -1
  · simp only [h, and_self, decide_true, if_true]; rw [w64 (by omega) (by omega)]
  · simp only [h, decide_false, Bool.false_eq_true, if_false]

theorem implIsTerm_eq (t : Int) : impl_IsTerm.f t = some (mIsTerm t) := by
  simp [impl_IsTerm.f, within_eq, mIsTerm]

theorem implIsVar_eq (t : Int) : impl_IsVar.f t = some (mIsVar t) := by
  simp [impl_IsVar.f, within_eq, mIsVar]
theorem implConstOf_eq (t : Int) : impl_ConstOf.f t = some (mConstOf t) := by
  unfold impl_ConstOf.f mConstOf
  simp only [implIsTerm_eq, implIsVar_eq, Option.bind_some, mIsTerm, mIsVar]
  by_cases h : -80 ≤ t ∧ t ≤ -1
  · rw [if_pos h, if_pos (by simp; omega), if_neg (by simp; omega)]; rw [w64 (by omega) (by omega)]
  · rw [if_neg h]
    by_cases h2 : -80 ≤ t ∧ t ≤ 19
    · rw [if_pos (by simpa using h2), if_pos (by simp; omega)]
    · rw [if_neg (by simpa using h2)]

/-! ### FormatTerm -/
theorem str_cons (c : Int) (l : List Int) : strOfNums (c :: l) = strOfNums [c] ++ strOfNums l := by
  rw [← strOfNums_append]; rfl
theorem specFmtTerm_ev (t : Int) : Ev (fun k => spec_FormatTerm.f k t) (strOfNums (mFmtTerm t)) := by
  unfold spec_FormatTerm.f mFmtTerm
  simp only [specIsVar_eq, specConstOf_eq, Option.bind_some]
  by_cases hv : mIsVar t = true
  · simp only [if_pos hv]
    have hb : 0 ≤ t ∧ t ≤ 19 := by simpa [mIsVar] using hv
    refine evb (specFmt_ev t (by omega) (by omega)) ?_
    have hl := small_fmt (n := t) (by omega) (by omega)
    refine evc fun k => ?_
    rw [if_pos (by rw [strOfNums_size]; omega), str_cons]
    rfl
  · simp only [if_neg hv]
    have hb : ¬ (0 ≤ t ∧ t ≤ 19) := by simpa [mIsVar] using hv
    by_cases ht : -80 ≤ t ∧ t ≤ -1
    · have hc : mConstOf t = -1 - t := by unfold mConstOf; rw [if_pos ht]
      have hg : mConstOf t ≥ 0 := by omega
      simp only [if_pos hg]
      have hT : mIsTerm t = true := by simp [mIsTerm]; omega
      simp only [if_pos hT]
      rw [hc]
      refine evb (specFmt_ev (-1 - t) (by omega) (by omega)) ?_
      exact evc fun k => rfl
    · have hc : mConstOf t = -1 := by unfold mConstOf; rw [if_neg ht]
      have hg : ¬ mConstOf t ≥ 0 := by omega
      simp only [if_neg hg]
      have hT : ¬ mIsTerm t = true := by simp [mIsTerm]; omega
      simp only [if_neg hT]
      exact evc fun k => rfl
theorem implFmtTerm_ev (t : Int) : Ev (fun k => impl_FormatTerm.f k t) (strOfNums (mFmtTerm t)) := by
  unfold impl_FormatTerm.f mFmtTerm
  simp only [implIsVar_eq, implIsTerm_eq, implConstOf_eq, Option.bind_some]
  by_cases hv : mIsVar t = true
  · simp only [if_pos hv]
    have hb : 0 ≤ t ∧ t ≤ 19 := by simpa [mIsVar] using hv
    refine evb (implFmt_ev t (by omega) (by omega)) ?_
    have hl := small_fmt (n := t) (by omega) (by omega)
    refine evc fun k => ?_
    rw [if_pos (by rw [strOfNums_size]; omega), str_cons]
    rfl
  · simp only [if_neg hv]
    have hb : ¬ (0 ≤ t ∧ t ≤ 19) := by simpa [mIsVar] using hv
    by_cases hT : mIsTerm t = true
    · have ht : -80 ≤ t ∧ t ≤ 19 := by simpa [mIsTerm] using hT
      have hc : mConstOf t = -1 - t := by unfold mConstOf; rw [if_pos (by omega)]
      simp only [if_pos hT]
      rw [hc]
      refine evb (implFmt_ev (-1 - t) (by omega) (by omega)) ?_
      exact evc fun k => rfl
    · simp only [if_neg hT]
      exact evc fun k => rfl

/-! ### ParseTerm -/
theorem mFmtTerm_ne {t : Int} (h : mIsTerm t = true) : mFmtTerm t ≠ [] := by
  unfold mFmtTerm
  by_cases hv : mIsVar t = true
  · rw [if_pos hv]; simp
  · rw [if_neg hv, if_pos h]
    have hb : -80 ≤ t ∧ t ≤ 19 := by simpa [mIsTerm] using h
    have hb2 : ¬ (0 ≤ t ∧ t ≤ 19) := by simpa [mIsVar] using hv
    rw [mFmt_nonneg (by omega)]
    have := mDg_len (m := (-1 - t).natAbs) (by omega)
    intro e; rw [e] at this; simp at this
theorem mFmtTerm_no {t : Int} (h : ¬ mIsTerm t = true) : mFmtTerm t = [] := by
  unfold mFmtTerm
  have hv : ¬ mIsVar t = true := by
    simp only [mIsTerm, decide_eq_true_eq] at h
    simp [mIsVar]; omega
  rw [if_neg hv, if_neg h]
theorem mFmtTerm_bytes (t : Int) : bytesOf (strOfNums (mFmtTerm t)) = mFmtTerm t := by
  refine bytes_str fun x hx => ?_
  unfold mFmtTerm at hx
  by_cases hv : mIsVar t = true
  · rw [if_pos hv] at hx
    rcases List.mem_cons.1 hx with rfl | hx
    · omega
    · have hb := mFmt_bytes t
      have : 0 ≤ t ∧ t ≤ 19 := by simpa [mIsVar] using hv
      rw [mFmt_nonneg this.1] at hx
      exact dg_bytes (mDg_digits _) x hx
  · rw [if_neg hv] at hx
    by_cases hT : mIsTerm t = true
    · rw [if_pos hT] at hx
      have hb : -80 ≤ t ∧ t ≤ 19 := by simpa [mIsTerm] using hT
      have hb2 : ¬ (0 ≤ t ∧ t ≤ 19) := by simpa [mIsVar] using hv
      rw [mFmt_nonneg (by omega)] at hx
      exact dg_bytes (mDg_digits _) x hx
    · rw [if_neg hT] at hx; simp at hx
/-- How the last test of a read term ends. -/
def mTFin (s : ByteArray) (t : Int) : Int × Bool := if strOfNums (mFmtTerm t) = s then (t, true) else (0, false)
theorem tfin_no (s : ByteArray) (hs : s ≠ ⟨#[]⟩) (h : ∀ t, mIsTerm t = true → s ≠ strOfNums (mFmtTerm t)) (t : Int) : mTFin s t = (0, false) := by
  unfold mTFin
  rw [if_neg]
  intro e
  by_cases hT : mIsTerm t = true
  · exact h t hT e.symm
  · rw [mFmtTerm_no hT] at e; exact hs e.symm
theorem tfin_yes (s : ByteArray) (t : Int) (h : s = strOfNums (mFmtTerm t)) : mTFin s t = (t, true) := by
  unfold mTFin; rw [if_pos h.symm]
theorem empty_toList {α : Type} (s : ByteArray) (x y : α) : (if s.toList = ([] : List UInt8) then x else y) = if s = ⟨#[]⟩ then x else y := by
  have e : s.toList = ([] : List UInt8) ↔ s = ⟨#[]⟩ := by
    rw [← toList_inj, show (⟨#[]⟩ : ByteArray).toList = [] by rw [ByteArray.toList_eq]]
  by_cases h : s = ⟨#[]⟩
  · rw [if_pos h, if_pos (e.2 h)]
  · rw [if_neg h, if_neg (fun h' => h (e.1 h'))]
theorem extract_tail (s : ByteArray) (c : Int) (l : List Int) (h : bytesOf s = c :: l) : s.extract 1 s.size = strOfNums l := by
  have hl := bytesOf_length s
  rw [extract_str, h]
  rw [h] at hl
  simp only [List.drop_succ_cons, List.drop_zero]
  rw [List.take_of_length_le (by simp at hl; omega)]
def mImplTerm (s : ByteArray) : Int × Bool :=
  if s = ⟨#[]⟩ then (0, false) else if (bytesOf s).head? = some 88 then mTFin s (mImplParse (s.extract 1 s.size)).1 else mTFin s (mMkConst (mImplParse s).1)
theorem implTFin_ev (s : ByteArray) (t : Int) : Ev (fun k => (impl_FormatTerm.f k t).bind fun u => if u.toList = s.toList then some (t, true) else some (0, false)) (mTFin s t) := by
  refine evb (implFmtTerm_ev t) ?_
  refine evc fun k => ?_
  rw [toList_if]
  unfold mTFin
  by_cases h : strOfNums (mFmtTerm t) = s
  · rw [if_pos h, if_pos h]
  · rw [if_neg h, if_neg h]
theorem specTFin_ev (s : ByteArray) (t : Int) : Ev (fun k => (spec_FormatTerm.f k t).bind fun u => if u.toList = s.toList then some (t, true) else some (0, false)) (mTFin s t) := by
  refine evb (specFmtTerm_ev t) ?_
  refine evc fun k => ?_
  rw [toList_if]
  unfold mTFin
  by_cases h : strOfNums (mFmtTerm t) = s
  · rw [if_pos h, if_pos h]
  · rw [if_neg h, if_neg h]
theorem implMakeConst_eq (n : Int) : impl_MakeConst.f n = some (mMkConst n) := by
  unfold impl_MakeConst.f mMkConst
  simp only [within_eq, Option.bind_some]
  by_cases h : 0 ≤ n ∧ n ≤ 79
  · simp only [h, and_self, decide_true, if_true]; rw [w64 (by omega) (by omega)]
  · simp only [h, decide_false, Bool.false_eq_true, if_false]
theorem extract_size (s : ByteArray) : (s.extract 1 s.size).size ≤ s.size := by
  rw [ByteArray.size_extract]; omega
theorem implTerm_ev (s : ByteArray) (hs : s.size ≤ 140737488351232) : Ev (fun k => impl_ParseTerm.f k s) (mImplTerm s) := by
  have hlen := bytesOf_length s
  unfold impl_ParseTerm.f mImplTerm
  by_cases hz : (s.size : Int) > 0
  · have hne : ¬ s = ⟨#[]⟩ := by intro e; rw [e] at hz; simp [ByteArray.size] at hz
    simp only [if_pos hz, if_true, show (0 : Int) < (s.size : Int) from hz]
    rw [if_neg hne]
    obtain ⟨c, t, hb⟩ : ∃ c t, bytesOf s = c :: t := by
      cases h : bytesOf s with
      | nil => rw [h] at hlen; simp at hlen; omega
      | cons c t => exact ⟨c, t, rfl⟩
    have hc0 : bt s 0 = c := by rw [bt_rd, hb]; rfl
    rw [hc0]
    by_cases h88 : c = 88
    · rw [if_pos (by rw [hb, h88]; rfl)]
      refine Ev.step (f := fun k => (impl_ParseInt.f k (s.extract 1 s.size)).bind fun p => (impl_FormatTerm.f k p.1).bind fun u => if u.toList = s.toList then some (p.1, true) else some (0, false)) (fun k => ?_) ?_
      · simp only [impl_ParseTerm.j0]
        rw [if_pos (by simpa using h88), if_pos (by omega)]
        congr 1
        funext p
        rw [empty_toList, if_neg hne]
      · refine evb (implParse_ev _ (by have := extract_size s; omega)) ?_
        exact implTFin_ev s _
    · rw [if_neg (by rw [hb]; simpa using h88)]
      refine Ev.step (f := fun k => (impl_ParseInt.f k s).bind fun p => (impl_FormatTerm.f k (mMkConst p.1)).bind fun u => if u.toList = s.toList then some (mMkConst p.1, true) else some (0, false)) (fun k => ?_) ?_
      · simp only [impl_ParseTerm.j0]
        rw [if_neg (by simpa using h88)]
        congr 1
        funext p
        rw [implMakeConst_eq]
        simp only [Option.bind_some]
        rw [empty_toList, if_neg hne]
      · refine evb (implParse_ev s hs) ?_
        exact implTFin_ev s _
  · have he : s = ⟨#[]⟩ := by
      refine bytes_inj ?_
      rw [List.eq_nil_of_length_eq_zero (show (bytesOf s).length = 0 by omega)]; rfl
    simp only [if_neg hz]
    rw [if_pos he]
    refine Ev.step (f := fun k => (impl_ParseInt.f k s).bind fun p => some (0, false)) (fun k => ?_) ?_
    · simp only [impl_ParseTerm.j0]
      rw [if_neg (by simp)]
      congr 1
      funext p
      rw [implMakeConst_eq]
      simp only [Option.bind_some]
      rw [empty_toList, if_pos he]
    · exact evb (implParse_ev s hs) (evc fun k => rfl)
def mSpecTerm (s : ByteArray) : Int × Bool :=
  if s = ⟨#[]⟩ then (0, false) else if (bytesOf s).head? = some 88 ∧ s.size > 1 then (if (mSpecParse (s.extract 1 s.size)).2 = true then mTFin s (mSpecParse (s.extract 1 s.size)).1 else mTFin s (-1000))
  else if (mSpecParse s).2 = true ∧ (mSpecParse s).1 ≥ 0 then mTFin s (wrap64 ((-1) - (mSpecParse s).1)) else mTFin s (-1000)
theorem specTerm_ev (s : ByteArray) (hs : s.size ≤ 140737488351232) : Ev (fun k => spec_ParseTerm.f k s) (mSpecTerm s) := by
  have hlen := bytesOf_length s
  -- the number's way
  have num : s ≠ ⟨#[]⟩ → Ev (fun k => spec_ParseTerm.j0 k s (-1000) false) (if (mSpecParse s).2 = true ∧ (mSpecParse s).1 ≥ 0 then mTFin s (wrap64 ((-1) - (mSpecParse s).1)) else mTFin s (-1000)) := by
    intro hne
    have j1 : ∀ (n : Int) (g : Bool), Ev (fun k => spec_ParseTerm.j1 k s (-1000) n g) (if g = true then mTFin s (wrap64 ((-1) - n)) else mTFin s (-1000)) := by
      intro n g
      cases g with
      | true =>
        refine Ev.step (fun k => ?_) (specTFin_ev s (wrap64 ((-1) - n)))
        simp only [spec_ParseTerm.j1]
        rw [if_pos trivial, empty_toList, if_neg hne]
      | false =>
        refine Ev.step (fun k => ?_) (specTFin_ev s (-1000))
        simp only [spec_ParseTerm.j1]
        rw [if_neg (by simp), empty_toList, if_neg hne]
    refine Ev.step (f := fun k => (spec_ParseInt.f k s).bind fun p => if p.2 = true then spec_ParseTerm.j1 k s (-1000) p.1 (decide (p.1 ≥ 0)) else spec_ParseTerm.j1 k s (-1000) p.1 false) (fun k => ?_) ?_
    · simp only [spec_ParseTerm.j0]
      rw [if_neg (by simp)]
    · refine evb (specParse_ev s hs) ?_
      by_cases h2 : (mSpecParse s).2 = true
      · simp only [if_pos h2]
        have r := j1 (mSpecParse s).1 (decide ((mSpecParse s).1 ≥ 0))
        by_cases h3 : (mSpecParse s).1 ≥ 0
        · rw [if_pos ⟨h2, h3⟩]; simpa [h3] using r
        · rw [if_neg (fun h => h3 h.2)]; simpa [h3] using r
      · simp only [if_neg h2]
        rw [if_neg (fun h => h2 h.1)]
        simpa using j1 (mSpecParse s).1 false
  unfold spec_ParseTerm.f mSpecTerm
  by_cases he : s = ⟨#[]⟩
  · rw [if_pos he]
    have hz : ¬ (s.size : Int) > 1 := by rw [he]; simp [ByteArray.size]
    simp only [if_neg hz]
    have j1 : ∀ (n : Int) (g : Bool), Ev (fun k => spec_ParseTerm.j1 k s (-1000) n g) (0, false) := by
      intro n g
      refine evn fun k => ?_
      simp only [spec_ParseTerm.j1]
      cases g <;> simp only [Bool.false_eq_true, if_false, if_true] <;> rw [empty_toList, if_pos he]
    refine Ev.step (f := fun k => (spec_ParseInt.f k s).bind fun p => if p.2 = true then spec_ParseTerm.j1 k s (-1000) p.1 (decide (p.1 ≥ 0)) else spec_ParseTerm.j1 k s (-1000) p.1 false) (fun k => ?_) ?_
    · simp only [spec_ParseTerm.j0]
      rw [if_neg (by simp)]
    · refine evb (specParse_ev s hs) ?_
      by_cases h2 : (mSpecParse s).2 = true
      · simp only [if_pos h2]; exact j1 _ _
      · simp only [if_neg h2]; exact j1 _ _
  · rw [if_neg he]
    have hpos : 0 < s.size := by
      rcases Nat.eq_zero_or_pos s.size with h | h
      · exact absurd (bytes_inj (show bytesOf s = bytesOf ⟨#[]⟩ by rw [List.eq_nil_of_length_eq_zero (show (bytesOf s).length = 0 by omega)]; rfl)) he
      · exact h
    obtain ⟨c, t, hb⟩ : ∃ c t, bytesOf s = c :: t := by
      cases h : bytesOf s with
      | nil => rw [h] at hlen; simp at hlen; omega
      | cons c t => exact ⟨c, t, rfl⟩
    have hc0 : bt s 0 = c := by rw [bt_rd, hb]; rfl
    by_cases h1 : (s.size : Int) > 1
    · simp only [if_pos h1, if_true, show (0 : Int) < (s.size : Int) by omega]
      rw [hc0]
      by_cases h88 : c = 88
      · rw [if_pos ⟨by rw [hb, h88]; rfl, by omega⟩]
        refine Ev.step (f := fun k => (spec_ParseInt.f k (s.extract 1 s.size)).bind fun p => if p.2 = true then (spec_FormatTerm.f k p.1).bind fun u => if u.toList = s.toList then some (p.1, true) else some (0, false) else (spec_FormatTerm.f k (-1000)).bind fun u => if u.toList = s.toList then some (-1000, true) else some (0, false)) (fun k => ?_) ?_
        · simp only [spec_ParseTerm.j0]
          rw [if_pos (by simpa using h88), if_pos (by omega)]
          congr 1
          funext p
          rw [empty_toList, if_neg he, empty_toList, if_neg he]
        · refine evb (specParse_ev _ (by have := extract_size s; omega)) ?_
          by_cases h2 : (mSpecParse (s.extract 1 s.size)).2 = true
          · simp only [if_pos h2]; exact specTFin_ev s _
          · simp only [if_neg h2]; exact specTFin_ev s _
      · rw [if_neg (fun h => h88 (by rw [hb] at h; simpa using h.1))]
        rw [show (c == 88) = false by simpa using h88]
        exact num he
    · simp only [if_neg h1]
      rw [if_neg (fun h => h1 (by have := h.2; omega))]
      exact num he
/-- Both read the same terms. -/
theorem term_yes (s : ByteArray) (t : Int) (hT : mIsTerm t = true) (e : s = strOfNums (mFmtTerm t)) : mImplTerm s = (t, true) ∧ mSpecTerm s = (t, true) := by
  have hb : bytesOf s = mFmtTerm t := by rw [e]; exact mFmtTerm_bytes t
  have hr : -80 ≤ t ∧ t ≤ 19 := by simpa [mIsTerm] using hT
  have hne : ¬ s = ⟨#[]⟩ := by intro h; rw [h] at hb; exact mFmtTerm_ne hT hb.symm
  by_cases hv : mIsVar t = true
  · have hv2 : 0 ≤ t ∧ t ≤ 19 := by simpa [mIsVar] using hv
    have hf : mFmtTerm t = 88 :: mFmt t := by unfold mFmtTerm; rw [if_pos hv]
    have hx : s.extract 1 s.size = strOfNums (mFmt t) := extract_tail s 88 _ (by rw [hb, hf])
    have hl := mDg_len (m := t.natAbs) (by omega)
    have hsz : s.size > 1 := by rw [← bytesOf_length, hb, hf, mFmt_nonneg (by omega)]; simp; omega
    constructor
    · unfold mImplTerm
      rw [if_neg hne, if_pos (by rw [hb, hf]; rfl), hx, implParse_yes _ t (by omega) (by omega) rfl]
      exact tfin_yes s t e
    · unfold mSpecTerm
      rw [if_neg hne, if_pos ⟨by rw [hb, hf]; rfl, hsz⟩, hx, specParse_yes _ t (by omega) (by omega) rfl]
      simp only [if_true]
      exact tfin_yes s t e
  · have hv2 : ¬ (0 ≤ t ∧ t ≤ 19) := by simpa [mIsVar] using hv
    have hf : mFmtTerm t = mFmt (-1 - t) := by unfold mFmtTerm; rw [if_neg hv, if_pos hT]
    have hs : s = strOfNums (mFmt (-1 - t)) := by rw [← hf]; exact e
    have hh : ¬ (bytesOf s).head? = some 88 := by
      rw [hb, hf, mFmt_nonneg (by omega)]
      have hd := mDg_digits (-1 - t).natAbs
      cases hx : mDg (-1 - t).natAbs with
      | nil => simp
      | cons c u =>
        rw [hx] at hd
        simp only [List.all_cons, Bool.and_eq_true, mIsDg, decide_eq_true_eq] at hd
        simp; omega
    constructor
    · unfold mImplTerm
      rw [if_neg hne, if_neg hh, implParse_yes s (-1 - t) (by omega) (by omega) hs]
      have : mMkConst (-1 - t) = t := by unfold mMkConst; rw [if_pos (by omega)]; omega
      simp only [this]
      exact tfin_yes s t e
    · unfold mSpecTerm
      rw [if_neg hne, if_neg (fun h => hh h.1), specParse_yes s (-1 - t) (by omega) (by omega) hs]
      simp only
      rw [if_pos ⟨trivial, by omega⟩, w64 (by omega) (by omega), show (-1 : Int) - (-1 - t) = t by omega]
      exact tfin_yes s t e
theorem term_no (s : ByteArray) (h : ∀ t, mIsTerm t = true → s ≠ strOfNums (mFmtTerm t)) : mImplTerm s = (0, false) ∧ mSpecTerm s = (0, false) := by
  unfold mImplTerm mSpecTerm
  by_cases he : s = ⟨#[]⟩
  · rw [if_pos he, if_pos he]; exact ⟨rfl, rfl⟩
  · rw [if_neg he, if_neg he]
    simp only [tfin_no s he h, ite_self]
    exact ⟨trivial, trivial⟩
theorem term_same (s : ByteArray) : mImplTerm s = mSpecTerm s := by
  by_cases h : ∃ t, mIsTerm t = true ∧ s = strOfNums (mFmtTerm t)
  · obtain ⟨t, h0, e⟩ := h
    have := term_yes s t h0 e
    rw [this.1, this.2]
  · have := term_no s (fun t h0 e => h ⟨t, h0, e⟩)
    rw [this.1, this.2]

theorem FnExactParseTerm : laws_FnExactParseTerm.Pure := by
  intro s hs
  refine Ev.rounds ?_
  unfold laws_FnExactParseTerm.f
  by_cases hb : (s.size : Int) > 1048576
  · refine evc fun k => ?_; rw [if_pos hb]
  · simp only [if_neg hb]
    refine evb (specTerm_ev s hs) ?_
    refine evb (implTerm_ev s hs) ?_
    refine evc fun k => ?_
    rw [term_same]
    simp

end Go.Proofs.Ytpfpappamlgnoaa.Pure
