/- The pure statement of the law FnExactFormatTerm: the program's function and the reference's agree, for all arguments within the row's bounds. -/
import Derived.Test.YtanmidjjcfkpeaaQFnExactFormatTermx2
import Derived.Test.YtanmidjjcfkpeaaMine
import Derived.Test.YtanmidjjcfkpeaaOpen
set_option linter.unusedVariables false
set_option linter.unusedSimpArgs false
namespace Go.Proofs.Ytanmidjjcfkpeaa.Pure
open Go.RowKit Go.Proofs.Ytanmidjjcfkpeaa.QFnExactFormatTerm Go.Proofs.YtanmidjjcfkpeaaW.PrintWords Go.Proofs.YtanmidjjcfkpeaaW.PrintLast Go.Proofs.Ytanmidjjcfkpeaa.Mine Go.Proofs.Ytanmidjjcfkpeaa.Open

/-! ### FormatInt -/
theorem tdiv_neg10 (m : Nat) : Int.tdiv (-(m : Int)) 10 = -((m / 10 : Nat) : Int) := by
  rw [Int.neg_tdiv, Int.tdiv_eq_ediv_of_nonneg (by omega)]; omega
theorem tmod_neg10 (m : Nat) : Int.tmod (-(m : Int)) 10 = -((m % 10 : Nat) : Int) := by
  rw [Int.neg_tmod, Int.tmod_eq_emod_of_nonneg (by omega)]; omega
theorem tdiv_pos10 (m : Nat) : Int.tdiv (m : Int) 10 = ((m / 10 : Nat) : Int) := by
  rw [Int.tdiv_eq_ediv_of_nonneg (by omega)]; omega
theorem tmod_pos10 (m : Nat) : Int.tmod (m : Int) 10 = ((m % 10 : Nat) : Int) := by
  rw [Int.tmod_eq_emod_of_nonneg (by omega)]; omega
theorem append_empty_left (b : ByteArray) : strOfNums [] ++ b = b := by simp [strOfNums, ByteArray.ext_iff]
theorem dig_byte (d : Nat) (h : d < 10) : (48 + (d : Int)) % 256 = 48 + (d : Int) := by omega
theorem specFmt_pos : ∀ (j m : Nat) (out : ByteArray), m < 10 ^ j → m ≤ 9223372036854775807 → out.size + j ≤ 1000 → Ev (fun k => spec_FormatInt.l0 k m out false) (strOfNums (mDig m) ++ out)
  | 0, m, out, h, hm, ho => by
    obtain rfl : m = 0 := by simpa using h
    refine evn fun k => ?_
    simp only [spec_FormatInt.l0]
    rw [if_pos (by omega), if_neg (by simp), mDig_zero, append_empty_left]
  | j + 1, m, out, h, hm, ho => by
    by_cases h0 : m = 0
    · subst h0
      refine evn fun k => ?_
      simp only [spec_FormatInt.l0]
      rw [if_pos (by omega), if_neg (by simp), mDig_zero, append_empty_left]
    · have hj : m / 10 < 10 ^ j := by rw [Nat.pow_succ] at h; omega
      have hs : (strOfNums [48 + ((m % 10 : Nat) : Int)] ++ out).size + j ≤ 1000 := by rw [ByteArray.size_append, strOfNums_size]; simp; omega
      have r := specFmt_pos j (m / 10) (strOfNums [48 + ((m % 10 : Nat) : Int)] ++ out) hj (by omega) hs
      rw [mDig_pos h0, strOfNums_append, ByteArray.append_assoc]
      refine Ev.step (fun k => ?_) r
      simp only [spec_FormatInt.l0]
      rw [if_neg (by omega), tmod_pos10, tdiv_pos10, if_neg (by omega)]
      simp only [Option.bind_some]
      rw [w64 (by omega) (by omega), dig_byte _ (by omega), if_pos (by rw [strOfNums_size]; simp; omega), w64 (by omega) (by omega)]
theorem specFmt_neg : ∀ (j m : Nat) (out : ByteArray), m < 10 ^ j → m ≤ 9223372036854775808 → out.size + j ≤ 1000 → Ev (fun k => spec_FormatInt.l0 k (-(m : Int)) out true) (strOfNums [45] ++ (strOfNums (mDig m) ++ out))
  | 0, m, out, h, hm, ho => by
    obtain rfl : m = 0 := by simpa using h
    refine evn fun k => ?_
    simp only [spec_FormatInt.l0]
    rw [if_pos (by omega), if_pos trivial, if_pos (by omega), mDig_zero, append_empty_left]
    rfl
  | j + 1, m, out, h, hm, ho => by
    by_cases h0 : m = 0
    · subst h0
      refine evn fun k => ?_
      simp only [spec_FormatInt.l0]
      rw [if_pos (by omega), if_pos trivial, if_pos (by omega), mDig_zero, append_empty_left]
      rfl
    · have hj : m / 10 < 10 ^ j := by rw [Nat.pow_succ] at h; omega
      have hs : (strOfNums [48 + ((m % 10 : Nat) : Int)] ++ out).size + j ≤ 1000 := by rw [ByteArray.size_append, strOfNums_size]; simp; omega
      have r := specFmt_neg j (m / 10) (strOfNums [48 + ((m % 10 : Nat) : Int)] ++ out) hj (by omega) hs
      rw [mDig_pos h0, strOfNums_append, ByteArray.append_assoc]
      refine Ev.step (fun k => ?_) r
      simp only [spec_FormatInt.l0]
      rw [if_neg (by omega), tmod_neg10, tdiv_neg10]
      by_cases hd : m % 10 = 0
      · rw [if_neg (by omega)]
        simp only [Option.bind_some]
        rw [w64 (by omega) (by omega), if_pos (by rw [strOfNums_size]; simp; omega), w64 (by omega) (by omega)]
        rw [show (48 + -((m % 10 : Nat) : Int)) % 256 = 48 + ((m % 10 : Nat) : Int) by omega]
      · rw [if_pos (by omega)]
        simp only [Option.bind_some]
        rw [w64 (x := - -((m % 10 : Nat) : Int)) (by omega) (by omega), w64 (by omega) (by omega), if_pos (by rw [strOfNums_size]; simp; omega), w64 (by omega) (by omega)]
        rw [show (48 + - -((m % 10 : Nat) : Int)) % 256 = 48 + ((m % 10 : Nat) : Int) by omega]
theorem append_empty_right (b : ByteArray) : b ++ (⟨#[]⟩ : ByteArray) = b := by simp [ByteArray.ext_iff]
theorem specFmt_ev (n : Int) (h0 : -9223372036854775808 ≤ n) (h1 : n ≤ 9223372036854775807) : Ev (fun k => spec_FormatInt.f k n) (strOfNums (mFmt n)) := by
  unfold spec_FormatInt.f mFmt
  by_cases hz : n = 0
  · simp only [if_pos hz]; exact evc fun k => rfl
  · simp only [if_neg hz]
    by_cases hn : n < 0
    · obtain ⟨m, rfl⟩ : ∃ m : Nat, n = -(m : Int) := ⟨n.natAbs, by omega⟩
      have r := specFmt_neg 20 m ⟨#[]⟩ (by omega) (by omega) (by simp [ByteArray.size])
      rw [append_empty_right] at r
      rw [if_pos hn, decide_eq_true hn, show (-(m : Int)).natAbs = m by omega]
      rw [show (45 : Int) :: mDig m = [45] ++ mDig m from rfl, strOfNums_append]
      exact r
    · obtain ⟨m, rfl⟩ : ∃ m : Nat, n = (m : Int) := ⟨n.natAbs, by omega⟩
      have r := specFmt_pos 20 m ⟨#[]⟩ (by omega) (by omega) (by simp [ByteArray.size])
      rw [append_empty_right] at r
      rw [if_neg hn, decide_eq_false hn, show ((m : Int)).natAbs = m by omega]
      exact r
theorem implRev : ∀ (n : Nat) (M A B : List Int), M.length ≤ n → A.length = B.length → (A ++ M ++ B).length ≤ 1000 → Ev (fun k => impl_FormatInt.l1 k (A ++ M ++ B) (A.length : Int) ((A.length : Int) + (M.length : Int) - 1)) (strOfNums (A ++ M.reverse ++ B))
  | n, [], A, B, hn, hab, hl => by
    refine evn fun k => ?_
    simp only [impl_FormatInt.l1]
    rw [if_neg (by simp <;> omega)]; simp
  | n, [a], A, B, hn, hab, hl => by
    refine evn fun k => ?_
    simp only [impl_FormatInt.l1]
    rw [if_neg (by simp <;> omega)]; simp
  | 0, a :: c :: R, A, B, hn, hab, hl => by simp at hn
  | n + 1, a :: c :: R, A, B, hn, hab, hl => by
    obtain ⟨M', b, hM⟩ : ∃ M' b, c :: R = M' ++ [b] := ⟨(c :: R).dropLast, (c :: R).getLast (by simp), (List.dropLast_concat_getLast (by simp)).symm⟩
    rw [hM]
    have hlen : M'.length + 1 = R.length + 1 := by have := congrArg List.length hM; simpa using this.symm
    have hsz : A.length + M'.length + B.length + 2 ≤ 1000 := by simp at hl; omega
    have r := implRev n M' (A ++ [b]) (a :: B) (by simp at hn; omega) (by simp [hab]) (by simp; omega)
    have e1 : (A ++ a :: (M' ++ [b]) ++ B) = A ++ a :: (M' ++ b :: B) := by simp
    have e2 : (A ++ a :: (M' ++ b :: B)) = (A ++ a :: M') ++ b :: B := by simp
    have ei : (A.length : Int) + ((a :: (M' ++ [b])).length : Int) - 1 = ((A ++ a :: M').length : Int) := by simp; omega
    have er : A ++ (a :: (M' ++ [b])).reverse ++ B = (A ++ [b]) ++ M'.reverse ++ (a :: B) := by simp
    rw [er, ei, e1]
    refine Ev.step (fun k => ?_) r
    simp only [impl_FormatInt.l1]
    have ra : rd (A ++ a :: (M' ++ b :: B)) (A.length : Int) = a := rd_mid _ _ _
    have rb : rd (A ++ a :: (M' ++ b :: B)) ((A ++ a :: M').length : Int) = b := by rw [e2]; exact rd_mid _ _ _
    rw [if_pos (by simp; omega), if_pos (by omega), if_pos (by simp; omega), if_pos (by omega), if_pos (by simp; omega), ra, rb, set_mid]
    have e3 : (A ++ b :: (M' ++ b :: B)) = (A ++ b :: M') ++ b :: B := by simp
    have e4 : ((A ++ a :: M').length : Int) = ((A ++ b :: M').length : Int) := by simp
    rw [e3, e4, set_mid, w64 (by omega) (by omega), w64 (by simp; omega) (by simp; omega)]
    congr 1
    · simp
    · simp
    · simp; omega
theorem implFmt_end (x : Int) (acc : List Int) (h : acc.length ≤ 900) : Ev (fun k => impl_FormatInt.l0 k x acc 0) (strOfNums ((if x < 0 then [45] else []) ++ acc.reverse)) := by
  have jr : ∀ y : List Int, y.length ≤ 901 → Ev (fun k => impl_FormatInt.j1 k y) (strOfNums y.reverse) := by
    intro y hy
    have r := implRev y.length y [] [] (Nat.le_refl _) rfl (by simp; omega)
    simp only [List.nil_append, List.append_nil, List.length_nil] at r
    refine Ev.step (fun k => ?_) r
    simp only [impl_FormatInt.j1]
    rw [w64 (by omega) (by omega)]
    congr 1; simp
  by_cases hx : x < 0
  · have r := jr (acc ++ [45]) (by simp; omega)
    rw [if_pos hx]
    refine Ev.step (fun k => ?_) (by simpa using r)
    simp only [impl_FormatInt.l0]
    rw [if_pos trivial, if_pos hx, if_pos (by omega)]
  · have r := jr acc (by omega)
    rw [if_neg hx]
    refine Ev.step (fun k => ?_) (by simpa using r)
    simp only [impl_FormatInt.l0]
    rw [if_pos trivial, if_neg hx]
theorem implFmt_pos (x : Int) : ∀ (j m : Nat) (acc : List Int), m < 10 ^ j → m ≤ 9223372036854775807 → acc.length + j ≤ 900 → Ev (fun k => impl_FormatInt.l0 k x acc m) (strOfNums ((if x < 0 then [45] else []) ++ (mDig m ++ acc.reverse)))
  | 0, m, acc, h, hm, ho => by
    obtain rfl : m = 0 := by simpa using h
    rw [mDig_zero]; exact implFmt_end x acc (by omega)
  | j + 1, m, acc, h, hm, ho => by
    by_cases h0 : m = 0
    · subst h0; rw [mDig_zero]; exact implFmt_end x acc (by omega)
    · have hj : m / 10 < 10 ^ j := by rw [Nat.pow_succ] at h; omega
      have r := implFmt_pos x j (m / 10) (acc ++ [48 + ((m % 10 : Nat) : Int)]) hj (by omega) (by simp; omega)
      rw [mDig_pos h0]
      refine Ev.step (fun k => ?_) (by simpa using r)
      simp only [impl_FormatInt.l0]
      rw [if_neg (by omega), tmod_pos10, tdiv_pos10, if_neg (by omega), if_pos (by omega), w64 (by omega) (by omega), dig_byte _ (by omega), w64 (by omega) (by omega)]
      simp
theorem implFmt_neg (x : Int) : ∀ (j m : Nat) (acc : List Int), m < 10 ^ j → m ≤ 9223372036854775808 → acc.length + j ≤ 900 → Ev (fun k => impl_FormatInt.l0 k x acc (-(m : Int))) (strOfNums ((if x < 0 then [45] else []) ++ (mDig m ++ acc.reverse)))
  | 0, m, acc, h, hm, ho => by
    obtain rfl : m = 0 := by simpa using h
    rw [mDig_zero]; exact implFmt_end x acc (by omega)
  | j + 1, m, acc, h, hm, ho => by
    by_cases h0 : m = 0
    · subst h0; rw [mDig_zero]; exact implFmt_end x acc (by omega)
    · have hj : m / 10 < 10 ^ j := by rw [Nat.pow_succ] at h; omega
      have r := implFmt_neg x j (m / 10) (acc ++ [48 + ((m % 10 : Nat) : Int)]) hj (by omega) (by simp; omega)
      rw [mDig_pos h0]
      refine Ev.step (fun k => ?_) (by simpa using r)
      simp only [impl_FormatInt.l0]
      rw [if_neg (by omega), tmod_neg10, tdiv_neg10]
      by_cases hd : m % 10 = 0
      · rw [if_neg (by omega), if_pos (by omega), w64 (by omega) (by omega), w64 (by omega) (by omega)]
        rw [show (48 + -((m % 10 : Nat) : Int)) % 256 = 48 + ((m % 10 : Nat) : Int) by omega]
        simp
      · rw [if_pos (by omega), if_pos (by omega), w64 (x := - -((m % 10 : Nat) : Int)) (by omega) (by omega), w64 (by omega) (by omega), w64 (by omega) (by omega)]
        rw [show (48 + - -((m % 10 : Nat) : Int)) % 256 = 48 + ((m % 10 : Nat) : Int) by omega]
        simp
theorem implFmt_ev (n : Int) (h0 : -9223372036854775808 ≤ n) (h1 : n ≤ 9223372036854775807) : Ev (fun k => impl_FormatInt.f k n) (strOfNums (mFmt n)) := by
  unfold impl_FormatInt.f mFmt
  by_cases hz : n = 0
  · simp only [if_pos hz]; exact evc fun k => rfl
  · simp only [if_neg hz]
    by_cases hn : n < 0
    · obtain ⟨m, rfl⟩ : ∃ m : Nat, n = -(m : Int) := ⟨n.natAbs, by omega⟩
      have r := implFmt_neg (-(m : Int)) 20 m [] (by omega) (by omega) (by simp)
      rw [if_pos hn] at r
      rw [if_pos hn, show (-(m : Int)).natAbs = m by omega]
      simpa using r
    · obtain ⟨m, rfl⟩ : ∃ m : Nat, n = (m : Int) := ⟨n.natAbs, by omega⟩
      have r := implFmt_pos (m : Int) 20 m [] (by omega) (by omega) (by simp)
      rw [if_neg hn] at r
      rw [if_neg hn, show ((m : Int)).natAbs = m by omega]
      simpa using r

theorem l1In_eq (x lo hi : Int) : spec_l1In.f x lo hi = some (decide (lo ≤ x ∧ x ≤ hi)) := by
  unfold spec_l1In.f
  by_cases h : x ≥ lo
  · rw [if_pos h]; congr 1; simp; omega
  · rw [if_neg h]; congr 1; simp; omega

theorem within_eq (x lo hi : Int) : impl_within.f x lo hi = some (decide (lo ≤ x ∧ x ≤ hi)) := by
  unfold impl_within.f
  by_cases h : x ≥ lo
  · rw [if_pos h]; congr 1; simp; omega
  · rw [if_neg h]; congr 1; simp; omega

/-! ### Terms -/

theorem specIsVar_eq (t : Int) : spec_IsVar.f t = some (mIsVar t) := by
  simp [spec_IsVar.f, l1In_eq, mIsVar]
theorem specConstOf_eq (t : Int) : spec_ConstOf.f t = some (mConstOf t) := by
  unfold spec_ConstOf.f mConstOf
  simp only [l1In_eq, Option.bind_some]
  by_cases h : -80 ≤ t ∧ t ≤ -1
  · simp only [h, and_self, decide_true, if_true]; rw [w64 (by omega) (by omega)]
  · simp only [h, decide_false, Bool.false_eq_true, if_false]

theorem implIsTerm_eq (t : Int) : impl_IsTerm.f t = some (mIsTerm t) := by
  simp [impl_IsTerm.f, within_eq, mIsTerm]

theorem implIsVar_eq (t : Int) : impl_IsVar.f t = some (mIsVar t) := by
  simp [impl_IsVar.f, within_eq, mIsVar]
theorem implConstOf_eq (t : Int) : impl_ConstOf.f t = some (mConstOf t) := by
  unfold impl_ConstOf.f mConstOf
  simp only [implIsTerm_eq, implIsVar_eq, Option.bind_some, mIsTerm, mIsVar]
  by_cases h : -80 ≤ t ∧ t ≤ -1
  · rw [if_pos h, if_pos (by simp; omega), if_neg (by simp; omega)]; rw [w64 (by omega) (by omega)]
  · rw [if_neg h]
    by_cases h2 : -80 ≤ t ∧ t ≤ 19
    · rw [if_pos (by simpa using h2), if_pos (by simp; omega)]
    · rw [if_neg (by simpa using h2)]

/-! ### FormatTerm -/
theorem str_cons (c : Int) (l : List Int) : strOfNums (c :: l) = strOfNums [c] ++ strOfNums l := by
  rw [← strOfNums_append]; rfl
theorem specFmtTerm_ev (t : Int) : Ev (fun k => spec_FormatTerm.f k t) (strOfNums (mFmtTerm t)) := by
  unfold spec_FormatTerm.f mFmtTerm
  simp only [specIsVar_eq, specConstOf_eq, Option.bind_some]
  by_cases hv : mIsVar t = true
  · simp only [if_pos hv]
    have hb : 0 ≤ t ∧ t ≤ 19 := by simpa [mIsVar] using hv
    refine evb (specFmt_ev t (by omega) (by omega)) ?_
    have hl := small_fmt (n := t) (by omega) (by omega)
    refine evc fun k => ?_
    rw [if_pos (by rw [strOfNums_size]; omega), str_cons]
    rfl
  · simp only [if_neg hv]
    have hb : ¬ (0 ≤ t ∧ t ≤ 19) := by simpa [mIsVar] using hv
    by_cases ht : -80 ≤ t ∧ t ≤ -1
    · have hc : mConstOf t = -1 - t := by unfold mConstOf; rw [if_pos ht]
      have hg : mConstOf t ≥ 0 := by omega
      simp only [if_pos hg]
      have hT : mIsTerm t = true := by simp [mIsTerm]; omega
      simp only [if_pos hT]
      rw [hc]
      refine evb (specFmt_ev (-1 - t) (by omega) (by omega)) ?_
      exact evc fun k => rfl
    · have hc : mConstOf t = -1 := by unfold mConstOf; rw [if_neg ht]
      have hg : ¬ mConstOf t ≥ 0 := by omega
      simp only [if_neg hg]
      have hT : ¬ mIsTerm t = true := by simp [mIsTerm]; omega
      simp only [if_neg hT]
      exact evc fun k => rfl
theorem implFmtTerm_ev (t : Int) : Ev (fun k => impl_FormatTerm.f k t) (strOfNums (mFmtTerm t)) := by
  unfold impl_FormatTerm.f mFmtTerm
  simp only [implIsVar_eq, implIsTerm_eq, implConstOf_eq, Option.bind_some]
  by_cases hv : mIsVar t = true
  · simp only [if_pos hv]
    have hb : 0 ≤ t ∧ t ≤ 19 := by simpa [mIsVar] using hv
    refine evb (implFmt_ev t (by omega) (by omega)) ?_
    have hl := small_fmt (n := t) (by omega) (by omega)
    refine evc fun k => ?_
    rw [if_pos (by rw [strOfNums_size]; omega), str_cons]
    rfl
  · simp only [if_neg hv]
    have hb : ¬ (0 ≤ t ∧ t ≤ 19) := by simpa [mIsVar] using hv
    by_cases hT : mIsTerm t = true
    · have ht : -80 ≤ t ∧ t ≤ 19 := by simpa [mIsTerm] using hT
      have hc : mConstOf t = -1 - t := by unfold mConstOf; rw [if_pos (by omega)]
      simp only [if_pos hT]
      rw [hc]
      refine evb (implFmt_ev (-1 - t) (by omega) (by omega)) ?_
      exact evc fun k => rfl
    · simp only [if_neg hT]
      exact evc fun k => rfl

theorem FnExactFormatTerm : laws_FnExactFormatTerm.Pure := by
  intro t _
  refine Ev.rounds ?_
  unfold laws_FnExactFormatTerm.f
  refine evb (specFmtTerm_ev t) ?_
  refine evb (implFmtTerm_ev t) ?_
  refine evc fun k => ?_
  simp

end Go.Proofs.Ytanmidjjcfkpeaa.Pure
