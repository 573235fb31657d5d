/- The pure statement of the law FnExactEncodeFixed: the program's function and the reference's agree, for all arguments within the row's bounds. -/
import Derived.Test.YtoijocdconcfoaaPFnExactEncodeFixedx1
import Derived.Test.YtoijocdconcfoaaMine
set_option linter.unusedVariables false
set_option linter.unusedSimpArgs false
namespace Go.Proofs.Ytoijocdconcfoaa.Pure
open Go.RowKit Go.Proofs.Ytoijocdconcfoaa.PFnExactEncodeFixed Go.Proofs.YtoijocdconcfoaaW.PrintWords Go.Proofs.YtoijocdconcfoaaW.PrintLast Go.Proofs.Ytoijocdconcfoaa.Mine

/-! ### Terms -/
theorem l1In_eq (x lo hi : Int) : spec_l1In.f x lo hi = some (decide (lo ≤ x ∧ x ≤ hi)) := by
  unfold spec_l1In.f
  by_cases h : x ≥ lo
  · rw [if_pos h]; congr 1; simp; omega
  · rw [if_neg h]; congr 1; simp; omega
theorem within_eq (x lo hi : Int) : impl_within.f x lo hi = some (decide (lo ≤ x ∧ x ≤ hi)) := by
  unfold impl_within.f
  by_cases h : x ≥ lo
  · rw [if_pos h]; congr 1; simp; omega
  · rw [if_neg h]; congr 1; simp; omega

/-! ### Numbers of a fixed width -/
def mFix : Int → Nat → List Int
  | _, 0 => []
  | n, w + 1 => mFix (n / 256) w ++ [n % 256]
theorem mFix_length : ∀ (w : Nat) (n : Int), (mFix n w).length = w
  | 0, _ => rfl
  | w + 1, n => by simp [mFix, mFix_length w]
def mFixed (n w : Int) : ByteArray := if (1 ≤ w ∧ w ≤ 7) ∧ 0 ≤ n ∧ n < 256 ^ w.toNat then strOfNums (mFix n w.toNat) else ⟨#[]⟩
theorem specFix_l0 (w : Nat) (hw : w ≤ 7) : ∀ (d i : Nat) (n : Int) (out : ByteArray), i + d = w → 0 ≤ n → n ≤ 9223372036854775807 → out.size ≤ i →
    Ev (fun k => spec_EncodeFixed.l0 k n w out i) (if n < 256 ^ d then strOfNums (mFix n d) ++ out else ⟨#[]⟩)
  | 0, i, n, out, h, h0, h1, hs => by
    obtain rfl : i = w := by omega
    refine evn fun k => ?_
    simp only [spec_EncodeFixed.l0]
    rw [if_neg (by omega)]
    by_cases hn : n > 0
    · rw [if_pos hn, if_neg (by simp; omega)]
    · rw [if_neg hn, if_pos (by simp; omega)]
      simp [mFix, strOfNums]
      rfl
  | d + 1, i, n, out, h, h0, h1, hs => by
    have hb : ((strOfNums [n % 256]) ++ out).size ≤ i + 1 := by rw [ByteArray.size_append, strOfNums_size]; simp; omega
    have r := specFix_l0 w hw d (i + 1) (n / 256) ((strOfNums [n % 256]) ++ out) (by omega) (by omega) (by omega) hb
    have e : (if n < 256 ^ (d + 1) then strOfNums (mFix n (d + 1)) ++ out else ⟨#[]⟩) = (if n / 256 < 256 ^ d then strOfNums (mFix (n / 256) d) ++ (strOfNums [n % 256] ++ out) else ⟨#[]⟩) := by
      have ep : (256 : Int) ^ (d + 1) = 256 ^ d * 256 := by rw [Int.pow_succ]
      by_cases hc : n / 256 < 256 ^ d
      · rw [if_pos hc, if_pos (by omega)]
        simp only [mFix, strOfNums_append, ByteArray.append_assoc]
      · rw [if_neg hc, if_neg (by omega)]
    rw [e]
    refine Ev.step (fun k => ?_) r
    simp only [spec_EncodeFixed.l0]
    rw [if_pos (by omega)]
    have e1 : Int.tdiv n 256 = n / 256 := by rw [Int.tdiv_eq_ediv_of_nonneg h0]
    have e2 : Int.tmod n 256 % 256 = n % 256 := by rw [Int.tmod_eq_emod_of_nonneg h0]; omega
    simp only [Option.bind_some]
    rw [e1, e2, w64 (x := n / 256) (by omega) (by omega), if_pos (by rw [strOfNums_size]; simp; omega), w64 (x := (i : Int) + 1) (by omega) (by omega)]
    rfl
theorem set_zero (j : Nat) (v : Int) (done : List Int) : ((List.replicate (j + 1) (0 : Int)) ++ done).set j v = List.replicate j 0 ++ v :: done := by
  rw [List.replicate_succ']
  simp
theorem implFix_l0 : ∀ (j : Nat) (n : Int) (done : List Int), j ≤ 7 → 0 ≤ n → n < 256 ^ j → Ev (fun k => impl_EncodeFixed.l0 k n (List.replicate j 0 ++ done) ((j : Int) - 1)) (strOfNums (mFix n j ++ done))
  | 0, n, done, hj, h0, h1 => by
    refine evn fun k => ?_
    simp only [impl_EncodeFixed.l0]
    rw [if_neg (by omega)]
    simp [mFix]
  | j + 1, n, done, hj, h0, h1 => by
    have ep : (256 : Int) ^ (j + 1) = 256 ^ j * 256 := by rw [Int.pow_succ]
    have r := implFix_l0 j (n / 256) (n % 256 :: done) (by omega) (by omega) (by omega)
    have hp : (256 : Int) ^ (j + 1) ≤ 72057594037927936 := by
      have : j = 0 ∨ j = 1 ∨ j = 2 ∨ j = 3 ∨ j = 4 ∨ j = 5 ∨ j = 6 := by omega
      rcases this with rfl | rfl | rfl | rfl | rfl | rfl | rfl <;> decide
    refine Ev.step (fun k => ?_) (by simpa [mFix] using r)
    simp only [impl_EncodeFixed.l0]
    rw [if_pos (by omega), if_pos (by omega), if_pos (by simp; omega), mask255 h0 (by omega)]
    have e1 : (((j + 1 : Nat) : Int) - 1).toNat = j := by omega
    have e2 : n % 256 % 256 = n % 256 := by omega
    rw [e1, set_zero, e2, w64 (by omega) (by omega)]
    congr 1
    omega
theorem shl1 {n : Nat} (h1 : 1 ≤ n) (h : n ≤ 7) : shl .i64 1 (wrap64 (8 * (n : Int))) = 256 ^ n := by
  have : n = 1 ∨ n = 2 ∨ n = 3 ∨ n = 4 ∨ n = 5 ∨ n = 6 ∨ n = 7 := by omega
  rcases this with rfl | rfl | rfl | rfl | rfl | rfl | rfl <;> decide +kernel
theorem specFix_ev (n w : Int) (hn : n ≤ 9223372036854775807) : Ev (fun k => spec_EncodeFixed.f k n w) (mFixed n w) := by
  unfold spec_EncodeFixed.f mFixed
  simp only [l1In_eq, Option.bind_some]
  by_cases h : 1 ≤ w ∧ w ≤ 7
  · simp only [h, and_self, decide_true, if_true, true_and]
    obtain ⟨m, rfl⟩ := Int.eq_ofNat_of_zero_le (show 0 ≤ w by omega)
    by_cases h0 : n < 0
    · rw [if_neg (by omega)]
      refine evn fun k => ?_
      simp only [spec_EncodeFixed.j0]
      rw [if_pos (by simpa using h0)]
    · have r := specFix_l0 m (by omega) m 0 n ⟨#[]⟩ (by omega) (by omega) hn (by simp [ByteArray.size])
      have e : (if 0 ≤ n ∧ n < 256 ^ (m : Int).toNat then strOfNums (mFix n (m : Int).toNat) else ⟨#[]⟩) = (if n < 256 ^ m then strOfNums (mFix n m) ++ ⟨#[]⟩ else ⟨#[]⟩) := by
        simp only [Int.toNat_natCast, show 0 ≤ n from by omega, true_and]
        congr 1
        simp [ByteArray.ext_iff]
      rw [e]
      refine Ev.step (fun k => ?_) r
      simp only [spec_EncodeFixed.j0]
      rw [if_neg (by simpa using h0)]
      rfl
  · simp only [h, decide_false, Bool.false_eq_true, if_false, false_and]
    refine evn fun k => ?_
    simp only [spec_EncodeFixed.j0]
    rw [if_pos trivial]
theorem implFix_ev (n w : Int) : Ev (fun k => impl_EncodeFixed.f k n w) (mFixed n w) := by
  unfold impl_EncodeFixed.f mFixed
  simp only [within_eq, Option.bind_some]
  by_cases h : 1 ≤ w ∧ w ≤ 7
  · simp only [h, and_self, decide_true, if_true, true_and]
    obtain ⟨m, rfl⟩ := Int.eq_ofNat_of_zero_le (show 0 ≤ w by omega)
    have hs := shl1 (n := m) (by omega) (by omega)
    by_cases h0 : n < 0
    · simp only [if_pos h0]
      rw [if_neg (by omega)]
      refine evn fun k => ?_
      simp only [impl_EncodeFixed.j0]
      rw [if_pos trivial]
    · simp only [if_neg h0]
      rw [hs]
      have hw8 : 0 ≤ wrap64 (8 * (m : Int)) := by rw [w64 (by omega) (by omega)]; omega
      simp only [if_pos hw8, Int.toNat_natCast]
      by_cases h1 : n < 256 ^ m
      · rw [if_pos (by omega)]
        have r := implFix_l0 m n [] (by omega) (by omega) h1
        refine Ev.step (fun k => ?_) (by simpa using r)
        simp only [impl_EncodeFixed.j0]
        rw [if_neg (by simp; omega), if_pos (by omega), if_pos (by omega), w64 (by omega) (by omega)]
        simp
      · rw [if_neg (by omega)]
        refine evn fun k => ?_
        simp only [impl_EncodeFixed.j0]
        rw [if_pos (by simp; omega)]
  · simp only [h, decide_false, Bool.false_eq_true, if_false, false_and]
    refine evn fun k => ?_
    simp only [impl_EncodeFixed.j0]
    rw [if_pos trivial]

theorem FnExactEncodeFixed : laws_FnExactEncodeFixed.Pure := by
  intro n w hn _
  refine Ev.rounds ?_
  unfold laws_FnExactEncodeFixed.f
  refine evb (specFix_ev n w (wfi hn).2) ?_
  refine evb (implFix_ev n w) ?_
  refine evc fun k => ?_
  simp

end Go.Proofs.Ytoijocdconcfoaa.Pure
