/- The pure statement of the law FnExactDecodeFixed: the program's function and the reference's agree, for all arguments within the row's bounds. -/
import Derived.Test.YtoijocdconcfoaaPFnExactDecodeFixedx1
import Derived.Test.YtoijocdconcfoaaMine
set_option linter.unusedVariables false
set_option linter.unusedSimpArgs false
namespace Go.Proofs.Ytoijocdconcfoaa.Pure
open Go.RowKit Go.Proofs.Ytoijocdconcfoaa.PFnExactDecodeFixed Go.Proofs.YtoijocdconcfoaaW.PrintWords Go.Proofs.YtoijocdconcfoaaW.PrintLast Go.Proofs.Ytoijocdconcfoaa.Mine

/-! ### Terms -/
theorem l1In_eq (x lo hi : Int) : spec_l1In.f x lo hi = some (decide (lo ≤ x ∧ x ≤ hi)) := by
  unfold spec_l1In.f
  by_cases h : x ≥ lo
  · rw [if_pos h]; congr 1; simp; omega
  · rw [if_neg h]; congr 1; simp; omega
theorem within_eq (x lo hi : Int) : impl_within.f x lo hi = some (decide (lo ≤ x ∧ x ≤ hi)) := by
  unfold impl_within.f
  by_cases h : x ≥ lo
  · rw [if_pos h]; congr 1; simp; omega
  · rw [if_neg h]; congr 1; simp; omega

/-! ### Bytes as a number -/
def mDec (s : ByteArray) : Nat → Int
  | 0 => 0
  | i + 1 => mDec s i * 256 + bt s i
theorem mDec_bound (s : ByteArray) : ∀ i, 0 ≤ mDec s i ∧ mDec s i < 256 ^ i
  | 0 => by simp [mDec]
  | i + 1 => by
    have h := mDec_bound s i
    have hb := bt_range s i
    simp only [mDec]
    have e : (256 : Int) ^ (i + 1) = 256 ^ i * 256 := by rw [Int.pow_succ]
    omega
theorem pow256 {i : Nat} (h : i ≤ 6) : (256 : Int) ^ i ≤ 281474976710656 := by
  have : i = 0 ∨ i = 1 ∨ i = 2 ∨ i = 3 ∨ i = 4 ∨ i = 5 ∨ i = 6 := by omega
  rcases this with rfl | rfl | rfl | rfl | rfl | rfl | rfl <;> decide
theorem specDec_l0 (s : ByteArray) (w : Nat) (hw : w ≤ 7) (hs : w ≤ s.size) : ∀ (d i : Nat), i + d = w → Ev (fun k => spec_DecodeFixed.l0 k s w (mDec s i) i) (mDec s w, true)
  | 0, i, h => by
    obtain rfl : i = w := by omega
    refine evn fun k => ?_
    simp only [spec_DecodeFixed.l0]
    rw [if_neg (by omega)]
  | d + 1, i, h => by
    have h1 := specDec_l0 s w hw hs d (i + 1) (by omega)
    have b := mDec_bound s i
    have p := pow256 (i := i) (by omega)
    have c := bt_range s i
    refine Ev.step (fun k => ?_) h1
    simp only [spec_DecodeFixed.l0]
    rw [if_pos (by omega), if_pos (by omega), if_pos (by omega), w64 (x := mDec s i * 256) (by omega) (by omega), w64 (x := bt s i) (by omega) (by omega), w64 (by omega) (by omega), w64 (x := (i : Int) + 1) (by omega) (by omega)]
    rfl
theorem implDec_l0 (s : ByteArray) (w : Nat) (hw : w ≤ 7) (hs : w ≤ s.size) : ∀ (d i : Nat), i + d = w → Ev (fun k => impl_DecodeFixed.l0 k s w (mDec s i) i) (mDec s w, true)
  | 0, i, h => by
    obtain rfl : i = w := by omega
    refine evn fun k => ?_
    simp only [impl_DecodeFixed.l0]
    rw [if_neg (by omega)]
  | d + 1, i, h => by
    have h1 := implDec_l0 s w hw hs d (i + 1) (by omega)
    have b := mDec_bound s i
    have p := pow256 (i := i) (by omega)
    have c := bt_range s i
    refine Ev.step (fun k => ?_) h1
    simp only [impl_DecodeFixed.l0]
    rw [if_pos (by omega), if_pos (by omega), if_pos (by omega), w64 (x := mDec s i * 256) (by omega) (by omega), w64 (x := bt s i) (by omega) (by omega), orjoin 8 (by omega) (by omega) (by omega) (by omega) (by omega) (by omega), w64 (x := (i : Int) + 1) (by omega) (by omega)]
    rfl
def mDecode (s : ByteArray) (w : Int) : Int × Bool := if (1 ≤ w ∧ w ≤ 7) ∧ w ≤ (s.size : Int) then (mDec s w.toNat, true) else (0, false)
theorem specDec_ev (s : ByteArray) (w : Int) : Ev (fun k => spec_DecodeFixed.f k s w) (mDecode s w) := by
  unfold spec_DecodeFixed.f mDecode
  simp only [l1In_eq, Option.bind_some]
  by_cases h : 1 ≤ w ∧ w ≤ 7
  · simp only [h, and_self, decide_true, if_true, true_and]
    obtain ⟨n, rfl⟩ := Int.eq_ofNat_of_zero_le (show 0 ≤ w by omega)
    by_cases h2 : (n : Int) ≤ (s.size : Int)
    · rw [if_pos h2]
      have h1 := specDec_l0 s n (by omega) (by omega) n 0 (by omega)
      refine Ev.step (fun k => ?_) h1
      simp only [spec_DecodeFixed.j0]
      rw [if_neg (by simp; omega)]
      rfl
    · rw [if_neg h2]
      refine evn fun k => ?_
      simp only [spec_DecodeFixed.j0]
      rw [if_pos (by simp; omega)]
  · simp only [h, decide_false, Bool.false_eq_true, if_false, false_and]
    refine evn fun k => ?_
    simp only [spec_DecodeFixed.j0]
    rw [if_pos trivial]
theorem implDec_ev (s : ByteArray) (w : Int) : Ev (fun k => impl_DecodeFixed.f k s w) (mDecode s w) := by
  unfold impl_DecodeFixed.f mDecode
  simp only [within_eq, Option.bind_some]
  by_cases h : 1 ≤ w ∧ w ≤ 7
  · simp only [h, and_self, decide_true, if_true, true_and]
    obtain ⟨n, rfl⟩ := Int.eq_ofNat_of_zero_le (show 0 ≤ w by omega)
    by_cases h2 : (n : Int) ≤ (s.size : Int)
    · rw [if_pos h2]
      have h1 := implDec_l0 s n (by omega) (by omega) n 0 (by omega)
      refine Ev.step (fun k => ?_) h1
      simp only [impl_DecodeFixed.j0]
      rw [if_neg (by simp; omega)]
      rfl
    · rw [if_neg h2]
      refine evn fun k => ?_
      simp only [impl_DecodeFixed.j0]
      rw [if_pos (by simp; omega)]
  · simp only [h, decide_false, Bool.false_eq_true, if_false, false_and]
    refine evn fun k => ?_
    simp only [impl_DecodeFixed.j0]
    rw [if_pos trivial]

theorem FnExactDecodeFixed : laws_FnExactDecodeFixed.Pure := by
  intro s w _ _
  refine Ev.rounds ?_
  unfold laws_FnExactDecodeFixed.f
  by_cases hb : (s.size : Int) > 1048576
  · refine evc fun k => ?_; rw [if_pos hb]
  · simp only [if_neg hb]
    refine evb (specDec_ev s w) ?_
    refine evb (implDec_ev s w) ?_
    refine evc fun k => ?_
    simp

end Go.Proofs.Ytoijocdconcfoaa.Pure
