/- The pure statement of the law FnExactEncodeVarint: the program's function and the reference's agree, for all arguments within the row's bounds. -/
import Derived.Test.YtoijocdconcfoaaPFnExactEncodeVarintx1
import Derived.Test.YtoijocdconcfoaaMine
set_option linter.unusedVariables false
set_option linter.unusedSimpArgs false
namespace Go.Proofs.Ytoijocdconcfoaa.Pure
open Go.RowKit Go.Proofs.Ytoijocdconcfoaa.PFnExactEncodeVarint Go.Proofs.YtoijocdconcfoaaW.PrintWords Go.Proofs.YtoijocdconcfoaaW.PrintLast Go.Proofs.Ytoijocdconcfoaa.Mine

/-! ### Terms -/
theorem l1In_eq (x lo hi : Int) : spec_l1In.f x lo hi = some (decide (lo ≤ x ∧ x ≤ hi)) := by
  unfold spec_l1In.f
  by_cases h : x ≥ lo
  · rw [if_pos h]; congr 1; simp; omega
  · rw [if_neg h]; congr 1; simp; omega
theorem within_eq (x lo hi : Int) : impl_within.f x lo hi = some (decide (lo ≤ x ∧ x ≤ hi)) := by
  unfold impl_within.f
  by_cases h : x ≥ lo
  · rw [if_pos h]; congr 1; simp; omega
  · rw [if_neg h]; congr 1; simp; omega

/-! ### Varints -/
def mVi (n : Nat) : List Int := if n < 128 then [(n : Int)] else (128 + (n % 128 : Nat) : Int) :: mVi (n / 128)
termination_by n
decreasing_by omega
theorem mVi_small {n : Nat} (h : n < 128) : mVi n = [(n : Int)] := by rw [mVi, if_pos h]
theorem mVi_big {n : Nat} (h : ¬ n < 128) : mVi n = (128 + (n % 128 : Nat) : Int) :: mVi (n / 128) := by rw [mVi, if_neg h]
theorem specEncV_l0 : ∀ (j n : Nat) (acc : List Int), n < 128 ^ j → n ≤ 562949953421311 → acc.length + j ≤ 1000 → Ev (fun k => spec_EncodeVarint.l0 k n acc) (strOfNums (acc ++ mVi n))
  | 0, n, acc, h, hn, hl => by
    obtain rfl : n = 0 := by simpa using h
    refine evn fun k => ?_
    simp only [spec_EncodeVarint.l0]
    rw [if_neg (by omega), if_pos (by omega), mVi_small (by omega)]
    rfl
  | j + 1, n, acc, h, hn, hl => by
    by_cases hs : n < 128
    · refine evn fun k => ?_
      simp only [spec_EncodeVarint.l0]
      rw [if_neg (by omega), if_pos (by omega), mVi_small hs]
      rw [show (n : Int) % 256 = n by omega]
    · have hj : n / 128 < 128 ^ j := by rw [Nat.pow_succ] at h; omega
      have h1 := specEncV_l0 j (n / 128) (acc ++ [(128 + (n % 128 : Nat) : Int)]) hj (by omega) (by simp; omega)
      rw [mVi_big hs]
      refine Ev.step (fun k => ?_) (by simpa using h1)
      simp only [spec_EncodeVarint.l0]
      rw [if_pos (by omega), if_pos (by omega)]
      have e1 : Int.tdiv (n : Int) 128 = ((n / 128 : Nat) : Int) := by rw [Int.tdiv_eq_ediv_of_nonneg (by omega)]; omega
      have e2 : Int.tmod (n : Int) 128 = ((n % 128 : Nat) : Int) := by rw [Int.tmod_eq_emod_of_nonneg (by omega)]; omega
      rw [e1, e2, w64 (x := ((n / 128 : Nat) : Int)) (by omega) (by omega), w64 (by omega) (by omega)]
      have e3 : (128 + ((n % 128 : Nat) : Int)) % 256 = 128 + ((n % 128 : Nat) : Int) := by omega
      rw [e3]
      simp
theorem implEncV_l0 : ∀ (j n : Nat) (acc : List Int), n < 128 ^ j → n ≤ 562949953421311 → acc.length + j ≤ 1000 → Ev (fun k => impl_EncodeVarint.l0 k n acc) (strOfNums (acc ++ mVi n))
  | 0, n, acc, h, hn, hl => by
    obtain rfl : n = 0 := by simpa using h
    refine evn fun k => ?_
    simp only [impl_EncodeVarint.l0]
    rw [if_neg (by omega), if_pos (by omega), mVi_small (by omega)]
    rfl
  | j + 1, n, acc, h, hn, hl => by
    by_cases hs : n < 128
    · refine evn fun k => ?_
      simp only [impl_EncodeVarint.l0]
      rw [if_neg (by omega), if_pos (by omega), mVi_small hs]
      rw [show (n : Int) % 256 = n by omega]
    · have hj : n / 128 < 128 ^ j := by rw [Nat.pow_succ] at h; omega
      have h1 := implEncV_l0 j (n / 128) (acc ++ [(128 + (n % 128 : Nat) : Int)]) hj (by omega) (by simp; omega)
      rw [mVi_big hs]
      refine Ev.step (fun k => ?_) (by simpa using h1)
      simp only [impl_EncodeVarint.l0]
      rw [if_pos (by omega), if_pos (by omega)]
      rw [mask127 (by omega) (by omega), or128 (by omega) (by omega)]
      have e1 : (n : Int) / 128 = ((n / 128 : Nat) : Int) := by omega
      have e3 : (128 + (n : Int) % 128) % 256 = 128 + ((n % 128 : Nat) : Int) := by omega
      rw [e1, e3]
      simp
def mEncV (n : Int) : ByteArray := if 0 ≤ n ∧ n ≤ 562949953421311 then strOfNums (mVi n.toNat) else ⟨#[]⟩
theorem specEncV_ev (n : Int) : Ev (fun k => spec_EncodeVarint.f k n) (mEncV n) := by
  unfold spec_EncodeVarint.f mEncV
  simp only [l1In_eq, Option.bind_some]
  by_cases h : 0 ≤ n ∧ n ≤ 562949953421311
  · simp only [h, and_self, decide_true, if_true]
    obtain ⟨m, rfl⟩ := Int.eq_ofNat_of_zero_le h.1
    simpa using specEncV_l0 7 m [] (by omega) (by omega) (by simp)
  · simp only [h, decide_false, Bool.false_eq_true, if_false]
    exact evc fun k => rfl
theorem implEncV_ev (n : Int) : Ev (fun k => impl_EncodeVarint.f k n) (mEncV n) := by
  unfold impl_EncodeVarint.f mEncV
  simp only [within_eq, Option.bind_some]
  by_cases h : 0 ≤ n ∧ n ≤ 562949953421311
  · simp only [h, and_self, decide_true, if_true]
    obtain ⟨m, rfl⟩ := Int.eq_ofNat_of_zero_le h.1
    simpa using implEncV_l0 7 m [] (by omega) (by omega) (by simp)
  · simp only [h, decide_false, Bool.false_eq_true, if_false]
    exact evc fun k => rfl

theorem FnExactEncodeVarint : laws_FnExactEncodeVarint.Pure := by
  intro n _
  refine Ev.rounds ?_
  unfold laws_FnExactEncodeVarint.f
  refine evb (specEncV_ev n) ?_
  refine evb (implEncV_ev n) ?_
  refine evc fun k => ?_
  simp

end Go.Proofs.Ytoijocdconcfoaa.Pure
