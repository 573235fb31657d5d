/- The pure statement of the law FnExactEncodeHex: the program's function and the reference's agree, for all arguments within the row's bounds. -/
import Derived.Test.YtanbgnjfllpkgaaQFnExactEncodeHexx1
import Derived.Test.YtanbgnjfllpkgaaMine
import Derived.Test.YtanbgnjfllpkgaaOpen
set_option linter.unusedVariables false
set_option linter.unusedSimpArgs false
namespace Go.Proofs.Ytanbgnjfllpkgaa.Pure
open Go.RowKit Go.Proofs.Ytanbgnjfllpkgaa.QFnExactEncodeHex Go.Proofs.YtanbgnjfllpkgaaW.PrintWords Go.Proofs.YtanbgnjfllpkgaaW.PrintLast Go.Proofs.Ytanbgnjfllpkgaa.Mine Go.Proofs.Ytanbgnjfllpkgaa.Open

/-! ### Hex -/
def mHexL : List Int := [48, 49, 50, 51, 52, 53, 54, 55, 56, 57, 97, 98, 99, 100, 101, 102]
theorem bt_rd' (s : ByteArray) (i : Int) : bt s i = rd (bytesOf s) i := (rd_bytesOf s i).symm
theorem hexL_bt (i : Int) : bt (⟨#[48, 49, 50, 51, 52, 53, 54, 55, 56, 57, 97, 98, 99, 100, 101, 102]⟩ : ByteArray) i = rd mHexL i := by
  rw [bt_rd']; rfl
theorem bytes_range' (s : ByteArray) : ∀ x ∈ bytesOf s, 0 ≤ x ∧ x ≤ 255 := by
  intro x hx
  unfold bytesOf at hx
  obtain ⟨b, _, rfl⟩ := List.mem_map.1 hx
  have := b.toNat_lt
  omega
theorem digit_eq {i : Int} (h0 : 0 ≤ i) (h1 : i < 16) : spec_l1Digit.f i = some (rd mHexL i) := by
  unfold spec_l1Digit.f
  rw [if_pos h0, if_pos h1, hexL_bt]

theorem wraps_u8 (n : Int) (h0 : 0 ≤ n) (h1 : n < 2 ^ 8) : IntKind.u8.wrap n = n := by
  rw [IntKind.wrap_u8]
  omega
theorem mask15 {x : Int} (h0 : 0 ≤ x) (h1 : x ≤ 255) : Go.bits .and .u8 x 15 = x % 16 := bits_mask .u8 8 (by decide) wraps_u8 4 (by decide) x h0 (by omega)
def mHexE (b : Int) : List Int := [rd mHexL (b / 16), rd mHexL (b % 16)]
theorem specHex_ev (s : ByteArray) (hs : s.size ≤ 1048576) : Ev (fun k => spec_EncodeHex.f k s) (strOfNums ((bytesOf s).flatMap mHexE)) := by
  have hlen := bytesOf_length s
  have key := idx_ind (bytesOf s) (fun pre suf => ∀ acc : List Int, acc.length ≤ 2 * pre.length → Ev (fun k => spec_EncodeHex.l0 k s acc (pre.length : Int)) (strOfNums (acc ++ suf.flatMap mHexE))) ?_ ?_
  · exact key [] (Nat.le_refl _)
  · intro acc ha
    refine evn fun k => ?_
    have hn : ¬ (((bytesOf s).length : Int) < (s.size : Int)) := by omega
    simp only [spec_EncodeHex.l0]
    rw [if_neg hn]; simp
  · intro pre b suf e ih acc ha
    have hb := bytes_range' s b (by rw [e]; simp)
    have hp : pre.length < s.size := by have := lt_of e; omega
    have h1 : (pre.length : Int) < (s.size : Int) := by omega
    have hr : bt s (pre.length : Int) = b := by rw [bt_rd']; exact rd_of e
    have w1 : wrap64 b = b := w64 (by omega) (by omega)
    have w2 : wrap64 (Int.tdiv b 16) = b / 16 := by rw [Int.tdiv_eq_ediv_of_nonneg hb.1]; exact w64 (by omega) (by omega)
    have w3 : Int.tmod b 16 = b % 16 := Int.tmod_eq_emod_of_nonneg hb.1
    have hc : acc.length + ([rd mHexL (b / 16), rd mHexL (b % 16)] : List Int).length < 140737488355328 := by simp; omega
    refine Ev.step (fun k => spec_EncodeHex.l0.eq_2 ..) ?_
    simp only [if_pos h1, if_pos (len_nonneg _), hr, w1, w2, w3, digit_eq (i := b / 16) (by omega) (by omega), digit_eq (i := b % 16) (by omega) (by omega), Option.bind_some, if_pos hc, nx_of e (show (bytesOf s).length ≤ 140737488355328 by omega)]
    have r := ih (acc ++ [rd mHexL (b / 16), rd mHexL (b % 16)]) (by simp; omega)
    simpa [mHexE] using r
theorem implHex_ev (s : ByteArray) (hs : s.size ≤ 1048576) : Ev (fun k => impl_EncodeHex.f k s) (strOfNums ((bytesOf s).flatMap mHexE)) := by
  have hlen := bytesOf_length s
  have w0 : wrap64 (2 * (s.size : Int)) = 2 * (s.size : Int) := w64 (by omega) (by omega)
  have c1 : 0 ≤ 2 * (s.size : Int) := by omega
  have c2 : (2 * (s.size : Int)).toNat ≤ 281474976710656 := by omega
  have key := idx_ind (bytesOf s) (fun pre suf => ∀ acc : List Int, acc.length ≤ 2 * pre.length → Ev (fun k => impl_EncodeHex.l0 k s acc (pre.length : Int)) (strOfNums (acc ++ suf.flatMap mHexE))) ?_ ?_
  · unfold impl_EncodeHex.f
    simp only [w0, if_pos c1, if_pos c2]
    exact key [] (Nat.le_refl _)
  · intro acc ha
    refine evn fun k => ?_
    have hn : ¬ (((bytesOf s).length : Int) < (s.size : Int)) := by omega
    simp only [impl_EncodeHex.l0]
    rw [if_neg hn]; simp
  · intro pre b suf e ih acc ha
    have hb := bytes_range' s b (by rw [e]; simp)
    have hp : pre.length < s.size := by have := lt_of e; omega
    have h1 : (pre.length : Int) < (s.size : Int) := by omega
    have hr : bt s (pre.length : Int) = b := by rw [bt_rd']; exact rd_of e
    have c3 : 0 ≤ b / 16 := by omega
    have c4 : b / 16 < 16 := by omega
    have c5 : 0 ≤ b % 16 := by omega
    have c6 : b % 16 < 16 := by omega
    have hc : acc.length + ([rd mHexL (b / 16), rd mHexL (b % 16)] : List Int).length < 140737488355328 := by simp; omega
    refine Ev.step (fun k => impl_EncodeHex.l0.eq_2 ..) ?_
    simp only [if_pos h1, if_pos (len_nonneg _), hr, mask15 hb.1 hb.2, if_pos c3, if_pos c4, if_pos c5, if_pos c6, hexL_bt, Option.bind_some, if_pos hc, nx_of e (show (bytesOf s).length ≤ 140737488355328 by omega)]
    have r := ih (acc ++ [rd mHexL (b / 16), rd mHexL (b % 16)]) (by simp; omega)
    simpa [mHexE] using r
theorem FnExactEncodeHex : laws_FnExactEncodeHex.Pure := by
  intro s hs
  refine Ev.rounds ?_
  unfold laws_FnExactEncodeHex.f
  by_cases hb : (s.size : Int) > 1048576
  · refine evc fun k => ?_; rw [if_pos hb]
  · simp only [if_neg hb]
    refine evb (specHex_ev s (by omega)) ?_
    refine evb (implHex_ev s (by omega)) ?_
    simp only [if_true]
    exact evc fun k => rfl

end Go.Proofs.Ytanbgnjfllpkgaa.Pure
