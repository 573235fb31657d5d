/- The pure statement of the law FnExactDecodeHex: the program's function and the reference's agree, for all arguments within the row's bounds. -/
import Derived.Test.YtanbgnjfllpkgaaQFnExactDecodeHexx1
import Derived.Test.YtanbgnjfllpkgaaMine
import Derived.Test.YtanbgnjfllpkgaaOpen
set_option linter.unusedVariables false
set_option linter.unusedSimpArgs false
namespace Go.Proofs.Ytanbgnjfllpkgaa.Pure
open Go.RowKit Go.Proofs.Ytanbgnjfllpkgaa.QFnExactDecodeHex Go.Proofs.YtanbgnjfllpkgaaW.PrintWords Go.Proofs.YtanbgnjfllpkgaaW.PrintLast Go.Proofs.Ytanbgnjfllpkgaa.Mine Go.Proofs.Ytanbgnjfllpkgaa.Open

/-! ### Hex -/
def mHexL : List Int := [48, 49, 50, 51, 52, 53, 54, 55, 56, 57, 97, 98, 99, 100, 101, 102]
theorem bt_rd' (s : ByteArray) (i : Int) : bt s i = rd (bytesOf s) i := (rd_bytesOf s i).symm
theorem hexL_bt (i : Int) : bt (⟨#[48, 49, 50, 51, 52, 53, 54, 55, 56, 57, 97, 98, 99, 100, 101, 102]⟩ : ByteArray) i = rd mHexL i := by
  rw [bt_rd']; rfl
theorem bytes_range' (s : ByteArray) : ∀ x ∈ bytesOf s, 0 ≤ x ∧ x ≤ 255 := by
  intro x hx
  unfold bytesOf at hx
  obtain ⟨b, _, rfl⟩ := List.mem_map.1 hx
  have := b.toNat_lt
  omega
theorem digit_eq {i : Int} (h0 : 0 ≤ i) (h1 : i < 16) : spec_l1Digit.f i = some (rd mHexL i) := by
  unfold spec_l1Digit.f
  rw [if_pos h0, if_pos h1, hexL_bt]

def mFind (b i : Int) : List Int → Int
  | [] => -1
  | c :: t => if c = b then i else mFind b (i + 1) t
def mHexV (b : Int) : Int := if 48 ≤ b ∧ b ≤ 57 then b - 48 else if 97 ≤ b ∧ b ≤ 102 then b - 97 + 10 else -1
theorem find_hex (b : Int) : mFind b 0 mHexL = mHexV b := by
  unfold mHexL mHexV
  simp only [mFind]
  repeat' split
  all_goals omega
theorem specV_ev (b : Int) : Ev (fun k => spec_l1FromHex.f k b) (mHexV b) := by
  rw [← find_hex]
  have key := idx_ind mHexL (fun pre suf => Ev (fun k => spec_l1FromHex.l0 k b (pre.length : Int)) (mFind b (pre.length : Int) suf)) ?_ ?_
  · exact key
  · refine evn fun k => ?_
    simp only [spec_l1FromHex.l0]
    rw [if_neg (by decide)]; rfl
  · intro pre c suf e ih
    have hl : (pre.length : Int) < 16 := by have := lt_of e; exact this
    have hr : rd mHexL (pre.length : Int) = c := rd_of e
    refine Ev.step (fun k => spec_l1FromHex.l0.eq_2 ..) ?_
    simp only [if_pos hl, digit_eq (len_nonneg pre) hl, Option.bind_some, hr]
    unfold mFind
    by_cases h : c = b
    · simp only [if_pos h]; exact evc fun k => rfl
    · simp only [if_neg h, nx_of e (show mHexL.length ≤ 140737488355328 by decide)]
      simpa using ih
theorem implV_ev (b : Int) (h0 : 0 ≤ b) (h1 : b ≤ 255) : Ev (fun k => impl_hexValue.f k b) (mHexV b) := by
  unfold impl_hexValue.f mHexV
  by_cases c1 : b ≥ 48
  · simp only [if_pos c1]
    by_cases c2 : b ≤ 57
    · rw [if_pos ⟨c1, c2⟩, decide_eq_true c2]
      refine evn fun k => ?_
      simp only [impl_hexValue.j0]
      rw [if_pos trivial, show (b - 48) % 256 = b - 48 by omega]
    · rw [if_neg (fun h => c2 h.2), decide_eq_false c2]
      refine Ev.step (fun k => impl_hexValue.j0.eq_2 ..) ?_
      simp only [Bool.false_eq_true, if_false]
      by_cases c3 : b ≥ 97
      · simp only [if_pos c3]
        by_cases c4 : b ≤ 102
        · simp only [if_pos c4]
          rw [if_pos ⟨c3, c4⟩, show (b - 97) % 256 = b - 97 by omega]
          exact evc fun k => rfl
        · simp only [if_neg c4]
          rw [if_neg (fun h => c4 h.2)]
          exact evc fun k => rfl
      · simp only [if_neg c3]
        rw [if_neg (fun h => c3 h.1)]
        exact evc fun k => rfl
  · simp only [if_neg c1]
    rw [if_neg (fun h => c1 h.1), if_neg (fun h => c1 (by omega))]
    refine evn fun k => ?_
    simp only [impl_hexValue.j0]
    rw [if_neg (by simp), if_neg (by omega)]
theorem hexV_range (b : Int) : -1 ≤ mHexV b ∧ mHexV b ≤ 15 := by
  unfold mHexV
  repeat' split
  all_goals omega
def mDec (acc : List Int) : List Int → ByteArray × Bool
  | a :: b :: t => if mHexV a < 0 ∨ mHexV b < 0 then (⟨#[]⟩, false) else mDec (acc ++ [(16 * mHexV a + mHexV b) % 256]) t
  | _ => (strOfNums acc, true)
theorem specDec_l0 (s : ByteArray) (hs : s.size ≤ 1048576) : ∀ (n : Nat) (pre suf acc : List Int), bytesOf s = pre ++ suf → suf.length = 2 * n → acc.length ≤ pre.length →
    Ev (fun k => spec_DecodeHex.l0 k s acc (pre.length : Int)) (mDec acc suf) := by
  have hlen := bytesOf_length s
  intro n
  induction n with
  | zero =>
    intro pre suf acc e hn ha
    have : suf = [] := List.eq_nil_of_length_eq_zero (by omega)
    subst this
    have hn : ¬ ((pre.length : Int) < (s.size : Int)) := by rw [← hlen, e]; simp
    refine evn fun k => ?_
    simp only [spec_DecodeHex.l0]
    rw [if_neg hn]; rfl
  | succ n ih =>
    intro pre suf acc e hn ha
    obtain ⟨a, b, t, rfl⟩ : ∃ a b t, suf = a :: b :: t := by
      match suf, hn with
      | a :: b :: t, _ => exact ⟨a, b, t, rfl⟩
      | [_], h => simp at h; omega
      | [], h => simp at h
    have e2 : bytesOf s = (pre ++ [a]) ++ b :: t := by rw [e]; simp
    have hl : pre.length + 2 + t.length = s.size := by rw [← hlen, e]; simp; omega
    have h1 : (pre.length : Int) < (s.size : Int) := by omega
    have w1 : wrap64 ((pre.length : Int) + 1) = ((pre ++ [a]).length : Int) := iw (by omega)
    have h3 : ((pre ++ [a]).length : Int) < (s.size : Int) := by simp; omega
    have r1 : bt s (pre.length : Int) = a := by rw [bt_rd']; exact rd_of e
    have r2 : bt s ((pre ++ [a]).length : Int) = b := by rw [bt_rd']; exact rd_of e2
    have va := hexV_range a
    have vb := hexV_range b
    refine Ev.step (fun k => spec_DecodeHex.l0.eq_2 ..) ?_
    simp only [if_pos h1, if_pos (len_nonneg _), r1]
    refine evb (specV_ev a) ?_
    simp only [w1, if_pos (len_nonneg _), if_pos h3, r2]
    refine evb (specV_ev b) ?_
    unfold mDec
    by_cases c1 : mHexV a < 0
    · simp only [if_pos c1]
      rw [if_pos (.inl c1)]
      exact evc fun k => rfl
    · by_cases c2 : mHexV b < 0
      · simp only [if_neg c1, if_pos c2]
        rw [if_pos (.inr c2)]
        exact evc fun k => rfl
      · have hc : acc.length < 140737488355328 := by omega
        have w2 : wrap64 (wrap64 (16 * mHexV a) + mHexV b) = 16 * mHexV a + mHexV b := by rw [w64 (x := 16 * mHexV a) (by omega) (by omega), w64 (by omega) (by omega)]
        have w3 : wrap64 ((pre.length : Int) + 2) = ((pre ++ [a, b]).length : Int) := by rw [w64 (by omega) (by omega)]; simp
        simp only [if_neg c1, if_neg c2, if_pos hc, w2, w3]
        rw [if_neg (by omega)]
        exact ih (pre ++ [a, b]) t _ (by rw [e]; simp) (by simp at hn; omega) (by simp; omega)
theorem implDec_l0 (s : ByteArray) (hs : s.size ≤ 1048576) : ∀ (n : Nat) (pre suf acc : List Int), bytesOf s = pre ++ suf → suf.length = 2 * n → acc.length ≤ pre.length →
    Ev (fun k => impl_DecodeHex.l0 k s acc (pre.length : Int)) (mDec acc suf) := by
  have hlen := bytesOf_length s
  intro n
  induction n with
  | zero =>
    intro pre suf acc e hn ha
    have : suf = [] := List.eq_nil_of_length_eq_zero (by omega)
    subst this
    have hn : ¬ ((pre.length : Int) < (s.size : Int)) := by rw [← hlen, e]; simp
    refine evn fun k => ?_
    simp only [impl_DecodeHex.l0]
    rw [if_neg hn]; rfl
  | succ n ih =>
    intro pre suf acc e hn ha
    obtain ⟨a, b, t, rfl⟩ : ∃ a b t, suf = a :: b :: t := by
      match suf, hn with
      | a :: b :: t, _ => exact ⟨a, b, t, rfl⟩
      | [_], h => simp at h; omega
      | [], h => simp at h
    have e2 : bytesOf s = (pre ++ [a]) ++ b :: t := by rw [e]; simp
    have hl : pre.length + 2 + t.length = s.size := by rw [← hlen, e]; simp; omega
    have h1 : (pre.length : Int) < (s.size : Int) := by omega
    have w1 : wrap64 ((pre.length : Int) + 1) = ((pre ++ [a]).length : Int) := iw (by omega)
    have h3 : ((pre ++ [a]).length : Int) < (s.size : Int) := by simp; omega
    have r1 : bt s (pre.length : Int) = a := by rw [bt_rd']; exact rd_of e
    have r2 : bt s ((pre ++ [a]).length : Int) = b := by rw [bt_rd']; exact rd_of e2
    have ba := bytes_range' s a (by rw [e]; simp)
    have bb := bytes_range' s b (by rw [e]; simp)
    have va := hexV_range a
    have vb := hexV_range b
    refine Ev.step (fun k => impl_DecodeHex.l0.eq_2 ..) ?_
    simp only [if_pos h1, if_pos (len_nonneg _), r1]
    refine evb (implV_ev a ba.1 ba.2) ?_
    simp only [w1, if_pos (len_nonneg _), if_pos h3, r2]
    refine evb (implV_ev b bb.1 bb.2) ?_
    unfold mDec
    by_cases c1 : mHexV a < 0
    · simp only [if_pos c1]
      rw [if_pos (.inl c1)]
      exact evc fun k => rfl
    · by_cases c2 : mHexV b < 0
      · simp only [if_neg c1, if_pos c2]
        rw [if_pos (.inr c2)]
        exact evc fun k => rfl
      · have hc : acc.length < 140737488355328 := by omega
        have w2 : Go.bits .or .i64 (wrap64 (mHexV a * 16)) (mHexV b) = 16 * mHexV a + mHexV b := by
          rw [w64 (x := mHexV a * 16) (by omega) (by omega), orjoin 4 (by omega) (by omega) (by omega) (by omega) (by omega) (by omega)]; omega
        have w3 : wrap64 ((pre.length : Int) + 2) = ((pre ++ [a, b]).length : Int) := by rw [w64 (by omega) (by omega)]; simp
        simp only [if_neg c1, if_neg c2, if_pos hc, w2, w3]
        rw [if_neg (by omega)]
        exact ih (pre ++ [a, b]) t _ (by rw [e]; simp) (by simp at hn; omega) (by simp; omega)
def mDecode (s : ByteArray) : ByteArray × Bool := if (s.size : Int) % 2 = 1 then (⟨#[]⟩, false) else mDec [] (bytesOf s)
theorem specDec_ev (s : ByteArray) (hs : s.size ≤ 1048576) : Ev (fun k => spec_DecodeHex.f k s) (mDecode s) := by
  unfold spec_DecodeHex.f mDecode
  by_cases c : (s.size : Int) % 2 = 1
  · simp only [if_pos c]; exact evc fun k => rfl
  · simp only [if_neg c]
    exact specDec_l0 s hs (s.size / 2) [] (bytesOf s) [] rfl (by rw [bytesOf_length]; omega) (Nat.le_refl _)
theorem implDec_ev (s : ByteArray) (hs : s.size ≤ 1048576) : Ev (fun k => impl_DecodeHex.f k s) (mDecode s) := by
  unfold impl_DecodeHex.f mDecode
  by_cases c : (s.size : Int) % 2 = 0
  · have c' : ¬ (s.size : Int) % 2 = 1 := by omega
    have w0 : wrap64 ((s.size : Int) / 2) = (s.size : Int) / 2 := w64 (by omega) (by omega)
    have c1 : 0 ≤ (s.size : Int) / 2 := by omega
    have c2 : ((s.size : Int) / 2).toNat ≤ 281474976710656 := by omega
    simp only [if_pos c, w0, if_pos c1, if_pos c2]
    rw [if_neg c']
    exact implDec_l0 s hs (s.size / 2) [] (bytesOf s) [] rfl (by rw [bytesOf_length]; omega) (Nat.le_refl _)
  · have c' : (s.size : Int) % 2 = 1 := by omega
    simp only [if_neg c]
    rw [if_pos c']
    exact evc fun k => rfl
theorem FnExactDecodeHex : laws_FnExactDecodeHex.Pure := by
  intro s hs
  refine Ev.rounds ?_
  unfold laws_FnExactDecodeHex.f
  by_cases hb : (s.size : Int) > 1048576
  · refine evc fun k => ?_; rw [if_pos hb]
  · simp only [if_neg hb]
    refine evb (specDec_ev s (by omega)) ?_
    refine evb (implDec_ev s (by omega)) ?_
    simp only [if_true, bne_self_eq_false, Bool.false_eq_true, if_false]
    exact evc fun k => rfl

end Go.Proofs.Ytanbgnjfllpkgaa.Pure
