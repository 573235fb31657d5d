/- Plain lemmas on numbers, lists and strings that this seat's proofs share; no condition. -/
import Derived.Test.YtfelabhakgcifaaGreatVFnExactAnswers
import Derived.Laws.BitsLemmas
import Derived.Laws.Strings
import Derived.Lib.Strings
set_option linter.unusedVariables false
set_option linter.unusedSimpArgs false
namespace Go.Proofs.YtfelabhakgcifaaGreat.Mine
open Go.RowKit Go.Proofs.YtfelabhakgcifaaGreatW.PrintWords Go.Proofs.YtfelabhakgcifaaGreatW.PrintLast

/-! ### Numbers and rounds -/
theorem wfi {x : Int} (h : (Lit.int .i64 x).wf = true) : -9223372036854775808 ≤ x ∧ x ≤ 9223372036854775807 := by
  simp [Lit.wf, IntKind.min, IntKind.max, IntKind.signed, IntKind.bits] at h
  omega
theorem w64 {x : Int} (h0 : -9223372036854775808 ≤ x) (h1 : x ≤ 9223372036854775807) : wrap64 x = x := by
  unfold wrap64
  omega
theorem evn {α : Type} {g : Nat → Option α} {r : α} (h : ∀ k, g (k + 1) = some r) : Ev g r := Ev.step (f := fun _ => some r) h (Ev.now r)
theorem evc {α : Type} {g : Nat → Option α} {r : α} (h : ∀ k, g k = some r) : Ev g r := Ev.congr (f := fun _ => some r) h (Ev.now r)
theorem evb {α β : Type} {g : Nat → Option α} {f : Nat → α → Option β} {a : α} {r : β} (h : Ev g a) (k : Ev (fun n => f n a) r) : Ev (fun n => (g n).bind (f n)) r := Ev.bind h k

/-! ### Strings as lists of numbers -/
theorem strOfNums_append (a b : List Int) : strOfNums (a ++ b) = strOfNums a ++ strOfNums b := by
  simp [strOfNums, ByteArray.ext_iff]
theorem strOfNums_size (a : List Int) : (strOfNums a).size = a.length := by simp [strOfNums, ByteArray.size]

/-! ### Terms -/
def mIsVar (t : Int) : Bool := decide (0 ≤ t ∧ t ≤ 19)
def mIsTerm (t : Int) : Bool := decide (-80 ≤ t ∧ t ≤ 19)
def mConstOf (t : Int) : Int := if -80 ≤ t ∧ t ≤ -1 then -1 - t else -1
def mMkConst (n : Int) : Int := if 0 ≤ n ∧ n ≤ 79 then -1 - n else 0

/-! ### Lists by place -/
theorem rd_mid (pre : List Int) (a : Int) (suf : List Int) : rd (pre ++ a :: suf) (pre.length : Int) = a := by
  simp [rd]
theorem set_mid (pre : List Int) (a b : Int) (suf : List Int) : (pre ++ b :: suf).set ((pre.length : Int) : Int).toNat a = pre ++ a :: suf := by
  simp
theorem mid_lt {α : Type} (pre : List α) (a : α) (suf : List α) : (pre.length : Int) < ((pre ++ a :: suf).length : Int) := by
  simp; omega
theorem len_nonneg {α : Type} (pre : List α) : (0 : Int) ≤ (pre.length : Int) := by omega
theorem iw {α : Type} {pre : List α} {a : α} (h : pre.length ≤ 140737488355328) : wrap64 ((pre.length : Int) + 1) = ((pre ++ [a]).length : Int) := by
  rw [w64 (by omega) (by omega)]; simp
theorem end_not {α : Type} (pre : List α) : ¬ ((pre.length : Int) < (pre.length : Int)) := by omega
theorem app1 {α : Type} (pre : List α) (a : α) (suf : List α) : pre ++ a :: suf = (pre ++ [a]) ++ suf := by simp
def mApply (m : List Int) (t : Int) : Int := if (0 ≤ t ∧ t < (m.length : Int)) ∧ ¬ rd m t = -1000 then rd m t else t

/-! ### Bits -/
theorem wraps_i64 (n : Int) (h0 : 0 ≤ n) (h1 : n < 2 ^ 62) : IntKind.i64.wrap n = n := by
  rw [IntKind.wrap_i64]
  omega
theorem mask127 {x : Int} (h0 : 0 ≤ x) (h1 : x < 4611686018427387904) : Go.bits .and .i64 x 127 = x % 128 := bits_mask .i64 62 (by decide) wraps_i64 7 (by decide) x h0 (by omega)
theorem mask255 {x : Int} (h0 : 0 ≤ x) (h1 : x < 4611686018427387904) : Go.bits .and .i64 x 255 = x % 256 := bits_mask .i64 62 (by decide) wraps_i64 8 (by decide) x h0 (by omega)
theorem or128 {x : Int} (h0 : 0 ≤ x) (h1 : x < 128) : Go.bits .or .i64 x 128 = 128 + x := by
  have h := bits_join .i64 62 (by decide) wraps_i64 7 128 x (by decide) (by decide) (by decide) h0 (by omega) (by omega)
  rw [← h]
  unfold Go.bits
  simp only [BitVec.or_comm]
theorem orjoin {x y : Int} (i : Nat) (hx0 : 0 ≤ x) (hx : x % 2 ^ i = 0) (hx1 : x < 4611686018427387904) (h0 : 0 ≤ y) (h1 : y < 2 ^ i) (h2 : y < 4611686018427387904) : Go.bits .or .i64 x y = x + y :=
  bits_join .i64 62 (by decide) wraps_i64 i x y hx0 hx (by omega) h0 h1 (by omega)

/-! ### Counting marks -/
def mMarks (m : Int) : Nat → List Int
  | 0 => []
  | n + 1 => m :: mMarks (m + 1) n
theorem mMarks_length : ∀ (n : Nat) (m : Int), (mMarks m n).length = n
  | 0, _ => rfl
  | n + 1, m => by simp [mMarks, mMarks_length n]

/-! ### Decimal digits -/
def mDig (n : Nat) : List Int := if n = 0 then [] else mDig (n / 10) ++ [48 + ((n % 10 : Nat) : Int)]
termination_by n
decreasing_by omega
theorem mDig_zero : mDig 0 = [] := by rw [mDig, if_pos rfl]
theorem mDig_pos {n : Nat} (h : n ≠ 0) : mDig n = mDig (n / 10) ++ [48 + ((n % 10 : Nat) : Int)] := by rw [mDig, if_neg h]
def mFmt (n : Int) : List Int := if n = 0 then [48] else if n < 0 then 45 :: mDig n.natAbs else mDig n.natAbs

/-! ### Going through a list by its places -/
theorem idx_ind {α : Type} (l : List α) (P : List α → List α → Prop) (h0 : P l []) (h1 : ∀ pre a suf, l = pre ++ a :: suf → P (pre ++ [a]) suf → P pre (a :: suf)) : P [] l := by
  have key : ∀ (suf pre : List α), l = pre ++ suf → P pre suf := by
    intro suf
    induction suf with
    | nil => intro pre e; rw [List.append_nil] at e; subst e; exact h0
    | cons a t ih => intro pre e; exact h1 pre a t e (ih (pre ++ [a]) (by rw [e]; simp))
  exact key l [] rfl
theorem lt_of {α : Type} {l pre suf : List α} {a : α} (e : l = pre ++ a :: suf) : (pre.length : Int) < (l.length : Int) := by rw [e]; exact mid_lt _ _ _
theorem rd_of {l pre suf : List Int} {a : Int} (e : l = pre ++ a :: suf) : rd l (pre.length : Int) = a := by rw [e]; exact rd_mid _ _ _
theorem nx_of {α : Type} {l pre suf : List α} {a : α} (e : l = pre ++ a :: suf) (h : l.length ≤ 140737488355328) : wrap64 ((pre.length : Int) + 1) = ((pre ++ [a]).length : Int) := by
  have : pre.length ≤ 140737488355328 := by rw [e] at h; simp at h; omega
  exact iw this
theorem getD_of {α : Type} {l pre suf : List α} {a : α} (e : l = pre ++ a :: suf) (z : α) : l.getD ((pre.length : Int)).toNat z = a := by rw [e]; simp

/-! ### Sizes -/
def mSz {α : Type} (l : List α) (a : Int) : Int := if (l.length : Int) ≤ a then a - (l.length : Int) else -1

/-! ### Schemas, atoms, facts -/
def mIsSchema (l : List Int) : Bool := l.all (fun n => decide (1 ≤ n ∧ n ≤ 3)) && decide (1 ≤ (l.length : Int) ∧ (l.length : Int) ≤ 4)
def mLess : List Int → List Int → Bool
  | [], [] => false
  | [], _ :: _ => true
  | _ :: _, [] => false
  | a :: s, b :: t => if a = b then mLess s t else decide (a < b)
def mCmp : List Int → List Int → Int
  | [], [] => 0
  | [], _ :: _ => -1
  | _ :: _, [] => 1
  | a :: s, b :: t => if a < b then -1 else if a > b then 1 else mCmp s t
theorem mCmp_neg : ∀ s t : List Int, decide (mCmp s t < 0) = mLess s t
  | [], [] => rfl
  | [], _ :: _ => rfl
  | _ :: _, [] => rfl
  | a :: s, b :: t => by
    unfold mCmp mLess
    by_cases h1 : a < b
    · rw [if_pos h1, if_neg (by omega)]; simp [h1]
    · rw [if_neg h1]
      by_cases h2 : a > b
      · rw [if_pos h2, if_neg (by omega)]; simp [h1]
      · rw [if_neg h2, if_pos (by omega)]; exact mCmp_neg s t
theorem mCmp_zero : ∀ s t : List Int, mCmp s t = 0 ↔ s = t
  | [], [] => by simp [mCmp]
  | [], _ :: _ => by simp [mCmp]
  | _ :: _, [] => by simp [mCmp]
  | a :: s, b :: t => by
    unfold mCmp
    by_cases h1 : a < b
    · rw [if_pos h1]; constructor
      · intro h; omega
      · intro h; injection h with h2 h3; omega
    · rw [if_neg h1]
      by_cases h2 : a > b
      · rw [if_pos h2]; constructor
        · intro h; omega
        · intro h; injection h with h2 h3; omega
      · rw [if_neg h2, mCmp_zero s t]
        have : a = b := by omega
        subst this; simp
/-- A relation and values fit a schema: the relation's number of places is n. -/
def mTakes (s : List Int) (rel n : Int) : Bool := mIsSchema s && decide (0 ≤ rel ∧ rel < (s.length : Int)) && decide (rd s rel = n)
def mIsFact (s : List Int) (rel : Int) (args : List Int) : Bool := mTakes s rel (args.length : Int) && args.all (fun x => decide (0 ≤ x ∧ x ≤ 99))
def mIsAtom (s : List Int) (rel : Int) (args : List Int) : Bool := mTakes s rel (args.length : Int) && args.all mIsTerm
theorem mIsSchema_rd {s : List Int} (h : mIsSchema s = true) {i : Int} (h0 : 0 ≤ i) (h1 : i < (s.length : Int)) : 1 ≤ rd s i ∧ rd s i ≤ 3 := by
  simp only [mIsSchema, Bool.and_eq_true, List.all_eq_true, decide_eq_true_eq] at h
  have hi : i.toNat < s.length := by omega
  have e : rd s i = s[i.toNat] := by simp [rd, List.getD_eq_getElem?_getD, List.getElem?_eq_getElem hi]
  rw [e]
  exact h.1 _ (List.getElem_mem _)

/-! ### Reading decimal digits -/
def mIsDg (c : Int) : Bool := decide (48 ≤ c ∧ c ≤ 57)
def mVal (v : Int) (l : List Int) : Int := l.foldl (fun a c => 10 * a + (c - 48)) v
theorem mVal_nil (v : Int) : mVal v [] = v := rfl
theorem mVal_cons (v c : Int) (l : List Int) : mVal v (c :: l) = mVal (10 * v + (c - 48)) l := rfl
theorem mVal_append (v : Int) (l m : List Int) : mVal v (l ++ m) = mVal (mVal v l) m := by simp [mVal, List.foldl_append]
theorem mDig_digits : ∀ m : Nat, (mDig m).all mIsDg = true := by
  intro m
  induction m using Nat.strongRecOn with
  | _ m ih =>
    by_cases h : m = 0
    · subst h; rw [mDig_zero]; rfl
    · rw [mDig_pos h, List.all_append, ih (m / 10) (by omega)]
      simp [mIsDg]; omega
theorem mDig_val : ∀ m : Nat, mVal 0 (mDig m) = (m : Int) := by
  intro m
  induction m using Nat.strongRecOn with
  | _ m ih =>
    by_cases h : m = 0
    · subst h; rw [mDig_zero]; rfl
    · rw [mDig_pos h, mVal_append, ih (m / 10) (by omega), mVal_cons, mVal_nil]
      omega
theorem mDig_len : ∀ (j m : Nat), m < 10 ^ j → (mDig m).length ≤ j
  | 0, m, h => by
    obtain rfl : m = 0 := by simpa using h
    rw [mDig_zero]; simp
  | j + 1, m, h => by
    by_cases h0 : m = 0
    · subst h0; rw [mDig_zero]; simp
    · rw [mDig_pos h0]
      have := mDig_len j (m / 10) (by rw [Nat.pow_succ] at h; omega)
      simp; omega
theorem mDig_ne {m : Nat} (h : m ≠ 0) : mDig m ≠ [] := by rw [mDig_pos h]; simp
/-- The digits of a number's absolute value. -/
def mDg (m : Nat) : List Int := if m = 0 then [48] else mDig m
theorem mDg_digits (m : Nat) : (mDg m).all mIsDg = true := by
  unfold mDg
  by_cases h : m = 0
  · rw [if_pos h]; rfl
  · rw [if_neg h]; exact mDig_digits m
theorem mDg_val (m : Nat) : mVal 0 (mDg m) = (m : Int) := by
  unfold mDg
  by_cases h : m = 0
  · rw [if_pos h]; subst h; rfl
  · rw [if_neg h]; exact mDig_val m
theorem mDg_len {m : Nat} (h : m ≤ 999999999) : 1 ≤ (mDg m).length ∧ (mDg m).length ≤ 9 := by
  unfold mDg
  by_cases h0 : m = 0
  · rw [if_pos h0]; simp
  · rw [if_neg h0]
    have h1 := mDig_len 9 m (by omega)
    have h2 : 0 < (mDig m).length := List.length_pos_iff.2 (mDig_ne h0)
    omega
theorem mFmt_neg {n : Int} (h : n < 0) : mFmt n = 45 :: mDg n.natAbs := by
  unfold mFmt mDg
  rw [if_neg (by omega), if_pos h, if_neg (by omega)]
theorem mFmt_nonneg {n : Int} (h : 0 ≤ n) : mFmt n = mDg n.natAbs := by
  unfold mFmt mDg
  by_cases h0 : n = 0
  · rw [if_pos h0, if_pos (by omega)]
  · rw [if_neg h0, if_neg (by omega), if_neg (by omega)]
theorem mVal_bound : ∀ (l : List Int) (v : Int), 0 ≤ v → l.all mIsDg = true → 0 ≤ mVal v l ∧ mVal v l < (v + 1) * 10 ^ l.length
  | [], v, h0, h => by simp [mVal]; omega
  | c :: t, v, h0, h => by
    simp only [List.all_cons, Bool.and_eq_true, mIsDg, decide_eq_true_eq] at h
    have r := mVal_bound t (10 * v + (c - 48)) (by omega) h.2
    rw [mVal_cons]
    refine ⟨r.1, Int.lt_of_lt_of_le r.2 ?_⟩
    rw [List.length_cons, Int.pow_succ]
    have hp : (0 : Int) ≤ 10 ^ t.length := Int.pow_nonneg (by omega)
    calc (10 * v + (c - 48) + 1) * 10 ^ t.length ≤ (10 * (v + 1)) * 10 ^ t.length := Int.mul_le_mul_of_nonneg_right (by omega) hp
      _ = (v + 1) * (10 ^ t.length * 10) := by rw [Int.mul_comm 10 (v + 1), Int.mul_assoc, Int.mul_comm 10]
theorem pow10_le {a b : Nat} (h : a ≤ b) : (10 : Int) ^ a ≤ 10 ^ b := by
  have := Nat.pow_le_pow_right (n := 10) (by omega) h
  exact_mod_cast this
theorem bytes_str {l : List Int} (h : ∀ x ∈ l, 0 ≤ x ∧ x ≤ 255) : bytesOf (strOfNums l) = l := by
  unfold bytesOf strOfNums
  simp only [List.map_map]
  conv => rhs; rw [← List.map_id l]
  refine List.map_congr_left fun x hx => ?_
  have := h x hx
  simp only [Function.comp, id]
  rw [UInt8.toNat_ofNat']
  omega
theorem str_bytes (s : ByteArray) : strOfNums (bytesOf s) = s := by
  unfold bytesOf strOfNums
  rw [List.map_map]
  have : ((fun n : Int => UInt8.ofNat n.toNat) ∘ fun b : UInt8 => (b.toNat : Int)) = id := by
    funext b; simp
  rw [this, List.map_id]
theorem bytes_inj {a b : ByteArray} (h : bytesOf a = bytesOf b) : a = b := by rw [← str_bytes a, ← str_bytes b, h]
theorem toList_inj {a b : ByteArray} : a.toList = b.toList ↔ a = b := by
  constructor
  · intro h
    have ha : a.toList = a.data.toList := ByteArray.toList_eq a
    have hb : b.toList = b.data.toList := ByteArray.toList_eq b
    rw [ha, hb] at h
    exact ByteArray.ext (Array.ext' h)
  · intro h; rw [h]
theorem dg_bytes {l : List Int} (h : l.all mIsDg = true) : ∀ x ∈ l, 0 ≤ x ∧ x ≤ 255 := by
  intro x hx
  have := List.all_eq_true.1 h x hx
  simp [mIsDg] at this
  omega
theorem mFmt_bytes (n : Int) : bytesOf (strOfNums (mFmt n)) = mFmt n := by
  refine bytes_str fun x hx => ?_
  by_cases h : n < 0
  · rw [mFmt_neg h] at hx
    rcases List.mem_cons.1 hx with rfl | hx
    · omega
    · exact dg_bytes (mDg_digits _) x hx
  · rw [mFmt_nonneg (by omega)] at hx
    exact dg_bytes (mDg_digits _) x hx
def mFmtTerm (t : Int) : List Int := if mIsVar t = true then 88 :: mFmt t else if mIsTerm t = true then mFmt (-1 - t) else []

/-! ### Joined texts -/
def mJoinT (sep : List Int) : List (List Int) → List Int
  | [] => []
  | x :: t => sep ++ x ++ mJoinT sep t
def mJoin (sep : List Int) : List (List Int) → List Int
  | [] => []
  | x :: t => x ++ mJoinT sep t
theorem mJoinT_snoc (sep y : List Int) : ∀ xs, mJoinT sep (xs ++ [y]) = mJoinT sep xs ++ (sep ++ y)
  | [] => by simp [mJoinT]
  | x :: t => by simp [mJoinT, mJoinT_snoc sep y t]
theorem mJoin_snoc (sep y : List Int) : ∀ xs, xs ≠ [] → mJoin sep (xs ++ [y]) = mJoin sep xs ++ (sep ++ y)
  | [], h => absurd rfl h
  | x :: t, _ => by simp [mJoin, mJoinT_snoc]
theorem mJoinT_len (sep : List Int) (c : Nat) (hs : sep.length ≤ c) : ∀ xs : List (List Int), (∀ x ∈ xs, x.length ≤ c) → (mJoinT sep xs).length ≤ xs.length * (2 * c)
  | [], _ => by simp [mJoinT]
  | x :: t, h => by
    have r := mJoinT_len sep c hs t (fun y hy => h y (List.mem_cons_of_mem _ hy))
    have hx := h x List.mem_cons_self
    simp only [mJoinT, List.length_append, List.length_cons, Nat.add_mul]
    omega
theorem mJoin_len (sep : List Int) (c : Nat) (hs : sep.length ≤ c) (xs : List (List Int)) (h : ∀ x ∈ xs, x.length ≤ c) : (mJoin sep xs).length ≤ xs.length * (2 * c) := by
  cases xs with
  | nil => simp [mJoin]
  | cons x t =>
    have r := mJoinT_len sep c hs t (fun y hy => h y (List.mem_cons_of_mem _ hy))
    have hx := h x List.mem_cons_self
    simp only [mJoin, List.length_append, List.length_cons, Nat.add_mul]
    omega
theorem map_ne {α β : Type} {f : α → β} {pre : List α} (h : pre ≠ []) : pre.map f ≠ [] := by
  intro e; exact h (List.map_eq_nil_iff.1 e)
def mFmtFact (r : Int) (l : List Int) : List Int :=
  if (0 ≤ r ∧ r ≤ 3) ∧ (1 ≤ (l.length : Int) ∧ (l.length : Int) ≤ 3) ∧ l.all (fun x => decide (0 ≤ x ∧ x ≤ 99)) = true then [114] ++ mFmt r ++ [40] ++ mJoin [44] (l.map mFmt) ++ [41] else []
def mFmtAtom (r : Int) (l : List Int) : List Int :=
  if (0 ≤ r ∧ r ≤ 3) ∧ (l.length : Int) ≤ 3 ∧ l.all mIsTerm = true then [114] ++ mFmt r ++ [40] ++ mJoin [44] (l.map mFmtTerm) ++ [41] else []
theorem small_fmt {n : Int} (h0 : 0 ≤ n) (h1 : n ≤ 99) : (mFmt n).length ≤ 3 := by
  rw [mFmt_nonneg (by omega)]
  unfold mDg
  by_cases h2 : n.natAbs = 0
  · rw [if_pos h2]; simp
  · rw [if_neg h2]; have := mDig_len 2 n.natAbs (by omega); omega
theorem big_fmt {n : Int} (h0 : -9223372036854775808 ≤ n) (h1 : n ≤ 9223372036854775807) : (mFmt n).length ≤ 21 := by
  by_cases h : n < 0
  · rw [mFmt_neg h]
    unfold mDg
    rw [if_neg (by omega)]
    have := mDig_len 20 n.natAbs (by omega)
    simp; omega
  · rw [mFmt_nonneg (by omega)]
    unfold mDg
    by_cases h2 : n.natAbs = 0
    · rw [if_pos h2]; simp
    · rw [if_neg h2]; have := mDig_len 20 n.natAbs (by omega); omega
theorem term_fmt (t : Int) : (mFmtTerm t).length ≤ 4 := by
  unfold mFmtTerm
  by_cases hv : mIsVar t = true
  · rw [if_pos hv]
    have hb : 0 ≤ t ∧ t ≤ 19 := by simpa [mIsVar] using hv
    have := small_fmt (n := t) (by omega) (by omega)
    simp; omega
  · rw [if_neg hv]
    by_cases hT : mIsTerm t = true
    · rw [if_pos hT]
      have ht : -80 ≤ t ∧ t ≤ 19 := by simpa [mIsTerm] using hT
      have hb : ¬ (0 ≤ t ∧ t ≤ 19) := by simpa [mIsVar] using hv
      have := small_fmt (n := -1 - t) (by omega) (by omega)
      omega
    · rw [if_neg hT]; simp
theorem str_empty : (⟨#[]⟩ : ByteArray) = strOfNums [] := rfl

/-! ### Cuts of texts -/
theorem bytes_extract (s : ByteArray) (a b : Nat) : bytesOf (s.extract a b) = ((bytesOf s).drop a).take (b - a) := by
  unfold bytesOf
  rw [Lib.extract_data, ← List.map_drop, ← List.map_take]
theorem bytes_range (s : ByteArray) : ∀ x ∈ bytesOf s, 0 ≤ x ∧ x ≤ 255 := by
  intro x hx
  unfold bytesOf at hx
  obtain ⟨b, _, rfl⟩ := List.mem_map.1 hx
  have := b.toNat_lt
  omega
theorem extract_str (s : ByteArray) (a b : Nat) : s.extract a b = strOfNums (((bytesOf s).drop a).take (b - a)) := by
  rw [← bytes_extract, str_bytes]

end Go.Proofs.YtfelabhakgcifaaGreat.Mine
