/- Plain lemmas on numbers, lists and strings that this seat's proofs share; no condition. -/
import Derived.Test.YtanbgnjfllpkgaaVFnMappings
import Derived.Laws.BitsLemmas
import Derived.Laws.Strings
import Derived.Lib.Strings
set_option linter.unusedVariables false
set_option linter.unusedSimpArgs false
namespace Go.Proofs.Ytanbgnjfllpkgaa.Mine
open Go.RowKit Go.Proofs.YtanbgnjfllpkgaaW.PrintWords Go.Proofs.YtanbgnjfllpkgaaW.PrintLast
theorem w64 {x : Int} (h0 : -9223372036854775808 ≤ x) (h1 : x ≤ 9223372036854775807) : wrap64 x = x := by
  unfold wrap64
  omega
theorem evn {α : Type} {g : Nat → Option α} {r : α} (h : ∀ k, g (k + 1) = some r) : Ev g r := Ev.step (f := fun _ => some r) h (Ev.now r)
theorem evc {α : Type} {g : Nat → Option α} {r : α} (h : ∀ k, g k = some r) : Ev g r := Ev.congr (f := fun _ => some r) h (Ev.now r)
theorem evb {α β : Type} {g : Nat → Option α} {f : Nat → α → Option β} {a : α} {r : β} (h : Ev g a) (k : Ev (fun n => f n a) r) : Ev (fun n => (g n).bind (f n)) r := Ev.bind h k
theorem strOfNums_append (a b : List Int) : strOfNums (a ++ b) = strOfNums a ++ strOfNums b := by
  simp [strOfNums, ByteArray.ext_iff]
theorem strOfNums_size (a : List Int) : (strOfNums a).size = a.length := by simp [strOfNums, ByteArray.size]
def mIsVar (t : Int) : Bool := decide (0 ≤ t ∧ t ≤ 19)
def mIsTerm (t : Int) : Bool := decide (-80 ≤ t ∧ t ≤ 19)
def mConstOf (t : Int) : Int := if -80 ≤ t ∧ t ≤ -1 then -1 - t else -1
theorem rd_mid (pre : List Int) (a : Int) (suf : List Int) : rd (pre ++ a :: suf) (pre.length : Int) = a := by
  simp [rd]
theorem set_mid (pre : List Int) (a b : Int) (suf : List Int) : (pre ++ b :: suf).set ((pre.length : Int) : Int).toNat a = pre ++ a :: suf := by
  simp
theorem mid_lt {α : Type} (pre : List α) (a : α) (suf : List α) : (pre.length : Int) < ((pre ++ a :: suf).length : Int) := by
  simp; omega
theorem len_nonneg {α : Type} (pre : List α) : (0 : Int) ≤ (pre.length : Int) := by omega
theorem iw {α : Type} {pre : List α} {a : α} (h : pre.length ≤ 140737488355328) : wrap64 ((pre.length : Int) + 1) = ((pre ++ [a]).length : Int) := by
  rw [w64 (by omega) (by omega)]; simp
theorem end_not {α : Type} (pre : List α) : ¬ ((pre.length : Int) < (pre.length : Int)) := by omega
def mApply (m : List Int) (t : Int) : Int := if (0 ≤ t ∧ t < (m.length : Int)) ∧ ¬ rd m t = -1000 then rd m t else t
def mDig (n : Nat) : List Int := if n = 0 then [] else mDig (n / 10) ++ [48 + ((n % 10 : Nat) : Int)]
termination_by n
decreasing_by omega
theorem mDig_zero : mDig 0 = [] := by rw [mDig, if_pos rfl]
theorem mDig_pos {n : Nat} (h : n ≠ 0) : mDig n = mDig (n / 10) ++ [48 + ((n % 10 : Nat) : Int)] := by rw [mDig, if_neg h]
def mFmt (n : Int) : List Int := if n = 0 then [48] else if n < 0 then 45 :: mDig n.natAbs else mDig n.natAbs
theorem idx_ind {α : Type} (l : List α) (P : List α → List α → Prop) (h0 : P l []) (h1 : ∀ pre a suf, l = pre ++ a :: suf → P (pre ++ [a]) suf → P pre (a :: suf)) : P [] l := by
  have key : ∀ (suf pre : List α), l = pre ++ suf → P pre suf := by
    intro suf
    induction suf with
    | nil => intro pre e; rw [List.append_nil] at e; subst e; exact h0
    | cons a t ih => intro pre e; exact h1 pre a t e (ih (pre ++ [a]) (by rw [e]; simp))
  exact key l [] rfl
theorem lt_of {α : Type} {l pre suf : List α} {a : α} (e : l = pre ++ a :: suf) : (pre.length : Int) < (l.length : Int) := by rw [e]; exact mid_lt _ _ _
theorem rd_of {l pre suf : List Int} {a : Int} (e : l = pre ++ a :: suf) : rd l (pre.length : Int) = a := by rw [e]; exact rd_mid _ _ _
theorem nx_of {α : Type} {l pre suf : List α} {a : α} (e : l = pre ++ a :: suf) (h : l.length ≤ 140737488355328) : wrap64 ((pre.length : Int) + 1) = ((pre ++ [a]).length : Int) := by
  have : pre.length ≤ 140737488355328 := by rw [e] at h; simp at h; omega
  exact iw this
theorem getD_of {α : Type} {l pre suf : List α} {a : α} (e : l = pre ++ a :: suf) (z : α) : l.getD ((pre.length : Int)).toNat z = a := by rw [e]; simp
def mIsSchema (l : List Int) : Bool := l.all (fun n => decide (1 ≤ n ∧ n ≤ 3)) && decide (1 ≤ (l.length : Int) ∧ (l.length : Int) ≤ 4)
def mTakes (s : List Int) (rel n : Int) : Bool := mIsSchema s && decide (0 ≤ rel ∧ rel < (s.length : Int)) && decide (rd s rel = n)
def mIsAtom (s : List Int) (rel : Int) (args : List Int) : Bool := mTakes s rel (args.length : Int) && args.all mIsTerm
theorem mIsSchema_rd {s : List Int} (h : mIsSchema s = true) {i : Int} (h0 : 0 ≤ i) (h1 : i < (s.length : Int)) : 1 ≤ rd s i ∧ rd s i ≤ 3 := by
  simp only [mIsSchema, Bool.and_eq_true, List.all_eq_true, decide_eq_true_eq] at h
  have hi : i.toNat < s.length := by omega
  have e : rd s i = s[i.toNat] := by simp [rd, List.getD_eq_getElem?_getD, List.getElem?_eq_getElem hi]
  rw [e]
  exact h.1 _ (List.getElem_mem _)
theorem mDig_len : ∀ (j m : Nat), m < 10 ^ j → (mDig m).length ≤ j
  | 0, m, h => by
    obtain rfl : m = 0 := by simpa using h
    rw [mDig_zero]; simp
  | j + 1, m, h => by
    by_cases h0 : m = 0
    · subst h0; rw [mDig_zero]; simp
    · rw [mDig_pos h0]
      have := mDig_len j (m / 10) (by rw [Nat.pow_succ] at h; omega)
      simp; omega
def mDg (m : Nat) : List Int := if m = 0 then [48] else mDig m
theorem mFmt_nonneg {n : Int} (h : 0 ≤ n) : mFmt n = mDg n.natAbs := by
  unfold mFmt mDg
  by_cases h0 : n = 0
  · rw [if_pos h0, if_pos (by omega)]
  · rw [if_neg h0, if_neg (by omega), if_neg (by omega)]
def mFmtTerm (t : Int) : List Int := if mIsVar t = true then 88 :: mFmt t else if mIsTerm t = true then mFmt (-1 - t) else []
def mJoinT (sep : List Int) : List (List Int) → List Int
  | [] => []
  | x :: t => sep ++ x ++ mJoinT sep t
def mJoin (sep : List Int) : List (List Int) → List Int
  | [] => []
  | x :: t => x ++ mJoinT sep t
theorem mJoinT_snoc (sep y : List Int) : ∀ xs, mJoinT sep (xs ++ [y]) = mJoinT sep xs ++ (sep ++ y)
  | [] => by simp [mJoinT]
  | x :: t => by simp [mJoinT, mJoinT_snoc sep y t]
theorem mJoin_snoc (sep y : List Int) : ∀ xs, xs ≠ [] → mJoin sep (xs ++ [y]) = mJoin sep xs ++ (sep ++ y)
  | [], h => absurd rfl h
  | x :: t, _ => by simp [mJoin, mJoinT_snoc]
theorem mJoinT_len (sep : List Int) (c : Nat) (hs : sep.length ≤ c) : ∀ xs : List (List Int), (∀ x ∈ xs, x.length ≤ c) → (mJoinT sep xs).length ≤ xs.length * (2 * c)
  | [], _ => by simp [mJoinT]
  | x :: t, h => by
    have r := mJoinT_len sep c hs t (fun y hy => h y (List.mem_cons_of_mem _ hy))
    have hx := h x List.mem_cons_self
    simp only [mJoinT, List.length_append, List.length_cons, Nat.add_mul]
    omega
theorem mJoin_len (sep : List Int) (c : Nat) (hs : sep.length ≤ c) (xs : List (List Int)) (h : ∀ x ∈ xs, x.length ≤ c) : (mJoin sep xs).length ≤ xs.length * (2 * c) := by
  cases xs with
  | nil => simp [mJoin]
  | cons x t =>
    have r := mJoinT_len sep c hs t (fun y hy => h y (List.mem_cons_of_mem _ hy))
    have hx := h x List.mem_cons_self
    simp only [mJoin, List.length_append, List.length_cons, Nat.add_mul]
    omega
theorem small_fmt {n : Int} (h0 : 0 ≤ n) (h1 : n ≤ 99) : (mFmt n).length ≤ 3 := by
  rw [mFmt_nonneg (by omega)]
  unfold mDg
  by_cases h2 : n.natAbs = 0
  · rw [if_pos h2]; simp
  · rw [if_neg h2]; have := mDig_len 2 n.natAbs (by omega); omega
theorem term_fmt (t : Int) : (mFmtTerm t).length ≤ 4 := by
  unfold mFmtTerm
  by_cases hv : mIsVar t = true
  · rw [if_pos hv]
    have hb : 0 ≤ t ∧ t ≤ 19 := by simpa [mIsVar] using hv
    have := small_fmt (n := t) (by omega) (by omega)
    simp; omega
  · rw [if_neg hv]
    by_cases hT : mIsTerm t = true
    · rw [if_pos hT]
      have ht : -80 ≤ t ∧ t ≤ 19 := by simpa [mIsTerm] using hT
      have hb : ¬ (0 ≤ t ∧ t ≤ 19) := by simpa [mIsVar] using hv
      have := small_fmt (n := -1 - t) (by omega) (by omega)
      omega
    · rw [if_neg hT]; simp
end Go.Proofs.Ytanbgnjfllpkgaa.Mine
