/- The pure statement of the law FnExactRenameQuery: the program's function and the reference's agree, for all arguments within the row's bounds. -/
import Derived.Test.YtanbgnjfllpkgaaQFnExactRenameQueryx0
import Derived.Test.YtanbgnjfllpkgaaQFnExactRenameQueryx1
import Derived.Test.YtanbgnjfllpkgaaQFnExactRenameQueryx2
import Derived.Test.YtanbgnjfllpkgaaQFnExactRenameQueryx3
import Derived.Test.YtanbgnjfllpkgaaQFnExactRenameQueryx4
import Derived.Test.YtanbgnjfllpkgaaMine
import Derived.Test.YtanbgnjfllpkgaaOpen
set_option linter.unusedVariables false
set_option linter.unusedSimpArgs false
namespace Go.Proofs.Ytanbgnjfllpkgaa.Pure
open Go.RowKit Go.Proofs.Ytanbgnjfllpkgaa.QFnExactRenameQuery Go.Proofs.YtanbgnjfllpkgaaW.PrintWords Go.Proofs.YtanbgnjfllpkgaaW.PrintLast Go.Proofs.Ytanbgnjfllpkgaa.Mine Go.Proofs.Ytanbgnjfllpkgaa.Open

theorem szIntS_eq (l : List Int) (a : Int) (h : l.length ≤ maxLen) (h0 : 0 ≤ a) (h1 : a ≤ 1048576) : laws_szIntS.f l a = some (mSz l a) := by
  unfold maxLen at h
  unfold laws_szIntS.f mSz
  rw [w64 (by omega) (by omega)]
  by_cases hc : (l.length : Int) ≤ a
  · rw [if_neg (by omega), if_pos hc]
  · rw [if_pos (by omega), if_neg hc]
/-! ### A copy of a list -/
theorem toIntS_l0 (suf : List Int) : ∀ pre : List Int, (pre ++ suf).length ≤ 17592186044416 → Ev (fun k => laws_toIntS.l0 k (pre ++ suf) (pre ++ List.replicate suf.length 0) (pre.length : Int)) (pre ++ suf) := by
  induction suf with
  | nil =>
    intro pre h
    simp only [List.append_nil, List.length_nil, List.replicate_zero]
    refine evn fun k => ?_
    simp only [laws_toIntS.l0]
    rw [if_neg (end_not _)]
  | cons a t ih =>
    intro pre h
    have h1 := ih (pre ++ [a]) (by simpa using h)
    have hl : pre.length ≤ 140737488355328 := by simp at h; omega
    refine Ev.step (fun k => ?_) (by simpa using h1)
    simp only [laws_toIntS.l0]
    rw [if_pos (mid_lt _ _ _), if_pos (len_nonneg _)]
    simp only [List.length_cons, List.replicate_succ]
    rw [if_pos (mid_lt _ _ _), rd_mid, set_mid, iw (a := a) hl]
    simp
theorem toIntS_ev (l : List Int) (h : l.length ≤ 17592186044416) : Ev (fun k => laws_toIntS.f k l) l := by
  have h1 := toIntS_l0 l [] (by simpa using h)
  refine Ev.congr (fun k => ?_) h1
  unfold laws_toIntS.f
  rw [if_pos (by omega), if_pos (by simp; omega)]
  simp
/-! ### Equal lists -/
theorem eqIntS_l0 (suf : List Int) : ∀ (pre suf2 pre2 : List Int), pre.length = pre2.length → suf.length = suf2.length → (pre ++ suf).length ≤ 17592186044416 →
    Ev (fun k => laws_eqIntS.l0 k (pre ++ suf) (pre2 ++ suf2) (pre.length : Int)) (decide (suf = suf2)) := by
  induction suf with
  | nil =>
    intro pre suf2 pre2 hp hs h
    obtain rfl : suf2 = [] := List.eq_nil_of_length_eq_zero (by simpa using hs.symm)
    simp only [List.append_nil]
    refine evn fun k => ?_
    simp only [laws_eqIntS.l0]
    rw [if_neg (end_not _)]; simp
  | cons a t ih =>
    intro pre suf2 pre2 hp hs h
    obtain ⟨b, t2, rfl⟩ : ∃ b t2, suf2 = b :: t2 := by cases suf2 with
      | nil => simp at hs
      | cons b t2 => exact ⟨b, t2, rfl⟩
    have hl : pre.length ≤ 140737488355328 := by simp at h; omega
    have r1 : rd (pre2 ++ b :: t2) (pre.length : Int) = b := by rw [hp]; exact rd_mid _ _ _
    have l1 : (pre.length : Int) < ((pre2 ++ b :: t2).length : Int) := by rw [hp]; exact mid_lt _ _ _
    by_cases hab : a = b
    · subst hab
      have h1 := ih (pre ++ [a]) t2 (pre2 ++ [a]) (by simpa using hp) (by simpa using hs) (by simpa using h)
      have e : decide (a :: t = a :: t2) = decide (t = t2) := by simp
      rw [e]
      refine Ev.step (fun k => ?_) (by simpa using h1)
      simp only [laws_eqIntS.l0]
      rw [if_pos (mid_lt _ _ _), if_pos (len_nonneg _), if_pos l1, rd_mid, r1, if_pos rfl, iw (a := a) hl]
      simp
    · have e : decide (a :: t = b :: t2) = false := by simp [hab]
      rw [e]
      refine evn fun k => ?_
      simp only [laws_eqIntS.l0]
      rw [if_pos (mid_lt _ _ _), if_pos (len_nonneg _), if_pos l1, rd_mid, r1, if_neg hab]
theorem eqIntS_ev (l l2 : List Int) (h : l.length ≤ 17592186044416) : Ev (fun k => laws_eqIntS.f k l l2) (decide (l = l2)) := by
  by_cases hl : l.length = l2.length
  · have h1 := eqIntS_l0 l [] l2 [] rfl hl (by simpa using h)
    refine Ev.congr (fun k => ?_) h1
    unfold laws_eqIntS.f
    rw [if_pos (by omega)]
    simp
  · have e : decide (l = l2) = false := by simp; intro h; exact hl (by rw [h])
    rw [e]
    refine evc fun k => ?_
    unfold laws_eqIntS.f
    rw [if_neg (by omega)]
theorem eqAtom_ev (r : Int) (l : List Int) (q : Int) (m : List Int) (h : l.length ≤ 17592186044416) : Ev (fun k => laws_eqAtom.f k r l q m) (decide (r = q ∧ l = m)) := by
  unfold laws_eqAtom.f
  by_cases hr : r = q
  · simp only [if_pos hr]
    refine evb (eqIntS_ev l m h) ?_
    refine evc fun k => ?_
    by_cases e : l = m
    · simp [e, hr]
    · simp [e]
  · simp only [if_neg hr]
    refine evc fun k => ?_
    simp [hr]
theorem szAtom_eq (r : Int) (l : List Int) (a : Int) (h : l.length ≤ maxLen) (h0 : 0 ≤ a) (h1 : a ≤ 1048576) : laws_szAtom.f r l a = some (mSz l a) := by
  unfold laws_szAtom.f
  rw [szIntS_eq l a h h0 h1]
  simp only [Option.bind_some]
  unfold mSz
  by_cases hc : (l.length : Int) ≤ a
  · simp only [if_pos hc]; rw [if_neg (by omega)]
  · simp only [if_neg hc]; rfl
theorem toAtom_ev (r : Int) (l : List Int) (h : l.length ≤ 17592186044416) : Ev (fun k => laws_toAtom.f k r l) (r, l) := by
  unfold laws_toAtom.f
  refine evb (toIntS_ev l h) ?_
  exact evc fun k => rfl
theorem szAtom_ok (r : Int) (l : List Int) (a : Int) (w : (WfL WfI) l) (h0 : 0 ≤ a) (h1 : a ≤ 1048576) : ∃ t, Ev (fun _ : Nat => laws_szAtom.f r l a) t ∧ (t < 0 ∨ 0 ≤ t ∧ t ≤ a ∧ l.length ≤ 1048576) := by
  refine ⟨mSz l a, evc fun k => szAtom_eq r l a w.2 h0 h1, ?_⟩
  unfold mSz
  by_cases hc : (l.length : Int) ≤ a
  · rw [if_pos hc]; right; omega
  · rw [if_neg hc]; left; omega
theorem rdIA_of {l pre suf : List S97} {a : S97} (e : l = pre ++ a :: suf) : rd_T97 l (pre.length : Int) = a := getD_of e _
/-! ### Lists of atoms -/
def cvA (x : S124) : S97 := ⟨x.f0, x.f1⟩
def SmA (l : List S124) : Prop := ∀ x ∈ l, x.f1.length ≤ 1048576
def SmAi (l : List S97) : Prop := ∀ x ∈ l, x.f1.length ≤ 1048576
theorem cvA_small {l : List S124} (h : ∀ x ∈ l, x.f1.length ≤ 1048576) : ∀ x ∈ l.map cvA, x.f1.length ≤ 1048576 := by
  intro x hx
  obtain ⟨y, hy, rfl⟩ := List.mem_map.1 hx
  exact h y hy
theorem rdLA_of {l pre suf : List S124} {a : S124} (e : l = pre ++ a :: suf) : rd_T124 l (pre.length : Int) = a := getD_of e _
theorem szAtomS_ok (l : List S124) (a : Int) (w : (WfL (fun x : S124 => WfI x.f0 ∧ (WfL WfI) x.f1)) l) (h0 : 0 ≤ a) (h1 : a ≤ 1048576) :
    ∃ t, Ev (fun k => laws_szAtomS.f k l a) t ∧ (t < 0 ∨ 0 ≤ t ∧ t ≤ a ∧ l.length ≤ 1048576 ∧ ∀ x ∈ l, x.f1.length ≤ 1048576) := by
  have hm : l.length ≤ 9223372036854775807 := by have := w.2; unfold maxLen at this; exact this
  unfold laws_szAtomS.f
  rw [w64 (by omega) (by omega)]
  by_cases hc : a - (l.length : Int) < 0
  · simp only [if_pos hc]; exact ⟨-1, evc fun k => rfl, .inl (by omega)⟩
  · simp only [if_neg hc]
    have hl : l.length ≤ 1048576 := by omega
    have key := idx_ind l (fun pre suf => ∀ b : Int, 0 ≤ b → b ≤ a → ∃ t, Ev (fun k => laws_szAtomS.l0 k l b (pre.length : Int)) t ∧ (t < 0 ∨ 0 ≤ t ∧ t ≤ a ∧ ∀ x ∈ suf, x.f1.length ≤ 1048576)) ?_ ?_
    · obtain ⟨t, z, c⟩ := key (a - (l.length : Int)) (by omega) (by omega)
      exact ⟨t, z, c.imp id (fun ⟨p, q, r⟩ => ⟨p, q, hl, r⟩)⟩
    · intro b hb0 hb1
      refine ⟨b, evn fun k => ?_, .inr ⟨hb0, hb1, by simp⟩⟩
      simp only [laws_szAtomS.l0]
      rw [if_neg (end_not _)]
    · intro pre x suf e ih b hb0 hb1
      have hx : x ∈ l := by rw [e]; simp
      obtain ⟨t, z, c⟩ := szAtom_ok x.f0 x.f1 b (w.1 x hx).2 hb0 (by omega)
      have z' : laws_szAtom.f x.f0 x.f1 b = some t := by obtain ⟨K, hK⟩ := z; exact hK K (Nat.le_refl _)
      rcases c with c | ⟨p, q, s⟩
      · refine ⟨-1, evn fun k => ?_, .inl (by omega)⟩
        simp only [laws_szAtomS.l0]
        rw [if_pos (lt_of e), if_pos (len_nonneg _), rdLA_of e, z']
        simp only [Option.bind_some]
        rw [if_pos c]
      · obtain ⟨t2, z2, c2⟩ := ih t p (by omega)
        refine ⟨t2, Ev.step (fun k => ?_) z2, c2.imp id (fun ⟨p2, q2, r2⟩ => ⟨p2, q2, ?_⟩)⟩
        · simp only [laws_szAtomS.l0]
          rw [if_pos (lt_of e), if_pos (len_nonneg _), rdLA_of e, z']
          simp only [Option.bind_some]
          rw [if_neg (by omega), nx_of e (by omega)]
        · intro y hy
          rcases List.mem_cons.1 hy with rfl | hy
          · exact s
          · exact r2 y hy
theorem toAtomS_ev (l : List S124) (hl : l.length ≤ 1048576) (hs : ∀ x ∈ l, x.f1.length ≤ 1048576) : Ev (fun k => laws_toAtomS.f k l) (l.map cvA) := by
  have key := idx_ind l (fun pre suf => Ev (fun k => laws_toAtomS.l0 k l (pre.map cvA ++ List.replicate suf.length z97) (pre.length : Int)) (l.map cvA)) ?_ ?_
  · refine Ev.congr (fun k => ?_) key
    unfold laws_toAtomS.f
    rw [if_pos (by omega), if_pos (by omega)]
    simp
  · refine evn fun k => ?_
    simp only [laws_toAtomS.l0]
    rw [if_neg (end_not _)]
    simp
  · intro pre x suf e ih
    have hx : x.f1.length ≤ 1048576 := hs x (by rw [e]; simp)
    refine Ev.step (f := fun k => (laws_toAtom.f k x.f0 x.f1).bind fun b => laws_toAtomS.l0 k l ((pre.map cvA ++ List.replicate (suf.length + 1) z97).set pre.length (⟨b.1, b.2⟩ : S97)) ((pre ++ [x]).length : Int)) (fun k => ?_) ?_
    · simp only [laws_toAtomS.l0]
      have hc : (pre.length : Int) < ((pre.map cvA ++ List.replicate (x :: suf).length z97).length : Int) := by simp; omega
      rw [if_pos (lt_of e), if_pos (len_nonneg _), rdLA_of e, nx_of e (by omega)]
      simp only [if_pos hc]
      simp
    · refine evb (toAtom_ev x.f0 x.f1 (by omega)) ?_
      have es : (pre.map cvA ++ List.replicate (suf.length + 1) z97).set pre.length (⟨x.f0, x.f1⟩ : S97) = (pre ++ [x]).map cvA ++ List.replicate suf.length z97 := by
        rw [List.replicate_succ]
        simp [cvA]
      simp only [es]
      exact ih
theorem eqAtomS_ev (l : List S97) (hl : l.length ≤ 1048576) (hs : ∀ x ∈ l, x.f1.length ≤ 1048576) : Ev (fun k => laws_eqAtomS.f k l l) true := by
  have key := idx_ind l (fun pre suf => Ev (fun k => laws_eqAtomS.l0 k l l (pre.length : Int)) true) ?_ ?_
  · refine Ev.congr (fun k => ?_) key
    unfold laws_eqAtomS.f
    rw [if_pos rfl]; rfl
  · refine evn fun k => ?_
    simp only [laws_eqAtomS.l0]
    rw [if_neg (end_not _)]
  · intro pre x suf e ih
    have hx : x.f1.length ≤ 1048576 := hs x (by rw [e]; simp)
    refine Ev.step (f := fun k => (laws_eqAtom.f k x.f0 x.f1 x.f0 x.f1).bind fun b => if b = true then laws_eqAtomS.l0 k l l ((pre ++ [x]).length : Int) else some false) (fun k => ?_) ?_
    · simp only [laws_eqAtomS.l0]
      rw [if_pos (lt_of e), if_pos (len_nonneg _), if_pos (lt_of e), rdIA_of e, nx_of e (by omega)]
    · refine evb (eqAtom_ev x.f0 x.f1 x.f0 x.f1 (by omega)) ?_
      simp only [and_self, decide_true, if_true]
      exact ih
/-! ### Queries -/
theorem szQuery_ok (h : List Int) (d : List S124) (a : Int) (w : (WfL WfI) h ∧ (WfL (fun x : S124 => WfI x.f0 ∧ (WfL WfI) x.f1)) d) (h0 : 0 ≤ a) (h1 : a ≤ 1048576) :
    ∃ t, Ev (fun k => laws_szQuery.f k h d a) t ∧ (t < 0 ∨ 0 ≤ t ∧ t ≤ a ∧ h.length ≤ 1048576 ∧ d.length ≤ 1048576 ∧ ∀ x ∈ d, x.f1.length ≤ 1048576) := by
  unfold laws_szQuery.f
  rw [szIntS_eq h a w.1.2 h0 h1]
  simp only [Option.bind_some]
  unfold mSz
  by_cases hc : (h.length : Int) ≤ a
  · simp only [if_pos hc]
    have hn : ¬ (a - (h.length : Int) < 0) := by omega
    simp only [if_neg hn]
    obtain ⟨t, z, c⟩ := szAtomS_ok d (a - (h.length : Int)) w.2 (by omega) (by omega)
    rcases c with c | ⟨p, q, s⟩
    · exact ⟨-1, evb z (by simp only [if_pos c]; exact evc fun k => rfl), .inl (by omega)⟩
    · have hp : ¬ t < 0 := by omega
      exact ⟨t, evb z (by simp only [if_neg hp]; exact evc fun k => rfl), .inr ⟨p, by omega, by omega, s⟩⟩
  · simp only [if_neg hc]
    exact ⟨-1, evc fun k => rfl, .inl (by omega)⟩
theorem toQuery_ev (h : List Int) (d : List S124) (hh : h.length ≤ 1048576) (hl : d.length ≤ 1048576) (hs : ∀ x ∈ d, x.f1.length ≤ 1048576) : Ev (fun k => laws_toQuery.f k h d) (h, d.map cvA) := by
  unfold laws_toQuery.f
  refine evb (toIntS_ev h (by omega)) ?_
  refine evb (toAtomS_ev d hl hs) ?_
  exact evc fun k => rfl
theorem eqQuery_ev (h : List Int) (d : List S97) (hh : h.length ≤ 1048576) (hl : d.length ≤ 1048576) (hs : ∀ x ∈ d, x.f1.length ≤ 1048576) : Ev (fun k => laws_eqQuery.f k h d h d) true := by
  unfold laws_eqQuery.f
  refine evb (eqIntS_ev h h (by omega)) ?_
  simp only [decide_true, if_true]
  refine evb (eqAtomS_ev d hl hs) ?_
  simp only [if_true]
  exact evc fun k => rfl
theorem l1In_eq (x lo hi : Int) : spec_l1In.f x lo hi = some (decide (lo ≤ x ∧ x ≤ hi)) := by
  unfold spec_l1In.f
  by_cases h : x ≥ lo
  · rw [if_pos h]; congr 1; simp; omega
  · rw [if_neg h]; congr 1; simp; omega
/-! ### A query under a list of terms -/
/-- The term that a term becomes. -/
def tT (tl : List Int) (t : Int) : Int := if 0 ≤ t ∧ t < (tl.length : Int) then rd tl t else t
def tA (tl : List Int) (x : S97) : S97 := ⟨x.f0, x.f1.map (tT tl)⟩
theorem l4Term_eq (tl : List Int) (t : Int) (h : tl.length ≤ 1048576) : spec_l4Term.f t tl = some (tT tl t) := by
  unfold spec_l4Term.f tT
  rw [l1In_eq, w64 (by omega) (by omega)]
  simp only [Option.bind_some, decide_eq_true_eq]
  by_cases c : 0 ≤ t ∧ t ≤ (tl.length : Int) - 1
  · rw [if_pos c, if_pos c.1, if_pos (by omega), if_pos (by omega)]
  · rw [if_neg c, if_neg (by omega)]
theorem l4Terms_ev (l tl : List Int) (hl : l.length ≤ 1048576) (h : tl.length ≤ 1048576) : Ev (fun k => spec_l4Terms.f k l tl) (l.map (tT tl)) := by
  refine idx_ind l (fun pre suf => Ev (fun k => spec_l4Terms.l0 k l tl (pre.map (tT tl)) (pre.length : Int)) (l.map (tT tl))) ?_ ?_
  · refine evn fun k => ?_
    simp only [spec_l4Terms.l0]
    rw [if_neg (end_not _)]
  · intro pre x suf e ih
    have hp : (pre.map (tT tl)).length < 17592186044416 := by rw [e] at hl; simp at hl ⊢; omega
    refine Ev.step (fun k => spec_l4Terms.l0.eq_2 ..) ?_
    simp only [if_pos (lt_of e), if_pos (len_nonneg _), rd_of e, nx_of e (by omega), l4Term_eq tl x h, Option.bind_some, if_pos hp]
    rw [List.map_append] at ih
    exact ih
theorem renameQ_ev (h : List Int) (d : List S97) (tl : List Int) (hh : h.length ≤ 1048576) (hl : d.length ≤ 1048576) (hs : ∀ x ∈ d, x.f1.length ≤ 1048576) (ht : tl.length ≤ 1048576) :
    Ev (fun k => spec_RenameQuery.f k h d tl) (h.map (tT tl), d.map (tA tl)) := by
  unfold spec_RenameQuery.f
  refine evb (l4Terms_ev h tl hh ht) ?_
  refine idx_ind d (fun pre suf => Ev (fun k => spec_RenameQuery.l0 k tl (pre.length : Int) h d (h.map (tT tl)) (pre.map (tA tl))) (h.map (tT tl), d.map (tA tl))) ?_ ?_
  · refine evn fun k => ?_
    simp only [spec_RenameQuery.l0]
    rw [if_neg (end_not _)]
  · intro pre x suf e ih
    have hx : x.f1.length ≤ 1048576 := hs x (by rw [e]; simp)
    have hp : (pre.map (tA tl)).length < 4398046511104 := by rw [e] at hl; simp at hl ⊢; omega
    refine Ev.step (fun k => spec_RenameQuery.l0.eq_2 ..) ?_
    simp only [if_pos (lt_of e), if_pos (len_nonneg _), rdIA_of e, nx_of e (by omega)]
    refine evb (l4Terms_ev x.f1 tl hx ht) ?_
    simp only [if_pos hp]
    rw [List.map_append] at ih
    exact ih
theorem tA_small {d : List S97} {tl : List Int} (hs : ∀ x ∈ d, x.f1.length ≤ 1048576) : ∀ x ∈ d.map (tA tl), x.f1.length ≤ 1048576 := by
  intro x hx
  obtain ⟨y, hy, rfl⟩ := List.mem_map.1 hx
  simpa [tA] using hs y hy
theorem copyInts_eq (l : List Int) (h : l.length ≤ 1048576) : impl_copyInts.f l = some l := by
  unfold impl_copyInts.f
  simp only [Option.bind_some, List.length_nil, Nat.zero_add, List.nil_append]
  rw [if_pos (by omega)]
/-! ### Copies of queries -/
theorem copyAtoms_ev (d : List S97) (hl : d.length ≤ 1048576) (hs : ∀ x ∈ d, x.f1.length ≤ 1048576) : Ev (fun k => impl_copyAtoms.f k d) d := by
  refine idx_ind d (fun pre suf => Ev (fun k => impl_copyAtoms.l0 k pre d (d.length : Int) (pre.length : Int)) d) ?_ ?_
  · refine evn fun k => ?_
    simp only [impl_copyAtoms.l0]
    rw [if_neg (end_not _)]
  · intro pre x suf e ih
    have hx : x.f1.length ≤ 1048576 := hs x (by rw [e]; simp)
    have hp : pre.length < 4398046511104 := by rw [e] at hl; simp at hl; omega
    refine Ev.step (fun k => impl_copyAtoms.l0.eq_2 ..) ?_
    simp only [if_pos (lt_of e), if_pos (len_nonneg _), rdIA_of e, nx_of e (by omega), copyInts_eq x.f1 hx, Option.bind_some, if_pos hp]
    exact ih
theorem copyQuery_ev (h : List Int) (d : List S97) (hh : h.length ≤ 1048576) (hl : d.length ≤ 1048576) (hs : ∀ x ∈ d, x.f1.length ≤ 1048576) : Ev (fun k => impl_copyQuery.f k h d) (h, d) := by
  unfold impl_copyQuery.f
  rw [copyInts_eq h hh]
  simp only [Option.bind_some]
  refine evb (copyAtoms_ev d hl hs) ?_
  exact evc fun k => rfl
theorem markIntS_l0 (suf : List Int) : ∀ (pre : List Int) (m : Int), 0 ≤ m → m + suf.length ≤ 9223372036854775807 → (pre ++ suf).length ≤ 17592186044416 →
    Ev (fun k => laws_markIntS.l0 k (pre ++ suf) m (pre.length : Int)) (m + (suf.length : Int), pre ++ mMarks m suf.length) := by
  induction suf with
  | nil =>
    intro pre m h0 h1 h
    refine evn fun k => ?_
    simp only [laws_markIntS.l0, List.append_nil]
    rw [if_neg (end_not _)]; simp [mMarks]
  | cons a t ih =>
    intro pre m h0 h1 h
    have hl : pre.length ≤ 140737488355328 := by simp at h; omega
    have r := ih (pre ++ [m]) (m + 1) (by omega) (by simp at h1; omega) (by simpa using h)
    have e : m + ((a :: t).length : Int) = m + 1 + (t.length : Int) := by simp; omega
    rw [e]
    refine Ev.step (fun k => ?_) (by simpa [mMarks] using r)
    simp only [laws_markIntS.l0]
    rw [if_pos (mid_lt _ _ _), if_pos (len_nonneg _), set_mid, iw (a := m) hl, w64 (by omega) (by simp at h1; omega)]
    simp
theorem markIntS_ev (l : List Int) (m : Int) (h0 : 0 ≤ m) (h1 : m ≤ 4611686018427387904) (h : l.length ≤ 17592186044416) : Ev (fun k => laws_markIntS.f k l m) (m + (l.length : Int), mMarks m l.length) := by
  have r := markIntS_l0 l [] m h0 (by omega) (by simpa using h)
  exact r
theorem heldIntS_l0 : ∀ (n : Nat) (pre : List Int) (m : Int), 0 ≤ m → m + n ≤ 9223372036854775807 → pre.length + n ≤ 17592186044416 →
    Ev (fun k => laws_heldIntS.l0 k (pre ++ mMarks m n) m (pre.length : Int)) (m + (n : Int))
  | 0, pre, m, h0, h1, h => by
    refine evn fun k => ?_
    simp only [laws_heldIntS.l0, mMarks, List.append_nil]
    rw [if_neg (end_not _)]; simp
  | n + 1, pre, m, h0, h1, h => by
    have r := heldIntS_l0 n (pre ++ [m]) (m + 1) (by omega) (by omega) (by simp; omega)
    have e : m + ((n + 1 : Nat) : Int) = m + 1 + (n : Int) := by omega
    rw [e]
    refine Ev.step (fun k => ?_) (by simpa [mMarks] using r)
    rw [show mMarks m (n + 1) = m :: mMarks (m + 1) n from rfl]
    simp only [laws_heldIntS.l0]
    rw [if_pos (mid_lt _ _ _), if_pos (len_nonneg _), rd_mid, if_pos rfl, iw (a := m) (by omega), w64 (by omega) (by omega)]
    simp
theorem heldIntS_ev (m : Int) (n : Nat) (h0 : 0 ≤ m) (h1 : m ≤ 4611686018427387904) (h : n ≤ 17592186044416) : Ev (fun k => laws_heldIntS.f k (mMarks m n) m) (m + (n : Int)) := by
  have r := heldIntS_l0 n [] m h0 (by omega) (by simpa using h)
  exact r
theorem within_eq (x lo hi : Int) : impl_within.f x lo hi = some (decide (lo ≤ x ∧ x ≤ hi)) := by
  unfold impl_within.f
  by_cases h : x ≥ lo
  · rw [if_pos h]; congr 1; simp; omega
  · rw [if_neg h]; congr 1; simp; omega

end Go.Proofs.Ytanbgnjfllpkgaa.Pure
