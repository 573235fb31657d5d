/- The pure statement of the law FnMappings: the program's function and the reference's agree, for all arguments within the row's bounds. -/
import Derived.Test.YtanbgnjfllpkgaaQFnMappingsx0
import Derived.Test.YtanbgnjfllpkgaaQFnMappingsx1
import Derived.Test.YtanbgnjfllpkgaaQFnMappingsx2
import Derived.Test.YtanbgnjfllpkgaaQFnMappingsx3
import Derived.Test.YtanbgnjfllpkgaaQFnMappingsx4
import Derived.Test.YtanbgnjfllpkgaaQFnMappingsx5
import Derived.Test.YtanbgnjfllpkgaaQFnMappingsx6
import Derived.Test.YtanbgnjfllpkgaaQFnMappingsx7
import Derived.Test.YtanbgnjfllpkgaaQFnMappingsx8
import Derived.Test.YtanbgnjfllpkgaaQFnMappingsx9
import Derived.Test.YtanbgnjfllpkgaaQFnMappingsx10
import Derived.Test.YtanbgnjfllpkgaaQFnMappingsx11
import Derived.Test.YtanbgnjfllpkgaaQFnMappingsx12
import Derived.Test.YtanbgnjfllpkgaaQFnMappingsx13
import Derived.Test.YtanbgnjfllpkgaaQFnMappingsx14
import Derived.Test.YtanbgnjfllpkgaaQFnMappingsx15
import Derived.Test.YtanbgnjfllpkgaaQFnMappingsx16
import Derived.Test.YtanbgnjfllpkgaaVFnMappingsMine
import Derived.Test.YtanbgnjfllpkgaaVFnMappingsOpen
set_option linter.unusedVariables false
set_option linter.unusedSimpArgs false
namespace Go.Proofs.Ytanbgnjfllpkgaa.Pure
open Go.RowKit Go.Proofs.Ytanbgnjfllpkgaa.QFnMappings Go.Proofs.YtanbgnjfllpkgaaW.PrintWords Go.Proofs.YtanbgnjfllpkgaaW.PrintLast Go.Proofs.Ytanbgnjfllpkgaa.Mine Go.Proofs.Ytanbgnjfllpkgaa.Open

theorem and255_range (x : Int) : 0 ≤ Go.bits .and .i64 x 255 ∧ Go.bits .and .i64 x 255 ≤ 255 := by
  have e : Go.bits .and .i64 x 255 = IntKind.i64.wrap (((BitVec.ofInt IntKind.i64.bits x) &&& (BitVec.ofInt IntKind.i64.bits 255)).toNat : Int) := rfl
  have h : ((BitVec.ofInt IntKind.i64.bits x) &&& (BitVec.ofInt IntKind.i64.bits 255)).toNat ≤ 255 := by
    rw [BitVec.toNat_and]
    have : (BitVec.ofInt IntKind.i64.bits 255).toNat = 255 := by decide
    rw [this]
    exact Nat.and_le_right
  rw [e, IntKind.wrap_i64]
  omega
theorem l1Byte_ok (c : List Int) (i h : Int) (hc : c.length ≤ 1048576) (h0 : 0 ≤ i) (h1 : i ≤ c.length) :
    ∃ x i' h', spec_l1Byte.f c i h = some (x, i', h') ∧ (0 ≤ x ∧ x ≤ 255) ∧ 0 ≤ i' ∧ i' ≤ c.length := by
  unfold spec_l1Byte.f
  by_cases hl : i < (c.length : Int)
  · rw [if_pos hl, if_pos h0]
    exact ⟨_, _, _, rfl, and255_range _, by rw [w64 (by omega) (by omega)]; omega, by rw [w64 (by omega) (by omega)]; omega⟩
  · rw [if_neg hl]
    exact ⟨_, _, _, rfl, and255_range _, h0, h1⟩
theorem tmod_range {x n : Int} (hx : 0 ≤ x) (hn : 0 < n) : 0 ≤ Int.tmod x n ∧ Int.tmod x n < n := by
  rw [Int.tmod_eq_emod_of_nonneg hx]
  exact ⟨Int.emod_nonneg _ (by omega), Int.emod_lt_of_pos _ hn⟩
theorem l1Below_ok (c : List Int) (i h n : Int) (hc : c.length ≤ 1048576) (h0 : 0 ≤ i) (h1 : i ≤ c.length) :
    ∃ x i' h', spec_l1Below.f c i h n = some (x, i', h') ∧ (0 ≤ x ∧ (0 < n → x < n) ∧ (n ≤ 0 → x = 0)) ∧ 0 ≤ i' ∧ i' ≤ c.length := by
  unfold spec_l1Below.f
  by_cases c1 : n ≤ 0
  · rw [if_pos c1]; exact ⟨_, _, _, rfl, ⟨by omega, fun h => by omega, fun _ => rfl⟩, h0, h1⟩
  · rw [if_neg c1]
    have hz : ¬ n = 0 := by omega
    by_cases c2 : n ≤ 256
    · rw [if_pos c2]
      obtain ⟨x, i', h', e, hx, hi⟩ := l1Byte_ok c i h hc h0 h1
      rw [e]
      simp only [Option.bind_some, if_neg hz]
      have := tmod_range (n := n) hx.1 (by omega)
      exact ⟨_, _, _, rfl, ⟨this.1, fun _ => this.2, fun h => by omega⟩, hi⟩
    · rw [if_neg c2]
      obtain ⟨x, i1, g1, e1, hx, hi1⟩ := l1Byte_ok c i h hc h0 h1
      obtain ⟨y, i2, g2, e2, hy, hi2⟩ := l1Byte_ok c i1 g1 hc hi1.1 hi1.2
      obtain ⟨z, i3, g3, e3, hz3, hi3⟩ := l1Byte_ok c i2 g2 hc hi2.1 hi2.2
      obtain ⟨w, i4, g4, e4, hw, hi4⟩ := l1Byte_ok c i3 g3 hc hi3.1 hi3.2
      rw [e1]
      simp only [Option.bind_some]
      rw [e2]
      simp only [Option.bind_some]
      rw [e3]
      simp only [Option.bind_some]
      rw [e4]
      simp only [Option.bind_some, if_neg hz]
      have q : 0 ≤ wrap64 ((wrap64 ((wrap64 ((wrap64 (x * 16777216)) + (wrap64 (y * 65536)))) + (wrap64 (z * 256)))) + w) := by
        rw [w64 (x := x * 16777216) (by omega) (by omega), w64 (x := y * 65536) (by omega) (by omega), w64 (x := z * 256) (by omega) (by omega), w64 (x := x * 16777216 + y * 65536) (by omega) (by omega), w64 (x := x * 16777216 + y * 65536 + z * 256) (by omega) (by omega), w64 (by omega) (by omega)]
        omega
      have := tmod_range (n := n) q (by omega)
      exact ⟨_, _, _, rfl, ⟨this.1, fun _ => this.2, fun h => by omega⟩, hi4⟩
theorem l1PickInt_ok (c : List Int) (i h : Int) (l : List Int) (hc : c.length ≤ 1048576) (h0 : 0 ≤ i) (h1 : i ≤ c.length) (hl : 0 < l.length) :
    ∃ x i' h', spec_l1PickInt.f c i h l = some (x, i', h') ∧ x ∈ l ∧ 0 ≤ i' ∧ i' ≤ c.length := by
  unfold spec_l1PickInt.f
  obtain ⟨x, i', h', e, hx, hi⟩ := l1Below_ok c i h (l.length : Int) hc h0 h1
  rw [e]
  simp only [Option.bind_some]
  have hx2 := hx.2.1 (by omega)
  rw [if_pos hx.1, if_pos hx2]
  refine ⟨_, _, _, rfl, ?_, hi⟩
  have hn : x.toNat < l.length := by omega
  have : rd l x = l[x.toNat] := by simp [rd, List.getD_eq_getElem?_getD, List.getElem?_eq_getElem hn]
  rw [this]; exact List.getElem_mem _
theorem l1New_ok (c : List Int) (hc : c.length ≤ 1048576) : ∃ h, Ev (fun k => spec_l1New.f k c) (c, 0, h) := by
  have key := idx_ind c (fun pre suf => ∀ h : Int, ∃ h', Ev (fun k => spec_l1New.l0 k c h (pre.length : Int)) (c, 0, h')) ?_ ?_
  · exact key _
  · intro h
    refine ⟨h, evn fun k => ?_⟩
    simp only [spec_l1New.l0]
    rw [if_neg (end_not _)]
  · intro pre a suf e ih h
    by_cases h4 : (pre.length : Int) < 4000
    · obtain ⟨h', r⟩ := ih (Go.bits .and .i64 (wrap64 ((wrap64 ((wrap64 (h * 131)) + (wrap64 (rd c (pre.length : Int))))) + 7)) 1073741823)
      refine ⟨h', Ev.step (fun k => spec_l1New.l0.eq_2 ..) ?_⟩
      simp only [if_pos (lt_of e), if_pos h4, if_pos (len_nonneg _), nx_of e (show c.length ≤ 140737488355328 by omega)]
      exact r
    · refine ⟨h, evn fun k => ?_⟩
      simp only [spec_l1New.l0]
      rw [if_pos (lt_of e), if_neg h4]
theorem rdIA_of {l pre suf : List S97} {a : S97} (e : l = pre ++ a :: suf) : rd_T97 l (pre.length : Int) = a := getD_of e _
theorem l1In_eq (x lo hi : Int) : spec_l1In.f x lo hi = some (decide (lo ≤ x ∧ x ≤ hi)) := by
  unfold spec_l1In.f
  by_cases h : x ≥ lo
  · rw [if_pos h]; congr 1; simp; omega
  · rw [if_neg h]; congr 1; simp; omega
def tF (f : Int → Int) (x : S97) : S97 := ⟨x.f0, x.f1.map f⟩
def tT (tl : List Int) (t : Int) : Int := if 0 ≤ t ∧ t < (tl.length : Int) then rd tl t else t
def tA (tl : List Int) : S97 → S97 := tF (tT tl)
theorem l4Term_eq (tl : List Int) (t : Int) (h : tl.length ≤ 1048576) : spec_l4Term.f t tl = some (tT tl t) := by
  unfold spec_l4Term.f tT
  rw [l1In_eq, w64 (by omega) (by omega)]
  simp only [Option.bind_some, decide_eq_true_eq]
  by_cases c : 0 ≤ t ∧ t ≤ (tl.length : Int) - 1
  · rw [if_pos c, if_pos c.1, if_pos (by omega), if_pos (by omega)]
  · rw [if_neg c, if_neg (by omega)]
theorem l4Terms_ev (l tl : List Int) (hl : l.length ≤ 1048576) (h : tl.length ≤ 1048576) : Ev (fun k => spec_l4Terms.f k l tl) (l.map (tT tl)) := by
  refine idx_ind l (fun pre suf => Ev (fun k => spec_l4Terms.l0 k l tl (pre.map (tT tl)) (pre.length : Int)) (l.map (tT tl))) ?_ ?_
  · refine evn fun k => ?_
    simp only [spec_l4Terms.l0]
    rw [if_neg (end_not _)]
  · intro pre x suf e ih
    have hp : (pre.map (tT tl)).length < 17592186044416 := by rw [e] at hl; simp at hl ⊢; omega
    refine Ev.step (fun k => spec_l4Terms.l0.eq_2 ..) ?_
    simp only [if_pos (lt_of e), if_pos (len_nonneg _), rd_of e, nx_of e (by omega), l4Term_eq tl x h, Option.bind_some, if_pos hp]
    rw [List.map_append] at ih
    exact ih
theorem renameQ_ev (h : List Int) (d : List S97) (tl : List Int) (hh : h.length ≤ 1048576) (hl : d.length ≤ 1048576) (hs : ∀ x ∈ d, x.f1.length ≤ 1048576) (ht : tl.length ≤ 1048576) :
    Ev (fun k => spec_RenameQuery.f k h d tl) (h.map (tT tl), d.map (tA tl)) := by
  unfold spec_RenameQuery.f
  refine evb (l4Terms_ev h tl hh ht) ?_
  refine idx_ind d (fun pre suf => Ev (fun k => spec_RenameQuery.l0 k tl (pre.length : Int) h d (h.map (tT tl)) (pre.map (tA tl))) (h.map (tT tl), d.map (tA tl))) ?_ ?_
  · refine evn fun k => ?_
    simp only [spec_RenameQuery.l0]
    rw [if_neg (end_not _)]
  · intro pre x suf e ih
    have hx : x.f1.length ≤ 1048576 := hs x (by rw [e]; simp)
    have hp : (pre.map (tA tl)).length < 4398046511104 := by rw [e] at hl; simp at hl ⊢; omega
    refine Ev.step (fun k => spec_RenameQuery.l0.eq_2 ..) ?_
    simp only [if_pos (lt_of e), if_pos (len_nonneg _), rdIA_of e, nx_of e (by omega)]
    refine evb (l4Terms_ev x.f1 tl hx ht) ?_
    simp only [if_pos hp]
    rw [List.map_append] at ih
    exact ih
theorem within_eq (x lo hi : Int) : impl_within.f x lo hi = some (decide (lo ≤ x ∧ x ≤ hi)) := by
  unfold impl_within.f
  by_cases h : x ≥ lo
  · rw [if_pos h]; congr 1; simp; omega
  · rw [if_neg h]; congr 1; simp; omega
theorem specSchema_ev (l : List Int) (h : l.length ≤ 140737488355328) : Ev (fun k => spec_IsSchema.f k l) (mIsSchema l) := by
  have key := idx_ind l (fun pre suf => Ev (fun k => spec_IsSchema.l0 k (pre.length : Int) l) (suf.all (fun n => decide (1 ≤ n ∧ n ≤ 3)) && decide (1 ≤ (l.length : Int) ∧ (l.length : Int) ≤ 4))) ?_ ?_
  · exact key
  · refine evn fun k => ?_
    simp only [spec_IsSchema.l0]
    rw [if_neg (end_not _), l1In_eq]
    simp
  · intro pre a suf e ih
    by_cases hp : 1 ≤ a ∧ a ≤ 3
    · have ht : ((a :: suf).all (fun n => decide (1 ≤ n ∧ n ≤ 3)) && decide (1 ≤ (l.length : Int) ∧ (l.length : Int) ≤ 4)) = (suf.all (fun n => decide (1 ≤ n ∧ n ≤ 3)) && decide (1 ≤ (l.length : Int) ∧ (l.length : Int) ≤ 4)) := by simp [hp]
      rw [ht]
      refine Ev.step (fun k => ?_) ih
      simp only [spec_IsSchema.l0]
      rw [if_pos (lt_of e), if_pos (len_nonneg _), rd_of e, l1In_eq, nx_of e h]
      simp [hp]
    · have ht : ((a :: suf).all (fun n => decide (1 ≤ n ∧ n ≤ 3)) && decide (1 ≤ (l.length : Int) ∧ (l.length : Int) ≤ 4)) = false := by simp [hp]
      rw [ht]
      refine evn fun k => ?_
      simp only [spec_IsSchema.l0]
      rw [if_pos (lt_of e), if_pos (len_nonneg _), rd_of e, l1In_eq]
      simp [hp]
theorem implSchema_ev (l : List Int) (h : l.length ≤ 140737488355328) : Ev (fun k => impl_IsSchema.f k l) (mIsSchema l) := by
  have key := idx_ind l (fun pre suf => Ev (fun k => impl_IsSchema.l0 k l (l.length : Int) (pre.length : Int) l) (suf.all (fun n => decide (1 ≤ n ∧ n ≤ 3)) && decide (1 ≤ (l.length : Int) ∧ (l.length : Int) ≤ 4))) ?_ ?_
  · exact key
  · refine evn fun k => ?_
    simp only [impl_IsSchema.l0]
    rw [if_neg (end_not _), within_eq]
    simp
  · intro pre a suf e ih
    by_cases hp : 1 ≤ a ∧ a ≤ 3
    · have ht : ((a :: suf).all (fun n => decide (1 ≤ n ∧ n ≤ 3)) && decide (1 ≤ (l.length : Int) ∧ (l.length : Int) ≤ 4)) = (suf.all (fun n => decide (1 ≤ n ∧ n ≤ 3)) && decide (1 ≤ (l.length : Int) ∧ (l.length : Int) ≤ 4)) := by simp [hp]
      rw [ht]
      refine Ev.step (fun k => ?_) ih
      simp only [impl_IsSchema.l0]
      rw [if_pos (lt_of e), if_pos (len_nonneg _), if_pos (lt_of e), rd_of e, within_eq, nx_of e h]
      simp [hp]
    · have ht : ((a :: suf).all (fun n => decide (1 ≤ n ∧ n ≤ 3)) && decide (1 ≤ (l.length : Int) ∧ (l.length : Int) ≤ 4)) = false := by simp [hp]
      rw [ht]
      refine evn fun k => ?_
      simp only [impl_IsSchema.l0]
      rw [if_pos (lt_of e), if_pos (len_nonneg _), if_pos (lt_of e), rd_of e, within_eq]
      simp [hp]
theorem specIsVar_eq (t : Int) : spec_IsVar.f t = some (mIsVar t) := by
  simp [spec_IsVar.f, l1In_eq, mIsVar]
theorem specConstOf_eq (t : Int) : spec_ConstOf.f t = some (mConstOf t) := by
  unfold spec_ConstOf.f mConstOf
  simp only [l1In_eq, Option.bind_some]
  by_cases h : -80 ≤ t ∧ t ≤ -1
  · simp only [h, and_self, decide_true, if_true]; rw [w64 (by omega) (by omega)]
  · simp only [h, decide_false, Bool.false_eq_true, if_false]
theorem specIsTerm_eq (t : Int) : spec_IsTerm.f t = some (mIsTerm t) := by
  unfold spec_IsTerm.f
  simp only [specIsVar_eq, specConstOf_eq, Option.bind_some]
  unfold mIsVar mIsTerm mConstOf
  by_cases h : 0 ≤ t ∧ t ≤ 19
  · rw [if_pos (by simpa using h)]; congr 1; simp; omega
  · rw [if_neg (by simpa using h)]; congr 1
    by_cases h2 : -80 ≤ t ∧ t ≤ -1
    · rw [if_pos h2, decide_eq_true (by omega), decide_eq_true (by omega)]
    · rw [if_neg h2, decide_eq_false (by omega), decide_eq_false (by omega)]
theorem l3Terms_ev (l : List Int) (h : l.length ≤ 140737488355328) : Ev (fun k => spec_l3Terms.f k l) (l.all mIsTerm && decide ((l.length : Int) ≤ 3)) := by
  refine idx_ind l (fun pre suf => Ev (fun k => spec_l3Terms.l0 k l (pre.length : Int)) (suf.all mIsTerm && decide ((l.length : Int) ≤ 3))) ?_ ?_
  · refine evn fun k => ?_
    simp only [spec_l3Terms.l0]
    rw [if_neg (end_not _)]; rfl
  · intro pre a suf e ih
    by_cases hp : mIsTerm a = true
    · rw [show (a :: suf).all mIsTerm = suf.all mIsTerm by simp [hp]]
      refine Ev.step (fun k => ?_) ih
      simp only [spec_l3Terms.l0]
      rw [if_pos (lt_of e), if_pos (len_nonneg _), rd_of e, specIsTerm_eq, nx_of e h]
      simp [hp]
    · rw [show ((a :: suf).all mIsTerm && decide ((l.length : Int) ≤ 3)) = false by simp [hp]]
      refine evn fun k => ?_
      simp only [spec_l3Terms.l0]
      rw [if_pos (lt_of e), if_pos (len_nonneg _), rd_of e, specIsTerm_eq]
      simp [hp]
theorem implIsTerm_eq (t : Int) : impl_IsTerm.f t = some (mIsTerm t) := by
  simp [impl_IsTerm.f, within_eq, mIsTerm]
theorem areTerms_ev (l : List Int) (h : l.length ≤ 140737488355328) : Ev (fun k => impl_areTerms.f k l) (l.all mIsTerm) := by
  refine idx_ind l (fun pre suf => Ev (fun k => impl_areTerms.l0 k l (l.length : Int) (pre.length : Int)) (suf.all mIsTerm)) ?_ ?_
  · refine evn fun k => ?_
    simp only [impl_areTerms.l0]
    rw [if_neg (end_not _)]; rfl
  · intro pre a suf e ih
    by_cases hp : mIsTerm a = true
    · rw [show (a :: suf).all mIsTerm = suf.all mIsTerm by simp [hp]]
      refine Ev.step (fun k => ?_) ih
      simp only [impl_areTerms.l0]
      rw [if_pos (lt_of e), if_pos (len_nonneg _), if_pos (lt_of e), rd_of e, implIsTerm_eq, nx_of e h]
      simp [hp]
    · rw [show (a :: suf).all mIsTerm = false by simp [hp]]
      refine evn fun k => ?_
      simp only [impl_areTerms.l0]
      rw [if_pos (lt_of e), if_pos (len_nonneg _), if_pos (lt_of e), rd_of e, implIsTerm_eq]
      simp [hp]
theorem implTakes_ev (s : List Int) (r n : Int) (hs : s.length ≤ 140737488355328) : Ev (fun k => impl_Schema_takes.f k s r n) (mTakes s r n) := by
  unfold impl_Schema_takes.f mTakes
  refine evb (implSchema_ev s hs) ?_
  by_cases c1 : mIsSchema s = true
  · simp only [c1, if_true, within_eq, Option.bind_some]
    rw [w64 (by omega) (by omega)]
    by_cases c2 : 0 ≤ r ∧ r < (s.length : Int)
    · have c2' : 0 ≤ r ∧ r ≤ (s.length : Int) - 1 := by omega
      rw [show decide (0 ≤ r ∧ r < (s.length : Int)) = true from decide_eq_true c2]
      simp only [c2', and_self, decide_true, if_true, if_pos c2.1, if_pos c2.2]
      refine evc fun k => ?_
      simp only [Bool.true_and]
      rfl
    · have c2' : ¬ (0 ≤ r ∧ r ≤ (s.length : Int) - 1) := by omega
      simp only [c2', decide_false, Bool.false_eq_true, if_false]
      refine evc fun k => ?_
      rw [show decide (0 ≤ r ∧ r < (s.length : Int)) = false from decide_eq_false c2]
      simp
  · simp only [if_neg c1]
    refine evc fun k => ?_
    rw [show mIsSchema s = false by simpa using c1]
    simp
theorem implIsAtom_ev (s : List Int) (r : Int) (l : List Int) (hs : s.length ≤ 140737488355328) (h : l.length ≤ 140737488355328) : Ev (fun k => impl_IsAtom.f k s r l) (mIsAtom s r l) := by
  unfold impl_IsAtom.f mIsAtom
  refine evb (implTakes_ev s r _ hs) ?_
  by_cases c : mTakes s r (l.length : Int) = true
  · simp only [c, if_true, Bool.true_and]
    refine evb (areTerms_ev l h) ?_
    exact evc fun k => rfl
  · simp only [if_neg c]
    refine evc fun k => ?_
    rw [show mTakes s r (l.length : Int) = false by simpa using c]
    simp
theorem specIsAtom_ev (s : List Int) (r : Int) (l : List Int) (hs : s.length ≤ 140737488355328) (h : l.length ≤ 140737488355328) : Ev (fun k => spec_IsAtom.f k s r l) (mIsAtom s r l) := by
  unfold spec_IsAtom.f mIsAtom mTakes
  refine evb (specSchema_ev s hs) ?_
  by_cases c1 : mIsSchema s = true
  · simp only [c1, if_true, l1In_eq, Option.bind_some]
    rw [w64 (by omega) (by omega)]
    by_cases c2 : 0 ≤ r ∧ r < (s.length : Int)
    · have c2' : 0 ≤ r ∧ r ≤ (s.length : Int) - 1 := by omega
      rw [show decide (0 ≤ r ∧ r < (s.length : Int)) = true from decide_eq_true c2]
      simp only [c2', and_self, decide_true, if_true, if_pos c2.1, if_pos c2.2]
      by_cases c3 : (l.length : Int) = rd s r
      · simp only [if_pos c3]
        refine evb (l3Terms_ev l h) ?_
        refine evc fun k => ?_
        have hb := mIsSchema_rd c1 c2.1 c2.2
        rw [show decide ((l.length : Int) ≤ 3) = true from decide_eq_true (by omega), show decide (rd s r = (l.length : Int)) = true from decide_eq_true c3.symm]
        simp
      · simp only [if_neg c3]
        refine evc fun k => ?_
        rw [show decide (rd s r = (l.length : Int)) = false from decide_eq_false (fun h => c3 h.symm)]
        simp
    · have c2' : ¬ (0 ≤ r ∧ r ≤ (s.length : Int) - 1) := by omega
      simp only [c2', decide_false, Bool.false_eq_true, if_false]
      refine evc fun k => ?_
      rw [show decide (0 ≤ r ∧ r < (s.length : Int)) = false from decide_eq_false c2]
      simp
  · simp only [if_neg c1]
    refine evc fun k => ?_
    rw [show mIsSchema s = false by simpa using c1]
    simp
theorem l2Has_ev (l : List Int) (t : Int) (h : l.length ≤ 140737488355328) : Ev (fun k => spec_l2Has.f k l t) (decide (t ∈ l)) := by
  refine idx_ind l (fun pre suf => Ev (fun k => spec_l2Has.l0 k l t (pre.length : Int)) (decide (t ∈ suf))) ?_ ?_
  · refine evn fun k => ?_
    simp only [spec_l2Has.l0]
    rw [if_neg (end_not _)]; simp
  · intro pre a suf e ih
    by_cases hc : a = t
    · rw [show decide (t ∈ a :: suf) = true by simp [hc]]
      refine evn fun k => ?_
      simp only [spec_l2Has.l0]
      rw [if_pos (lt_of e), if_pos (len_nonneg _), rd_of e, if_pos hc]
    · rw [show decide (t ∈ a :: suf) = decide (t ∈ suf) by simp [Ne.symm hc]]
      refine Ev.step (fun k => ?_) ih
      simp only [spec_l2Has.l0]
      rw [if_pos (lt_of e), if_pos (len_nonneg _), rd_of e, if_neg hc, nx_of e h]
def mBV (acc : List Int) (args : List Int) : List Int := args.foldl (fun acc t => if t ≥ 0 ∧ ¬ t ∈ acc then acc ++ [t] else acc) acc
theorem mBV_cons (acc : List Int) (t : Int) (r : List Int) : mBV acc (t :: r) = mBV (if t ≥ 0 ∧ ¬ t ∈ acc then acc ++ [t] else acc) r := rfl
theorem mBV_len : ∀ (args acc : List Int), (mBV acc args).length ≤ acc.length + args.length
  | [], acc => by simp [mBV]
  | t :: r, acc => by
    rw [mBV_cons]
    have h := mBV_len r (if t ≥ 0 ∧ ¬ t ∈ acc then acc ++ [t] else acc)
    by_cases hc : t ≥ 0 ∧ ¬ t ∈ acc
    · rw [if_pos hc] at h ⊢; simp at h ⊢; omega
    · rw [if_neg hc] at h ⊢; simp at h ⊢; omega
theorem mBV_mem : ∀ (args acc : List Int) (x : Int), x ∈ mBV acc args ↔ x ∈ acc ∨ (x ≥ 0 ∧ x ∈ args)
  | [], acc, x => by simp [mBV]
  | t :: r, acc, x => by
    rw [mBV_cons, mBV_mem r]
    by_cases hc : t ≥ 0 ∧ ¬ t ∈ acc
    · rw [if_pos hc]
      simp only [List.mem_append, List.mem_cons, List.not_mem_nil, or_false]
      constructor
      · rintro ((h | h) | h)
        · exact .inl h
        · exact .inr ⟨h ▸ hc.1, .inl h⟩
        · exact .inr ⟨h.1, .inr h.2⟩
      · rintro (h | ⟨h1, h | h⟩)
        · exact .inl (.inl h)
        · exact .inl (.inr h)
        · exact .inr ⟨h1, h⟩
    · rw [if_neg hc]
      simp only [List.mem_cons]
      constructor
      · rintro (h | h)
        · exact .inl h
        · exact .inr ⟨h.1, .inr h.2⟩
      · rintro (h | ⟨h1, h | h⟩)
        · exact .inl h
        · subst h
          rcases Decidable.em (x ∈ acc) with hm | hm
          · exact .inl hm
          · exact absurd ⟨h1, hm⟩ hc
        · exact .inr ⟨h1, h⟩
def mVars (d : List S97) (acc : List Int) : List Int := d.foldl (fun acc a => mBV acc a.f1) acc
theorem mVars_mem : ∀ (d : List S97) (acc : List Int) (x : Int), x ∈ mVars d acc ↔ x ∈ acc ∨ (x ≥ 0 ∧ ∃ a ∈ d, x ∈ a.f1)
  | [], acc, x => by simp [mVars]
  | a :: t, acc, x => by
    rw [show mVars (a :: t) acc = mVars t (mBV acc a.f1) from rfl, mVars_mem t, mBV_mem]
    simp only [List.mem_cons, exists_eq_or_imp]
    constructor
    · rintro ((h | h) | h)
      · exact .inl h
      · exact .inr ⟨h.1, .inl h.2⟩
      · exact .inr ⟨h.1, .inr h.2⟩
    · rintro (h | ⟨h1, h | h⟩)
      · exact .inl (.inl h)
      · exact .inl (.inr ⟨h1, h⟩)
      · exact .inr ⟨h1, h⟩
theorem mVars_len : ∀ (d : List S97) (acc : List Int), (∀ x ∈ d, x.f1.length ≤ 1048576) → (mVars d acc).length ≤ acc.length + d.length * 1048576
  | [], acc, _ => by simp [mVars]
  | a :: t, acc, h => by
    rw [show mVars (a :: t) acc = mVars t (mBV acc a.f1) from rfl]
    have h1 := mVars_len t (mBV acc a.f1) (fun x hx => h x (List.mem_cons_of_mem _ hx))
    have h2 := mBV_len a.f1 acc
    have h3 := h a List.mem_cons_self
    simp only [List.length_cons, Nat.add_mul]
    omega
theorem bodyVars_l1 (hh : List Int) (d : List S97) (i : Int) (x : S97) (R : List Int) (h0 : 0 ≤ i) (h1 : i < (d.length : Int)) (hx : rd_T97 d i = x) (hxl : x.f1.length ≤ 1048576) (hi : i ≤ 1048576) :
    ∀ (acc : List Int), acc.length ≤ 1099511627776 → (Ev (fun k => spec_l4BodyVars.l0 k (mBV acc x.f1) (i + 1) hh d) R) → Ev (fun k => spec_l4BodyVars.l1 k acc i 0 hh d) R := by
  intro acc hacc hend
  have key := idx_ind x.f1 (fun pre suf => ∀ a2 : List Int, a2.length + suf.length ≤ 1099512676352 → mBV a2 suf = mBV acc x.f1 → Ev (fun k => spec_l4BodyVars.l1 k a2 i (pre.length : Int) hh d) R) ?_ ?_
  · exact key acc (by omega) rfl
  · intro a2 h2 e2
    have e3 : a2 = mBV acc x.f1 := e2
    rw [e3]
    refine Ev.step (fun k => ?_) hend
    simp only [spec_l4BodyVars.l1]
    rw [if_pos h0, if_pos h1, hx, if_neg (end_not _), w64 (by omega) (by omega)]
  · intro pre t suf e ih a2 h2 e2
    have hp := lt_of e
    rw [mBV_cons] at e2
    have hl2 : a2.length < 17592186044416 := by simp at h2; omega
    by_cases ht : t ≥ 0
    · refine Ev.step (f := fun k => (spec_l2Has.f k a2 t).bind fun b => if b = true then spec_l4BodyVars.l1 k a2 i ((pre ++ [t]).length : Int) hh d else (if a2.length < 17592186044416 then spec_l4BodyVars.l1 k (a2 ++ [t]) i ((pre ++ [t]).length : Int) hh d else none)) (fun k => ?_) ?_
      · simp only [spec_l4BodyVars.l1]
        rw [if_pos h0, if_pos h1, hx, if_pos hp, if_pos (len_nonneg _), rd_of e, if_pos ht, nx_of e (by omega)]
      · refine evb (l2Has_ev a2 t (by omega)) ?_
        by_cases hm : t ∈ a2
        · simp only [hm, decide_true, if_true]
          rw [if_neg (fun h => h.2 hm)] at e2
          exact ih a2 (by simp at h2; omega) e2
        · simp only [hm, decide_false, Bool.false_eq_true, if_false, if_pos hl2]
          rw [if_pos ⟨ht, hm⟩] at e2
          exact ih (a2 ++ [t]) (by simp at h2 ⊢; omega) e2
    · rw [if_neg (fun h => ht h.1)] at e2
      refine Ev.step (fun k => ?_) (ih a2 (by simp at h2; omega) e2)
      simp only [spec_l4BodyVars.l1]
      rw [if_pos h0, if_pos h1, hx, if_pos hp, if_pos (len_nonneg _), rd_of e, if_neg ht, nx_of e (by omega)]
theorem bodyVars_ev (hh : List Int) (d : List S97) (hl : d.length ≤ 1048576) (hs : ∀ x ∈ d, x.f1.length ≤ 1048576) : Ev (fun k => spec_l4BodyVars.f k hh d) (mVars d []) := by
  have key := idx_ind d (fun pre suf => ∀ acc : List Int, acc.length ≤ pre.length * 1048576 → mVars suf acc = mVars d [] → Ev (fun k => spec_l4BodyVars.l0 k acc (pre.length : Int) hh d) (mVars d [])) ?_ ?_
  · exact key [] (by simp) rfl
  · intro acc ha e
    have e2 : acc = mVars d [] := e
    rw [← e2]
    refine evn fun k => ?_
    simp only [spec_l4BodyVars.l0]
    rw [if_neg (end_not _)]
  · intro pre x suf e ih acc ha e2
    have hx : x.f1.length ≤ 1048576 := hs x (by rw [e]; simp)
    have hp : pre.length < 1048576 := by rw [e] at hl; simp at hl; omega
    have hb := mBV_len x.f1 acc
    have r := ih (mBV acc x.f1) (by simp only [List.length_append, List.length_singleton, Nat.add_mul]; omega) e2
    have ei : ((pre ++ [x]).length : Int) = (pre.length : Int) + 1 := by simp
    rw [ei] at r
    refine Ev.step (fun k => ?_) (bodyVars_l1 hh d (pre.length : Int) x (mVars d []) (len_nonneg _) (lt_of e) (rdIA_of e) hx (by omega) acc (by omega) r)
    simp only [spec_l4BodyVars.l0]
    rw [if_pos (lt_of e)]
theorem slContains_ev (l : List Int) (t : Int) (h : l.length ≤ 140737488355328) : Ev (fun k => slices_Contains_int_int.f k l t) (decide (t ∈ l)) := by
  have key : ∃ j : Int, Ev (fun k => slices_Index_int_int.f k l t) j ∧ (j ≥ 0 ↔ t ∈ l) := by
    refine idx_ind l (fun pre suf => ∃ j : Int, Ev (fun k => slices_Index_int_int.l0 k l t (l.length : Int) (pre.length : Int)) j ∧ (j ≥ 0 ↔ t ∈ suf)) ?_ ?_
    · refine ⟨-1, evn fun k => ?_, by simp⟩
      simp only [slices_Index_int_int.l0]
      rw [if_neg (end_not _)]
    · intro pre a suf e ih
      by_cases hc : t = a
      · refine ⟨(pre.length : Int), evn fun k => ?_, by simp [hc]⟩
        simp only [slices_Index_int_int.l0]
        rw [if_pos (lt_of e), if_pos (len_nonneg _), if_pos (lt_of e), rd_of e, if_pos hc]
      · obtain ⟨j, z, hj⟩ := ih
        refine ⟨j, Ev.step (fun k => ?_) z, by rw [hj]; simp [hc]⟩
        simp only [slices_Index_int_int.l0]
        rw [if_pos (lt_of e), if_pos (len_nonneg _), if_pos (lt_of e), rd_of e, if_neg hc, nx_of e h]
  obtain ⟨j, z, hj⟩ := key
  unfold slices_Contains_int_int.f
  refine evb z ?_
  refine evc fun k => ?_
  by_cases hm : t ∈ l
  · rw [decide_eq_true hm, decide_eq_true (hj.2 hm)]
  · rw [decide_eq_false hm, decide_eq_false (fun h => hm (hj.1 h))]
def mOcc (d : List S97) (t : Int) : Bool := d.any (fun a => decide (t ∈ a.f1))
theorem occurs_ev (hh : List Int) (d : List S97) (t : Int) (hl : d.length ≤ 1048576) (hs : ∀ x ∈ d, x.f1.length ≤ 1048576) : Ev (fun k => impl_Query_occurs.f k hh d t) (mOcc d t) := by
  refine idx_ind d (fun pre suf => Ev (fun k => impl_Query_occurs.l0 k t d (d.length : Int) (pre.length : Int)) (mOcc suf t)) ?_ ?_
  · refine evn fun k => ?_
    simp only [impl_Query_occurs.l0]
    rw [if_neg (end_not _)]; rfl
  · intro pre x suf e ih
    have hx : x.f1.length ≤ 1048576 := hs x (by rw [e]; simp)
    refine Ev.step (f := fun k => (slices_Contains_int_int.f k x.f1 t).bind fun b => if b = true then some true else impl_Query_occurs.l0 k t d (d.length : Int) ((pre ++ [x]).length : Int)) (fun k => ?_) ?_
    · simp only [impl_Query_occurs.l0]
      rw [if_pos (lt_of e), if_pos (len_nonneg _), if_pos (lt_of e), rdIA_of e, nx_of e (by omega)]
    · refine evb (slContains_ev x.f1 t (by omega)) ?_
      by_cases hm : t ∈ x.f1
      · simp only [hm, decide_true, if_true]
        rw [show mOcc (x :: suf) t = true by simp [mOcc, hm]]
        exact evc fun k => rfl
      · simp only [hm, decide_false, Bool.false_eq_true, if_false]
        rw [show mOcc (x :: suf) t = mOcc suf t by simp [mOcc, hm]]
        exact ih
theorem mVars_occ (d : List S97) (t : Int) (h : 0 ≤ t) : decide (t ∈ mVars d []) = mOcc d t := by
  rw [Bool.eq_iff_iff]
  simp only [decide_eq_true_eq, mVars_mem, mOcc, List.any_eq_true]
  simp [h]
def mSafe (h : List Int) (d : List S97) : Bool := h.all (fun t => !mIsVar t || mOcc d t)
def mIsQuery (s h : List Int) (d : List S97) : Bool :=
  mIsSchema s && (decide ((h.length : Int) ≤ 3) && h.all mIsTerm) && decide (1 ≤ (d.length : Int) ∧ (d.length : Int) ≤ 4) && d.all (fun a => mIsAtom s a.f0 a.f1) && mSafe h d
theorem implIsVar_eq2 (t : Int) : impl_IsVar.f t = some (mIsVar t) := by
  simp [impl_IsVar.f, within_eq, mIsVar]
theorem isSafe_ev (h : List Int) (d : List S97) (hh : h.length ≤ 1048576) (hl : d.length ≤ 1048576) (hs : ∀ x ∈ d, x.f1.length ≤ 1048576) : Ev (fun k => impl_Query_isSafe.f k h d) (mSafe h d) := by
  refine idx_ind h (fun pre suf => Ev (fun k => impl_Query_isSafe.l0 k h (h.length : Int) (pre.length : Int) h d) (suf.all (fun t => !mIsVar t || mOcc d t))) ?_ ?_
  · refine evn fun k => ?_
    simp only [impl_Query_isSafe.l0]
    rw [if_neg (end_not _)]; rfl
  · intro pre t suf e ih
    by_cases hv : mIsVar t = true
    · refine Ev.step (f := fun k => (impl_Query_occurs.f k h d t).bind fun b => if b = true then impl_Query_isSafe.l0 k h (h.length : Int) ((pre ++ [t]).length : Int) h d else some false) (fun k => ?_) ?_
      · simp only [impl_Query_isSafe.l0]
        rw [if_pos (lt_of e), if_pos (len_nonneg _), if_pos (lt_of e), rd_of e, nx_of e (by omega), implIsVar_eq2]
        simp only [Option.bind_some]
        rw [if_pos hv]
      · refine evb (occurs_ev h d t hl hs) ?_
        by_cases ho : mOcc d t = true
        · simp only [ho, if_true]
          rw [show (t :: suf).all (fun t => !mIsVar t || mOcc d t) = suf.all (fun t => !mIsVar t || mOcc d t) by simp [ho]]
          exact ih
        · simp only [if_neg ho]
          rw [show (t :: suf).all (fun t => !mIsVar t || mOcc d t) = false by simp [hv, ho]]
          exact evc fun k => rfl
    · rw [show (t :: suf).all (fun t => !mIsVar t || mOcc d t) = suf.all (fun t => !mIsVar t || mOcc d t) by simp [hv]]
      refine Ev.step (fun k => ?_) ih
      simp only [impl_Query_isSafe.l0]
      rw [if_pos (lt_of e), if_pos (len_nonneg _), if_pos (lt_of e), rd_of e, nx_of e (by omega), implIsVar_eq2]
      simp only [Option.bind_some]
      rw [if_neg hv]
theorem implIsQuery_ev (s h : List Int) (d : List S97) (hsl : s.length ≤ 1048576) (hh : h.length ≤ 1048576) (hl : d.length ≤ 1048576) (hs : ∀ x ∈ d, x.f1.length ≤ 1048576) : Ev (fun k => impl_IsQuery.f k s h d) (mIsQuery s h d) := by
  unfold impl_IsQuery.f mIsQuery
  have jt : Ev (fun k => impl_IsQuery.j0 k true s h d) false := evn fun k => by simp only [impl_IsQuery.j0]; rw [if_pos trivial]
  refine evb (implSchema_ev s (by omega)) ?_
  by_cases c1 : mIsSchema s = true
  · simp only [c1, if_true, Bool.true_and]
    by_cases c2 : (h.length : Int) > 3
    · simp only [if_pos c2]
      rw [show decide ((h.length : Int) ≤ 3) = false from decide_eq_false (by omega)]
      simpa using jt
    · simp only [if_neg c2]
      rw [show decide ((h.length : Int) ≤ 3) = true from decide_eq_true (by omega)]
      refine evb (areTerms_ev h (by omega)) ?_
      by_cases c3 : h.all mIsTerm = true
      · simp only [c3, if_true, Bool.true_and, within_eq, Option.bind_some]
        by_cases c4 : 1 ≤ (d.length : Int) ∧ (d.length : Int) ≤ 4
        · rw [show decide (1 ≤ (d.length : Int) ∧ (d.length : Int) ≤ 4) = true from decide_eq_true c4]
          simp only [Bool.not_true, Bool.true_and]
          refine Ev.step (f := fun k => impl_IsQuery.l0 k d (d.length : Int) 0 s h d) (fun k => ?_) ?_
          · simp only [impl_IsQuery.j0]
            rw [if_neg (by simp)]
          · refine idx_ind d (fun pre suf => Ev (fun k => impl_IsQuery.l0 k d (d.length : Int) (pre.length : Int) s h d) (suf.all (fun a => mIsAtom s a.f0 a.f1) && mSafe h d)) ?_ ?_
            · refine Ev.step (f := fun k => (impl_Query_isSafe.f k h d).bind fun b => some b) (fun k => ?_) ?_
              · simp only [impl_IsQuery.l0]
                rw [if_neg (end_not _)]
              · exact evb (isSafe_ev h d hh hl hs) (evc fun k => rfl)
            · intro pre x suf e ih
              have hx : x.f1.length ≤ 1048576 := hs x (by rw [e]; simp)
              refine Ev.step (f := fun k => (impl_IsAtom.f k s x.f0 x.f1).bind fun b => if b = true then impl_IsQuery.l0 k d (d.length : Int) ((pre ++ [x]).length : Int) s h d else some false) (fun k => ?_) ?_
              · simp only [impl_IsQuery.l0]
                rw [if_pos (lt_of e), if_pos (len_nonneg _), if_pos (lt_of e), rdIA_of e, nx_of e (by omega)]
              · refine evb (implIsAtom_ev s x.f0 x.f1 (by omega) (by omega)) ?_
                by_cases ha : mIsAtom s x.f0 x.f1 = true
                · simp only [ha, if_true]
                  rw [show ((x :: suf).all (fun a => mIsAtom s a.f0 a.f1)) = suf.all (fun a => mIsAtom s a.f0 a.f1) by simp [ha]]
                  exact ih
                · simp only [if_neg ha]
                  rw [show ((x :: suf).all (fun a => mIsAtom s a.f0 a.f1)) = false by simp [ha]]
                  exact evc fun k => rfl
        · rw [show decide (1 ≤ (d.length : Int) ∧ (d.length : Int) ≤ 4) = false from decide_eq_false c4]
          simpa using jt
      · simp only [if_neg c3]
        rw [show h.all mIsTerm = false by simpa using c3]
        simpa using jt
  · simp only [if_neg c1]
    rw [show mIsSchema s = false by simpa using c1]
    simpa using jt
theorem fine_l1 (h : List Int) (d : List S97) (hh : h.length ≤ 1048576) (hl : d.length ≤ 1048576) (hs : ∀ x ∈ d, x.f1.length ≤ 1048576) : Ev (fun k => spec_l4Fine.l1 k 0 h d) (mSafe h d) := by
  refine idx_ind h (fun pre suf => Ev (fun k => spec_l4Fine.l1 k (pre.length : Int) h d) (suf.all (fun t => !mIsVar t || mOcc d t))) ?_ ?_
  · refine evn fun k => ?_
    simp only [spec_l4Fine.l1]
    rw [if_neg (end_not _)]; rfl
  · intro pre t suf e ih
    by_cases hv : mIsVar t = true
    · have ht : 0 ≤ t := by simp [mIsVar] at hv; omega
      refine Ev.step (f := fun k => (spec_l4BodyVars.f k h d).bind fun v => (spec_l2Has.f k v t).bind fun b => if b = true then spec_l4Fine.l1 k ((pre ++ [t]).length : Int) h d else some false) (fun k => ?_) ?_
      · simp only [spec_l4Fine.l1]
        rw [if_pos (lt_of e), if_pos (len_nonneg _), rd_of e, nx_of e (by omega), specIsVar_eq]
        simp only [Option.bind_some]
        rw [if_pos hv]
      · refine evb (bodyVars_ev h d hl hs) ?_
        have hvl := mVars_len d [] hs
        refine evb (l2Has_ev (mVars d []) t (by simp at hvl; omega)) ?_
        rw [mVars_occ d t ht]
        by_cases ho : mOcc d t = true
        · simp only [ho, if_true]
          rw [show (t :: suf).all (fun t => !mIsVar t || mOcc d t) = suf.all (fun t => !mIsVar t || mOcc d t) by simp [ho]]
          exact ih
        · simp only [if_neg ho]
          rw [show (t :: suf).all (fun t => !mIsVar t || mOcc d t) = false by simp [hv, ho]]
          exact evc fun k => rfl
    · rw [show (t :: suf).all (fun t => !mIsVar t || mOcc d t) = suf.all (fun t => !mIsVar t || mOcc d t) by simp [hv]]
      refine Ev.step (fun k => ?_) ih
      simp only [spec_l4Fine.l1]
      rw [if_pos (lt_of e), if_pos (len_nonneg _), rd_of e, nx_of e (by omega), specIsVar_eq]
      simp only [Option.bind_some]
      rw [if_neg hv]
theorem specIsQuery_ev (s h : List Int) (d : List S97) (hsl : s.length ≤ 1048576) (hh : h.length ≤ 1048576) (hl : d.length ≤ 1048576) (hs : ∀ x ∈ d, x.f1.length ≤ 1048576) : Ev (fun k => spec_IsQuery.f k s h d) (mIsQuery s h d) := by
  unfold spec_IsQuery.f
  refine evb (f := fun _ t => some t) ?_ (evc fun k => rfl)
  unfold spec_l4Fine.f mIsQuery
  have jt : Ev (fun k => spec_l4Fine.j0 k true s h d) false := evn fun k => by simp only [spec_l4Fine.j0]; rw [if_pos trivial]
  refine evb (specSchema_ev s (by omega)) ?_
  by_cases c1 : mIsSchema s = true
  · simp only [c1, if_true, Bool.true_and]
    refine evb (l3Terms_ev h (by omega)) ?_
    by_cases c3 : (h.all mIsTerm && decide ((h.length : Int) ≤ 3)) = true
    · rw [show (decide ((h.length : Int) ≤ 3) && h.all mIsTerm) = true by rw [Bool.and_comm]; exact c3]
      simp only [c3, if_true, Bool.true_and, l1In_eq, Option.bind_some]
      by_cases c4 : 1 ≤ (d.length : Int) ∧ (d.length : Int) ≤ 4
      · rw [show decide (1 ≤ (d.length : Int) ∧ (d.length : Int) ≤ 4) = true from decide_eq_true c4]
        simp only [Bool.not_true, Bool.true_and]
        refine Ev.step (f := fun k => spec_l4Fine.l0 k 0 s h d) (fun k => ?_) ?_
        · simp only [spec_l4Fine.j0]
          rw [if_neg (by simp)]
        · refine idx_ind d (fun pre suf => Ev (fun k => spec_l4Fine.l0 k (pre.length : Int) s h d) (suf.all (fun a => mIsAtom s a.f0 a.f1) && mSafe h d)) ?_ ?_
          · refine Ev.step (fun k => ?_) (fine_l1 h d hh hl hs)
            simp only [spec_l4Fine.l0]
            rw [if_neg (end_not _)]
          · intro pre x suf e ih
            have hx : x.f1.length ≤ 1048576 := hs x (by rw [e]; simp)
            refine Ev.step (f := fun k => (spec_IsAtom.f k s x.f0 x.f1).bind fun b => if b = true then spec_l4Fine.l0 k ((pre ++ [x]).length : Int) s h d else some false) (fun k => ?_) ?_
            · simp only [spec_l4Fine.l0]
              rw [if_pos (lt_of e), if_pos (len_nonneg _), rdIA_of e, nx_of e (by omega)]
            · refine evb (specIsAtom_ev s x.f0 x.f1 (by omega) (by omega)) ?_
              by_cases ha : mIsAtom s x.f0 x.f1 = true
              · simp only [ha, if_true]
                rw [show ((x :: suf).all (fun a => mIsAtom s a.f0 a.f1)) = suf.all (fun a => mIsAtom s a.f0 a.f1) by simp [ha]]
                exact ih
              · simp only [if_neg ha]
                rw [show ((x :: suf).all (fun a => mIsAtom s a.f0 a.f1)) = false by simp [ha]]
                exact evc fun k => rfl
      · rw [show decide (1 ≤ (d.length : Int) ∧ (d.length : Int) ≤ 4) = false from decide_eq_false c4]
        simpa using jt
    · rw [show (decide ((h.length : Int) ≤ 3) && h.all mIsTerm) = false by rw [Bool.and_comm]; simpa using c3]
      simp only [if_neg c3]
      simpa using jt
  · simp only [if_neg c1]
    rw [show mIsSchema s = false by simpa using c1]
    simpa using jt
theorem l2Ints_ev (l m : List Int) (h : l.length ≤ 140737488355328) : Ev (fun k => spec_l2Ints.f k l m) (decide (l = m)) := by
  by_cases hl : l.length = m.length
  · have key := idx_ind l (fun pre suf => ∀ pre2 suf2, m = pre2 ++ suf2 → pre2.length = pre.length → Ev (fun k => spec_l2Ints.l0 k l m (pre.length : Int)) (decide (suf = suf2))) ?_ ?_
    · have r := key [] m rfl rfl
      refine Ev.congr (fun k => ?_) r
      unfold spec_l2Ints.f
      rw [if_pos (by omega)]
      rfl
    · intro pre2 suf2 e2 hp
      have : suf2 = [] := by
        have := congrArg List.length e2
        simp at this
        exact List.eq_nil_of_length_eq_zero (by omega)
      subst this
      refine evn fun k => ?_
      simp only [spec_l2Ints.l0]
      rw [if_neg (end_not _)]; simp
    · intro pre a suf e ih pre2 suf2 e2 hp
      obtain ⟨b, t2, rfl⟩ : ∃ b t2, suf2 = b :: t2 := by
        cases suf2 with
        | nil => exfalso; have h1 := congrArg List.length e; have h2 := congrArg List.length e2; simp at h1 h2; omega
        | cons b t2 => exact ⟨b, t2, rfl⟩
      have r2 : rd m (pre.length : Int) = b := by rw [← hp]; exact rd_of e2
      have l2 : (pre.length : Int) < (m.length : Int) := by rw [← hp]; exact lt_of e2
      by_cases hab : a = b
      · subst hab
        have r := ih (pre2 ++ [a]) t2 (by rw [e2]; simp) (by simp [hp])
        have ed : decide (a :: suf = a :: t2) = decide (suf = t2) := by simp
        rw [ed]
        refine Ev.step (fun k => ?_) r
        simp only [spec_l2Ints.l0]
        rw [if_pos (lt_of e), if_pos (len_nonneg _), if_pos l2, rd_of e, r2, if_pos rfl, nx_of e h]
      · have ed : decide (a :: suf = b :: t2) = false := by simp [hab]
        rw [ed]
        refine evn fun k => ?_
        simp only [spec_l2Ints.l0]
        rw [if_pos (lt_of e), if_pos (len_nonneg _), if_pos l2, rd_of e, r2, if_neg hab]
  · have e : decide (l = m) = false := by simp; intro h; exact hl (by rw [h])
    rw [e]
    refine evc fun k => ?_
    unfold spec_l2Ints.f
    rw [if_neg (by omega)]
def mSend (m : List Int) (t u : Int) : Option (List Int) := if t < 0 then (if t = u then some m else none) else if rd m t = -1000 then some (m.set t.toNat u) else if rd m t = u then some m else none
def mUni : List Int → List Int → List Int → List Int × Bool
  | t :: ts, u :: us, m => match mSend m t u with
    | some m' => mUni ts us m'
    | none => (m, false)
  | _, _, m => (m, true)
def mTry (d2 : List S97) : List S97 → List Int → Option (List Int)
  | [], m => some m
  | a :: rest, m => d2.findSome? (fun b => if a.f0 = b.f0 ∧ a.f1.length = b.f1.length ∧ (mUni a.f1 b.f1 m).2 = true then mTry d2 rest (mUni a.f1 b.f1 m).1 else none)
def mNone : List Int := List.replicate 20 (-1000)
def mFind (h : List Int) (d : List S97) (h2 : List Int) (d2 : List S97) : List Int × Bool :=
  if h.length = h2.length ∧ (mUni h h2 mNone).2 = true then (match mTry d2 d (mUni h h2 mNone).1 with
    | some m => (m, true)
    | none => ([], false)) else ([], false)
theorem mFind_some {h : List Int} {d : List S97} {h2 : List Int} {d2 : List S97} {m : List Int} (h1 : h.length = h2.length) (hu : (mUni h h2 mNone).2 = true) (ht : mTry d2 d (mUni h h2 mNone).1 = some m) : mFind h d h2 d2 = (m, true) := by
  unfold mFind; rw [if_pos ⟨h1, hu⟩, ht]
theorem mFind_none {h : List Int} {d : List S97} {h2 : List Int} {d2 : List S97} (h1 : h.length = h2.length) (hu : (mUni h h2 mNone).2 = true) (ht : mTry d2 d (mUni h h2 mNone).1 = none) : mFind h d h2 d2 = ([], false) := by
  unfold mFind; rw [if_pos ⟨h1, hu⟩, ht]
def mFindQ (s h : List Int) (d : List S97) (h2 : List Int) (d2 : List S97) : List Int × Bool := if mIsQuery s h d = true ∧ mIsQuery s h2 d2 = true then mFind h d h2 d2 else ([], false)
def okTs (l : List Int) : Prop := ∀ t ∈ l, t < 20
theorem okTs_terms {l : List Int} (h : l.all mIsTerm = true) : okTs l := by
  intro t ht
  have := List.all_eq_true.1 h t ht
  simp [mIsTerm] at this; omega
theorem okQ {s h : List Int} {d : List S97} (hq : mIsQuery s h d = true) : okTs h ∧ (∀ a ∈ d, okTs a.f1) ∧ h.length ≤ 3 ∧ d.length ≤ 4 := by
  unfold mIsQuery at hq
  simp only [Bool.and_eq_true, decide_eq_true_eq] at hq
  obtain ⟨⟨⟨⟨_, h1, h2⟩, h3⟩, h4⟩, _⟩ := hq
  refine ⟨okTs_terms h2, fun a ha => ?_, by omega, by omega⟩
  have := List.all_eq_true.1 h4 a ha
  unfold mIsAtom at this
  simp only [Bool.and_eq_true] at this
  exact okTs_terms this.2
theorem mSend_len {m m' : List Int} {t u : Int} (h : mSend m t u = some m') : m'.length = m.length := by
  unfold mSend at h
  split at h
  · split at h
    · injection h with h; rw [h]
    · cases h
  · split at h
    · injection h with h; rw [← h]; simp
    · split at h
      · injection h with h; rw [h]
      · cases h
theorem mUni_len : ∀ (ts us m : List Int), (mUni ts us m).1.length = m.length
  | [], us, m => by simp [mUni]
  | t :: ts, [], m => by simp [mUni]
  | t :: ts, u :: us, m => by
    simp only [mUni]
    cases e : mSend m t u with
    | none => rfl
    | some m' => simp only []; rw [mUni_len ts us m', mSend_len e]
theorem mTry_len (d2 : List S97) : ∀ (d : List S97) (m r : List Int), mTry d2 d m = some r → r.length = m.length
  | [], m, r, h => by simp only [mTry] at h; injection h with h; rw [h]
  | a :: rest, m, r, h => by
    simp only [mTry] at h
    obtain ⟨b, _, hb⟩ := List.exists_of_findSome?_eq_some h
    split at hb
    · rw [mTry_len d2 rest _ _ hb, mUni_len]
    · cases hb
theorem mNone_len : mNone.length = 20 := rfl
theorem l7Empty_ev : Ev (fun k => spec_l7Empty.f k) mNone := by
  have h : ∀ n : Nat, n ≤ 20 → Ev (fun k => spec_l7Empty.l0 k (List.replicate (20 - n) (-1000)) ((20 - n : Nat) : Int)) mNone := by
    intro n
    induction n with
    | zero => intro _; refine evn fun k => ?_; simp [spec_l7Empty.l0, mNone]
    | succ n ih =>
      intro hn
      refine Ev.step (fun k => ?_) (ih (by omega))
      simp only [spec_l7Empty.l0]
      rw [if_pos (by omega), if_pos (by simp; omega), w64 (by omega) (by omega), ← List.replicate_succ', show 20 - (n + 1) + 1 = 20 - n by omega, show ((20 - (n + 1) : Nat) : Int) + 1 = ((20 - n : Nat) : Int) by omega]
  exact h 20 (Nat.le_refl _)
theorem l7Unify_l0 : ∀ (ts us pre pre2 m : List Int), ts.length = us.length → pre.length = pre2.length → m.length = 20 → okTs ts → (pre ++ ts).length ≤ 1048576 →
    Ev (fun k => spec_l7Unify.l0 k (pre ++ ts) (pre2 ++ us) m (pre.length : Int)) (mUni ts us m)
  | [], us, pre, pre2, m, h1, h2, hm, ho, hl => by
    refine evn fun k => ?_
    simp only [spec_l7Unify.l0, List.append_nil, mUni]
    rw [if_neg (end_not _)]
  | t :: ts, [], pre, pre2, m, h1, h2, hm, ho, hl => by simp at h1
  | t :: ts, u :: us, pre, pre2, m, h1, h2, hm, ho, hl => by
    have ht : t < 20 := ho t List.mem_cons_self
    have hlp : pre.length ≤ 140737488355328 := by simp at hl; omega
    have r := fun m' hm' => l7Unify_l0 ts us (pre ++ [t]) (pre2 ++ [u]) m' (by simpa using h1) (by simpa using h2) hm' (fun x hx => ho x (List.mem_cons_of_mem _ hx)) (by simpa using hl)
    simp only [List.append_assoc, List.singleton_append] at r
    have e1 : (pre.length : Int) < ((pre2 ++ u :: us).length : Int) := by rw [h2]; exact mid_lt _ _ _
    have e2 : rd (pre2 ++ u :: us) (pre.length : Int) = u := by rw [h2]; exact rd_mid _ _ _
    refine Ev.step (fun k => spec_l7Unify.l0.eq_2 ..) ?_
    simp only [if_pos (mid_lt _ _ _), if_pos (len_nonneg _), rd_mid, e2, if_pos e1, iw (a := t) hlp, mUni]
    by_cases c1 : t < 0
    · simp only [if_pos c1]
      by_cases c2 : t = u
      · have es : mSend m t u = some m := by unfold mSend; rw [if_pos c1, if_pos c2]
        simp only [if_pos c2, es]
        exact r m hm
      · have es : mSend m t u = none := by unfold mSend; rw [if_pos c1, if_neg c2]
        simp only [if_neg c2, es]
        exact evc fun k => rfl
    · have c3 : 0 ≤ t := by omega
      have c4 : t < (m.length : Int) := by omega
      simp only [if_neg c1, if_pos c3, if_pos c4]
      by_cases c5 : rd m t = -1000
      · have es : mSend m t u = some (m.set t.toNat u) := by unfold mSend; rw [if_neg c1, if_pos c5]
        simp only [if_pos c5, es]
        exact r _ (by simpa using hm)
      · simp only [if_neg c5]
        by_cases c6 : rd m t = u
        · have es : mSend m t u = some m := by unfold mSend; rw [if_neg c1, if_neg c5, if_pos c6]
          simp only [if_pos c6, es]
          exact r m hm
        · have es : mSend m t u = none := by unfold mSend; rw [if_neg c1, if_neg c5, if_neg c6]
          simp only [if_neg c6, es]
          exact evc fun k => rfl
theorem l7Unify_ev (ts us m : List Int) (h1 : ts.length = us.length) (hm : m.length = 20) (ho : okTs ts) (hl : ts.length ≤ 1048576) : Ev (fun k => spec_l7Unify.f k ts us m) (mUni ts us m) := by
  unfold spec_l7Unify.f
  simp only [Option.bind_some, List.length_nil, Nat.zero_add, List.nil_append, if_pos (show m.length < 17592186044416 by omega)]
  exact l7Unify_l0 ts us [] [] m h1 rfl hm ho hl
theorem implIsVar_eq3 (t : Int) : impl_IsVar.f t = some (mIsVar t) := by simp [impl_IsVar.f, within_eq, mIsVar]
theorem specApply_eq (m : List Int) (t : Int) (h : m.length ≤ 17592186044416) : spec_ApplyMapping.f m t = some (mApply m t) := by
  unfold spec_ApplyMapping.f mApply
  simp only [l1In_eq, Option.bind_some]
  rw [w64 (by omega) (by omega)]
  by_cases hc : 0 ≤ t ∧ t < (m.length : Int)
  · rw [if_pos (by simp; omega), if_pos (by omega), if_pos (by omega)]
    by_cases hu : rd m t = -1000
    · rw [if_pos hu, if_neg (by omega)]
    · rw [if_neg hu, if_pos (by omega)]
  · rw [if_neg (by simp; omega), if_neg (by omega)]
theorem implApply_eq (m : List Int) (t : Int) (h : m.length ≤ 17592186044416) : impl_ApplyMapping.f m t = some (mApply m t) := by
  unfold impl_ApplyMapping.f mApply
  simp only [within_eq, Option.bind_some]
  rw [w64 (by omega) (by omega)]
  by_cases hc : 0 ≤ t ∧ t < (m.length : Int)
  · rw [if_pos (by simp; omega), if_pos (by omega), if_pos (by omega)]
    by_cases hu : rd m t = -1000
    · rw [if_pos hu, if_neg (by omega)]
    · rw [if_neg hu, if_pos (by omega)]
  · rw [if_neg (by simp; omega), if_neg (by omega)]
theorem slEqual_ev (l m : List Int) (h : l.length ≤ 140737488355328) : Ev (fun k => slices_Equal_int_int.f k l m) (decide (l = m)) := by
  by_cases hl : l.length = m.length
  · have key := idx_ind l (fun pre suf => ∀ pre2 suf2, m = pre2 ++ suf2 → pre2.length = pre.length → Ev (fun k => slices_Equal_int_int.l0 k l m (l.length : Int) (pre.length : Int)) (decide (suf = suf2))) ?_ ?_
    · have r := key [] m rfl rfl
      refine Ev.congr (fun k => ?_) r
      unfold slices_Equal_int_int.f
      rw [if_pos (by omega)]
      rfl
    · intro pre2 suf2 e2 hp
      have : suf2 = [] := by
        have := congrArg List.length e2
        simp at this
        exact List.eq_nil_of_length_eq_zero (by omega)
      subst this
      refine evn fun k => ?_
      simp only [slices_Equal_int_int.l0]
      rw [if_neg (end_not _)]; simp
    · intro pre a suf e ih pre2 suf2 e2 hp
      obtain ⟨b, t2, rfl⟩ : ∃ b t2, suf2 = b :: t2 := by
        cases suf2 with
        | nil => exfalso; have h1 := congrArg List.length e; have h2 := congrArg List.length e2; simp at h1 h2; omega
        | cons b t2 => exact ⟨b, t2, rfl⟩
      have r2 : rd m (pre.length : Int) = b := by rw [← hp]; exact rd_of e2
      have l2 : (pre.length : Int) < (m.length : Int) := by rw [← hp]; exact lt_of e2
      by_cases hab : a = b
      · subst hab
        have r := ih (pre2 ++ [a]) t2 (by rw [e2]; simp) (by simp [hp])
        have ed : decide (a :: suf = a :: t2) = decide (suf = t2) := by simp
        rw [ed]
        refine Ev.step (fun k => ?_) r
        simp only [slices_Equal_int_int.l0]
        rw [if_pos (lt_of e), if_pos (len_nonneg _), if_pos (lt_of e), if_pos l2, rd_of e, r2, if_pos rfl, nx_of e h]
      · have ed : decide (a :: suf = b :: t2) = false := by simp [hab]
        rw [ed]
        refine evn fun k => ?_
        simp only [slices_Equal_int_int.l0]
        rw [if_pos (lt_of e), if_pos (len_nonneg _), if_pos (lt_of e), if_pos l2, rd_of e, r2, if_neg hab]
  · have e : decide (l = m) = false := by simp; intro h; exact hl (by rw [h])
    rw [e]
    refine evc fun k => ?_
    unfold slices_Equal_int_int.f
    rw [if_neg (by omega)]
theorem specEqAtoms_ev (r : Int) (l : List Int) (q : Int) (m : List Int) (h : l.length ≤ 140737488355328) : Ev (fun k => spec_EqualAtoms.f k r l q m) (decide (r = q ∧ l = m)) := by
  unfold spec_EqualAtoms.f
  by_cases hr : r = q
  · simp only [if_pos hr]
    refine evb (l2Ints_ev l m h) ?_
    refine evc fun k => ?_
    simp [hr]
  · simp only [if_neg hr]
    refine evc fun k => ?_
    simp [hr]
theorem implEqAtoms_ev (r : Int) (l : List Int) (q : Int) (m : List Int) (h : l.length ≤ 140737488355328) : Ev (fun k => impl_EqualAtoms.f k r l q m) (decide (r = q ∧ l = m)) := by
  unfold impl_EqualAtoms.f
  by_cases hr : r = q
  · simp only [if_pos hr]
    refine evb (slEqual_ev l m h) ?_
    refine evc fun k => ?_
    simp [hr]
  · simp only [if_neg hr]
    refine evc fun k => ?_
    simp [hr]
def mHit (d2 : List S97) (a : S97) : Bool := d2.any (fun y => decide (a.f0 = y.f0 ∧ a.f1 = y.f1))
def mMaps (h : List Int) (d : List S97) (h2 : List Int) (d2 : List S97) (m : List Int) : Bool :=
  decide (m.length = 20) && (decide (h.map (mApply m) = h2) && d.all (fun a => mHit d2 (tF (mApply m) a)))
def mIsMap (s h : List Int) (d : List S97) (h2 : List Int) (d2 : List S97) (m : List Int) : Bool := mIsQuery s h d && (mIsQuery s h2 d2 && mMaps h d h2 d2 m)
theorem l7List_ev (m l : List Int) (hm : m.length ≤ 1048576) (hl : l.length ≤ 1048576) : Ev (fun k => spec_l7List.f k m l) (l.map (mApply m)) := by
  refine idx_ind l (fun pre suf => Ev (fun k => spec_l7List.l0 k m l (pre.map (mApply m)) (pre.length : Int)) (l.map (mApply m))) ?_ ?_
  · refine evn fun k => ?_
    simp only [spec_l7List.l0]
    rw [if_neg (end_not _)]
  · intro pre x suf e ih
    have hp : (pre.map (mApply m)).length < 17592186044416 := by rw [e] at hl; simp at hl ⊢; omega
    refine Ev.step (fun k => spec_l7List.l0.eq_2 ..) ?_
    simp only [if_pos (lt_of e), if_pos (len_nonneg _), rd_of e, nx_of e (by omega), specApply_eq m x (by omega), Option.bind_some, if_pos hp]
    rw [List.map_append] at ih
    exact ih
theorem l7Is_l1 (m : List Int) (i : Int) (h : List Int) (d : List S97) (h2 : List Int) (d2 : List S97) (a : S97) (R : Bool) (hl : d2.length ≤ 1048576) (ha : a.f1.length ≤ 1048576) (hC : Ev (fun k => spec_l7Is.l0 k m (wrap64 (i + 1)) h d h2 d2) R) :
    ∀ (suf pre : List S97) (f : Bool), d2 = pre ++ suf → Ev (fun k => spec_l7Is.l1 k m i f (pre.length : Int) h d h2 d2 a.f0 a.f1) ((f || mHit suf a) && R)
  | [], pre, f, e => by
    have e2 : pre = d2 := by rw [e]; simp
    subst e2
    refine Ev.step (fun k => spec_l7Is.l1.eq_2 ..) ?_
    simp only [if_neg (end_not _)]
    cases f
    · simp only [Bool.false_eq_true, if_false]; exact evc fun k => rfl
    · simp only [if_true]; simpa [mHit] using hC
  | x :: xs, pre, f, e => by
    have r := fun g => l7Is_l1 m i h d h2 d2 a R hl ha hC xs (pre ++ [x]) g (by rw [e]; simp)
    refine Ev.step (fun k => spec_l7Is.l1.eq_2 ..) ?_
    simp only [if_pos (lt_of e), nx_of e (by omega)]
    cases f
    · simp only [Bool.false_eq_true, if_false, if_pos (len_nonneg _), rdIA_of e]
      refine evb (specEqAtoms_ev a.f0 a.f1 x.f0 x.f1 (by omega)) ?_
      have r2 := r (decide (a.f0 = x.f0 ∧ a.f1 = x.f1))
      simp only [mHit, List.any_cons, Bool.false_or] at r2 ⊢
      exact r2
    · simp only [if_true]
      have r2 := r true
      simp only [Bool.true_or] at r2 ⊢
      exact r2
theorem l7Is_ev (h : List Int) (d : List S97) (h2 : List Int) (d2 : List S97) (m : List Int) (hm : m.length ≤ 1048576) (hh : h.length ≤ 1048576) (hl : d.length ≤ 1048576) (hs : ∀ x ∈ d, x.f1.length ≤ 1048576) (hl2 : d2.length ≤ 1048576) : Ev (fun k => spec_l7Is.f k h d h2 d2 m) (mMaps h d h2 d2 m) := by
  have hj : ∀ b : Bool, Ev (fun k => spec_l7Is.j0 k m b h d h2 d2) (!b && d.all (fun a => mHit d2 (tF (mApply m) a))) := by
    intro b
    refine Ev.step (fun k => spec_l7Is.j0.eq_2 ..) ?_
    cases b
    · simp only [Bool.false_eq_true, if_false, Bool.not_false, Bool.true_and]
      refine idx_ind d (fun pre suf => Ev (fun k => spec_l7Is.l0 k m (pre.length : Int) h d h2 d2) (suf.all (fun a => mHit d2 (tF (mApply m) a)))) ?_ ?_
      · refine evn fun k => ?_
        simp only [spec_l7Is.l0]
        rw [if_neg (end_not _)]; rfl
      · intro pre x suf e ih
        have hx : x.f1.length ≤ 1048576 := hs x (by rw [e]; simp)
        refine Ev.step (fun k => spec_l7Is.l0.eq_2 ..) ?_
        simp only [if_pos (lt_of e), if_pos (len_nonneg _), rdIA_of e]
        refine evb (l7List_ev m x.f1 hm hx) ?_
        rw [← nx_of e (by omega)] at ih
        have r := l7Is_l1 m (pre.length : Int) h d h2 d2 (tF (mApply m) x) _ hl2 (by simpa [tF] using hx) ih d2 [] false rfl
        simp only [Bool.false_or] at r
        simp only [List.all_cons]
        exact r
    · simp only [if_true]; exact evc fun k => rfl
  unfold spec_l7Is.f mMaps
  by_cases c : m.length = 20
  · rw [decide_eq_true c]
    simp only [if_pos (show (m.length : Int) = 20 by omega), Bool.true_and]
    refine evb (l7List_ev m h hm hh) ?_
    refine evb (l2Ints_ev _ _ (by simp; omega)) ?_
    have r := hj (!decide (h.map (mApply m) = h2))
    rw [Bool.not_not] at r
    exact r
  · rw [decide_eq_false c]
    simp only [if_neg (show ¬ (m.length : Int) = 20 by omega), Bool.false_and]
    have r := hj true
    simpa using r
theorem specIsMapping_ev (s h : List Int) (d : List S97) (h2 : List Int) (d2 : List S97) (m : List Int) (hsl : s.length ≤ 1048576) (hm : m.length ≤ 1048576) (hh : h.length ≤ 1048576) (hl : d.length ≤ 1048576) (hs : ∀ x ∈ d, x.f1.length ≤ 1048576) (hh2 : h2.length ≤ 1048576) (hl2 : d2.length ≤ 1048576) (hs2 : ∀ x ∈ d2, x.f1.length ≤ 1048576) :
    Ev (fun k => spec_IsMapping.f k s h d h2 d2 m) (mIsMap s h d h2 d2 m) := by
  unfold spec_IsMapping.f mIsMap
  refine evb (specIsQuery_ev s h d hsl hh hl hs) ?_
  cases mIsQuery s h d
  · simp only [Bool.false_eq_true, if_false]; exact evc fun k => rfl
  simp only [if_true, Bool.true_and]
  refine evb (specIsQuery_ev s h2 d2 hsl hh2 hl2 hs2) ?_
  cases mIsQuery s h2 d2
  · simp only [Bool.false_eq_true, if_false]; exact evc fun k => rfl
  simp only [if_true, Bool.true_and]
  refine evb (l7Is_ev h d h2 d2 m hm hh hl hs hl2) ?_
  exact evc fun k => rfl
theorem tdiv_neg10 (m : Nat) : Int.tdiv (-(m : Int)) 10 = -((m / 10 : Nat) : Int) := by
  rw [Int.neg_tdiv, Int.tdiv_eq_ediv_of_nonneg (by omega)]; omega
theorem tmod_neg10 (m : Nat) : Int.tmod (-(m : Int)) 10 = -((m % 10 : Nat) : Int) := by
  rw [Int.neg_tmod, Int.tmod_eq_emod_of_nonneg (by omega)]; omega
theorem tdiv_pos10 (m : Nat) : Int.tdiv (m : Int) 10 = ((m / 10 : Nat) : Int) := by
  rw [Int.tdiv_eq_ediv_of_nonneg (by omega)]; omega
theorem tmod_pos10 (m : Nat) : Int.tmod (m : Int) 10 = ((m % 10 : Nat) : Int) := by
  rw [Int.tmod_eq_emod_of_nonneg (by omega)]; omega
theorem append_empty_left (b : ByteArray) : strOfNums [] ++ b = b := by simp [strOfNums, ByteArray.ext_iff]
theorem dig_byte (d : Nat) (h : d < 10) : (48 + (d : Int)) % 256 = 48 + (d : Int) := by omega
theorem specFmt_pos : ∀ (j m : Nat) (out : ByteArray), m < 10 ^ j → m ≤ 9223372036854775807 → out.size + j ≤ 1000 → Ev (fun k => spec_FormatInt.l0 k m out false) (strOfNums (mDig m) ++ out)
  | 0, m, out, h, hm, ho => by
    obtain rfl : m = 0 := by simpa using h
    refine evn fun k => ?_
    simp only [spec_FormatInt.l0]
    rw [if_pos (by omega), if_neg (by simp), mDig_zero, append_empty_left]
  | j + 1, m, out, h, hm, ho => by
    by_cases h0 : m = 0
    · subst h0
      refine evn fun k => ?_
      simp only [spec_FormatInt.l0]
      rw [if_pos (by omega), if_neg (by simp), mDig_zero, append_empty_left]
    · have hj : m / 10 < 10 ^ j := by rw [Nat.pow_succ] at h; omega
      have hs : (strOfNums [48 + ((m % 10 : Nat) : Int)] ++ out).size + j ≤ 1000 := by rw [ByteArray.size_append, strOfNums_size]; simp; omega
      have r := specFmt_pos j (m / 10) (strOfNums [48 + ((m % 10 : Nat) : Int)] ++ out) hj (by omega) hs
      rw [mDig_pos h0, strOfNums_append, ByteArray.append_assoc]
      refine Ev.step (fun k => ?_) r
      simp only [spec_FormatInt.l0]
      rw [if_neg (by omega), tmod_pos10, tdiv_pos10, if_neg (by omega)]
      simp only [Option.bind_some]
      rw [w64 (by omega) (by omega), dig_byte _ (by omega), if_pos (by rw [strOfNums_size]; simp; omega), w64 (by omega) (by omega)]
theorem specFmt_neg : ∀ (j m : Nat) (out : ByteArray), m < 10 ^ j → m ≤ 9223372036854775808 → out.size + j ≤ 1000 → Ev (fun k => spec_FormatInt.l0 k (-(m : Int)) out true) (strOfNums [45] ++ (strOfNums (mDig m) ++ out))
  | 0, m, out, h, hm, ho => by
    obtain rfl : m = 0 := by simpa using h
    refine evn fun k => ?_
    simp only [spec_FormatInt.l0]
    rw [if_pos (by omega), if_pos trivial, if_pos (by omega), mDig_zero, append_empty_left]
    rfl
  | j + 1, m, out, h, hm, ho => by
    by_cases h0 : m = 0
    · subst h0
      refine evn fun k => ?_
      simp only [spec_FormatInt.l0]
      rw [if_pos (by omega), if_pos trivial, if_pos (by omega), mDig_zero, append_empty_left]
      rfl
    · have hj : m / 10 < 10 ^ j := by rw [Nat.pow_succ] at h; omega
      have hs : (strOfNums [48 + ((m % 10 : Nat) : Int)] ++ out).size + j ≤ 1000 := by rw [ByteArray.size_append, strOfNums_size]; simp; omega
      have r := specFmt_neg j (m / 10) (strOfNums [48 + ((m % 10 : Nat) : Int)] ++ out) hj (by omega) hs
      rw [mDig_pos h0, strOfNums_append, ByteArray.append_assoc]
      refine Ev.step (fun k => ?_) r
      simp only [spec_FormatInt.l0]
      rw [if_neg (by omega), tmod_neg10, tdiv_neg10]
      by_cases hd : m % 10 = 0
      · rw [if_neg (by omega)]
        simp only [Option.bind_some]
        rw [w64 (by omega) (by omega), if_pos (by rw [strOfNums_size]; simp; omega), w64 (by omega) (by omega)]
        rw [show (48 + -((m % 10 : Nat) : Int)) % 256 = 48 + ((m % 10 : Nat) : Int) by omega]
      · rw [if_pos (by omega)]
        simp only [Option.bind_some]
        rw [w64 (x := - -((m % 10 : Nat) : Int)) (by omega) (by omega), w64 (by omega) (by omega), if_pos (by rw [strOfNums_size]; simp; omega), w64 (by omega) (by omega)]
        rw [show (48 + - -((m % 10 : Nat) : Int)) % 256 = 48 + ((m % 10 : Nat) : Int) by omega]
theorem append_empty_right (b : ByteArray) : b ++ (⟨#[]⟩ : ByteArray) = b := by simp [ByteArray.ext_iff]
theorem specFmt_ev (n : Int) (h0 : -9223372036854775808 ≤ n) (h1 : n ≤ 9223372036854775807) : Ev (fun k => spec_FormatInt.f k n) (strOfNums (mFmt n)) := by
  unfold spec_FormatInt.f mFmt
  by_cases hz : n = 0
  · simp only [if_pos hz]; exact evc fun k => rfl
  · simp only [if_neg hz]
    by_cases hn : n < 0
    · obtain ⟨m, rfl⟩ : ∃ m : Nat, n = -(m : Int) := ⟨n.natAbs, by omega⟩
      have r := specFmt_neg 20 m ⟨#[]⟩ (by omega) (by omega) (by simp [ByteArray.size])
      rw [append_empty_right] at r
      rw [if_pos hn, decide_eq_true hn, show (-(m : Int)).natAbs = m by omega]
      rw [show (45 : Int) :: mDig m = [45] ++ mDig m from rfl, strOfNums_append]
      exact r
    · obtain ⟨m, rfl⟩ : ∃ m : Nat, n = (m : Int) := ⟨n.natAbs, by omega⟩
      have r := specFmt_pos 20 m ⟨#[]⟩ (by omega) (by omega) (by simp [ByteArray.size])
      rw [append_empty_right] at r
      rw [if_neg hn, decide_eq_false hn, show ((m : Int)).natAbs = m by omega]
      exact r
theorem implRev : ∀ (n : Nat) (M A B : List Int), M.length ≤ n → A.length = B.length → (A ++ M ++ B).length ≤ 1000 → Ev (fun k => impl_FormatInt.l1 k (A ++ M ++ B) (A.length : Int) ((A.length : Int) + (M.length : Int) - 1)) (strOfNums (A ++ M.reverse ++ B))
  | n, [], A, B, hn, hab, hl => by
    refine evn fun k => ?_
    simp only [impl_FormatInt.l1]
    rw [if_neg (by simp <;> omega)]; simp
  | n, [a], A, B, hn, hab, hl => by
    refine evn fun k => ?_
    simp only [impl_FormatInt.l1]
    rw [if_neg (by simp <;> omega)]; simp
  | 0, a :: c :: R, A, B, hn, hab, hl => by simp at hn
  | n + 1, a :: c :: R, A, B, hn, hab, hl => by
    obtain ⟨M', b, hM⟩ : ∃ M' b, c :: R = M' ++ [b] := ⟨(c :: R).dropLast, (c :: R).getLast (by simp), (List.dropLast_concat_getLast (by simp)).symm⟩
    rw [hM]
    have hlen : M'.length + 1 = R.length + 1 := by have := congrArg List.length hM; simpa using this.symm
    have hsz : A.length + M'.length + B.length + 2 ≤ 1000 := by simp at hl; omega
    have r := implRev n M' (A ++ [b]) (a :: B) (by simp at hn; omega) (by simp [hab]) (by simp; omega)
    have e1 : (A ++ a :: (M' ++ [b]) ++ B) = A ++ a :: (M' ++ b :: B) := by simp
    have e2 : (A ++ a :: (M' ++ b :: B)) = (A ++ a :: M') ++ b :: B := by simp
    have ei : (A.length : Int) + ((a :: (M' ++ [b])).length : Int) - 1 = ((A ++ a :: M').length : Int) := by simp; omega
    have er : A ++ (a :: (M' ++ [b])).reverse ++ B = (A ++ [b]) ++ M'.reverse ++ (a :: B) := by simp
    rw [er, ei, e1]
    refine Ev.step (fun k => ?_) r
    simp only [impl_FormatInt.l1]
    have ra : rd (A ++ a :: (M' ++ b :: B)) (A.length : Int) = a := rd_mid _ _ _
    have rb : rd (A ++ a :: (M' ++ b :: B)) ((A ++ a :: M').length : Int) = b := by rw [e2]; exact rd_mid _ _ _
    rw [if_pos (by simp; omega), if_pos (by omega), if_pos (by simp; omega), if_pos (by omega), if_pos (by simp; omega), ra, rb, set_mid]
    have e3 : (A ++ b :: (M' ++ b :: B)) = (A ++ b :: M') ++ b :: B := by simp
    have e4 : ((A ++ a :: M').length : Int) = ((A ++ b :: M').length : Int) := by simp
    rw [e3, e4, set_mid, w64 (by omega) (by omega), w64 (by simp; omega) (by simp; omega)]
    congr 1
    · simp
    · simp
    · simp; omega
theorem implFmt_end (x : Int) (acc : List Int) (h : acc.length ≤ 900) : Ev (fun k => impl_FormatInt.l0 k x acc 0) (strOfNums ((if x < 0 then [45] else []) ++ acc.reverse)) := by
  have jr : ∀ y : List Int, y.length ≤ 901 → Ev (fun k => impl_FormatInt.j1 k y) (strOfNums y.reverse) := by
    intro y hy
    have r := implRev y.length y [] [] (Nat.le_refl _) rfl (by simp; omega)
    simp only [List.nil_append, List.append_nil, List.length_nil] at r
    refine Ev.step (fun k => ?_) r
    simp only [impl_FormatInt.j1]
    rw [w64 (by omega) (by omega)]
    congr 1; simp
  by_cases hx : x < 0
  · have r := jr (acc ++ [45]) (by simp; omega)
    rw [if_pos hx]
    refine Ev.step (fun k => ?_) (by simpa using r)
    simp only [impl_FormatInt.l0]
    rw [if_pos trivial, if_pos hx, if_pos (by omega)]
  · have r := jr acc (by omega)
    rw [if_neg hx]
    refine Ev.step (fun k => ?_) (by simpa using r)
    simp only [impl_FormatInt.l0]
    rw [if_pos trivial, if_neg hx]
theorem implFmt_pos (x : Int) : ∀ (j m : Nat) (acc : List Int), m < 10 ^ j → m ≤ 9223372036854775807 → acc.length + j ≤ 900 → Ev (fun k => impl_FormatInt.l0 k x acc m) (strOfNums ((if x < 0 then [45] else []) ++ (mDig m ++ acc.reverse)))
  | 0, m, acc, h, hm, ho => by
    obtain rfl : m = 0 := by simpa using h
    rw [mDig_zero]; exact implFmt_end x acc (by omega)
  | j + 1, m, acc, h, hm, ho => by
    by_cases h0 : m = 0
    · subst h0; rw [mDig_zero]; exact implFmt_end x acc (by omega)
    · have hj : m / 10 < 10 ^ j := by rw [Nat.pow_succ] at h; omega
      have r := implFmt_pos x j (m / 10) (acc ++ [48 + ((m % 10 : Nat) : Int)]) hj (by omega) (by simp; omega)
      rw [mDig_pos h0]
      refine Ev.step (fun k => ?_) (by simpa using r)
      simp only [impl_FormatInt.l0]
      rw [if_neg (by omega), tmod_pos10, tdiv_pos10, if_neg (by omega), if_pos (by omega), w64 (by omega) (by omega), dig_byte _ (by omega), w64 (by omega) (by omega)]
      simp
theorem implFmt_neg (x : Int) : ∀ (j m : Nat) (acc : List Int), m < 10 ^ j → m ≤ 9223372036854775808 → acc.length + j ≤ 900 → Ev (fun k => impl_FormatInt.l0 k x acc (-(m : Int))) (strOfNums ((if x < 0 then [45] else []) ++ (mDig m ++ acc.reverse)))
  | 0, m, acc, h, hm, ho => by
    obtain rfl : m = 0 := by simpa using h
    rw [mDig_zero]; exact implFmt_end x acc (by omega)
  | j + 1, m, acc, h, hm, ho => by
    by_cases h0 : m = 0
    · subst h0; rw [mDig_zero]; exact implFmt_end x acc (by omega)
    · have hj : m / 10 < 10 ^ j := by rw [Nat.pow_succ] at h; omega
      have r := implFmt_neg x j (m / 10) (acc ++ [48 + ((m % 10 : Nat) : Int)]) hj (by omega) (by simp; omega)
      rw [mDig_pos h0]
      refine Ev.step (fun k => ?_) (by simpa using r)
      simp only [impl_FormatInt.l0]
      rw [if_neg (by omega), tmod_neg10, tdiv_neg10]
      by_cases hd : m % 10 = 0
      · rw [if_neg (by omega), if_pos (by omega), w64 (by omega) (by omega), w64 (by omega) (by omega)]
        rw [show (48 + -((m % 10 : Nat) : Int)) % 256 = 48 + ((m % 10 : Nat) : Int) by omega]
        simp
      · rw [if_pos (by omega), if_pos (by omega), w64 (x := - -((m % 10 : Nat) : Int)) (by omega) (by omega), w64 (by omega) (by omega), w64 (by omega) (by omega)]
        rw [show (48 + - -((m % 10 : Nat) : Int)) % 256 = 48 + ((m % 10 : Nat) : Int) by omega]
        simp
theorem implFmt_ev (n : Int) (h0 : -9223372036854775808 ≤ n) (h1 : n ≤ 9223372036854775807) : Ev (fun k => impl_FormatInt.f k n) (strOfNums (mFmt n)) := by
  unfold impl_FormatInt.f mFmt
  by_cases hz : n = 0
  · simp only [if_pos hz]; exact evc fun k => rfl
  · simp only [if_neg hz]
    by_cases hn : n < 0
    · obtain ⟨m, rfl⟩ : ∃ m : Nat, n = -(m : Int) := ⟨n.natAbs, by omega⟩
      have r := implFmt_neg (-(m : Int)) 20 m [] (by omega) (by omega) (by simp)
      rw [if_pos hn] at r
      rw [if_pos hn, show (-(m : Int)).natAbs = m by omega]
      simpa using r
    · obtain ⟨m, rfl⟩ : ∃ m : Nat, n = (m : Int) := ⟨n.natAbs, by omega⟩
      have r := implFmt_pos (m : Int) 20 m [] (by omega) (by omega) (by simp)
      rw [if_neg hn] at r
      rw [if_neg hn, show ((m : Int)).natAbs = m by omega]
      simpa using r
theorem implIsVar_eq (t : Int) : impl_IsVar.f t = some (mIsVar t) := by
  simp [impl_IsVar.f, within_eq, mIsVar]
theorem implConstOf_eq (t : Int) : impl_ConstOf.f t = some (mConstOf t) := by
  unfold impl_ConstOf.f mConstOf
  simp only [implIsTerm_eq, implIsVar_eq, Option.bind_some, mIsTerm, mIsVar]
  by_cases h : -80 ≤ t ∧ t ≤ -1
  · rw [if_pos h, if_pos (by simp; omega), if_neg (by simp; omega)]; rw [w64 (by omega) (by omega)]
  · rw [if_neg h]
    by_cases h2 : -80 ≤ t ∧ t ≤ 19
    · rw [if_pos (by simpa using h2), if_pos (by simp; omega)]
    · rw [if_neg (by simpa using h2)]
theorem str_cons (c : Int) (l : List Int) : strOfNums (c :: l) = strOfNums [c] ++ strOfNums l := by
  rw [← strOfNums_append]; rfl
theorem specFmtTerm_ev (t : Int) : Ev (fun k => spec_FormatTerm.f k t) (strOfNums (mFmtTerm t)) := by
  unfold spec_FormatTerm.f mFmtTerm
  simp only [specIsVar_eq, specConstOf_eq, Option.bind_some]
  by_cases hv : mIsVar t = true
  · simp only [if_pos hv]
    have hb : 0 ≤ t ∧ t ≤ 19 := by simpa [mIsVar] using hv
    refine evb (specFmt_ev t (by omega) (by omega)) ?_
    have hl := small_fmt (n := t) (by omega) (by omega)
    refine evc fun k => ?_
    rw [if_pos (by rw [strOfNums_size]; omega), str_cons]
    rfl
  · simp only [if_neg hv]
    have hb : ¬ (0 ≤ t ∧ t ≤ 19) := by simpa [mIsVar] using hv
    by_cases ht : -80 ≤ t ∧ t ≤ -1
    · have hc : mConstOf t = -1 - t := by unfold mConstOf; rw [if_pos ht]
      have hg : mConstOf t ≥ 0 := by omega
      simp only [if_pos hg]
      have hT : mIsTerm t = true := by simp [mIsTerm]; omega
      simp only [if_pos hT]
      rw [hc]
      refine evb (specFmt_ev (-1 - t) (by omega) (by omega)) ?_
      exact evc fun k => rfl
    · have hc : mConstOf t = -1 := by unfold mConstOf; rw [if_neg ht]
      have hg : ¬ mConstOf t ≥ 0 := by omega
      simp only [if_neg hg]
      have hT : ¬ mIsTerm t = true := by simp [mIsTerm]; omega
      simp only [if_neg hT]
      exact evc fun k => rfl
theorem implFmtTerm_ev (t : Int) : Ev (fun k => impl_FormatTerm.f k t) (strOfNums (mFmtTerm t)) := by
  unfold impl_FormatTerm.f mFmtTerm
  simp only [implIsVar_eq, implIsTerm_eq, implConstOf_eq, Option.bind_some]
  by_cases hv : mIsVar t = true
  · simp only [if_pos hv]
    have hb : 0 ≤ t ∧ t ≤ 19 := by simpa [mIsVar] using hv
    refine evb (implFmt_ev t (by omega) (by omega)) ?_
    have hl := small_fmt (n := t) (by omega) (by omega)
    refine evc fun k => ?_
    rw [if_pos (by rw [strOfNums_size]; omega), str_cons]
    rfl
  · simp only [if_neg hv]
    have hb : ¬ (0 ≤ t ∧ t ≤ 19) := by simpa [mIsVar] using hv
    by_cases hT : mIsTerm t = true
    · have ht : -80 ≤ t ∧ t ≤ 19 := by simpa [mIsTerm] using hT
      have hc : mConstOf t = -1 - t := by unfold mConstOf; rw [if_pos (by omega)]
      simp only [if_pos hT]
      rw [hc]
      refine evb (implFmt_ev (-1 - t) (by omega) (by omega)) ?_
      exact evc fun k => rfl
    · simp only [if_neg hT]
      exact evc fun k => rfl
theorem rdB_of {l pre suf : List ByteArray} {a : ByteArray} (e : l = pre ++ a :: suf) : rdOf ByteArray.empty l (pre.length : Int) = a := getD_of e _
theorem glued_ev (xs : List (List Int)) (sep : List Int) (hl : xs.length ≤ 1073741824) (hs : sep.length ≤ 10000) (hx : ∀ x ∈ xs, x.length ≤ 10000) :
    Ev (fun k => impl_glued.f k (xs.map strOfNums) (strOfNums sep)) (strOfNums (mJoin sep xs)) := by
  have key := idx_ind xs (fun pre suf => Ev (fun k => impl_glued.l0 k (strOfNums sep) (strOfNums (mJoin sep pre)) (xs.map strOfNums) ((xs.map strOfNums).length : Int) (pre.length : Int)) (strOfNums (mJoin sep xs))) ?_ ?_
  · exact key
  · refine evn fun k => ?_
    simp only [impl_glued.l0]
    rw [if_neg (by simp)]
  · intro pre a suf e ih
    have ea : xs.map strOfNums = pre.map strOfNums ++ strOfNums a :: suf.map strOfNums := by rw [e]; simp
    have hr : rdOf ByteArray.empty (xs.map strOfNums) (pre.length : Int) = strOfNums a := by
      have := rdB_of ea
      simpa using this
    have hlt : (pre.length : Int) < ((xs.map strOfNums).length : Int) := by rw [e]; simp; omega
    have hp : pre.length < 1073741824 := by rw [e] at hl; simp at hl; omega
    have hj := mJoin_len sep 10000 hs pre (fun x hxm => hx x (by rw [e]; simp [hxm]))
    have ha := hx a (by rw [e]; simp)
    have hjb : (mJoin sep pre).length ≤ 21474836480000 := by omega
    refine Ev.step (fun k => ?_) ih
    simp only [impl_glued.l0]
    rw [if_pos hlt, if_pos (len_nonneg _), if_pos hlt, hr, iw (a := a) (by omega)]
    by_cases h0 : pre = []
    · subst h0
      rw [if_neg (by simp), if_pos (by rw [strOfNums_size, strOfNums_size]; simp [mJoin]; omega), ← strOfNums_append]
      simp [mJoin, mJoinT]
    · have hp0 : 0 < pre.length := List.length_pos_iff.2 h0
      rw [if_pos (by omega), if_pos (by rw [strOfNums_size, strOfNums_size]; omega), ← strOfNums_append, if_pos (by rw [strOfNums_size, strOfNums_size]; simp; omega), ← strOfNums_append, mJoin_snoc sep a pre h0]
      simp
theorem str_nil {α : Type} (l : List Int) (x y : α) : (if (strOfNums l).toList = ([] : List UInt8) then x else y) = if l = [] then x else y := by
  have e : (strOfNums l).toList = ([] : List UInt8) ↔ l = [] := by
    rw [ByteArray.toList_eq]
    simp [strOfNums]
  by_cases h : l = []
  · rw [if_pos h, if_pos (e.2 h)]
  · rw [if_neg h, if_neg (fun h' => h (e.1 h'))]
theorem join_nil (sep : List Int) (xs : List (List Int)) (h : ∀ x ∈ xs, x ≠ []) : mJoin sep xs = [] ↔ xs = [] := by
  cases xs with
  | nil => simp [mJoin]
  | cons x t =>
    have := h x List.mem_cons_self
    simp [mJoin, this]
def mPieces : Int → List Int → Option (List (List Int))
  | _, [] => some []
  | i, t :: r => if t = -1000 then mPieces (i + 1) r else if mIsVar i = true ∧ mIsTerm t = true then (mPieces (i + 1) r).map (fun p => (mFmtTerm i ++ [61] ++ mFmtTerm t) :: p) else none
theorem piece_len (i t : Int) : (mFmtTerm i ++ [61] ++ mFmtTerm t).length ≤ 10 := by
  have h1 := term_fmt i
  have h2 := term_fmt t
  simp; omega
def mMapEnd (acc : List (List Int)) : Option (List (List Int)) → ByteArray
  | none => strOfNums []
  | some q => if acc ++ q = [] then strOfNums [110, 111, 110, 101] else strOfNums (mJoin [32] (acc ++ q))
theorem implMap_l0 (m : List Int) (hm : m.length ≤ 1048576) : Ev (fun k => impl_FormatMapping.f k m) (mMapEnd [] (mPieces 0 m)) := by
  have key := idx_ind m (fun pre suf => ∀ acc : List (List Int), acc.length ≤ pre.length → (∀ x ∈ acc, x.length ≤ 10) → Ev (fun k => impl_FormatMapping.l0 k (acc.map strOfNums) m (m.length : Int) (pre.length : Int)) (mMapEnd acc (mPieces (pre.length : Int) suf))) ?_ ?_
  · exact key [] (Nat.le_refl _) (by simp)
  · intro acc ha hx
    rw [show mMapEnd acc (mPieces (m.length : Int) []) = if acc = [] then strOfNums [110, 111, 110, 101] else strOfNums (mJoin [32] acc) by simp [mMapEnd, mPieces]]
    by_cases h0 : acc = []
    · rw [if_pos h0]
      subst h0
      refine evn fun k => ?_
      simp only [impl_FormatMapping.l0]
      rw [if_neg (end_not _), if_pos (by simp)]
      rfl
    · rw [if_neg h0]
      have hp : 0 < acc.length := List.length_pos_iff.2 h0
      refine Ev.step (f := fun k => (impl_glued.f k (acc.map strOfNums) (strOfNums [32])).bind fun t => some t) (fun k => ?_) ?_
      · simp only [impl_FormatMapping.l0]
        rw [if_neg (end_not _), if_neg (by simp; omega)]
        rfl
      · exact evb (glued_ev acc [32] (by omega) (by simp) (fun x hx' => by have := hx x hx'; omega)) (evc fun k => rfl)
  · intro pre t suf e ih acc ha hx
    have hp : pre.length < 1048576 := by rw [e] at hm; simp at hm; omega
    have hpl : ((pre ++ [t]).length : Int) = (pre.length : Int) + 1 := by simp
    by_cases ht : t = -1000
    · have r := ih acc (by simp; omega) hx
      rw [hpl] at r
      rw [mPieces, if_pos ht]
      refine Ev.step (fun k => ?_) r
      simp only [impl_FormatMapping.l0]
      rw [if_pos (lt_of e), if_pos (len_nonneg _), if_pos (lt_of e), rd_of e, if_pos ht, w64 (by omega) (by omega)]
    · rw [mPieces, if_neg ht]
      have jbad : Ev (fun k => impl_FormatMapping.j1 k (acc.map strOfNums) (pre.length : Int) t m (m.length : Int) (pre.length : Int) true) (strOfNums []) := evn fun k => by
        simp only [impl_FormatMapping.j1]
        rw [if_pos trivial]; rfl
      by_cases hv : mIsVar (pre.length : Int) = true
      · by_cases hT : mIsTerm t = true
        · rw [if_pos ⟨hv, hT⟩]
          have r := ih (acc ++ [mFmtTerm (pre.length : Int) ++ [61] ++ mFmtTerm t]) (by simp; omega) (fun x hx' => by
            rcases List.mem_append.1 hx' with h | h
            · exact hx x h
            · rw [List.mem_singleton.1 h]; exact piece_len _ _)
          rw [hpl] at r
          have em : mMapEnd acc ((mPieces ((pre.length : Int) + 1) suf).map (fun p => (mFmtTerm (pre.length : Int) ++ [61] ++ mFmtTerm t) :: p)) = mMapEnd (acc ++ [mFmtTerm (pre.length : Int) ++ [61] ++ mFmtTerm t]) (mPieces ((pre.length : Int) + 1) suf) := by
            cases mPieces ((pre.length : Int) + 1) suf with
            | none => rfl
            | some q => simp [mMapEnd]
          rw [em]
          refine Ev.step (f := fun k => impl_FormatMapping.j1 k (acc.map strOfNums) (pre.length : Int) t m (m.length : Int) (pre.length : Int) false) (fun k => ?_) ?_
          · simp only [impl_FormatMapping.l0]
            rw [if_pos (lt_of e), if_pos (len_nonneg _), if_pos (lt_of e), rd_of e, if_neg ht, implIsVar_eq]
            simp only [Option.bind_some]
            rw [if_pos hv, implIsTerm_eq]
            simp only [Option.bind_some, hT, Bool.not_true]
          · refine Ev.step (f := fun k => (impl_FormatTerm.f k (pre.length : Int)).bind fun u => if u.size + 1 ≤ 9223372036854775807 then ((impl_FormatTerm.f k t).bind fun v => if (u ++ strOfNums [61]).size + v.size ≤ 9223372036854775807 then (if (acc.map strOfNums).length < 8796093022208 then impl_FormatMapping.l0 k (acc.map strOfNums ++ [(u ++ strOfNums [61]) ++ v]) m (m.length : Int) ((pre.length : Int) + 1) else none) else none) else none) (fun k => ?_) ?_
            · simp only [impl_FormatMapping.j1]
              rw [if_neg (by simp), w64 (by omega) (by omega)]
              rfl
            · refine evb (implFmtTerm_ev _) ?_
              have h1 := term_fmt (pre.length : Int)
              have h2 := term_fmt t
              have z1 : (strOfNums (mFmtTerm (pre.length : Int))).size + 1 ≤ 9223372036854775807 := by rw [strOfNums_size]; omega
              simp only [if_pos z1]
              refine evb (implFmtTerm_ev t) ?_
              have z2 : (strOfNums (mFmtTerm (pre.length : Int) ++ [61])).size + (strOfNums (mFmtTerm t)).size ≤ 9223372036854775807 := by rw [strOfNums_size, strOfNums_size]; simp; omega
              have z3 : (acc.map strOfNums).length < 8796093022208 := by simp; omega
              simp only [← strOfNums_append]
              simp only [if_pos z2, if_pos z3]
              simpa using r
        · rw [if_neg (fun h => hT h.2)]
          show Ev _ (strOfNums [])
          refine Ev.step (fun k => ?_) jbad
          simp only [impl_FormatMapping.l0]
          rw [if_pos (lt_of e), if_pos (len_nonneg _), if_pos (lt_of e), rd_of e, if_neg ht, implIsVar_eq]
          simp only [Option.bind_some]
          rw [if_pos hv, implIsTerm_eq]
          simp only [Option.bind_some, show mIsTerm t = false by simpa using hT, Bool.not_false]
      · rw [if_neg (fun h => hv h.1)]
        show Ev _ (strOfNums [])
        refine Ev.step (fun k => ?_) jbad
        simp only [impl_FormatMapping.l0]
        rw [if_pos (lt_of e), if_pos (len_nonneg _), if_pos (lt_of e), rd_of e, if_neg ht, implIsVar_eq]
        simp only [Option.bind_some]
        rw [if_neg hv]
theorem specMap_l0 (m : List Int) (hm : m.length ≤ 1048576) : Ev (fun k => spec_FormatMapping.f k m) (mMapEnd [] (mPieces 0 m)) := by
  have key := idx_ind m (fun pre suf => ∀ acc : List (List Int), acc.length ≤ pre.length → (∀ x ∈ acc, x.length ≤ 10 ∧ x ≠ []) → Ev (fun k => spec_FormatMapping.l0 k m (strOfNums (mJoin [32] acc)) (pre.length : Int)) (mMapEnd acc (mPieces (pre.length : Int) suf))) ?_ ?_
  · exact key [] (Nat.le_refl _) (by simp)
  · intro acc ha hx
    rw [show mMapEnd acc (mPieces (m.length : Int) []) = if acc = [] then strOfNums [110, 111, 110, 101] else strOfNums (mJoin [32] acc) by simp [mMapEnd, mPieces]]
    refine evn fun k => ?_
    simp only [spec_FormatMapping.l0]
    rw [if_neg (end_not _), str_nil]
    have jn := join_nil [32] acc (fun x h => (hx x h).2)
    by_cases h0 : acc = []
    · rw [if_pos h0, if_pos (jn.2 h0)]; rfl
    · rw [if_neg h0, if_neg (fun h => h0 (jn.1 h))]
  · intro pre t suf e ih acc ha hx
    have hp : pre.length < 1048576 := by rw [e] at hm; simp at hm; omega
    have hpl : ((pre ++ [t]).length : Int) = (pre.length : Int) + 1 := by simp
    have jn := join_nil [32] acc (fun x h => (hx x h).2)
    have hjl := mJoin_len [32] 10 (by simp) acc (fun x h => (hx x h).1)
    by_cases ht : t = -1000
    · have r := ih acc (by simp; omega) hx
      rw [hpl] at r
      rw [mPieces, if_pos ht]
      refine Ev.step (fun k => ?_) r
      simp only [spec_FormatMapping.l0]
      rw [if_pos (lt_of e), if_pos (len_nonneg _), rd_of e, if_pos ht, w64 (by omega) (by omega)]
    · rw [mPieces, if_neg ht]
      have jbad : Ev (fun k => spec_FormatMapping.j1 k m (strOfNums (mJoin [32] acc)) (pre.length : Int) true) (strOfNums []) := evn fun k => by
        simp only [spec_FormatMapping.j1]
        rw [if_pos trivial]; rfl
      by_cases hT : mIsTerm t = true
      · by_cases hv : mIsVar (pre.length : Int) = true
        · rw [if_pos ⟨hv, hT⟩]
          have hne : mFmtTerm (pre.length : Int) ++ [61] ++ mFmtTerm t ≠ [] := by simp
          have r := ih (acc ++ [mFmtTerm (pre.length : Int) ++ [61] ++ mFmtTerm t]) (by simp; omega) (fun x hx' => by
            rcases List.mem_append.1 hx' with h | h
            · exact hx x h
            · rw [List.mem_singleton.1 h]; exact ⟨piece_len _ _, hne⟩)
          rw [hpl] at r
          have em : mMapEnd acc ((mPieces ((pre.length : Int) + 1) suf).map (fun p => (mFmtTerm (pre.length : Int) ++ [61] ++ mFmtTerm t) :: p)) = mMapEnd (acc ++ [mFmtTerm (pre.length : Int) ++ [61] ++ mFmtTerm t]) (mPieces ((pre.length : Int) + 1) suf) := by
            cases mPieces ((pre.length : Int) + 1) suf with
            | none => rfl
            | some q => simp [mMapEnd]
          rw [em]
          have h1 := term_fmt (pre.length : Int)
          have h2 := term_fmt t
          refine Ev.step (f := fun k => spec_FormatMapping.j1 k m (strOfNums (mJoin [32] acc)) (pre.length : Int) false) (fun k => ?_) ?_
          · simp only [spec_FormatMapping.l0]
            rw [if_pos (lt_of e), if_pos (len_nonneg _), rd_of e, if_neg ht, specIsTerm_eq]
            simp only [Option.bind_some]
            rw [if_pos hT, specIsVar_eq]
            simp only [Option.bind_some, hv, Bool.not_true]
          · by_cases h0 : acc = []
            · subst h0
              refine Ev.step (f := fun k => (spec_FormatTerm.f k (pre.length : Int)).bind fun u => if (strOfNums (mJoin [32] [])).size + u.size ≤ 9223372036854775807 then (if (strOfNums (mJoin [32] []) ++ u).size + 1 ≤ 9223372036854775807 then ((spec_FormatTerm.f k t).bind fun v => if ((strOfNums (mJoin [32] []) ++ u) ++ strOfNums [61]).size + v.size ≤ 9223372036854775807 then spec_FormatMapping.l0 k m (((strOfNums (mJoin [32] []) ++ u) ++ strOfNums [61]) ++ v) ((pre.length : Int) + 1) else none) else none) else none) (fun k => ?_) ?_
              · simp only [spec_FormatMapping.j1]
                rw [if_neg (by simp), str_nil, if_pos (jn.2 rfl), w64 (by omega) (by omega)]
                simp only [if_pos (len_nonneg pre), if_pos (lt_of e), rd_of e]
                rfl
              · refine evb (specFmtTerm_ev _) ?_
                simp only [← strOfNums_append, strOfNums_size]
                have z1 : (mJoin [32] ([] : List (List Int))).length + (mFmtTerm (pre.length : Int)).length ≤ 9223372036854775807 := by simp [mJoin]; omega
                have z2 : (mJoin [32] ([] : List (List Int)) ++ mFmtTerm (pre.length : Int)).length + 1 ≤ 9223372036854775807 := by simp [mJoin]; omega
                simp only [if_pos z1, if_pos z2]
                refine evb (specFmtTerm_ev t) ?_
                simp only [← strOfNums_append, strOfNums_size]
                have z3 : (mJoin [32] ([] : List (List Int)) ++ mFmtTerm (pre.length : Int) ++ [61]).length + (mFmtTerm t).length ≤ 9223372036854775807 := by simp [mJoin]; omega
                simp only [if_pos z3]
                simpa [mJoin, mJoinT] using r
            · refine Ev.step (f := fun k => (spec_FormatTerm.f k (pre.length : Int)).bind fun u => if (strOfNums (mJoin [32] acc) ++ strOfNums [32]).size + u.size ≤ 9223372036854775807 then (if ((strOfNums (mJoin [32] acc) ++ strOfNums [32]) ++ u).size + 1 ≤ 9223372036854775807 then ((spec_FormatTerm.f k t).bind fun v => if (((strOfNums (mJoin [32] acc) ++ strOfNums [32]) ++ u) ++ strOfNums [61]).size + v.size ≤ 9223372036854775807 then spec_FormatMapping.l0 k m ((((strOfNums (mJoin [32] acc) ++ strOfNums [32]) ++ u) ++ strOfNums [61]) ++ v) ((pre.length : Int) + 1) else none) else none) else none) (fun k => ?_) ?_
              · simp only [spec_FormatMapping.j1]
                rw [if_neg (by simp), str_nil, if_neg (fun h => h0 (jn.1 h)), if_pos (by rw [strOfNums_size]; omega), w64 (by omega) (by omega)]
                simp only [if_pos (len_nonneg pre), if_pos (lt_of e), rd_of e]
                rfl
              · refine evb (specFmtTerm_ev _) ?_
                simp only [← strOfNums_append, strOfNums_size]
                have z1 : (mJoin [32] acc ++ [32]).length + (mFmtTerm (pre.length : Int)).length ≤ 9223372036854775807 := by simp; omega
                have z2 : (mJoin [32] acc ++ [32] ++ mFmtTerm (pre.length : Int)).length + 1 ≤ 9223372036854775807 := by simp; omega
                simp only [if_pos z1, if_pos z2]
                refine evb (specFmtTerm_ev t) ?_
                simp only [← strOfNums_append, strOfNums_size]
                have z3 : (mJoin [32] acc ++ [32] ++ mFmtTerm (pre.length : Int) ++ [61]).length + (mFmtTerm t).length ≤ 9223372036854775807 := by simp; omega
                simp only [if_pos z3]
                rw [mJoin_snoc [32] _ acc h0] at r
                simpa using r
        · rw [if_neg (fun h => hv h.1)]
          show Ev _ (strOfNums [])
          refine Ev.step (fun k => ?_) jbad
          simp only [spec_FormatMapping.l0]
          rw [if_pos (lt_of e), if_pos (len_nonneg _), rd_of e, if_neg ht, specIsTerm_eq]
          simp only [Option.bind_some]
          rw [if_pos hT, specIsVar_eq]
          simp only [Option.bind_some, show mIsVar (pre.length : Int) = false by simpa using hv, Bool.not_false]
      · rw [if_neg (fun h => hT h.2)]
        show Ev _ (strOfNums [])
        refine Ev.step (fun k => ?_) jbad
        simp only [spec_FormatMapping.l0]
        rw [if_pos (lt_of e), if_pos (len_nonneg _), rd_of e, if_neg ht, specIsTerm_eq]
        simp only [Option.bind_some]
        rw [if_neg hT]
def mComp (n : List Int) (v : Int) : Int := if v = -1000 then -1000 else mApply n v
theorem specComp_l0 (n : List Int) (hn : n.length ≤ 17592186044415) (suf : List Int) : ∀ (pre acc : List Int), (pre ++ suf).length ≤ 17592186044415 → acc.length = pre.length →
    Ev (fun k => spec_ComposeMappings.l0 k (pre ++ suf) n acc (pre.length : Int)) (acc ++ suf.map (mComp n)) := by
  induction suf with
  | nil =>
    intro pre acc h ha
    refine evn fun k => ?_
    simp only [spec_ComposeMappings.l0, List.append_nil]
    rw [if_neg (end_not _)]; simp
  | cons a t ih =>
    intro pre acc h ha
    have hl : pre.length ≤ 140737488355328 := by simp at h; omega
    have hacc : acc.length < 17592186044416 := by simp at h; omega
    have r := ih (pre ++ [a]) (acc ++ [mComp n a]) (by simpa using h) (by simpa using ha)
    refine Ev.step (fun k => ?_) (by simpa using r)
    simp only [spec_ComposeMappings.l0]
    rw [if_pos (mid_lt _ _ _), if_pos (len_nonneg _), rd_mid, iw (a := a) hl, specApply_eq n a (by omega)]
    simp only [Option.bind_some]
    unfold mComp
    by_cases hv : a = -1000
    · simp only [if_pos hv, if_pos hacc]; simp
    · simp only [if_neg hv, if_pos hacc]; simp
theorem specComp_ev (m n : List Int) (h : m.length ≤ 17592186044415) (hn : n.length ≤ 17592186044415) : Ev (fun k => spec_ComposeMappings.f k m n) (m.map (mComp n)) := specComp_l0 n hn m [] [] (by simpa using h) rfl
theorem implComp_l0 (n : List Int) (hn : n.length ≤ 17592186044415) (suf : List Int) : ∀ (pre acc : List Int), (pre ++ suf).length ≤ 17592186044415 → acc.length = pre.length →
    Ev (fun k => impl_ComposeMappings.l0 k n acc (pre ++ suf) ((pre ++ suf).length : Int) (pre.length : Int)) (acc ++ suf.map (mComp n)) := by
  induction suf with
  | nil =>
    intro pre acc h ha
    refine evn fun k => ?_
    simp only [impl_ComposeMappings.l0, List.append_nil]
    rw [if_neg (end_not _)]; simp
  | cons a t ih =>
    intro pre acc h ha
    have hl : pre.length ≤ 140737488355328 := by simp at h; omega
    have hacc : acc.length < 17592186044416 := by simp at h; omega
    have r := ih (pre ++ [a]) (acc ++ [mComp n a]) (by simpa using h) (by simpa using ha)
    refine Ev.step (fun k => ?_) (by simpa using r)
    simp only [impl_ComposeMappings.l0]
    rw [if_pos (mid_lt _ _ _), if_pos (len_nonneg _), if_pos (mid_lt _ _ _), rd_mid, iw (a := a) hl, implApply_eq n a (by omega)]
    simp only [Option.bind_some]
    unfold mComp
    by_cases hv : a = -1000
    · subst hv; simp only [if_pos, if_pos hacc]; simp
    · simp only [if_neg hv, if_pos hacc]; simp
theorem implComp_ev (m n : List Int) (h : m.length ≤ 17592186044415) (hn : n.length ≤ 17592186044415) : Ev (fun k => impl_ComposeMappings.f k m n) (m.map (mComp n)) := by
  have r := implComp_l0 n hn m [] [] (by simpa using h) rfl
  exact r
def SOk (s : List Int) : Prop := 1 ≤ s.length ∧ s.length ≤ 20 ∧ ∀ v ∈ s, v ≤ 3
def QOk (h : List Int) (d : List S97) : Prop := h.length ≤ 1000 ∧ 1 ≤ d.length ∧ d.length ≤ 1000 ∧ ∀ x ∈ d, x.f1.length ≤ 1000
theorem l1Once_ok (c : List Int) (i h a : Int) (hc : c.length ≤ 1048576) (h0 : 0 ≤ i) (h1 : i ≤ c.length) : ∃ b i' h', spec_l1Once.f c i h a = some (b, i', h') ∧ 0 ≤ i' ∧ i' ≤ c.length := by
  unfold spec_l1Once.f
  obtain ⟨x, i1, g1, e, _, hi⟩ := l1Below_ok c i h a hc h0 h1
  rw [e]; exact ⟨_, _, _, rfl, hi⟩
theorem l2Term_ok (c : List Int) (i h : Int) (hc : c.length ≤ 1048576) (h0 : 0 ≤ i) (h1 : i ≤ c.length) : ∃ x i' h', spec_l2Term.f c i h = some (x, i', h') ∧ 0 ≤ i' ∧ i' ≤ c.length := by
  unfold spec_l2Term.f
  obtain ⟨b, i1, g1, e1, q1⟩ := l1Once_ok c i h 4 hc h0 h1
  rw [e1]
  simp only [Option.bind_some]
  cases b
  · obtain ⟨y, i2, g2, e2, _, q2⟩ := l1Below_ok c i1 g1 4 hc q1.1 q1.2
    rw [e2]; exact ⟨_, _, _, rfl, q2⟩
  · obtain ⟨y, i2, g2, e2, _, q2⟩ := l1Below_ok c i1 g1 3 hc q1.1 q1.2
    rw [e2]; exact ⟨_, _, _, rfl, q2⟩
theorem l2Any_ok (c : List Int) (i h : Int) (hc : c.length ≤ 1048576) (h0 : 0 ≤ i) (h1 : i ≤ c.length) : ∃ x i' h', spec_l2Any.f c i h = some (x, i', h') ∧ 0 ≤ i' ∧ i' ≤ c.length := by
  unfold spec_l2Any.f
  obtain ⟨b, i1, g1, e1, q1⟩ := l1Once_ok c i h 6 hc h0 h1
  rw [e1]
  simp only [Option.bind_some]
  cases b
  · obtain ⟨y, i2, g2, e2, q2⟩ := l2Term_ok c i1 g1 hc q1.1 q1.2
    rw [e2]; exact ⟨_, _, _, rfl, q2⟩
  · obtain ⟨y, i2, g2, e2, _, q2⟩ := l1PickInt_ok c i1 g1 [19, 20, (-80), (-81), (-1), 99] hc q1.1 q1.2 (by decide)
    rw [e2]; exact ⟨_, _, _, rfl, q2⟩
theorem nSchema_l0 (c : List Int) (hc : c.length ≤ 1048576) : ∀ (n : Nat) (acc : List Int) (i h : Int), acc.length + n ≤ 10 → 1 ≤ acc.length → (∀ v ∈ acc, v ≤ 3) → 0 ≤ i → i ≤ c.length →
    ∃ s i' h', Ev (fun k => spec_l3Schema.l0 k (n : Int) c i h acc) (s, i', h') ∧ SOk s ∧ 0 ≤ i' ∧ i' ≤ c.length := by
  intro n
  induction n with
  | zero =>
    intro acc i h ha hp hv h0 h1
    refine ⟨acc, i, h, evn fun k => ?_, ⟨hp, by omega, hv⟩, h0, h1⟩
    simp only [spec_l3Schema.l0]
    rw [if_neg (by omega)]
  | succ n ih =>
    intro acc i h ha hp hv h0 h1
    obtain ⟨x, i1, g1, e1, hx, hi1⟩ := l1Below_ok c i h 3 hc h0 h1
    have hx2 := hx.2.1 (by omega)
    have hw1 : wrap64 (1 + x) = 1 + x := w64 (by omega) (by omega)
    obtain ⟨s, i', h', r, hs⟩ := ih (acc ++ [1 + x]) i1 g1 (by simp; omega) (by simp) (fun v hv2 => by
      rcases List.mem_append.1 hv2 with q | q
      · exact hv v q
      · rw [List.mem_singleton.1 q]; omega) hi1.1 hi1.2
    refine ⟨s, i', h', Ev.step (fun k => spec_l3Schema.l0.eq_2 ..) ?_, hs⟩
    have hw : wrap64 (((n + 1 : Nat) : Int) - 1) = (n : Int) := by rw [w64 (by omega) (by omega)]; omega
    simp only [if_pos (show ((n + 1 : Nat) : Int) > 0 by omega), e1, Option.bind_some, if_pos (show acc.length < 17592186044416 by omega), hw, hw1]
    exact r
theorem nSchema_ok (c : List Int) (i h : Int) (hc : c.length ≤ 1048576) (h0 : 0 ≤ i) (h1 : i ≤ c.length) : ∃ s i' h', Ev (fun k => spec_l3Schema.f k c i h) (s, i', h') ∧ SOk s ∧ 0 ≤ i' ∧ i' ≤ c.length := by
  unfold spec_l3Schema.f
  obtain ⟨x, i1, g1, e1, hx, hi1⟩ := l1Below_ok c i h 3 hc h0 h1
  obtain ⟨n, rfl⟩ := Int.eq_ofNat_of_zero_le hx.1
  have hx2 := hx.2.1 (by omega)
  simp only [e1, Option.bind_some]
  exact nSchema_l0 c hc n [2] i1 g1 (by simp; omega) (by simp) (fun v hv => by rw [List.mem_singleton.1 hv]; omega) hi1.1 hi1.2
theorem nAny_ok (c : List Int) (i h : Int) (hc : c.length ≤ 1048576) (h0 : 0 ≤ i) (h1 : i ≤ c.length) : ∃ s i' h', Ev (fun k => spec_l3Any.f k c i h) (s, i', h') ∧ s.length ≤ 1000 ∧ 0 ≤ i' ∧ i' ≤ c.length := by
  unfold spec_l3Any.f
  obtain ⟨s, i2, g2, r, hs, hi2⟩ := nSchema_ok c i h hc h0 h1
  obtain ⟨y, i3, g3, e3, hy, hi3⟩ := l1Below_ok c i2 g2 10 hc hi2.1 hi2.2
  obtain ⟨z, i4, g4, e4, hz, hi4⟩ := l1PickInt_ok c i3 g3 [0, 3, 4] hc hi3.1 hi3.2 (by decide)
  have hl := hs.2.1
  by_cases d0 : y = 0
  · refine ⟨s ++ [z], i4, g4, evb r ?_, by simp; omega, hi4⟩
    simp only [e3, Option.bind_some, if_pos d0, e4, if_pos (show s.length < 17592186044416 by omega)]
    exact evc fun k => rfl
  · by_cases d1 : y = 1
    · refine ⟨[], i3, g3, evb r ?_, by simp, hi3⟩
      simp only [e3, Option.bind_some, if_neg d0, if_pos d1]
      exact evc fun k => rfl
    · by_cases d2 : y = 2
      · refine ⟨[1, 2, 3, 1, 2], i3, g3, evb r ?_, by simp, hi3⟩
        simp only [e3, Option.bind_some, if_neg d0, if_neg d1, if_pos d2]
        exact evc fun k => rfl
      · refine ⟨s, i3, g3, evb r ?_, by omega, hi3⟩
        simp only [e3, Option.bind_some, if_neg d0, if_neg d1, if_neg d2]
        exact evc fun k => rfl
theorem nAtom_l0 (c s : List Int) (hc : c.length ≤ 1048576) (r : Int) (r0 : 0 ≤ r) (r1 : r < (s.length : Int)) (hr : rd s r ≤ 3) : ∀ (n : Nat) (acc : List Int) (i h : Int), rd s r ≤ (acc.length : Int) + n → acc.length ≤ 3 → 0 ≤ i → i ≤ c.length →
    ∃ l i' h', Ev (fun k => spec_l3Atom.l0 k (acc.length : Int) c i h s r acc) (r, l, i', h') ∧ l.length ≤ 3 ∧ 0 ≤ i' ∧ i' ≤ c.length := by
  intro n
  induction n with
  | zero =>
    intro acc i h hn ha h0 h1
    refine ⟨acc, i, h, evn fun k => ?_, ha, h0, h1⟩
    simp only [spec_l3Atom.l0]
    rw [if_pos r0, if_pos r1, if_neg (by omega)]
  | succ n ih =>
    intro acc i h hn ha h0 h1
    by_cases c1 : (acc.length : Int) < rd s r
    · obtain ⟨x, i1, g1, e1, hi1⟩ := l2Term_ok c i h hc h0 h1
      obtain ⟨l, i', h', q, hl⟩ := ih (acc ++ [x]) i1 g1 (by simp; omega) (by simp; omega) hi1.1 hi1.2
      refine ⟨l, i', h', Ev.step (fun k => spec_l3Atom.l0.eq_2 ..) ?_, hl⟩
      have hw : wrap64 ((acc.length : Int) + 1) = ((acc ++ [x]).length : Int) := by rw [w64 (by omega) (by omega)]; simp
      simp only [if_pos r0, if_pos r1, if_pos c1, e1, Option.bind_some, if_pos (show acc.length < 17592186044416 by omega), hw]
      exact q
    · refine ⟨acc, i, h, evn fun k => ?_, ha, h0, h1⟩
      simp only [spec_l3Atom.l0]
      rw [if_pos r0, if_pos r1, if_neg c1]
theorem nAtom_ok (c : List Int) (i h : Int) (s : List Int) (hs : SOk s) (hc : c.length ≤ 1048576) (h0 : 0 ≤ i) (h1 : i ≤ c.length) : ∃ r l i' h', Ev (fun k => spec_l3Atom.f k c i h s) (r, l, i', h') ∧ l.length ≤ 3 ∧ 0 ≤ i' ∧ i' ≤ c.length := by
  unfold spec_l3Atom.f
  obtain ⟨x, i1, g1, e1, hx, hi1⟩ := l1Below_ok c i h (s.length : Int) hc h0 h1
  have hx2 := hx.2.1 (by have := hs.1; omega)
  have hr : rd s x ≤ 3 := by
    have hl : x.toNat < s.length := by omega
    have : rd s x = s[x.toNat] := by simp [rd, List.getD_eq_getElem?_getD, List.getElem?_eq_getElem hl]
    rw [this]; exact hs.2.2 _ (List.getElem_mem _)
  obtain ⟨l, i', h', q, hl⟩ := nAtom_l0 c s hc x hx.1 hx2 hr 3 [] i1 g1 (by simp; omega) (by simp) hi1.1 hi1.2
  refine ⟨x, l, i', h', ?_, hl⟩
  simp only [e1, Option.bind_some]
  exact q
theorem nQuery_l1 (c : List Int) (hc : c.length ≤ 1048576) (v : List Int) (d : List S97) : ∀ (n : Nat) (acc : List Int) (i h : Int), acc.length + n ≤ 10 → 0 ≤ i → i ≤ c.length →
    ∃ l i' h', Ev (fun k => spec_l4Query.l1 k v (n : Int) c i h acc d) (l, d, i', h') ∧ l.length ≤ 10 ∧ 0 ≤ i' ∧ i' ≤ c.length := by
  intro n
  induction n with
  | zero =>
    intro acc i h ha h0 h1
    refine ⟨acc, i, h, evn fun k => ?_, by omega, h0, h1⟩
    simp only [spec_l4Query.l1]
    rw [if_neg (by omega)]
  | succ n ih =>
    intro acc i h ha h0 h1
    obtain ⟨x, i1, g1, e1, hx, hi1⟩ := l1Below_ok c i h 3 hc h0 h1
    have hw : wrap64 (((n + 1 : Nat) : Int) - 1) = (n : Int) := by rw [w64 (by omega) (by omega)]; omega
    have hp : ((n + 1 : Nat) : Int) > 0 := by omega
    have hl : acc.length < 17592186044416 := by omega
    have next := fun (t i2 g2 : Int) (q : 0 ≤ i2 ∧ i2 ≤ c.length) => ih (acc ++ [t]) i2 g2 (by simp; omega) q.1 q.2
    by_cases c1 : (v.length : Int) > 0
    · obtain ⟨b, i2, g2, e2, hi2⟩ := l1Once_ok c i1 g1 8 hc hi1.1 hi1.2
      cases b
      · obtain ⟨y, i3, g3, e3, hy, hi3⟩ := l1Below_ok c i2 g2 (v.length : Int) hc hi2.1 hi2.2
        obtain ⟨l, i', h', r, hr⟩ := next (rd v y) i3 g3 hi3
        refine ⟨l, i', h', Ev.step (fun k => spec_l4Query.l1.eq_2 ..) ?_, hr⟩
        simp only [if_pos hp, e1, Option.bind_some, if_pos c1, e2, Bool.false_eq_true, if_false, e3, if_pos hy.1, if_pos (hy.2.1 c1), if_pos hl, hw]
        exact r
      · obtain ⟨l, i', h', r, hr⟩ := next (wrap64 ((-1) - x)) i2 g2 hi2
        refine ⟨l, i', h', Ev.step (fun k => spec_l4Query.l1.eq_2 ..) ?_, hr⟩
        simp only [if_pos hp, e1, Option.bind_some, if_pos c1, e2, if_true, if_pos hl, hw]
        exact r
    · obtain ⟨l, i', h', r, hr⟩ := next (wrap64 ((-1) - x)) i1 g1 hi1
      refine ⟨l, i', h', Ev.step (fun k => spec_l4Query.l1.eq_2 ..) ?_, hr⟩
      simp only [if_pos hp, e1, Option.bind_some, if_neg c1, if_pos hl, hw]
      exact r
theorem nQuery_l0 (c s : List Int) (hs : SOk s) (hc : c.length ≤ 1048576) : ∀ (n : Nat) (d : List S97) (i h : Int), d.length + n ≤ 10 → 1 ≤ d.length + n → (∀ x ∈ d, x.f1.length ≤ 3) → 0 ≤ i → i ≤ c.length →
    ∃ l d' i' h', Ev (fun k => spec_l4Query.l0 k (n : Int) c i h s d) (l, d', i', h') ∧ QOk l d' ∧ 0 ≤ i' ∧ i' ≤ c.length := by
  intro n
  induction n with
  | zero =>
    intro d i h ha hp hd h0 h1
    obtain ⟨v, hv⟩ : ∃ v, Ev (fun k => spec_l4BodyVars.f k ([] : List Int) d) v := ⟨_, bodyVars_ev [] d (by omega) (fun x hx => by have := hd x hx; omega)⟩
    obtain ⟨x, i1, g1, e1, hx, hi1⟩ := l1Below_ok c i h 3 hc h0 h1
    obtain ⟨m, rfl⟩ := Int.eq_ofNat_of_zero_le hx.1
    have hx2 := hx.2.1 (by omega)
    obtain ⟨l, i', h', r, hl, hi⟩ := nQuery_l1 c hc v d m [] i1 g1 (by simp; omega) hi1.1 hi1.2
    refine ⟨l, d, i', h', Ev.step (fun k => spec_l4Query.l0.eq_2 ..) ?_, ⟨by omega, by omega, by omega, fun x hx => by have := hd x hx; omega⟩, hi⟩
    simp only [if_neg (show ¬ ((0 : Nat) : Int) > 0 by omega)]
    refine evb hv ?_
    simp only [e1, Option.bind_some]
    exact r
  | succ n ih =>
    intro d i h ha hp hd h0 h1
    obtain ⟨x, l, i1, g1, e1, hl, hi1⟩ := nAtom_ok c i h s hs hc h0 h1
    have hw : wrap64 (((n + 1 : Nat) : Int) - 1) = (n : Int) := by rw [w64 (by omega) (by omega)]; omega
    obtain ⟨l2, d', i', h', r, hr⟩ := ih (d ++ [⟨x, l⟩]) i1 g1 (by simp; omega) (by simp; omega) (fun y hy => by
      rcases List.mem_append.1 hy with q | q
      · exact hd y q
      · rw [List.mem_singleton.1 q]; exact hl) hi1.1 hi1.2
    refine ⟨l2, d', i', h', Ev.step (fun k => spec_l4Query.l0.eq_2 ..) ?_, hr⟩
    simp only [if_pos (show ((n + 1 : Nat) : Int) > 0 by omega)]
    refine evb e1 ?_
    simp only [if_pos (show d.length < 4398046511104 by omega), hw]
    exact r
theorem nQuery_ok (c : List Int) (i h : Int) (s : List Int) (hs : SOk s) (hc : c.length ≤ 1048576) (h0 : 0 ≤ i) (h1 : i ≤ c.length) : ∃ l d i' h', Ev (fun k => spec_l4Query.f k c i h s) (l, d, i', h') ∧ QOk l d ∧ 0 ≤ i' ∧ i' ≤ c.length := by
  unfold spec_l4Query.f
  obtain ⟨x, i1, g1, e1, hx, hi1⟩ := l1Below_ok c i h 3 hc h0 h1
  obtain ⟨m, rfl⟩ := Int.eq_ofNat_of_zero_le hx.1
  have hx2 := hx.2.1 (by omega)
  have hw : wrap64 (1 + (m : Int)) = ((m + 1 : Nat) : Int) := by rw [w64 (by omega) (by omega)]; omega
  simp only [e1, Option.bind_some, hw]
  exact nQuery_l0 c s hs hc (m + 1) [] i1 g1 (by simp; omega) (by simp) (fun x hx => by cases hx) hi1.1 hi1.2
theorem nRename_ok {h : List Int} {d : List S97} (q : QOk h d) (tl : List Int) (ht : tl.length ≤ 1000) : ∃ l d', Ev (fun k => spec_RenameQuery.f k h d tl) (l, d') ∧ QOk l d' := by
  obtain ⟨q1, q2, q3, q4⟩ := q
  refine ⟨_, _, renameQ_ev h d tl (by omega) (by omega) (fun x hx => by have := q4 x hx; omega) (by omega), by simpa using q1, by simpa using q2, by simpa using q3, fun x hx => ?_⟩
  obtain ⟨y, hy, rfl⟩ := List.mem_map.1 hx
  simpa [tA, tF] using q4 y hy
theorem nCopy_ok {h : List Int} {d : List S97} (q : QOk h d) : ∃ l d', Ev (fun k => spec_l4Copy.f k h d) (l, d') ∧ QOk l d' := by
  obtain ⟨l, d', r, q'⟩ := nRename_ok q [] (by simp)
  refine ⟨l, d', ?_, q'⟩
  unfold spec_l4Copy.f
  refine evb r ?_
  exact evc fun k => rfl
def nearX (k : Nat) (c s qh : List Int) (qd : List S97) (x : List Int × List S97) (y : Int × Int × Int) : Option (List Int × List S97 × Int × Int) :=
  if y.1 = 0 then if 1 < x.2.length then some (x.1, x.2.drop 1, y.2.1, y.2.2) else some (x.1, x.2, y.2.1, y.2.2)
  else if y.1 = 1 then if x.2.length < 4 then (spec_l3Atom.f k c y.2.1 y.2.2 s).bind fun a => some (x.1, x.2 ++ [⟨a.1, a.2.1⟩], a.2.2.1, a.2.2.2) else some (x.1, x.2, y.2.1, y.2.2)
  else if y.1 = 2 then (spec_RenameQuery.f k x.1 x.2 [3, 2, 1, 0]).bind fun z => some (z.1, z.2, y.2.1, y.2.2)
  else if y.1 = 3 then (spec_l2Term.f c y.2.1 y.2.2).bind fun t => (spec_l2Term.f c t.2.1 t.2.2).bind fun u => (spec_RenameQuery.f k x.1 x.2 [t.1, u.1]).bind fun z => some (z.1, z.2, u.2.1, u.2.2)
  else if y.1 = 4 then if 1 < x.2.length then if x.2.length < 1000000 then some (x.1, x.2.drop 1 ++ [x.2.getD 0 z97], y.2.1, y.2.2) else none else some (x.1, x.2, y.2.1, y.2.2)
  else if y.1 = 5 then if x.2.length < 4 then (spec_RenameQuery.f k qh qd [5, 6, 7]).bind fun z => if 0 < z.2.length then some (x.1, x.2 ++ [z.2.getD 0 z97], y.2.1, y.2.2) else none else some (x.1, x.2, y.2.1, y.2.2)
  else (spec_l4Query.f k c y.2.1 y.2.2 s).bind fun z => some (z.1, z.2.1, z.2.2.1, z.2.2.2)
def near_f (k : Nat) (c : List Int) (i h : Int) (s qh : List Int) (qd : List S97) : Option (List Int × List S97 × Int × Int) :=
  (spec_l4Copy.f k qh qd).bind fun x => (spec_l1Below.f c i h 7).bind fun y => (nearX k c s qh qd x y).bind fun z => (spec_IsQuery.f k s z.1 z.2.1).bind fun b =>
    if b = true then some z else (spec_l4Copy.f k qh qd).bind fun q => some (q.1, q.2, z.2.2.1, z.2.2.2)
theorem QOk.add {h : List Int} {d : List S97} (q : QOk h d) {a : S97} (ha : a.f1.length ≤ 1000) (hl : d.length < 1000) : QOk h (d ++ [a]) :=
  ⟨q.1, by simp, by simp; omega, fun x hx => by
    rcases List.mem_append.1 hx with r | r
    · exact q.2.2.2 x r
    · rw [List.mem_singleton.1 r]; exact ha⟩
theorem QOk.get {h : List Int} {d : List S97} (q : QOk h d) : (d.getD 0 z97).f1.length ≤ 1000 := by
  have hl : 0 < d.length := q.2.1
  rw [List.getD_eq_getElem?_getD, List.getElem?_eq_getElem hl]
  exact q.2.2.2 _ (List.getElem_mem _)
theorem nearX_ok (c s : List Int) (hs : SOk s) (hc : c.length ≤ 1048576) {qh : List Int} {qd : List S97} (q : QOk qh qd) {x : List Int × List S97} (qx : QOk x.1 x.2) (y i h : Int) (h0 : 0 ≤ i) (h1 : i ≤ c.length) :
    ∃ l d i' h', Ev (fun k => nearX k c s qh qd x (y, i, h)) (l, d, i', h') ∧ QOk l d ∧ 0 ≤ i' ∧ i' ≤ c.length := by
  unfold nearX
  dsimp only
  by_cases c0 : y = 0
  · simp only [if_pos c0]
    by_cases hl : 1 < x.2.length
    · simp only [if_pos hl]
      exact ⟨_, _, _, _, evc fun k => rfl, ⟨qx.1, by simp; omega, by have := qx.2.2.1; simp; omega, fun a ha => qx.2.2.2 a (List.mem_of_mem_drop ha)⟩, h0, h1⟩
    · simp only [if_neg hl]
      exact ⟨_, _, _, _, evc fun k => rfl, qx, h0, h1⟩
  simp only [if_neg c0]
  by_cases c1 : y = 1
  · simp only [if_pos c1]
    by_cases hl : x.2.length < 4
    · simp only [if_pos hl]
      obtain ⟨r, l, i1, g1, e1, k1, k2⟩ := nAtom_ok c i h s hs hc h0 h1
      exact ⟨_, _, _, _, evb e1 (evc fun k => rfl), qx.add (by show l.length ≤ 1000; omega) (by omega), k2⟩
    · simp only [if_neg hl]
      exact ⟨_, _, _, _, evc fun k => rfl, qx, h0, h1⟩
  simp only [if_neg c1]
  by_cases c2 : y = 2
  · simp only [if_pos c2]
    obtain ⟨l, d, e1, q1⟩ := nRename_ok qx [3, 2, 1, 0] (by simp)
    exact ⟨_, _, _, _, evb e1 (evc fun k => rfl), q1, h0, h1⟩
  simp only [if_neg c2]
  by_cases c3 : y = 3
  · simp only [if_pos c3]
    obtain ⟨t, i1, g1, e1, k1⟩ := l2Term_ok c i h hc h0 h1
    obtain ⟨u, i2, g2, e2, k2⟩ := l2Term_ok c i1 g1 hc k1.1 k1.2
    obtain ⟨l, d, e3, q1⟩ := nRename_ok qx [t, u] (by simp)
    refine ⟨l, d, i2, g2, ?_, q1, k2⟩
    simp only [e1, Option.bind_some, e2]
    exact evb e3 (evc fun k => rfl)
  simp only [if_neg c3]
  by_cases c4 : y = 4
  · simp only [if_pos c4]
    by_cases hl : 1 < x.2.length
    · simp only [if_pos hl, if_pos (show x.2.length < 1000000 by have := qx.2.2.1; omega)]
      exact ⟨_, _, _, _, evc fun k => rfl, QOk.add ⟨qx.1, by simp; omega, by have := qx.2.2.1; simp; omega, fun a ha => qx.2.2.2 a (List.mem_of_mem_drop ha)⟩ qx.get (by have := qx.2.2.1; simp; omega), h0, h1⟩
    · simp only [if_neg hl]
      exact ⟨_, _, _, _, evc fun k => rfl, qx, h0, h1⟩
  simp only [if_neg c4]
  by_cases c5 : y = 5
  · simp only [if_pos c5]
    by_cases hl : x.2.length < 4
    · simp only [if_pos hl]
      obtain ⟨l, d, e1, q1⟩ := nRename_ok q [5, 6, 7] (by simp)
      refine ⟨x.1, x.2 ++ [d.getD 0 z97], i, h, evb e1 ?_, qx.add q1.get (by omega), h0, h1⟩
      simp only [if_pos (show 0 < d.length from q1.2.1)]
      exact evc fun k => rfl
    · simp only [if_neg hl]
      exact ⟨_, _, _, _, evc fun k => rfl, qx, h0, h1⟩
  simp only [if_neg c5]
  obtain ⟨l, d, i1, g1, e1, q1, k1⟩ := nQuery_ok c i h s hs hc h0 h1
  exact ⟨_, _, _, _, evb e1 (evc fun k => rfl), q1, k1⟩
theorem near_ok (c : List Int) (i h : Int) (s : List Int) (hs : SOk s) (hc : c.length ≤ 1048576) {qh : List Int} {qd : List S97} (q : QOk qh qd) (h0 : 0 ≤ i) (h1 : i ≤ c.length) :
    ∃ l d i' h', Ev (fun k => near_f k c i h s qh qd) (l, d, i', h') ∧ QOk l d ∧ 0 ≤ i' ∧ i' ≤ c.length := by
  unfold near_f
  obtain ⟨xl, xd, e1, q1⟩ := nCopy_ok q
  obtain ⟨y, i1, g1, e2, _, k2⟩ := l1Below_ok c i h 7 hc h0 h1
  obtain ⟨l, d, i2, g2, e3, q3, k3⟩ := nearX_ok c s hs hc q (x := (xl, xd)) q1 y i1 g1 k2.1 k2.2
  have e4 := specIsQuery_ev s l d (by have := hs.2.1; omega) (by have := q3.1; omega) (by have := q3.2.2.1; omega) (fun x hx => by have := q3.2.2.2 x hx; omega)
  cases hb : mIsQuery s l d
  · rw [hb] at e4
    refine ⟨xl, xd, i2, g2, evb e1 ?_, q1, k3⟩
    simp only [e2, Option.bind_some]
    refine evb e3 (evb e4 ?_)
    simp only [Bool.false_eq_true, if_false]
    exact evb e1 (evc fun k => rfl)
  · rw [hb] at e4
    refine ⟨l, d, i2, g2, evb e1 ?_, q3, k3⟩
    simp only [e2, Option.bind_some]
    refine evb e3 (evb e4 ?_)
    simp only [if_true]
    exact evc fun k => rfl
def pairZ (k : Nat) (c s h : List Int) (y : Int × Int × Int) : Option (List Int × List Int × Int × Int) :=
  if y.1 = 0 then (if h.length < 1000000 then (spec_l2Any.f c y.2.1 y.2.2).bind fun t => some (s, h ++ [t.1], t.2.1, t.2.2) else none)
  else if y.1 = 1 then (spec_l3Any.f k c y.2.1 y.2.2).bind fun z => some (z.1, h, z.2.1, z.2.2) else some (s, h, y.2.1, y.2.2)
def pair_f (k : Nat) (c : List Int) (i h : Int) : Option (List Int × List Int × List S97 × List Int × List S97 × Int × Int) :=
  (spec_l3Schema.f k c i h).bind fun s => (spec_l4Query.f k c s.2.1 s.2.2 s.1).bind fun a => (near_f k c a.2.2.1 a.2.2.2 s.1 a.1 a.2.1).bind fun b => (spec_l1Once.f c b.2.2.1 b.2.2.2 3).bind fun o =>
    (if o.1 = true then near_f k c o.2.1 o.2.2 s.1 b.1 b.2.1 else some (b.1, b.2.1, o.2.1, o.2.2)).bind fun e => (spec_l1Below.f c e.2.2.1 e.2.2.2 16).bind fun y => (pairZ k c s.1 e.1 y).bind fun z =>
      (spec_l1Once.f c z.2.2.1 z.2.2.2 2).bind fun p => if p.1 = true then some (z.1, z.2.1, e.2.1, a.1, a.2.1, p.2.1, p.2.2) else some (z.1, a.1, a.2.1, z.2.1, e.2.1, p.2.1, p.2.2)
def QOk2 (h : List Int) (d : List S97) : Prop := h.length ≤ 1048576 ∧ d.length ≤ 1048576 ∧ ∀ x ∈ d, x.f1.length ≤ 1048576
theorem QOk.two {h h' : List Int} {d : List S97} (q : QOk h d) (hl : h'.length ≤ 1048576) : QOk2 h' d := ⟨hl, by have := q.2.2.1; omega, fun x hx => by have := q.2.2.2 x hx; omega⟩
theorem pairZ_ok (c s h : List Int) (hs : SOk s) (hh : h.length ≤ 1000) (hc : c.length ≤ 1048576) (y i g : Int) (h0 : 0 ≤ i) (h1 : i ≤ c.length) :
    ∃ s' l i' h', Ev (fun k => pairZ k c s h (y, i, g)) (s', l, i', h') ∧ s'.length ≤ 1048576 ∧ l.length ≤ 1048576 ∧ 0 ≤ i' ∧ i' ≤ c.length := by
  unfold pairZ
  dsimp only
  have hl := hs.2.1
  by_cases c0 : y = 0
  · simp only [if_pos c0, if_pos (show h.length < 1000000 by omega)]
    obtain ⟨t, i1, g1, e1, k1⟩ := l2Any_ok c i g hc h0 h1
    refine ⟨s, h ++ [t], i1, g1, ?_, by omega, by simp; omega, k1⟩
    simp only [e1, Option.bind_some]
    exact evc fun k => rfl
  simp only [if_neg c0]
  by_cases c1 : y = 1
  · simp only [if_pos c1]
    obtain ⟨z, i1, g1, e1, k0, k1⟩ := nAny_ok c i g hc h0 h1
    exact ⟨_, _, _, _, evb e1 (evc fun k => rfl), by show z.length ≤ _; omega, by show h.length ≤ _; omega, k1⟩
  · simp only [if_neg c1]
    exact ⟨_, _, _, _, evc fun k => rfl, by omega, by omega, h0, h1⟩
theorem pair_ok (c : List Int) (i h : Int) (hc : c.length ≤ 1048576) (h0 : 0 ≤ i) (h1 : i ≤ c.length) :
    ∃ s l d l2 d2 i' h', Ev (fun k => pair_f k c i h) (s, l, d, l2, d2, i', h') ∧ s.length ≤ 1048576 ∧ QOk2 l d ∧ QOk2 l2 d2 ∧ 0 ≤ i' ∧ i' ≤ c.length := by
  unfold pair_f
  obtain ⟨s, i1, g1, e1, hs, k1⟩ := nSchema_ok c i h hc h0 h1
  obtain ⟨al, ad, i2, g2, e2, qa, k2⟩ := nQuery_ok c i1 g1 s hs hc k1.1 k1.2
  obtain ⟨bl, bd, i3, g3, e3, qb, k3⟩ := near_ok c i2 g2 s hs hc qa k2.1 k2.2
  obtain ⟨o, i4, g4, e4, k4⟩ := l1Once_ok c i3 g3 3 hc k3.1 k3.2
  obtain ⟨el, ed, i5, g5, e5, qe, k5⟩ : ∃ l d i' h', Ev (fun k => if o = true then near_f k c i4 g4 s bl bd else some (bl, bd, i4, g4)) (l, d, i', h') ∧ QOk l d ∧ 0 ≤ i' ∧ i' ≤ c.length := by
    cases o
    · exact ⟨bl, bd, i4, g4, evc fun k => rfl, qb, k4⟩
    · simp only [if_true]; exact near_ok c i4 g4 s hs hc qb k4.1 k4.2
  obtain ⟨y, i6, g6, e6, _, k6⟩ := l1Below_ok c i5 g5 16 hc k5.1 k5.2
  obtain ⟨s', l', i7, g7, e7, hs', hl', k7⟩ := pairZ_ok c s el hs qe.1 hc y i6 g6 k6.1 k6.2
  obtain ⟨p, i8, g8, e8, k8⟩ := l1Once_ok c i7 g7 2 hc k7.1 k7.2
  have qa2 : QOk2 al ad := qa.two (by have := qa.1; omega)
  have qe2 : QOk2 l' ed := qe.two hl'
  cases p
  · refine ⟨s', al, ad, l', ed, i8, g8, evb e1 (evb e2 (evb e3 ?_)), hs', qa2, qe2, k8⟩
    simp only [e4, Option.bind_some]
    refine evb e5 ?_
    simp only [e6, Option.bind_some]
    refine evb e7 ?_
    simp only [e8, Option.bind_some, Bool.false_eq_true, if_false]
    exact evc fun k => rfl
  · refine ⟨s', l', ed, al, ad, i8, g8, evb e1 (evb e2 (evb e3 ?_)), hs', qe2, qa2, k8⟩
    simp only [e4, Option.bind_some]
    refine evb e5 ?_
    simp only [e6, Option.bind_some]
    refine evb e7 ?_
    simp only [e8, Option.bind_some, if_true]
    exact evc fun k => rfl
def drawFind_f (k : Nat) (code : List Int) : Option (List Int × List Int × List S97 × List Int × List S97) :=
  (spec_l1New.f k code).bind fun n => (pair_f k n.1 n.2.1 n.2.2).bind fun p => some (p.1, p.2.1, p.2.2.1, p.2.2.2.1, p.2.2.2.2.1)
theorem drawFind_ok (code : List Int) (hc : code.length ≤ 1048576) : ∃ s l d l2 d2, Ev (fun k => drawFind_f k code) (s, l, d, l2, d2) ∧ s.length ≤ 1048576 ∧ QOk2 l d ∧ QOk2 l2 d2 := by
  unfold drawFind_f
  obtain ⟨g, r⟩ := l1New_ok code hc
  obtain ⟨s, l, d, l2, d2, i', h', e, k1, k2, k3, _⟩ := pair_ok code 0 g hc (by omega) (by omega)
  exact ⟨s, l, d, l2, d2, evb r (evb e (evc fun k => rfl)), k1, k2, k3⟩
def touch (c m : List Int) (o : Bool × Int × Int) : Option (List Int × Int × Int) :=
  if o.1 = true then (spec_l1Below.f c o.2.1 o.2.2 (m.length : Int)).bind fun x => (spec_l2Any.f c x.2.1 x.2.2).bind fun t => if 0 ≤ x.1 ∧ x.1 < (m.length : Int) then some (m.set x.1.toNat t.1, t.2.1, t.2.2) else none else some (m, o.2.1, o.2.2)
def theM (p : List Int × Bool) : List Int := if p.2 = true then p.1 else mNone
def drawIs_f (k : Nat) (code : List Int) : Option (List Int × List Int × List S97 × List Int × List S97 × List Int) :=
  (spec_l1New.f k code).bind fun n => (pair_f k n.1 n.2.1 n.2.2).bind fun p => (spec_l1Once.f n.1 p.2.2.2.2.2.1 p.2.2.2.2.2.2 3).bind fun o => (touch n.1 (theM (mFindQ p.1 p.2.1 p.2.2.1 p.2.2.2.1 p.2.2.2.2.1)) o).bind fun m =>
    (spec_l1Once.f n.1 m.2.1 m.2.2 14).bind fun u => some (p.1, p.2.1, p.2.2.1, p.2.2.2.1, p.2.2.2.2.1, if u.1 = true then m.1.drop 1 else m.1)
theorem mFindQ_20 {s h : List Int} {d : List S97} {h2 : List Int} {d2 : List S97} (hf : (mFindQ s h d h2 d2).2 = true) : (mFindQ s h d h2 d2).1.length = 20 := by
  unfold mFindQ at hf ⊢
  split
  · rename_i c
    rw [if_pos c] at hf
    unfold mFind at hf ⊢
    split
    · rename_i c2
      rw [if_pos c2] at hf
      cases e : mTry d2 d (mUni h h2 mNone).1 with
      | none => rw [e] at hf; simp at hf
      | some m => simp only []; rw [mTry_len d2 d _ _ e, mUni_len]; rfl
    · rename_i c2
      rw [if_neg c2] at hf
      simp at hf
  · rename_i c
    rw [if_neg c] at hf
    simp at hf
theorem theM_len (s h : List Int) (d : List S97) (h2 : List Int) (d2 : List S97) : (theM (mFindQ s h d h2 d2)).length = 20 := by
  unfold theM
  split
  · rename_i c; exact mFindQ_20 c
  · rfl
theorem touch_ok (c m : List Int) (hm : m.length = 20) (o : Bool × Int × Int) (hc : c.length ≤ 1048576) (h0 : 0 ≤ o.2.1) (h1 : o.2.1 ≤ c.length) : ∃ m' i h, touch c m o = some (m', i, h) ∧ m'.length = 20 ∧ 0 ≤ i ∧ i ≤ c.length := by
  unfold touch
  by_cases c0 : o.1 = true
  · rw [if_pos c0]
    obtain ⟨x, i1, g1, e1, hx, k1⟩ := l1Below_ok c o.2.1 o.2.2 (m.length : Int) hc h0 h1
    obtain ⟨t, i2, g2, e2, k2⟩ := l2Any_ok c i1 g1 hc k1.1 k1.2
    rw [e1]
    simp only [Option.bind_some, e2]
    rw [if_pos ⟨hx.1, hx.2.1 (by omega)⟩]
    exact ⟨_, _, _, rfl, by simp [hm], k2⟩
  · rw [if_neg c0]
    exact ⟨_, _, _, rfl, hm, h0, h1⟩
theorem drawIs_ok (code : List Int) (hc : code.length ≤ 1048576) : ∃ s l d l2 d2 m, Ev (fun k => drawIs_f k code) (s, l, d, l2, d2, m) ∧ s.length ≤ 1048576 ∧ QOk2 l d ∧ QOk2 l2 d2 ∧ m.length ≤ 20 := by
  unfold drawIs_f
  obtain ⟨g, r⟩ := l1New_ok code hc
  obtain ⟨s, l, d, l2, d2, i', h', e, k1, k2, k3, k4⟩ := pair_ok code 0 g hc (by omega) (by omega)
  obtain ⟨o, i1, g1, e1, q1⟩ := l1Once_ok code i' h' 3 hc k4.1 k4.2
  obtain ⟨m, i2, g2, e2, hm, q2⟩ := touch_ok code (theM (mFindQ s l d l2 d2)) (theM_len ..) (o, i1, g1) hc q1.1 q1.2
  obtain ⟨u, i3, g3, e3, q3⟩ := l1Once_ok code i2 g2 14 hc q2.1 q2.2
  refine ⟨s, l, d, l2, d2, if u = true then m.drop 1 else m, evb r (evb e ?_), k1, k2, k3, by
    split
    · rw [List.length_drop]; omega
    · omega⟩
  simp only [e1, Option.bind_some, e2, e3]
  exact evc fun k => rfl
theorem l7Mapping_l0 (c : List Int) (hc : c.length ≤ 1048576) : ∀ (n : Nat) (m : List Int) (i h : Int), n ≤ 10 → m.length = 20 → 0 ≤ i → i ≤ c.length →
    ∃ m' i' h', Ev (fun k => spec_l7Mapping.l0 k m (n : Int) c i h) (m', i', h') ∧ m'.length = 20 ∧ 0 ≤ i' ∧ i' ≤ c.length := by
  intro n
  induction n with
  | zero =>
    intro m i h _ hm h0 h1
    refine ⟨m, i, h, evn fun k => ?_, hm, h0, h1⟩
    simp only [spec_l7Mapping.l0]
    rw [if_neg (by omega)]
  | succ n ih =>
    intro m i h hn hm h0 h1
    obtain ⟨x, i1, g1, e1, hx, k1⟩ := l1Below_ok c i h 20 hc h0 h1
    obtain ⟨t, i2, g2, e2, k2⟩ := l2Term_ok c i1 g1 hc k1.1 k1.2
    obtain ⟨m', i', h', r, hr⟩ := ih (m.set x.toNat t) i2 g2 (by omega) (by simpa using hm) k2.1 k2.2
    refine ⟨m', i', h', Ev.step (fun k => spec_l7Mapping.l0.eq_2 ..) ?_, hr⟩
    have hw : wrap64 (((n + 1 : Nat) : Int) - 1) = (n : Int) := by rw [w64 (by omega) (by omega)]; omega
    have hx2 := hx.2.1 (by omega)
    simp only [if_pos (show ((n + 1 : Nat) : Int) > 0 by omega), e1, Option.bind_some, e2, if_pos hx.1, if_pos (show x < (m.length : Int) by omega), hw]
    exact r
theorem l7Mapping_ok (c : List Int) (i h : Int) (hc : c.length ≤ 1048576) (h0 : 0 ≤ i) (h1 : i ≤ c.length) : ∃ m i' h', Ev (fun k => spec_l7Mapping.f k c i h) (m, i', h') ∧ m.length = 20 ∧ 0 ≤ i' ∧ i' ≤ c.length := by
  unfold spec_l7Mapping.f
  obtain ⟨x, i1, g1, e1, hx, k1⟩ := l1Below_ok c i h 5 hc h0 h1
  obtain ⟨n, rfl⟩ := Int.eq_ofNat_of_zero_le hx.1
  have hx2 := hx.2.1 (by omega)
  obtain ⟨m, i', h', r, hr⟩ := l7Mapping_l0 c hc n mNone i1 g1 (by omega) rfl k1.1 k1.2
  refine ⟨m, i', h', evb l7Empty_ev ?_, hr⟩
  simp only [e1, Option.bind_some]
  exact r
theorem drawApply_ok (code : List Int) (hc : code.length ≤ 1048576) : ∃ m t, Ev (fun k => spec_DrawApplyMapping.f k code) (m, t) ∧ m.length = 20 := by
  unfold spec_DrawApplyMapping.f
  obtain ⟨g, r⟩ := l1New_ok code hc
  obtain ⟨m, i1, g1, e1, hm, k1⟩ := l7Mapping_ok code 0 g hc (by omega) (by omega)
  obtain ⟨t, i2, g2, e2, k2⟩ := l2Any_ok code i1 g1 hc k1.1 k1.2
  refine ⟨m, t, evb r (evb e1 ?_), hm⟩
  simp only [e2, Option.bind_some]
  exact evc fun k => rfl
theorem drawCompose_ok (code : List Int) (hc : code.length ≤ 1048576) : ∃ m n, Ev (fun k => spec_DrawComposeMappings.f k code) (m, n) ∧ m.length = 20 ∧ n.length = 20 := by
  unfold spec_DrawComposeMappings.f
  obtain ⟨g, r⟩ := l1New_ok code hc
  obtain ⟨m, i1, g1, e1, hm, k1⟩ := l7Mapping_ok code 0 g hc (by omega) (by omega)
  obtain ⟨n, i2, g2, e2, hn, k2⟩ := l7Mapping_ok code i1 g1 hc k1.1 k1.2
  exact ⟨m, n, evb r (evb e1 (evb e2 (evc fun k => rfl))), hm, hn⟩
theorem drawFormat_ok (code : List Int) (hc : code.length ≤ 1048576) : ∃ m, Ev (fun k => spec_DrawFormatMapping.f k code) m ∧ m.length ≤ 21 := by
  unfold spec_DrawFormatMapping.f
  obtain ⟨g, r⟩ := l1New_ok code hc
  obtain ⟨m, i1, g1, e1, hm, k1⟩ := l7Mapping_ok code 0 g hc (by omega) (by omega)
  obtain ⟨o, i2, g2, e2, k2⟩ := l1Once_ok code i1 g1 6 hc k1.1 k1.2
  cases o
  · refine ⟨m, evb r (evb e1 ?_), by omega⟩
    simp only [e2, Option.bind_some, Bool.false_eq_true, if_false]
    exact evc fun k => rfl
  · obtain ⟨t, i3, g3, e3, k3⟩ := l2Any_ok code i2 g2 hc k2.1 k2.2
    refine ⟨m ++ [t], evb r (evb e1 ?_), by simp; omega⟩
    simp only [e2, Option.bind_some, if_true, e3, if_pos (show m.length < 17592186044416 by omega)]
    exact evc fun k => rfl
theorem sameInts_ev (a b : List Int) (h : a.length ≤ 1048576) : Ev (fun k => laws_sameInts.f k a b) (decide (a = b)) := by
  unfold laws_sameInts.f
  by_cases hl : (a.length : Int) = (b.length : Int)
  · simp only [if_pos hl]
    have key : ∀ (x y pre pre2 : List Int), x.length = y.length → pre.length = pre2.length → pre.length + x.length ≤ 1048576 → Ev (fun k => laws_sameInts.l0 k (pre ++ x) (pre2 ++ y) (pre.length : Int)) (decide (x = y)) := by
      intro x
      induction x with
      | nil =>
        intro y pre pre2 h1 h2 h3
        have : y = [] := List.length_eq_zero_iff.1 (by simpa using h1.symm)
        subst this
        refine evn fun k => ?_
        simp only [laws_sameInts.l0, List.append_nil]
        rw [if_neg (end_not _)]; rfl
      | cons u x ih =>
        intro y pre pre2 h1 h2 h3
        cases y with
        | nil => simp at h1
        | cons v y =>
          have r := ih y (pre ++ [u]) (pre2 ++ [v]) (by simpa using h1) (by simpa using h2) (by simp at h3 ⊢; omega)
          simp only [List.append_assoc, List.singleton_append] at r
          have e1 : (pre.length : Int) < ((pre2 ++ v :: y).length : Int) := by rw [h2]; exact mid_lt _ _ _
          have e2 : rd (pre2 ++ v :: y) (pre.length : Int) = v := by rw [h2]; exact rd_mid _ _ _
          refine Ev.step (fun k => laws_sameInts.l0.eq_2 ..) ?_
          simp only [if_pos (mid_lt _ _ _), if_pos (len_nonneg _), rd_mid, e2, if_pos e1, iw (a := u) (show pre.length ≤ 140737488355328 by simp at h3; omega)]
          by_cases c : u = v
          · subst c
            simp only [if_true]
            have : decide (u :: x = u :: y) = decide (x = y) := by simp
            rw [this]; exact r
          · rw [show decide (u :: x = v :: y) = false by simp [c]]
            simp only [if_neg c]
            exact evc fun k => rfl
    exact key a b [] [] (by omega) rfl (by simpa using h)
  · rw [show decide (a = b) = false from decide_eq_false (fun e => hl (by rw [e]))]
    simp only [if_neg hl]
    exact evc fun k => rfl
theorem mApply_neg {m : List Int} {t : Int} (h : t < 0) : mApply m t = t := by
  unfold mApply; rw [if_neg (by omega)]
theorem mApply_set {m : List Int} {t u : Int} (h0 : 0 ≤ t) (h1 : t < (m.length : Int)) (h : rd m t = u) (hu : u ≠ -1000) : mApply m t = u := by
  unfold mApply; rw [if_pos ⟨⟨h0, h1⟩, by rw [h]; exact hu⟩, h]
def Ext (m r : List Int) : Prop := r.length = m.length ∧ ∀ t, 0 ≤ t → rd m t ≠ -1000 → rd r t = rd m t
theorem Ext.refl (m : List Int) : Ext m m := ⟨rfl, fun _ _ _ => rfl⟩
theorem Ext.trans {m r q : List Int} (h : Ext m r) (k : Ext r q) : Ext m q :=
  ⟨k.1.trans h.1, fun t h0 hn => by rw [k.2 t h0 (by rw [h.2 t h0 hn]; exact hn), h.2 t h0 hn]⟩
theorem rd_set_self {m : List Int} {t u : Int} (h0 : 0 ≤ t) (h1 : t < (m.length : Int)) : rd (m.set t.toNat u) t = u := by
  show (m.set t.toNat u).getD t.toNat 0 = u
  rw [List.getD_eq_getElem?_getD, List.getElem?_set_self (by omega)]; rfl
theorem rd_set_ne {m : List Int} {t v u : Int} (h0 : 0 ≤ t) (h1 : 0 ≤ v) (h : t ≠ v) : rd (m.set t.toNat u) v = rd m v := by
  show (m.set t.toNat u).getD v.toNat 0 = m.getD v.toNat 0
  rw [List.getD_eq_getElem?_getD, List.getElem?_set_ne (by omega), List.getD_eq_getElem?_getD]
theorem mSend_ext {m m' : List Int} {t u : Int} (ht : t < (m.length : Int)) (h : mSend m t u = some m') : Ext m m' ∧ (t < 0 → t = u) ∧ (0 ≤ t → rd m' t = u) := by
  unfold mSend at h
  split at h
  · rename_i c
    split at h
    · rename_i c2
      injection h with h
      subst h
      exact ⟨Ext.refl _, fun _ => c2, fun h0 => by omega⟩
    · cases h
  · rename_i c
    split at h
    · rename_i c2
      injection h with h
      subst h
      refine ⟨⟨by simp, fun v h0 hn => rd_set_ne (by omega) h0 (fun e => hn (by rw [← e]; exact c2))⟩, fun h0 => by omega, fun h0 => rd_set_self h0 ht⟩
    · split at h
      · rename_i c3
        injection h with h
        subst h
        exact ⟨Ext.refl _, fun h0 => by omega, fun _ => c3⟩
      · cases h
theorem mUni_sent : ∀ (ts us m : List Int), ts.length = us.length → okTs ts → m.length = 20 → (∀ u ∈ us, u ≠ -1000) → (mUni ts us m).2 = true → Ext m (mUni ts us m).1 ∧ ∀ r, Ext (mUni ts us m).1 r → ts.map (mApply r) = us ∧ ∀ t ∈ ts, 0 ≤ t → rd r t ≠ -1000
  | [], [], m, _, _, _, _, _ => by
    simp only [mUni]
    exact ⟨Ext.refl _, fun r _ => ⟨rfl, fun t ht => by cases ht⟩⟩
  | [], u :: us, m, h, _, _, _, _ => by simp at h
  | t :: ts, [], m, h, _, _, _, _ => by simp at h
  | t :: ts, u :: us, m, hl, ho, hm, hu, h => by
    have ht : t < 20 := ho t List.mem_cons_self
    have hu0 := hu u List.mem_cons_self
    simp only [mUni] at h ⊢
    cases e : mSend m t u with
    | none => rw [e] at h; simp at h
    | some m' =>
      rw [e] at h
      simp only [] at h ⊢
      obtain ⟨x1, x2, x3⟩ := mSend_ext (by omega) e
      obtain ⟨i1, i2⟩ := mUni_sent ts us m' (by simpa using hl) (fun x hx => ho x (List.mem_cons_of_mem _ hx)) (by rw [x1.1, hm]) (fun x hx => hu x (List.mem_cons_of_mem _ hx)) h
      refine ⟨x1.trans i1, fun r hr => ?_⟩
      obtain ⟨j1, j2⟩ := i2 r hr
      have hx := i1.trans hr
      have hrl : (r.length : Int) = 20 := by rw [hx.1, x1.1, hm]; rfl
      have k1 : 0 ≤ t → rd r t = u := fun h0 => by rw [hx.2 t h0 (by rw [x3 h0]; exact hu0), x3 h0]
      refine ⟨?_, fun v hv h0 => ?_⟩
      · rw [List.map_cons, j1]
        by_cases c : t < 0
        · rw [mApply_neg c, x2 c]
        · rw [mApply_set (by omega) (by omega) (k1 (by omega)) hu0]
      · rcases List.mem_cons.1 hv with hv | hv
        · subst hv; rw [k1 h0]; exact hu0
        · exact j2 v hv h0
theorem mTry_sent (d2 : List S97) (hu : ∀ b ∈ d2, ∀ u ∈ b.f1, u ≠ -1000) : ∀ (d : List S97) (m r : List Int), (∀ a ∈ d, okTs a.f1) → m.length = 20 → mTry d2 d m = some r →
    Ext m r ∧ ∀ q, Ext r q → ∀ a ∈ d, (∃ b ∈ d2, a.f0 = b.f0 ∧ a.f1.map (mApply q) = b.f1) ∧ ∀ t ∈ a.f1, 0 ≤ t → rd q t ≠ -1000
  | [], m, r, _, _, h => by
    simp only [mTry] at h
    injection h with h
    subst h
    exact ⟨Ext.refl _, fun q _ a ha => by cases ha⟩
  | a :: rest, m, r, ho, hm, h => by
    simp only [mTry] at h
    obtain ⟨b, hb, hr⟩ := List.exists_of_findSome?_eq_some h
    split at hr
    · rename_i c
      obtain ⟨c1, c2, c3⟩ := c
      obtain ⟨x1, x2⟩ := mUni_sent a.f1 b.f1 m c2 (ho a List.mem_cons_self) hm (hu b hb) c3
      obtain ⟨i1, i2⟩ := mTry_sent d2 hu rest _ r (fun x hx => ho x (List.mem_cons_of_mem _ hx)) (by rw [mUni_len, hm]) hr
      refine ⟨x1.trans i1, fun q hq v hv => ?_⟩
      rcases List.mem_cons.1 hv with hv | hv
      · subst hv
        obtain ⟨y1, y2⟩ := x2 q (i1.trans hq)
        exact ⟨⟨b, hb, c1, y1⟩, y2⟩
      · exact i2 q hq v hv
    · cases hr
theorem okU {l : List Int} (h : l.all mIsTerm = true) : ∀ u ∈ l, u ≠ -1000 := by
  intro t ht
  have := List.all_eq_true.1 h t ht
  simp [mIsTerm] at this; omega
theorem okQU {s h : List Int} {d : List S97} (hq : mIsQuery s h d = true) : (∀ u ∈ h, u ≠ -1000) ∧ ∀ a ∈ d, ∀ u ∈ a.f1, u ≠ -1000 := by
  unfold mIsQuery at hq
  simp only [Bool.and_eq_true, decide_eq_true_eq] at hq
  obtain ⟨⟨⟨⟨_, h1, h2⟩, h3⟩, h4⟩, _⟩ := hq
  refine ⟨okU h2, fun a ha => ?_⟩
  have := List.all_eq_true.1 h4 a ha
  unfold mIsAtom at this
  simp only [Bool.and_eq_true] at this
  exact okU this.2
structure Leads (h : List Int) (d : List S97) (h2 : List Int) (d2 : List S97) (m : List Int) : Prop where
  len : m.length = 20
  head : h.map (mApply m) = h2
  body : ∀ a ∈ d, ∃ b ∈ d2, a.f0 = b.f0 ∧ a.f1.map (mApply m) = b.f1
  hset : ∀ t ∈ h, 0 ≤ t → rd m t ≠ -1000
  bset : ∀ a ∈ d, ∀ t ∈ a.f1, 0 ≤ t → rd m t ≠ -1000
theorem mMaps_of {h : List Int} {d : List S97} {h2 : List Int} {d2 : List S97} {m : List Int} (hl : m.length = 20) (hh : h.map (mApply m) = h2) (hb : ∀ a ∈ d, ∃ b ∈ d2, a.f0 = b.f0 ∧ a.f1.map (mApply m) = b.f1) : mMaps h d h2 d2 m = true := by
  unfold mMaps
  rw [decide_eq_true hl, decide_eq_true hh, Bool.true_and, Bool.true_and, List.all_eq_true]
  intro a ha
  obtain ⟨b, hb, e1, e2⟩ := hb a ha
  unfold mHit
  rw [List.any_eq_true]
  exact ⟨b, hb, by simp [tF, e1, e2]⟩
theorem mFind_leads {s h : List Int} {d : List S97} {h2 : List Int} {d2 : List S97} {m : List Int} (q1 : mIsQuery s h d = true) (q2 : mIsQuery s h2 d2 = true) (hf : mFind h d h2 d2 = (m, true)) : Leads h d h2 d2 m := by
  obtain ⟨o1, o2, _, _⟩ := okQ q1
  obtain ⟨u1, u2⟩ := okQU q2
  unfold mFind at hf
  split at hf
  · rename_i c
    cases e : mTry d2 d (mUni h h2 mNone).1 with
    | none => rw [e] at hf; simp at hf
    | some r =>
      rw [e] at hf
      simp only [Prod.mk.injEq, and_true] at hf
      subst hf
      obtain ⟨x1, x2⟩ := mUni_sent h h2 mNone c.1 o1 rfl u1 c.2
      obtain ⟨y1, y2⟩ := mTry_sent d2 u2 d _ r o2 (by rw [mUni_len]; rfl) e
      obtain ⟨z1, z2⟩ := x2 r y1
      exact ⟨by rw [y1.1, mUni_len]; rfl, z1, fun a ha => (y2 r (Ext.refl _) a ha).1, z2, fun a ha => (y2 r (Ext.refl _) a ha).2⟩
  · simp at hf
def Idy (m : List Int) : Prop := m.length = 20 ∧ ∀ t, 0 ≤ t → t < 20 → rd m t = -1000 ∨ rd m t = t
theorem mSend_id {m : List Int} {t : Int} (h : Idy m) (ht : t < 20) : ∃ m', mSend m t t = some m' ∧ Idy m' := by
  unfold mSend
  by_cases c : t < 0
  · rw [if_pos c, if_pos rfl]; exact ⟨m, rfl, h⟩
  · rw [if_neg c]
    by_cases c2 : rd m t = -1000
    · rw [if_pos c2]
      refine ⟨_, rfl, by simp [h.1], fun v h0 h1 => ?_⟩
      by_cases e : t = v
      · subst e; right; exact rd_set_self h0 (by rw [h.1]; exact h1)
      · rw [rd_set_ne (by omega) h0 e]; exact h.2 v h0 h1
    · rw [if_neg c2, if_pos ((h.2 t (by omega) ht).resolve_left c2)]; exact ⟨m, rfl, h⟩
theorem mUni_id : ∀ (ts m : List Int), okTs ts → Idy m → (mUni ts ts m).2 = true ∧ Idy (mUni ts ts m).1
  | [], m, _, h => ⟨rfl, h⟩
  | t :: ts, m, ho, h => by
    obtain ⟨m', e, h'⟩ := mSend_id h (ho t List.mem_cons_self)
    simp only [mUni, e]
    exact mUni_id ts m' (fun x hx => ho x (List.mem_cons_of_mem _ hx)) h'
theorem mTry_id (d2 : List S97) (ho : ∀ a ∈ d2, okTs a.f1) : ∀ (d : List S97) (m : List Int), (∀ a ∈ d, a ∈ d2) → Idy m → ∃ r, mTry d2 d m = some r
  | [], m, _, _ => ⟨m, rfl⟩
  | a :: rest, m, hd, h => by
    have ha := hd a List.mem_cons_self
    obtain ⟨x1, x2⟩ := mUni_id a.f1 m (ho a ha) h
    obtain ⟨r, hr⟩ := mTry_id d2 ho rest _ (fun x hx => hd x (List.mem_cons_of_mem _ hx)) x2
    simp only [mTry]
    refine Option.isSome_iff_exists.1 ?_
    rw [List.findSome?_isSome_iff]
    exact ⟨a, ha, by rw [if_pos ⟨rfl, rfl, x1⟩, hr]; rfl⟩
theorem mFind_self {s h : List Int} {d : List S97} (q : mIsQuery s h d = true) : ∃ r, mFind h d h d = (r, true) := by
  obtain ⟨o1, o2, _, _⟩ := okQ q
  have h0 : Idy mNone := ⟨rfl, fun t a b => by
    left
    show (List.replicate 20 (-1000 : Int)).getD t.toNat 0 = -1000
    rw [List.getD_eq_getElem?_getD, List.getElem?_replicate, if_pos (by omega)]; rfl⟩
  obtain ⟨x1, x2⟩ := mUni_id h mNone o1 h0
  obtain ⟨r, hr⟩ := mTry_id d o2 d _ (fun _ ha => ha) x2
  exact ⟨r, mFind_some rfl x1 hr⟩
theorem mApply_comp {m r : List Int} {t : Int} (hm : m.length = 20) (ht : t < 20) (h : 0 ≤ t → rd m t ≠ -1000) : mApply (m.map (mComp r)) t = mApply r (mApply m t) ∨ t < 0 ∧ mApply (m.map (mComp r)) t = t ∧ mApply m t = t := by
  by_cases c : t < 0
  · right; exact ⟨c, mApply_neg c, mApply_neg c⟩
  · left
    have hs := h (by omega)
    have h1 : mApply m t = rd m t := mApply_set (by omega) (by omega) rfl hs
    have h2 : rd (m.map (mComp r)) t = mApply r (rd m t) := by
      have hlt : t.toNat < m.length := by omega
      show (m.map (mComp r)).getD t.toNat 0 = mApply r (m.getD t.toNat 0)
      have hs2 : m[t.toNat] ≠ -1000 := by
        intro e; apply hs
        show m.getD t.toNat 0 = -1000
        rw [List.getD_eq_getElem?_getD, List.getElem?_eq_getElem hlt]; exact e
      rw [List.getD_eq_getElem?_getD, List.getElem?_map, List.getElem?_eq_getElem hlt, List.getD_eq_getElem?_getD, List.getElem?_eq_getElem hlt]
      show mComp r m[t.toNat] = mApply r m[t.toNat]
      unfold mComp; rw [if_neg hs2]
    rw [h1]
    refine mApply_set (by omega) (by simp; omega) h2 ?_
    unfold mApply
    split
    · rename_i c2; exact c2.2
    · exact hs
theorem map_comp {m r ts us : List Int} (hm : m.length = 20) (ho : okTs ts) (hs : ∀ t ∈ ts, 0 ≤ t → rd m t ≠ -1000) (h : ts.map (mApply m) = us) : ts.map (mApply (m.map (mComp r))) = us.map (mApply r) := by
  subst h
  rw [List.map_map]
  refine List.map_congr_left (fun t ht => ?_)
  rcases mApply_comp (r := r) hm (ho t ht) (hs t ht) with e | ⟨c, e1, e2⟩
  · exact e
  · show _ = mApply r (mApply m t)
    rw [e1, e2, mApply_neg c]
theorem maps_law {s h : List Int} {d : List S97} {h2 : List Int} {d2 : List S97} {m : List Int} (hf : mFindQ s h d h2 d2 = (m, true)) :
    ∃ r, mFindQ s h2 d2 h2 d2 = (r, true) ∧ mIsMap s h d h2 d2 m = true ∧ mIsMap s h d h2 d2 (m.map (mComp r)) = true := by
  unfold mFindQ at hf
  split at hf
  · rename_i c
    obtain ⟨c1, c2⟩ := c
    obtain ⟨r, hr⟩ := mFind_self c2
    have L1 := mFind_leads c1 c2 hf
    have L2 := mFind_leads c2 c2 hr
    obtain ⟨o1, o2, _, _⟩ := okQ c1
    refine ⟨r, by unfold mFindQ; rw [if_pos ⟨c2, c2⟩, hr], ?_, ?_⟩
    · unfold mIsMap
      rw [c1, c2, mMaps_of L1.len L1.head L1.body]; rfl
    · unfold mIsMap
      rw [c1, c2, mMaps_of (by rw [List.length_map, L1.len]) ?_ ?_]; rfl
      · rw [map_comp L1.len o1 L1.hset L1.head, L2.head]
      · intro a ha
        obtain ⟨b, hb, e1, e2⟩ := L1.body a ha
        obtain ⟨b2, hb2, e3, e4⟩ := L2.body b hb
        exact ⟨b2, hb2, e1.trans e3, by rw [map_comp L1.len (o2 a ha) (L1.bset a ha) e2, e4]⟩
  · simp at hf
theorem copyInts_eq (l : List Int) (h : l.length ≤ 1048576) : impl_copyInts.f l = some l := by
  unfold impl_copyInts.f
  simp only [Option.bind_some, List.length_nil, Nat.zero_add, List.nil_append]
  rw [if_pos (by omega)]
theorem copyAtoms_ev (d : List S97) (hl : d.length ≤ 1048576) (hs : ∀ x ∈ d, x.f1.length ≤ 1048576) : Ev (fun k => impl_copyAtoms.f k d) d := by
  refine idx_ind d (fun pre suf => Ev (fun k => impl_copyAtoms.l0 k pre d (d.length : Int) (pre.length : Int)) d) ?_ ?_
  · refine evn fun k => ?_
    simp only [impl_copyAtoms.l0]
    rw [if_neg (end_not _)]
  · intro pre x suf e ih
    have hx : x.f1.length ≤ 1048576 := hs x (by rw [e]; simp)
    have hp : pre.length < 4398046511104 := by rw [e] at hl; simp at hl; omega
    refine Ev.step (fun k => impl_copyAtoms.l0.eq_2 ..) ?_
    simp only [if_pos (lt_of e), if_pos (len_nonneg _), rdIA_of e, nx_of e (by omega), copyInts_eq x.f1 hx, Option.bind_some, if_pos hp]
    exact ih
theorem copyQuery_ev (h : List Int) (d : List S97) (hh : h.length ≤ 1048576) (hl : d.length ≤ 1048576) (hs : ∀ x ∈ d, x.f1.length ≤ 1048576) : Ev (fun k => impl_copyQuery.f k h d) (h, d) := by
  unfold impl_copyQuery.f
  rw [copyInts_eq h hh]
  simp only [Option.bind_some]
  refine evb (copyAtoms_ev d hl hs) ?_
  exact evc fun k => rfl
theorem mFindQ_none {s h : List Int} {d : List S97} {h2 : List Int} {d2 : List S97} (hf : (mFindQ s h d h2 d2).2 = false) : (mFindQ s h d h2 d2).1 = [] := by
  unfold mFindQ at hf ⊢
  split
  · rename_i c
    rw [if_pos c] at hf
    unfold mFind at hf ⊢
    split
    · rename_i c2
      rw [if_pos c2] at hf
      cases e : mTry d2 d (mUni h h2 mNone).1 with
      | none => rfl
      | some m => rw [e] at hf; cases hf
    · rfl
  · rfl

end Go.Proofs.Ytanbgnjfllpkgaa.Pure
