/- What a value that can be read as data holds: numbers, slices and structs of them, to the bottom, told as the walks want it; no condition but that it reads. -/
import Derived.Test.YtfelabhakgcifaaGreatVFnExactAnswers
import Derived.WalkKit
import Derived.ProofKit
import Derived.OpenShut
import Derived.ChangeOld
import Derived.Below
import Derived.SizedLaws
import Derived.DataElems
set_option linter.unusedVariables false
set_option linter.unusedSimpArgs false
namespace Go.Proofs.YtfelabhakgcifaaGreat.Open
open Go.ChangeShapes Go.WideShapes Go.ChangeAt Go.RowKit Go.Proofs.YtfelabhakgcifaaGreatW.PrintWords

/-- A number of 64 bits. -/
def WfI (x : Int) : Prop := (Lit.int .i64 x).wf = true
/-- A byte. -/
def WfB (x : Int) : Prop := (Lit.int .u8 x).wf = true
/-- A list of such values, no longer than a slice can be. -/
def WfL {α : Type} (p : α → Prop) (xs : List α) : Prop := (∀ x ∈ xs, p x) ∧ xs.length ≤ maxLen

section
variable {H : Type} (enc : TypeId × Value → H) (P : Program) (w : World) (spare : Nat → Bool)
/-- Whatever reads at type t says a value of kind k that meets wf. -/
def Opens {α : Type} (k : Kd α) (wf : α → Prop) (t : TypeId) : Prop :=
  ∀ (fuel : Nat) (cs : List Value) (y : DataW H × List MemPlace), DataW.trod enc P w 0 spare true fuel t cs = some y → ∃ x : α, k.K w x cs ∧ wf x

variable {enc P w spare}
theorem opens_int {t : TypeId} (ht : P.underlying t = some (.int .i64)) : Opens enc P w spare (Kd.int .i64) WfI t := by
  intro fuel cs y h
  obtain ⟨n, rfl, _, hw⟩ := DataW.trod_int ht h
  exact ⟨n, rfl, hw⟩

theorem opens_byte {t : TypeId} (ht : P.underlying t = some (.int .u8)) : Opens enc P w spare (Kd.int .u8) WfB t := by
  intro fuel cs y h
  obtain ⟨n, rfl, _, hw⟩ := DataW.trod_int ht h
  exact ⟨n, rfl, hw⟩

theorem list_of_points {α : Type} (n : Nat) (R : Nat → α → Prop) (h : ∀ i, i < n → ∃ x, R i x) : ∃ xs : List α, xs.length = n ∧ ∀ i x, xs[i]? = some x → R i x := by
  induction n with
  | zero => exact ⟨[], rfl, fun i x hx => by simp at hx⟩
  | succ n ih =>
    obtain ⟨xs, hl, hx⟩ := ih (fun i hi => h i (by omega))
    obtain ⟨x, hr⟩ := h n (by omega)
    refine ⟨xs ++ [x], by simp [hl], fun i z hz => ?_⟩
    rcases Nat.lt_or_ge i n with hi | hi
    · rw [List.getElem?_append_left (by omega)] at hz; exact hx i z hz
    · have hin : i = n := by
        have := (List.getElem?_eq_some_iff.1 hz).1
        simp at this; omega
      subst hin
      rw [List.getElem?_append_right (by omega)] at hz
      simp [hl] at hz
      subst hz; exact hr

theorem opens_slice {α : Type} {k : Kd α} {wf : α → Prop} {t e : TypeId} (ht : P.underlying t = some (.slice e)) (hc : P.cellsOf e = k.sz) (he : Opens enc P w spare k wf e) :
    Opens enc P w spare (Kd.slice e k) (WfL wf) t := by
  intro fuel cs y h
  rcases DataW.trod_slice ht h with ⟨rfl, _⟩ | ⟨a, len, cap, elems, rest, n, _, rfl, _, hb, hl, hm, hlen, hel, _, _⟩
  · exact ⟨[], ⟨none, 0, rfl, Nat.le_refl _, rfl, by simp, fun h0 => absurd h0 (by simp)⟩, fun x hx => by simp at hx, by simp⟩
  · have each : ∀ i, i < len → ∃ x : α, wf x ∧ ∃ c : List Value, c.length = k.sz ∧ k.K w x c ∧ ∀ j u, c[j]? = some u → w.cell? (a.add (i * k.sz + j)) = some u := by
      intro i hi
      have h1 := hel i hi
      rw [List.getElem?_eq_getElem (by omega), Option.bind_eq_some_iff] at h1
      obtain ⟨c, hcs, hy⟩ := h1
      obtain ⟨x, hK, hw⟩ := he n c _ hy
      obtain ⟨_, hcl, hcell⟩ := World.cells?_some hcs
      refine ⟨x, hw, c, by rw [hcl, hc], hK, fun j u hj => ?_⟩
      have hj' : j < P.cellsOf e := by rw [← hcl]; exact (List.getElem?_eq_some_iff.1 hj).1
      have h2 := hcell j hj'
      rw [hj, Addr.add_add, hc] at h2
      exact h2
    obtain ⟨xs, hxl, hx⟩ := list_of_points len _ each
    have hm' : len ≤ 9223372036854775807 := by have := Nat.le_trans hl hm; unfold maxLen at this; exact this
    refine ⟨xs, ⟨some a, cap, by rw [hxl], by omega, rfl, by rw [hxl]; exact hm', fun _ => ⟨a, rfl, fun j p hp => ?_⟩⟩, fun x hxm => ?_, by rw [hxl]; exact Nat.le_trans hl hm⟩
    · obtain ⟨_, c, h1, h2, h3⟩ := hx j p hp
      exact ⟨c, h1, h2, h3⟩
    · obtain ⟨i, hi⟩ := List.getElem?_of_mem hxm
      exact (hx i x hi).1

theorem opens_one {α β : Type} {k : Kd α} {wf : α → Prop} {t : TypeId} {f0 : Field} {f : β → α} (g : α → β) (hg : ∀ x, f (g x) = x) (ht : P.underlying t = some (.struct #[f0])) (h0 : f0.offset = 0) (hc : P.cellsOf t = P.cellsOf f0.type)
    (he : Opens enc P w spare k wf f0.type) : Opens enc P w spare (Kd.iso k f) (fun x => wf (f x)) t := by
  intro fuel cs y h
  obtain ⟨xs, n, _, _, hl, hlen, hf⟩ := DataW.trod_struct ht h
  have h1 := hf 0 f0 rfl
  obtain ⟨y0, hy0⟩ : ∃ y0, xs[0]? = some y0 := ⟨xs[0]'(by rw [hlen]; simp), List.getElem?_eq_getElem _⟩
  rw [hy0, h0, List.drop_zero, ← hc, ← hl, List.take_length] at h1
  obtain ⟨x, hK, hw⟩ := he n cs y0 h1
  exact ⟨g x, by show k.K w (f (g x)) cs; rw [hg]; exact hK, by show wf (f (g x)); rw [hg]; exact hw⟩

theorem opens_two {α β γ : Type} {k0 : Kd α} {k1 : Kd β} {wf0 : α → Prop} {wf1 : β → Prop} {t : TypeId} {f0 f1 : Field} {f : γ → α × β} (g : α × β → γ) (hg : ∀ x, f (g x) = x)
    (ht : P.underlying t = some (.struct #[f0, f1])) (h0 : f0.offset = 0) (h1 : f1.offset = P.cellsOf f0.type) (hc : P.cellsOf t = P.cellsOf f0.type + P.cellsOf f1.type)
    (he0 : Opens enc P w spare k0 wf0 f0.type) (he1 : Opens enc P w spare k1 wf1 f1.type) : Opens enc P w spare (Kd.iso (Kd.pair k0 k1) f) (fun x => wf0 (f x).1 ∧ wf1 (f x).2) t := by
  intro fuel cs y h
  obtain ⟨y0, y1, n, _, hl, g0, g1⟩ := trod_struct2 ht h
  rw [h0, List.drop_zero] at g0
  rw [h1] at g1
  obtain ⟨x0, hK0, hw0⟩ := he0 n _ y0 g0
  obtain ⟨x1, hK1, hw1⟩ := he1 n _ y1 g1
  have e1 : (cs.drop (P.cellsOf f0.type)).take (P.cellsOf f1.type) = cs.drop (P.cellsOf f0.type) := List.take_of_length_le (by rw [List.length_drop]; omega)
  rw [e1] at hK1
  refine ⟨g (x0, x1), ?_, ?_⟩
  · show (Kd.pair k0 k1).K w (f (g (x0, x1))) cs
    rw [hg]
    exact ⟨_, _, (List.take_append_drop _ cs).symm, hK0, hK1⟩
  · show wf0 (f (g (x0, x1))).1 ∧ wf1 (f (g (x0, x1))).2
    rw [hg]
    exact ⟨hw0, hw1⟩

/-- A struct's value, its cells known. -/
theorem agg_of {t : TypeId} {fs : Array Field} {r : Reach} {base : Nat} {v : Value} {cs : List Value} (ht : P.underlying t = some (.struct fs)) (hv : Value.okWide P w r base t v) (h : v.cells.toList = cs) : v = .agg cs.toArray := by
  obtain ⟨c, rfl, _⟩ := okWide_struct ht hv
  simp only [Value.cells] at h
  rw [← h]
theorem slice_of {t e : TypeId} {r : Reach} {base : Nat} {v u : Value} (ht : P.underlying t = some (.slice e)) (hv : Value.okWide P w r base t v) (h : v.cells.toList = [u]) : v = u := by
  obtain ⟨a, len, cap, rfl⟩ := okWide_slice ht hv
  simpa [Value.cells] using h
theorem int_of {t : TypeId} {k : IntKind} {r : Reach} {base : Nat} {v u : Value} (ht : P.underlying t = some (.int k)) (hv : Value.okWide P w r base t v) {d : DataW H} {ps : List MemPlace} (hd : DataW.Trod enc P w 0 spare true t v d ps) (h : v.cells.toList = [u]) : v = u := by
  obtain ⟨n, rfl, _, _⟩ := open_int ht hv hd
  simpa [Value.cells] using h
end
end Go.Proofs.YtfelabhakgcifaaGreat.Open
