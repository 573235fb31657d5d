/- Walks through Go functions that FnExactRenameQuery reaches, by hand: each call returns what is said beside it, within the bounds that the theorem names. -/
import Derived.Test.YtanbgnjfllpkgaaQFnExactRenameQueryx0
import Derived.Test.YtanbgnjfllpkgaaQFnExactRenameQueryx1
import Derived.Test.YtanbgnjfllpkgaaQFnExactRenameQueryx2
import Derived.Test.YtanbgnjfllpkgaaQFnExactRenameQueryx3
import Derived.Test.YtanbgnjfllpkgaaQFnExactRenameQueryx4
import Derived.Test.YtanbgnjfllpkgaaMine
import Derived.Test.YtanbgnjfllpkgaaPureFnExactRenameQuery
set_option linter.unusedVariables false
set_option linter.unusedSimpArgs false
namespace Go.Proofs.Ytanbgnjfllpkgaa.Hand
open Go.RowKit Go.Proofs.Ytanbgnjfllpkgaa.QFnExactRenameQuery Go.Proofs.YtanbgnjfllpkgaaW.PrintWords Go.Proofs.YtanbgnjfllpkgaaW.PrintLast Go.Proofs.YtanbgnjfllpkgaaW.PrintMore Go.Proofs.Ytanbgnjfllpkgaa.Mine Go.Proofs.Ytanbgnjfllpkgaa.Open Go.Proofs.Ytanbgnjfllpkgaa.Pure
attribute [local go_sem] max2_int min2_int max_two min_two max_three min_three max_four min_four

/-- A goal that the walk leaves alone. -/
def Hold (p : Prop) : Prop := p
theorem hold {p : Prop} (h : Hold p) : p := h
theorem newR {α : Type} {d : Kd α} {e B : Nat} {W w1 : World} {ok : Nat → Prop} {v : Value} {xs : List α} (h : d.R e w1 W.heap.size ok v xs) (hB : B ≤ W.heap.size) : d.R e w1 B (fun k => (W.heap.size ≤ k ∧ k < w1.heap.size) ∧ ok k) v xs :=
  Kd.R_lower (Kd.R_mono (Kd.R_bound h) (fun _ hk => ⟨⟨hk.2.1, hk.2.2.1⟩, hk.1⟩)) hB
theorem newS {α : Type} {d : Kd α} {e B : Nat} {W w1 : World} {ok : Nat → Prop} {v : Value} {xs : List α} (h : Kd.S d e w1 W.heap.size ok v xs) (hB : B ≤ W.heap.size) : Kd.S d e w1 B (fun k => (W.heap.size ≤ k ∧ k < w1.heap.size) ∧ ok k) v xs :=
  Kd.S_lower (Kd.S_mono (Kd.S_bound h) (fun _ hk => ⟨⟨hk.2.1, hk.2.2.1⟩, hk.1⟩)) hB
/-- A box stored into. -/
theorem kept_two {w : World} {g : Nat} (a b : Value) : Kept w ((w.setCell ⟨g, 0, none⟩ a).setCell ⟨g, 1, none⟩ b) (fun k => k = g) :=
  ((Kept.refl w (fun k => k = g)).setCell (.inl rfl) a).setCell (.inl rfl) b
theorem kept_one {w : World} {g : Nat} (a : Value) : Kept w (w.setCell ⟨g, 0, none⟩ a) (fun k => k = g) := (Kept.refl w (fun k => k = g)).setCell (.inl rfl) a
/-- A call of a closure. -/
theorem goesC_ {P : Program} {ops : Array Oper} {Q : Exit → Act → World → Prop} {oi : Oper} {N : Option Tmp} {a : Act} {w : World} {K : Act → World → Prop} {f : FuncId} {fn : Func} {p : Operand} {as_ : Array Operand} {ts : Array TypeId} (hf : P.funcs[f]? = some fn) (hname : (fn.name == "runtime.NumGoroutine") = false) (hb : fn.body.isSome = true) (first cap args : Array Value)
    (hw : Region.wanted oi (yielded ops a.tmps) = true) (hN : oi.dst = N) (hop : oi.op = .call { callee := .value p, args := as_, argTypes := ts }) (hv : a.eval p = .func (.func f) first cap) (hargs : (first ++ as_.map a.eval) ++ cap = args)
    (h : Calls P f args w fun e w' => ∃ v, e = .returned v ∧ K (a.put N v) w') : if Region.wanted oi (yielded ops a.tmps) = true then Oper.wp P oi a w K Q else K (a.put N undef) w := by
  refine call_ f args hw hN ?_ h
  have he := enters_ hf hname hb args w
  unfold execOp
  simp [hop, resolve, hv, Deferred.ofValue, invoke, hargs, he]

set_option maxHeartbeats 8000000 in
set_option maxRecDepth 100000 in
theorem rename1_calls (g : Nat) (A : Option Addr) (c : Nat) (tl : List Int) (t : Int) (w : World) (hB : w.heap[g]? = some (.cells #[.slice A tl.length c] 38 (0, 0))) (hr : Kd.C (Kd.int .i64) w A tl.length tl) (ht : tl.length ≤ 1048576) :
    Calls Try.prog 98 #[.int .i64 t, .pointer (some ⟨g, 0, none⟩)] w fun e w' => e = .returned (.int .i64 (tT tl t)) ∧ Drawn0 w w' := by
  have HR := Aside0.mk hr
  have hx0 : w.cell? ⟨g, 0, none⟩ = some (.slice A tl.length c) := (blk_cell hB 0).trans rfl
  have hw := within_eq t 0 ((tl.length : Int) - 1)
  by_cases cc : 0 ≤ t ∧ t < (tl.length : Int)
  · rw [decide_eq_true (show 0 ≤ t ∧ t ≤ (tl.length : Int) - 1 by omega)] at hw
    have HW := Aside0.mk hw
    have HT := Aside0.mk (show tT tl t = rd tl t by unfold tT; rw [if_pos cc])
    obtain ⟨p1, q1⟩ := cc
    obtain ⟨ad, e_, hx1⟩ := Kd.at_int HR.out t p1 q1
    cases e_
    replace p1 := eq_true p1
    replace q1 := eq_true q1
    clear hr hB hw
    go_enter Try.func98, Try.ntmps98
    go_wp2_with (first | (go_at_call 78; refine hold ?_))
    unfold Hold
    refine (impl_within.calls t 0 _ true _ HW.out).mono ?_
    rintro e w' ⟨rfl, ⟨nd, rfl⟩⟩
    go_wp2
    go_ret
    exact ⟨by rw [HT.out]; first | rfl | (simp; done) | (simp [*]; done), by repeat (first | exact Drawn0.refl _ | apply Drawn0.step)⟩
  · rw [decide_eq_false (show ¬ (0 ≤ t ∧ t ≤ (tl.length : Int) - 1) by omega)] at hw
    have HW := Aside0.mk hw
    have HT := Aside0.mk (show tT tl t = t by unfold tT; rw [if_neg cc])
    clear hr hB hw cc
    go_enter Try.func98, Try.ntmps98
    go_wp2_with (first | (go_at_call 78; refine hold ?_))
    unfold Hold
    refine (impl_within.calls t 0 _ false _ HW.out).mono ?_
    rintro e w' ⟨rfl, ⟨nd, rfl⟩⟩
    go_wp2
    go_ret
    exact ⟨by rw [HT.out]; first | rfl | (simp; done) | (simp [*]; done), by repeat (first | exact Drawn0.refl _ | apply Drawn0.step)⟩

/-- The first i elements changed. -/
def upto {α : Type} (f : α → α) (l : List α) (i : Nat) : List α := (l.take i).map f ++ l.drop i
theorem upto_0 {α : Type} (f : α → α) (l : List α) : upto f l 0 = l := by simp [upto]
theorem upto_len {α : Type} (f : α → α) (l : List α) (i : Nat) : (upto f l i).length = l.length := by simp [upto]; omega
theorem upto_end {α : Type} (f : α → α) (l : List α) (i : Nat) (h : l.length ≤ i) : upto f l i = l.map f := by simp [upto, List.take_of_length_le h, List.drop_eq_nil_of_le h]
theorem upto_get {α : Type} (f : α → α) (l : List α) (i : Nat) (z : α) : (upto f l i).getD i z = l.getD i z := by
  unfold upto
  by_cases h : i < l.length
  · rw [List.getD_eq_getElem?_getD, List.getElem?_append_right (by simp; omega), List.getD_eq_getElem?_getD]
    simp [Nat.min_eq_left (Nat.le_of_lt h)]
  · rw [List.getD_eq_getElem?_getD, List.getD_eq_getElem?_getD, List.getElem?_eq_none (by simp; omega), List.getElem?_eq_none (by omega)]
theorem upto_step {α : Type} (f : α → α) (l : List α) (i : Nat) (z : α) (h : i < l.length) : (upto f l i).set i (f (l.getD i z)) = upto f l (i + 1) := by
  unfold upto
  rw [List.set_append_right _ _ (by simp; omega)]
  simp only [List.length_map, List.length_take, Nat.min_eq_left (Nat.le_of_lt h), Nat.sub_self]
  rw [List.drop_eq_getElem_cons h, List.set_cons_zero, List.take_succ_eq_append_getElem h, List.map_append, List.getD_eq_getElem?_getD, List.getElem?_eq_getElem h]
  simp
/-- What stands while a query's copy is changed: its rows, its box (gx), the result's box (gr). -/
structure StC (w : World) (n2 n3 gx gr : Nat) (v0 v1 : Value) (xs : List Int) (ys : List S97) (W : World) : Prop where
  r0 : Kd.R (Kd.int .i64) 3 W w.heap.size (fun k => n2 ≤ k ∧ k < n3) v0 xs
  r1 : Kd.S k97 97 W w.heap.size (fun k => (n2 ≤ k ∧ k < n3) ∧ some k ≠ (v0 : Value).ownBlock) v1 ys
  bx : W.heap[gx]? = some (.cells #[v0, v1] 46 (0, 0))
  br : W.heap[gr]? = some (.cells #[.slice none 0 0, .slice none 0 0] 46 (0, 0))
  hb : Below w.heap.size w W
theorem StC.below {w : World} {n2 n3 gx gr : Nat} {v0 v1 : Value} {xs : List Int} {ys : List S97} {W W2 : World} (h : StC w n2 n3 gx gr v0 v1 xs ys W) (hb : Below W.heap.size W W2) : StC w n2 n3 gx gr v0 v1 xs ys W2 :=
  ⟨Kd.R_below h.r0 hb, Kd.S_below h.r1 hb, blk_below h.bx hb, blk_below h.br hb, below_step h.hb hb⟩
/-- The same with an atom's row lent and the atom's own box (ga). -/
structure StD (w : World) (n2 n3 gx gr ga : Nat) (v0 v1 vj : Value) (xs : List Int) (ys : List S97) (i : Int) (okj : Nat → Prop) (f0 : Int) (as_ : List Int) (W : World) : Prop where
  r0 : Kd.R (Kd.int .i64) 3 W w.heap.size (fun k => some k = (v0 : Value).ownBlock) v0 xs
  r1 : Kd.H k97 97 W w.heap.size (fun k => (n2 ≤ k ∧ k < n3) ∧ some k ≠ (v0 : Value).ownBlock) v1 ys i okj [.int .i64 f0, vj]
  rj : Kd.R (Kd.int .i64) 3 W w.heap.size okj vj as_
  bx : W.heap[gx]? = some (.cells #[v0, v1] 46 (0, 0))
  br : W.heap[gr]? = some (.cells #[.slice none 0 0, .slice none 0 0] 46 (0, 0))
  ba : W.heap[ga]? = some (.cells #[.int .i64 f0, vj] 97 (0, 0))
  hb : Below w.heap.size w W
theorem StD.below {w : World} {n2 n3 gx gr ga : Nat} {v0 v1 vj : Value} {xs : List Int} {ys : List S97} {i : Int} {okj : Nat → Prop} {f0 : Int} {as_ : List Int} {W W2 : World} (h : StD w n2 n3 gx gr ga v0 v1 vj xs ys i okj f0 as_ W) (hb : Below W.heap.size W W2) : StD w n2 n3 gx gr ga v0 v1 vj xs ys i okj f0 as_ W2 :=
  ⟨Kd.R_below h.r0 hb, Kd.H_kept h.r1 (Kept.of_below hb (fun _ => False)) (fun _ _ _ h => h), Kd.R_below h.rj hb, blk_below h.bx hb, blk_below h.br hb, blk_below h.ba hb, below_step h.hb hb⟩
set_option maxHeartbeats 8000000 in
set_option maxRecDepth 100000 in
theorem changed_calls (A0 : Option Addr) (c0 : Nat) (l0 : List Int) (A1 : Option Addr) (c1 : Nat) (l1 : List S97) (g : Nat) (A : Option Addr) (c : Nat) (tl : List Int) (w : World) (hr0 : Kd.C (Kd.int .i64) w A0 l0.length l0) (hc0 : l0.length ≤ c0) (hr1 : Kd.C k97 w A1 l1.length l1) (hc1 : l1.length ≤ c1)
    (hB : w.heap[g]? = some (.cells #[.slice A tl.length c] 38 (0, 0))) (hr : Kd.C (Kd.int .i64) w A tl.length tl) (ht : tl.length ≤ 1048576) (hh : l0.length ≤ 1048576) (hl : l1.length ≤ 1048576) (hs : ∀ x ∈ l1, x.f1.length ≤ 1048576) :
    Calls Try.prog 97 #[.agg #[.slice A0 l0.length c0, .slice A1 l1.length c1], .func (.func 98) #[] #[.pointer (some ⟨g, 0, none⟩)]] w fun e w' => ∃ v0 v1 : Value, e = .returned (.agg #[v0, v1]) ∧ Kd.R (Kd.int .i64) 3 w' w.heap.size (fun _ => True) v0 (l0.map (tT tl)) ∧ Kd.S k97 97 w' w.heap.size (fun k_ => some k_ ≠ (v0 : Value).ownBlock) v1 (l1.map (tA tl)) ∧ Below w.heap.size w w' := by
  have hu46 := Try.underlying46
  have hu97 := Try.underlying97
  obtain ⟨km, hkm⟩ := (copyQuery_ev l0 l1 hh hl hs).rounds
  have HM := Aside0.mk hkm
  have R0 := Aside0.mk hr0
  have R1 := Aside0.mk hr1
  have HT := Aside0.mk hr
  have BT := Aside0.mk hB
  have HS := Aside0.mk hs
  have HH := Aside0.mk (show l0.length ≤ 1048576 ∧ l1.length ≤ 1048576 ∧ tl.length ≤ 1048576 from ⟨hh, hl, ht⟩)
  have HC0 := Aside0.mk hc0
  have HC1 := Aside0.mk hc1
  have HB := Aside0.mk (Below.refl w.heap.size w)
  clear hkm hr0 hr1 hr hB hs hh hl ht hc0 hc1
  go_enter Try.func97, Try.ntmps97
  go_wp2_with (first | ((with_reducible refine gate_dst (N := 2) rfl ?_); refine hold ?_))
  unfold Hold
  refine box_event ?hg (N := 2) ?hd (cs := #[.slice A0 l0.length c0, .slice A1 l1.length c1]) (t := 46) ?hr ?_
  case hd => rfl
  case hg => rfl
  case hr => first | (go_simp; done) | (go_simp; rfl)
  intro gq hg w1 hbox hb
  have BQ := Aside0.mk hbox
  have n1 := Aside0.mk (below_step HB.out hb)
  clear HB hbox hb hg
  have HB := n1
  clear n1
  go_wp2_with (first | ((with_reducible refine gate_dst (N := 4) rfl ?_); refine hold ?_))
  unfold Hold
  refine box_event ?hg2 (N := 4) ?hd2 (cs := #[.slice none 0 0, .slice none 0 0]) (t := 46) ?hr2 ?_
  case hd2 => rfl
  case hg2 => rfl
  case hr2 => first | (go_simp; done) | (go_simp; rfl)
  intro gr hg w2 hbox hb
  have BR := Aside0.mk hbox
  have n1 := Aside0.mk (below_step HB.out hb)
  have n2 := Aside0.mk (blk_below BQ.out hb)
  have GR := Aside0.mk (show w.heap.size ≤ gr from by rw [hg]; exact HB.out.size)
  clear HB hbox hb hg BQ
  have HB := n1
  have BQ := n2
  clear n1 n2
  have hx0 : w2.cell? ⟨gq, 0, none⟩ = some (.slice A0 l0.length c0) := (blk_cell BQ.out 0).trans rfl
  have hx1 : w2.cell? ⟨gq, 1, none⟩ = some (.slice A1 l1.length c1) := (blk_cell BQ.out 1).trans rfl
  go_wp2_with (first | (go_at_call 125; refine hold ?_))
  unfold Hold
  refine (impl_copyQuery.calls km _ _ l0 _ _ l1 l0 l1 _ (Kd.C_below R0.out HB.out) HC0.out (Kd.C_below R1.out HB.out) HC1.out HM.out).mono ?_
  rintro e w3 ⟨v0, v1, rfl, ho0, ho1, hb⟩
  obtain ⟨B0, d0, rfl⟩ := Kd.R_slice ho0
  obtain ⟨B1, d1, rfl⟩ := Kd.S_slice ho1
  have N2 : ∃ n2 : Nat, n2 = w2.heap.size := ⟨_, rfl⟩
  obtain ⟨n2, hn2⟩ := N2
  have N3 : ∃ n3 : Nat, n3 = w3.heap.size := ⟨_, rfl⟩
  obtain ⟨n3, hn3⟩ := N3
  have q0 := Aside0.mk (show Kd.R (Kd.int .i64) 3 w3 w.heap.size (fun k => n2 ≤ k ∧ k < n3) _ l0 from Kd.R_mono (newR ho0 HB.out.size) (fun k hk => by rw [hn2, hn3]; exact hk.1))
  have q1 := Aside0.mk (show Kd.S k97 97 w3 w.heap.size (fun k => (n2 ≤ k ∧ k < n3) ∧ some k ≠ (Value.slice B0 l0.length d0).ownBlock) _ l1 from Kd.S_mono (newS ho1 HB.out.size) (fun k hk => by rw [hn2, hn3]; exact hk))
  have q2 := Aside0.mk (blk_below BR.out hb)
  have q3 := Aside0.mk (below_step HB.out hb)
  have GR2 := Aside0.mk (show gr < n2 from by rw [hn2]; exact blk_lt BR.out)
  have G3 := Aside0.mk (show w.heap.size ≤ n2 ∧ n2 ≤ n3 from by rw [hn2, hn3]; exact ⟨HB.out.size, hb.size⟩)
  clear HB BR BQ hx0 hx1 ho0 ho1 hb R0 R1 HC0 HC1 HM hn2
  go_wp2_with (first | ((with_reducible refine gate_dst (N := 5) rfl ?_); refine hold ?_))
  unfold Hold
  refine box_event ?hg3 (N := 5) ?hd3 (cs := #[.slice none 0 0, .slice none 0 0]) (t := 46) ?hr3 ?_
  case hd3 => rfl
  case hg3 => rfl
  case hr3 => first | (go_simp; done) | (go_simp; rfl)
  intro gx hg w4 hbox hb
  have BX := Aside0.mk hbox
  have GX := Aside0.mk (show n3 ≤ gx from by rw [hg, hn3]; exact Nat.le_refl _)
  replace q0 := Aside0.mk (Kd.R_below q0.out hb)
  replace q1 := Aside0.mk (Kd.S_below q1.out hb)
  replace q2 := Aside0.mk (blk_below q2.out hb)
  replace q3 := Aside0.mk (below_step q3.out hb)
  clear hbox hb hg hn3
  have hy0 : w4.cell? ⟨gx, 0, none⟩ = some (.slice none 0 0) := (blk_cell BX.out 0).trans rfl
  have hy1 : w4.cell? ⟨gx, 1, none⟩ = some (.slice none 0 0) := (blk_cell BX.out 1).trans rfl
  have hf0 := blk_frozen BX.out 0
  have hf1 := blk_frozen BX.out 1
  go_wp2_with (first | ((with_reducible refine gate_store (t := 46) (p := 5) rfl ?_); refine hold ?_))
  unfold Hold
  refine store_event (t := 46) (p := 5) (v := ?vo_s5) (w1 := ((w4.setCell ⟨gx, 0, none⟩ (.slice B0 l0.length d0)).setCell ⟨gx, 1, none⟩ (.slice B1 l1.length d1))) ?hg5 ?ho5 ?hn5 ?hr5 ?_
  case ho5 => rfl
  case hg5 => rfl
  case hn5 => rfl
  case hr5 => first | (go_simp; done) | (go_simp; rfl)
  intro w5 hw
  have hk : Kept w4 w5 (fun k => k = gx) := by rw [hw]; exact kept_two _ _
  have ST := Aside0.mk (show StC w n2 n3 gx gr (.slice B0 l0.length d0) (.slice B1 l1.length d1) l0 l1 w5 from
    ⟨Kd.R_kept q0.out hk (fun k h1 h2 => by have := GX.out; omega), Kd.S_kept q1.out hk (fun k h1 h2 => by have := GX.out; omega),
      by rw [hw]; exact blk_put (cs := #[.slice B0 l0.length d0, .slice none 0 0]) (blk_put (cs := #[.slice none 0 0, .slice none 0 0]) BX.out 0 _ rfl) 1 _ rfl,
      blk_kept q2.out hk (fun h => by have h1 := GX.out; have h2 := GR2.out; have h3 := G3.out; omega),
      by rw [hw]; exact below_set (below_set q3.out (by have h1 := GX.out; have h3 := G3.out; show w.heap.size ≤ gx; omega)) (by have h1 := GX.out; have h3 := G3.out; show w.heap.size ≤ gx; omega)⟩)
  clear q0 q1 q2 q3 hk hw BX hy0 hy1 hf0 hf1
  have hx0 : w5.cell? ⟨gx, 0, none⟩ = some (.slice B0 l0.length d0) := (blk_cell ST.out.bx 0).trans rfl
  have hx1 : w5.cell? ⟨gx, 1, none⟩ = some (.slice B1 l1.length d1) := (blk_cell ST.out.bx 1).trans rfl
  go_wp2
  go_loopg [17] l0.length (fun kq v17 w' => ∃ x : Int, v17 = .int .i64 x ∧ Aside0 (0 ≤ x ∧ kq + x.toNat = l0.length) ∧ Aside0 (StC w n2 n3 gx gr (.slice B0 l0.length d0) (.slice B1 l1.length d1) (upto (tT tl) l0 x.toNat) l1 w'))
  case atStart => exact ⟨0, rfl, ⟨⟨Int.le_refl _, rfl⟩⟩, ⟨by rw [show (0 : Int).toNat = 0 from rfl, upto_0]; exact ST.out⟩⟩
  case round =>
    clear ST
    obtain ⟨x, rfl, HG, ST⟩ := hrel
    by_cases c6 : x < (l0.length : Int)
    · have c6b0 : decide (x < (l0.length : Int)) = true := decide_eq_true c6
      have p5 : 0 ≤ x := HG.out.1
      have hlt : x.toNat < l0.length := by omega
      have HLT := Aside0.mk hlt
      obtain ⟨go, co, eo, gb, gl, cl, hgo⟩ := Kd.R_form ST.out.r0 (by rw [upto_len]; omega)
      injection eo with ea en ec
      subst ea; subst ec
      clear en gb gl cl hgo
      have hx5 : wr.cell? ⟨go, x.toNat, none⟩ = some (.int .i64 (rd l0 x)) := by
        have h1 := (Kd.R_celln 0 ST.out.r0 x p5 c6).1
        rw [show rdOf 0 (upto (tT tl) l0 x.toNat) x = rd l0 x from upto_get _ _ _ _] at h1
        exact h1
      have q5 := eq_true c6
      have r5 := eq_true p5
      clear hlt
      try go_wp2
      have HDW := Aside0.mk (ST.out.below (below_drew (Below.refl _ _)))
      refine start_ (n := 8) (S := fun w' => w'.cell? ⟨gx, 0, none⟩ = some (.slice (some ⟨go, 0, none⟩) l0.length d0)) (ds := []) #[false, false, false, false, false, false, false, false] (by kernel_rfl) rfl rfl ((blk_cell HDW.out.bx 0).trans rfl) (fun hHeld => ?_)
      generalize wr.drew = w6 at HDW hHeld ⊢
      refine pure_ (i := 0) (N := some 22) (v := ?_) (a' := ?_) #[true, false, false, false, false, false, false, false] rfl rfl (by kernel_rfl) (fun _ _ _ h => h) (Or.inl ⟨by rfl, ?_⟩) ?_ ?_
      rotate_left
      · intro w'; go_simp; with_reducible rfl
      rotate_left
      · simp only [Act.put, List.setIfInBounds_toArray, List.set_cons_zero, List.set_cons_succ, i64_w, i32_w]; rfl
      refine pure_ (i := 2) (N := some 24) (v := ?_) (a' := ?_) #[true, false, true, false, false, false, false, false] rfl rfl (by kernel_rfl) (fun _ _ _ h => h) (Or.inl ⟨by rfl, ?_⟩) ?_ ?_
      rotate_left
      · intro w'; go_simp; with_reducible rfl
      rotate_left
      · simp only [Act.put, List.setIfInBounds_toArray, List.set_cons_zero, List.set_cons_succ, i64_w, i32_w]; rfl
      refine pure_ (i := 3) (N := some 25) (v := ?_) (a' := ?_) #[true, false, true, true, false, false, false, false] rfl rfl (by kernel_rfl) (fun _ _ _ h => h) (Or.inl ⟨by rfl, ?_⟩) ?_ ?_
      rotate_left
      · intro w'; go_simp; with_reducible rfl
      rotate_left
      · simp only [Act.put, List.setIfInBounds_toArray, List.set_cons_zero, List.set_cons_succ, i64_w, i32_w]; rfl
      refine pure_ (i := 4) (N := some 26) (v := ?_) (a' := ?_) #[true, false, true, true, true, false, false, false] rfl rfl (by kernel_rfl) (fun _ _ _ h => h) (Or.inl ⟨by rfl, ?_⟩) ?_ ?_
      rotate_left
      · intro w'; go_simp; with_reducible rfl
      rotate_left
      · simp only [Act.put, List.setIfInBounds_toArray, List.set_cons_zero, List.set_cons_succ, i64_w, i32_w]; rfl
      refine take_ (i := 1) (N := some 23) (v := ?_) (a' := ?_) #[true, true, true, true, true, false, false, false] rfl rfl (by kernel_rfl) (fun _ _ _ h => h) (Or.inl ⟨by rfl, ?_⟩) hHeld ?_ ?_
      rotate_left
      · rintro w' s0; go_simp; with_reducible rfl
      rotate_left
      · simp only [Act.put, List.setIfInBounds_toArray, List.set_cons_zero, List.set_cons_succ, i64_w, i32_w]; rfl
      refine one_ (i := 5) (N := some 27) #[true, true, true, true, true, true, false, false] rfl rfl (by kernel_rfl) (by decide) (fun K hK => ?_)
      refine goesC_ Try.func98 (by kernel_rfl) rfl #[] #[.pointer (some ⟨g, 0, none⟩)] #[.int .i64 (rd l0 x), .pointer (some ⟨g, 0, none⟩)] (by rfl) rfl rfl (by rfl) (by (try simp only [List.map_toArray, List.map_cons, List.map_nil, List.append_toArray, List.nil_append, List.cons_append]); first | done | rfl) ?_
      refine (rename1_calls g A c tl _ w6 (blk_below BT.out HDW.out.hb) (Kd.C_below HT.out HDW.out.hb) HH.out.2.2).mono ?_
      rintro e w7 ⟨rfl, hd⟩
      refine ⟨_, rfl, ?_⟩
      have HD7 := Aside0.mk (HDW.out.below hd.below)
      clear HDW hd
      refine hK.out _ _ ((blk_cell HD7.out.bx 0).trans rfl) (fun hHeld => ?_)
      clear hK K
      refine norm_ (a' := ?_) ?_ ?_
      rotate_left
      · show Act.put _ (some 27) _ = _; simp only [Act.put, List.setIfInBounds_toArray, List.set_cons_zero, List.set_cons_succ, i64_w, i32_w]; rfl
      refine pure_ (i := 6) (N := some 28) (v := ?_) (a' := ?_) #[true, true, true, true, true, true, true, false] rfl rfl (by kernel_rfl) (fun _ _ _ h => h) (Or.inl ⟨by rfl, ?_⟩) ?_ ?_
      rotate_left
      · intro w'; go_simp; with_reducible rfl
      rotate_left
      · simp only [Act.put, List.setIfInBounds_toArray, List.set_cons_zero, List.set_cons_succ, i64_w, i32_w]; rfl
      refine one_ (i := 7) (N := none) #[true, true, true, true, true, true, true, true] rfl rfl (by kernel_rfl) (by decide) (fun K hK => ?_)
      have hc7 := Kd.R_celln 0 HD7.out.r0 x p5 c6
      have hx7 := hc7.1
      have hf7 := hc7.2
      clear hc7
      have HP := Kd.R_putg HD7.out.r0 x (tT tl (rd l0 x))
      have hk : Kept w7 (w7.setCell ⟨go, x.toNat, none⟩ (.int .i64 (tT tl (rd l0 x)))) (fun k => some k = (Value.slice (some ⟨go, 0, none⟩) l0.length d0).ownBlock) := Kept.of_grown HP.2 (Kept.refl _ _) (fun k he => .inl he.symm)
      have GO := HD7.out.r0.1 go rfl
      have HE := Aside0.mk (show StC w n2 n3 gx gr (.slice (some ⟨go, 0, none⟩) l0.length d0) (.slice B1 l1.length d1) (upto (tT tl) l0 (x.toNat + 1)) l1 (w7.setCell ⟨go, x.toNat, none⟩ (.int .i64 (tT tl (rd l0 x)))) from
        ⟨by rw [← upto_step (tT tl) l0 x.toNat 0 HLT.out]; exact HP.1, Kd.S_kept HD7.out.r1 hk (fun k h1 h2 => h1.2 h2),
          blk_kept HD7.out.bx hk (fun h => by injection h with h_; have h : _ = go := h_; have h1 := GX.out; omega), blk_kept HD7.out.br hk (fun h => by injection h with h_; have h : _ = go := h_; have h1 := GR2.out; omega), below_set HD7.out.hb (by have h3 := G3.out; show w.heap.size ≤ go; omega)⟩)
      clear HP hk GO HD7
      refine skip_ (w1 := ?_) (by rfl) rfl ?_ ?_
      rotate_left
      · go_simp; rfl
      refine hK.out _ _ ((blk_cell HE.out.bx 0).trans rfl) (fun _ => ?_)
      clear hK K
      refine done_ (by kernel_rfl) ?_
      go_wp2
      go_roundg (gk - 1)
      case measure => have := HG.out; have := HLT.out; omega
      case rel => exact ⟨(wrap64 (x + 1)), rfl, ⟨by have := HG.out; have := HLT.out; have h3 := HH.out.1; rw [w64 (by omega) (by omega)]; omega⟩, ⟨by rw [w64 (by have := HG.out; omega) (by have h3 := HH.out.1; have := HLT.out; omega), show (x + 1).toNat = x.toNat + 1 by have := HG.out; omega]; exact HE.out⟩⟩
    · have c6b0 : decide (x < (l0.length : Int)) = false := decide_eq_false c6
      have HX := Aside0.mk (show upto (tT tl) l0 x.toNat = l0.map (tT tl) from upto_end _ _ _ (by omega))
      clear c6
      have SU := Aside0.mk (show StC w n2 n3 gx gr (.slice B0 l0.length d0) (.slice B1 l1.length d1) (l0.map (tT tl)) l1 wr from by rw [← HX.out]; exact ST.out)
      have hx0 : wr.cell? ⟨gx, 0, none⟩ = some (.slice B0 l0.length d0) := (blk_cell SU.out.bx 0).trans rfl
      have hx1 : wr.cell? ⟨gx, 1, none⟩ = some (.slice B1 l1.length d1) := (blk_cell SU.out.bx 1).trans rfl
      clear ST HX HG
      go_wp2
      go_loopg [33] l1.length (fun kq v33 w' => ∃ y : Int, v33 = .int .i64 y ∧ Aside0 (0 ≤ y ∧ kq + y.toNat = l1.length) ∧ Aside0 (StC w n2 n3 gx gr (.slice B0 l0.length d0) (.slice B1 l1.length d1) (l0.map (tT tl)) (upto (tA tl) l1 y.toNat) w'))
      case atStart => exact ⟨0, rfl, ⟨⟨Int.le_refl _, rfl⟩⟩, ⟨by rw [show (0 : Int).toNat = 0 from rfl, upto_0]; exact SU.out⟩⟩
      case round =>
        clear SU c6b0 hx0 hx1
        obtain ⟨y, rfl, HG, ST⟩ := hrel
        by_cases c6 : y < (l1.length : Int)
        · have c6b0 : decide (y < (l1.length : Int)) = true := decide_eq_true c6
          have p5 : 0 ≤ y := HG.out.1
          have hlt : y.toNat < l1.length := by omega
          have HLT := Aside0.mk hlt
          obtain ⟨go, co, eo, gb, gl, cl, hgo⟩ := Kd.S_form ST.out.r1 (by rw [upto_len]; omega)
          injection eo with ea en ec
          subst ea; subst ec
          clear en gb gl cl hgo
          obtain ⟨okj, cj, hclj, hMj, hccj, hokj, hHj⟩ := Kd.S_lend ST.out.r1 z97 y p5 c6
          rw [upto_get] at hMj
          have hin : l1.getD y.toNat z97 ∈ l1 := by rw [List.getD_eq_getElem?_getD, List.getElem?_eq_getElem hlt]; exact List.getElem_mem _
          have hsm := HS.out _ hin
          have HEL := Aside0.mk (upto_step (tA tl) l1 y.toNat z97 hlt)
          generalize l1.getD y.toNat z97 = el at hMj hsm HEL
          obtain ⟨f0, fl⟩ := el
          obtain ⟨vj, rfl, gj⟩ := k97_openM hMj
          have HSM := Aside0.mk (show fl.length ≤ 1048576 from hsm)
          have hx0 : wr.cell? ⟨go, y.toNat * 2, none⟩ = some (.int .i64 f0) := hccj 0 _ rfl
          have hx1 : wr.cell? ⟨go, y.toNat * 2 + 1, none⟩ = some vj := hccj 1 _ rfl
          have RJ := Aside0.mk (show Kd.R (Kd.int .i64) 3 wr w.heap.size okj vj fl from gj)
          have RH := Aside0.mk hHj
          have HOK := Aside0.mk (fun k hk => (hokj k hk).1.1)
          have HOK2 := Aside0.mk (fun k hk => (hokj k hk).1.2)
          obtain ⟨B2, d2, rfl⟩ := Kd.R_slice gj
          have q5 := eq_true c6
          have r5 := eq_true p5
          clear hlt hclj hMj hccj hokj hHj gj hin hsm
          go_wp2_with (first | ((with_reducible refine gate_dst (N := 9) rfl ?_); refine hold ?_))
          unfold Hold
          refine box_event ?hg6 (N := 9) ?hd6 (cs := #[.int .i64 0, .slice none 0 0]) (t := 97) ?hr6 ?_
          case hd6 => rfl
          case hg6 => rfl
          case hr6 => first | (go_simp; done) | (go_simp; rfl)
          intro ga hg w6 hbox hb
          have BA := Aside0.mk hbox
          have GA := Aside0.mk (show n3 ≤ ga from by rw [hg]; have h1 := GX.out; have h2 := blk_lt ST.out.bx; omega)
          have GXA := Aside0.mk (show gx < ga from by rw [hg]; exact blk_lt ST.out.bx)
          replace ST := Aside0.mk (ST.out.below hb)
          replace RJ := Aside0.mk (Kd.R_below RJ.out hb)
          replace RH := Aside0.mk (Kd.H_kept RH.out (Kept.of_below hb (fun _ => False)) (fun _ _ _ h => h))
          clear hbox hb hg hx0 hx1
          have hy0 : w6.cell? ⟨ga, 0, none⟩ = some (.int .i64 0) := (blk_cell BA.out 0).trans rfl
          have hy1 : w6.cell? ⟨ga, 1, none⟩ = some (.slice none 0 0) := (blk_cell BA.out 1).trans rfl
          have hf0 := blk_frozen BA.out 0
          have hf1 := blk_frozen BA.out 1
          go_wp2_with (first | ((with_reducible refine gate_store (t := 97) (p := 9) rfl ?_); refine hold ?_))
          unfold Hold
          refine store_event (t := 97) (p := 9) (v := ?vo_s8) (w1 := ((w6.setCell ⟨ga, 0, none⟩ (.int .i64 f0)).setCell ⟨ga, 1, none⟩ (.slice B2 fl.length d2))) ?hg8 ?ho8 ?hn8 ?hr8 ?_
          case ho8 => rfl
          case hg8 => rfl
          case hn8 => rfl
          case hr8 => first | (go_simp; done) | (go_simp; rfl)
          intro w8 hw
          have hk : Kept w6 w8 (fun k => k = ga) := by rw [hw]; exact kept_two _ _
          have OWN := Aside0.mk (fun k (hk : some k = (Value.slice B0 l0.length d0).ownBlock) => ST.out.r0.1 k hk.symm)
          have SD := Aside0.mk (show StD w n2 n3 gx gr ga (.slice B0 l0.length d0) (.slice (some ⟨go, 0, none⟩) l1.length d1) (.slice B2 fl.length d2) (l0.map (tT tl)) (upto (tA tl) l1 y.toNat) y okj f0 fl w8 from
            ⟨Kd.R_kept (Kd.R_tight rfl ST.out.r0) hk (fun k h1 h2 => by have h3 := OWN.out k h1; have h4 := GA.out; omega), Kd.H_kept RH.out hk (fun k h1 h2 h3 => by have h4 := GA.out; omega), Kd.R_kept RJ.out hk (fun k h1 h3 => by have h4 := GA.out; have h5 := HOK.out k h1; omega),
              blk_kept ST.out.bx hk (fun h => by have h1 := GXA.out; omega), blk_kept ST.out.br hk (fun h => by have h1 := GA.out; have h2 := GR2.out; have h3 := G3.out; omega),
              by rw [hw]; exact blk_put (cs := #[.int .i64 f0, .slice none 0 0]) (blk_put (cs := #[.int .i64 0, .slice none 0 0]) BA.out 0 _ rfl) 1 _ rfl,
              by rw [hw]; exact below_set (below_set ST.out.hb (by have h1 := GA.out; have h3 := G3.out; show w.heap.size ≤ ga; omega)) (by have h1 := GA.out; have h3 := G3.out; show w.heap.size ≤ ga; omega)⟩)
          clear ST RJ RH hk hw BA hy0 hy1 hf0 hf1
          have hx1 : w8.cell? ⟨ga, 1, none⟩ = some (.slice B2 fl.length d2) := (blk_cell SD.out.ba 1).trans rfl
          go_wp2
          go_loopg [40] fl.length (fun kq v40 w' => ∃ x : Int, v40 = .int .i64 x ∧ Aside0 (0 ≤ x ∧ kq + x.toNat = fl.length) ∧ Aside0 (StD w n2 n3 gx gr ga (.slice B0 l0.length d0) (.slice (some ⟨go, 0, none⟩) l1.length d1) (.slice B2 fl.length d2) (l0.map (tT tl)) (upto (tA tl) l1 y.toNat) y okj f0 (upto (tT tl) fl x.toNat) w'))
          case atStart => exact ⟨0, rfl, ⟨⟨Int.le_refl _, rfl⟩⟩, ⟨by rw [show (0 : Int).toNat = 0 from rfl, upto_0]; exact SD.out⟩⟩
          case round =>
            clear SD c6b0 hx1
            obtain ⟨x, rfl, HG2, ST⟩ := hrel
            by_cases c8 : x < (fl.length : Int)
            · have c8b0 : decide (x < (fl.length : Int)) = true := decide_eq_true c8
              have p7 : 0 ≤ x := HG2.out.1
              have hlt : x.toNat < fl.length := by omega
              have HLT2 := Aside0.mk hlt
              obtain ⟨gj, co, eo, gb, gl, cl, hgo⟩ := Kd.R_form ST.out.rj (by rw [upto_len]; omega)
              injection eo with ea en ec
              subst ea; subst ec
              clear en gb gl cl hgo
              have hx5 : wr.cell? ⟨gj, x.toNat, none⟩ = some (.int .i64 (rd fl x)) := by
                have h1 := (Kd.R_celln 0 ST.out.rj x p7 c8).1
                rw [show rdOf 0 (upto (tT tl) fl x.toNat) x = rd fl x from upto_get _ _ _ _] at h1
                exact h1
              have q7 := eq_true c8
              have r7 := eq_true p7
              clear hlt
              try go_wp2
              have HDW := Aside0.mk (ST.out.below (below_drew (Below.refl _ _)))
              refine start_ (n := 8) (S := fun w' => w'.cell? ⟨ga, 1, none⟩ = some (.slice (some ⟨gj, 0, none⟩) fl.length d2)) (ds := []) #[false, false, false, false, false, false, false, false] (by kernel_rfl) rfl rfl ((blk_cell HDW.out.ba 1).trans rfl) (fun hHeld => ?_)
              generalize wr.drew = w9 at HDW hHeld ⊢
              refine pure_ (i := 0) (N := some 45) (v := ?_) (a' := ?_) #[true, false, false, false, false, false, false, false] rfl rfl (by kernel_rfl) (fun _ _ _ h => h) (Or.inl ⟨by rfl, ?_⟩) ?_ ?_
              rotate_left
              · intro w'; go_simp; with_reducible rfl
              rotate_left
              · simp only [Act.put, List.setIfInBounds_toArray, List.set_cons_zero, List.set_cons_succ, i64_w, i32_w]; rfl
              refine pure_ (i := 2) (N := some 47) (v := ?_) (a' := ?_) #[true, false, true, false, false, false, false, false] rfl rfl (by kernel_rfl) (fun _ _ _ h => h) (Or.inl ⟨by rfl, ?_⟩) ?_ ?_
              rotate_left
              · intro w'; go_simp; with_reducible rfl
              rotate_left
              · simp only [Act.put, List.setIfInBounds_toArray, List.set_cons_zero, List.set_cons_succ, i64_w, i32_w]; rfl
              refine pure_ (i := 3) (N := some 48) (v := ?_) (a' := ?_) #[true, false, true, true, false, false, false, false] rfl rfl (by kernel_rfl) (fun _ _ _ h => h) (Or.inl ⟨by rfl, ?_⟩) ?_ ?_
              rotate_left
              · intro w'; go_simp; with_reducible rfl
              rotate_left
              · simp only [Act.put, List.setIfInBounds_toArray, List.set_cons_zero, List.set_cons_succ, i64_w, i32_w]; rfl
              refine pure_ (i := 4) (N := some 49) (v := ?_) (a' := ?_) #[true, false, true, true, true, false, false, false] rfl rfl (by kernel_rfl) (fun _ _ _ h => h) (Or.inl ⟨by rfl, ?_⟩) ?_ ?_
              rotate_left
              · intro w'; go_simp; with_reducible rfl
              rotate_left
              · simp only [Act.put, List.setIfInBounds_toArray, List.set_cons_zero, List.set_cons_succ, i64_w, i32_w]; rfl
              refine take_ (i := 1) (N := some 46) (v := ?_) (a' := ?_) #[true, true, true, true, true, false, false, false] rfl rfl (by kernel_rfl) (fun _ _ _ h => h) (Or.inl ⟨by rfl, ?_⟩) hHeld ?_ ?_
              rotate_left
              · rintro w' s0; go_simp; with_reducible rfl
              rotate_left
              · simp only [Act.put, List.setIfInBounds_toArray, List.set_cons_zero, List.set_cons_succ, i64_w, i32_w]; rfl
              refine one_ (i := 5) (N := some 50) #[true, true, true, true, true, true, false, false] rfl rfl (by kernel_rfl) (by decide) (fun K hK => ?_)
              refine goesC_ Try.func98 (by kernel_rfl) rfl #[] #[.pointer (some ⟨g, 0, none⟩)] #[.int .i64 (rd fl x), .pointer (some ⟨g, 0, none⟩)] (by rfl) rfl rfl (by rfl) (by (try simp only [List.map_toArray, List.map_cons, List.map_nil, List.append_toArray, List.nil_append, List.cons_append]); first | done | rfl) ?_
              refine (rename1_calls g A c tl _ w9 (blk_below BT.out HDW.out.hb) (Kd.C_below HT.out HDW.out.hb) HH.out.2.2).mono ?_
              rintro e w10 ⟨rfl, hd⟩
              refine ⟨_, rfl, ?_⟩
              have HD7 := Aside0.mk (HDW.out.below hd.below)
              clear HDW hd
              refine hK.out _ _ ((blk_cell HD7.out.ba 1).trans rfl) (fun hHeld => ?_)
              clear hK K
              refine norm_ (a' := ?_) ?_ ?_
              rotate_left
              · show Act.put _ (some 50) _ = _; simp only [Act.put, List.setIfInBounds_toArray, List.set_cons_zero, List.set_cons_succ, i64_w, i32_w]; rfl
              refine pure_ (i := 6) (N := some 51) (v := ?_) (a' := ?_) #[true, true, true, true, true, true, true, false] rfl rfl (by kernel_rfl) (fun _ _ _ h => h) (Or.inl ⟨by rfl, ?_⟩) ?_ ?_
              rotate_left
              · intro w'; go_simp; with_reducible rfl
              rotate_left
              · simp only [Act.put, List.setIfInBounds_toArray, List.set_cons_zero, List.set_cons_succ, i64_w, i32_w]; rfl
              refine one_ (i := 7) (N := none) #[true, true, true, true, true, true, true, true] rfl rfl (by kernel_rfl) (by decide) (fun K hK => ?_)
              have hc7 := Kd.R_celln 0 HD7.out.rj x p7 c8
              have hx7 := hc7.1
              have hf7 := hc7.2
              clear hc7
              have HP := Kd.R_putg HD7.out.rj x (tT tl (rd fl x))
              have hk : Kept w10 (w10.setCell ⟨gj, x.toNat, none⟩ (.int .i64 (tT tl (rd fl x)))) (fun k => some k = (Value.slice (some ⟨gj, 0, none⟩) fl.length d2).ownBlock) := Kept.of_grown HP.2 (Kept.refl _ _) (fun k he => .inl he.symm)
              have GO := HOK.out gj (HD7.out.rj.1 gj rfl)
              have HE := Aside0.mk (show StD w n2 n3 gx gr ga (.slice B0 l0.length d0) (.slice (some ⟨go, 0, none⟩) l1.length d1) (.slice (some ⟨gj, 0, none⟩) fl.length d2) (l0.map (tT tl)) (upto (tA tl) l1 y.toNat) y okj f0 (upto (tT tl) fl (x.toNat + 1)) (w10.setCell ⟨gj, x.toNat, none⟩ (.int .i64 (tT tl (rd fl x)))) from
                ⟨Kd.R_kept HD7.out.r0 hk (fun k h1 h2 => by injection h2 with h_; have h : k = gj := h_; subst h; exact HOK2.out _ (HD7.out.rj.1 _ rfl) h1), Kd.H_kept HD7.out.r1 hk (fun k h1 h2 h3 => by injection h3 with h_; have h : k = gj := h_; subst h; exact h2 (HD7.out.rj.1 _ rfl)), by rw [← upto_step (tT tl) fl x.toNat 0 HLT2.out]; exact HP.1,
                  blk_kept HD7.out.bx hk (fun h => by injection h with h_; have h : _ = gj := h_; have h1 := GX.out; omega), blk_kept HD7.out.br hk (fun h => by injection h with h_; have h : _ = gj := h_; have h1 := GR2.out; omega), blk_kept HD7.out.ba hk (fun h => by injection h with h_; have h : _ = gj := h_; have h1 := GA.out; omega), below_set HD7.out.hb (by have h3 := G3.out; show w.heap.size ≤ gj; omega)⟩)
              clear HP hk GO HD7
              refine skip_ (w1 := ?_) (by rfl) rfl ?_ ?_
              rotate_left
              · go_simp; rfl
              refine hK.out _ _ ((blk_cell HE.out.ba 1).trans rfl) (fun _ => ?_)
              clear hK K
              refine done_ (by kernel_rfl) ?_
              go_wp2
              go_roundg (fl.length - (x.toNat + 1))
              case measure => have := HG2.out; have := HLT2.out; omega
              case rel => exact ⟨(wrap64 (x + 1)), rfl, ⟨by have := HG2.out; have := HLT2.out; have h3 := HSM.out; rw [w64 (by omega) (by omega)]; omega⟩, ⟨by rw [w64 (by have := HG2.out; omega) (by have h3 := HSM.out; have := HLT2.out; omega), show (x + 1).toNat = x.toNat + 1 by have := HG2.out; omega]; exact HE.out⟩⟩
            · have c8b0 : decide (x < (fl.length : Int)) = false := decide_eq_false c8
              have HX := Aside0.mk (show upto (tT tl) fl x.toNat = fl.map (tT tl) from upto_end _ _ _ (by omega))
              have SN := Aside0.mk (show StC w n2 n3 gx gr (.slice B0 l0.length d0) (.slice (some ⟨go, 0, none⟩) l1.length d1) (l0.map (tT tl)) (upto (tA tl) l1 (y.toNat + 1)) wr from
                ⟨Kd.R_mono ST.out.r0 (fun k hk => OWN.out k hk), by rw [← HEL.out]; exact Kd.H_back ST.out.r1 (k97_mkM wr w.heap.size okj (tA tl ⟨f0, fl⟩) (show Kd.R (Kd.int .i64) 3 wr w.heap.size okj _ (fl.map (tT tl)) from by rw [← HX.out]; exact ST.out.rj)) (fun _ hk => hk), ST.out.bx, ST.out.br, ST.out.hb⟩)
              clear ST HX c8
              go_wp2
              go_roundg (l1.length - (y.toNat + 1))
              case measure => have := HG.out; have := HLT.out; omega
              case rel => exact ⟨(wrap64 (y + 1)), rfl, ⟨by have := HG.out; have := HLT.out; have h3 := HH.out.2.1; rw [w64 (by omega) (by omega)]; omega⟩, ⟨by rw [w64 (by have := HG.out; omega) (by have h3 := HH.out.2.1; have := HLT.out; omega), show (y + 1).toNat = y.toNat + 1 by have := HG.out; omega]; exact SN.out⟩⟩
        · have c6b0 : decide (y < (l1.length : Int)) = false := decide_eq_false c6
          have HX := Aside0.mk (show upto (tA tl) l1 y.toNat = l1.map (tA tl) from upto_end _ _ _ (by omega))
          clear c6
          have SU := Aside0.mk (show StC w n2 n3 gx gr (.slice B0 l0.length d0) (.slice B1 l1.length d1) (l0.map (tT tl)) (l1.map (tA tl)) wr from by rw [← HX.out]; exact ST.out)
          have hx0 : wr.cell? ⟨gx, 0, none⟩ = some (.slice B0 l0.length d0) := (blk_cell SU.out.bx 0).trans rfl
          have hx1 : wr.cell? ⟨gx, 1, none⟩ = some (.slice B1 l1.length d1) := (blk_cell SU.out.bx 1).trans rfl
          have hy0 : wr.cell? ⟨gr, 0, none⟩ = some (.slice none 0 0) := (blk_cell SU.out.br 0).trans rfl
          have hy1 : wr.cell? ⟨gr, 1, none⟩ = some (.slice none 0 0) := (blk_cell SU.out.br 1).trans rfl
          have hf0 := blk_frozen SU.out.br 0
          have hf1 := blk_frozen SU.out.br 1
          clear ST HX HG
          go_wp2
          refine bodyPost_ret (results_cell_row rfl _ _ gr 46 #[.slice B0 l0.length d0, .slice B1 l1.length d1] (0, 0) _ rfl (blk_put (cs := #[.slice B0 l0.length d0, .slice none 0 0]) (blk_put (cs := #[.slice none 0 0, .slice none 0 0]) SU.out.br 0 _ rfl) 1 _ rfl) Try.underlying46 rfl (by kernel_rfl)) rfl ?_
          have hk : Kept wr ((wr.setCell ⟨gr, 0, none⟩ (.slice B0 l0.length d0)).setCell ⟨gr, 1, none⟩ (.slice B1 l1.length d1)) (fun k => k = gr) := kept_two _ _
          have h2 := GR2.out
          have h3 := GR.out
          exact ⟨_, _, rfl, Kd.R_mono (Kd.R_kept SU.out.r0 hk (fun k h1 h4 => by omega)) (fun _ _ => trivial), Kd.S_mono (Kd.S_kept SU.out.r1 hk (fun k h1 h4 => by omega)) (fun _ h => h.2), below_set (below_set SU.out.hb h3) h3⟩

set_option maxHeartbeats 8000000 in
set_option maxRecDepth 100000 in
theorem impl_RenameQuery_calls (A0_0 : Option Addr) (c0_0 : Nat) (l0_0 : List Int) (A0_1 : Option Addr) (c0_1 : Nat) (l0_1 : List (S97)) (A1 : Option Addr) (c1 : Nat) (l1 : List Int) (r1 : List Int) (r2 : List (S97)) (w : World) (hr0_0 : Kd.C (Kd.int .i64) w A0_0 l0_0.length l0_0) (hc0_0 : l0_0.length ≤ c0_0) (hr0_1 : Kd.C k97 w A0_1 l0_1.length l0_1) (hc0_1 : l0_1.length ≤ c0_1) (hr1 : Kd.C (Kd.int .i64) w A1 l1.length l1) (hc1 : l1.length ≤ c1) (hz0 : (l0_0.length ≤ 1048576 ∧ l0_1.length ≤ 1048576 ∧ l1.length ≤ 1048576) ∧ ∀ x ∈ l0_1, x.f1.length ≤ 1048576) (h : (l0_0.map (tT l1), l0_1.map (tA l1)) = (r1, r2)) :
    Calls Try.prog 42 #[.agg #[.slice A0_0 l0_0.length c0_0, .slice A0_1 l0_1.length c0_1], .slice A1 l1.length c1] w fun e w' => ∃ v0_ v1_ : Value, e = .returned (.agg #[v0_, v1_]) ∧ Kd.R (Kd.int .i64) 3 w' w.heap.size (fun _ => True) v0_ r1 ∧ Kd.S k97 97 w' w.heap.size (fun k_ => some k_ ≠ (v0_ : Value).ownBlock) v1_ r2 ∧ Below w.heap.size w w' := by
  injection h with h1 h2
  have E1 := Aside0.mk h1
  have E2 := Aside0.mk h2
  clear h1 h2
  have hmf : ∀ (fn : Fn) (first cap : Array Value) (w : World), (Instr.makeFunc fn first cap).run Try.prog w = .ok (.func fn first cap) w := fun _ _ _ _ => rfl
  have hu46 := Try.underlying46
  have R0 := Aside0.mk hr0_0
  have R1 := Aside0.mk hr0_1
  have HT := Aside0.mk hr1
  have HZ := Aside0.mk hz0
  have HC0 := Aside0.mk hc0_0
  have HC1 := Aside0.mk hc0_1
  have HB := Aside0.mk (Below.refl w.heap.size w)
  clear hr0_0 hr0_1 hr1 hz0 hc0_0 hc0_1 hc1
  go_enter Try.func42, Try.ntmps42
  go_wp2_with (first | ((with_reducible refine gate_dst (N := 2) rfl ?_); refine hold ?_))
  unfold Hold
  refine box_event ?hg (N := 2) ?hd (cs := #[.slice A0_0 l0_0.length c0_0, .slice A0_1 l0_1.length c0_1]) (t := 46) ?hr ?_
  case hd => rfl
  case hg => rfl
  case hr => first | (go_simp; done) | (go_simp; rfl)
  intro gq hg w1 hbox hb
  have BQ := Aside0.mk hbox
  replace HB := Aside0.mk (below_step HB.out hb)
  clear hbox hb hg
  go_wp2_with (first | ((with_reducible refine gate_dst (N := 3) rfl ?_); refine hold ?_))
  unfold Hold
  refine box_event ?hg1 (N := 3) ?hd1 (cs := #[.slice A1 l1.length c1]) (t := 38) ?hr1 ?_
  case hd1 => rfl
  case hg1 => rfl
  case hr1 => first | (go_simp; done) | (go_simp; rfl)
  intro g hg w2 hbox hb
  have BT := Aside0.mk hbox
  replace BQ := Aside0.mk (blk_below BQ.out hb)
  replace HB := Aside0.mk (below_step HB.out hb)
  clear hbox hb hg
  go_wp2_with (first | ((with_reducible refine gate_dst (N := 4) rfl ?_); refine hold ?_))
  unfold Hold
  refine box_event ?hg2 (N := 4) ?hd2 (cs := #[.slice none 0 0, .slice none 0 0]) (t := 46) ?hr2 ?_
  case hd2 => rfl
  case hg2 => rfl
  case hr2 => first | (go_simp; done) | (go_simp; rfl)
  intro gr hg w3 hbox hb
  have BR := Aside0.mk hbox
  have GR := Aside0.mk (show w.heap.size ≤ gr from by rw [hg]; exact HB.out.size)
  replace BQ := Aside0.mk (blk_below BQ.out hb)
  replace BT := Aside0.mk (blk_below BT.out hb)
  replace HB := Aside0.mk (below_step HB.out hb)
  clear hbox hb hg
  have hx0 : w3.cell? ⟨gq, 0, none⟩ = some (.slice A0_0 l0_0.length c0_0) := (blk_cell BQ.out 0).trans rfl
  have hx1 : w3.cell? ⟨gq, 1, none⟩ = some (.slice A0_1 l0_1.length c0_1) := (blk_cell BQ.out 1).trans rfl
  go_wp2_with (first | (go_at_call 97; refine hold ?_))
  unfold Hold
  refine (changed_calls _ _ l0_0 _ _ l0_1 g A1 c1 l1 _ (Kd.C_below R0.out HB.out) HC0.out (Kd.C_below R1.out HB.out) HC1.out BT.out (Kd.C_below HT.out HB.out) HZ.out.1.2.2 HZ.out.1.1 HZ.out.1.2.1 HZ.out.2).mono ?_
  rintro e w4 ⟨v0, v1, rfl, ho0, ho1, hb⟩
  rw [E1.out] at ho0
  rw [E2.out] at ho1
  obtain ⟨B0, d0, rfl⟩ := Kd.R_slice ho0
  obtain ⟨B1, d1, rfl⟩ := Kd.S_slice ho1
  have q0 := Aside0.mk (newR ho0 HB.out.size)
  have q1 := Aside0.mk (newS ho1 HB.out.size)
  have GR2 := Aside0.mk (show gr < w3.heap.size from blk_lt BR.out)
  replace BR := Aside0.mk (blk_below BR.out hb)
  replace HB := Aside0.mk (below_step HB.out hb)
  clear ho0 ho1 hb hx0 hx1 R0 R1 HT HC0 HC1 HZ BQ BT
  have hy0 : w4.cell? ⟨gr, 0, none⟩ = some (.slice none 0 0) := (blk_cell BR.out 0).trans rfl
  have hy1 : w4.cell? ⟨gr, 1, none⟩ = some (.slice none 0 0) := (blk_cell BR.out 1).trans rfl
  have hf0 := blk_frozen BR.out 0
  have hf1 := blk_frozen BR.out 1
  go_wp2
  refine bodyPost_ret (results_cell_row rfl _ _ gr 46 #[.slice B0 r1.length d0, .slice B1 r2.length d1] (0, 0) _ rfl (blk_put (cs := #[.slice B0 r1.length d0, .slice none 0 0]) (blk_put (cs := #[.slice none 0 0, .slice none 0 0]) BR.out 0 _ rfl) 1 _ rfl) Try.underlying46 rfl (by kernel_rfl)) rfl ?_
  have hk : Kept w4 ((w4.setCell ⟨gr, 0, none⟩ (.slice B0 r1.length d0)).setCell ⟨gr, 1, none⟩ (.slice B1 r2.length d1)) (fun k => k = gr) := kept_two _ _
  have h2 := GR2.out
  have h3 := GR.out
  exact ⟨_, _, rfl, Kd.R_mono (Kd.R_kept q0.out hk (fun k h1 h4 => by have := h1.1.1; omega)) (fun _ _ => trivial), Kd.S_mono (Kd.S_kept q1.out hk (fun k h1 h4 => by have := h1.1.1; omega)) (fun _ h => h.2), below_set (below_set HB.out h3) h3⟩

/-- What marking a list leaves, and the next mark. -/
def mkA : List S97 → Int → List S97 × Int
  | [], m => ([], m)
  | x :: xs, m => (⟨m, mMarks (m + 1) x.f1.length⟩ :: (mkA xs (m + 1 + (x.f1.length : Int))).1, (mkA xs (m + 1 + (x.f1.length : Int))).2)
def szA : List S97 → Nat
  | [] => 0
  | x :: xs => x.f1.length + 1 + szA xs
theorem mkA_len : ∀ (l : List S97) (m : Int), (mkA l m).1.length = l.length
  | [], _ => rfl
  | x :: xs, m => by simp [mkA, mkA_len xs]
theorem mkA_end : ∀ (l : List S97) (m : Int), (mkA l m).2 = m + (szA l : Int)
  | [], m => by simp [mkA, szA]
  | x :: xs, m => by simp [mkA, szA, mkA_end xs]; omega
/-- Where the i-th round stands. -/
structure AtA (l xs : List S97) (m q : Int) (i : Nat) : Prop where
  len : xs.length = l.length
  le : i ≤ l.length
  lo : 0 ≤ q
  hi : q + (szA (xs.drop i) : Int) ≤ 4611686018427387904
  fst : xs.take i ++ (mkA (xs.drop i) q).1 = (mkA l m).1
  snd : (mkA (xs.drop i) q).2 = (mkA l m).2
theorem AtA.start {l : List S97} {m : Int} (h0 : 0 ≤ m) (h1 : m + (szA l : Int) ≤ 4611686018427387904) : AtA l l m m 0 := ⟨rfl, Nat.zero_le _, h0, by simpa using h1, by simp, by simp⟩
theorem AtA.drop {l xs : List S97} {m q : Int} {i : Nat} (h : AtA l xs m q i) (hi : i < l.length) : xs.drop i = xs.getD i z97 :: xs.drop (i + 1) := by
  have hx : i < xs.length := by rw [h.len]; exact hi
  rw [List.drop_eq_getElem_cons hx, List.getD_eq_getElem?_getD, List.getElem?_eq_getElem hx]; rfl
theorem AtA.more {l xs : List S97} {m q : Int} {i : Nat} (h : AtA l xs m q i) (hi : i < l.length) : q + 1 + ((xs.getD i z97).f1.length : Int) ≤ 4611686018427387904 := by
  have := h.hi; rw [h.drop hi] at this; simp only [szA] at this; omega
theorem AtA.step {l xs : List S97} {m q : Int} {i : Nat} (h : AtA l xs m q i) (hi : i < l.length) :
    AtA l ((xs.set i ⟨q, (xs.getD i z97).f1⟩).set i ⟨q, mMarks (q + 1) (xs.getD i z97).f1.length⟩) m (q + 1 + ((xs.getD i z97).f1.length : Int)) (i + 1) := by
  have hx : i < xs.length := by rw [h.len]; exact hi
  have hd : (((xs.set i ⟨q, (xs.getD i z97).f1⟩).set i ⟨q, mMarks (q + 1) (xs.getD i z97).f1.length⟩)).drop (i + 1) = xs.drop (i + 1) := by
    rw [List.drop_set_of_lt (by omega), List.drop_set_of_lt (by omega)]
  have hb := h.hi
  have hf := h.fst
  have hs := h.snd
  rw [h.drop hi] at hb hf hs
  simp only [szA, mkA] at hb hf hs
  refine ⟨by simp [h.len], by omega, by have := h.lo; omega, by rw [hd]; omega, ?_, by rw [hd]; exact hs⟩
  rw [hd, ← hf]
  rw [List.take_succ_eq_append_getElem (by simpa using hx), List.take_set_of_le (Nat.le_refl _), List.take_set_of_le (Nat.le_refl _)]
  simp
theorem AtA.done {l xs : List S97} {m q : Int} {i : Nat} (h : AtA l xs m q i) (hi : ¬ i < l.length) : xs = (mkA l m).1 ∧ q = (mkA l m).2 := by
  have he : xs.drop i = [] := List.drop_eq_nil_of_le (by rw [h.len]; omega)
  have hf := h.fst
  have hs := h.snd
  rw [he] at hf hs
  simp only [mkA, List.append_nil] at hf hs
  rw [List.take_of_length_le (by rw [h.len]; omega)] at hf
  exact ⟨hf, hs⟩
set_option maxHeartbeats 8000000 in
set_option maxRecDepth 100000 in
theorem markAtomS_walk (P : Nat → Prop) (u : Value) (l : List S97) (m : Int) (w0 w : World) (hB : Below w0.heap.size w0 w) (ho : Kd.S k97 97 w w0.heap.size P u l) (h0 : 0 ≤ m) (h1 : m + (szA l : Int) ≤ 4611686018427387904) (hl : l.length ≤ 17592186044416) (hla : ∀ x ∈ l, x.f1.length ≤ 17592186044416) :
    Calls Try.prog 99 #[u, .int .i64 m] w fun e w' => e = .returned (.int .i64 (mkA l m).2) ∧ Kd.S k97 97 w' w0.heap.size P u (mkA l m).1 ∧ Below w0.heap.size w0 w' ∧ Kept w w' P := by
  have hu97 := Try.underlying97
  obtain ⟨A, c, rfl⟩ := Kd.S_slice ho
  have HO := Aside0.mk ho
  have HB := Aside0.mk hB
  have HK := Aside0.mk (Kept.refl w P)
  have HI := Aside0.mk (AtA.start h0 h1)
  have HL := Aside0.mk hl
  have HF := Aside0.mk hla
  clear ho hB h0 h1 hl hla
  go_enter Try.func99, Try.ntmps99
  go_wp2
  go_loopg [1, 5] l.length (fun kq v1 v5 w' => ∃ (xs : List S97) (q x : Int), v1 = .int .i64 q ∧ v5 = .int .i64 x ∧ Aside0 (0 ≤ x ∧ kq + x.toNat = l.length) ∧ Aside0 (AtA l xs m q x.toNat) ∧ Aside0 (xs.length = l.length ∧ ∀ x ∈ xs, x.f1.length ≤ 17592186044416) ∧ Aside0 (Kd.S k97 97 w' w0.heap.size P (.slice A l.length c) xs) ∧ Aside0 (Kept w w' P) ∧ Aside0 (Below w0.heap.size w0 w'))
  case atStart => exact ⟨l, m, 0, rfl, rfl, ⟨⟨Int.le_refl _, rfl⟩⟩, HI, ⟨⟨rfl, HF.out⟩⟩, HO, HK, HB⟩
  case round =>
    clear HI HF HO HK HB
    obtain ⟨xs, q, x, rfl, rfl, HG, HI, HF, HO, HK, HB⟩ := hrel
    by_cases c6 : x < (l.length : Int)
    · have c6b0 : decide (x < (l.length : Int)) = true := decide_eq_true c6
      have p5 : 0 ≤ x := HG.out.1
      have hlt : x.toNat < l.length := by omega
      have HT := Aside0.mk hlt
      have hxl := HF.out.1
      have hb0 := HI.out.more hlt
      have hb1 := HI.out.lo
      have hfl : (xs.getD x.toNat z97).f1.length ≤ 17592186044416 := by
        rw [List.getD_eq_getElem?_getD, List.getElem?_eq_getElem (by omega)]
        exact HF.out.2 _ (List.getElem_mem _)
      obtain ⟨km, hkm⟩ := (markIntS_ev (xs.getD x.toNat z97).f1 (q + 1) (by omega) (by omega) hfl).rounds
      have HM := Aside0.mk hkm
      have e1 : wrap64 (q + 1) = q + 1 := by unfold wrap64; omega
      have e2 : wrap64 (x + 1) = x + 1 := by have := HL.out; unfold wrap64; omega
      have E1 := Aside0.mk e1
      have E2 := Aside0.mk e2
      obtain ⟨go, co, eo, gb, gl, cl, hgo⟩ := Kd.S_form HO.out (by omega)
      injection eo with ea en ec
      subst ea; subst ec
      clear en
      obtain ⟨oki, ce, hcl, hM, hcc, hfr, hoki, hH⟩ := Kd.S_elem HO.out z97 x p5 c6
      obtain ⟨ve, rfl, ge⟩ := k97_openM hM
      have hx0 : wr.cell? ⟨go, x.toNat * 2, none⟩ = some (.int .i64 (xs.getD x.toNat z97).f0) := hcc 0 _ rfl
      have hf0 : wr.frozen? ⟨go, x.toNat * 2, none⟩ = false := hfr 0
      have HH := Aside0.mk hH
      have GE := Aside0.mk ge
      have PG := Aside0.mk (show P go from (Kd.S_R HO.out).1 go rfl)
      have HW := Aside0.mk (fun k hk => (hoki k hk).1)
      clear hcl hM hcc hfr hoki hH ge e1 e2 hkm hgo gb gl cl hb0 hb1 hfl hxl hlt HO
      go_wp2_with (first | ((with_reducible refine gate_store (t := 3) (p := 16) rfl ?_); refine hold ?_))
      unfold Hold
      refine Kd.H_store k97 w0.heap.size rfl rfl 3 _ _ rfl 97 x 0 xs (⟨q, (xs.getD x.toNat z97).f1⟩ : S97) (.int .i64 q) [.int .i64 q] _ P oki oki rfl rfl rfl rfl rfl (by simp [Value.oneCell']) HH.out p5 c6 (show 1 ≤ 2 from by decide) (k97_mkM _ _ _ (⟨q, (xs.getD x.toNat z97).f1⟩ : S97) GE.out) (fun _ h_ => h_) HB.out ?_
      intro w1 hs hb hg
      have HB1 := Aside0.mk hb
      have HK1 := Aside0.mk (Kept.of_grown hg HK.out (fun k he => .inl (by injection he with he; subst he; exact PG.out)))
      have hlt := HT.out
      have hg0 : (xs.set x.toNat (⟨q, (xs.getD x.toNat z97).f1⟩ : S97)).getD x.toNat z97 = ⟨q, (xs.getD x.toNat z97).f1⟩ := by
        rw [List.getD_eq_getElem?_getD, List.getElem?_set_self (by rw [HF.out.1]; exact hlt)]; rfl
      obtain ⟨okj, cj, hclj, hMj, hccj, hokj, hHj⟩ := Kd.S_lend hs z97 x p5 c6
      rw [hg0] at hMj
      obtain ⟨vj, rfl, gj⟩ := k97_openM hMj
      have hx1 : w1.cell? ⟨go, x.toNat * 2 + 1, none⟩ = some vj := hccj 1 _ rfl
      have GJ := Aside0.mk (show Kd.R (Kd.int .i64) 3 w1 w0.heap.size okj vj (xs.getD x.toNat z97).f1 from gj)
      have HHJ := Aside0.mk hHj
      have HWJ := Aside0.mk (fun k hk => (hokj k hk).1)
      clear HB HK hs hb hg HH GE HW hclj hMj hccj hokj hHj gj hlt hx0 hf0 hg0
      go_wp2_with (first | (go_at_call 45; refine hold ?_))
      unfold Hold
      refine (laws_markIntS.calls km (fun k => some k = vj.ownBlock) vj (xs.getD x.toNat z97).f1 _ _ _ w0 _ HB1.out (Kd.R_tight rfl GJ.out) (by rw [E1.out]; exact HM.out)).mono ?_
      rintro e w2 ⟨rfl, hr, hb2, hk2⟩
      have HB2 := Aside0.mk hb2
      have HK2 := Aside0.mk (HK1.out.then_ hk2 (fun k hk => .inl (HWJ.out k (GJ.out.1 k hk.symm))))
      have hM2 := k97_mkM w2 w0.heap.size okj (⟨q, mMarks (q + 1) (xs.getD x.toNat z97).f1.length⟩ : S97) (Kd.R_mono (Kd.R_tight rfl hr) (fun k hk => GJ.out.1 k hk.symm))
      have hs2 := Kd.H_back (Kd.H_kept HHJ.out hk2 (fun k hk hn h2 => hn (GJ.out.1 k h2.symm))) hM2 (fun _ hk => hk)
      have HO2 := Aside0.mk hs2
      have HI2 := Aside0.mk (HI.out.step HT.out)
      have HF2 : Aside0 (((xs.set x.toNat (⟨q, (xs.getD x.toNat z97).f1⟩ : S97)).set x.toNat ⟨q, mMarks (q + 1) (xs.getD x.toNat z97).f1.length⟩).length = l.length ∧ ∀ y ∈ ((xs.set x.toNat (⟨q, (xs.getD x.toNat z97).f1⟩ : S97)).set x.toNat ⟨q, mMarks (q + 1) (xs.getD x.toNat z97).f1.length⟩), y.f1.length ≤ 17592186044416) := by
        have hlt := HT.out
        have hfl : (xs.getD x.toNat z97).f1.length ≤ 17592186044416 := by
          rw [List.getD_eq_getElem?_getD, List.getElem?_eq_getElem (by rw [HF.out.1]; exact hlt)]
          exact HF.out.2 _ (List.getElem_mem _)
        refine ⟨⟨by simp [HF.out.1], fun y hy => ?_⟩⟩
        rcases List.mem_or_eq_of_mem_set hy with h | h
        · rcases List.mem_or_eq_of_mem_set h with h | h
          · exact HF.out.2 y h
          · rw [h]; exact hfl
        · rw [h]; show (mMarks _ _).length ≤ _; rw [mMarks_length]; exact hfl
      clear HB1 HK1 HHJ GJ hr hb2 hk2 hM2 hs2 hx1 HWJ
      go_wp2
      go_roundg (gk - 1)
      case measure => have := HG.out; have := HT.out; omega
      case rel => exact ⟨_, _, (wrap64 (x + 1)), rfl, rfl, ⟨by have := HG.out; have := HT.out; rw [E2.out]; omega⟩, ⟨by rw [E2.out, show (x + 1).toNat = x.toNat + 1 by have := HG.out; omega]; exact HI2.out⟩, HF2, HO2, HK2, HB2⟩
    · have c6b0 : decide (x < (l.length : Int)) = false := decide_eq_false c6
      have hd := HI.out.done (by omega)
      have HD := Aside0.mk hd
      clear hd c6
      go_wp2
      go_ret
      exact ⟨by rw [← HD.out.2]; rfl, by rw [← HD.out.1]; exact HO.out, HB.out, HK.out⟩
theorem markAtomS_calls (P0_ : Nat → Prop) (u9000_ : Value) (l0 : List S97) (a1 : Int) (r1 : Int) (r2 : List S97) (w0 w : World) (hB : Below w0.heap.size w0 w) (ho0 : Kd.S k97 97 w w0.heap.size P0_ u9000_ l0) (hz0 : (0 ≤ a1 ∧ a1 + (szA l0 : Int) ≤ 4611686018427387904) ∧ l0.length ≤ 17592186044416 ∧ ∀ x ∈ l0, x.f1.length ≤ 17592186044416) (h : mkA l0 a1 = (r2, r1)) :
    Calls Try.prog 99 #[u9000_, .int .i64 a1] w fun e w' => e = .returned (.int .i64 r1) ∧ Kd.S k97 97 w' w0.heap.size (fun k_ => P0_ k_) u9000_ r2 ∧ Below w0.heap.size w0 w' ∧ Kept w w' (fun k_ => P0_ k_) := by
  have e := markAtomS_walk P0_ u9000_ l0 a1 w0 w hB ho0 hz0.1.1 hz0.1.2 hz0.2.1 hz0.2.2
  rw [h] at e
  exact e

/-- What marking a query leaves. -/
def mkQ (h : List Int) (d : List S97) (m : Int) : Int × List Int × List S97 := ((mkA d (m + (h.length : Int))).2, mMarks m h.length, (mkA d (m + (h.length : Int))).1)
set_option maxHeartbeats 8000000 in
set_option maxRecDepth 100000 in
theorem markQuery_calls (P0_0_ : Nat → Prop) (u9000_ u9001_ : Value) (l0_0 : List Int) (l0_1 : List S97) (a1 : Int) (r1 : Int) (r2 : List Int) (r3 : List S97) (w0 w : World) (hB : Below w0.heap.size w0 w) (ho0_0 : Kd.R (Kd.int .i64) 3 w w0.heap.size P0_0_ u9000_ l0_0) (ho0_1 : Kd.S k97 97 w w0.heap.size (fun k_ => P0_0_ k_ ∧ some k_ ≠ (u9000_ : Value).ownBlock) u9001_ l0_1) (hz0 : (0 ≤ a1 ∧ a1 + (l0_0.length : Int) + (szA l0_1 : Int) ≤ 4611686018427387904) ∧ l0_0.length ≤ 17592186044416 ∧ l0_1.length ≤ 17592186044416 ∧ ∀ x ∈ l0_1, x.f1.length ≤ 17592186044416) (h : mkQ l0_0 l0_1 a1 = (r1, r2, r3)) :
    Calls Try.prog 44 #[.agg #[u9000_, u9001_], .int .i64 a1] w fun e w' => e = .returned (.int .i64 r1) ∧ Kd.R (Kd.int .i64) 3 w' w0.heap.size (fun k_ => P0_0_ k_) u9000_ r2 ∧ Kd.S k97 97 w' w0.heap.size (fun k_ => P0_0_ k_ ∧ some k_ ≠ (u9000_ : Value).ownBlock) u9001_ r3 ∧ Below w0.heap.size w0 w' ∧ Kept w w' (fun k_ => P0_0_ k_) := by
  injection h with h1 h2
  injection h2 with h2 h3
  subst h1; subst h2; subst h3
  obtain ⟨A0, c0, rfl⟩ := Kd.R_slice ho0_0
  obtain ⟨A1, c1, rfl⟩ := Kd.S_slice ho0_1
  obtain ⟨km, hkm⟩ := (markIntS_ev l0_0 a1 hz0.1.1 (by have := hz0.1.2; omega) hz0.2.1).rounds
  have HM := Aside0.mk hkm
  have HA := Aside0.mk ho0_0
  have HS := Aside0.mk ho0_1
  have HZ := Aside0.mk hz0
  have HB := Aside0.mk hB
  clear hkm ho0_0 ho0_1 hz0 hB
  have hu := Try.underlying46
  go_enter Try.func44, Try.ntmps44
  go_wp2_with (first | ((with_reducible refine gate_dst (N := 2) rfl ?_); refine hold ?_))
  unfold Hold
  refine box_event ?hg (N := 2) ?hd (cs := #[.slice A0 l0_0.length c0, .slice A1 l0_1.length c1]) (t := 46) ?hr ?_
  case hd => rfl
  case hg => rfl
  case hr => first | (go_simp; done) | (go_simp; rfl)
  intro g hg w1 hbox hb
  have BX := Aside0.mk hbox
  have HK := Aside0.mk (Kept.of_below hb (fun k_ => P0_0_ k_))
  have GG := Aside0.mk (show w.heap.size ≤ g from by rw [hg]; exact Nat.le_refl _)
  have n1 := Aside0.mk (Kd.R_bound (Kd.R_below HA.out hb))
  have n2 := Aside0.mk (Kd.S_below HS.out hb)
  have n3 := Aside0.mk (below_step HB.out hb)
  have LT_ := Aside0.mk (Kd.R_lt HA.out)
  clear HA HS HB hbox hb hg
  have hx0 : w1.cell? ⟨g, 0, none⟩ = some (.slice A0 l0_0.length c0) := (blk_cell BX.out 0).trans rfl
  have hx1 : w1.cell? ⟨g, 1, none⟩ = some (.slice A1 l0_1.length c1) := (blk_cell BX.out 1).trans rfl
  go_wp2_with (first | (go_at_call 45; refine hold ?_))
  unfold Hold
  refine (laws_markIntS.calls km (fun k => some k = (Value.slice A0 l0_0.length c0).ownBlock) _ l0_0 a1 _ _ w0 _ n3.out (Kd.R_tight rfl (Kd.R_mono n1.out (fun _ h => h.1))) HM.out).mono ?_
  rintro e w2 ⟨rfl, hr, hb2, hk2⟩
  have GA := Aside0.mk (show ∀ k, some k = (Value.slice A0 l0_0.length c0).ownBlock → P0_0_ k from fun k hk => (n1.out.1 k hk.symm).1)
  have GL := Aside0.mk (show ∀ k, some k = (Value.slice A0 l0_0.length c0).ownBlock → k < w.heap.size from fun k hk => LT_.out k hk.symm)
  have m1 := Aside0.mk (Kd.R_tight rfl hr)
  have m2 := Aside0.mk (Kd.S_kept n2.out hk2 (fun k h1 h2 => h1.2 h2))
  have m3 := Aside0.mk hb2
  have m4 := Aside0.mk (HK.out.then_ hk2 (fun k h => .inl (GA.out k h)))
  have m5 := Aside0.mk (blk_kept BX.out hk2 (fun h => by have h1 := GL.out _ h; have h2 := GG.out; omega))
  clear n1 n2 n3 HK BX hr hb2 hk2 hx0 hx1 LT_
  have hx0 : w2.cell? ⟨g, 0, none⟩ = some (.slice A0 l0_0.length c0) := (blk_cell m5.out 0).trans rfl
  have hx1 : w2.cell? ⟨g, 1, none⟩ = some (.slice A1 l0_1.length c1) := (blk_cell m5.out 1).trans rfl
  go_wp2_with (first | (go_at_call 99; refine hold ?_))
  unfold Hold
  refine (markAtomS_walk (fun k_ => P0_0_ k_ ∧ some k_ ≠ (Value.slice A0 l0_0.length c0).ownBlock) _ l0_1 (a1 + (l0_0.length : Int)) w0 _ m3.out m2.out (by have := HZ.out.1; omega) (by have := HZ.out.1.2; omega) HZ.out.2.2.1 HZ.out.2.2.2).mono ?_
  rintro e w3 ⟨rfl, hs3, hb3, hk3⟩
  have q1 := Aside0.mk (Kd.R_mono (Kd.R_kept m1.out hk3 (fun k h1 h2 => h2.2 h1)) (fun k hk => GA.out k hk))
  have q2 := Aside0.mk hs3
  have q3 := Aside0.mk hb3
  have q4 := Aside0.mk (m4.out.then_ hk3 (fun k h => .inl h.1))
  clear m1 m2 m3 m4 m5 hs3 hb3 hk3 hx0 hx1
  go_wp2
  go_ret
  exact ⟨rfl, q1.out, q2.out, q3.out, q4.out⟩

theorem szA_le {B : Nat} : ∀ (l : List S97), (∀ x ∈ l, x.f1.length ≤ B) → szA l ≤ l.length * (B + 1)
  | [], _ => by simp [szA]
  | x :: xs, h => by
    have h1 := szA_le xs (fun y hy => h y (List.mem_cons_of_mem _ hy))
    have h2 := h x List.mem_cons_self
    simp only [szA, List.length_cons, Nat.add_mul]
    omega
theorem szA_small (l : List S97) (hl : l.length ≤ 1048576) (hs : ∀ x ∈ l, x.f1.length ≤ 1048576) : szA l ≤ 1099512676352 := by
  have h := szA_le l hs
  have h2 : l.length * (1048576 + 1) ≤ 1048576 * (1048576 + 1) := Nat.mul_le_mul_right _ hl
  omega
/-- A query may be marked from m on; the mark behind it. -/
theorem markQ_ok (h : List Int) (d : List S97) (m : Int) (hh : h.length ≤ 1048576) (hl : d.length ≤ 1048576) (hs : ∀ x ∈ d, x.f1.length ≤ 1048576) (h0 : 0 ≤ m) (h1 : m ≤ 4000000000000000) :
    ((0 ≤ m ∧ m + (h.length : Int) + (szA d : Int) ≤ 4611686018427387904) ∧ h.length ≤ 17592186044416 ∧ d.length ≤ 17592186044416 ∧ ∀ x ∈ d, x.f1.length ≤ 17592186044416) ∧ m ≤ (mkQ h d m).1 ∧ (mkQ h d m).1 ≤ m + 1099513724928 := by
  have hz := szA_small d hl hs
  have he : (mkQ h d m).1 = m + (h.length : Int) + (szA d : Int) := by show (mkA d _).2 = _; rw [mkA_end]
  exact ⟨⟨⟨h0, by omega⟩, by omega, by omega, fun x hx => by have := hs x hx; omega⟩, by rw [he]; omega, by rw [he]; omega⟩

theorem heldAtomS_l0 : ∀ (l pre : List S97) (m : Int), 0 ≤ m → m + (szA l : Int) ≤ 4611686018427387904 → pre.length + l.length ≤ 17592186044416 → (∀ x ∈ l, x.f1.length ≤ 17592186044416) →
    Ev (fun k => laws_heldAtomS.l0 k (pre ++ (mkA l m).1) m (pre.length : Int)) (mkA l m).2
  | [], pre, m, h0, h1, h, hs => by
    refine evn fun k => ?_
    simp only [laws_heldAtomS.l0, mkA, List.append_nil]
    rw [if_neg (end_not _)]
  | x :: xs, pre, m, h0, h1, h, hs => by
    have hx := hs x List.mem_cons_self
    simp only [szA] at h1
    simp only [List.length_cons] at h
    have r := heldAtomS_l0 xs (pre ++ [⟨m, mMarks (m + 1) x.f1.length⟩]) (m + 1 + (x.f1.length : Int)) (by omega) (by omega) (by simp; omega) (fun y hy => hs y (List.mem_cons_of_mem _ hy))
    simp only [mkA]
    have e1 : wrap64 (m + 1) = m + 1 := w64 (by omega) (by omega)
    have e2 : wrap64 ((pre.length : Int) + 1) = ((pre ++ [(⟨m, mMarks (m + 1) x.f1.length⟩ : S97)]).length : Int) := iw (by omega)
    have e3 : rd_T97 (pre ++ (⟨m, mMarks (m + 1) x.f1.length⟩ : S97) :: (mkA xs (m + 1 + (x.f1.length : Int))).1) (pre.length : Int) = ⟨m, mMarks (m + 1) x.f1.length⟩ := by simp [rd_T97]
    refine Ev.step (fun k => laws_heldAtomS.l0.eq_2 ..) ?_
    simp only [if_pos (mid_lt _ _ _), if_pos (len_nonneg _), e3, if_true, e1, e2]
    refine evb (heldIntS_ev (m + 1) x.f1.length (by omega) (by omega) hx) ?_
    have hn : ¬ (m + 1 + (x.f1.length : Int) < 0) := by omega
    simp only [if_neg hn]
    rw [app1]
    exact r
theorem heldAtomS_ev (l : List S97) (m : Int) (hl : l.length ≤ 1048576) (hs : ∀ x ∈ l, x.f1.length ≤ 1048576) (h0 : 0 ≤ m) (h1 : m ≤ 4000000000000000) : Ev (fun k => laws_heldAtomS.f k (mkA l m).1 m) (mkA l m).2 := by
  have hz := szA_small l hl hs
  exact heldAtomS_l0 l [] m h0 (by omega) (by simp; omega) (fun x hx => by have := hs x hx; omega)
theorem heldQuery_ev (h : List Int) (d : List S97) (m : Int) (hh : h.length ≤ 1048576) (hl : d.length ≤ 1048576) (hs : ∀ x ∈ d, x.f1.length ≤ 1048576) (h0 : 0 ≤ m) (h1 : m ≤ 3000000000000000) : Ev (fun k => laws_heldQuery.f k (mkQ h d m).2.1 (mkQ h d m).2.2 m) (mkQ h d m).1 := by
  unfold laws_heldQuery.f
  show Ev (fun k => (laws_heldIntS.f k (mMarks m h.length) m).bind _) _
  refine evb (heldIntS_ev m h.length h0 (by omega) (by omega)) ?_
  have hn : ¬ (m + (h.length : Int) < 0) := by omega
  have hz := szA_small d hl hs
  have he := mkA_end d (m + (h.length : Int))
  have hn2 : ¬ ((mkA d (m + (h.length : Int))).2 < 0) := by rw [he]; omega
  simp only [if_neg hn]
  refine evb (heldAtomS_ev d (m + (h.length : Int)) hl hs (by omega) (by omega)) ?_
  simp only [if_neg hn2]
  exact evc fun k => rfl

set_option maxHeartbeats 8000000 in
set_option maxRecDepth 100000 in
theorem laws_FnExactRenameQuery_out0 (A0_0 : Option Addr) (c0_0 : Nat) (l0_0 : List Int) (A0_1 : Option Addr) (c0_1 : Nat) (l0_1 : List S124) (A1 : Option Addr) (c1 : Nat) (l1 : List Int) (w : World) (hr0_0 : Kd.C (Kd.int .i64) w A0_0 l0_0.length l0_0) (hc0_0 : l0_0.length ≤ c0_0) (hr0_1 : Kd.C k124 w A0_1 l0_1.length l0_1) (hc0_1 : l0_1.length ≤ c0_1) (hr1 : Kd.C (Kd.int .i64) w A1 l1.length l1) (hc1 : l1.length ≤ c1) 
    (ct0 : (l1.length : Int) > 1048576) :
    Calls Try.prog 8 #[.agg #[.slice A0_0 l0_0.length c0_0, .slice A0_1 l0_1.length c0_1], .slice A1 l1.length c1] w fun e w' => e = .returned (.bool true) ∧ Below w.heap.size w w' := by
  have H0_0 := Aside0.mk hr0_0
  have HC0_0 := Aside0.mk hc0_0
  clear hr0_0 hc0_0
  have H0_1 := Aside0.mk hr0_1
  have HC0_1 := Aside0.mk hc0_1
  clear hr0_1 hc0_1
  have H1 := Aside0.mk hr1
  have HC1 := Aside0.mk hc1
  clear hr1 hc1
  have ct0b := decide_eq_true (show 1048576 < (l1.length : Int) from ct0)
  have ct0n : decide (1048576 < l1.length) = true := decide_eq_true (by omega)
  clear ct0
  have HB := Aside0.mk (Below.refl w.heap.size w)
  have hu41 := Try.underlying41
  go_enter Try.func8, Try.ntmps8
  go_wp2_with (first | ((with_reducible refine gate_dst (N := 2) rfl ?_); refine hold ?_))
  unfold Hold
  refine box_event ?hg (N := 2) ?hd (cs := #[.slice A0_0 l0_0.length c0_0, .slice A0_1 l0_1.length c0_1]) (t := 41) ?hr ?_
  case hd => rfl
  case hg => rfl
  case hr => first | (go_simp; done) | (go_simp; rfl)
  intro g1 hg w1_ hbox hb
  have Bg1 := Aside0.mk hbox
  have Gg1 := Aside0.mk (show w.heap.size ≤ g1 ∧ g1 < w1_.heap.size from ⟨by rw [hg]; exact Nat.le_refl _, blk_lt hbox⟩)
  clear hbox hg
  have Z1_ := Aside0.mk (show w.heap.size ≤ w1_.heap.size from hb.size)
  have n_ := Aside0.mk (below_step HB.out hb); clear HB; have HB := n_; clear n_
  have hxg1_0 : w1_.cell? ⟨g1, 0, none⟩ = some (.slice A0_0 l0_0.length c0_0) := (blk_cell Bg1.out 0).trans rfl
  have hxg1_1 : w1_.cell? ⟨g1, 1, none⟩ = some (.slice A0_1 l0_1.length c0_1) := (blk_cell Bg1.out 1).trans rfl
  have hfg1_0 := blk_frozen Bg1.out 0
  have hfg1_1 := blk_frozen Bg1.out 1
  clear hb
  go_wp2
  go_ret
  exact ⟨rfl, HB.out⟩
set_option maxHeartbeats 8000000 in
set_option maxRecDepth 100000 in
theorem laws_FnExactRenameQuery_out1 (A0_0 : Option Addr) (c0_0 : Nat) (l0_0 : List Int) (A0_1 : Option Addr) (c0_1 : Nat) (l0_1 : List S124) (A1 : Option Addr) (c1 : Nat) (l1 : List Int) (w : World) (hr0_0 : Kd.C (Kd.int .i64) w A0_0 l0_0.length l0_0) (hc0_0 : l0_0.length ≤ c0_0) (hr0_1 : Kd.C k124 w A0_1 l0_1.length l0_1) (hc0_1 : l0_1.length ≤ c0_1) (hr1 : Kd.C (Kd.int .i64) w A1 l1.length l1) (hc1 : l1.length ≤ c1) (r1_0 : Int)
    (ct0 : ¬ (l1.length : Int) > 1048576)
 (e1 : ∃ k, laws_szQuery.f k l0_0 l0_1 1048576 = some r1_0)
 (ct1 : r1_0 < 0) :
    Calls Try.prog 8 #[.agg #[.slice A0_0 l0_0.length c0_0, .slice A0_1 l0_1.length c0_1], .slice A1 l1.length c1] w fun e w' => e = .returned (.bool true) ∧ Below w.heap.size w w' := by
  have H0_0 := Aside0.mk hr0_0
  have HC0_0 := Aside0.mk hc0_0
  clear hr0_0 hc0_0
  have H0_1 := Aside0.mk hr0_1
  have HC0_1 := Aside0.mk hc0_1
  clear hr0_1 hc0_1
  have H1 := Aside0.mk hr1
  have HC1 := Aside0.mk hc1
  clear hr1 hc1
  have ct0b := decide_eq_false (show ¬ 1048576 < (l1.length : Int) from ct0)
  have ct0n : decide (1048576 < l1.length) = false := decide_eq_false (by omega)
  clear ct0
  obtain ⟨ke1, q_⟩ := e1; have Ee1 := Aside0.mk q_; clear q_
  have ct1b := decide_eq_true (show r1_0 < 0 from ct1)
  clear ct1
  have HB := Aside0.mk (Below.refl w.heap.size w)
  have hu41 := Try.underlying41
  go_enter Try.func8, Try.ntmps8
  go_wp2_with (first | ((with_reducible refine gate_dst (N := 2) rfl ?_); refine hold ?_))
  unfold Hold
  refine box_event ?hg (N := 2) ?hd (cs := #[.slice A0_0 l0_0.length c0_0, .slice A0_1 l0_1.length c0_1]) (t := 41) ?hr ?_
  case hd => rfl
  case hg => rfl
  case hr => first | (go_simp; done) | (go_simp; rfl)
  intro g1 hg w1_ hbox hb
  have Bg1 := Aside0.mk hbox
  have Gg1 := Aside0.mk (show w.heap.size ≤ g1 ∧ g1 < w1_.heap.size from ⟨by rw [hg]; exact Nat.le_refl _, blk_lt hbox⟩)
  clear hbox hg
  have Z1_ := Aside0.mk (show w.heap.size ≤ w1_.heap.size from hb.size)
  have n_ := Aside0.mk (below_step HB.out hb); clear HB; have HB := n_; clear n_
  have hxg1_0 : w1_.cell? ⟨g1, 0, none⟩ = some (.slice A0_0 l0_0.length c0_0) := (blk_cell Bg1.out 0).trans rfl
  have hxg1_1 : w1_.cell? ⟨g1, 1, none⟩ = some (.slice A0_1 l0_1.length c0_1) := (blk_cell Bg1.out 1).trans rfl
  have hfg1_0 := blk_frozen Bg1.out 0
  have hfg1_1 := blk_frozen Bg1.out 1
  clear hb
  go_wp2_with (first | (go_at_call 30; refine hold ?_))
  unfold Hold
  refine (laws_szQuery.calls ke1 _ _ l0_0 _ _ l0_1 1048576 r1_0 _ (Kd.C_below H0_0.out HB.out) HC0_0.out (Kd.C_below H0_1.out HB.out) HC0_1.out Ee1.out).mono ?_
  rintro e w2_ ⟨rfl, hb⟩
  have Z2_ := Aside0.mk (show w1_.heap.size ≤ w2_.heap.size from hb.size)
  have n_ := Aside0.mk (blk_below Bg1.out hb); clear Bg1; have Bg1 := n_; clear n_
  have n_ := Aside0.mk (below_step HB.out hb); clear HB; have HB := n_; clear n_
  clear hxg1_0
  clear hxg1_1
  clear hfg1_0
  clear hfg1_1
  have hxg1_0 : w2_.cell? ⟨g1, 0, none⟩ = some (.slice A0_0 l0_0.length c0_0) := (blk_cell Bg1.out 0).trans rfl
  have hxg1_1 : w2_.cell? ⟨g1, 1, none⟩ = some (.slice A0_1 l0_1.length c0_1) := (blk_cell Bg1.out 1).trans rfl
  have hfg1_0 := blk_frozen Bg1.out 0
  have hfg1_1 := blk_frozen Bg1.out 1
  clear hb
  go_wp2
  go_ret
  exact ⟨rfl, HB.out⟩
set_option maxHeartbeats 8000000 in
set_option maxRecDepth 100000 in
theorem laws_FnExactRenameQuery_walk (A0_0 : Option Addr) (c0_0 : Nat) (l0_0 : List Int) (A0_1 : Option Addr) (c0_1 : Nat) (l0_1 : List S124) (A1 : Option Addr) (c1 : Nat) (l1 : List Int) (w : World) (hr0_0 : Kd.C (Kd.int .i64) w A0_0 l0_0.length l0_0) (hc0_0 : l0_0.length ≤ c0_0) (hr0_1 : Kd.C k124 w A0_1 l0_1.length l0_1) (hc0_1 : l0_1.length ≤ c0_1) (hr1 : Kd.C (Kd.int .i64) w A1 l1.length l1) (hc1 : l1.length ≤ c1) (r1_0 : Int) (r3_0 : List Int) (r3_1 : List (S97)) (r4_0 : List Int) (r5_0 : List Int) (r5_1 : List (S97)) (r10_0 : Int) (r10_1 : List Int) (r10_2 : List S97) (r11_0 : Int) (r11_1 : List Int) (r13_0 : Int) (r13_1 : List Int) (r13_2 : List S97)
    (ct0 : ¬ (l1.length : Int) > 1048576)
 (e1 : ∃ k, laws_szQuery.f k l0_0 l0_1 1048576 = some r1_0)
 (ct1 : ¬ r1_0 < 0)
 (e3 : ∃ k, laws_toQuery.f k l0_0 l0_1 = some (r3_0, r3_1))
 (e4 : ∃ k, laws_toIntS.f k l1 = some r4_0)
 (e5 : ∃ k, spec_RenameQuery.f k r3_0 r3_1 r4_0 = some (r5_0, r5_1))
 (e6 : (r3_0.map (tT r4_0), r3_1.map (tA r4_0)) = (r5_0, r5_1))
 (e6_hz0_ : (r3_0.length ≤ 1048576 ∧ r3_1.length ≤ 1048576 ∧ r4_0.length ≤ 1048576) ∧ ∀ x ∈ r3_1, x.f1.length ≤ 1048576)
 (e7 : ∃ k, laws_eqQuery.f k r5_0 r5_1 r5_0 r5_1 = some true)
 (e8 : ∃ k, laws_eqQuery.f k r3_0 r3_1 r3_0 r3_1 = some true)
 (e9 : ∃ k, laws_eqIntS.f k r4_0 r4_0 = some true)
 (e10 : mkQ r3_0 r3_1 1 = (r10_0, r10_1, r10_2))
 (e10_hz0_ : (0 ≤ (1 : Int) ∧ (1 : Int) + (r3_0.length : Int) + (szA r3_1 : Int) ≤ 4611686018427387904) ∧ r3_0.length ≤ 17592186044416 ∧ r3_1.length ≤ 17592186044416 ∧ ∀ x ∈ r3_1, x.f1.length ≤ 17592186044416)
 (e11 : ∃ k, laws_markIntS.f k r4_0 r10_0 = some (r11_0, r11_1))
 (ct2 : ¬ r11_0 < 0)
 (e13 : mkQ r5_0 r5_1 1 = (r13_0, r13_1, r13_2))
 (e13_hz0_ : (0 ≤ (1 : Int) ∧ (1 : Int) + (r5_0.length : Int) + (szA r5_1 : Int) ≤ 4611686018427387904) ∧ r5_0.length ≤ 17592186044416 ∧ r5_1.length ≤ 17592186044416 ∧ ∀ x ∈ r5_1, x.f1.length ≤ 17592186044416)
 (e14 : ∃ k, laws_heldQuery.f k r13_1 r13_2 1 = some r13_0)
 (ct3 : ¬ r13_0 < 0) :
    Calls Try.prog 8 #[.agg #[.slice A0_0 l0_0.length c0_0, .slice A0_1 l0_1.length c0_1], .slice A1 l1.length c1] w fun e w' => e = .returned (.bool true) ∧ Below w.heap.size w w' := by
  have H0_0 := Aside0.mk hr0_0
  have HC0_0 := Aside0.mk hc0_0
  clear hr0_0 hc0_0
  have H0_1 := Aside0.mk hr0_1
  have HC0_1 := Aside0.mk hc0_1
  clear hr0_1 hc0_1
  have H1 := Aside0.mk hr1
  have HC1 := Aside0.mk hc1
  clear hr1 hc1
  have ct0b := decide_eq_false (show ¬ 1048576 < (l1.length : Int) from ct0)
  have ct0n : decide (1048576 < l1.length) = false := decide_eq_false (by omega)
  clear ct0
  obtain ⟨ke1, q_⟩ := e1; have Ee1 := Aside0.mk q_; clear q_
  have ct1b := decide_eq_false (show ¬ r1_0 < 0 from ct1)
  clear ct1
  obtain ⟨ke3, q_⟩ := e3; have Ee3 := Aside0.mk q_; clear q_
  obtain ⟨ke4, q_⟩ := e4; have Ee4 := Aside0.mk q_; clear q_
  obtain ⟨ke5, q_⟩ := e5; have Ee5 := Aside0.mk q_; clear q_
  have e6_hz0 := Aside0.mk e6_hz0_; clear e6_hz0_
  have Ee6 := Aside0.mk e6; clear e6
  obtain ⟨ke7, q_⟩ := e7; have Ee7 := Aside0.mk q_; clear q_
  obtain ⟨ke8, q_⟩ := e8; have Ee8 := Aside0.mk q_; clear q_
  obtain ⟨ke9, q_⟩ := e9; have Ee9 := Aside0.mk q_; clear q_
  have e10_hz0 := Aside0.mk e10_hz0_; clear e10_hz0_
  have Ee10 := Aside0.mk e10; clear e10
  obtain ⟨ke11, q_⟩ := e11; have Ee11 := Aside0.mk q_; clear q_
  have ct2b := decide_eq_false (show ¬ r11_0 < 0 from ct2)
  clear ct2
  have e13_hz0 := Aside0.mk e13_hz0_; clear e13_hz0_
  have Ee13 := Aside0.mk e13; clear e13
  obtain ⟨ke14, q_⟩ := e14; have Ee14 := Aside0.mk q_; clear q_
  have ct3b := decide_eq_false (show ¬ r13_0 < 0 from ct3)
  clear ct3
  have HB := Aside0.mk (Below.refl w.heap.size w)
  have hu41 := Try.underlying41
  have hu46 := Try.underlying46
  go_enter Try.func8, Try.ntmps8
  go_wp2_with (first | ((with_reducible refine gate_dst (N := 2) rfl ?_); refine hold ?_))
  unfold Hold
  refine box_event ?hg (N := 2) ?hd (cs := #[.slice A0_0 l0_0.length c0_0, .slice A0_1 l0_1.length c0_1]) (t := 41) ?hr ?_
  case hd => rfl
  case hg => rfl
  case hr => first | (go_simp; done) | (go_simp; rfl)
  intro g1 hg w1_ hbox hb
  have Bg1 := Aside0.mk hbox
  have Gg1 := Aside0.mk (show w.heap.size ≤ g1 ∧ g1 < w1_.heap.size from ⟨by rw [hg]; exact Nat.le_refl _, blk_lt hbox⟩)
  clear hbox hg
  have Z1_ := Aside0.mk (show w.heap.size ≤ w1_.heap.size from hb.size)
  have n_ := Aside0.mk (below_step HB.out hb); clear HB; have HB := n_; clear n_
  have hxg1_0 : w1_.cell? ⟨g1, 0, none⟩ = some (.slice A0_0 l0_0.length c0_0) := (blk_cell Bg1.out 0).trans rfl
  have hxg1_1 : w1_.cell? ⟨g1, 1, none⟩ = some (.slice A0_1 l0_1.length c0_1) := (blk_cell Bg1.out 1).trans rfl
  have hfg1_0 := blk_frozen Bg1.out 0
  have hfg1_1 := blk_frozen Bg1.out 1
  clear hb
  go_wp2_with (first | (go_at_call 30; refine hold ?_))
  unfold Hold
  refine (laws_szQuery.calls ke1 _ _ l0_0 _ _ l0_1 1048576 r1_0 _ (Kd.C_below H0_0.out HB.out) HC0_0.out (Kd.C_below H0_1.out HB.out) HC0_1.out Ee1.out).mono ?_
  rintro e w2_ ⟨rfl, hb⟩
  have Z2_ := Aside0.mk (show w1_.heap.size ≤ w2_.heap.size from hb.size)
  have n_ := Aside0.mk (blk_below Bg1.out hb); clear Bg1; have Bg1 := n_; clear n_
  have n_ := Aside0.mk (below_step HB.out hb); clear HB; have HB := n_; clear n_
  clear hxg1_0
  clear hxg1_1
  clear hfg1_0
  clear hfg1_1
  have hxg1_0 : w2_.cell? ⟨g1, 0, none⟩ = some (.slice A0_0 l0_0.length c0_0) := (blk_cell Bg1.out 0).trans rfl
  have hxg1_1 : w2_.cell? ⟨g1, 1, none⟩ = some (.slice A0_1 l0_1.length c0_1) := (blk_cell Bg1.out 1).trans rfl
  have hfg1_0 := blk_frozen Bg1.out 0
  have hfg1_1 := blk_frozen Bg1.out 1
  clear hb
  go_wp2_with (first | (go_at_call 32; refine hold ?_))
  unfold Hold
  refine (laws_toQuery.calls ke3 _ _ l0_0 _ _ l0_1 r3_0 r3_1 _ (Kd.C_below H0_0.out HB.out) HC0_0.out (Kd.C_below H0_1.out HB.out) HC0_1.out Ee3.out).mono ?_
  rintro e w3_ ⟨v3_0_, v3_1_, rfl, ho0, ho1, hb⟩
  have O3_0 := Aside0.mk (newR ho0 HB.out.size)
  have O3_1 := Aside0.mk (newS ho1 HB.out.size)
  have Z3_ := Aside0.mk (show w2_.heap.size ≤ w3_.heap.size from hb.size)
  have n_ := Aside0.mk (blk_below Bg1.out hb); clear Bg1; have Bg1 := n_; clear n_
  have n_ := Aside0.mk (below_step HB.out hb); clear HB; have HB := n_; clear n_
  clear hxg1_0
  clear hxg1_1
  clear hfg1_0
  clear hfg1_1
  have hxg1_0 : w3_.cell? ⟨g1, 0, none⟩ = some (.slice A0_0 l0_0.length c0_0) := (blk_cell Bg1.out 0).trans rfl
  have hxg1_1 : w3_.cell? ⟨g1, 1, none⟩ = some (.slice A0_1 l0_1.length c0_1) := (blk_cell Bg1.out 1).trans rfl
  have hfg1_0 := blk_frozen Bg1.out 0
  have hfg1_1 := blk_frozen Bg1.out 1
  clear hb ho0 ho1
  obtain ⟨A3_0_, c3_0_, eq_⟩ := Kd.R_slice O3_0.out
  subst eq_
  obtain ⟨A3_1_, c3_1_, eq_⟩ := Kd.S_slice O3_1.out
  subst eq_
  go_wp2_with (first | (go_at_call 41; refine hold ?_))
  unfold Hold
  refine (laws_toIntS.calls ke4 _ _ l1 r4_0 _ (Kd.C_below H1.out HB.out) HC1.out Ee4.out).mono ?_
  rintro e w4_ ⟨v4_0_, rfl, ho0, hb⟩
  have O4_0 := Aside0.mk (newR ho0 HB.out.size)
  have Z4_ := Aside0.mk (show w3_.heap.size ≤ w4_.heap.size from hb.size)
  have n_ := Aside0.mk (Kd.R_below O3_0.out hb); clear O3_0; have O3_0 := n_; clear n_
  have n_ := Aside0.mk (Kd.S_below O3_1.out hb); clear O3_1; have O3_1 := n_; clear n_
  have n_ := Aside0.mk (blk_below Bg1.out hb); clear Bg1; have Bg1 := n_; clear n_
  have n_ := Aside0.mk (below_step HB.out hb); clear HB; have HB := n_; clear n_
  clear hxg1_0
  clear hxg1_1
  clear hfg1_0
  clear hfg1_1
  have hxg1_0 : w4_.cell? ⟨g1, 0, none⟩ = some (.slice A0_0 l0_0.length c0_0) := (blk_cell Bg1.out 0).trans rfl
  have hxg1_1 : w4_.cell? ⟨g1, 1, none⟩ = some (.slice A0_1 l0_1.length c0_1) := (blk_cell Bg1.out 1).trans rfl
  have hfg1_0 := blk_frozen Bg1.out 0
  have hfg1_1 := blk_frozen Bg1.out 1
  clear hb ho0
  obtain ⟨A4_0_, c4_0_, eq_⟩ := Kd.R_slice O4_0.out
  subst eq_
  go_wp2_with (first | (go_at_call 40; refine hold ?_))
  unfold Hold
  refine (spec_RenameQuery.calls ke5 _ _ r3_0 _ _ r3_1 _ _ r4_0 r5_0 r5_1 _ (Kd.R_reads' O3_0.out).2.2 (Kd.R_reads' O3_0.out).2.1 (Kd.S_reads' O3_1.out).2.2 (Kd.S_reads' O3_1.out).2.1 (Kd.R_reads' O4_0.out).2.2 (Kd.R_reads' O4_0.out).2.1 Ee5.out).mono ?_
  rintro e w5_ ⟨v5_0_, v5_1_, rfl, ho0, ho1, hb⟩
  have O5_0 := Aside0.mk (newR ho0 HB.out.size)
  have O5_1 := Aside0.mk (newS ho1 HB.out.size)
  have Z5_ := Aside0.mk (show w4_.heap.size ≤ w5_.heap.size from hb.size)
  have n_ := Aside0.mk (Kd.R_below O3_0.out hb); clear O3_0; have O3_0 := n_; clear n_
  have n_ := Aside0.mk (Kd.S_below O3_1.out hb); clear O3_1; have O3_1 := n_; clear n_
  have n_ := Aside0.mk (Kd.R_below O4_0.out hb); clear O4_0; have O4_0 := n_; clear n_
  have n_ := Aside0.mk (blk_below Bg1.out hb); clear Bg1; have Bg1 := n_; clear n_
  have n_ := Aside0.mk (below_step HB.out hb); clear HB; have HB := n_; clear n_
  clear hxg1_0
  clear hxg1_1
  clear hfg1_0
  clear hfg1_1
  have hxg1_0 : w5_.cell? ⟨g1, 0, none⟩ = some (.slice A0_0 l0_0.length c0_0) := (blk_cell Bg1.out 0).trans rfl
  have hxg1_1 : w5_.cell? ⟨g1, 1, none⟩ = some (.slice A0_1 l0_1.length c0_1) := (blk_cell Bg1.out 1).trans rfl
  have hfg1_0 := blk_frozen Bg1.out 0
  have hfg1_1 := blk_frozen Bg1.out 1
  clear hb ho0 ho1
  obtain ⟨A5_0_, c5_0_, eq_⟩ := Kd.R_slice O5_0.out
  subst eq_
  obtain ⟨A5_1_, c5_1_, eq_⟩ := Kd.S_slice O5_1.out
  subst eq_
  go_wp2_with (first | ((with_reducible refine gate_dst (N := 6) rfl ?_); refine hold ?_))
  unfold Hold
  refine box_event ?hg (N := 6) ?hd (cs := #[.slice none 0 0, .slice none 0 0]) (t := 46) ?hr ?_
  case hd => rfl
  case hg => rfl
  case hr => first | (go_simp; done) | (go_simp; rfl)
  intro g6 hg w6_ hbox hb
  have Bg6 := Aside0.mk hbox
  have Gg6 := Aside0.mk (show w5_.heap.size ≤ g6 ∧ g6 < w6_.heap.size from ⟨by rw [hg]; exact Nat.le_refl _, blk_lt hbox⟩)
  clear hbox hg
  have Z6_ := Aside0.mk (show w5_.heap.size ≤ w6_.heap.size from hb.size)
  have n_ := Aside0.mk (Kd.R_below O3_0.out hb); clear O3_0; have O3_0 := n_; clear n_
  have n_ := Aside0.mk (Kd.S_below O3_1.out hb); clear O3_1; have O3_1 := n_; clear n_
  have n_ := Aside0.mk (Kd.R_below O4_0.out hb); clear O4_0; have O4_0 := n_; clear n_
  have n_ := Aside0.mk (Kd.R_below O5_0.out hb); clear O5_0; have O5_0 := n_; clear n_
  have n_ := Aside0.mk (Kd.S_below O5_1.out hb); clear O5_1; have O5_1 := n_; clear n_
  have n_ := Aside0.mk (blk_below Bg1.out hb); clear Bg1; have Bg1 := n_; clear n_
  have n_ := Aside0.mk (below_step HB.out hb); clear HB; have HB := n_; clear n_
  clear hxg1_0
  clear hxg1_1
  clear hfg1_0
  clear hfg1_1
  have hxg1_0 : w6_.cell? ⟨g1, 0, none⟩ = some (.slice A0_0 l0_0.length c0_0) := (blk_cell Bg1.out 0).trans rfl
  have hxg1_1 : w6_.cell? ⟨g1, 1, none⟩ = some (.slice A0_1 l0_1.length c0_1) := (blk_cell Bg1.out 1).trans rfl
  have hfg1_0 := blk_frozen Bg1.out 0
  have hfg1_1 := blk_frozen Bg1.out 1
  have hxg6_0 : w6_.cell? ⟨g6, 0, none⟩ = some (.slice none 0 0) := (blk_cell Bg6.out 0).trans rfl
  have hxg6_1 : w6_.cell? ⟨g6, 1, none⟩ = some (.slice none 0 0) := (blk_cell Bg6.out 1).trans rfl
  have hfg6_0 := blk_frozen Bg6.out 0
  have hfg6_1 := blk_frozen Bg6.out 1
  clear hb
  go_wp2_with (first | ((with_reducible refine gate_store (t := 46) (p := 6) rfl ?_); refine hold ?_))
  unfold Hold
  refine store_event (t := 46) (p := 6) (v := ?vo6) (w1 := ((w6_.setCell ⟨g6, 0, none⟩ (.slice A5_0_ r5_0.length c5_0_)).setCell ⟨g6, 1, none⟩ (.slice A5_1_ r5_1.length c5_1_))) ?hg ?ho ?hn ?hr ?_
  case ho => rfl
  case hg => rfl
  case hn => rfl
  case hr => first | (go_simp; done) | (go_simp; rfl)
  intro w7_ hw
  have hk : Kept w6_ w7_ (fun k => k = g6) := by rw [hw]; exact kept_two _ _
  have hb0 : Below w.heap.size w w7_ := by rw [hw]; exact (below_set (below_set HB.out (Nat.le_trans (by have z1_ := Z1_.out; have z2_ := Z2_.out; have z3_ := Z3_.out; have z4_ := Z4_.out; have z5_ := Z5_.out; omega) Gg6.out.1)) (Nat.le_trans (by have z1_ := Z1_.out; have z2_ := Z2_.out; have z3_ := Z3_.out; have z4_ := Z4_.out; have z5_ := Z5_.out; omega) Gg6.out.1))
  have n_ := Aside0.mk (show w7_.heap[g6]? = some (.cells #[.slice A5_0_ r5_0.length c5_0_, .slice A5_1_ r5_1.length c5_1_] 46 (0, 0)) by rw [hw]; exact (blk_put (cs := #[.slice A5_0_ r5_0.length c5_0_, .slice none 0 0]) (cs' := #[.slice A5_0_ r5_0.length c5_0_, .slice A5_1_ r5_1.length c5_1_]) (blk_put (cs := #[.slice none 0 0, .slice none 0 0]) (cs' := #[.slice A5_0_ r5_0.length c5_0_, .slice none 0 0]) Bg6.out 0 _ rfl) 1 _ rfl))
  clear Bg6; have Bg6 := n_; clear n_ hw
  have Z7_ := Aside0.mk (show w6_.heap.size ≤ w7_.heap.size from hk.1)
  have n_ := Aside0.mk (Kd.R_kept O3_0.out hk (fun k_ hk1 hk2 => by obtain ⟨a1_, a2_⟩ := hk1.1; have e_ : k_ = g6 := hk2; obtain ⟨b1_, b2_⟩ := Gg6.out; have z4_ := Z4_.out; have z5_ := Z5_.out; omega)); clear O3_0; have O3_0 := n_; clear n_
  have n_ := Aside0.mk (Kd.S_kept O3_1.out hk (fun k_ hk1 hk2 => by obtain ⟨a1_, a2_⟩ := hk1.1; have e_ : k_ = g6 := hk2; obtain ⟨b1_, b2_⟩ := Gg6.out; have z4_ := Z4_.out; have z5_ := Z5_.out; omega)); clear O3_1; have O3_1 := n_; clear n_
  have n_ := Aside0.mk (Kd.R_kept O4_0.out hk (fun k_ hk1 hk2 => by obtain ⟨a1_, a2_⟩ := hk1.1; have e_ : k_ = g6 := hk2; obtain ⟨b1_, b2_⟩ := Gg6.out; have z5_ := Z5_.out; omega)); clear O4_0; have O4_0 := n_; clear n_
  have n_ := Aside0.mk (Kd.R_kept O5_0.out hk (fun k_ hk1 hk2 => by obtain ⟨a1_, a2_⟩ := hk1.1; have e_ : k_ = g6 := hk2; obtain ⟨b1_, b2_⟩ := Gg6.out; omega)); clear O5_0; have O5_0 := n_; clear n_
  have n_ := Aside0.mk (Kd.S_kept O5_1.out hk (fun k_ hk1 hk2 => by obtain ⟨a1_, a2_⟩ := hk1.1; have e_ : k_ = g6 := hk2; obtain ⟨b1_, b2_⟩ := Gg6.out; omega)); clear O5_1; have O5_1 := n_; clear n_
  have n_ := Aside0.mk (blk_kept Bg1.out hk (fun hk2 => by obtain ⟨a1_, a2_⟩ := Gg1.out; have e_ : g1 = g6 := hk2; obtain ⟨b1_, b2_⟩ := Gg6.out; have z2_ := Z2_.out; have z3_ := Z3_.out; have z4_ := Z4_.out; have z5_ := Z5_.out; omega)); clear Bg1; have Bg1 := n_; clear n_
  clear HB; have HB := Aside0.mk hb0
  clear hxg1_0
  clear hxg1_1
  clear hfg1_0
  clear hfg1_1
  clear hxg6_0
  clear hxg6_1
  clear hfg6_0
  clear hfg6_1
  have hxg1_0 : w7_.cell? ⟨g1, 0, none⟩ = some (.slice A0_0 l0_0.length c0_0) := (blk_cell Bg1.out 0).trans rfl
  have hxg1_1 : w7_.cell? ⟨g1, 1, none⟩ = some (.slice A0_1 l0_1.length c0_1) := (blk_cell Bg1.out 1).trans rfl
  have hfg1_0 := blk_frozen Bg1.out 0
  have hfg1_1 := blk_frozen Bg1.out 1
  have hxg6_0 : w7_.cell? ⟨g6, 0, none⟩ = some (.slice A5_0_ r5_0.length c5_0_) := (blk_cell Bg6.out 0).trans rfl
  have hxg6_1 : w7_.cell? ⟨g6, 1, none⟩ = some (.slice A5_1_ r5_1.length c5_1_) := (blk_cell Bg6.out 1).trans rfl
  have hfg6_0 := blk_frozen Bg6.out 0
  have hfg6_1 := blk_frozen Bg6.out 1
  clear hk hb0
  go_wp2_with (first | (go_at_call 32; refine hold ?_))
  unfold Hold
  refine (laws_toQuery.calls ke3 _ _ l0_0 _ _ l0_1 r3_0 r3_1 _ (Kd.C_below H0_0.out HB.out) HC0_0.out (Kd.C_below H0_1.out HB.out) HC0_1.out Ee3.out).mono ?_
  rintro e w8_ ⟨v8_0_, v8_1_, rfl, ho0, ho1, hb⟩
  have O8_0 := Aside0.mk (newR ho0 HB.out.size)
  have O8_1 := Aside0.mk (newS ho1 HB.out.size)
  have Z8_ := Aside0.mk (show w7_.heap.size ≤ w8_.heap.size from hb.size)
  have n_ := Aside0.mk (Kd.R_below O3_0.out hb); clear O3_0; have O3_0 := n_; clear n_
  have n_ := Aside0.mk (Kd.S_below O3_1.out hb); clear O3_1; have O3_1 := n_; clear n_
  have n_ := Aside0.mk (Kd.R_below O4_0.out hb); clear O4_0; have O4_0 := n_; clear n_
  have n_ := Aside0.mk (Kd.R_below O5_0.out hb); clear O5_0; have O5_0 := n_; clear n_
  have n_ := Aside0.mk (Kd.S_below O5_1.out hb); clear O5_1; have O5_1 := n_; clear n_
  have n_ := Aside0.mk (blk_below Bg1.out hb); clear Bg1; have Bg1 := n_; clear n_
  have n_ := Aside0.mk (blk_below Bg6.out hb); clear Bg6; have Bg6 := n_; clear n_
  have n_ := Aside0.mk (below_step HB.out hb); clear HB; have HB := n_; clear n_
  clear hxg1_0
  clear hxg1_1
  clear hfg1_0
  clear hfg1_1
  clear hxg6_0
  clear hxg6_1
  clear hfg6_0
  clear hfg6_1
  have hxg1_0 : w8_.cell? ⟨g1, 0, none⟩ = some (.slice A0_0 l0_0.length c0_0) := (blk_cell Bg1.out 0).trans rfl
  have hxg1_1 : w8_.cell? ⟨g1, 1, none⟩ = some (.slice A0_1 l0_1.length c0_1) := (blk_cell Bg1.out 1).trans rfl
  have hfg1_0 := blk_frozen Bg1.out 0
  have hfg1_1 := blk_frozen Bg1.out 1
  have hxg6_0 : w8_.cell? ⟨g6, 0, none⟩ = some (.slice A5_0_ r5_0.length c5_0_) := (blk_cell Bg6.out 0).trans rfl
  have hxg6_1 : w8_.cell? ⟨g6, 1, none⟩ = some (.slice A5_1_ r5_1.length c5_1_) := (blk_cell Bg6.out 1).trans rfl
  have hfg6_0 := blk_frozen Bg6.out 0
  have hfg6_1 := blk_frozen Bg6.out 1
  clear hb ho0 ho1
  obtain ⟨A8_0_, c8_0_, eq_⟩ := Kd.R_slice O8_0.out
  subst eq_
  obtain ⟨A8_1_, c8_1_, eq_⟩ := Kd.S_slice O8_1.out
  subst eq_
  go_wp2_with (first | ((with_reducible refine gate_dst (N := 7) rfl ?_); refine hold ?_))
  unfold Hold
  refine box_event ?hg (N := 7) ?hd (cs := #[.slice none 0 0, .slice none 0 0]) (t := 46) ?hr ?_
  case hd => rfl
  case hg => rfl
  case hr => first | (go_simp; done) | (go_simp; rfl)
  intro g7 hg w9_ hbox hb
  have Bg7 := Aside0.mk hbox
  have Gg7 := Aside0.mk (show w8_.heap.size ≤ g7 ∧ g7 < w9_.heap.size from ⟨by rw [hg]; exact Nat.le_refl _, blk_lt hbox⟩)
  clear hbox hg
  have Z9_ := Aside0.mk (show w8_.heap.size ≤ w9_.heap.size from hb.size)
  have n_ := Aside0.mk (Kd.R_below O3_0.out hb); clear O3_0; have O3_0 := n_; clear n_
  have n_ := Aside0.mk (Kd.S_below O3_1.out hb); clear O3_1; have O3_1 := n_; clear n_
  have n_ := Aside0.mk (Kd.R_below O4_0.out hb); clear O4_0; have O4_0 := n_; clear n_
  have n_ := Aside0.mk (Kd.R_below O5_0.out hb); clear O5_0; have O5_0 := n_; clear n_
  have n_ := Aside0.mk (Kd.S_below O5_1.out hb); clear O5_1; have O5_1 := n_; clear n_
  have n_ := Aside0.mk (Kd.R_below O8_0.out hb); clear O8_0; have O8_0 := n_; clear n_
  have n_ := Aside0.mk (Kd.S_below O8_1.out hb); clear O8_1; have O8_1 := n_; clear n_
  have n_ := Aside0.mk (blk_below Bg1.out hb); clear Bg1; have Bg1 := n_; clear n_
  have n_ := Aside0.mk (blk_below Bg6.out hb); clear Bg6; have Bg6 := n_; clear n_
  have n_ := Aside0.mk (below_step HB.out hb); clear HB; have HB := n_; clear n_
  clear hxg1_0
  clear hxg1_1
  clear hfg1_0
  clear hfg1_1
  clear hxg6_0
  clear hxg6_1
  clear hfg6_0
  clear hfg6_1
  have hxg1_0 : w9_.cell? ⟨g1, 0, none⟩ = some (.slice A0_0 l0_0.length c0_0) := (blk_cell Bg1.out 0).trans rfl
  have hxg1_1 : w9_.cell? ⟨g1, 1, none⟩ = some (.slice A0_1 l0_1.length c0_1) := (blk_cell Bg1.out 1).trans rfl
  have hfg1_0 := blk_frozen Bg1.out 0
  have hfg1_1 := blk_frozen Bg1.out 1
  have hxg6_0 : w9_.cell? ⟨g6, 0, none⟩ = some (.slice A5_0_ r5_0.length c5_0_) := (blk_cell Bg6.out 0).trans rfl
  have hxg6_1 : w9_.cell? ⟨g6, 1, none⟩ = some (.slice A5_1_ r5_1.length c5_1_) := (blk_cell Bg6.out 1).trans rfl
  have hfg6_0 := blk_frozen Bg6.out 0
  have hfg6_1 := blk_frozen Bg6.out 1
  have hxg7_0 : w9_.cell? ⟨g7, 0, none⟩ = some (.slice none 0 0) := (blk_cell Bg7.out 0).trans rfl
  have hxg7_1 : w9_.cell? ⟨g7, 1, none⟩ = some (.slice none 0 0) := (blk_cell Bg7.out 1).trans rfl
  have hfg7_0 := blk_frozen Bg7.out 0
  have hfg7_1 := blk_frozen Bg7.out 1
  clear hb
  go_wp2_with (first | ((with_reducible refine gate_store (t := 46) (p := 7) rfl ?_); refine hold ?_))
  unfold Hold
  refine store_event (t := 46) (p := 7) (v := ?vo9) (w1 := ((w9_.setCell ⟨g7, 0, none⟩ (.slice A8_0_ r3_0.length c8_0_)).setCell ⟨g7, 1, none⟩ (.slice A8_1_ r3_1.length c8_1_))) ?hg ?ho ?hn ?hr ?_
  case ho => rfl
  case hg => rfl
  case hn => rfl
  case hr => first | (go_simp; done) | (go_simp; rfl)
  intro w10_ hw
  have hk : Kept w9_ w10_ (fun k => k = g7) := by rw [hw]; exact kept_two _ _
  have hb0 : Below w.heap.size w w10_ := by rw [hw]; exact (below_set (below_set HB.out (Nat.le_trans (by have z1_ := Z1_.out; have z2_ := Z2_.out; have z3_ := Z3_.out; have z4_ := Z4_.out; have z5_ := Z5_.out; have z6_ := Z6_.out; have z7_ := Z7_.out; have z8_ := Z8_.out; omega) Gg7.out.1)) (Nat.le_trans (by have z1_ := Z1_.out; have z2_ := Z2_.out; have z3_ := Z3_.out; have z4_ := Z4_.out; have z5_ := Z5_.out; have z6_ := Z6_.out; have z7_ := Z7_.out; have z8_ := Z8_.out; omega) Gg7.out.1))
  have n_ := Aside0.mk (show w10_.heap[g7]? = some (.cells #[.slice A8_0_ r3_0.length c8_0_, .slice A8_1_ r3_1.length c8_1_] 46 (0, 0)) by rw [hw]; exact (blk_put (cs := #[.slice A8_0_ r3_0.length c8_0_, .slice none 0 0]) (cs' := #[.slice A8_0_ r3_0.length c8_0_, .slice A8_1_ r3_1.length c8_1_]) (blk_put (cs := #[.slice none 0 0, .slice none 0 0]) (cs' := #[.slice A8_0_ r3_0.length c8_0_, .slice none 0 0]) Bg7.out 0 _ rfl) 1 _ rfl))
  clear Bg7; have Bg7 := n_; clear n_ hw
  have Z10_ := Aside0.mk (show w9_.heap.size ≤ w10_.heap.size from hk.1)
  have n_ := Aside0.mk (Kd.R_kept O3_0.out hk (fun k_ hk1 hk2 => by obtain ⟨a1_, a2_⟩ := hk1.1; have e_ : k_ = g7 := hk2; obtain ⟨b1_, b2_⟩ := Gg7.out; have z4_ := Z4_.out; have z5_ := Z5_.out; have z6_ := Z6_.out; have z7_ := Z7_.out; have z8_ := Z8_.out; omega)); clear O3_0; have O3_0 := n_; clear n_
  have n_ := Aside0.mk (Kd.S_kept O3_1.out hk (fun k_ hk1 hk2 => by obtain ⟨a1_, a2_⟩ := hk1.1; have e_ : k_ = g7 := hk2; obtain ⟨b1_, b2_⟩ := Gg7.out; have z4_ := Z4_.out; have z5_ := Z5_.out; have z6_ := Z6_.out; have z7_ := Z7_.out; have z8_ := Z8_.out; omega)); clear O3_1; have O3_1 := n_; clear n_
  have n_ := Aside0.mk (Kd.R_kept O4_0.out hk (fun k_ hk1 hk2 => by obtain ⟨a1_, a2_⟩ := hk1.1; have e_ : k_ = g7 := hk2; obtain ⟨b1_, b2_⟩ := Gg7.out; have z5_ := Z5_.out; have z6_ := Z6_.out; have z7_ := Z7_.out; have z8_ := Z8_.out; omega)); clear O4_0; have O4_0 := n_; clear n_
  have n_ := Aside0.mk (Kd.R_kept O5_0.out hk (fun k_ hk1 hk2 => by obtain ⟨a1_, a2_⟩ := hk1.1; have e_ : k_ = g7 := hk2; obtain ⟨b1_, b2_⟩ := Gg7.out; have z6_ := Z6_.out; have z7_ := Z7_.out; have z8_ := Z8_.out; omega)); clear O5_0; have O5_0 := n_; clear n_
  have n_ := Aside0.mk (Kd.S_kept O5_1.out hk (fun k_ hk1 hk2 => by obtain ⟨a1_, a2_⟩ := hk1.1; have e_ : k_ = g7 := hk2; obtain ⟨b1_, b2_⟩ := Gg7.out; have z6_ := Z6_.out; have z7_ := Z7_.out; have z8_ := Z8_.out; omega)); clear O5_1; have O5_1 := n_; clear n_
  have n_ := Aside0.mk (Kd.R_kept O8_0.out hk (fun k_ hk1 hk2 => by obtain ⟨a1_, a2_⟩ := hk1.1; have e_ : k_ = g7 := hk2; obtain ⟨b1_, b2_⟩ := Gg7.out; omega)); clear O8_0; have O8_0 := n_; clear n_
  have n_ := Aside0.mk (Kd.S_kept O8_1.out hk (fun k_ hk1 hk2 => by obtain ⟨a1_, a2_⟩ := hk1.1; have e_ : k_ = g7 := hk2; obtain ⟨b1_, b2_⟩ := Gg7.out; omega)); clear O8_1; have O8_1 := n_; clear n_
  have n_ := Aside0.mk (blk_kept Bg1.out hk (fun hk2 => by obtain ⟨a1_, a2_⟩ := Gg1.out; have e_ : g1 = g7 := hk2; obtain ⟨b1_, b2_⟩ := Gg7.out; have z2_ := Z2_.out; have z3_ := Z3_.out; have z4_ := Z4_.out; have z5_ := Z5_.out; have z6_ := Z6_.out; have z7_ := Z7_.out; have z8_ := Z8_.out; omega)); clear Bg1; have Bg1 := n_; clear n_
  have n_ := Aside0.mk (blk_kept Bg6.out hk (fun hk2 => by obtain ⟨a1_, a2_⟩ := Gg6.out; have e_ : g6 = g7 := hk2; obtain ⟨b1_, b2_⟩ := Gg7.out; have z7_ := Z7_.out; have z8_ := Z8_.out; omega)); clear Bg6; have Bg6 := n_; clear n_
  clear HB; have HB := Aside0.mk hb0
  clear hxg1_0
  clear hxg1_1
  clear hfg1_0
  clear hfg1_1
  clear hxg6_0
  clear hxg6_1
  clear hfg6_0
  clear hfg6_1
  clear hxg7_0
  clear hxg7_1
  clear hfg7_0
  clear hfg7_1
  have hxg1_0 : w10_.cell? ⟨g1, 0, none⟩ = some (.slice A0_0 l0_0.length c0_0) := (blk_cell Bg1.out 0).trans rfl
  have hxg1_1 : w10_.cell? ⟨g1, 1, none⟩ = some (.slice A0_1 l0_1.length c0_1) := (blk_cell Bg1.out 1).trans rfl
  have hfg1_0 := blk_frozen Bg1.out 0
  have hfg1_1 := blk_frozen Bg1.out 1
  have hxg6_0 : w10_.cell? ⟨g6, 0, none⟩ = some (.slice A5_0_ r5_0.length c5_0_) := (blk_cell Bg6.out 0).trans rfl
  have hxg6_1 : w10_.cell? ⟨g6, 1, none⟩ = some (.slice A5_1_ r5_1.length c5_1_) := (blk_cell Bg6.out 1).trans rfl
  have hfg6_0 := blk_frozen Bg6.out 0
  have hfg6_1 := blk_frozen Bg6.out 1
  have hxg7_0 : w10_.cell? ⟨g7, 0, none⟩ = some (.slice A8_0_ r3_0.length c8_0_) := (blk_cell Bg7.out 0).trans rfl
  have hxg7_1 : w10_.cell? ⟨g7, 1, none⟩ = some (.slice A8_1_ r3_1.length c8_1_) := (blk_cell Bg7.out 1).trans rfl
  have hfg7_0 := blk_frozen Bg7.out 0
  have hfg7_1 := blk_frozen Bg7.out 1
  clear hk hb0
  go_wp2_with (first | (go_at_call 41; refine hold ?_))
  unfold Hold
  refine (laws_toIntS.calls ke4 _ _ l1 r4_0 _ (Kd.C_below H1.out HB.out) HC1.out Ee4.out).mono ?_
  rintro e w11_ ⟨v11_0_, rfl, ho0, hb⟩
  have O11_0 := Aside0.mk (newR ho0 HB.out.size)
  have Z11_ := Aside0.mk (show w10_.heap.size ≤ w11_.heap.size from hb.size)
  have n_ := Aside0.mk (Kd.R_below O3_0.out hb); clear O3_0; have O3_0 := n_; clear n_
  have n_ := Aside0.mk (Kd.S_below O3_1.out hb); clear O3_1; have O3_1 := n_; clear n_
  have n_ := Aside0.mk (Kd.R_below O4_0.out hb); clear O4_0; have O4_0 := n_; clear n_
  have n_ := Aside0.mk (Kd.R_below O5_0.out hb); clear O5_0; have O5_0 := n_; clear n_
  have n_ := Aside0.mk (Kd.S_below O5_1.out hb); clear O5_1; have O5_1 := n_; clear n_
  have n_ := Aside0.mk (Kd.R_below O8_0.out hb); clear O8_0; have O8_0 := n_; clear n_
  have n_ := Aside0.mk (Kd.S_below O8_1.out hb); clear O8_1; have O8_1 := n_; clear n_
  have n_ := Aside0.mk (blk_below Bg1.out hb); clear Bg1; have Bg1 := n_; clear n_
  have n_ := Aside0.mk (blk_below Bg6.out hb); clear Bg6; have Bg6 := n_; clear n_
  have n_ := Aside0.mk (blk_below Bg7.out hb); clear Bg7; have Bg7 := n_; clear n_
  have n_ := Aside0.mk (below_step HB.out hb); clear HB; have HB := n_; clear n_
  clear hxg1_0
  clear hxg1_1
  clear hfg1_0
  clear hfg1_1
  clear hxg6_0
  clear hxg6_1
  clear hfg6_0
  clear hfg6_1
  clear hxg7_0
  clear hxg7_1
  clear hfg7_0
  clear hfg7_1
  have hxg1_0 : w11_.cell? ⟨g1, 0, none⟩ = some (.slice A0_0 l0_0.length c0_0) := (blk_cell Bg1.out 0).trans rfl
  have hxg1_1 : w11_.cell? ⟨g1, 1, none⟩ = some (.slice A0_1 l0_1.length c0_1) := (blk_cell Bg1.out 1).trans rfl
  have hfg1_0 := blk_frozen Bg1.out 0
  have hfg1_1 := blk_frozen Bg1.out 1
  have hxg6_0 : w11_.cell? ⟨g6, 0, none⟩ = some (.slice A5_0_ r5_0.length c5_0_) := (blk_cell Bg6.out 0).trans rfl
  have hxg6_1 : w11_.cell? ⟨g6, 1, none⟩ = some (.slice A5_1_ r5_1.length c5_1_) := (blk_cell Bg6.out 1).trans rfl
  have hfg6_0 := blk_frozen Bg6.out 0
  have hfg6_1 := blk_frozen Bg6.out 1
  have hxg7_0 : w11_.cell? ⟨g7, 0, none⟩ = some (.slice A8_0_ r3_0.length c8_0_) := (blk_cell Bg7.out 0).trans rfl
  have hxg7_1 : w11_.cell? ⟨g7, 1, none⟩ = some (.slice A8_1_ r3_1.length c8_1_) := (blk_cell Bg7.out 1).trans rfl
  have hfg7_0 := blk_frozen Bg7.out 0
  have hfg7_1 := blk_frozen Bg7.out 1
  clear hb ho0
  obtain ⟨A11_0_, c11_0_, eq_⟩ := Kd.R_slice O11_0.out
  subst eq_
  go_wp2_with (first | (go_at_call 42; refine hold ?_))
  unfold Hold
  refine (impl_RenameQuery_calls _ _ r3_0 _ _ r3_1 _ _ r4_0 r5_0 r5_1 _ (Kd.R_reads' O8_0.out).2.2 (Kd.R_reads' O8_0.out).2.1 (Kd.S_reads' O8_1.out).2.2 (Kd.S_reads' O8_1.out).2.1 (Kd.R_reads' O11_0.out).2.2 (Kd.R_reads' O11_0.out).2.1 e6_hz0.out Ee6.out).mono ?_
  rintro e w12_ ⟨v12_0_, v12_1_, rfl, ho0, ho1, hb⟩
  have O12_0 := Aside0.mk (newR ho0 HB.out.size)
  have O12_1 := Aside0.mk (newS ho1 HB.out.size)
  have Z12_ := Aside0.mk (show w11_.heap.size ≤ w12_.heap.size from hb.size)
  have n_ := Aside0.mk (Kd.R_below O3_0.out hb); clear O3_0; have O3_0 := n_; clear n_
  have n_ := Aside0.mk (Kd.S_below O3_1.out hb); clear O3_1; have O3_1 := n_; clear n_
  have n_ := Aside0.mk (Kd.R_below O4_0.out hb); clear O4_0; have O4_0 := n_; clear n_
  have n_ := Aside0.mk (Kd.R_below O5_0.out hb); clear O5_0; have O5_0 := n_; clear n_
  have n_ := Aside0.mk (Kd.S_below O5_1.out hb); clear O5_1; have O5_1 := n_; clear n_
  have n_ := Aside0.mk (Kd.R_below O8_0.out hb); clear O8_0; have O8_0 := n_; clear n_
  have n_ := Aside0.mk (Kd.S_below O8_1.out hb); clear O8_1; have O8_1 := n_; clear n_
  have n_ := Aside0.mk (Kd.R_below O11_0.out hb); clear O11_0; have O11_0 := n_; clear n_
  have n_ := Aside0.mk (blk_below Bg1.out hb); clear Bg1; have Bg1 := n_; clear n_
  have n_ := Aside0.mk (blk_below Bg6.out hb); clear Bg6; have Bg6 := n_; clear n_
  have n_ := Aside0.mk (blk_below Bg7.out hb); clear Bg7; have Bg7 := n_; clear n_
  have n_ := Aside0.mk (below_step HB.out hb); clear HB; have HB := n_; clear n_
  clear hxg1_0
  clear hxg1_1
  clear hfg1_0
  clear hfg1_1
  clear hxg6_0
  clear hxg6_1
  clear hfg6_0
  clear hfg6_1
  clear hxg7_0
  clear hxg7_1
  clear hfg7_0
  clear hfg7_1
  have hxg1_0 : w12_.cell? ⟨g1, 0, none⟩ = some (.slice A0_0 l0_0.length c0_0) := (blk_cell Bg1.out 0).trans rfl
  have hxg1_1 : w12_.cell? ⟨g1, 1, none⟩ = some (.slice A0_1 l0_1.length c0_1) := (blk_cell Bg1.out 1).trans rfl
  have hfg1_0 := blk_frozen Bg1.out 0
  have hfg1_1 := blk_frozen Bg1.out 1
  have hxg6_0 : w12_.cell? ⟨g6, 0, none⟩ = some (.slice A5_0_ r5_0.length c5_0_) := (blk_cell Bg6.out 0).trans rfl
  have hxg6_1 : w12_.cell? ⟨g6, 1, none⟩ = some (.slice A5_1_ r5_1.length c5_1_) := (blk_cell Bg6.out 1).trans rfl
  have hfg6_0 := blk_frozen Bg6.out 0
  have hfg6_1 := blk_frozen Bg6.out 1
  have hxg7_0 : w12_.cell? ⟨g7, 0, none⟩ = some (.slice A8_0_ r3_0.length c8_0_) := (blk_cell Bg7.out 0).trans rfl
  have hxg7_1 : w12_.cell? ⟨g7, 1, none⟩ = some (.slice A8_1_ r3_1.length c8_1_) := (blk_cell Bg7.out 1).trans rfl
  have hfg7_0 := blk_frozen Bg7.out 0
  have hfg7_1 := blk_frozen Bg7.out 1
  clear hb ho0 ho1
  obtain ⟨A12_0_, c12_0_, eq_⟩ := Kd.R_slice O12_0.out
  subst eq_
  obtain ⟨A12_1_, c12_1_, eq_⟩ := Kd.S_slice O12_1.out
  subst eq_
  go_wp2_with (first | ((with_reducible refine gate_dst (N := 9) rfl ?_); refine hold ?_))
  unfold Hold
  refine box_event ?hg (N := 9) ?hd (cs := #[.slice none 0 0, .slice none 0 0]) (t := 46) ?hr ?_
  case hd => rfl
  case hg => rfl
  case hr => first | (go_simp; done) | (go_simp; rfl)
  intro g9 hg w13_ hbox hb
  have Bg9 := Aside0.mk hbox
  have Gg9 := Aside0.mk (show w12_.heap.size ≤ g9 ∧ g9 < w13_.heap.size from ⟨by rw [hg]; exact Nat.le_refl _, blk_lt hbox⟩)
  clear hbox hg
  have Z13_ := Aside0.mk (show w12_.heap.size ≤ w13_.heap.size from hb.size)
  have n_ := Aside0.mk (Kd.R_below O3_0.out hb); clear O3_0; have O3_0 := n_; clear n_
  have n_ := Aside0.mk (Kd.S_below O3_1.out hb); clear O3_1; have O3_1 := n_; clear n_
  have n_ := Aside0.mk (Kd.R_below O4_0.out hb); clear O4_0; have O4_0 := n_; clear n_
  have n_ := Aside0.mk (Kd.R_below O5_0.out hb); clear O5_0; have O5_0 := n_; clear n_
  have n_ := Aside0.mk (Kd.S_below O5_1.out hb); clear O5_1; have O5_1 := n_; clear n_
  have n_ := Aside0.mk (Kd.R_below O8_0.out hb); clear O8_0; have O8_0 := n_; clear n_
  have n_ := Aside0.mk (Kd.S_below O8_1.out hb); clear O8_1; have O8_1 := n_; clear n_
  have n_ := Aside0.mk (Kd.R_below O11_0.out hb); clear O11_0; have O11_0 := n_; clear n_
  have n_ := Aside0.mk (Kd.R_below O12_0.out hb); clear O12_0; have O12_0 := n_; clear n_
  have n_ := Aside0.mk (Kd.S_below O12_1.out hb); clear O12_1; have O12_1 := n_; clear n_
  have n_ := Aside0.mk (blk_below Bg1.out hb); clear Bg1; have Bg1 := n_; clear n_
  have n_ := Aside0.mk (blk_below Bg6.out hb); clear Bg6; have Bg6 := n_; clear n_
  have n_ := Aside0.mk (blk_below Bg7.out hb); clear Bg7; have Bg7 := n_; clear n_
  have n_ := Aside0.mk (below_step HB.out hb); clear HB; have HB := n_; clear n_
  clear hxg1_0
  clear hxg1_1
  clear hfg1_0
  clear hfg1_1
  clear hxg6_0
  clear hxg6_1
  clear hfg6_0
  clear hfg6_1
  clear hxg7_0
  clear hxg7_1
  clear hfg7_0
  clear hfg7_1
  have hxg1_0 : w13_.cell? ⟨g1, 0, none⟩ = some (.slice A0_0 l0_0.length c0_0) := (blk_cell Bg1.out 0).trans rfl
  have hxg1_1 : w13_.cell? ⟨g1, 1, none⟩ = some (.slice A0_1 l0_1.length c0_1) := (blk_cell Bg1.out 1).trans rfl
  have hfg1_0 := blk_frozen Bg1.out 0
  have hfg1_1 := blk_frozen Bg1.out 1
  have hxg6_0 : w13_.cell? ⟨g6, 0, none⟩ = some (.slice A5_0_ r5_0.length c5_0_) := (blk_cell Bg6.out 0).trans rfl
  have hxg6_1 : w13_.cell? ⟨g6, 1, none⟩ = some (.slice A5_1_ r5_1.length c5_1_) := (blk_cell Bg6.out 1).trans rfl
  have hfg6_0 := blk_frozen Bg6.out 0
  have hfg6_1 := blk_frozen Bg6.out 1
  have hxg7_0 : w13_.cell? ⟨g7, 0, none⟩ = some (.slice A8_0_ r3_0.length c8_0_) := (blk_cell Bg7.out 0).trans rfl
  have hxg7_1 : w13_.cell? ⟨g7, 1, none⟩ = some (.slice A8_1_ r3_1.length c8_1_) := (blk_cell Bg7.out 1).trans rfl
  have hfg7_0 := blk_frozen Bg7.out 0
  have hfg7_1 := blk_frozen Bg7.out 1
  have hxg9_0 : w13_.cell? ⟨g9, 0, none⟩ = some (.slice none 0 0) := (blk_cell Bg9.out 0).trans rfl
  have hxg9_1 : w13_.cell? ⟨g9, 1, none⟩ = some (.slice none 0 0) := (blk_cell Bg9.out 1).trans rfl
  have hfg9_0 := blk_frozen Bg9.out 0
  have hfg9_1 := blk_frozen Bg9.out 1
  clear hb
  go_wp2_with (first | ((with_reducible refine gate_store (t := 46) (p := 9) rfl ?_); refine hold ?_))
  unfold Hold
  refine store_event (t := 46) (p := 9) (v := ?vo13) (w1 := ((w13_.setCell ⟨g9, 0, none⟩ (.slice A12_0_ r5_0.length c12_0_)).setCell ⟨g9, 1, none⟩ (.slice A12_1_ r5_1.length c12_1_))) ?hg ?ho ?hn ?hr ?_
  case ho => rfl
  case hg => rfl
  case hn => rfl
  case hr => first | (go_simp; done) | (go_simp; rfl)
  intro w14_ hw
  have hk : Kept w13_ w14_ (fun k => k = g9) := by rw [hw]; exact kept_two _ _
  have hb0 : Below w.heap.size w w14_ := by rw [hw]; exact (below_set (below_set HB.out (Nat.le_trans (by have z1_ := Z1_.out; have z2_ := Z2_.out; have z3_ := Z3_.out; have z4_ := Z4_.out; have z5_ := Z5_.out; have z6_ := Z6_.out; have z7_ := Z7_.out; have z8_ := Z8_.out; have z9_ := Z9_.out; have z10_ := Z10_.out; have z11_ := Z11_.out; have z12_ := Z12_.out; omega) Gg9.out.1)) (Nat.le_trans (by have z1_ := Z1_.out; have z2_ := Z2_.out; have z3_ := Z3_.out; have z4_ := Z4_.out; have z5_ := Z5_.out; have z6_ := Z6_.out; have z7_ := Z7_.out; have z8_ := Z8_.out; have z9_ := Z9_.out; have z10_ := Z10_.out; have z11_ := Z11_.out; have z12_ := Z12_.out; omega) Gg9.out.1))
  have n_ := Aside0.mk (show w14_.heap[g9]? = some (.cells #[.slice A12_0_ r5_0.length c12_0_, .slice A12_1_ r5_1.length c12_1_] 46 (0, 0)) by rw [hw]; exact (blk_put (cs := #[.slice A12_0_ r5_0.length c12_0_, .slice none 0 0]) (cs' := #[.slice A12_0_ r5_0.length c12_0_, .slice A12_1_ r5_1.length c12_1_]) (blk_put (cs := #[.slice none 0 0, .slice none 0 0]) (cs' := #[.slice A12_0_ r5_0.length c12_0_, .slice none 0 0]) Bg9.out 0 _ rfl) 1 _ rfl))
  clear Bg9; have Bg9 := n_; clear n_ hw
  have Z14_ := Aside0.mk (show w13_.heap.size ≤ w14_.heap.size from hk.1)
  have n_ := Aside0.mk (Kd.R_kept O3_0.out hk (fun k_ hk1 hk2 => by obtain ⟨a1_, a2_⟩ := hk1.1; have e_ : k_ = g9 := hk2; obtain ⟨b1_, b2_⟩ := Gg9.out; have z4_ := Z4_.out; have z5_ := Z5_.out; have z6_ := Z6_.out; have z7_ := Z7_.out; have z8_ := Z8_.out; have z9_ := Z9_.out; have z10_ := Z10_.out; have z11_ := Z11_.out; have z12_ := Z12_.out; omega)); clear O3_0; have O3_0 := n_; clear n_
  have n_ := Aside0.mk (Kd.S_kept O3_1.out hk (fun k_ hk1 hk2 => by obtain ⟨a1_, a2_⟩ := hk1.1; have e_ : k_ = g9 := hk2; obtain ⟨b1_, b2_⟩ := Gg9.out; have z4_ := Z4_.out; have z5_ := Z5_.out; have z6_ := Z6_.out; have z7_ := Z7_.out; have z8_ := Z8_.out; have z9_ := Z9_.out; have z10_ := Z10_.out; have z11_ := Z11_.out; have z12_ := Z12_.out; omega)); clear O3_1; have O3_1 := n_; clear n_
  have n_ := Aside0.mk (Kd.R_kept O4_0.out hk (fun k_ hk1 hk2 => by obtain ⟨a1_, a2_⟩ := hk1.1; have e_ : k_ = g9 := hk2; obtain ⟨b1_, b2_⟩ := Gg9.out; have z5_ := Z5_.out; have z6_ := Z6_.out; have z7_ := Z7_.out; have z8_ := Z8_.out; have z9_ := Z9_.out; have z10_ := Z10_.out; have z11_ := Z11_.out; have z12_ := Z12_.out; omega)); clear O4_0; have O4_0 := n_; clear n_
  have n_ := Aside0.mk (Kd.R_kept O5_0.out hk (fun k_ hk1 hk2 => by obtain ⟨a1_, a2_⟩ := hk1.1; have e_ : k_ = g9 := hk2; obtain ⟨b1_, b2_⟩ := Gg9.out; have z6_ := Z6_.out; have z7_ := Z7_.out; have z8_ := Z8_.out; have z9_ := Z9_.out; have z10_ := Z10_.out; have z11_ := Z11_.out; have z12_ := Z12_.out; omega)); clear O5_0; have O5_0 := n_; clear n_
  have n_ := Aside0.mk (Kd.S_kept O5_1.out hk (fun k_ hk1 hk2 => by obtain ⟨a1_, a2_⟩ := hk1.1; have e_ : k_ = g9 := hk2; obtain ⟨b1_, b2_⟩ := Gg9.out; have z6_ := Z6_.out; have z7_ := Z7_.out; have z8_ := Z8_.out; have z9_ := Z9_.out; have z10_ := Z10_.out; have z11_ := Z11_.out; have z12_ := Z12_.out; omega)); clear O5_1; have O5_1 := n_; clear n_
  have n_ := Aside0.mk (Kd.R_kept O8_0.out hk (fun k_ hk1 hk2 => by obtain ⟨a1_, a2_⟩ := hk1.1; have e_ : k_ = g9 := hk2; obtain ⟨b1_, b2_⟩ := Gg9.out; have z9_ := Z9_.out; have z10_ := Z10_.out; have z11_ := Z11_.out; have z12_ := Z12_.out; omega)); clear O8_0; have O8_0 := n_; clear n_
  have n_ := Aside0.mk (Kd.S_kept O8_1.out hk (fun k_ hk1 hk2 => by obtain ⟨a1_, a2_⟩ := hk1.1; have e_ : k_ = g9 := hk2; obtain ⟨b1_, b2_⟩ := Gg9.out; have z9_ := Z9_.out; have z10_ := Z10_.out; have z11_ := Z11_.out; have z12_ := Z12_.out; omega)); clear O8_1; have O8_1 := n_; clear n_
  have n_ := Aside0.mk (Kd.R_kept O11_0.out hk (fun k_ hk1 hk2 => by obtain ⟨a1_, a2_⟩ := hk1.1; have e_ : k_ = g9 := hk2; obtain ⟨b1_, b2_⟩ := Gg9.out; have z12_ := Z12_.out; omega)); clear O11_0; have O11_0 := n_; clear n_
  have n_ := Aside0.mk (Kd.R_kept O12_0.out hk (fun k_ hk1 hk2 => by obtain ⟨a1_, a2_⟩ := hk1.1; have e_ : k_ = g9 := hk2; obtain ⟨b1_, b2_⟩ := Gg9.out; omega)); clear O12_0; have O12_0 := n_; clear n_
  have n_ := Aside0.mk (Kd.S_kept O12_1.out hk (fun k_ hk1 hk2 => by obtain ⟨a1_, a2_⟩ := hk1.1; have e_ : k_ = g9 := hk2; obtain ⟨b1_, b2_⟩ := Gg9.out; omega)); clear O12_1; have O12_1 := n_; clear n_
  have n_ := Aside0.mk (blk_kept Bg1.out hk (fun hk2 => by obtain ⟨a1_, a2_⟩ := Gg1.out; have e_ : g1 = g9 := hk2; obtain ⟨b1_, b2_⟩ := Gg9.out; have z2_ := Z2_.out; have z3_ := Z3_.out; have z4_ := Z4_.out; have z5_ := Z5_.out; have z6_ := Z6_.out; have z7_ := Z7_.out; have z8_ := Z8_.out; have z9_ := Z9_.out; have z10_ := Z10_.out; have z11_ := Z11_.out; have z12_ := Z12_.out; omega)); clear Bg1; have Bg1 := n_; clear n_
  have n_ := Aside0.mk (blk_kept Bg6.out hk (fun hk2 => by obtain ⟨a1_, a2_⟩ := Gg6.out; have e_ : g6 = g9 := hk2; obtain ⟨b1_, b2_⟩ := Gg9.out; have z7_ := Z7_.out; have z8_ := Z8_.out; have z9_ := Z9_.out; have z10_ := Z10_.out; have z11_ := Z11_.out; have z12_ := Z12_.out; omega)); clear Bg6; have Bg6 := n_; clear n_
  have n_ := Aside0.mk (blk_kept Bg7.out hk (fun hk2 => by obtain ⟨a1_, a2_⟩ := Gg7.out; have e_ : g7 = g9 := hk2; obtain ⟨b1_, b2_⟩ := Gg9.out; have z10_ := Z10_.out; have z11_ := Z11_.out; have z12_ := Z12_.out; omega)); clear Bg7; have Bg7 := n_; clear n_
  clear HB; have HB := Aside0.mk hb0
  clear hxg1_0
  clear hxg1_1
  clear hfg1_0
  clear hfg1_1
  clear hxg6_0
  clear hxg6_1
  clear hfg6_0
  clear hfg6_1
  clear hxg7_0
  clear hxg7_1
  clear hfg7_0
  clear hfg7_1
  clear hxg9_0
  clear hxg9_1
  clear hfg9_0
  clear hfg9_1
  have hxg1_0 : w14_.cell? ⟨g1, 0, none⟩ = some (.slice A0_0 l0_0.length c0_0) := (blk_cell Bg1.out 0).trans rfl
  have hxg1_1 : w14_.cell? ⟨g1, 1, none⟩ = some (.slice A0_1 l0_1.length c0_1) := (blk_cell Bg1.out 1).trans rfl
  have hfg1_0 := blk_frozen Bg1.out 0
  have hfg1_1 := blk_frozen Bg1.out 1
  have hxg6_0 : w14_.cell? ⟨g6, 0, none⟩ = some (.slice A5_0_ r5_0.length c5_0_) := (blk_cell Bg6.out 0).trans rfl
  have hxg6_1 : w14_.cell? ⟨g6, 1, none⟩ = some (.slice A5_1_ r5_1.length c5_1_) := (blk_cell Bg6.out 1).trans rfl
  have hfg6_0 := blk_frozen Bg6.out 0
  have hfg6_1 := blk_frozen Bg6.out 1
  have hxg7_0 : w14_.cell? ⟨g7, 0, none⟩ = some (.slice A8_0_ r3_0.length c8_0_) := (blk_cell Bg7.out 0).trans rfl
  have hxg7_1 : w14_.cell? ⟨g7, 1, none⟩ = some (.slice A8_1_ r3_1.length c8_1_) := (blk_cell Bg7.out 1).trans rfl
  have hfg7_0 := blk_frozen Bg7.out 0
  have hfg7_1 := blk_frozen Bg7.out 1
  have hxg9_0 : w14_.cell? ⟨g9, 0, none⟩ = some (.slice A12_0_ r5_0.length c12_0_) := (blk_cell Bg9.out 0).trans rfl
  have hxg9_1 : w14_.cell? ⟨g9, 1, none⟩ = some (.slice A12_1_ r5_1.length c12_1_) := (blk_cell Bg9.out 1).trans rfl
  have hfg9_0 := blk_frozen Bg9.out 0
  have hfg9_1 := blk_frozen Bg9.out 1
  clear hk hb0
  go_wp2_with (first | (go_at_call 34; refine hold ?_))
  unfold Hold
  refine (laws_eqQuery.calls ke7 _ _ r5_0 _ _ r5_1 _ _ r5_0 _ _ r5_1 true _ (Kd.R_reads' O12_0.out).2.2 (Kd.R_reads' O12_0.out).2.1 (Kd.S_reads' O12_1.out).2.2 (Kd.S_reads' O12_1.out).2.1 (Kd.R_reads' O5_0.out).2.2 (Kd.R_reads' O5_0.out).2.1 (Kd.S_reads' O5_1.out).2.2 (Kd.S_reads' O5_1.out).2.1 Ee7.out).mono ?_
  rintro e w15_ ⟨rfl, hb⟩
  have Z15_ := Aside0.mk (show w14_.heap.size ≤ w15_.heap.size from hb.size)
  have n_ := Aside0.mk (Kd.R_below O3_0.out hb); clear O3_0; have O3_0 := n_; clear n_
  have n_ := Aside0.mk (Kd.S_below O3_1.out hb); clear O3_1; have O3_1 := n_; clear n_
  have n_ := Aside0.mk (Kd.R_below O4_0.out hb); clear O4_0; have O4_0 := n_; clear n_
  have n_ := Aside0.mk (Kd.R_below O5_0.out hb); clear O5_0; have O5_0 := n_; clear n_
  have n_ := Aside0.mk (Kd.S_below O5_1.out hb); clear O5_1; have O5_1 := n_; clear n_
  have n_ := Aside0.mk (Kd.R_below O8_0.out hb); clear O8_0; have O8_0 := n_; clear n_
  have n_ := Aside0.mk (Kd.S_below O8_1.out hb); clear O8_1; have O8_1 := n_; clear n_
  have n_ := Aside0.mk (Kd.R_below O11_0.out hb); clear O11_0; have O11_0 := n_; clear n_
  have n_ := Aside0.mk (Kd.R_below O12_0.out hb); clear O12_0; have O12_0 := n_; clear n_
  have n_ := Aside0.mk (Kd.S_below O12_1.out hb); clear O12_1; have O12_1 := n_; clear n_
  have n_ := Aside0.mk (blk_below Bg1.out hb); clear Bg1; have Bg1 := n_; clear n_
  have n_ := Aside0.mk (blk_below Bg6.out hb); clear Bg6; have Bg6 := n_; clear n_
  have n_ := Aside0.mk (blk_below Bg7.out hb); clear Bg7; have Bg7 := n_; clear n_
  have n_ := Aside0.mk (blk_below Bg9.out hb); clear Bg9; have Bg9 := n_; clear n_
  have n_ := Aside0.mk (below_step HB.out hb); clear HB; have HB := n_; clear n_
  clear hxg1_0
  clear hxg1_1
  clear hfg1_0
  clear hfg1_1
  clear hxg6_0
  clear hxg6_1
  clear hfg6_0
  clear hfg6_1
  clear hxg7_0
  clear hxg7_1
  clear hfg7_0
  clear hfg7_1
  clear hxg9_0
  clear hxg9_1
  clear hfg9_0
  clear hfg9_1
  have hxg1_0 : w15_.cell? ⟨g1, 0, none⟩ = some (.slice A0_0 l0_0.length c0_0) := (blk_cell Bg1.out 0).trans rfl
  have hxg1_1 : w15_.cell? ⟨g1, 1, none⟩ = some (.slice A0_1 l0_1.length c0_1) := (blk_cell Bg1.out 1).trans rfl
  have hfg1_0 := blk_frozen Bg1.out 0
  have hfg1_1 := blk_frozen Bg1.out 1
  have hxg6_0 : w15_.cell? ⟨g6, 0, none⟩ = some (.slice A5_0_ r5_0.length c5_0_) := (blk_cell Bg6.out 0).trans rfl
  have hxg6_1 : w15_.cell? ⟨g6, 1, none⟩ = some (.slice A5_1_ r5_1.length c5_1_) := (blk_cell Bg6.out 1).trans rfl
  have hfg6_0 := blk_frozen Bg6.out 0
  have hfg6_1 := blk_frozen Bg6.out 1
  have hxg7_0 : w15_.cell? ⟨g7, 0, none⟩ = some (.slice A8_0_ r3_0.length c8_0_) := (blk_cell Bg7.out 0).trans rfl
  have hxg7_1 : w15_.cell? ⟨g7, 1, none⟩ = some (.slice A8_1_ r3_1.length c8_1_) := (blk_cell Bg7.out 1).trans rfl
  have hfg7_0 := blk_frozen Bg7.out 0
  have hfg7_1 := blk_frozen Bg7.out 1
  have hxg9_0 : w15_.cell? ⟨g9, 0, none⟩ = some (.slice A12_0_ r5_0.length c12_0_) := (blk_cell Bg9.out 0).trans rfl
  have hxg9_1 : w15_.cell? ⟨g9, 1, none⟩ = some (.slice A12_1_ r5_1.length c12_1_) := (blk_cell Bg9.out 1).trans rfl
  have hfg9_0 := blk_frozen Bg9.out 0
  have hfg9_1 := blk_frozen Bg9.out 1
  clear hb
  try go_wp2_with fail
  have n_ := Aside0.mk (Kd.R_drew O3_0.out); clear O3_0; have O3_0 := n_; clear n_
  have n_ := Aside0.mk (Kd.S_drew O3_1.out); clear O3_1; have O3_1 := n_; clear n_
  have n_ := Aside0.mk (Kd.R_drew O4_0.out); clear O4_0; have O4_0 := n_; clear n_
  have n_ := Aside0.mk (Kd.R_drew O5_0.out); clear O5_0; have O5_0 := n_; clear n_
  have n_ := Aside0.mk (Kd.S_drew O5_1.out); clear O5_1; have O5_1 := n_; clear n_
  have n_ := Aside0.mk (Kd.R_drew O8_0.out); clear O8_0; have O8_0 := n_; clear n_
  have n_ := Aside0.mk (Kd.S_drew O8_1.out); clear O8_1; have O8_1 := n_; clear n_
  have n_ := Aside0.mk (Kd.R_drew O11_0.out); clear O11_0; have O11_0 := n_; clear n_
  have n_ := Aside0.mk (Kd.R_drew O12_0.out); clear O12_0; have O12_0 := n_; clear n_
  have n_ := Aside0.mk (Kd.S_drew O12_1.out); clear O12_1; have O12_1 := n_; clear n_
  have n_ := Aside0.mk (blk_drew Bg1.out); clear Bg1; have Bg1 := n_; clear n_
  have n_ := Aside0.mk (blk_drew Bg6.out); clear Bg6; have Bg6 := n_; clear n_
  have n_ := Aside0.mk (blk_drew Bg7.out); clear Bg7; have Bg7 := n_; clear n_
  have n_ := Aside0.mk (blk_drew Bg9.out); clear Bg9; have Bg9 := n_; clear n_
  have n_ := Aside0.mk (below_drew1 HB.out); clear HB; have HB := n_; clear n_
  clear hxg1_0
  clear hxg1_1
  clear hfg1_0
  clear hfg1_1
  clear hxg6_0
  clear hxg6_1
  clear hfg6_0
  clear hfg6_1
  clear hxg7_0
  clear hxg7_1
  clear hfg7_0
  clear hfg7_1
  clear hxg9_0
  clear hxg9_1
  clear hfg9_0
  clear hfg9_1
  have hz := Aside0.mk (show w15_.heap.size ≤ w15_.drew.heap.size from Nat.le_refl _)
  refine start_ (n := 5) (S := fun w' => w'.cell? ⟨g7, 0, none⟩ = some (.slice A8_0_ r3_0.length c8_0_) ∧ w'.cell? ⟨g7, 1, none⟩ = some (.slice A8_1_ r3_1.length c8_1_) ∧ w'.cell? ⟨g1, 0, none⟩ = some (.slice A0_0 l0_0.length c0_0) ∧ w'.cell? ⟨g1, 1, none⟩ = some (.slice A0_1 l0_1.length c0_1)) (ds := []) #[false,false,false,false,false] (by kernel_rfl) rfl rfl ⟨(blk_cell Bg7.out 0).trans rfl, (blk_cell Bg7.out 1).trans rfl, (blk_cell Bg1.out 0).trans rfl, (blk_cell Bg1.out 1).trans rfl⟩ (fun hHeld => ?_)
  generalize w15_.drew = w16_ at O3_0 O3_1 O4_0 O5_0 O5_1 O8_0 O8_1 O11_0 O12_0 O12_1 Bg1 Bg6 Bg7 Bg9 HB hz hHeld ⊢
  have Z16_ := hz; clear hz
  refine take_ (i := 0) (N := some 38) (v := ?_) (a' := ?_) #[true,false,false,false,false] rfl rfl (by kernel_rfl) (fun _ _ _ h => h) (Or.inl ⟨by rfl, ?_⟩) hHeld ?_ ?_
  rotate_left
  · rintro w' ⟨s0, s1, s2, s3⟩; go_simp; with_reducible rfl
  rotate_left
  · simp only [Act.put, List.setIfInBounds_toArray, List.set_cons_zero, List.set_cons_succ, i64_w, i32_w]; rfl
  refine take_ (i := 1) (N := some 39) (v := ?_) (a' := ?_) #[true,true,false,false,false] rfl rfl (by kernel_rfl) (fun _ _ _ h => h) (Or.inl ⟨by rfl, ?_⟩) hHeld ?_ ?_
  rotate_left
  · rintro w' ⟨s0, s1, s2, s3⟩; go_simp; with_reducible rfl
  rotate_left
  · simp only [Act.put, List.setIfInBounds_toArray, List.set_cons_zero, List.set_cons_succ, i64_w, i32_w]; rfl
  refine one_ (i := 2) (N := some 40) #[true,true,true,false,false] rfl rfl (by kernel_rfl) (by decide) (fun K hK => ?_)
  refine goes_ Try.func32 (by kernel_rfl) rfl #[.agg #[.slice A0_0 l0_0.length c0_0, .slice A0_1 l0_1.length c0_1]] (by rfl) rfl rfl (by (try simp only [List.map_toArray, List.map_cons, List.map_nil]); first | done | rfl) ?_
  with_reducible refine (laws_toQuery.calls ke3 _ _ l0_0 _ _ l0_1 r3_0 r3_1 _ (Kd.C_below H0_0.out HB.out) HC0_0.out (Kd.C_below H0_1.out HB.out) HC0_1.out Ee3.out).mono ?_
  rintro e w17_ ⟨v17_0_, v17_1_, rfl, ho0, ho1, hb⟩
  refine ⟨_, rfl, ?_⟩
  have O17_0 := Aside0.mk (newR ho0 HB.out.size)
  have O17_1 := Aside0.mk (newS ho1 HB.out.size)
  have Z17_ := Aside0.mk (show w16_.heap.size ≤ w17_.heap.size from hb.size)
  have n_ := Aside0.mk (Kd.R_below O3_0.out hb); clear O3_0; have O3_0 := n_; clear n_
  have n_ := Aside0.mk (Kd.S_below O3_1.out hb); clear O3_1; have O3_1 := n_; clear n_
  have n_ := Aside0.mk (Kd.R_below O4_0.out hb); clear O4_0; have O4_0 := n_; clear n_
  have n_ := Aside0.mk (Kd.R_below O5_0.out hb); clear O5_0; have O5_0 := n_; clear n_
  have n_ := Aside0.mk (Kd.S_below O5_1.out hb); clear O5_1; have O5_1 := n_; clear n_
  have n_ := Aside0.mk (Kd.R_below O8_0.out hb); clear O8_0; have O8_0 := n_; clear n_
  have n_ := Aside0.mk (Kd.S_below O8_1.out hb); clear O8_1; have O8_1 := n_; clear n_
  have n_ := Aside0.mk (Kd.R_below O11_0.out hb); clear O11_0; have O11_0 := n_; clear n_
  have n_ := Aside0.mk (Kd.R_below O12_0.out hb); clear O12_0; have O12_0 := n_; clear n_
  have n_ := Aside0.mk (Kd.S_below O12_1.out hb); clear O12_1; have O12_1 := n_; clear n_
  have n_ := Aside0.mk (blk_below Bg1.out hb); clear Bg1; have Bg1 := n_; clear n_
  have n_ := Aside0.mk (blk_below Bg6.out hb); clear Bg6; have Bg6 := n_; clear n_
  have n_ := Aside0.mk (blk_below Bg7.out hb); clear Bg7; have Bg7 := n_; clear n_
  have n_ := Aside0.mk (blk_below Bg9.out hb); clear Bg9; have Bg9 := n_; clear n_
  have n_ := Aside0.mk (below_step HB.out hb); clear HB; have HB := n_; clear n_
  have hxg1_0 : w17_.cell? ⟨g1, 0, none⟩ = some (.slice A0_0 l0_0.length c0_0) := (blk_cell Bg1.out 0).trans rfl
  have hxg1_1 : w17_.cell? ⟨g1, 1, none⟩ = some (.slice A0_1 l0_1.length c0_1) := (blk_cell Bg1.out 1).trans rfl
  have hfg1_0 := blk_frozen Bg1.out 0
  have hfg1_1 := blk_frozen Bg1.out 1
  have hxg6_0 : w17_.cell? ⟨g6, 0, none⟩ = some (.slice A5_0_ r5_0.length c5_0_) := (blk_cell Bg6.out 0).trans rfl
  have hxg6_1 : w17_.cell? ⟨g6, 1, none⟩ = some (.slice A5_1_ r5_1.length c5_1_) := (blk_cell Bg6.out 1).trans rfl
  have hfg6_0 := blk_frozen Bg6.out 0
  have hfg6_1 := blk_frozen Bg6.out 1
  have hxg7_0 : w17_.cell? ⟨g7, 0, none⟩ = some (.slice A8_0_ r3_0.length c8_0_) := (blk_cell Bg7.out 0).trans rfl
  have hxg7_1 : w17_.cell? ⟨g7, 1, none⟩ = some (.slice A8_1_ r3_1.length c8_1_) := (blk_cell Bg7.out 1).trans rfl
  have hfg7_0 := blk_frozen Bg7.out 0
  have hfg7_1 := blk_frozen Bg7.out 1
  have hxg9_0 : w17_.cell? ⟨g9, 0, none⟩ = some (.slice A12_0_ r5_0.length c12_0_) := (blk_cell Bg9.out 0).trans rfl
  have hxg9_1 : w17_.cell? ⟨g9, 1, none⟩ = some (.slice A12_1_ r5_1.length c12_1_) := (blk_cell Bg9.out 1).trans rfl
  have hfg9_0 := blk_frozen Bg9.out 0
  have hfg9_1 := blk_frozen Bg9.out 1
  clear hb ho0 ho1
  obtain ⟨A17_0_, c17_0_, eq_⟩ := Kd.R_slice O17_0.out
  subst eq_
  obtain ⟨A17_1_, c17_1_, eq_⟩ := Kd.S_slice O17_1.out
  subst eq_
  clear hxg1_0
  clear hxg1_1
  clear hfg1_0
  clear hfg1_1
  clear hxg6_0
  clear hxg6_1
  clear hfg6_0
  clear hfg6_1
  clear hxg7_0
  clear hxg7_1
  clear hfg7_0
  clear hfg7_1
  clear hxg9_0
  clear hxg9_1
  clear hfg9_0
  clear hfg9_1
  refine hK.out _ _ ⟨(blk_cell Bg7.out 0).trans rfl, (blk_cell Bg7.out 1).trans rfl, (blk_cell Bg1.out 0).trans rfl, (blk_cell Bg1.out 1).trans rfl⟩ (fun hHeld => ?_)
  clear hK K
  refine norm_ (a' := ?_) ?_ ?_
  rotate_left
  · show Act.put _ (some 40) _ = _; simp only [Act.put, List.setIfInBounds_toArray, List.set_cons_zero, List.set_cons_succ, i64_w, i32_w]; rfl
  refine one_ (i := 3) (N := some 41) #[true,true,true,true,false] rfl rfl (by kernel_rfl) (by decide) (fun K hK => ?_)
  refine goes_ Try.func34 (by kernel_rfl) rfl #[.agg #[.slice A8_0_ r3_0.length c8_0_, .slice A8_1_ r3_1.length c8_1_], .agg #[.slice A17_0_ r3_0.length c17_0_, .slice A17_1_ r3_1.length c17_1_]] (by rfl) rfl rfl (by (try simp only [List.map_toArray, List.map_cons, List.map_nil]); first | done | rfl) ?_
  with_reducible refine (laws_eqQuery.calls ke8 _ _ r3_0 _ _ r3_1 _ _ r3_0 _ _ r3_1 true _ (Kd.R_reads' O8_0.out).2.2 (Kd.R_reads' O8_0.out).2.1 (Kd.S_reads' O8_1.out).2.2 (Kd.S_reads' O8_1.out).2.1 (Kd.R_reads' O17_0.out).2.2 (Kd.R_reads' O17_0.out).2.1 (Kd.S_reads' O17_1.out).2.2 (Kd.S_reads' O17_1.out).2.1 Ee8.out).mono ?_
  rintro e w18_ ⟨rfl, hb⟩
  refine ⟨_, rfl, ?_⟩
  have Z18_ := Aside0.mk (show w17_.heap.size ≤ w18_.heap.size from hb.size)
  have n_ := Aside0.mk (Kd.R_below O3_0.out hb); clear O3_0; have O3_0 := n_; clear n_
  have n_ := Aside0.mk (Kd.S_below O3_1.out hb); clear O3_1; have O3_1 := n_; clear n_
  have n_ := Aside0.mk (Kd.R_below O4_0.out hb); clear O4_0; have O4_0 := n_; clear n_
  have n_ := Aside0.mk (Kd.R_below O5_0.out hb); clear O5_0; have O5_0 := n_; clear n_
  have n_ := Aside0.mk (Kd.S_below O5_1.out hb); clear O5_1; have O5_1 := n_; clear n_
  have n_ := Aside0.mk (Kd.R_below O8_0.out hb); clear O8_0; have O8_0 := n_; clear n_
  have n_ := Aside0.mk (Kd.S_below O8_1.out hb); clear O8_1; have O8_1 := n_; clear n_
  have n_ := Aside0.mk (Kd.R_below O11_0.out hb); clear O11_0; have O11_0 := n_; clear n_
  have n_ := Aside0.mk (Kd.R_below O12_0.out hb); clear O12_0; have O12_0 := n_; clear n_
  have n_ := Aside0.mk (Kd.S_below O12_1.out hb); clear O12_1; have O12_1 := n_; clear n_
  have n_ := Aside0.mk (Kd.R_below O17_0.out hb); clear O17_0; have O17_0 := n_; clear n_
  have n_ := Aside0.mk (Kd.S_below O17_1.out hb); clear O17_1; have O17_1 := n_; clear n_
  have n_ := Aside0.mk (blk_below Bg1.out hb); clear Bg1; have Bg1 := n_; clear n_
  have n_ := Aside0.mk (blk_below Bg6.out hb); clear Bg6; have Bg6 := n_; clear n_
  have n_ := Aside0.mk (blk_below Bg7.out hb); clear Bg7; have Bg7 := n_; clear n_
  have n_ := Aside0.mk (blk_below Bg9.out hb); clear Bg9; have Bg9 := n_; clear n_
  have n_ := Aside0.mk (below_step HB.out hb); clear HB; have HB := n_; clear n_
  have hxg1_0 : w18_.cell? ⟨g1, 0, none⟩ = some (.slice A0_0 l0_0.length c0_0) := (blk_cell Bg1.out 0).trans rfl
  have hxg1_1 : w18_.cell? ⟨g1, 1, none⟩ = some (.slice A0_1 l0_1.length c0_1) := (blk_cell Bg1.out 1).trans rfl
  have hfg1_0 := blk_frozen Bg1.out 0
  have hfg1_1 := blk_frozen Bg1.out 1
  have hxg6_0 : w18_.cell? ⟨g6, 0, none⟩ = some (.slice A5_0_ r5_0.length c5_0_) := (blk_cell Bg6.out 0).trans rfl
  have hxg6_1 : w18_.cell? ⟨g6, 1, none⟩ = some (.slice A5_1_ r5_1.length c5_1_) := (blk_cell Bg6.out 1).trans rfl
  have hfg6_0 := blk_frozen Bg6.out 0
  have hfg6_1 := blk_frozen Bg6.out 1
  have hxg7_0 : w18_.cell? ⟨g7, 0, none⟩ = some (.slice A8_0_ r3_0.length c8_0_) := (blk_cell Bg7.out 0).trans rfl
  have hxg7_1 : w18_.cell? ⟨g7, 1, none⟩ = some (.slice A8_1_ r3_1.length c8_1_) := (blk_cell Bg7.out 1).trans rfl
  have hfg7_0 := blk_frozen Bg7.out 0
  have hfg7_1 := blk_frozen Bg7.out 1
  have hxg9_0 : w18_.cell? ⟨g9, 0, none⟩ = some (.slice A12_0_ r5_0.length c12_0_) := (blk_cell Bg9.out 0).trans rfl
  have hxg9_1 : w18_.cell? ⟨g9, 1, none⟩ = some (.slice A12_1_ r5_1.length c12_1_) := (blk_cell Bg9.out 1).trans rfl
  have hfg9_0 := blk_frozen Bg9.out 0
  have hfg9_1 := blk_frozen Bg9.out 1
  clear hb
  clear hxg1_0
  clear hxg1_1
  clear hfg1_0
  clear hfg1_1
  clear hxg6_0
  clear hxg6_1
  clear hfg6_0
  clear hfg6_1
  clear hxg7_0
  clear hxg7_1
  clear hfg7_0
  clear hfg7_1
  clear hxg9_0
  clear hxg9_1
  clear hfg9_0
  clear hfg9_1
  refine hK.out _ _ ⟨(blk_cell Bg7.out 0).trans rfl, (blk_cell Bg7.out 1).trans rfl, (blk_cell Bg1.out 0).trans rfl, (blk_cell Bg1.out 1).trans rfl⟩ (fun hHeld => ?_)
  clear hK K
  refine norm_ (a' := ?_) ?_ ?_
  rotate_left
  · show Act.put _ (some 41) _ = _; simp only [Act.put, List.setIfInBounds_toArray, List.set_cons_zero, List.set_cons_succ, i64_w, i32_w]; rfl
  refine pure_ (i := 4) (N := some 42) (v := ?_) (a' := ?_) #[true,true,true,true,true] rfl rfl (by kernel_rfl) (fun _ _ _ h => h) (Or.inl ⟨by rfl, ?_⟩) ?_ ?_
  rotate_left
  · intro w'; go_simp; with_reducible rfl
  rotate_left
  · simp only [Act.put, List.setIfInBounds_toArray, List.set_cons_zero, List.set_cons_succ, i64_w, i32_w]; rfl
  refine done_ (by kernel_rfl) ?_
  have hxg1_0 : w18_.cell? ⟨g1, 0, none⟩ = some (.slice A0_0 l0_0.length c0_0) := (blk_cell Bg1.out 0).trans rfl
  have hxg1_1 : w18_.cell? ⟨g1, 1, none⟩ = some (.slice A0_1 l0_1.length c0_1) := (blk_cell Bg1.out 1).trans rfl
  have hfg1_0 := blk_frozen Bg1.out 0
  have hfg1_1 := blk_frozen Bg1.out 1
  have hxg6_0 : w18_.cell? ⟨g6, 0, none⟩ = some (.slice A5_0_ r5_0.length c5_0_) := (blk_cell Bg6.out 0).trans rfl
  have hxg6_1 : w18_.cell? ⟨g6, 1, none⟩ = some (.slice A5_1_ r5_1.length c5_1_) := (blk_cell Bg6.out 1).trans rfl
  have hfg6_0 := blk_frozen Bg6.out 0
  have hfg6_1 := blk_frozen Bg6.out 1
  have hxg7_0 : w18_.cell? ⟨g7, 0, none⟩ = some (.slice A8_0_ r3_0.length c8_0_) := (blk_cell Bg7.out 0).trans rfl
  have hxg7_1 : w18_.cell? ⟨g7, 1, none⟩ = some (.slice A8_1_ r3_1.length c8_1_) := (blk_cell Bg7.out 1).trans rfl
  have hfg7_0 := blk_frozen Bg7.out 0
  have hfg7_1 := blk_frozen Bg7.out 1
  have hxg9_0 : w18_.cell? ⟨g9, 0, none⟩ = some (.slice A12_0_ r5_0.length c12_0_) := (blk_cell Bg9.out 0).trans rfl
  have hxg9_1 : w18_.cell? ⟨g9, 1, none⟩ = some (.slice A12_1_ r5_1.length c12_1_) := (blk_cell Bg9.out 1).trans rfl
  have hfg9_0 := blk_frozen Bg9.out 0
  have hfg9_1 := blk_frozen Bg9.out 1
  go_wp2_with (first | (go_at_call 41; refine hold ?_))
  unfold Hold
  refine (laws_toIntS.calls ke4 _ _ l1 r4_0 _ (Kd.C_below H1.out HB.out) HC1.out Ee4.out).mono ?_
  rintro e w19_ ⟨v19_0_, rfl, ho0, hb⟩
  have O19_0 := Aside0.mk (newR ho0 HB.out.size)
  have Z19_ := Aside0.mk (show w18_.heap.size ≤ w19_.heap.size from hb.size)
  have n_ := Aside0.mk (Kd.R_below O3_0.out hb); clear O3_0; have O3_0 := n_; clear n_
  have n_ := Aside0.mk (Kd.S_below O3_1.out hb); clear O3_1; have O3_1 := n_; clear n_
  have n_ := Aside0.mk (Kd.R_below O4_0.out hb); clear O4_0; have O4_0 := n_; clear n_
  have n_ := Aside0.mk (Kd.R_below O5_0.out hb); clear O5_0; have O5_0 := n_; clear n_
  have n_ := Aside0.mk (Kd.S_below O5_1.out hb); clear O5_1; have O5_1 := n_; clear n_
  have n_ := Aside0.mk (Kd.R_below O8_0.out hb); clear O8_0; have O8_0 := n_; clear n_
  have n_ := Aside0.mk (Kd.S_below O8_1.out hb); clear O8_1; have O8_1 := n_; clear n_
  have n_ := Aside0.mk (Kd.R_below O11_0.out hb); clear O11_0; have O11_0 := n_; clear n_
  have n_ := Aside0.mk (Kd.R_below O12_0.out hb); clear O12_0; have O12_0 := n_; clear n_
  have n_ := Aside0.mk (Kd.S_below O12_1.out hb); clear O12_1; have O12_1 := n_; clear n_
  have n_ := Aside0.mk (Kd.R_below O17_0.out hb); clear O17_0; have O17_0 := n_; clear n_
  have n_ := Aside0.mk (Kd.S_below O17_1.out hb); clear O17_1; have O17_1 := n_; clear n_
  have n_ := Aside0.mk (blk_below Bg1.out hb); clear Bg1; have Bg1 := n_; clear n_
  have n_ := Aside0.mk (blk_below Bg6.out hb); clear Bg6; have Bg6 := n_; clear n_
  have n_ := Aside0.mk (blk_below Bg7.out hb); clear Bg7; have Bg7 := n_; clear n_
  have n_ := Aside0.mk (blk_below Bg9.out hb); clear Bg9; have Bg9 := n_; clear n_
  have n_ := Aside0.mk (below_step HB.out hb); clear HB; have HB := n_; clear n_
  clear hxg1_0
  clear hxg1_1
  clear hfg1_0
  clear hfg1_1
  clear hxg6_0
  clear hxg6_1
  clear hfg6_0
  clear hfg6_1
  clear hxg7_0
  clear hxg7_1
  clear hfg7_0
  clear hfg7_1
  clear hxg9_0
  clear hxg9_1
  clear hfg9_0
  clear hfg9_1
  have hxg1_0 : w19_.cell? ⟨g1, 0, none⟩ = some (.slice A0_0 l0_0.length c0_0) := (blk_cell Bg1.out 0).trans rfl
  have hxg1_1 : w19_.cell? ⟨g1, 1, none⟩ = some (.slice A0_1 l0_1.length c0_1) := (blk_cell Bg1.out 1).trans rfl
  have hfg1_0 := blk_frozen Bg1.out 0
  have hfg1_1 := blk_frozen Bg1.out 1
  have hxg6_0 : w19_.cell? ⟨g6, 0, none⟩ = some (.slice A5_0_ r5_0.length c5_0_) := (blk_cell Bg6.out 0).trans rfl
  have hxg6_1 : w19_.cell? ⟨g6, 1, none⟩ = some (.slice A5_1_ r5_1.length c5_1_) := (blk_cell Bg6.out 1).trans rfl
  have hfg6_0 := blk_frozen Bg6.out 0
  have hfg6_1 := blk_frozen Bg6.out 1
  have hxg7_0 : w19_.cell? ⟨g7, 0, none⟩ = some (.slice A8_0_ r3_0.length c8_0_) := (blk_cell Bg7.out 0).trans rfl
  have hxg7_1 : w19_.cell? ⟨g7, 1, none⟩ = some (.slice A8_1_ r3_1.length c8_1_) := (blk_cell Bg7.out 1).trans rfl
  have hfg7_0 := blk_frozen Bg7.out 0
  have hfg7_1 := blk_frozen Bg7.out 1
  have hxg9_0 : w19_.cell? ⟨g9, 0, none⟩ = some (.slice A12_0_ r5_0.length c12_0_) := (blk_cell Bg9.out 0).trans rfl
  have hxg9_1 : w19_.cell? ⟨g9, 1, none⟩ = some (.slice A12_1_ r5_1.length c12_1_) := (blk_cell Bg9.out 1).trans rfl
  have hfg9_0 := blk_frozen Bg9.out 0
  have hfg9_1 := blk_frozen Bg9.out 1
  clear hb ho0
  obtain ⟨A19_0_, c19_0_, eq_⟩ := Kd.R_slice O19_0.out
  subst eq_
  go_wp2_with (first | (go_at_call 43; refine hold ?_))
  unfold Hold
  refine (laws_eqIntS.calls ke9 _ _ r4_0 _ _ r4_0 true _ (Kd.R_reads' O11_0.out).2.2 (Kd.R_reads' O11_0.out).2.1 (Kd.R_reads' O19_0.out).2.2 (Kd.R_reads' O19_0.out).2.1 Ee9.out).mono ?_
  rintro e w20_ ⟨rfl, hd⟩
  have hb := hd.below; clear hd
  have Z20_ := Aside0.mk (show w19_.heap.size ≤ w20_.heap.size from hb.size)
  have n_ := Aside0.mk (Kd.R_below O3_0.out hb); clear O3_0; have O3_0 := n_; clear n_
  have n_ := Aside0.mk (Kd.S_below O3_1.out hb); clear O3_1; have O3_1 := n_; clear n_
  have n_ := Aside0.mk (Kd.R_below O4_0.out hb); clear O4_0; have O4_0 := n_; clear n_
  have n_ := Aside0.mk (Kd.R_below O5_0.out hb); clear O5_0; have O5_0 := n_; clear n_
  have n_ := Aside0.mk (Kd.S_below O5_1.out hb); clear O5_1; have O5_1 := n_; clear n_
  have n_ := Aside0.mk (Kd.R_below O8_0.out hb); clear O8_0; have O8_0 := n_; clear n_
  have n_ := Aside0.mk (Kd.S_below O8_1.out hb); clear O8_1; have O8_1 := n_; clear n_
  have n_ := Aside0.mk (Kd.R_below O11_0.out hb); clear O11_0; have O11_0 := n_; clear n_
  have n_ := Aside0.mk (Kd.R_below O12_0.out hb); clear O12_0; have O12_0 := n_; clear n_
  have n_ := Aside0.mk (Kd.S_below O12_1.out hb); clear O12_1; have O12_1 := n_; clear n_
  have n_ := Aside0.mk (Kd.R_below O17_0.out hb); clear O17_0; have O17_0 := n_; clear n_
  have n_ := Aside0.mk (Kd.S_below O17_1.out hb); clear O17_1; have O17_1 := n_; clear n_
  have n_ := Aside0.mk (Kd.R_below O19_0.out hb); clear O19_0; have O19_0 := n_; clear n_
  have n_ := Aside0.mk (blk_below Bg1.out hb); clear Bg1; have Bg1 := n_; clear n_
  have n_ := Aside0.mk (blk_below Bg6.out hb); clear Bg6; have Bg6 := n_; clear n_
  have n_ := Aside0.mk (blk_below Bg7.out hb); clear Bg7; have Bg7 := n_; clear n_
  have n_ := Aside0.mk (blk_below Bg9.out hb); clear Bg9; have Bg9 := n_; clear n_
  have n_ := Aside0.mk (below_step HB.out hb); clear HB; have HB := n_; clear n_
  clear hxg1_0
  clear hxg1_1
  clear hfg1_0
  clear hfg1_1
  clear hxg6_0
  clear hxg6_1
  clear hfg6_0
  clear hfg6_1
  clear hxg7_0
  clear hxg7_1
  clear hfg7_0
  clear hfg7_1
  clear hxg9_0
  clear hxg9_1
  clear hfg9_0
  clear hfg9_1
  have hxg1_0 : w20_.cell? ⟨g1, 0, none⟩ = some (.slice A0_0 l0_0.length c0_0) := (blk_cell Bg1.out 0).trans rfl
  have hxg1_1 : w20_.cell? ⟨g1, 1, none⟩ = some (.slice A0_1 l0_1.length c0_1) := (blk_cell Bg1.out 1).trans rfl
  have hfg1_0 := blk_frozen Bg1.out 0
  have hfg1_1 := blk_frozen Bg1.out 1
  have hxg6_0 : w20_.cell? ⟨g6, 0, none⟩ = some (.slice A5_0_ r5_0.length c5_0_) := (blk_cell Bg6.out 0).trans rfl
  have hxg6_1 : w20_.cell? ⟨g6, 1, none⟩ = some (.slice A5_1_ r5_1.length c5_1_) := (blk_cell Bg6.out 1).trans rfl
  have hfg6_0 := blk_frozen Bg6.out 0
  have hfg6_1 := blk_frozen Bg6.out 1
  have hxg7_0 : w20_.cell? ⟨g7, 0, none⟩ = some (.slice A8_0_ r3_0.length c8_0_) := (blk_cell Bg7.out 0).trans rfl
  have hxg7_1 : w20_.cell? ⟨g7, 1, none⟩ = some (.slice A8_1_ r3_1.length c8_1_) := (blk_cell Bg7.out 1).trans rfl
  have hfg7_0 := blk_frozen Bg7.out 0
  have hfg7_1 := blk_frozen Bg7.out 1
  have hxg9_0 : w20_.cell? ⟨g9, 0, none⟩ = some (.slice A12_0_ r5_0.length c12_0_) := (blk_cell Bg9.out 0).trans rfl
  have hxg9_1 : w20_.cell? ⟨g9, 1, none⟩ = some (.slice A12_1_ r5_1.length c12_1_) := (blk_cell Bg9.out 1).trans rfl
  have hfg9_0 := blk_frozen Bg9.out 0
  have hfg9_1 := blk_frozen Bg9.out 1
  clear hb
  go_wp2_with (first | (go_at_call 44; refine hold ?_))
  unfold Hold
  refine (markQuery_calls (fun k_ => w7_.heap.size ≤ k_ ∧ k_ < w8_.heap.size) (.slice A8_0_ r3_0.length c8_0_) (.slice A8_1_ r3_1.length c8_1_) r3_0 r3_1 1 r10_0 r10_1 r10_2 w _ HB.out (Kd.R_mono O8_0.out (fun _ h_ => h_.1)) (Kd.S_mono O8_1.out (fun _ h_ => ⟨h_.1, h_.2⟩)) e10_hz0.out Ee10.out).mono ?_
  rintro e w21_ ⟨rfl, ho0, ho1, hb0, hk⟩
  have n_ := Aside0.mk (show Kd.R (Kd.int .i64) 3 w21_ w.heap.size (fun k_ => (w7_.heap.size ≤ k_ ∧ k_ < w8_.heap.size) ∧ True) (.slice A8_0_ r3_0.length c8_0_) r10_1 from Kd.R_mono (Kd.R_tight2 rfl ho0) (fun k_ hk_ => ⟨(O8_0.out.1 k_ hk_.1.symm).1, trivial⟩)); clear O8_0; have O8_0 := n_; clear n_
  have n_ := Aside0.mk (show Kd.S k97 97 w21_ w.heap.size (fun k_ => (w7_.heap.size ≤ k_ ∧ k_ < w8_.heap.size) ∧ some k_ ≠ (.slice A8_0_ r3_0.length c8_0_ : Value).ownBlock) (.slice A8_1_ r3_1.length c8_1_) r10_2 from Kd.S_mono ho1 (fun _ hk_ => ⟨hk_.1, hk_.2⟩)); clear O8_1; have O8_1 := n_; clear n_
  clear ho0
  clear ho1
  have Z21_ := Aside0.mk (show w20_.heap.size ≤ w21_.heap.size from hk.1)
  have n_ := Aside0.mk (Kd.R_kept O3_0.out hk (fun k_ hk1 hk2 => by obtain ⟨a1_, a2_⟩ := hk1.1; obtain ⟨b1_, b2_⟩ := hk2; have z4_ := Z4_.out; have z5_ := Z5_.out; have z6_ := Z6_.out; have z7_ := Z7_.out; omega)); clear O3_0; have O3_0 := n_; clear n_
  have n_ := Aside0.mk (Kd.S_kept O3_1.out hk (fun k_ hk1 hk2 => by obtain ⟨a1_, a2_⟩ := hk1.1; obtain ⟨b1_, b2_⟩ := hk2; have z4_ := Z4_.out; have z5_ := Z5_.out; have z6_ := Z6_.out; have z7_ := Z7_.out; omega)); clear O3_1; have O3_1 := n_; clear n_
  have n_ := Aside0.mk (Kd.R_kept O4_0.out hk (fun k_ hk1 hk2 => by obtain ⟨a1_, a2_⟩ := hk1.1; obtain ⟨b1_, b2_⟩ := hk2; have z5_ := Z5_.out; have z6_ := Z6_.out; have z7_ := Z7_.out; omega)); clear O4_0; have O4_0 := n_; clear n_
  have n_ := Aside0.mk (Kd.R_kept O5_0.out hk (fun k_ hk1 hk2 => by obtain ⟨a1_, a2_⟩ := hk1.1; obtain ⟨b1_, b2_⟩ := hk2; have z6_ := Z6_.out; have z7_ := Z7_.out; omega)); clear O5_0; have O5_0 := n_; clear n_
  have n_ := Aside0.mk (Kd.S_kept O5_1.out hk (fun k_ hk1 hk2 => by obtain ⟨a1_, a2_⟩ := hk1.1; obtain ⟨b1_, b2_⟩ := hk2; have z6_ := Z6_.out; have z7_ := Z7_.out; omega)); clear O5_1; have O5_1 := n_; clear n_
  have n_ := Aside0.mk (Kd.R_kept O11_0.out hk (fun k_ hk1 hk2 => by obtain ⟨a1_, a2_⟩ := hk1.1; obtain ⟨b1_, b2_⟩ := hk2; have z9_ := Z9_.out; have z10_ := Z10_.out; omega)); clear O11_0; have O11_0 := n_; clear n_
  have n_ := Aside0.mk (Kd.R_kept O12_0.out hk (fun k_ hk1 hk2 => by obtain ⟨a1_, a2_⟩ := hk1.1; obtain ⟨b1_, b2_⟩ := hk2; have z9_ := Z9_.out; have z10_ := Z10_.out; have z11_ := Z11_.out; omega)); clear O12_0; have O12_0 := n_; clear n_
  have n_ := Aside0.mk (Kd.S_kept O12_1.out hk (fun k_ hk1 hk2 => by obtain ⟨a1_, a2_⟩ := hk1.1; obtain ⟨b1_, b2_⟩ := hk2; have z9_ := Z9_.out; have z10_ := Z10_.out; have z11_ := Z11_.out; omega)); clear O12_1; have O12_1 := n_; clear n_
  have n_ := Aside0.mk (Kd.R_kept O17_0.out hk (fun k_ hk1 hk2 => by obtain ⟨a1_, a2_⟩ := hk1.1; obtain ⟨b1_, b2_⟩ := hk2; have z9_ := Z9_.out; have z10_ := Z10_.out; have z11_ := Z11_.out; have z12_ := Z12_.out; have z13_ := Z13_.out; have z14_ := Z14_.out; have z15_ := Z15_.out; have z16_ := Z16_.out; omega)); clear O17_0; have O17_0 := n_; clear n_
  have n_ := Aside0.mk (Kd.S_kept O17_1.out hk (fun k_ hk1 hk2 => by obtain ⟨a1_, a2_⟩ := hk1.1; obtain ⟨b1_, b2_⟩ := hk2; have z9_ := Z9_.out; have z10_ := Z10_.out; have z11_ := Z11_.out; have z12_ := Z12_.out; have z13_ := Z13_.out; have z14_ := Z14_.out; have z15_ := Z15_.out; have z16_ := Z16_.out; omega)); clear O17_1; have O17_1 := n_; clear n_
  have n_ := Aside0.mk (Kd.R_kept O19_0.out hk (fun k_ hk1 hk2 => by obtain ⟨a1_, a2_⟩ := hk1.1; obtain ⟨b1_, b2_⟩ := hk2; have z9_ := Z9_.out; have z10_ := Z10_.out; have z11_ := Z11_.out; have z12_ := Z12_.out; have z13_ := Z13_.out; have z14_ := Z14_.out; have z15_ := Z15_.out; have z16_ := Z16_.out; have z17_ := Z17_.out; have z18_ := Z18_.out; omega)); clear O19_0; have O19_0 := n_; clear n_
  have n_ := Aside0.mk (blk_kept Bg1.out hk (fun hk2 => by obtain ⟨a1_, a2_⟩ := Gg1.out; obtain ⟨b1_, b2_⟩ := hk2; have z2_ := Z2_.out; have z3_ := Z3_.out; have z4_ := Z4_.out; have z5_ := Z5_.out; have z6_ := Z6_.out; have z7_ := Z7_.out; omega)); clear Bg1; have Bg1 := n_; clear n_
  have n_ := Aside0.mk (blk_kept Bg6.out hk (fun hk2 => by obtain ⟨a1_, a2_⟩ := Gg6.out; obtain ⟨b1_, b2_⟩ := hk2; have z7_ := Z7_.out; omega)); clear Bg6; have Bg6 := n_; clear n_
  have n_ := Aside0.mk (blk_kept Bg7.out hk (fun hk2 => by obtain ⟨a1_, a2_⟩ := Gg7.out; obtain ⟨b1_, b2_⟩ := hk2; omega)); clear Bg7; have Bg7 := n_; clear n_
  have n_ := Aside0.mk (blk_kept Bg9.out hk (fun hk2 => by obtain ⟨a1_, a2_⟩ := Gg9.out; obtain ⟨b1_, b2_⟩ := hk2; have z9_ := Z9_.out; have z10_ := Z10_.out; have z11_ := Z11_.out; have z12_ := Z12_.out; omega)); clear Bg9; have Bg9 := n_; clear n_
  clear HB; have HB := Aside0.mk hb0
  clear hxg1_0
  clear hxg1_1
  clear hfg1_0
  clear hfg1_1
  clear hxg6_0
  clear hxg6_1
  clear hfg6_0
  clear hfg6_1
  clear hxg7_0
  clear hxg7_1
  clear hfg7_0
  clear hfg7_1
  clear hxg9_0
  clear hxg9_1
  clear hfg9_0
  clear hfg9_1
  have hxg1_0 : w21_.cell? ⟨g1, 0, none⟩ = some (.slice A0_0 l0_0.length c0_0) := (blk_cell Bg1.out 0).trans rfl
  have hxg1_1 : w21_.cell? ⟨g1, 1, none⟩ = some (.slice A0_1 l0_1.length c0_1) := (blk_cell Bg1.out 1).trans rfl
  have hfg1_0 := blk_frozen Bg1.out 0
  have hfg1_1 := blk_frozen Bg1.out 1
  have hxg6_0 : w21_.cell? ⟨g6, 0, none⟩ = some (.slice A5_0_ r5_0.length c5_0_) := (blk_cell Bg6.out 0).trans rfl
  have hxg6_1 : w21_.cell? ⟨g6, 1, none⟩ = some (.slice A5_1_ r5_1.length c5_1_) := (blk_cell Bg6.out 1).trans rfl
  have hfg6_0 := blk_frozen Bg6.out 0
  have hfg6_1 := blk_frozen Bg6.out 1
  have hxg7_0 : w21_.cell? ⟨g7, 0, none⟩ = some (.slice A8_0_ r3_0.length c8_0_) := (blk_cell Bg7.out 0).trans rfl
  have hxg7_1 : w21_.cell? ⟨g7, 1, none⟩ = some (.slice A8_1_ r3_1.length c8_1_) := (blk_cell Bg7.out 1).trans rfl
  have hfg7_0 := blk_frozen Bg7.out 0
  have hfg7_1 := blk_frozen Bg7.out 1
  have hxg9_0 : w21_.cell? ⟨g9, 0, none⟩ = some (.slice A12_0_ r5_0.length c12_0_) := (blk_cell Bg9.out 0).trans rfl
  have hxg9_1 : w21_.cell? ⟨g9, 1, none⟩ = some (.slice A12_1_ r5_1.length c12_1_) := (blk_cell Bg9.out 1).trans rfl
  have hfg9_0 := blk_frozen Bg9.out 0
  have hfg9_1 := blk_frozen Bg9.out 1
  clear hk hb0
  go_wp2_with (first | (go_at_call 45; refine hold ?_))
  unfold Hold
  refine (laws_markIntS.calls ke11 (fun k_ => w10_.heap.size ≤ k_ ∧ k_ < w11_.heap.size) (.slice A11_0_ r4_0.length c11_0_) r4_0 r10_0 r11_0 r11_1 w _ HB.out (Kd.R_mono O11_0.out (fun _ h_ => h_.1)) Ee11.out).mono ?_
  rintro e w22_ ⟨rfl, ho0, hb0, hk⟩
  have n_ := Aside0.mk (show Kd.R (Kd.int .i64) 3 w22_ w.heap.size (fun k_ => (w10_.heap.size ≤ k_ ∧ k_ < w11_.heap.size) ∧ True) (.slice A11_0_ r4_0.length c11_0_) r11_1 from Kd.R_mono (Kd.R_tight2 rfl ho0) (fun k_ hk_ => ⟨(O11_0.out.1 k_ hk_.1.symm).1, trivial⟩)); clear O11_0; have O11_0 := n_; clear n_
  clear ho0
  have Z22_ := Aside0.mk (show w21_.heap.size ≤ w22_.heap.size from hk.1)
  have n_ := Aside0.mk (Kd.R_kept O3_0.out hk (fun k_ hk1 hk2 => by obtain ⟨a1_, a2_⟩ := hk1.1; obtain ⟨b1_, b2_⟩ := hk2; have z4_ := Z4_.out; have z5_ := Z5_.out; have z6_ := Z6_.out; have z7_ := Z7_.out; have z8_ := Z8_.out; have z9_ := Z9_.out; have z10_ := Z10_.out; omega)); clear O3_0; have O3_0 := n_; clear n_
  have n_ := Aside0.mk (Kd.S_kept O3_1.out hk (fun k_ hk1 hk2 => by obtain ⟨a1_, a2_⟩ := hk1.1; obtain ⟨b1_, b2_⟩ := hk2; have z4_ := Z4_.out; have z5_ := Z5_.out; have z6_ := Z6_.out; have z7_ := Z7_.out; have z8_ := Z8_.out; have z9_ := Z9_.out; have z10_ := Z10_.out; omega)); clear O3_1; have O3_1 := n_; clear n_
  have n_ := Aside0.mk (Kd.R_kept O4_0.out hk (fun k_ hk1 hk2 => by obtain ⟨a1_, a2_⟩ := hk1.1; obtain ⟨b1_, b2_⟩ := hk2; have z5_ := Z5_.out; have z6_ := Z6_.out; have z7_ := Z7_.out; have z8_ := Z8_.out; have z9_ := Z9_.out; have z10_ := Z10_.out; omega)); clear O4_0; have O4_0 := n_; clear n_
  have n_ := Aside0.mk (Kd.R_kept O5_0.out hk (fun k_ hk1 hk2 => by obtain ⟨a1_, a2_⟩ := hk1.1; obtain ⟨b1_, b2_⟩ := hk2; have z6_ := Z6_.out; have z7_ := Z7_.out; have z8_ := Z8_.out; have z9_ := Z9_.out; have z10_ := Z10_.out; omega)); clear O5_0; have O5_0 := n_; clear n_
  have n_ := Aside0.mk (Kd.S_kept O5_1.out hk (fun k_ hk1 hk2 => by obtain ⟨a1_, a2_⟩ := hk1.1; obtain ⟨b1_, b2_⟩ := hk2; have z6_ := Z6_.out; have z7_ := Z7_.out; have z8_ := Z8_.out; have z9_ := Z9_.out; have z10_ := Z10_.out; omega)); clear O5_1; have O5_1 := n_; clear n_
  have n_ := Aside0.mk (Kd.R_kept O8_0.out hk (fun k_ hk1 hk2 => by obtain ⟨a1_, a2_⟩ := hk1.1; obtain ⟨b1_, b2_⟩ := hk2; have z9_ := Z9_.out; have z10_ := Z10_.out; omega)); clear O8_0; have O8_0 := n_; clear n_
  have n_ := Aside0.mk (Kd.S_kept O8_1.out hk (fun k_ hk1 hk2 => by obtain ⟨a1_, a2_⟩ := hk1.1; obtain ⟨b1_, b2_⟩ := hk2; have z9_ := Z9_.out; have z10_ := Z10_.out; omega)); clear O8_1; have O8_1 := n_; clear n_
  have n_ := Aside0.mk (Kd.R_kept O12_0.out hk (fun k_ hk1 hk2 => by obtain ⟨a1_, a2_⟩ := hk1.1; obtain ⟨b1_, b2_⟩ := hk2; omega)); clear O12_0; have O12_0 := n_; clear n_
  have n_ := Aside0.mk (Kd.S_kept O12_1.out hk (fun k_ hk1 hk2 => by obtain ⟨a1_, a2_⟩ := hk1.1; obtain ⟨b1_, b2_⟩ := hk2; omega)); clear O12_1; have O12_1 := n_; clear n_
  have n_ := Aside0.mk (Kd.R_kept O17_0.out hk (fun k_ hk1 hk2 => by obtain ⟨a1_, a2_⟩ := hk1.1; obtain ⟨b1_, b2_⟩ := hk2; have z12_ := Z12_.out; have z13_ := Z13_.out; have z14_ := Z14_.out; have z15_ := Z15_.out; have z16_ := Z16_.out; omega)); clear O17_0; have O17_0 := n_; clear n_
  have n_ := Aside0.mk (Kd.S_kept O17_1.out hk (fun k_ hk1 hk2 => by obtain ⟨a1_, a2_⟩ := hk1.1; obtain ⟨b1_, b2_⟩ := hk2; have z12_ := Z12_.out; have z13_ := Z13_.out; have z14_ := Z14_.out; have z15_ := Z15_.out; have z16_ := Z16_.out; omega)); clear O17_1; have O17_1 := n_; clear n_
  have n_ := Aside0.mk (Kd.R_kept O19_0.out hk (fun k_ hk1 hk2 => by obtain ⟨a1_, a2_⟩ := hk1.1; obtain ⟨b1_, b2_⟩ := hk2; have z12_ := Z12_.out; have z13_ := Z13_.out; have z14_ := Z14_.out; have z15_ := Z15_.out; have z16_ := Z16_.out; have z17_ := Z17_.out; have z18_ := Z18_.out; omega)); clear O19_0; have O19_0 := n_; clear n_
  have n_ := Aside0.mk (blk_kept Bg1.out hk (fun hk2 => by obtain ⟨a1_, a2_⟩ := Gg1.out; obtain ⟨b1_, b2_⟩ := hk2; have z2_ := Z2_.out; have z3_ := Z3_.out; have z4_ := Z4_.out; have z5_ := Z5_.out; have z6_ := Z6_.out; have z7_ := Z7_.out; have z8_ := Z8_.out; have z9_ := Z9_.out; have z10_ := Z10_.out; omega)); clear Bg1; have Bg1 := n_; clear n_
  have n_ := Aside0.mk (blk_kept Bg6.out hk (fun hk2 => by obtain ⟨a1_, a2_⟩ := Gg6.out; obtain ⟨b1_, b2_⟩ := hk2; have z7_ := Z7_.out; have z8_ := Z8_.out; have z9_ := Z9_.out; have z10_ := Z10_.out; omega)); clear Bg6; have Bg6 := n_; clear n_
  have n_ := Aside0.mk (blk_kept Bg7.out hk (fun hk2 => by obtain ⟨a1_, a2_⟩ := Gg7.out; obtain ⟨b1_, b2_⟩ := hk2; have z10_ := Z10_.out; omega)); clear Bg7; have Bg7 := n_; clear n_
  have n_ := Aside0.mk (blk_kept Bg9.out hk (fun hk2 => by obtain ⟨a1_, a2_⟩ := Gg9.out; obtain ⟨b1_, b2_⟩ := hk2; have z12_ := Z12_.out; omega)); clear Bg9; have Bg9 := n_; clear n_
  clear HB; have HB := Aside0.mk hb0
  clear hxg1_0
  clear hxg1_1
  clear hfg1_0
  clear hfg1_1
  clear hxg6_0
  clear hxg6_1
  clear hfg6_0
  clear hfg6_1
  clear hxg7_0
  clear hxg7_1
  clear hfg7_0
  clear hfg7_1
  clear hxg9_0
  clear hxg9_1
  clear hfg9_0
  clear hfg9_1
  have hxg1_0 : w22_.cell? ⟨g1, 0, none⟩ = some (.slice A0_0 l0_0.length c0_0) := (blk_cell Bg1.out 0).trans rfl
  have hxg1_1 : w22_.cell? ⟨g1, 1, none⟩ = some (.slice A0_1 l0_1.length c0_1) := (blk_cell Bg1.out 1).trans rfl
  have hfg1_0 := blk_frozen Bg1.out 0
  have hfg1_1 := blk_frozen Bg1.out 1
  have hxg6_0 : w22_.cell? ⟨g6, 0, none⟩ = some (.slice A5_0_ r5_0.length c5_0_) := (blk_cell Bg6.out 0).trans rfl
  have hxg6_1 : w22_.cell? ⟨g6, 1, none⟩ = some (.slice A5_1_ r5_1.length c5_1_) := (blk_cell Bg6.out 1).trans rfl
  have hfg6_0 := blk_frozen Bg6.out 0
  have hfg6_1 := blk_frozen Bg6.out 1
  have hxg7_0 : w22_.cell? ⟨g7, 0, none⟩ = some (.slice A8_0_ r3_0.length c8_0_) := (blk_cell Bg7.out 0).trans rfl
  have hxg7_1 : w22_.cell? ⟨g7, 1, none⟩ = some (.slice A8_1_ r3_1.length c8_1_) := (blk_cell Bg7.out 1).trans rfl
  have hfg7_0 := blk_frozen Bg7.out 0
  have hfg7_1 := blk_frozen Bg7.out 1
  have hxg9_0 : w22_.cell? ⟨g9, 0, none⟩ = some (.slice A12_0_ r5_0.length c12_0_) := (blk_cell Bg9.out 0).trans rfl
  have hxg9_1 : w22_.cell? ⟨g9, 1, none⟩ = some (.slice A12_1_ r5_1.length c12_1_) := (blk_cell Bg9.out 1).trans rfl
  have hfg9_0 := blk_frozen Bg9.out 0
  have hfg9_1 := blk_frozen Bg9.out 1
  clear hk hb0
  go_wp2_with (first | (go_at_call 34; refine hold ?_))
  unfold Hold
  refine (laws_eqQuery.calls ke7 _ _ r5_0 _ _ r5_1 _ _ r5_0 _ _ r5_1 true _ (Kd.R_reads' O12_0.out).2.2 (Kd.R_reads' O12_0.out).2.1 (Kd.S_reads' O12_1.out).2.2 (Kd.S_reads' O12_1.out).2.1 (Kd.R_reads' O5_0.out).2.2 (Kd.R_reads' O5_0.out).2.1 (Kd.S_reads' O5_1.out).2.2 (Kd.S_reads' O5_1.out).2.1 Ee7.out).mono ?_
  rintro e w23_ ⟨rfl, hb⟩
  have Z23_ := Aside0.mk (show w22_.heap.size ≤ w23_.heap.size from hb.size)
  have n_ := Aside0.mk (Kd.R_below O3_0.out hb); clear O3_0; have O3_0 := n_; clear n_
  have n_ := Aside0.mk (Kd.S_below O3_1.out hb); clear O3_1; have O3_1 := n_; clear n_
  have n_ := Aside0.mk (Kd.R_below O4_0.out hb); clear O4_0; have O4_0 := n_; clear n_
  have n_ := Aside0.mk (Kd.R_below O5_0.out hb); clear O5_0; have O5_0 := n_; clear n_
  have n_ := Aside0.mk (Kd.S_below O5_1.out hb); clear O5_1; have O5_1 := n_; clear n_
  have n_ := Aside0.mk (Kd.R_below O8_0.out hb); clear O8_0; have O8_0 := n_; clear n_
  have n_ := Aside0.mk (Kd.S_below O8_1.out hb); clear O8_1; have O8_1 := n_; clear n_
  have n_ := Aside0.mk (Kd.R_below O11_0.out hb); clear O11_0; have O11_0 := n_; clear n_
  have n_ := Aside0.mk (Kd.R_below O12_0.out hb); clear O12_0; have O12_0 := n_; clear n_
  have n_ := Aside0.mk (Kd.S_below O12_1.out hb); clear O12_1; have O12_1 := n_; clear n_
  have n_ := Aside0.mk (Kd.R_below O17_0.out hb); clear O17_0; have O17_0 := n_; clear n_
  have n_ := Aside0.mk (Kd.S_below O17_1.out hb); clear O17_1; have O17_1 := n_; clear n_
  have n_ := Aside0.mk (Kd.R_below O19_0.out hb); clear O19_0; have O19_0 := n_; clear n_
  have n_ := Aside0.mk (blk_below Bg1.out hb); clear Bg1; have Bg1 := n_; clear n_
  have n_ := Aside0.mk (blk_below Bg6.out hb); clear Bg6; have Bg6 := n_; clear n_
  have n_ := Aside0.mk (blk_below Bg7.out hb); clear Bg7; have Bg7 := n_; clear n_
  have n_ := Aside0.mk (blk_below Bg9.out hb); clear Bg9; have Bg9 := n_; clear n_
  have n_ := Aside0.mk (below_step HB.out hb); clear HB; have HB := n_; clear n_
  clear hxg1_0
  clear hxg1_1
  clear hfg1_0
  clear hfg1_1
  clear hxg6_0
  clear hxg6_1
  clear hfg6_0
  clear hfg6_1
  clear hxg7_0
  clear hxg7_1
  clear hfg7_0
  clear hfg7_1
  clear hxg9_0
  clear hxg9_1
  clear hfg9_0
  clear hfg9_1
  have hxg1_0 : w23_.cell? ⟨g1, 0, none⟩ = some (.slice A0_0 l0_0.length c0_0) := (blk_cell Bg1.out 0).trans rfl
  have hxg1_1 : w23_.cell? ⟨g1, 1, none⟩ = some (.slice A0_1 l0_1.length c0_1) := (blk_cell Bg1.out 1).trans rfl
  have hfg1_0 := blk_frozen Bg1.out 0
  have hfg1_1 := blk_frozen Bg1.out 1
  have hxg6_0 : w23_.cell? ⟨g6, 0, none⟩ = some (.slice A5_0_ r5_0.length c5_0_) := (blk_cell Bg6.out 0).trans rfl
  have hxg6_1 : w23_.cell? ⟨g6, 1, none⟩ = some (.slice A5_1_ r5_1.length c5_1_) := (blk_cell Bg6.out 1).trans rfl
  have hfg6_0 := blk_frozen Bg6.out 0
  have hfg6_1 := blk_frozen Bg6.out 1
  have hxg7_0 : w23_.cell? ⟨g7, 0, none⟩ = some (.slice A8_0_ r3_0.length c8_0_) := (blk_cell Bg7.out 0).trans rfl
  have hxg7_1 : w23_.cell? ⟨g7, 1, none⟩ = some (.slice A8_1_ r3_1.length c8_1_) := (blk_cell Bg7.out 1).trans rfl
  have hfg7_0 := blk_frozen Bg7.out 0
  have hfg7_1 := blk_frozen Bg7.out 1
  have hxg9_0 : w23_.cell? ⟨g9, 0, none⟩ = some (.slice A12_0_ r5_0.length c12_0_) := (blk_cell Bg9.out 0).trans rfl
  have hxg9_1 : w23_.cell? ⟨g9, 1, none⟩ = some (.slice A12_1_ r5_1.length c12_1_) := (blk_cell Bg9.out 1).trans rfl
  have hfg9_0 := blk_frozen Bg9.out 0
  have hfg9_1 := blk_frozen Bg9.out 1
  clear hb
  go_wp2_with (first | (go_at_call 44; refine hold ?_))
  unfold Hold
  refine (markQuery_calls (fun k_ => w11_.heap.size ≤ k_ ∧ k_ < w12_.heap.size) (.slice A12_0_ r5_0.length c12_0_) (.slice A12_1_ r5_1.length c12_1_) r5_0 r5_1 1 r13_0 r13_1 r13_2 w _ HB.out (Kd.R_mono O12_0.out (fun _ h_ => h_.1)) (Kd.S_mono O12_1.out (fun _ h_ => ⟨h_.1, h_.2⟩)) e13_hz0.out Ee13.out).mono ?_
  rintro e w24_ ⟨rfl, ho0, ho1, hb0, hk⟩
  have n_ := Aside0.mk (show Kd.R (Kd.int .i64) 3 w24_ w.heap.size (fun k_ => (w11_.heap.size ≤ k_ ∧ k_ < w12_.heap.size) ∧ True) (.slice A12_0_ r5_0.length c12_0_) r13_1 from Kd.R_mono (Kd.R_tight2 rfl ho0) (fun k_ hk_ => ⟨(O12_0.out.1 k_ hk_.1.symm).1, trivial⟩)); clear O12_0; have O12_0 := n_; clear n_
  have n_ := Aside0.mk (show Kd.S k97 97 w24_ w.heap.size (fun k_ => (w11_.heap.size ≤ k_ ∧ k_ < w12_.heap.size) ∧ some k_ ≠ (.slice A12_0_ r5_0.length c12_0_ : Value).ownBlock) (.slice A12_1_ r5_1.length c12_1_) r13_2 from Kd.S_mono ho1 (fun _ hk_ => ⟨hk_.1, hk_.2⟩)); clear O12_1; have O12_1 := n_; clear n_
  clear ho0
  clear ho1
  have Z24_ := Aside0.mk (show w23_.heap.size ≤ w24_.heap.size from hk.1)
  have n_ := Aside0.mk (Kd.R_kept O3_0.out hk (fun k_ hk1 hk2 => by obtain ⟨a1_, a2_⟩ := hk1.1; obtain ⟨b1_, b2_⟩ := hk2; have z4_ := Z4_.out; have z5_ := Z5_.out; have z6_ := Z6_.out; have z7_ := Z7_.out; have z8_ := Z8_.out; have z9_ := Z9_.out; have z10_ := Z10_.out; have z11_ := Z11_.out; omega)); clear O3_0; have O3_0 := n_; clear n_
  have n_ := Aside0.mk (Kd.S_kept O3_1.out hk (fun k_ hk1 hk2 => by obtain ⟨a1_, a2_⟩ := hk1.1; obtain ⟨b1_, b2_⟩ := hk2; have z4_ := Z4_.out; have z5_ := Z5_.out; have z6_ := Z6_.out; have z7_ := Z7_.out; have z8_ := Z8_.out; have z9_ := Z9_.out; have z10_ := Z10_.out; have z11_ := Z11_.out; omega)); clear O3_1; have O3_1 := n_; clear n_
  have n_ := Aside0.mk (Kd.R_kept O4_0.out hk (fun k_ hk1 hk2 => by obtain ⟨a1_, a2_⟩ := hk1.1; obtain ⟨b1_, b2_⟩ := hk2; have z5_ := Z5_.out; have z6_ := Z6_.out; have z7_ := Z7_.out; have z8_ := Z8_.out; have z9_ := Z9_.out; have z10_ := Z10_.out; have z11_ := Z11_.out; omega)); clear O4_0; have O4_0 := n_; clear n_
  have n_ := Aside0.mk (Kd.R_kept O5_0.out hk (fun k_ hk1 hk2 => by obtain ⟨a1_, a2_⟩ := hk1.1; obtain ⟨b1_, b2_⟩ := hk2; have z6_ := Z6_.out; have z7_ := Z7_.out; have z8_ := Z8_.out; have z9_ := Z9_.out; have z10_ := Z10_.out; have z11_ := Z11_.out; omega)); clear O5_0; have O5_0 := n_; clear n_
  have n_ := Aside0.mk (Kd.S_kept O5_1.out hk (fun k_ hk1 hk2 => by obtain ⟨a1_, a2_⟩ := hk1.1; obtain ⟨b1_, b2_⟩ := hk2; have z6_ := Z6_.out; have z7_ := Z7_.out; have z8_ := Z8_.out; have z9_ := Z9_.out; have z10_ := Z10_.out; have z11_ := Z11_.out; omega)); clear O5_1; have O5_1 := n_; clear n_
  have n_ := Aside0.mk (Kd.R_kept O8_0.out hk (fun k_ hk1 hk2 => by obtain ⟨a1_, a2_⟩ := hk1.1; obtain ⟨b1_, b2_⟩ := hk2; have z9_ := Z9_.out; have z10_ := Z10_.out; have z11_ := Z11_.out; omega)); clear O8_0; have O8_0 := n_; clear n_
  have n_ := Aside0.mk (Kd.S_kept O8_1.out hk (fun k_ hk1 hk2 => by obtain ⟨a1_, a2_⟩ := hk1.1; obtain ⟨b1_, b2_⟩ := hk2; have z9_ := Z9_.out; have z10_ := Z10_.out; have z11_ := Z11_.out; omega)); clear O8_1; have O8_1 := n_; clear n_
  have n_ := Aside0.mk (Kd.R_kept O11_0.out hk (fun k_ hk1 hk2 => by obtain ⟨a1_, a2_⟩ := hk1.1; obtain ⟨b1_, b2_⟩ := hk2; omega)); clear O11_0; have O11_0 := n_; clear n_
  have n_ := Aside0.mk (Kd.R_kept O17_0.out hk (fun k_ hk1 hk2 => by obtain ⟨a1_, a2_⟩ := hk1.1; obtain ⟨b1_, b2_⟩ := hk2; have z13_ := Z13_.out; have z14_ := Z14_.out; have z15_ := Z15_.out; have z16_ := Z16_.out; omega)); clear O17_0; have O17_0 := n_; clear n_
  have n_ := Aside0.mk (Kd.S_kept O17_1.out hk (fun k_ hk1 hk2 => by obtain ⟨a1_, a2_⟩ := hk1.1; obtain ⟨b1_, b2_⟩ := hk2; have z13_ := Z13_.out; have z14_ := Z14_.out; have z15_ := Z15_.out; have z16_ := Z16_.out; omega)); clear O17_1; have O17_1 := n_; clear n_
  have n_ := Aside0.mk (Kd.R_kept O19_0.out hk (fun k_ hk1 hk2 => by obtain ⟨a1_, a2_⟩ := hk1.1; obtain ⟨b1_, b2_⟩ := hk2; have z13_ := Z13_.out; have z14_ := Z14_.out; have z15_ := Z15_.out; have z16_ := Z16_.out; have z17_ := Z17_.out; have z18_ := Z18_.out; omega)); clear O19_0; have O19_0 := n_; clear n_
  have n_ := Aside0.mk (blk_kept Bg1.out hk (fun hk2 => by obtain ⟨a1_, a2_⟩ := Gg1.out; obtain ⟨b1_, b2_⟩ := hk2; have z2_ := Z2_.out; have z3_ := Z3_.out; have z4_ := Z4_.out; have z5_ := Z5_.out; have z6_ := Z6_.out; have z7_ := Z7_.out; have z8_ := Z8_.out; have z9_ := Z9_.out; have z10_ := Z10_.out; have z11_ := Z11_.out; omega)); clear Bg1; have Bg1 := n_; clear n_
  have n_ := Aside0.mk (blk_kept Bg6.out hk (fun hk2 => by obtain ⟨a1_, a2_⟩ := Gg6.out; obtain ⟨b1_, b2_⟩ := hk2; have z7_ := Z7_.out; have z8_ := Z8_.out; have z9_ := Z9_.out; have z10_ := Z10_.out; have z11_ := Z11_.out; omega)); clear Bg6; have Bg6 := n_; clear n_
  have n_ := Aside0.mk (blk_kept Bg7.out hk (fun hk2 => by obtain ⟨a1_, a2_⟩ := Gg7.out; obtain ⟨b1_, b2_⟩ := hk2; have z10_ := Z10_.out; have z11_ := Z11_.out; omega)); clear Bg7; have Bg7 := n_; clear n_
  have n_ := Aside0.mk (blk_kept Bg9.out hk (fun hk2 => by obtain ⟨a1_, a2_⟩ := Gg9.out; obtain ⟨b1_, b2_⟩ := hk2; omega)); clear Bg9; have Bg9 := n_; clear n_
  clear HB; have HB := Aside0.mk hb0
  clear hxg1_0
  clear hxg1_1
  clear hfg1_0
  clear hfg1_1
  clear hxg6_0
  clear hxg6_1
  clear hfg6_0
  clear hfg6_1
  clear hxg7_0
  clear hxg7_1
  clear hfg7_0
  clear hfg7_1
  clear hxg9_0
  clear hxg9_1
  clear hfg9_0
  clear hfg9_1
  have hxg1_0 : w24_.cell? ⟨g1, 0, none⟩ = some (.slice A0_0 l0_0.length c0_0) := (blk_cell Bg1.out 0).trans rfl
  have hxg1_1 : w24_.cell? ⟨g1, 1, none⟩ = some (.slice A0_1 l0_1.length c0_1) := (blk_cell Bg1.out 1).trans rfl
  have hfg1_0 := blk_frozen Bg1.out 0
  have hfg1_1 := blk_frozen Bg1.out 1
  have hxg6_0 : w24_.cell? ⟨g6, 0, none⟩ = some (.slice A5_0_ r5_0.length c5_0_) := (blk_cell Bg6.out 0).trans rfl
  have hxg6_1 : w24_.cell? ⟨g6, 1, none⟩ = some (.slice A5_1_ r5_1.length c5_1_) := (blk_cell Bg6.out 1).trans rfl
  have hfg6_0 := blk_frozen Bg6.out 0
  have hfg6_1 := blk_frozen Bg6.out 1
  have hxg7_0 : w24_.cell? ⟨g7, 0, none⟩ = some (.slice A8_0_ r3_0.length c8_0_) := (blk_cell Bg7.out 0).trans rfl
  have hxg7_1 : w24_.cell? ⟨g7, 1, none⟩ = some (.slice A8_1_ r3_1.length c8_1_) := (blk_cell Bg7.out 1).trans rfl
  have hfg7_0 := blk_frozen Bg7.out 0
  have hfg7_1 := blk_frozen Bg7.out 1
  have hxg9_0 : w24_.cell? ⟨g9, 0, none⟩ = some (.slice A12_0_ r5_0.length c12_0_) := (blk_cell Bg9.out 0).trans rfl
  have hxg9_1 : w24_.cell? ⟨g9, 1, none⟩ = some (.slice A12_1_ r5_1.length c12_1_) := (blk_cell Bg9.out 1).trans rfl
  have hfg9_0 := blk_frozen Bg9.out 0
  have hfg9_1 := blk_frozen Bg9.out 1
  clear hk hb0
  go_wp2_with (first | (go_at_call 46; refine hold ?_))
  unfold Hold
  refine calls_of_args (args' := #[.agg #[.slice A12_0_ r13_1.length c12_0_, .slice A12_1_ r13_2.length c12_1_], .int .i64 1]) (by rw [show r5_0.length = r13_1.length from (Kd.R_reads' O12_0.out).1, show r5_1.length = r13_2.length from (Kd.S_reads' O12_1.out).1]) ?_
  refine (laws_heldQuery.calls ke14 _ _ r13_1 _ _ r13_2 1 r13_0 _ (Kd.R_reads' O12_0.out).2.2 (Nat.le_trans (Nat.le_of_eq (Kd.R_reads' O12_0.out).1.symm) (Kd.R_reads' O12_0.out).2.1) (Kd.S_reads' O12_1.out).2.2 (Nat.le_trans (Nat.le_of_eq (Kd.S_reads' O12_1.out).1.symm) (Kd.S_reads' O12_1.out).2.1) Ee14.out).mono ?_
  rintro e w25_ ⟨rfl, hb⟩
  have Z25_ := Aside0.mk (show w24_.heap.size ≤ w25_.heap.size from hb.size)
  have n_ := Aside0.mk (Kd.R_below O3_0.out hb); clear O3_0; have O3_0 := n_; clear n_
  have n_ := Aside0.mk (Kd.S_below O3_1.out hb); clear O3_1; have O3_1 := n_; clear n_
  have n_ := Aside0.mk (Kd.R_below O4_0.out hb); clear O4_0; have O4_0 := n_; clear n_
  have n_ := Aside0.mk (Kd.R_below O5_0.out hb); clear O5_0; have O5_0 := n_; clear n_
  have n_ := Aside0.mk (Kd.S_below O5_1.out hb); clear O5_1; have O5_1 := n_; clear n_
  have n_ := Aside0.mk (Kd.R_below O8_0.out hb); clear O8_0; have O8_0 := n_; clear n_
  have n_ := Aside0.mk (Kd.S_below O8_1.out hb); clear O8_1; have O8_1 := n_; clear n_
  have n_ := Aside0.mk (Kd.R_below O11_0.out hb); clear O11_0; have O11_0 := n_; clear n_
  have n_ := Aside0.mk (Kd.R_below O12_0.out hb); clear O12_0; have O12_0 := n_; clear n_
  have n_ := Aside0.mk (Kd.S_below O12_1.out hb); clear O12_1; have O12_1 := n_; clear n_
  have n_ := Aside0.mk (Kd.R_below O17_0.out hb); clear O17_0; have O17_0 := n_; clear n_
  have n_ := Aside0.mk (Kd.S_below O17_1.out hb); clear O17_1; have O17_1 := n_; clear n_
  have n_ := Aside0.mk (Kd.R_below O19_0.out hb); clear O19_0; have O19_0 := n_; clear n_
  have n_ := Aside0.mk (blk_below Bg1.out hb); clear Bg1; have Bg1 := n_; clear n_
  have n_ := Aside0.mk (blk_below Bg6.out hb); clear Bg6; have Bg6 := n_; clear n_
  have n_ := Aside0.mk (blk_below Bg7.out hb); clear Bg7; have Bg7 := n_; clear n_
  have n_ := Aside0.mk (blk_below Bg9.out hb); clear Bg9; have Bg9 := n_; clear n_
  have n_ := Aside0.mk (below_step HB.out hb); clear HB; have HB := n_; clear n_
  clear hxg1_0
  clear hxg1_1
  clear hfg1_0
  clear hfg1_1
  clear hxg6_0
  clear hxg6_1
  clear hfg6_0
  clear hfg6_1
  clear hxg7_0
  clear hxg7_1
  clear hfg7_0
  clear hfg7_1
  clear hxg9_0
  clear hxg9_1
  clear hfg9_0
  clear hfg9_1
  have hxg1_0 : w25_.cell? ⟨g1, 0, none⟩ = some (.slice A0_0 l0_0.length c0_0) := (blk_cell Bg1.out 0).trans rfl
  have hxg1_1 : w25_.cell? ⟨g1, 1, none⟩ = some (.slice A0_1 l0_1.length c0_1) := (blk_cell Bg1.out 1).trans rfl
  have hfg1_0 := blk_frozen Bg1.out 0
  have hfg1_1 := blk_frozen Bg1.out 1
  have hxg6_0 : w25_.cell? ⟨g6, 0, none⟩ = some (.slice A5_0_ r5_0.length c5_0_) := (blk_cell Bg6.out 0).trans rfl
  have hxg6_1 : w25_.cell? ⟨g6, 1, none⟩ = some (.slice A5_1_ r5_1.length c5_1_) := (blk_cell Bg6.out 1).trans rfl
  have hfg6_0 := blk_frozen Bg6.out 0
  have hfg6_1 := blk_frozen Bg6.out 1
  have hxg7_0 : w25_.cell? ⟨g7, 0, none⟩ = some (.slice A8_0_ r3_0.length c8_0_) := (blk_cell Bg7.out 0).trans rfl
  have hxg7_1 : w25_.cell? ⟨g7, 1, none⟩ = some (.slice A8_1_ r3_1.length c8_1_) := (blk_cell Bg7.out 1).trans rfl
  have hfg7_0 := blk_frozen Bg7.out 0
  have hfg7_1 := blk_frozen Bg7.out 1
  have hxg9_0 : w25_.cell? ⟨g9, 0, none⟩ = some (.slice A12_0_ r5_0.length c12_0_) := (blk_cell Bg9.out 0).trans rfl
  have hxg9_1 : w25_.cell? ⟨g9, 1, none⟩ = some (.slice A12_1_ r5_1.length c12_1_) := (blk_cell Bg9.out 1).trans rfl
  have hfg9_0 := blk_frozen Bg9.out 0
  have hfg9_1 := blk_frozen Bg9.out 1
  clear hb
  go_wp2_with (first | (go_at_call 32; refine hold ?_))
  unfold Hold
  refine (laws_toQuery.calls ke3 _ _ l0_0 _ _ l0_1 r3_0 r3_1 _ (Kd.C_below H0_0.out HB.out) HC0_0.out (Kd.C_below H0_1.out HB.out) HC0_1.out Ee3.out).mono ?_
  rintro e w26_ ⟨v26_0_, v26_1_, rfl, ho0, ho1, hb⟩
  have O26_0 := Aside0.mk (newR ho0 HB.out.size)
  have O26_1 := Aside0.mk (newS ho1 HB.out.size)
  have Z26_ := Aside0.mk (show w25_.heap.size ≤ w26_.heap.size from hb.size)
  have n_ := Aside0.mk (Kd.R_below O3_0.out hb); clear O3_0; have O3_0 := n_; clear n_
  have n_ := Aside0.mk (Kd.S_below O3_1.out hb); clear O3_1; have O3_1 := n_; clear n_
  have n_ := Aside0.mk (Kd.R_below O4_0.out hb); clear O4_0; have O4_0 := n_; clear n_
  have n_ := Aside0.mk (Kd.R_below O5_0.out hb); clear O5_0; have O5_0 := n_; clear n_
  have n_ := Aside0.mk (Kd.S_below O5_1.out hb); clear O5_1; have O5_1 := n_; clear n_
  have n_ := Aside0.mk (Kd.R_below O8_0.out hb); clear O8_0; have O8_0 := n_; clear n_
  have n_ := Aside0.mk (Kd.S_below O8_1.out hb); clear O8_1; have O8_1 := n_; clear n_
  have n_ := Aside0.mk (Kd.R_below O11_0.out hb); clear O11_0; have O11_0 := n_; clear n_
  have n_ := Aside0.mk (Kd.R_below O12_0.out hb); clear O12_0; have O12_0 := n_; clear n_
  have n_ := Aside0.mk (Kd.S_below O12_1.out hb); clear O12_1; have O12_1 := n_; clear n_
  have n_ := Aside0.mk (Kd.R_below O17_0.out hb); clear O17_0; have O17_0 := n_; clear n_
  have n_ := Aside0.mk (Kd.S_below O17_1.out hb); clear O17_1; have O17_1 := n_; clear n_
  have n_ := Aside0.mk (Kd.R_below O19_0.out hb); clear O19_0; have O19_0 := n_; clear n_
  have n_ := Aside0.mk (blk_below Bg1.out hb); clear Bg1; have Bg1 := n_; clear n_
  have n_ := Aside0.mk (blk_below Bg6.out hb); clear Bg6; have Bg6 := n_; clear n_
  have n_ := Aside0.mk (blk_below Bg7.out hb); clear Bg7; have Bg7 := n_; clear n_
  have n_ := Aside0.mk (blk_below Bg9.out hb); clear Bg9; have Bg9 := n_; clear n_
  have n_ := Aside0.mk (below_step HB.out hb); clear HB; have HB := n_; clear n_
  clear hxg1_0
  clear hxg1_1
  clear hfg1_0
  clear hfg1_1
  clear hxg6_0
  clear hxg6_1
  clear hfg6_0
  clear hfg6_1
  clear hxg7_0
  clear hxg7_1
  clear hfg7_0
  clear hfg7_1
  clear hxg9_0
  clear hxg9_1
  clear hfg9_0
  clear hfg9_1
  have hxg1_0 : w26_.cell? ⟨g1, 0, none⟩ = some (.slice A0_0 l0_0.length c0_0) := (blk_cell Bg1.out 0).trans rfl
  have hxg1_1 : w26_.cell? ⟨g1, 1, none⟩ = some (.slice A0_1 l0_1.length c0_1) := (blk_cell Bg1.out 1).trans rfl
  have hfg1_0 := blk_frozen Bg1.out 0
  have hfg1_1 := blk_frozen Bg1.out 1
  have hxg6_0 : w26_.cell? ⟨g6, 0, none⟩ = some (.slice A5_0_ r5_0.length c5_0_) := (blk_cell Bg6.out 0).trans rfl
  have hxg6_1 : w26_.cell? ⟨g6, 1, none⟩ = some (.slice A5_1_ r5_1.length c5_1_) := (blk_cell Bg6.out 1).trans rfl
  have hfg6_0 := blk_frozen Bg6.out 0
  have hfg6_1 := blk_frozen Bg6.out 1
  have hxg7_0 : w26_.cell? ⟨g7, 0, none⟩ = some (.slice A8_0_ r3_0.length c8_0_) := (blk_cell Bg7.out 0).trans rfl
  have hxg7_1 : w26_.cell? ⟨g7, 1, none⟩ = some (.slice A8_1_ r3_1.length c8_1_) := (blk_cell Bg7.out 1).trans rfl
  have hfg7_0 := blk_frozen Bg7.out 0
  have hfg7_1 := blk_frozen Bg7.out 1
  have hxg9_0 : w26_.cell? ⟨g9, 0, none⟩ = some (.slice A12_0_ r5_0.length c12_0_) := (blk_cell Bg9.out 0).trans rfl
  have hxg9_1 : w26_.cell? ⟨g9, 1, none⟩ = some (.slice A12_1_ r5_1.length c12_1_) := (blk_cell Bg9.out 1).trans rfl
  have hfg9_0 := blk_frozen Bg9.out 0
  have hfg9_1 := blk_frozen Bg9.out 1
  clear hb ho0 ho1
  obtain ⟨A26_0_, c26_0_, eq_⟩ := Kd.R_slice O26_0.out
  subst eq_
  obtain ⟨A26_1_, c26_1_, eq_⟩ := Kd.S_slice O26_1.out
  subst eq_
  go_wp2_with (first | (go_at_call 41; refine hold ?_))
  unfold Hold
  refine (laws_toIntS.calls ke4 _ _ l1 r4_0 _ (Kd.C_below H1.out HB.out) HC1.out Ee4.out).mono ?_
  rintro e w27_ ⟨v27_0_, rfl, ho0, hb⟩
  have O27_0 := Aside0.mk (newR ho0 HB.out.size)
  have Z27_ := Aside0.mk (show w26_.heap.size ≤ w27_.heap.size from hb.size)
  have n_ := Aside0.mk (Kd.R_below O3_0.out hb); clear O3_0; have O3_0 := n_; clear n_
  have n_ := Aside0.mk (Kd.S_below O3_1.out hb); clear O3_1; have O3_1 := n_; clear n_
  have n_ := Aside0.mk (Kd.R_below O4_0.out hb); clear O4_0; have O4_0 := n_; clear n_
  have n_ := Aside0.mk (Kd.R_below O5_0.out hb); clear O5_0; have O5_0 := n_; clear n_
  have n_ := Aside0.mk (Kd.S_below O5_1.out hb); clear O5_1; have O5_1 := n_; clear n_
  have n_ := Aside0.mk (Kd.R_below O8_0.out hb); clear O8_0; have O8_0 := n_; clear n_
  have n_ := Aside0.mk (Kd.S_below O8_1.out hb); clear O8_1; have O8_1 := n_; clear n_
  have n_ := Aside0.mk (Kd.R_below O11_0.out hb); clear O11_0; have O11_0 := n_; clear n_
  have n_ := Aside0.mk (Kd.R_below O12_0.out hb); clear O12_0; have O12_0 := n_; clear n_
  have n_ := Aside0.mk (Kd.S_below O12_1.out hb); clear O12_1; have O12_1 := n_; clear n_
  have n_ := Aside0.mk (Kd.R_below O17_0.out hb); clear O17_0; have O17_0 := n_; clear n_
  have n_ := Aside0.mk (Kd.S_below O17_1.out hb); clear O17_1; have O17_1 := n_; clear n_
  have n_ := Aside0.mk (Kd.R_below O19_0.out hb); clear O19_0; have O19_0 := n_; clear n_
  have n_ := Aside0.mk (Kd.R_below O26_0.out hb); clear O26_0; have O26_0 := n_; clear n_
  have n_ := Aside0.mk (Kd.S_below O26_1.out hb); clear O26_1; have O26_1 := n_; clear n_
  have n_ := Aside0.mk (blk_below Bg1.out hb); clear Bg1; have Bg1 := n_; clear n_
  have n_ := Aside0.mk (blk_below Bg6.out hb); clear Bg6; have Bg6 := n_; clear n_
  have n_ := Aside0.mk (blk_below Bg7.out hb); clear Bg7; have Bg7 := n_; clear n_
  have n_ := Aside0.mk (blk_below Bg9.out hb); clear Bg9; have Bg9 := n_; clear n_
  have n_ := Aside0.mk (below_step HB.out hb); clear HB; have HB := n_; clear n_
  clear hxg1_0
  clear hxg1_1
  clear hfg1_0
  clear hfg1_1
  clear hxg6_0
  clear hxg6_1
  clear hfg6_0
  clear hfg6_1
  clear hxg7_0
  clear hxg7_1
  clear hfg7_0
  clear hfg7_1
  clear hxg9_0
  clear hxg9_1
  clear hfg9_0
  clear hfg9_1
  have hxg1_0 : w27_.cell? ⟨g1, 0, none⟩ = some (.slice A0_0 l0_0.length c0_0) := (blk_cell Bg1.out 0).trans rfl
  have hxg1_1 : w27_.cell? ⟨g1, 1, none⟩ = some (.slice A0_1 l0_1.length c0_1) := (blk_cell Bg1.out 1).trans rfl
  have hfg1_0 := blk_frozen Bg1.out 0
  have hfg1_1 := blk_frozen Bg1.out 1
  have hxg6_0 : w27_.cell? ⟨g6, 0, none⟩ = some (.slice A5_0_ r5_0.length c5_0_) := (blk_cell Bg6.out 0).trans rfl
  have hxg6_1 : w27_.cell? ⟨g6, 1, none⟩ = some (.slice A5_1_ r5_1.length c5_1_) := (blk_cell Bg6.out 1).trans rfl
  have hfg6_0 := blk_frozen Bg6.out 0
  have hfg6_1 := blk_frozen Bg6.out 1
  have hxg7_0 : w27_.cell? ⟨g7, 0, none⟩ = some (.slice A8_0_ r3_0.length c8_0_) := (blk_cell Bg7.out 0).trans rfl
  have hxg7_1 : w27_.cell? ⟨g7, 1, none⟩ = some (.slice A8_1_ r3_1.length c8_1_) := (blk_cell Bg7.out 1).trans rfl
  have hfg7_0 := blk_frozen Bg7.out 0
  have hfg7_1 := blk_frozen Bg7.out 1
  have hxg9_0 : w27_.cell? ⟨g9, 0, none⟩ = some (.slice A12_0_ r5_0.length c12_0_) := (blk_cell Bg9.out 0).trans rfl
  have hxg9_1 : w27_.cell? ⟨g9, 1, none⟩ = some (.slice A12_1_ r5_1.length c12_1_) := (blk_cell Bg9.out 1).trans rfl
  have hfg9_0 := blk_frozen Bg9.out 0
  have hfg9_1 := blk_frozen Bg9.out 1
  clear hb ho0
  obtain ⟨A27_0_, c27_0_, eq_⟩ := Kd.R_slice O27_0.out
  subst eq_
  go_wp2_with (first | (go_at_call 42; refine hold ?_))
  unfold Hold
  refine (impl_RenameQuery_calls _ _ r3_0 _ _ r3_1 _ _ r4_0 r5_0 r5_1 _ (Kd.R_reads' O26_0.out).2.2 (Kd.R_reads' O26_0.out).2.1 (Kd.S_reads' O26_1.out).2.2 (Kd.S_reads' O26_1.out).2.1 (Kd.R_reads' O27_0.out).2.2 (Kd.R_reads' O27_0.out).2.1 e6_hz0.out Ee6.out).mono ?_
  rintro e w28_ ⟨v28_0_, v28_1_, rfl, ho0, ho1, hb⟩
  have O28_0 := Aside0.mk (newR ho0 HB.out.size)
  have O28_1 := Aside0.mk (newS ho1 HB.out.size)
  have Z28_ := Aside0.mk (show w27_.heap.size ≤ w28_.heap.size from hb.size)
  have n_ := Aside0.mk (Kd.R_below O3_0.out hb); clear O3_0; have O3_0 := n_; clear n_
  have n_ := Aside0.mk (Kd.S_below O3_1.out hb); clear O3_1; have O3_1 := n_; clear n_
  have n_ := Aside0.mk (Kd.R_below O4_0.out hb); clear O4_0; have O4_0 := n_; clear n_
  have n_ := Aside0.mk (Kd.R_below O5_0.out hb); clear O5_0; have O5_0 := n_; clear n_
  have n_ := Aside0.mk (Kd.S_below O5_1.out hb); clear O5_1; have O5_1 := n_; clear n_
  have n_ := Aside0.mk (Kd.R_below O8_0.out hb); clear O8_0; have O8_0 := n_; clear n_
  have n_ := Aside0.mk (Kd.S_below O8_1.out hb); clear O8_1; have O8_1 := n_; clear n_
  have n_ := Aside0.mk (Kd.R_below O11_0.out hb); clear O11_0; have O11_0 := n_; clear n_
  have n_ := Aside0.mk (Kd.R_below O12_0.out hb); clear O12_0; have O12_0 := n_; clear n_
  have n_ := Aside0.mk (Kd.S_below O12_1.out hb); clear O12_1; have O12_1 := n_; clear n_
  have n_ := Aside0.mk (Kd.R_below O17_0.out hb); clear O17_0; have O17_0 := n_; clear n_
  have n_ := Aside0.mk (Kd.S_below O17_1.out hb); clear O17_1; have O17_1 := n_; clear n_
  have n_ := Aside0.mk (Kd.R_below O19_0.out hb); clear O19_0; have O19_0 := n_; clear n_
  have n_ := Aside0.mk (Kd.R_below O26_0.out hb); clear O26_0; have O26_0 := n_; clear n_
  have n_ := Aside0.mk (Kd.S_below O26_1.out hb); clear O26_1; have O26_1 := n_; clear n_
  have n_ := Aside0.mk (Kd.R_below O27_0.out hb); clear O27_0; have O27_0 := n_; clear n_
  have n_ := Aside0.mk (blk_below Bg1.out hb); clear Bg1; have Bg1 := n_; clear n_
  have n_ := Aside0.mk (blk_below Bg6.out hb); clear Bg6; have Bg6 := n_; clear n_
  have n_ := Aside0.mk (blk_below Bg7.out hb); clear Bg7; have Bg7 := n_; clear n_
  have n_ := Aside0.mk (blk_below Bg9.out hb); clear Bg9; have Bg9 := n_; clear n_
  have n_ := Aside0.mk (below_step HB.out hb); clear HB; have HB := n_; clear n_
  clear hxg1_0
  clear hxg1_1
  clear hfg1_0
  clear hfg1_1
  clear hxg6_0
  clear hxg6_1
  clear hfg6_0
  clear hfg6_1
  clear hxg7_0
  clear hxg7_1
  clear hfg7_0
  clear hfg7_1
  clear hxg9_0
  clear hxg9_1
  clear hfg9_0
  clear hfg9_1
  have hxg1_0 : w28_.cell? ⟨g1, 0, none⟩ = some (.slice A0_0 l0_0.length c0_0) := (blk_cell Bg1.out 0).trans rfl
  have hxg1_1 : w28_.cell? ⟨g1, 1, none⟩ = some (.slice A0_1 l0_1.length c0_1) := (blk_cell Bg1.out 1).trans rfl
  have hfg1_0 := blk_frozen Bg1.out 0
  have hfg1_1 := blk_frozen Bg1.out 1
  have hxg6_0 : w28_.cell? ⟨g6, 0, none⟩ = some (.slice A5_0_ r5_0.length c5_0_) := (blk_cell Bg6.out 0).trans rfl
  have hxg6_1 : w28_.cell? ⟨g6, 1, none⟩ = some (.slice A5_1_ r5_1.length c5_1_) := (blk_cell Bg6.out 1).trans rfl
  have hfg6_0 := blk_frozen Bg6.out 0
  have hfg6_1 := blk_frozen Bg6.out 1
  have hxg7_0 : w28_.cell? ⟨g7, 0, none⟩ = some (.slice A8_0_ r3_0.length c8_0_) := (blk_cell Bg7.out 0).trans rfl
  have hxg7_1 : w28_.cell? ⟨g7, 1, none⟩ = some (.slice A8_1_ r3_1.length c8_1_) := (blk_cell Bg7.out 1).trans rfl
  have hfg7_0 := blk_frozen Bg7.out 0
  have hfg7_1 := blk_frozen Bg7.out 1
  have hxg9_0 : w28_.cell? ⟨g9, 0, none⟩ = some (.slice A12_0_ r5_0.length c12_0_) := (blk_cell Bg9.out 0).trans rfl
  have hxg9_1 : w28_.cell? ⟨g9, 1, none⟩ = some (.slice A12_1_ r5_1.length c12_1_) := (blk_cell Bg9.out 1).trans rfl
  have hfg9_0 := blk_frozen Bg9.out 0
  have hfg9_1 := blk_frozen Bg9.out 1
  clear hb ho0 ho1
  obtain ⟨A28_0_, c28_0_, eq_⟩ := Kd.R_slice O28_0.out
  subst eq_
  obtain ⟨A28_1_, c28_1_, eq_⟩ := Kd.S_slice O28_1.out
  subst eq_
  go_wp2_with (first | ((with_reducible refine gate_dst (N := 13) rfl ?_); refine hold ?_))
  unfold Hold
  refine box_event ?hg (N := 13) ?hd (cs := #[.slice none 0 0, .slice none 0 0]) (t := 46) ?hr ?_
  case hd => rfl
  case hg => rfl
  case hr => first | (go_simp; done) | (go_simp; rfl)
  intro g17 hg w29_ hbox hb
  have Bg17 := Aside0.mk hbox
  have Gg17 := Aside0.mk (show w28_.heap.size ≤ g17 ∧ g17 < w29_.heap.size from ⟨by rw [hg]; exact Nat.le_refl _, blk_lt hbox⟩)
  clear hbox hg
  have Z29_ := Aside0.mk (show w28_.heap.size ≤ w29_.heap.size from hb.size)
  have n_ := Aside0.mk (Kd.R_below O3_0.out hb); clear O3_0; have O3_0 := n_; clear n_
  have n_ := Aside0.mk (Kd.S_below O3_1.out hb); clear O3_1; have O3_1 := n_; clear n_
  have n_ := Aside0.mk (Kd.R_below O4_0.out hb); clear O4_0; have O4_0 := n_; clear n_
  have n_ := Aside0.mk (Kd.R_below O5_0.out hb); clear O5_0; have O5_0 := n_; clear n_
  have n_ := Aside0.mk (Kd.S_below O5_1.out hb); clear O5_1; have O5_1 := n_; clear n_
  have n_ := Aside0.mk (Kd.R_below O8_0.out hb); clear O8_0; have O8_0 := n_; clear n_
  have n_ := Aside0.mk (Kd.S_below O8_1.out hb); clear O8_1; have O8_1 := n_; clear n_
  have n_ := Aside0.mk (Kd.R_below O11_0.out hb); clear O11_0; have O11_0 := n_; clear n_
  have n_ := Aside0.mk (Kd.R_below O12_0.out hb); clear O12_0; have O12_0 := n_; clear n_
  have n_ := Aside0.mk (Kd.S_below O12_1.out hb); clear O12_1; have O12_1 := n_; clear n_
  have n_ := Aside0.mk (Kd.R_below O17_0.out hb); clear O17_0; have O17_0 := n_; clear n_
  have n_ := Aside0.mk (Kd.S_below O17_1.out hb); clear O17_1; have O17_1 := n_; clear n_
  have n_ := Aside0.mk (Kd.R_below O19_0.out hb); clear O19_0; have O19_0 := n_; clear n_
  have n_ := Aside0.mk (Kd.R_below O26_0.out hb); clear O26_0; have O26_0 := n_; clear n_
  have n_ := Aside0.mk (Kd.S_below O26_1.out hb); clear O26_1; have O26_1 := n_; clear n_
  have n_ := Aside0.mk (Kd.R_below O27_0.out hb); clear O27_0; have O27_0 := n_; clear n_
  have n_ := Aside0.mk (Kd.R_below O28_0.out hb); clear O28_0; have O28_0 := n_; clear n_
  have n_ := Aside0.mk (Kd.S_below O28_1.out hb); clear O28_1; have O28_1 := n_; clear n_
  have n_ := Aside0.mk (blk_below Bg1.out hb); clear Bg1; have Bg1 := n_; clear n_
  have n_ := Aside0.mk (blk_below Bg6.out hb); clear Bg6; have Bg6 := n_; clear n_
  have n_ := Aside0.mk (blk_below Bg7.out hb); clear Bg7; have Bg7 := n_; clear n_
  have n_ := Aside0.mk (blk_below Bg9.out hb); clear Bg9; have Bg9 := n_; clear n_
  have n_ := Aside0.mk (below_step HB.out hb); clear HB; have HB := n_; clear n_
  clear hxg1_0
  clear hxg1_1
  clear hfg1_0
  clear hfg1_1
  clear hxg6_0
  clear hxg6_1
  clear hfg6_0
  clear hfg6_1
  clear hxg7_0
  clear hxg7_1
  clear hfg7_0
  clear hfg7_1
  clear hxg9_0
  clear hxg9_1
  clear hfg9_0
  clear hfg9_1
  have hxg1_0 : w29_.cell? ⟨g1, 0, none⟩ = some (.slice A0_0 l0_0.length c0_0) := (blk_cell Bg1.out 0).trans rfl
  have hxg1_1 : w29_.cell? ⟨g1, 1, none⟩ = some (.slice A0_1 l0_1.length c0_1) := (blk_cell Bg1.out 1).trans rfl
  have hfg1_0 := blk_frozen Bg1.out 0
  have hfg1_1 := blk_frozen Bg1.out 1
  have hxg6_0 : w29_.cell? ⟨g6, 0, none⟩ = some (.slice A5_0_ r5_0.length c5_0_) := (blk_cell Bg6.out 0).trans rfl
  have hxg6_1 : w29_.cell? ⟨g6, 1, none⟩ = some (.slice A5_1_ r5_1.length c5_1_) := (blk_cell Bg6.out 1).trans rfl
  have hfg6_0 := blk_frozen Bg6.out 0
  have hfg6_1 := blk_frozen Bg6.out 1
  have hxg7_0 : w29_.cell? ⟨g7, 0, none⟩ = some (.slice A8_0_ r3_0.length c8_0_) := (blk_cell Bg7.out 0).trans rfl
  have hxg7_1 : w29_.cell? ⟨g7, 1, none⟩ = some (.slice A8_1_ r3_1.length c8_1_) := (blk_cell Bg7.out 1).trans rfl
  have hfg7_0 := blk_frozen Bg7.out 0
  have hfg7_1 := blk_frozen Bg7.out 1
  have hxg9_0 : w29_.cell? ⟨g9, 0, none⟩ = some (.slice A12_0_ r5_0.length c12_0_) := (blk_cell Bg9.out 0).trans rfl
  have hxg9_1 : w29_.cell? ⟨g9, 1, none⟩ = some (.slice A12_1_ r5_1.length c12_1_) := (blk_cell Bg9.out 1).trans rfl
  have hfg9_0 := blk_frozen Bg9.out 0
  have hfg9_1 := blk_frozen Bg9.out 1
  have hxg17_0 : w29_.cell? ⟨g17, 0, none⟩ = some (.slice none 0 0) := (blk_cell Bg17.out 0).trans rfl
  have hxg17_1 : w29_.cell? ⟨g17, 1, none⟩ = some (.slice none 0 0) := (blk_cell Bg17.out 1).trans rfl
  have hfg17_0 := blk_frozen Bg17.out 0
  have hfg17_1 := blk_frozen Bg17.out 1
  clear hb
  go_wp2_with (first | ((with_reducible refine gate_store (t := 46) (p := 13) rfl ?_); refine hold ?_))
  unfold Hold
  refine store_event (t := 46) (p := 13) (v := ?vo29) (w1 := ((w29_.setCell ⟨g17, 0, none⟩ (.slice A28_0_ r5_0.length c28_0_)).setCell ⟨g17, 1, none⟩ (.slice A28_1_ r5_1.length c28_1_))) ?hg ?ho ?hn ?hr ?_
  case ho => rfl
  case hg => rfl
  case hn => rfl
  case hr => first | (go_simp; done) | (go_simp; rfl)
  intro w30_ hw
  have hk : Kept w29_ w30_ (fun k => k = g17) := by rw [hw]; exact kept_two _ _
  have hb0 : Below w.heap.size w w30_ := by rw [hw]; exact (below_set (below_set HB.out (Nat.le_trans (by have z1_ := Z1_.out; have z2_ := Z2_.out; have z3_ := Z3_.out; have z4_ := Z4_.out; have z5_ := Z5_.out; have z6_ := Z6_.out; have z7_ := Z7_.out; have z8_ := Z8_.out; have z9_ := Z9_.out; have z10_ := Z10_.out; have z11_ := Z11_.out; have z12_ := Z12_.out; have z13_ := Z13_.out; have z14_ := Z14_.out; have z15_ := Z15_.out; have z16_ := Z16_.out; have z17_ := Z17_.out; have z18_ := Z18_.out; have z19_ := Z19_.out; have z20_ := Z20_.out; have z21_ := Z21_.out; have z22_ := Z22_.out; have z23_ := Z23_.out; have z24_ := Z24_.out; have z25_ := Z25_.out; have z26_ := Z26_.out; have z27_ := Z27_.out; have z28_ := Z28_.out; omega) Gg17.out.1)) (Nat.le_trans (by have z1_ := Z1_.out; have z2_ := Z2_.out; have z3_ := Z3_.out; have z4_ := Z4_.out; have z5_ := Z5_.out; have z6_ := Z6_.out; have z7_ := Z7_.out; have z8_ := Z8_.out; have z9_ := Z9_.out; have z10_ := Z10_.out; have z11_ := Z11_.out; have z12_ := Z12_.out; have z13_ := Z13_.out; have z14_ := Z14_.out; have z15_ := Z15_.out; have z16_ := Z16_.out; have z17_ := Z17_.out; have z18_ := Z18_.out; have z19_ := Z19_.out; have z20_ := Z20_.out; have z21_ := Z21_.out; have z22_ := Z22_.out; have z23_ := Z23_.out; have z24_ := Z24_.out; have z25_ := Z25_.out; have z26_ := Z26_.out; have z27_ := Z27_.out; have z28_ := Z28_.out; omega) Gg17.out.1))
  have n_ := Aside0.mk (show w30_.heap[g17]? = some (.cells #[.slice A28_0_ r5_0.length c28_0_, .slice A28_1_ r5_1.length c28_1_] 46 (0, 0)) by rw [hw]; exact (blk_put (cs := #[.slice A28_0_ r5_0.length c28_0_, .slice none 0 0]) (cs' := #[.slice A28_0_ r5_0.length c28_0_, .slice A28_1_ r5_1.length c28_1_]) (blk_put (cs := #[.slice none 0 0, .slice none 0 0]) (cs' := #[.slice A28_0_ r5_0.length c28_0_, .slice none 0 0]) Bg17.out 0 _ rfl) 1 _ rfl))
  clear Bg17; have Bg17 := n_; clear n_ hw
  have Z30_ := Aside0.mk (show w29_.heap.size ≤ w30_.heap.size from hk.1)
  have n_ := Aside0.mk (Kd.R_kept O3_0.out hk (fun k_ hk1 hk2 => by obtain ⟨a1_, a2_⟩ := hk1.1; have e_ : k_ = g17 := hk2; obtain ⟨b1_, b2_⟩ := Gg17.out; have z4_ := Z4_.out; have z5_ := Z5_.out; have z6_ := Z6_.out; have z7_ := Z7_.out; have z8_ := Z8_.out; have z9_ := Z9_.out; have z10_ := Z10_.out; have z11_ := Z11_.out; have z12_ := Z12_.out; have z13_ := Z13_.out; have z14_ := Z14_.out; have z15_ := Z15_.out; have z16_ := Z16_.out; have z17_ := Z17_.out; have z18_ := Z18_.out; have z19_ := Z19_.out; have z20_ := Z20_.out; have z21_ := Z21_.out; have z22_ := Z22_.out; have z23_ := Z23_.out; have z24_ := Z24_.out; have z25_ := Z25_.out; have z26_ := Z26_.out; have z27_ := Z27_.out; have z28_ := Z28_.out; omega)); clear O3_0; have O3_0 := n_; clear n_
  have n_ := Aside0.mk (Kd.S_kept O3_1.out hk (fun k_ hk1 hk2 => by obtain ⟨a1_, a2_⟩ := hk1.1; have e_ : k_ = g17 := hk2; obtain ⟨b1_, b2_⟩ := Gg17.out; have z4_ := Z4_.out; have z5_ := Z5_.out; have z6_ := Z6_.out; have z7_ := Z7_.out; have z8_ := Z8_.out; have z9_ := Z9_.out; have z10_ := Z10_.out; have z11_ := Z11_.out; have z12_ := Z12_.out; have z13_ := Z13_.out; have z14_ := Z14_.out; have z15_ := Z15_.out; have z16_ := Z16_.out; have z17_ := Z17_.out; have z18_ := Z18_.out; have z19_ := Z19_.out; have z20_ := Z20_.out; have z21_ := Z21_.out; have z22_ := Z22_.out; have z23_ := Z23_.out; have z24_ := Z24_.out; have z25_ := Z25_.out; have z26_ := Z26_.out; have z27_ := Z27_.out; have z28_ := Z28_.out; omega)); clear O3_1; have O3_1 := n_; clear n_
  have n_ := Aside0.mk (Kd.R_kept O4_0.out hk (fun k_ hk1 hk2 => by obtain ⟨a1_, a2_⟩ := hk1.1; have e_ : k_ = g17 := hk2; obtain ⟨b1_, b2_⟩ := Gg17.out; have z5_ := Z5_.out; have z6_ := Z6_.out; have z7_ := Z7_.out; have z8_ := Z8_.out; have z9_ := Z9_.out; have z10_ := Z10_.out; have z11_ := Z11_.out; have z12_ := Z12_.out; have z13_ := Z13_.out; have z14_ := Z14_.out; have z15_ := Z15_.out; have z16_ := Z16_.out; have z17_ := Z17_.out; have z18_ := Z18_.out; have z19_ := Z19_.out; have z20_ := Z20_.out; have z21_ := Z21_.out; have z22_ := Z22_.out; have z23_ := Z23_.out; have z24_ := Z24_.out; have z25_ := Z25_.out; have z26_ := Z26_.out; have z27_ := Z27_.out; have z28_ := Z28_.out; omega)); clear O4_0; have O4_0 := n_; clear n_
  have n_ := Aside0.mk (Kd.R_kept O5_0.out hk (fun k_ hk1 hk2 => by obtain ⟨a1_, a2_⟩ := hk1.1; have e_ : k_ = g17 := hk2; obtain ⟨b1_, b2_⟩ := Gg17.out; have z6_ := Z6_.out; have z7_ := Z7_.out; have z8_ := Z8_.out; have z9_ := Z9_.out; have z10_ := Z10_.out; have z11_ := Z11_.out; have z12_ := Z12_.out; have z13_ := Z13_.out; have z14_ := Z14_.out; have z15_ := Z15_.out; have z16_ := Z16_.out; have z17_ := Z17_.out; have z18_ := Z18_.out; have z19_ := Z19_.out; have z20_ := Z20_.out; have z21_ := Z21_.out; have z22_ := Z22_.out; have z23_ := Z23_.out; have z24_ := Z24_.out; have z25_ := Z25_.out; have z26_ := Z26_.out; have z27_ := Z27_.out; have z28_ := Z28_.out; omega)); clear O5_0; have O5_0 := n_; clear n_
  have n_ := Aside0.mk (Kd.S_kept O5_1.out hk (fun k_ hk1 hk2 => by obtain ⟨a1_, a2_⟩ := hk1.1; have e_ : k_ = g17 := hk2; obtain ⟨b1_, b2_⟩ := Gg17.out; have z6_ := Z6_.out; have z7_ := Z7_.out; have z8_ := Z8_.out; have z9_ := Z9_.out; have z10_ := Z10_.out; have z11_ := Z11_.out; have z12_ := Z12_.out; have z13_ := Z13_.out; have z14_ := Z14_.out; have z15_ := Z15_.out; have z16_ := Z16_.out; have z17_ := Z17_.out; have z18_ := Z18_.out; have z19_ := Z19_.out; have z20_ := Z20_.out; have z21_ := Z21_.out; have z22_ := Z22_.out; have z23_ := Z23_.out; have z24_ := Z24_.out; have z25_ := Z25_.out; have z26_ := Z26_.out; have z27_ := Z27_.out; have z28_ := Z28_.out; omega)); clear O5_1; have O5_1 := n_; clear n_
  have n_ := Aside0.mk (Kd.R_kept O8_0.out hk (fun k_ hk1 hk2 => by obtain ⟨a1_, a2_⟩ := hk1.1; have e_ : k_ = g17 := hk2; obtain ⟨b1_, b2_⟩ := Gg17.out; have z9_ := Z9_.out; have z10_ := Z10_.out; have z11_ := Z11_.out; have z12_ := Z12_.out; have z13_ := Z13_.out; have z14_ := Z14_.out; have z15_ := Z15_.out; have z16_ := Z16_.out; have z17_ := Z17_.out; have z18_ := Z18_.out; have z19_ := Z19_.out; have z20_ := Z20_.out; have z21_ := Z21_.out; have z22_ := Z22_.out; have z23_ := Z23_.out; have z24_ := Z24_.out; have z25_ := Z25_.out; have z26_ := Z26_.out; have z27_ := Z27_.out; have z28_ := Z28_.out; omega)); clear O8_0; have O8_0 := n_; clear n_
  have n_ := Aside0.mk (Kd.S_kept O8_1.out hk (fun k_ hk1 hk2 => by obtain ⟨a1_, a2_⟩ := hk1.1; have e_ : k_ = g17 := hk2; obtain ⟨b1_, b2_⟩ := Gg17.out; have z9_ := Z9_.out; have z10_ := Z10_.out; have z11_ := Z11_.out; have z12_ := Z12_.out; have z13_ := Z13_.out; have z14_ := Z14_.out; have z15_ := Z15_.out; have z16_ := Z16_.out; have z17_ := Z17_.out; have z18_ := Z18_.out; have z19_ := Z19_.out; have z20_ := Z20_.out; have z21_ := Z21_.out; have z22_ := Z22_.out; have z23_ := Z23_.out; have z24_ := Z24_.out; have z25_ := Z25_.out; have z26_ := Z26_.out; have z27_ := Z27_.out; have z28_ := Z28_.out; omega)); clear O8_1; have O8_1 := n_; clear n_
  have n_ := Aside0.mk (Kd.R_kept O11_0.out hk (fun k_ hk1 hk2 => by obtain ⟨a1_, a2_⟩ := hk1.1; have e_ : k_ = g17 := hk2; obtain ⟨b1_, b2_⟩ := Gg17.out; have z12_ := Z12_.out; have z13_ := Z13_.out; have z14_ := Z14_.out; have z15_ := Z15_.out; have z16_ := Z16_.out; have z17_ := Z17_.out; have z18_ := Z18_.out; have z19_ := Z19_.out; have z20_ := Z20_.out; have z21_ := Z21_.out; have z22_ := Z22_.out; have z23_ := Z23_.out; have z24_ := Z24_.out; have z25_ := Z25_.out; have z26_ := Z26_.out; have z27_ := Z27_.out; have z28_ := Z28_.out; omega)); clear O11_0; have O11_0 := n_; clear n_
  have n_ := Aside0.mk (Kd.R_kept O12_0.out hk (fun k_ hk1 hk2 => by obtain ⟨a1_, a2_⟩ := hk1.1; have e_ : k_ = g17 := hk2; obtain ⟨b1_, b2_⟩ := Gg17.out; have z13_ := Z13_.out; have z14_ := Z14_.out; have z15_ := Z15_.out; have z16_ := Z16_.out; have z17_ := Z17_.out; have z18_ := Z18_.out; have z19_ := Z19_.out; have z20_ := Z20_.out; have z21_ := Z21_.out; have z22_ := Z22_.out; have z23_ := Z23_.out; have z24_ := Z24_.out; have z25_ := Z25_.out; have z26_ := Z26_.out; have z27_ := Z27_.out; have z28_ := Z28_.out; omega)); clear O12_0; have O12_0 := n_; clear n_
  have n_ := Aside0.mk (Kd.S_kept O12_1.out hk (fun k_ hk1 hk2 => by obtain ⟨a1_, a2_⟩ := hk1.1; have e_ : k_ = g17 := hk2; obtain ⟨b1_, b2_⟩ := Gg17.out; have z13_ := Z13_.out; have z14_ := Z14_.out; have z15_ := Z15_.out; have z16_ := Z16_.out; have z17_ := Z17_.out; have z18_ := Z18_.out; have z19_ := Z19_.out; have z20_ := Z20_.out; have z21_ := Z21_.out; have z22_ := Z22_.out; have z23_ := Z23_.out; have z24_ := Z24_.out; have z25_ := Z25_.out; have z26_ := Z26_.out; have z27_ := Z27_.out; have z28_ := Z28_.out; omega)); clear O12_1; have O12_1 := n_; clear n_
  have n_ := Aside0.mk (Kd.R_kept O17_0.out hk (fun k_ hk1 hk2 => by obtain ⟨a1_, a2_⟩ := hk1.1; have e_ : k_ = g17 := hk2; obtain ⟨b1_, b2_⟩ := Gg17.out; have z18_ := Z18_.out; have z19_ := Z19_.out; have z20_ := Z20_.out; have z21_ := Z21_.out; have z22_ := Z22_.out; have z23_ := Z23_.out; have z24_ := Z24_.out; have z25_ := Z25_.out; have z26_ := Z26_.out; have z27_ := Z27_.out; have z28_ := Z28_.out; omega)); clear O17_0; have O17_0 := n_; clear n_
  have n_ := Aside0.mk (Kd.S_kept O17_1.out hk (fun k_ hk1 hk2 => by obtain ⟨a1_, a2_⟩ := hk1.1; have e_ : k_ = g17 := hk2; obtain ⟨b1_, b2_⟩ := Gg17.out; have z18_ := Z18_.out; have z19_ := Z19_.out; have z20_ := Z20_.out; have z21_ := Z21_.out; have z22_ := Z22_.out; have z23_ := Z23_.out; have z24_ := Z24_.out; have z25_ := Z25_.out; have z26_ := Z26_.out; have z27_ := Z27_.out; have z28_ := Z28_.out; omega)); clear O17_1; have O17_1 := n_; clear n_
  have n_ := Aside0.mk (Kd.R_kept O19_0.out hk (fun k_ hk1 hk2 => by obtain ⟨a1_, a2_⟩ := hk1.1; have e_ : k_ = g17 := hk2; obtain ⟨b1_, b2_⟩ := Gg17.out; have z20_ := Z20_.out; have z21_ := Z21_.out; have z22_ := Z22_.out; have z23_ := Z23_.out; have z24_ := Z24_.out; have z25_ := Z25_.out; have z26_ := Z26_.out; have z27_ := Z27_.out; have z28_ := Z28_.out; omega)); clear O19_0; have O19_0 := n_; clear n_
  have n_ := Aside0.mk (Kd.R_kept O26_0.out hk (fun k_ hk1 hk2 => by obtain ⟨a1_, a2_⟩ := hk1.1; have e_ : k_ = g17 := hk2; obtain ⟨b1_, b2_⟩ := Gg17.out; have z27_ := Z27_.out; have z28_ := Z28_.out; omega)); clear O26_0; have O26_0 := n_; clear n_
  have n_ := Aside0.mk (Kd.S_kept O26_1.out hk (fun k_ hk1 hk2 => by obtain ⟨a1_, a2_⟩ := hk1.1; have e_ : k_ = g17 := hk2; obtain ⟨b1_, b2_⟩ := Gg17.out; have z27_ := Z27_.out; have z28_ := Z28_.out; omega)); clear O26_1; have O26_1 := n_; clear n_
  have n_ := Aside0.mk (Kd.R_kept O27_0.out hk (fun k_ hk1 hk2 => by obtain ⟨a1_, a2_⟩ := hk1.1; have e_ : k_ = g17 := hk2; obtain ⟨b1_, b2_⟩ := Gg17.out; have z28_ := Z28_.out; omega)); clear O27_0; have O27_0 := n_; clear n_
  have n_ := Aside0.mk (Kd.R_kept O28_0.out hk (fun k_ hk1 hk2 => by obtain ⟨a1_, a2_⟩ := hk1.1; have e_ : k_ = g17 := hk2; obtain ⟨b1_, b2_⟩ := Gg17.out; omega)); clear O28_0; have O28_0 := n_; clear n_
  have n_ := Aside0.mk (Kd.S_kept O28_1.out hk (fun k_ hk1 hk2 => by obtain ⟨a1_, a2_⟩ := hk1.1; have e_ : k_ = g17 := hk2; obtain ⟨b1_, b2_⟩ := Gg17.out; omega)); clear O28_1; have O28_1 := n_; clear n_
  have n_ := Aside0.mk (blk_kept Bg1.out hk (fun hk2 => by obtain ⟨a1_, a2_⟩ := Gg1.out; have e_ : g1 = g17 := hk2; obtain ⟨b1_, b2_⟩ := Gg17.out; have z2_ := Z2_.out; have z3_ := Z3_.out; have z4_ := Z4_.out; have z5_ := Z5_.out; have z6_ := Z6_.out; have z7_ := Z7_.out; have z8_ := Z8_.out; have z9_ := Z9_.out; have z10_ := Z10_.out; have z11_ := Z11_.out; have z12_ := Z12_.out; have z13_ := Z13_.out; have z14_ := Z14_.out; have z15_ := Z15_.out; have z16_ := Z16_.out; have z17_ := Z17_.out; have z18_ := Z18_.out; have z19_ := Z19_.out; have z20_ := Z20_.out; have z21_ := Z21_.out; have z22_ := Z22_.out; have z23_ := Z23_.out; have z24_ := Z24_.out; have z25_ := Z25_.out; have z26_ := Z26_.out; have z27_ := Z27_.out; have z28_ := Z28_.out; omega)); clear Bg1; have Bg1 := n_; clear n_
  have n_ := Aside0.mk (blk_kept Bg6.out hk (fun hk2 => by obtain ⟨a1_, a2_⟩ := Gg6.out; have e_ : g6 = g17 := hk2; obtain ⟨b1_, b2_⟩ := Gg17.out; have z7_ := Z7_.out; have z8_ := Z8_.out; have z9_ := Z9_.out; have z10_ := Z10_.out; have z11_ := Z11_.out; have z12_ := Z12_.out; have z13_ := Z13_.out; have z14_ := Z14_.out; have z15_ := Z15_.out; have z16_ := Z16_.out; have z17_ := Z17_.out; have z18_ := Z18_.out; have z19_ := Z19_.out; have z20_ := Z20_.out; have z21_ := Z21_.out; have z22_ := Z22_.out; have z23_ := Z23_.out; have z24_ := Z24_.out; have z25_ := Z25_.out; have z26_ := Z26_.out; have z27_ := Z27_.out; have z28_ := Z28_.out; omega)); clear Bg6; have Bg6 := n_; clear n_
  have n_ := Aside0.mk (blk_kept Bg7.out hk (fun hk2 => by obtain ⟨a1_, a2_⟩ := Gg7.out; have e_ : g7 = g17 := hk2; obtain ⟨b1_, b2_⟩ := Gg17.out; have z10_ := Z10_.out; have z11_ := Z11_.out; have z12_ := Z12_.out; have z13_ := Z13_.out; have z14_ := Z14_.out; have z15_ := Z15_.out; have z16_ := Z16_.out; have z17_ := Z17_.out; have z18_ := Z18_.out; have z19_ := Z19_.out; have z20_ := Z20_.out; have z21_ := Z21_.out; have z22_ := Z22_.out; have z23_ := Z23_.out; have z24_ := Z24_.out; have z25_ := Z25_.out; have z26_ := Z26_.out; have z27_ := Z27_.out; have z28_ := Z28_.out; omega)); clear Bg7; have Bg7 := n_; clear n_
  have n_ := Aside0.mk (blk_kept Bg9.out hk (fun hk2 => by obtain ⟨a1_, a2_⟩ := Gg9.out; have e_ : g9 = g17 := hk2; obtain ⟨b1_, b2_⟩ := Gg17.out; have z14_ := Z14_.out; have z15_ := Z15_.out; have z16_ := Z16_.out; have z17_ := Z17_.out; have z18_ := Z18_.out; have z19_ := Z19_.out; have z20_ := Z20_.out; have z21_ := Z21_.out; have z22_ := Z22_.out; have z23_ := Z23_.out; have z24_ := Z24_.out; have z25_ := Z25_.out; have z26_ := Z26_.out; have z27_ := Z27_.out; have z28_ := Z28_.out; omega)); clear Bg9; have Bg9 := n_; clear n_
  clear HB; have HB := Aside0.mk hb0
  clear hxg1_0
  clear hxg1_1
  clear hfg1_0
  clear hfg1_1
  clear hxg6_0
  clear hxg6_1
  clear hfg6_0
  clear hfg6_1
  clear hxg7_0
  clear hxg7_1
  clear hfg7_0
  clear hfg7_1
  clear hxg9_0
  clear hxg9_1
  clear hfg9_0
  clear hfg9_1
  clear hxg17_0
  clear hxg17_1
  clear hfg17_0
  clear hfg17_1
  have hxg1_0 : w30_.cell? ⟨g1, 0, none⟩ = some (.slice A0_0 l0_0.length c0_0) := (blk_cell Bg1.out 0).trans rfl
  have hxg1_1 : w30_.cell? ⟨g1, 1, none⟩ = some (.slice A0_1 l0_1.length c0_1) := (blk_cell Bg1.out 1).trans rfl
  have hfg1_0 := blk_frozen Bg1.out 0
  have hfg1_1 := blk_frozen Bg1.out 1
  have hxg6_0 : w30_.cell? ⟨g6, 0, none⟩ = some (.slice A5_0_ r5_0.length c5_0_) := (blk_cell Bg6.out 0).trans rfl
  have hxg6_1 : w30_.cell? ⟨g6, 1, none⟩ = some (.slice A5_1_ r5_1.length c5_1_) := (blk_cell Bg6.out 1).trans rfl
  have hfg6_0 := blk_frozen Bg6.out 0
  have hfg6_1 := blk_frozen Bg6.out 1
  have hxg7_0 : w30_.cell? ⟨g7, 0, none⟩ = some (.slice A8_0_ r3_0.length c8_0_) := (blk_cell Bg7.out 0).trans rfl
  have hxg7_1 : w30_.cell? ⟨g7, 1, none⟩ = some (.slice A8_1_ r3_1.length c8_1_) := (blk_cell Bg7.out 1).trans rfl
  have hfg7_0 := blk_frozen Bg7.out 0
  have hfg7_1 := blk_frozen Bg7.out 1
  have hxg9_0 : w30_.cell? ⟨g9, 0, none⟩ = some (.slice A12_0_ r5_0.length c12_0_) := (blk_cell Bg9.out 0).trans rfl
  have hxg9_1 : w30_.cell? ⟨g9, 1, none⟩ = some (.slice A12_1_ r5_1.length c12_1_) := (blk_cell Bg9.out 1).trans rfl
  have hfg9_0 := blk_frozen Bg9.out 0
  have hfg9_1 := blk_frozen Bg9.out 1
  have hxg17_0 : w30_.cell? ⟨g17, 0, none⟩ = some (.slice A28_0_ r5_0.length c28_0_) := (blk_cell Bg17.out 0).trans rfl
  have hxg17_1 : w30_.cell? ⟨g17, 1, none⟩ = some (.slice A28_1_ r5_1.length c28_1_) := (blk_cell Bg17.out 1).trans rfl
  have hfg17_0 := blk_frozen Bg17.out 0
  have hfg17_1 := blk_frozen Bg17.out 1
  clear hk hb0
  go_wp2_with (first | (go_at_call 34; refine hold ?_))
  unfold Hold
  refine (laws_eqQuery.calls ke7 _ _ r5_0 _ _ r5_1 _ _ r5_0 _ _ r5_1 true _ (Kd.R_reads' O28_0.out).2.2 (Kd.R_reads' O28_0.out).2.1 (Kd.S_reads' O28_1.out).2.2 (Kd.S_reads' O28_1.out).2.1 (Kd.R_reads' O5_0.out).2.2 (Kd.R_reads' O5_0.out).2.1 (Kd.S_reads' O5_1.out).2.2 (Kd.S_reads' O5_1.out).2.1 Ee7.out).mono ?_
  rintro e w31_ ⟨rfl, hb⟩
  have Z31_ := Aside0.mk (show w30_.heap.size ≤ w31_.heap.size from hb.size)
  have n_ := Aside0.mk (Kd.R_below O3_0.out hb); clear O3_0; have O3_0 := n_; clear n_
  have n_ := Aside0.mk (Kd.S_below O3_1.out hb); clear O3_1; have O3_1 := n_; clear n_
  have n_ := Aside0.mk (Kd.R_below O4_0.out hb); clear O4_0; have O4_0 := n_; clear n_
  have n_ := Aside0.mk (Kd.R_below O5_0.out hb); clear O5_0; have O5_0 := n_; clear n_
  have n_ := Aside0.mk (Kd.S_below O5_1.out hb); clear O5_1; have O5_1 := n_; clear n_
  have n_ := Aside0.mk (Kd.R_below O8_0.out hb); clear O8_0; have O8_0 := n_; clear n_
  have n_ := Aside0.mk (Kd.S_below O8_1.out hb); clear O8_1; have O8_1 := n_; clear n_
  have n_ := Aside0.mk (Kd.R_below O11_0.out hb); clear O11_0; have O11_0 := n_; clear n_
  have n_ := Aside0.mk (Kd.R_below O12_0.out hb); clear O12_0; have O12_0 := n_; clear n_
  have n_ := Aside0.mk (Kd.S_below O12_1.out hb); clear O12_1; have O12_1 := n_; clear n_
  have n_ := Aside0.mk (Kd.R_below O17_0.out hb); clear O17_0; have O17_0 := n_; clear n_
  have n_ := Aside0.mk (Kd.S_below O17_1.out hb); clear O17_1; have O17_1 := n_; clear n_
  have n_ := Aside0.mk (Kd.R_below O19_0.out hb); clear O19_0; have O19_0 := n_; clear n_
  have n_ := Aside0.mk (Kd.R_below O26_0.out hb); clear O26_0; have O26_0 := n_; clear n_
  have n_ := Aside0.mk (Kd.S_below O26_1.out hb); clear O26_1; have O26_1 := n_; clear n_
  have n_ := Aside0.mk (Kd.R_below O27_0.out hb); clear O27_0; have O27_0 := n_; clear n_
  have n_ := Aside0.mk (Kd.R_below O28_0.out hb); clear O28_0; have O28_0 := n_; clear n_
  have n_ := Aside0.mk (Kd.S_below O28_1.out hb); clear O28_1; have O28_1 := n_; clear n_
  have n_ := Aside0.mk (blk_below Bg1.out hb); clear Bg1; have Bg1 := n_; clear n_
  have n_ := Aside0.mk (blk_below Bg6.out hb); clear Bg6; have Bg6 := n_; clear n_
  have n_ := Aside0.mk (blk_below Bg7.out hb); clear Bg7; have Bg7 := n_; clear n_
  have n_ := Aside0.mk (blk_below Bg9.out hb); clear Bg9; have Bg9 := n_; clear n_
  have n_ := Aside0.mk (blk_below Bg17.out hb); clear Bg17; have Bg17 := n_; clear n_
  have n_ := Aside0.mk (below_step HB.out hb); clear HB; have HB := n_; clear n_
  clear hxg1_0
  clear hxg1_1
  clear hfg1_0
  clear hfg1_1
  clear hxg6_0
  clear hxg6_1
  clear hfg6_0
  clear hfg6_1
  clear hxg7_0
  clear hxg7_1
  clear hfg7_0
  clear hfg7_1
  clear hxg9_0
  clear hxg9_1
  clear hfg9_0
  clear hfg9_1
  clear hxg17_0
  clear hxg17_1
  clear hfg17_0
  clear hfg17_1
  have hxg1_0 : w31_.cell? ⟨g1, 0, none⟩ = some (.slice A0_0 l0_0.length c0_0) := (blk_cell Bg1.out 0).trans rfl
  have hxg1_1 : w31_.cell? ⟨g1, 1, none⟩ = some (.slice A0_1 l0_1.length c0_1) := (blk_cell Bg1.out 1).trans rfl
  have hfg1_0 := blk_frozen Bg1.out 0
  have hfg1_1 := blk_frozen Bg1.out 1
  have hxg6_0 : w31_.cell? ⟨g6, 0, none⟩ = some (.slice A5_0_ r5_0.length c5_0_) := (blk_cell Bg6.out 0).trans rfl
  have hxg6_1 : w31_.cell? ⟨g6, 1, none⟩ = some (.slice A5_1_ r5_1.length c5_1_) := (blk_cell Bg6.out 1).trans rfl
  have hfg6_0 := blk_frozen Bg6.out 0
  have hfg6_1 := blk_frozen Bg6.out 1
  have hxg7_0 : w31_.cell? ⟨g7, 0, none⟩ = some (.slice A8_0_ r3_0.length c8_0_) := (blk_cell Bg7.out 0).trans rfl
  have hxg7_1 : w31_.cell? ⟨g7, 1, none⟩ = some (.slice A8_1_ r3_1.length c8_1_) := (blk_cell Bg7.out 1).trans rfl
  have hfg7_0 := blk_frozen Bg7.out 0
  have hfg7_1 := blk_frozen Bg7.out 1
  have hxg9_0 : w31_.cell? ⟨g9, 0, none⟩ = some (.slice A12_0_ r5_0.length c12_0_) := (blk_cell Bg9.out 0).trans rfl
  have hxg9_1 : w31_.cell? ⟨g9, 1, none⟩ = some (.slice A12_1_ r5_1.length c12_1_) := (blk_cell Bg9.out 1).trans rfl
  have hfg9_0 := blk_frozen Bg9.out 0
  have hfg9_1 := blk_frozen Bg9.out 1
  have hxg17_0 : w31_.cell? ⟨g17, 0, none⟩ = some (.slice A28_0_ r5_0.length c28_0_) := (blk_cell Bg17.out 0).trans rfl
  have hxg17_1 : w31_.cell? ⟨g17, 1, none⟩ = some (.slice A28_1_ r5_1.length c28_1_) := (blk_cell Bg17.out 1).trans rfl
  have hfg17_0 := blk_frozen Bg17.out 0
  have hfg17_1 := blk_frozen Bg17.out 1
  clear hb
  go_wp2_with (first | (go_at_call 46; refine hold ?_))
  unfold Hold
  refine calls_of_args (args' := #[.agg #[.slice A12_0_ r13_1.length c12_0_, .slice A12_1_ r13_2.length c12_1_], .int .i64 1]) (by rw [show r5_0.length = r13_1.length from (Kd.R_reads' O12_0.out).1, show r5_1.length = r13_2.length from (Kd.S_reads' O12_1.out).1]) ?_
  refine (laws_heldQuery.calls ke14 _ _ r13_1 _ _ r13_2 1 r13_0 _ (Kd.R_reads' O12_0.out).2.2 (Nat.le_trans (Nat.le_of_eq (Kd.R_reads' O12_0.out).1.symm) (Kd.R_reads' O12_0.out).2.1) (Kd.S_reads' O12_1.out).2.2 (Nat.le_trans (Nat.le_of_eq (Kd.S_reads' O12_1.out).1.symm) (Kd.S_reads' O12_1.out).2.1) Ee14.out).mono ?_
  rintro e w32_ ⟨rfl, hb⟩
  have Z32_ := Aside0.mk (show w31_.heap.size ≤ w32_.heap.size from hb.size)
  have n_ := Aside0.mk (Kd.R_below O3_0.out hb); clear O3_0; have O3_0 := n_; clear n_
  have n_ := Aside0.mk (Kd.S_below O3_1.out hb); clear O3_1; have O3_1 := n_; clear n_
  have n_ := Aside0.mk (Kd.R_below O4_0.out hb); clear O4_0; have O4_0 := n_; clear n_
  have n_ := Aside0.mk (Kd.R_below O5_0.out hb); clear O5_0; have O5_0 := n_; clear n_
  have n_ := Aside0.mk (Kd.S_below O5_1.out hb); clear O5_1; have O5_1 := n_; clear n_
  have n_ := Aside0.mk (Kd.R_below O8_0.out hb); clear O8_0; have O8_0 := n_; clear n_
  have n_ := Aside0.mk (Kd.S_below O8_1.out hb); clear O8_1; have O8_1 := n_; clear n_
  have n_ := Aside0.mk (Kd.R_below O11_0.out hb); clear O11_0; have O11_0 := n_; clear n_
  have n_ := Aside0.mk (Kd.R_below O12_0.out hb); clear O12_0; have O12_0 := n_; clear n_
  have n_ := Aside0.mk (Kd.S_below O12_1.out hb); clear O12_1; have O12_1 := n_; clear n_
  have n_ := Aside0.mk (Kd.R_below O17_0.out hb); clear O17_0; have O17_0 := n_; clear n_
  have n_ := Aside0.mk (Kd.S_below O17_1.out hb); clear O17_1; have O17_1 := n_; clear n_
  have n_ := Aside0.mk (Kd.R_below O19_0.out hb); clear O19_0; have O19_0 := n_; clear n_
  have n_ := Aside0.mk (Kd.R_below O26_0.out hb); clear O26_0; have O26_0 := n_; clear n_
  have n_ := Aside0.mk (Kd.S_below O26_1.out hb); clear O26_1; have O26_1 := n_; clear n_
  have n_ := Aside0.mk (Kd.R_below O27_0.out hb); clear O27_0; have O27_0 := n_; clear n_
  have n_ := Aside0.mk (Kd.R_below O28_0.out hb); clear O28_0; have O28_0 := n_; clear n_
  have n_ := Aside0.mk (Kd.S_below O28_1.out hb); clear O28_1; have O28_1 := n_; clear n_
  have n_ := Aside0.mk (blk_below Bg1.out hb); clear Bg1; have Bg1 := n_; clear n_
  have n_ := Aside0.mk (blk_below Bg6.out hb); clear Bg6; have Bg6 := n_; clear n_
  have n_ := Aside0.mk (blk_below Bg7.out hb); clear Bg7; have Bg7 := n_; clear n_
  have n_ := Aside0.mk (blk_below Bg9.out hb); clear Bg9; have Bg9 := n_; clear n_
  have n_ := Aside0.mk (blk_below Bg17.out hb); clear Bg17; have Bg17 := n_; clear n_
  have n_ := Aside0.mk (below_step HB.out hb); clear HB; have HB := n_; clear n_
  clear hxg1_0
  clear hxg1_1
  clear hfg1_0
  clear hfg1_1
  clear hxg6_0
  clear hxg6_1
  clear hfg6_0
  clear hfg6_1
  clear hxg7_0
  clear hxg7_1
  clear hfg7_0
  clear hfg7_1
  clear hxg9_0
  clear hxg9_1
  clear hfg9_0
  clear hfg9_1
  clear hxg17_0
  clear hxg17_1
  clear hfg17_0
  clear hfg17_1
  have hxg1_0 : w32_.cell? ⟨g1, 0, none⟩ = some (.slice A0_0 l0_0.length c0_0) := (blk_cell Bg1.out 0).trans rfl
  have hxg1_1 : w32_.cell? ⟨g1, 1, none⟩ = some (.slice A0_1 l0_1.length c0_1) := (blk_cell Bg1.out 1).trans rfl
  have hfg1_0 := blk_frozen Bg1.out 0
  have hfg1_1 := blk_frozen Bg1.out 1
  have hxg6_0 : w32_.cell? ⟨g6, 0, none⟩ = some (.slice A5_0_ r5_0.length c5_0_) := (blk_cell Bg6.out 0).trans rfl
  have hxg6_1 : w32_.cell? ⟨g6, 1, none⟩ = some (.slice A5_1_ r5_1.length c5_1_) := (blk_cell Bg6.out 1).trans rfl
  have hfg6_0 := blk_frozen Bg6.out 0
  have hfg6_1 := blk_frozen Bg6.out 1
  have hxg7_0 : w32_.cell? ⟨g7, 0, none⟩ = some (.slice A8_0_ r3_0.length c8_0_) := (blk_cell Bg7.out 0).trans rfl
  have hxg7_1 : w32_.cell? ⟨g7, 1, none⟩ = some (.slice A8_1_ r3_1.length c8_1_) := (blk_cell Bg7.out 1).trans rfl
  have hfg7_0 := blk_frozen Bg7.out 0
  have hfg7_1 := blk_frozen Bg7.out 1
  have hxg9_0 : w32_.cell? ⟨g9, 0, none⟩ = some (.slice A12_0_ r5_0.length c12_0_) := (blk_cell Bg9.out 0).trans rfl
  have hxg9_1 : w32_.cell? ⟨g9, 1, none⟩ = some (.slice A12_1_ r5_1.length c12_1_) := (blk_cell Bg9.out 1).trans rfl
  have hfg9_0 := blk_frozen Bg9.out 0
  have hfg9_1 := blk_frozen Bg9.out 1
  have hxg17_0 : w32_.cell? ⟨g17, 0, none⟩ = some (.slice A28_0_ r5_0.length c28_0_) := (blk_cell Bg17.out 0).trans rfl
  have hxg17_1 : w32_.cell? ⟨g17, 1, none⟩ = some (.slice A28_1_ r5_1.length c28_1_) := (blk_cell Bg17.out 1).trans rfl
  have hfg17_0 := blk_frozen Bg17.out 0
  have hfg17_1 := blk_frozen Bg17.out 1
  clear hb
  go_wp2
  go_ret
  exact ⟨rfl, HB.out⟩
theorem FnExactRenameQuery_calls (A0_0 : Option Addr) (c0_0 : Nat) (l0_0 : List Int) (A0_1 : Option Addr) (c0_1 : Nat) (l0_1 : List S124) (A1 : Option Addr) (c1 : Nat) (l1 : List Int) (w : World) (hr0_0 : Kd.C (Kd.int .i64) w A0_0 l0_0.length l0_0) (hc0_0 : l0_0.length ≤ c0_0) (hr0_1 : Kd.C k124 w A0_1 l0_1.length l0_1) (hc0_1 : l0_1.length ≤ c0_1) (hr1 : Kd.C (Kd.int .i64) w A1 l1.length l1) (hc1 : l1.length ≤ c1) (w0 : (WfL WfI) l0_0 ∧ (WfL (fun x : S124 => WfI x.f0 ∧ (WfL WfI) x.f1)) l0_1) (_w1 : (WfL WfI) l1) :
    Calls Try.prog 8 #[.agg #[.slice A0_0 l0_0.length c0_0, .slice A0_1 l0_1.length c0_1], .slice A1 l1.length c1] w fun e w' => e = .returned (.bool true) ∧ Below w.heap.size w w' := by
  by_cases hb : (l1.length : Int) > 1048576
  · exact laws_FnExactRenameQuery_out0 _ _ _ _ _ _ _ _ _ w hr0_0 hc0_0 hr0_1 hc0_1 hr1 hc1 hb
  have hb1 : l1.length ≤ 1048576 := by omega
  obtain ⟨t0, z0, c0⟩ := szQuery_ok l0_0 l0_1 1048576 w0 (by omega) (by omega)
  rcases c0 with c0 | ⟨p0, q0, hs0⟩
  · exact laws_FnExactRenameQuery_out1 _ _ _ _ _ _ _ _ _ w hr0_0 hc0_0 hr0_1 hc0_1 hr1 hc1 _ hb z0.rounds c0
  have hd : (l0_1.map cvA).length ≤ 1048576 := by simpa using hs0.2.1
  have hs := cvA_small hs0.2.2
  have hd2 : ((l0_1.map cvA).map (tA l1)).length ≤ 1048576 := by simpa using hs0.2.1
  have hh2 : (l0_0.map (tT l1)).length ≤ 1048576 := by simpa using hs0.1
  have hs2 := tA_small (tl := l1) hs
  obtain ⟨m0, m1, m2⟩ := markQ_ok l0_0 (l0_1.map cvA) 1 hs0.1 hd hs (by omega) (by omega)
  obtain ⟨n0, n1, n2⟩ := markQ_ok (l0_0.map (tT l1)) ((l0_1.map cvA).map (tA l1)) 1 hh2 hd2 hs2 (by omega) (by omega)
  exact laws_FnExactRenameQuery_walk _ _ _ _ _ _ _ _ _ w hr0_0 hc0_0 hr0_1 hc0_1 hr1 hc1 _ _ _ _ _ _ _ _ _ _ _ _ _ _ hb z0.rounds (by omega) (toQuery_ev l0_0 l0_1 hs0.1 hs0.2.1 hs0.2.2).rounds (toIntS_ev l1 (by omega)).rounds
    (renameQ_ev _ _ _ hs0.1 hd hs hb1).rounds rfl ⟨⟨hs0.1, hd, hb1⟩, hs⟩ (eqQuery_ev _ _ hh2 hd2 hs2).rounds (eqQuery_ev _ _ hs0.1 hd hs).rounds
    (by have e := eqIntS_ev l1 l1 (by omega); rw [decide_eq_true rfl] at e; exact e.rounds) rfl m0 (markIntS_ev l1 (mkQ l0_0 (l0_1.map cvA) 1).1 (by omega) (by omega) (by omega)).rounds (by show ¬ ((mkQ l0_0 (l0_1.map cvA) 1).1 + (l1.length : Int) < 0); omega)
    rfl n0 (heldQuery_ev _ _ 1 hh2 hd2 hs2 (by omega) (by omega)).rounds (by show ¬ (mkQ (l0_0.map (tT l1)) ((l0_1.map cvA).map (tA l1)) 1).1 < 0; omega)


end Go.Proofs.Ytanbgnjfllpkgaa.Hand
