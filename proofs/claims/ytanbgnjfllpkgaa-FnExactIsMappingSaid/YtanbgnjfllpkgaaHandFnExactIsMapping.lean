/- Walks through Go functions that FnExactIsMapping reaches, by hand: each call returns what is said beside it, within the bounds that the theorem names. -/
import Derived.Test.YtanbgnjfllpkgaaQFnExactIsMappingx0
import Derived.Test.YtanbgnjfllpkgaaQFnExactIsMappingx1
import Derived.Test.YtanbgnjfllpkgaaQFnExactIsMappingx2
import Derived.Test.YtanbgnjfllpkgaaQFnExactIsMappingx3
import Derived.Test.YtanbgnjfllpkgaaQFnExactIsMappingx4
import Derived.Test.YtanbgnjfllpkgaaQFnExactIsMappingx5
import Derived.Test.YtanbgnjfllpkgaaQFnExactIsMappingx6
import Derived.Test.YtanbgnjfllpkgaaQFnExactIsMappingx7
import Derived.Test.YtanbgnjfllpkgaaQFnExactIsMappingx8
import Derived.Test.YtanbgnjfllpkgaaQFnExactIsMappingx9
import Derived.Test.YtanbgnjfllpkgaaQFnExactIsMappingx10
import Derived.Test.YtanbgnjfllpkgaaVFnExactIsMappingMine
import Derived.Test.YtanbgnjfllpkgaaPureFnExactIsMapping
set_option linter.unusedVariables false
set_option linter.unusedSimpArgs false
namespace Go.Proofs.Ytanbgnjfllpkgaa.Hand
open Go.RowKit Go.Proofs.Ytanbgnjfllpkgaa.QFnExactIsMapping Go.Proofs.YtanbgnjfllpkgaaW.PrintWords Go.Proofs.YtanbgnjfllpkgaaW.PrintLast Go.Proofs.YtanbgnjfllpkgaaW.PrintMore Go.Proofs.Ytanbgnjfllpkgaa.Mine Go.Proofs.Ytanbgnjfllpkgaa.Open Go.Proofs.Ytanbgnjfllpkgaa.Pure
attribute [local go_sem] max2_int min2_int max_two min_two max_three min_three max_four min_four

/-- A goal that the walk leaves alone. -/
def Hold (p : Prop) : Prop := p
theorem hold {p : Prop} (h : Hold p) : p := h
theorem newR {α : Type} {d : Kd α} {e B : Nat} {W w1 : World} {ok : Nat → Prop} {v : Value} {xs : List α} (h : d.R e w1 W.heap.size ok v xs) (hB : B ≤ W.heap.size) : d.R e w1 B (fun k => (W.heap.size ≤ k ∧ k < w1.heap.size) ∧ ok k) v xs :=
  Kd.R_lower (Kd.R_mono (Kd.R_bound h) (fun _ hk => ⟨⟨hk.2.1, hk.2.2.1⟩, hk.1⟩)) hB
theorem newS {α : Type} {d : Kd α} {e B : Nat} {W w1 : World} {ok : Nat → Prop} {v : Value} {xs : List α} (h : Kd.S d e w1 W.heap.size ok v xs) (hB : B ≤ W.heap.size) : Kd.S d e w1 B (fun k => (W.heap.size ≤ k ∧ k < w1.heap.size) ∧ ok k) v xs :=
  Kd.S_lower (Kd.S_mono (Kd.S_bound h) (fun _ hk => ⟨⟨hk.2.1, hk.2.2.1⟩, hk.1⟩)) hB
/-- A box stored into. -/
theorem kept_two {w : World} {g : Nat} (a b : Value) : Kept w ((w.setCell ⟨g, 0, none⟩ a).setCell ⟨g, 1, none⟩ b) (fun k => k = g) :=
  ((Kept.refl w (fun k => k = g)).setCell (.inl rfl) a).setCell (.inl rfl) b
theorem kept_one {w : World} {g : Nat} (a : Value) : Kept w (w.setCell ⟨g, 0, none⟩ a) (fun k => k = g) := (Kept.refl w (fun k => k = g)).setCell (.inl rfl) a
/-- A call of a closure. -/
theorem goesC_ {P : Program} {ops : Array Oper} {Q : Exit → Act → World → Prop} {oi : Oper} {N : Option Tmp} {a : Act} {w : World} {K : Act → World → Prop} {f : FuncId} {fn : Func} {p : Operand} {as_ : Array Operand} {ts : Array TypeId} (hf : P.funcs[f]? = some fn) (hname : (fn.name == "runtime.NumGoroutine") = false) (hb : fn.body.isSome = true) (first cap args : Array Value)
    (hw : Region.wanted oi (yielded ops a.tmps) = true) (hN : oi.dst = N) (hop : oi.op = .call { callee := .value p, args := as_, argTypes := ts }) (hv : a.eval p = .func (.func f) first cap) (hargs : (first ++ as_.map a.eval) ++ cap = args)
    (h : Calls P f args w fun e w' => ∃ v, e = .returned v ∧ K (a.put N v) w') : if Region.wanted oi (yielded ops a.tmps) = true then Oper.wp P oi a w K Q else K (a.put N undef) w := by
  refine call_ f args hw hN ?_ h
  have he := enters_ hf hname hb args w
  unfold execOp
  simp [hop, resolve, hv, Deferred.ofValue, invoke, hargs, he]

set_option maxHeartbeats 8000000 in
set_option maxRecDepth 100000 in
theorem maps1_calls (g : Nat) (A : Option Addr) (c : Nat) (m : List Int) (t : Int) (w : World) (hB : w.heap[g]? = some (.cells #[.slice A m.length c] 38 (0, 0))) (hr : Kd.C (Kd.int .i64) w A m.length m) (hc : m.length ≤ c) (hm : m.length ≤ 1048576) :
    Calls Try.prog 132 #[.int .i64 t, .pointer (some ⟨g, 0, none⟩)] w fun e w' => e = .returned (.int .i64 (mApply m t)) ∧ Drawn0 w w' := by
  have hx0 : w.cell? ⟨g, 0, none⟩ = some (.slice A m.length c) := (blk_cell hB 0).trans rfl
  have HR := Aside0.mk hr
  have HC := Aside0.mk hc
  have HM := Aside0.mk hm
  clear hB hr hc hm
  go_enter Try.func132, Try.ntmps132
  go_wp2_with (first | (go_at_call 67; refine hold ?_))
  unfold Hold
  refine (impl_ApplyMapping.calls A c m t _ _ HR.out HC.out (implApply_eq m t (by have := HM.out; omega))).mono ?_
  rintro e w' ⟨rfl, ⟨nd, rfl⟩⟩
  go_wp2
  go_ret
  exact ⟨rfl, by repeat (first | exact Drawn0.refl _ | apply Drawn0.step)⟩
set_option maxHeartbeats 8000000 in
set_option maxRecDepth 100000 in
theorem maps2_calls (g : Nat) (ra : Int) (Aa : Option Addr) (ca : Nat) (la : List Int) (rb : Int) (Ab : Option Addr) (cb : Nat) (lb : List Int) (w : World) (hB : w.heap[g]? = some (.cells #[.int .i64 ra, .slice Aa la.length ca] 97 (0, 0))) (hra : Kd.C (Kd.int .i64) w Aa la.length la) (hca : la.length ≤ ca) (hrb : Kd.C (Kd.int .i64) w Ab lb.length lb) (hcb : lb.length ≤ cb) (hla : la.length ≤ 1048576) :
    Calls Try.prog 134 #[.agg #[.int .i64 rb, .slice Ab lb.length cb], .pointer (some ⟨g, 0, none⟩)] w fun e w' => e = .returned (.bool (decide (ra = rb ∧ la = lb))) ∧ Below w.heap.size w w' := by
  have hu := Try.underlying97
  obtain ⟨km, hkm⟩ := (implEqAtoms_ev ra la rb lb (by omega)).rounds
  have HM := Aside0.mk hkm
  have BT := Aside0.mk hB
  have RA := Aside0.mk hra
  have RB := Aside0.mk hrb
  have CA := Aside0.mk hca
  have CB := Aside0.mk hcb
  have HB := Aside0.mk (Below.refl w.heap.size w)
  clear hkm hB hra hrb hca hcb hla
  go_enter Try.func134, Try.ntmps134
  go_wp2_with (first | ((with_reducible refine gate_dst (N := 2) rfl ?_); refine hold ?_))
  unfold Hold
  refine box_event ?hg (N := 2) ?hd (cs := #[.int .i64 rb, .slice Ab lb.length cb]) (t := 97) ?hr ?_
  case hd => rfl
  case hg => rfl
  case hr => first | (go_simp; done) | (go_simp; rfl)
  intro gb hg w1 hbox hb
  have BQ := Aside0.mk hbox
  replace BT := Aside0.mk (blk_below BT.out hb)
  replace HB := Aside0.mk (below_step HB.out hb)
  clear hbox hb hg
  have hx0 : w1.cell? ⟨gb, 0, none⟩ = some (.int .i64 rb) := (blk_cell BQ.out 0).trans rfl
  have hx1 : w1.cell? ⟨gb, 1, none⟩ = some (.slice Ab lb.length cb) := (blk_cell BQ.out 1).trans rfl
  have hy0 : w1.cell? ⟨g, 0, none⟩ = some (.int .i64 ra) := (blk_cell BT.out 0).trans rfl
  have hy1 : w1.cell? ⟨g, 1, none⟩ = some (.slice Aa la.length ca) := (blk_cell BT.out 1).trans rfl
  go_wp2_with (first | (go_at_call 88; refine hold ?_))
  unfold Hold
  refine (impl_EqualAtoms.calls km ra Aa ca la rb Ab cb lb _ _ (Kd.C_below RA.out HB.out) CA.out (Kd.C_below RB.out HB.out) CB.out HM.out).mono ?_
  rintro e w2 ⟨rfl, hb⟩
  replace HB := Aside0.mk (below_step HB.out hb)
  clear hb hx0 hx1 hy0 hy1 BQ BT RA RB HM
  go_wp2
  go_ret
  exact ⟨by rw [Bool.decide_and]; rfl, HB.out⟩
set_option maxHeartbeats 8000000 in
set_option maxRecDepth 100000 in
theorem indexF_calls (g : Nat) (ra : Int) (Aa : Option Addr) (ca : Nat) (la : List Int) (A : Option Addr) (c : Nat) (l : List S97) (w : World) (hB : w.heap[g]? = some (.cells #[.int .i64 ra, .slice Aa la.length ca] 97 (0, 0))) (hra : Kd.C (Kd.int .i64) w Aa la.length la) (hca : la.length ≤ ca) (hr : Kd.C k97 w A l.length l) (hc : l.length ≤ c) (hl : l.length ≤ 1048576) (hla : la.length ≤ 1048576) :
    Calls Try.prog 155 #[.slice A l.length c, .func (.func 134) #[] #[.pointer (some ⟨g, 0, none⟩)]] w fun e w' => ∃ i : Int, e = .returned (.int .i64 i) ∧ decide (0 ≤ i) = mHit l ⟨ra, la⟩ ∧ Below w.heap.size w w' := by
  have hu := Try.underlying97
  have BT := Aside0.mk hB
  have RA := Aside0.mk hra
  have CA := Aside0.mk hca
  have HR := Aside0.mk hr
  have HL := Aside0.mk (show l.length ≤ 1048576 ∧ la.length ≤ 1048576 from ⟨hl, hla⟩)
  have HB := Aside0.mk (Below.refl w.heap.size w)
  clear hB hra hca hr hl hla hc
  go_enter Try.func155, Try.ntmps155
  go_wp2
  go_loopg [8] l.length (fun kq v8 w' => ∃ x : Int, v8 = .int .i64 x ∧ Aside0 (0 ≤ x ∧ kq + x.toNat = l.length) ∧ Aside0 (mHit (l.drop x.toNat) ⟨ra, la⟩ = mHit l ⟨ra, la⟩) ∧ Aside0 (Below w.heap.size w w'))
  case atStart => exact ⟨0, rfl, ⟨⟨Int.le_refl _, rfl⟩⟩, ⟨by rw [show (0 : Int).toNat = 0 from rfl, List.drop_zero]⟩, HB⟩
  case round =>
    clear HB
    obtain ⟨x, rfl, HG, HI, HB⟩ := hrel
    by_cases c6 : x < (l.length : Int)
    · have c6b0 : decide (x < (l.length : Int)) = true := decide_eq_true c6
      have p5 : 0 ≤ x := HG.out.1
      have hlt : x.toNat < l.length := by omega
      have HLT := Aside0.mk hlt
      obtain ⟨ad, A1, c1, e_, hx0, hx1, hl1, hi1⟩ := at_T97 HR.out x p5 c6
      cases e_
      replace hx0 := (HB.out.cell (World.block_lt_of_cell? w _ hx0)).trans hx0
      replace hx1 := (HB.out.cell (World.block_lt_of_cell? w _ hx1)).trans hx1
      have HI1 := Aside0.mk hi1
      have HL1 := Aside0.mk hl1
      have HIN := Aside0.mk (show mHit (l.drop x.toNat) ⟨ra, la⟩ = (decide (ra = (rd_T97 l x).f0 ∧ la = (rd_T97 l x).f1) || mHit (l.drop (x.toNat + 1)) ⟨ra, la⟩) from by
        rw [List.drop_eq_getElem_cons hlt]
        have e1 : rd_T97 l x = l[x.toNat] := by show l.getD x.toNat _ = _; rw [List.getD_eq_getElem?_getD, List.getElem?_eq_getElem hlt]; rfl
        rw [e1]; simp only [mHit, List.any_cons])
      clear hi1 hl1 hlt
      replace p5 := eq_true p5
      replace c6 := eq_true c6
      generalize rd_T97 l x = el at *
      go_wp2_with (first | (go_at_call 134; refine hold ?_))
      unfold Hold
      refine (maps2_calls g ra Aa ca la el.f0 A1 c1 el.f1 _ (blk_below BT.out HB.out) (Kd.C_below RA.out HB.out) CA.out (Kd.C_below HI1.out HB.out) HL1.out HL.out.2).mono ?_
      rintro e w2 ⟨rfl, hb⟩
      replace HB := Aside0.mk (below_step HB.out hb)
      clear hb hx0 hx1
      by_cases cc : ra = el.f0 ∧ la = el.f1
      · have HX := Aside0.mk (show mHit l ⟨ra, la⟩ = true from by rw [← HI.out, HIN.out, decide_eq_true cc]; rfl)
        rw [decide_eq_true cc]
        clear cc
        go_wp2
        go_ret
        exact ⟨x, rfl, by rw [HX.out]; exact decide_eq_true HG.out.1, HB.out⟩
      · have HX := Aside0.mk (show mHit (l.drop (x.toNat + 1)) ⟨ra, la⟩ = mHit l ⟨ra, la⟩ from by rw [← HI.out, HIN.out, decide_eq_false cc]; rfl)
        rw [decide_eq_false cc]
        clear cc
        go_wp2
        go_roundg (gk - 1)
        case measure => have := HG.out; have := HLT.out; omega
        case rel => exact ⟨(wrap64 (x + 1)), rfl, ⟨by have := HG.out; have := HLT.out; have h3 := HL.out.1; rw [w64 (by omega) (by omega)]; omega⟩, ⟨by rw [w64 (by have := HG.out; omega) (by have h3 := HL.out.1; have := HLT.out; omega), show (x + 1).toNat = x.toNat + 1 by have := HG.out; omega]; exact HX.out⟩, HB⟩
    · have c6b0 : decide (x < (l.length : Int)) = false := decide_eq_false c6
      have HX := Aside0.mk (show mHit l ⟨ra, la⟩ = false from by rw [← HI.out, List.drop_eq_nil_of_le (by omega)]; rfl)
      clear c6
      go_wp2
      go_ret
      exact ⟨-1, rfl, by rw [HX.out]; rfl, HB.out⟩
set_option maxHeartbeats 8000000 in
set_option maxRecDepth 100000 in
theorem containsF_calls (g : Nat) (ra : Int) (Aa : Option Addr) (ca : Nat) (la : List Int) (A : Option Addr) (c : Nat) (l : List S97) (w : World) (hB : w.heap[g]? = some (.cells #[.int .i64 ra, .slice Aa la.length ca] 97 (0, 0))) (hra : Kd.C (Kd.int .i64) w Aa la.length la) (hca : la.length ≤ ca) (hr : Kd.C k97 w A l.length l) (hc : l.length ≤ c) (hl : l.length ≤ 1048576) (hla : la.length ≤ 1048576) :
    Calls Try.prog 133 #[.slice A l.length c, .func (.func 134) #[] #[.pointer (some ⟨g, 0, none⟩)]] w fun e w' => e = .returned (.bool (mHit l ⟨ra, la⟩)) ∧ Below w.heap.size w w' := by
  have BT := Aside0.mk hB
  have RA := Aside0.mk hra
  have CA := Aside0.mk hca
  have HR := Aside0.mk hr
  have HC := Aside0.mk hc
  have HL := Aside0.mk (show l.length ≤ 1048576 ∧ la.length ≤ 1048576 from ⟨hl, hla⟩)
  clear hB hra hca hr hl hla hc
  go_enter Try.func133, Try.ntmps133
  go_wp2_with (first | (go_at_call 155; refine hold ?_))
  unfold Hold
  refine (indexF_calls g ra Aa ca la A c l _ BT.out RA.out CA.out HR.out HC.out HL.out.1 HL.out.2).mono ?_
  rintro e w2 ⟨i, rfl, hi, hb⟩
  have HI := Aside0.mk hi
  have HB := Aside0.mk hb
  clear hi hb
  go_wp2
  go_ret
  exact ⟨by rw [← HI.out]; rfl, HB.out⟩

/-- The first i elements changed. -/
def upto {α : Type} (f : α → α) (l : List α) (i : Nat) : List α := (l.take i).map f ++ l.drop i
theorem upto_0 {α : Type} (f : α → α) (l : List α) : upto f l 0 = l := by simp [upto]
theorem upto_len {α : Type} (f : α → α) (l : List α) (i : Nat) : (upto f l i).length = l.length := by simp [upto]; omega
theorem upto_end {α : Type} (f : α → α) (l : List α) (i : Nat) (h : l.length ≤ i) : upto f l i = l.map f := by simp [upto, List.take_of_length_le h, List.drop_eq_nil_of_le h]
theorem upto_get {α : Type} (f : α → α) (l : List α) (i : Nat) (z : α) : (upto f l i).getD i z = l.getD i z := by
  unfold upto
  by_cases h : i < l.length
  · rw [List.getD_eq_getElem?_getD, List.getElem?_append_right (by simp; omega), List.getD_eq_getElem?_getD]
    simp [Nat.min_eq_left (Nat.le_of_lt h)]
  · rw [List.getD_eq_getElem?_getD, List.getD_eq_getElem?_getD, List.getElem?_eq_none (by simp; omega), List.getElem?_eq_none (by omega)]
theorem upto_step {α : Type} (f : α → α) (l : List α) (i : Nat) (z : α) (h : i < l.length) : (upto f l i).set i (f (l.getD i z)) = upto f l (i + 1) := by
  unfold upto
  rw [List.set_append_right _ _ (by simp; omega)]
  simp only [List.length_map, List.length_take, Nat.min_eq_left (Nat.le_of_lt h), Nat.sub_self]
  rw [List.drop_eq_getElem_cons h, List.set_cons_zero, List.take_succ_eq_append_getElem h, List.map_append, List.getD_eq_getElem?_getD, List.getElem?_eq_getElem h]
  simp
/-- What stands while a query's copy is changed: its rows, its box (gx), the result's box (gr). -/
structure StC (w : World) (n2 n3 gx gr : Nat) (v0 v1 : Value) (xs : List Int) (ys : List S97) (W : World) : Prop where
  r0 : Kd.R (Kd.int .i64) 3 W w.heap.size (fun k => n2 ≤ k ∧ k < n3) v0 xs
  r1 : Kd.S k97 97 W w.heap.size (fun k => (n2 ≤ k ∧ k < n3) ∧ some k ≠ (v0 : Value).ownBlock) v1 ys
  bx : W.heap[gx]? = some (.cells #[v0, v1] 46 (0, 0))
  br : W.heap[gr]? = some (.cells #[.slice none 0 0, .slice none 0 0] 46 (0, 0))
  hb : Below w.heap.size w W
theorem StC.below {w : World} {n2 n3 gx gr : Nat} {v0 v1 : Value} {xs : List Int} {ys : List S97} {W W2 : World} (h : StC w n2 n3 gx gr v0 v1 xs ys W) (hb : Below W.heap.size W W2) : StC w n2 n3 gx gr v0 v1 xs ys W2 :=
  ⟨Kd.R_below h.r0 hb, Kd.S_below h.r1 hb, blk_below h.bx hb, blk_below h.br hb, below_step h.hb hb⟩
/-- The same with an atom's row lent and the atom's own box (ga). -/
structure StD (w : World) (n2 n3 gx gr ga : Nat) (v0 v1 vj : Value) (xs : List Int) (ys : List S97) (i : Int) (okj : Nat → Prop) (f0 : Int) (as_ : List Int) (W : World) : Prop where
  r0 : Kd.R (Kd.int .i64) 3 W w.heap.size (fun k => some k = (v0 : Value).ownBlock) v0 xs
  r1 : Kd.H k97 97 W w.heap.size (fun k => (n2 ≤ k ∧ k < n3) ∧ some k ≠ (v0 : Value).ownBlock) v1 ys i okj [.int .i64 f0, vj]
  rj : Kd.R (Kd.int .i64) 3 W w.heap.size okj vj as_
  bx : W.heap[gx]? = some (.cells #[v0, v1] 46 (0, 0))
  br : W.heap[gr]? = some (.cells #[.slice none 0 0, .slice none 0 0] 46 (0, 0))
  ba : W.heap[ga]? = some (.cells #[.int .i64 f0, vj] 97 (0, 0))
  hb : Below w.heap.size w W
theorem StD.below {w : World} {n2 n3 gx gr ga : Nat} {v0 v1 vj : Value} {xs : List Int} {ys : List S97} {i : Int} {okj : Nat → Prop} {f0 : Int} {as_ : List Int} {W W2 : World} (h : StD w n2 n3 gx gr ga v0 v1 vj xs ys i okj f0 as_ W) (hb : Below W.heap.size W W2) : StD w n2 n3 gx gr ga v0 v1 vj xs ys i okj f0 as_ W2 :=
  ⟨Kd.R_below h.r0 hb, Kd.H_kept h.r1 (Kept.of_below hb (fun _ => False)) (fun _ _ _ h => h), Kd.R_below h.rj hb, blk_below h.bx hb, blk_below h.br hb, blk_below h.ba hb, below_step h.hb hb⟩
set_option maxHeartbeats 8000000 in
set_option maxRecDepth 100000 in
theorem changed_calls (A0 : Option Addr) (c0 : Nat) (l0 : List Int) (A1 : Option Addr) (c1 : Nat) (l1 : List S97) (F : FuncId) (fn : Func) (hf : Try.prog.funcs[F]? = some fn) (hname : (fn.name == "runtime.NumGoroutine") = false) (hbd : fn.body.isSome = true) (cv : Value) (f : Int → Int) (w : World) (hcl : ∀ W, Below w.heap.size w W → ∀ t, Calls Try.prog F #[.int .i64 t, cv] W fun e w' => e = .returned (.int .i64 (f t)) ∧ Drawn0 W w') (hr0 : Kd.C (Kd.int .i64) w A0 l0.length l0) (hc0 : l0.length ≤ c0) (hr1 : Kd.C k97 w A1 l1.length l1) (hc1 : l1.length ≤ c1)
    (hh : l0.length ≤ 1048576) (hl : l1.length ≤ 1048576) (hs : ∀ x ∈ l1, x.f1.length ≤ 1048576) :
    Calls Try.prog 97 #[.agg #[.slice A0 l0.length c0, .slice A1 l1.length c1], .func (.func F) #[] #[cv]] w fun e w' => ∃ v0 v1 : Value, e = .returned (.agg #[v0, v1]) ∧ Kd.R (Kd.int .i64) 3 w' w.heap.size (fun _ => True) v0 (l0.map f) ∧ Kd.S k97 97 w' w.heap.size (fun k_ => some k_ ≠ (v0 : Value).ownBlock) v1 (l1.map (tF f)) ∧ Below w.heap.size w w' := by
  have hu46 := Try.underlying46
  have hu97 := Try.underlying97
  obtain ⟨km, hkm⟩ := (copyQuery_ev l0 l1 hh hl hs).rounds
  have HM := Aside0.mk hkm
  have R0 := Aside0.mk hr0
  have R1 := Aside0.mk hr1
  have HCL := Aside0.mk hcl
  have HS := Aside0.mk hs
  have HH := Aside0.mk (show l0.length ≤ 1048576 ∧ l1.length ≤ 1048576 from ⟨hh, hl⟩)
  have HC0 := Aside0.mk hc0
  have HC1 := Aside0.mk hc1
  have HB := Aside0.mk (Below.refl w.heap.size w)
  clear hkm hr0 hr1 hcl hs hh hl hc0 hc1
  go_enter Try.func97, Try.ntmps97
  go_wp2_with (first | ((with_reducible refine gate_dst (N := 2) rfl ?_); refine hold ?_))
  unfold Hold
  refine box_event ?hg (N := 2) ?hd (cs := #[.slice A0 l0.length c0, .slice A1 l1.length c1]) (t := 46) ?hr ?_
  case hd => rfl
  case hg => rfl
  case hr => first | (go_simp; done) | (go_simp; rfl)
  intro gq hg w1 hbox hb
  have BQ := Aside0.mk hbox
  have n1 := Aside0.mk (below_step HB.out hb)
  clear HB hbox hb hg
  have HB := n1
  clear n1
  go_wp2_with (first | ((with_reducible refine gate_dst (N := 4) rfl ?_); refine hold ?_))
  unfold Hold
  refine box_event ?hg2 (N := 4) ?hd2 (cs := #[.slice none 0 0, .slice none 0 0]) (t := 46) ?hr2 ?_
  case hd2 => rfl
  case hg2 => rfl
  case hr2 => first | (go_simp; done) | (go_simp; rfl)
  intro gr hg w2 hbox hb
  have BR := Aside0.mk hbox
  have n1 := Aside0.mk (below_step HB.out hb)
  have n2 := Aside0.mk (blk_below BQ.out hb)
  have GR := Aside0.mk (show w.heap.size ≤ gr from by rw [hg]; exact HB.out.size)
  clear HB hbox hb hg BQ
  have HB := n1
  have BQ := n2
  clear n1 n2
  have hx0 : w2.cell? ⟨gq, 0, none⟩ = some (.slice A0 l0.length c0) := (blk_cell BQ.out 0).trans rfl
  have hx1 : w2.cell? ⟨gq, 1, none⟩ = some (.slice A1 l1.length c1) := (blk_cell BQ.out 1).trans rfl
  go_wp2_with (first | (go_at_call 125; refine hold ?_))
  unfold Hold
  refine (impl_copyQuery.calls km _ _ l0 _ _ l1 l0 l1 _ (Kd.C_below R0.out HB.out) HC0.out (Kd.C_below R1.out HB.out) HC1.out HM.out).mono ?_
  rintro e w3 ⟨v0, v1, rfl, ho0, ho1, hb⟩
  obtain ⟨B0, d0, rfl⟩ := Kd.R_slice ho0
  obtain ⟨B1, d1, rfl⟩ := Kd.S_slice ho1
  have N2 : ∃ n2 : Nat, n2 = w2.heap.size := ⟨_, rfl⟩
  obtain ⟨n2, hn2⟩ := N2
  have N3 : ∃ n3 : Nat, n3 = w3.heap.size := ⟨_, rfl⟩
  obtain ⟨n3, hn3⟩ := N3
  have q0 := Aside0.mk (show Kd.R (Kd.int .i64) 3 w3 w.heap.size (fun k => n2 ≤ k ∧ k < n3) _ l0 from Kd.R_mono (newR ho0 HB.out.size) (fun k hk => by rw [hn2, hn3]; exact hk.1))
  have q1 := Aside0.mk (show Kd.S k97 97 w3 w.heap.size (fun k => (n2 ≤ k ∧ k < n3) ∧ some k ≠ (Value.slice B0 l0.length d0).ownBlock) _ l1 from Kd.S_mono (newS ho1 HB.out.size) (fun k hk => by rw [hn2, hn3]; exact hk))
  have q2 := Aside0.mk (blk_below BR.out hb)
  have q3 := Aside0.mk (below_step HB.out hb)
  have GR2 := Aside0.mk (show gr < n2 from by rw [hn2]; exact blk_lt BR.out)
  have G3 := Aside0.mk (show w.heap.size ≤ n2 ∧ n2 ≤ n3 from by rw [hn2, hn3]; exact ⟨HB.out.size, hb.size⟩)
  clear HB BR BQ hx0 hx1 ho0 ho1 hb R0 R1 HC0 HC1 HM hn2
  go_wp2_with (first | ((with_reducible refine gate_dst (N := 5) rfl ?_); refine hold ?_))
  unfold Hold
  refine box_event ?hg3 (N := 5) ?hd3 (cs := #[.slice none 0 0, .slice none 0 0]) (t := 46) ?hr3 ?_
  case hd3 => rfl
  case hg3 => rfl
  case hr3 => first | (go_simp; done) | (go_simp; rfl)
  intro gx hg w4 hbox hb
  have BX := Aside0.mk hbox
  have GX := Aside0.mk (show n3 ≤ gx from by rw [hg, hn3]; exact Nat.le_refl _)
  replace q0 := Aside0.mk (Kd.R_below q0.out hb)
  replace q1 := Aside0.mk (Kd.S_below q1.out hb)
  replace q2 := Aside0.mk (blk_below q2.out hb)
  replace q3 := Aside0.mk (below_step q3.out hb)
  clear hbox hb hg hn3
  have hy0 : w4.cell? ⟨gx, 0, none⟩ = some (.slice none 0 0) := (blk_cell BX.out 0).trans rfl
  have hy1 : w4.cell? ⟨gx, 1, none⟩ = some (.slice none 0 0) := (blk_cell BX.out 1).trans rfl
  have hf0 := blk_frozen BX.out 0
  have hf1 := blk_frozen BX.out 1
  go_wp2_with (first | ((with_reducible refine gate_store (t := 46) (p := 5) rfl ?_); refine hold ?_))
  unfold Hold
  refine store_event (t := 46) (p := 5) (v := ?vo_s5) (w1 := ((w4.setCell ⟨gx, 0, none⟩ (.slice B0 l0.length d0)).setCell ⟨gx, 1, none⟩ (.slice B1 l1.length d1))) ?hg5 ?ho5 ?hn5 ?hr5 ?_
  case ho5 => rfl
  case hg5 => rfl
  case hn5 => rfl
  case hr5 => first | (go_simp; done) | (go_simp; rfl)
  intro w5 hw
  have hk : Kept w4 w5 (fun k => k = gx) := by rw [hw]; exact kept_two _ _
  have ST := Aside0.mk (show StC w n2 n3 gx gr (.slice B0 l0.length d0) (.slice B1 l1.length d1) l0 l1 w5 from
    ⟨Kd.R_kept q0.out hk (fun k h1 h2 => by have := GX.out; omega), Kd.S_kept q1.out hk (fun k h1 h2 => by have := GX.out; omega),
      by rw [hw]; exact blk_put (cs := #[.slice B0 l0.length d0, .slice none 0 0]) (blk_put (cs := #[.slice none 0 0, .slice none 0 0]) BX.out 0 _ rfl) 1 _ rfl,
      blk_kept q2.out hk (fun h => by have h1 := GX.out; have h2 := GR2.out; have h3 := G3.out; omega),
      by rw [hw]; exact below_set (below_set q3.out (by have h1 := GX.out; have h3 := G3.out; show w.heap.size ≤ gx; omega)) (by have h1 := GX.out; have h3 := G3.out; show w.heap.size ≤ gx; omega)⟩)
  clear q0 q1 q2 q3 hk hw BX hy0 hy1 hf0 hf1
  have hx0 : w5.cell? ⟨gx, 0, none⟩ = some (.slice B0 l0.length d0) := (blk_cell ST.out.bx 0).trans rfl
  have hx1 : w5.cell? ⟨gx, 1, none⟩ = some (.slice B1 l1.length d1) := (blk_cell ST.out.bx 1).trans rfl
  go_wp2
  go_loopg [17] l0.length (fun kq v17 w' => ∃ x : Int, v17 = .int .i64 x ∧ Aside0 (0 ≤ x ∧ kq + x.toNat = l0.length) ∧ Aside0 (StC w n2 n3 gx gr (.slice B0 l0.length d0) (.slice B1 l1.length d1) (upto f l0 x.toNat) l1 w'))
  case atStart => exact ⟨0, rfl, ⟨⟨Int.le_refl _, rfl⟩⟩, ⟨by rw [show (0 : Int).toNat = 0 from rfl, upto_0]; exact ST.out⟩⟩
  case round =>
    clear ST
    obtain ⟨x, rfl, HG, ST⟩ := hrel
    by_cases c6 : x < (l0.length : Int)
    · have c6b0 : decide (x < (l0.length : Int)) = true := decide_eq_true c6
      have p5 : 0 ≤ x := HG.out.1
      have hlt : x.toNat < l0.length := by omega
      have HLT := Aside0.mk hlt
      obtain ⟨go, co, eo, gb, gl, cl, hgo⟩ := Kd.R_form ST.out.r0 (by rw [upto_len]; omega)
      injection eo with ea en ec
      subst ea; subst ec
      clear en gb gl cl hgo
      have hx5 : wr.cell? ⟨go, x.toNat, none⟩ = some (.int .i64 (rd l0 x)) := by
        have h1 := (Kd.R_celln 0 ST.out.r0 x p5 c6).1
        rw [show rdOf 0 (upto f l0 x.toNat) x = rd l0 x from upto_get _ _ _ _] at h1
        exact h1
      have q5 := eq_true c6
      have r5 := eq_true p5
      clear hlt
      try go_wp2
      have HDW := Aside0.mk (ST.out.below (below_drew (Below.refl _ _)))
      refine start_ (n := 8) (S := fun w' => w'.cell? ⟨gx, 0, none⟩ = some (.slice (some ⟨go, 0, none⟩) l0.length d0)) (ds := []) #[false, false, false, false, false, false, false, false] (by kernel_rfl) rfl rfl ((blk_cell HDW.out.bx 0).trans rfl) (fun hHeld => ?_)
      generalize wr.drew = w6 at HDW hHeld ⊢
      refine pure_ (i := 0) (N := some 22) (v := ?_) (a' := ?_) #[true, false, false, false, false, false, false, false] rfl rfl (by kernel_rfl) (fun _ _ _ h => h) (Or.inl ⟨by rfl, ?_⟩) ?_ ?_
      rotate_left
      · intro w'; go_simp; with_reducible rfl
      rotate_left
      · simp only [Act.put, List.setIfInBounds_toArray, List.set_cons_zero, List.set_cons_succ, i64_w, i32_w]; rfl
      refine pure_ (i := 2) (N := some 24) (v := ?_) (a' := ?_) #[true, false, true, false, false, false, false, false] rfl rfl (by kernel_rfl) (fun _ _ _ h => h) (Or.inl ⟨by rfl, ?_⟩) ?_ ?_
      rotate_left
      · intro w'; go_simp; with_reducible rfl
      rotate_left
      · simp only [Act.put, List.setIfInBounds_toArray, List.set_cons_zero, List.set_cons_succ, i64_w, i32_w]; rfl
      refine pure_ (i := 3) (N := some 25) (v := ?_) (a' := ?_) #[true, false, true, true, false, false, false, false] rfl rfl (by kernel_rfl) (fun _ _ _ h => h) (Or.inl ⟨by rfl, ?_⟩) ?_ ?_
      rotate_left
      · intro w'; go_simp; with_reducible rfl
      rotate_left
      · simp only [Act.put, List.setIfInBounds_toArray, List.set_cons_zero, List.set_cons_succ, i64_w, i32_w]; rfl
      refine pure_ (i := 4) (N := some 26) (v := ?_) (a' := ?_) #[true, false, true, true, true, false, false, false] rfl rfl (by kernel_rfl) (fun _ _ _ h => h) (Or.inl ⟨by rfl, ?_⟩) ?_ ?_
      rotate_left
      · intro w'; go_simp; with_reducible rfl
      rotate_left
      · simp only [Act.put, List.setIfInBounds_toArray, List.set_cons_zero, List.set_cons_succ, i64_w, i32_w]; rfl
      refine take_ (i := 1) (N := some 23) (v := ?_) (a' := ?_) #[true, true, true, true, true, false, false, false] rfl rfl (by kernel_rfl) (fun _ _ _ h => h) (Or.inl ⟨by rfl, ?_⟩) hHeld ?_ ?_
      rotate_left
      · rintro w' s0; go_simp; with_reducible rfl
      rotate_left
      · simp only [Act.put, List.setIfInBounds_toArray, List.set_cons_zero, List.set_cons_succ, i64_w, i32_w]; rfl
      refine one_ (i := 5) (N := some 27) #[true, true, true, true, true, true, false, false] rfl rfl (by kernel_rfl) (by decide) (fun K hK => ?_)
      refine goesC_ hf hname hbd #[] #[cv] #[.int .i64 (rd l0 x), cv] (by rfl) rfl rfl (by rfl) (by (try simp only [List.map_toArray, List.map_cons, List.map_nil, List.append_toArray, List.nil_append, List.cons_append]); first | done | rfl) ?_
      refine (HCL.out w6 HDW.out.hb _).mono ?_
      rintro e w7 ⟨rfl, hd⟩
      refine ⟨_, rfl, ?_⟩
      have HD7 := Aside0.mk (HDW.out.below hd.below)
      clear HDW hd
      refine hK.out _ _ ((blk_cell HD7.out.bx 0).trans rfl) (fun hHeld => ?_)
      clear hK K
      refine norm_ (a' := ?_) ?_ ?_
      rotate_left
      · show Act.put _ (some 27) _ = _; simp only [Act.put, List.setIfInBounds_toArray, List.set_cons_zero, List.set_cons_succ, i64_w, i32_w]; rfl
      refine pure_ (i := 6) (N := some 28) (v := ?_) (a' := ?_) #[true, true, true, true, true, true, true, false] rfl rfl (by kernel_rfl) (fun _ _ _ h => h) (Or.inl ⟨by rfl, ?_⟩) ?_ ?_
      rotate_left
      · intro w'; go_simp; with_reducible rfl
      rotate_left
      · simp only [Act.put, List.setIfInBounds_toArray, List.set_cons_zero, List.set_cons_succ, i64_w, i32_w]; rfl
      refine one_ (i := 7) (N := none) #[true, true, true, true, true, true, true, true] rfl rfl (by kernel_rfl) (by decide) (fun K hK => ?_)
      have hc7 := Kd.R_celln 0 HD7.out.r0 x p5 c6
      have hx7 := hc7.1
      have hf7 := hc7.2
      clear hc7
      have HP := Kd.R_putg HD7.out.r0 x (f (rd l0 x))
      have hk : Kept w7 (w7.setCell ⟨go, x.toNat, none⟩ (.int .i64 (f (rd l0 x)))) (fun k => some k = (Value.slice (some ⟨go, 0, none⟩) l0.length d0).ownBlock) := Kept.of_grown HP.2 (Kept.refl _ _) (fun k he => .inl he.symm)
      have GO := HD7.out.r0.1 go rfl
      have HE := Aside0.mk (show StC w n2 n3 gx gr (.slice (some ⟨go, 0, none⟩) l0.length d0) (.slice B1 l1.length d1) (upto f l0 (x.toNat + 1)) l1 (w7.setCell ⟨go, x.toNat, none⟩ (.int .i64 (f (rd l0 x)))) from
        ⟨by rw [← upto_step (f) l0 x.toNat 0 HLT.out]; exact HP.1, Kd.S_kept HD7.out.r1 hk (fun k h1 h2 => h1.2 h2),
          blk_kept HD7.out.bx hk (fun h => by injection h with h_; have h : _ = go := h_; have h1 := GX.out; omega), blk_kept HD7.out.br hk (fun h => by injection h with h_; have h : _ = go := h_; have h1 := GR2.out; omega), below_set HD7.out.hb (by have h3 := G3.out; show w.heap.size ≤ go; omega)⟩)
      clear HP hk GO HD7
      refine skip_ (w1 := ?_) (by rfl) rfl ?_ ?_
      rotate_left
      · go_simp; rfl
      refine hK.out _ _ ((blk_cell HE.out.bx 0).trans rfl) (fun _ => ?_)
      clear hK K
      refine done_ (by kernel_rfl) ?_
      go_wp2
      go_roundg (gk - 1)
      case measure => have := HG.out; have := HLT.out; omega
      case rel => exact ⟨(wrap64 (x + 1)), rfl, ⟨by have := HG.out; have := HLT.out; have h3 := HH.out.1; rw [w64 (by omega) (by omega)]; omega⟩, ⟨by rw [w64 (by have := HG.out; omega) (by have h3 := HH.out.1; have := HLT.out; omega), show (x + 1).toNat = x.toNat + 1 by have := HG.out; omega]; exact HE.out⟩⟩
    · have c6b0 : decide (x < (l0.length : Int)) = false := decide_eq_false c6
      have HX := Aside0.mk (show upto f l0 x.toNat = l0.map (f) from upto_end _ _ _ (by omega))
      clear c6
      have SU := Aside0.mk (show StC w n2 n3 gx gr (.slice B0 l0.length d0) (.slice B1 l1.length d1) (l0.map f) l1 wr from by rw [← HX.out]; exact ST.out)
      have hx0 : wr.cell? ⟨gx, 0, none⟩ = some (.slice B0 l0.length d0) := (blk_cell SU.out.bx 0).trans rfl
      have hx1 : wr.cell? ⟨gx, 1, none⟩ = some (.slice B1 l1.length d1) := (blk_cell SU.out.bx 1).trans rfl
      clear ST HX HG
      go_wp2
      go_loopg [33] l1.length (fun kq v33 w' => ∃ y : Int, v33 = .int .i64 y ∧ Aside0 (0 ≤ y ∧ kq + y.toNat = l1.length) ∧ Aside0 (StC w n2 n3 gx gr (.slice B0 l0.length d0) (.slice B1 l1.length d1) (l0.map f) (upto (tF f) l1 y.toNat) w'))
      case atStart => exact ⟨0, rfl, ⟨⟨Int.le_refl _, rfl⟩⟩, ⟨by rw [show (0 : Int).toNat = 0 from rfl, upto_0]; exact SU.out⟩⟩
      case round =>
        clear SU c6b0 hx0 hx1
        obtain ⟨y, rfl, HG, ST⟩ := hrel
        by_cases c6 : y < (l1.length : Int)
        · have c6b0 : decide (y < (l1.length : Int)) = true := decide_eq_true c6
          have p5 : 0 ≤ y := HG.out.1
          have hlt : y.toNat < l1.length := by omega
          have HLT := Aside0.mk hlt
          obtain ⟨go, co, eo, gb, gl, cl, hgo⟩ := Kd.S_form ST.out.r1 (by rw [upto_len]; omega)
          injection eo with ea en ec
          subst ea; subst ec
          clear en gb gl cl hgo
          obtain ⟨okj, cj, hclj, hMj, hccj, hokj, hHj⟩ := Kd.S_lend ST.out.r1 z97 y p5 c6
          rw [upto_get] at hMj
          have hin : l1.getD y.toNat z97 ∈ l1 := by rw [List.getD_eq_getElem?_getD, List.getElem?_eq_getElem hlt]; exact List.getElem_mem _
          have hsm := HS.out _ hin
          have HEL := Aside0.mk (upto_step (tF f) l1 y.toNat z97 hlt)
          generalize l1.getD y.toNat z97 = el at hMj hsm HEL
          obtain ⟨f0, fl⟩ := el
          obtain ⟨vj, rfl, gj⟩ := k97_openM hMj
          have HSM := Aside0.mk (show fl.length ≤ 1048576 from hsm)
          have hx0 : wr.cell? ⟨go, y.toNat * 2, none⟩ = some (.int .i64 f0) := hccj 0 _ rfl
          have hx1 : wr.cell? ⟨go, y.toNat * 2 + 1, none⟩ = some vj := hccj 1 _ rfl
          have RJ := Aside0.mk (show Kd.R (Kd.int .i64) 3 wr w.heap.size okj vj fl from gj)
          have RH := Aside0.mk hHj
          have HOK := Aside0.mk (fun k hk => (hokj k hk).1.1)
          have HOK2 := Aside0.mk (fun k hk => (hokj k hk).1.2)
          obtain ⟨B2, d2, rfl⟩ := Kd.R_slice gj
          have q5 := eq_true c6
          have r5 := eq_true p5
          clear hlt hclj hMj hccj hokj hHj gj hin hsm
          go_wp2_with (first | ((with_reducible refine gate_dst (N := 9) rfl ?_); refine hold ?_))
          unfold Hold
          refine box_event ?hg6 (N := 9) ?hd6 (cs := #[.int .i64 0, .slice none 0 0]) (t := 97) ?hr6 ?_
          case hd6 => rfl
          case hg6 => rfl
          case hr6 => first | (go_simp; done) | (go_simp; rfl)
          intro ga hg w6 hbox hb
          have BA := Aside0.mk hbox
          have GA := Aside0.mk (show n3 ≤ ga from by rw [hg]; have h1 := GX.out; have h2 := blk_lt ST.out.bx; omega)
          have GXA := Aside0.mk (show gx < ga from by rw [hg]; exact blk_lt ST.out.bx)
          replace ST := Aside0.mk (ST.out.below hb)
          replace RJ := Aside0.mk (Kd.R_below RJ.out hb)
          replace RH := Aside0.mk (Kd.H_kept RH.out (Kept.of_below hb (fun _ => False)) (fun _ _ _ h => h))
          clear hbox hb hg hx0 hx1
          have hy0 : w6.cell? ⟨ga, 0, none⟩ = some (.int .i64 0) := (blk_cell BA.out 0).trans rfl
          have hy1 : w6.cell? ⟨ga, 1, none⟩ = some (.slice none 0 0) := (blk_cell BA.out 1).trans rfl
          have hf0 := blk_frozen BA.out 0
          have hf1 := blk_frozen BA.out 1
          go_wp2_with (first | ((with_reducible refine gate_store (t := 97) (p := 9) rfl ?_); refine hold ?_))
          unfold Hold
          refine store_event (t := 97) (p := 9) (v := ?vo_s8) (w1 := ((w6.setCell ⟨ga, 0, none⟩ (.int .i64 f0)).setCell ⟨ga, 1, none⟩ (.slice B2 fl.length d2))) ?hg8 ?ho8 ?hn8 ?hr8 ?_
          case ho8 => rfl
          case hg8 => rfl
          case hn8 => rfl
          case hr8 => first | (go_simp; done) | (go_simp; rfl)
          intro w8 hw
          have hk : Kept w6 w8 (fun k => k = ga) := by rw [hw]; exact kept_two _ _
          have OWN := Aside0.mk (fun k (hk : some k = (Value.slice B0 l0.length d0).ownBlock) => ST.out.r0.1 k hk.symm)
          have SD := Aside0.mk (show StD w n2 n3 gx gr ga (.slice B0 l0.length d0) (.slice (some ⟨go, 0, none⟩) l1.length d1) (.slice B2 fl.length d2) (l0.map f) (upto (tF f) l1 y.toNat) y okj f0 fl w8 from
            ⟨Kd.R_kept (Kd.R_tight rfl ST.out.r0) hk (fun k h1 h2 => by have h3 := OWN.out k h1; have h4 := GA.out; omega), Kd.H_kept RH.out hk (fun k h1 h2 h3 => by have h4 := GA.out; omega), Kd.R_kept RJ.out hk (fun k h1 h3 => by have h4 := GA.out; have h5 := HOK.out k h1; omega),
              blk_kept ST.out.bx hk (fun h => by have h1 := GXA.out; omega), blk_kept ST.out.br hk (fun h => by have h1 := GA.out; have h2 := GR2.out; have h3 := G3.out; omega),
              by rw [hw]; exact blk_put (cs := #[.int .i64 f0, .slice none 0 0]) (blk_put (cs := #[.int .i64 0, .slice none 0 0]) BA.out 0 _ rfl) 1 _ rfl,
              by rw [hw]; exact below_set (below_set ST.out.hb (by have h1 := GA.out; have h3 := G3.out; show w.heap.size ≤ ga; omega)) (by have h1 := GA.out; have h3 := G3.out; show w.heap.size ≤ ga; omega)⟩)
          clear ST RJ RH hk hw BA hy0 hy1 hf0 hf1
          have hx1 : w8.cell? ⟨ga, 1, none⟩ = some (.slice B2 fl.length d2) := (blk_cell SD.out.ba 1).trans rfl
          go_wp2
          go_loopg [40] fl.length (fun kq v40 w' => ∃ x : Int, v40 = .int .i64 x ∧ Aside0 (0 ≤ x ∧ kq + x.toNat = fl.length) ∧ Aside0 (StD w n2 n3 gx gr ga (.slice B0 l0.length d0) (.slice (some ⟨go, 0, none⟩) l1.length d1) (.slice B2 fl.length d2) (l0.map f) (upto (tF f) l1 y.toNat) y okj f0 (upto f fl x.toNat) w'))
          case atStart => exact ⟨0, rfl, ⟨⟨Int.le_refl _, rfl⟩⟩, ⟨by rw [show (0 : Int).toNat = 0 from rfl, upto_0]; exact SD.out⟩⟩
          case round =>
            clear SD c6b0 hx1
            obtain ⟨x, rfl, HG2, ST⟩ := hrel
            by_cases c8 : x < (fl.length : Int)
            · have c8b0 : decide (x < (fl.length : Int)) = true := decide_eq_true c8
              have p7 : 0 ≤ x := HG2.out.1
              have hlt : x.toNat < fl.length := by omega
              have HLT2 := Aside0.mk hlt
              obtain ⟨gj, co, eo, gb, gl, cl, hgo⟩ := Kd.R_form ST.out.rj (by rw [upto_len]; omega)
              injection eo with ea en ec
              subst ea; subst ec
              clear en gb gl cl hgo
              have hx5 : wr.cell? ⟨gj, x.toNat, none⟩ = some (.int .i64 (rd fl x)) := by
                have h1 := (Kd.R_celln 0 ST.out.rj x p7 c8).1
                rw [show rdOf 0 (upto f fl x.toNat) x = rd fl x from upto_get _ _ _ _] at h1
                exact h1
              have q7 := eq_true c8
              have r7 := eq_true p7
              clear hlt
              try go_wp2
              have HDW := Aside0.mk (ST.out.below (below_drew (Below.refl _ _)))
              refine start_ (n := 8) (S := fun w' => w'.cell? ⟨ga, 1, none⟩ = some (.slice (some ⟨gj, 0, none⟩) fl.length d2)) (ds := []) #[false, false, false, false, false, false, false, false] (by kernel_rfl) rfl rfl ((blk_cell HDW.out.ba 1).trans rfl) (fun hHeld => ?_)
              generalize wr.drew = w9 at HDW hHeld ⊢
              refine pure_ (i := 0) (N := some 45) (v := ?_) (a' := ?_) #[true, false, false, false, false, false, false, false] rfl rfl (by kernel_rfl) (fun _ _ _ h => h) (Or.inl ⟨by rfl, ?_⟩) ?_ ?_
              rotate_left
              · intro w'; go_simp; with_reducible rfl
              rotate_left
              · simp only [Act.put, List.setIfInBounds_toArray, List.set_cons_zero, List.set_cons_succ, i64_w, i32_w]; rfl
              refine pure_ (i := 2) (N := some 47) (v := ?_) (a' := ?_) #[true, false, true, false, false, false, false, false] rfl rfl (by kernel_rfl) (fun _ _ _ h => h) (Or.inl ⟨by rfl, ?_⟩) ?_ ?_
              rotate_left
              · intro w'; go_simp; with_reducible rfl
              rotate_left
              · simp only [Act.put, List.setIfInBounds_toArray, List.set_cons_zero, List.set_cons_succ, i64_w, i32_w]; rfl
              refine pure_ (i := 3) (N := some 48) (v := ?_) (a' := ?_) #[true, false, true, true, false, false, false, false] rfl rfl (by kernel_rfl) (fun _ _ _ h => h) (Or.inl ⟨by rfl, ?_⟩) ?_ ?_
              rotate_left
              · intro w'; go_simp; with_reducible rfl
              rotate_left
              · simp only [Act.put, List.setIfInBounds_toArray, List.set_cons_zero, List.set_cons_succ, i64_w, i32_w]; rfl
              refine pure_ (i := 4) (N := some 49) (v := ?_) (a' := ?_) #[true, false, true, true, true, false, false, false] rfl rfl (by kernel_rfl) (fun _ _ _ h => h) (Or.inl ⟨by rfl, ?_⟩) ?_ ?_
              rotate_left
              · intro w'; go_simp; with_reducible rfl
              rotate_left
              · simp only [Act.put, List.setIfInBounds_toArray, List.set_cons_zero, List.set_cons_succ, i64_w, i32_w]; rfl
              refine take_ (i := 1) (N := some 46) (v := ?_) (a' := ?_) #[true, true, true, true, true, false, false, false] rfl rfl (by kernel_rfl) (fun _ _ _ h => h) (Or.inl ⟨by rfl, ?_⟩) hHeld ?_ ?_
              rotate_left
              · rintro w' s0; go_simp; with_reducible rfl
              rotate_left
              · simp only [Act.put, List.setIfInBounds_toArray, List.set_cons_zero, List.set_cons_succ, i64_w, i32_w]; rfl
              refine one_ (i := 5) (N := some 50) #[true, true, true, true, true, true, false, false] rfl rfl (by kernel_rfl) (by decide) (fun K hK => ?_)
              refine goesC_ hf hname hbd #[] #[cv] #[.int .i64 (rd fl x), cv] (by rfl) rfl rfl (by rfl) (by (try simp only [List.map_toArray, List.map_cons, List.map_nil, List.append_toArray, List.nil_append, List.cons_append]); first | done | rfl) ?_
              refine (HCL.out w9 HDW.out.hb _).mono ?_
              rintro e w10 ⟨rfl, hd⟩
              refine ⟨_, rfl, ?_⟩
              have HD7 := Aside0.mk (HDW.out.below hd.below)
              clear HDW hd
              refine hK.out _ _ ((blk_cell HD7.out.ba 1).trans rfl) (fun hHeld => ?_)
              clear hK K
              refine norm_ (a' := ?_) ?_ ?_
              rotate_left
              · show Act.put _ (some 50) _ = _; simp only [Act.put, List.setIfInBounds_toArray, List.set_cons_zero, List.set_cons_succ, i64_w, i32_w]; rfl
              refine pure_ (i := 6) (N := some 51) (v := ?_) (a' := ?_) #[true, true, true, true, true, true, true, false] rfl rfl (by kernel_rfl) (fun _ _ _ h => h) (Or.inl ⟨by rfl, ?_⟩) ?_ ?_
              rotate_left
              · intro w'; go_simp; with_reducible rfl
              rotate_left
              · simp only [Act.put, List.setIfInBounds_toArray, List.set_cons_zero, List.set_cons_succ, i64_w, i32_w]; rfl
              refine one_ (i := 7) (N := none) #[true, true, true, true, true, true, true, true] rfl rfl (by kernel_rfl) (by decide) (fun K hK => ?_)
              have hc7 := Kd.R_celln 0 HD7.out.rj x p7 c8
              have hx7 := hc7.1
              have hf7 := hc7.2
              clear hc7
              have HP := Kd.R_putg HD7.out.rj x (f (rd fl x))
              have hk : Kept w10 (w10.setCell ⟨gj, x.toNat, none⟩ (.int .i64 (f (rd fl x)))) (fun k => some k = (Value.slice (some ⟨gj, 0, none⟩) fl.length d2).ownBlock) := Kept.of_grown HP.2 (Kept.refl _ _) (fun k he => .inl he.symm)
              have GO := HOK.out gj (HD7.out.rj.1 gj rfl)
              have HE := Aside0.mk (show StD w n2 n3 gx gr ga (.slice B0 l0.length d0) (.slice (some ⟨go, 0, none⟩) l1.length d1) (.slice (some ⟨gj, 0, none⟩) fl.length d2) (l0.map f) (upto (tF f) l1 y.toNat) y okj f0 (upto f fl (x.toNat + 1)) (w10.setCell ⟨gj, x.toNat, none⟩ (.int .i64 (f (rd fl x)))) from
                ⟨Kd.R_kept HD7.out.r0 hk (fun k h1 h2 => by injection h2 with h_; have h : k = gj := h_; subst h; exact HOK2.out _ (HD7.out.rj.1 _ rfl) h1), Kd.H_kept HD7.out.r1 hk (fun k h1 h2 h3 => by injection h3 with h_; have h : k = gj := h_; subst h; exact h2 (HD7.out.rj.1 _ rfl)), by rw [← upto_step (f) fl x.toNat 0 HLT2.out]; exact HP.1,
                  blk_kept HD7.out.bx hk (fun h => by injection h with h_; have h : _ = gj := h_; have h1 := GX.out; omega), blk_kept HD7.out.br hk (fun h => by injection h with h_; have h : _ = gj := h_; have h1 := GR2.out; omega), blk_kept HD7.out.ba hk (fun h => by injection h with h_; have h : _ = gj := h_; have h1 := GA.out; omega), below_set HD7.out.hb (by have h3 := G3.out; show w.heap.size ≤ gj; omega)⟩)
              clear HP hk GO HD7
              refine skip_ (w1 := ?_) (by rfl) rfl ?_ ?_
              rotate_left
              · go_simp; rfl
              refine hK.out _ _ ((blk_cell HE.out.ba 1).trans rfl) (fun _ => ?_)
              clear hK K
              refine done_ (by kernel_rfl) ?_
              go_wp2
              go_roundg (fl.length - (x.toNat + 1))
              case measure => have := HG2.out; have := HLT2.out; omega
              case rel => exact ⟨(wrap64 (x + 1)), rfl, ⟨by have := HG2.out; have := HLT2.out; have h3 := HSM.out; rw [w64 (by omega) (by omega)]; omega⟩, ⟨by rw [w64 (by have := HG2.out; omega) (by have h3 := HSM.out; have := HLT2.out; omega), show (x + 1).toNat = x.toNat + 1 by have := HG2.out; omega]; exact HE.out⟩⟩
            · have c8b0 : decide (x < (fl.length : Int)) = false := decide_eq_false c8
              have HX := Aside0.mk (show upto f fl x.toNat = fl.map (f) from upto_end _ _ _ (by omega))
              have SN := Aside0.mk (show StC w n2 n3 gx gr (.slice B0 l0.length d0) (.slice (some ⟨go, 0, none⟩) l1.length d1) (l0.map f) (upto (tF f) l1 (y.toNat + 1)) wr from
                ⟨Kd.R_mono ST.out.r0 (fun k hk => OWN.out k hk), by rw [← HEL.out]; exact Kd.H_back ST.out.r1 (k97_mkM wr w.heap.size okj (tF f ⟨f0, fl⟩) (show Kd.R (Kd.int .i64) 3 wr w.heap.size okj _ (fl.map f) from by rw [← HX.out]; exact ST.out.rj)) (fun _ hk => hk), ST.out.bx, ST.out.br, ST.out.hb⟩)
              clear ST HX c8
              go_wp2
              go_roundg (l1.length - (y.toNat + 1))
              case measure => have := HG.out; have := HLT.out; omega
              case rel => exact ⟨(wrap64 (y + 1)), rfl, ⟨by have := HG.out; have := HLT.out; have h3 := HH.out.2; rw [w64 (by omega) (by omega)]; omega⟩, ⟨by rw [w64 (by have := HG.out; omega) (by have h3 := HH.out.2; have := HLT.out; omega), show (y + 1).toNat = y.toNat + 1 by have := HG.out; omega]; exact SN.out⟩⟩
        · have c6b0 : decide (y < (l1.length : Int)) = false := decide_eq_false c6
          have HX := Aside0.mk (show upto (tF f) l1 y.toNat = l1.map (tF f) from upto_end _ _ _ (by omega))
          clear c6
          have SU := Aside0.mk (show StC w n2 n3 gx gr (.slice B0 l0.length d0) (.slice B1 l1.length d1) (l0.map f) (l1.map (tF f)) wr from by rw [← HX.out]; exact ST.out)
          have hx0 : wr.cell? ⟨gx, 0, none⟩ = some (.slice B0 l0.length d0) := (blk_cell SU.out.bx 0).trans rfl
          have hx1 : wr.cell? ⟨gx, 1, none⟩ = some (.slice B1 l1.length d1) := (blk_cell SU.out.bx 1).trans rfl
          have hy0 : wr.cell? ⟨gr, 0, none⟩ = some (.slice none 0 0) := (blk_cell SU.out.br 0).trans rfl
          have hy1 : wr.cell? ⟨gr, 1, none⟩ = some (.slice none 0 0) := (blk_cell SU.out.br 1).trans rfl
          have hf0 := blk_frozen SU.out.br 0
          have hf1 := blk_frozen SU.out.br 1
          clear ST HX HG
          go_wp2
          refine bodyPost_ret (results_cell_row rfl _ _ gr 46 #[.slice B0 l0.length d0, .slice B1 l1.length d1] (0, 0) _ rfl (blk_put (cs := #[.slice B0 l0.length d0, .slice none 0 0]) (blk_put (cs := #[.slice none 0 0, .slice none 0 0]) SU.out.br 0 _ rfl) 1 _ rfl) Try.underlying46 rfl (by kernel_rfl)) rfl ?_
          have hk : Kept wr ((wr.setCell ⟨gr, 0, none⟩ (.slice B0 l0.length d0)).setCell ⟨gr, 1, none⟩ (.slice B1 l1.length d1)) (fun k => k = gr) := kept_two _ _
          have h2 := GR2.out
          have h3 := GR.out
          exact ⟨_, _, rfl, Kd.R_mono (Kd.R_kept SU.out.r0 hk (fun k h1 h4 => by omega)) (fun _ _ => trivial), Kd.S_mono (Kd.S_kept SU.out.r1 hk (fun k h1 h4 => by omega)) (fun _ h => h.2), below_set (below_set SU.out.hb h3) h3⟩

/-- What stands while the image of a query is looked through. -/
structure StM (w : World) (gi gt : Nat) (v0 v1 : Value) (xs : List Int) (ys : List S97) (t0 t1 : Value) (W : World) : Prop where
  r0 : Kd.R (Kd.int .i64) 3 W w.heap.size (fun _ => True) v0 xs
  r1 : Kd.S k97 97 W w.heap.size (fun k_ => some k_ ≠ (v0 : Value).ownBlock) v1 ys
  bi : W.heap[gi]? = some (.cells #[v0, v1] 46 (0, 0))
  bt : W.heap[gt]? = some (.cells #[t0, t1] 46 (0, 0))
  hb : Below w.heap.size w W
theorem StM.below {w : World} {gi gt : Nat} {v0 v1 t0 t1 : Value} {xs : List Int} {ys : List S97} {W W2 : World} (h : StM w gi gt v0 v1 xs ys t0 t1 W) (hb : Below W.heap.size W W2) : StM w gi gt v0 v1 xs ys t0 t1 W2 :=
  ⟨Kd.R_below h.r0 hb, Kd.S_below h.r1 hb, blk_below h.bi hb, blk_below h.bt hb, below_step h.hb hb⟩
set_option maxHeartbeats 8000000 in
set_option maxRecDepth 100000 in
theorem maps_calls (A0_0 : Option Addr) (c0_0 : Nat) (l0_0 : List Int) (A0_1 : Option Addr) (c0_1 : Nat) (l0_1 : List (S97)) (A1_0 : Option Addr) (c1_0 : Nat) (l1_0 : List Int) (A1_1 : Option Addr) (c1_1 : Nat) (l1_1 : List (S97)) (A2 : Option Addr) (c2 : Nat) (l2 : List Int) (w : World) (hr0_0 : Kd.C (Kd.int .i64) w A0_0 l0_0.length l0_0) (hc0_0 : l0_0.length ≤ c0_0) (hr0_1 : Kd.C k97 w A0_1 l0_1.length l0_1) (hc0_1 : l0_1.length ≤ c0_1) (hr1_0 : Kd.C (Kd.int .i64) w A1_0 l1_0.length l1_0) (hc1_0 : l1_0.length ≤ c1_0) (hr1_1 : Kd.C k97 w A1_1 l1_1.length l1_1) (hc1_1 : l1_1.length ≤ c1_1) (hr2 : Kd.C (Kd.int .i64) w A2 l2.length l2) (hc2 : l2.length ≤ c2)
    (hz : (l0_0.length ≤ 1048576 ∧ l0_1.length ≤ 1048576 ∧ l1_1.length ≤ 1048576 ∧ l2.length ≤ 1048576) ∧ ∀ x ∈ l0_1, x.f1.length ≤ 1048576) :
    Calls Try.prog 104 #[.agg #[.slice A0_0 l0_0.length c0_0, .slice A0_1 l0_1.length c0_1], .agg #[.slice A1_0 l1_0.length c1_0, .slice A1_1 l1_1.length c1_1], .slice A2 l2.length c2] w fun e w' => e = .returned (.bool (mMaps l0_0 l0_1 l1_0 l1_1 l2)) ∧ Below w.heap.size w w' := by
  have hmf : ∀ (fn : Fn) (first cap : Array Value) (w : World), (Instr.makeFunc fn first cap).run Try.prog w = .ok (.func fn first cap) w := fun _ _ _ _ => rfl
  have hu46 := Try.underlying46
  have hu97 := Try.underlying97
  obtain ⟨ks, hks⟩ := (slEqual_ev (l0_0.map (mApply l2)) l1_0 (by simp; omega)).rounds
  have HSE := Aside0.mk hks
  have HR0 := Aside0.mk hr0_0
  have HR1 := Aside0.mk hr0_1
  have HT0 := Aside0.mk hr1_0
  have HT1 := Aside0.mk hr1_1
  have HR2 := Aside0.mk hr2
  have HC := Aside0.mk (show l0_0.length ≤ c0_0 ∧ l0_1.length ≤ c0_1 ∧ l1_0.length ≤ c1_0 ∧ l1_1.length ≤ c1_1 ∧ l2.length ≤ c2 from ⟨hc0_0, hc0_1, hc1_0, hc1_1, hc2⟩)
  have HZ := Aside0.mk hz
  have HB := Aside0.mk (Below.refl w.heap.size w)
  clear hks hr0_0 hr0_1 hr1_0 hr1_1 hr2 hc0_0 hc0_1 hc1_0 hc1_1 hc2 hz
  go_enter Try.func104, Try.ntmps104
  go_wp2_with (first | ((with_reducible refine gate_dst (N := 3) rfl ?_); refine hold ?_))
  unfold Hold
  refine box_event ?hg (N := 3) ?hd (cs := #[.slice A0_0 l0_0.length c0_0, .slice A0_1 l0_1.length c0_1]) (t := 46) ?hr ?_
  case hd => rfl
  case hg => rfl
  case hr => first | (go_simp; done) | (go_simp; rfl)
  intro gq hg w1 hbox hb
  have BQ := Aside0.mk hbox
  replace HB := Aside0.mk (below_step HB.out hb)
  clear hbox hb hg
  go_wp2_with (first | ((with_reducible refine gate_dst (N := 4) rfl ?_); refine hold ?_))
  unfold Hold
  refine box_event ?hg1 (N := 4) ?hd1 (cs := #[.slice A1_0 l1_0.length c1_0, .slice A1_1 l1_1.length c1_1]) (t := 46) ?hr1 ?_
  case hd1 => rfl
  case hg1 => rfl
  case hr1 => first | (go_simp; done) | (go_simp; rfl)
  intro gt hg w2 hbox hb
  have BT := Aside0.mk hbox
  replace BQ := Aside0.mk (blk_below BQ.out hb)
  replace HB := Aside0.mk (below_step HB.out hb)
  clear hbox hb hg
  go_wp2_with (first | ((with_reducible refine gate_dst (N := 5) rfl ?_); refine hold ?_))
  unfold Hold
  refine box_event ?hg2 (N := 5) ?hd2 (cs := #[.slice A2 l2.length c2]) (t := 38) ?hr2 ?_
  case hd2 => rfl
  case hg2 => rfl
  case hr2 => first | (go_simp; done) | (go_simp; rfl)
  intro gm hg w3 hbox hb
  have BM := Aside0.mk hbox
  replace BQ := Aside0.mk (blk_below BQ.out hb)
  replace BT := Aside0.mk (blk_below BT.out hb)
  replace HB := Aside0.mk (below_step HB.out hb)
  clear hbox hb hg
  have hm0 : w3.cell? ⟨gm, 0, none⟩ = some (.slice A2 l2.length c2) := (blk_cell BM.out 0).trans rfl
  have hx0 : w3.cell? ⟨gq, 0, none⟩ = some (.slice A0_0 l0_0.length c0_0) := (blk_cell BQ.out 0).trans rfl
  have hx1 : w3.cell? ⟨gq, 1, none⟩ = some (.slice A0_1 l0_1.length c0_1) := (blk_cell BQ.out 1).trans rfl
  by_cases c20 : (l2.length : Int) = 20
  · have c20b : ((l2.length : Int) != 20) = false := bne_eq_false_iff_eq.mpr c20
    have c20c : ((l2.length : Int) == 20) = true := beq_iff_eq.mpr c20
    have c20d : decide ((l2.length : Int) = 20) = true := decide_eq_true c20
    have EM := Aside0.mk (show mMaps l0_0 l0_1 l1_0 l1_1 l2 = (decide (l0_0.map (mApply l2) = l1_0) && (l0_1.map (tF (mApply l2))).all (fun a => mHit l1_1 a)) from by
      unfold mMaps; rw [decide_eq_true (show l2.length = 20 by omega), List.all_map]; rfl)
    clear c20
    go_wp2_with (first | (go_at_call 97; refine hold ?_))
    unfold Hold
    refine (changed_calls _ _ l0_0 _ _ l0_1 132 _ Try.func132 (by kernel_rfl) rfl (.pointer (some ⟨gm, 0, none⟩)) (mApply l2) _ (fun W hW t => maps1_calls gm A2 c2 l2 t W (blk_below BM.out hW) (Kd.C_below (Kd.C_below HR2.out HB.out) hW) HC.out.2.2.2.2 HZ.out.1.2.2.2) (Kd.C_below HR0.out HB.out) HC.out.1 (Kd.C_below HR1.out HB.out) HC.out.2.1 HZ.out.1.1 HZ.out.1.2.1 HZ.out.2).mono ?_
    rintro e w4 ⟨v0, v1, rfl, ho0, ho1, hb⟩
    have HN := Aside0.mk (show (l0_0.map (mApply l2)).length = l0_0.length ∧ (l0_1.map (tF (mApply l2))).length = l0_1.length from ⟨by simp, by simp⟩)
    have HSM := Aside0.mk (show ∀ x ∈ l0_1.map (tF (mApply l2)), x.f1.length ≤ 1048576 from by
      intro x hx; obtain ⟨y, hy, rfl⟩ := List.mem_map.1 hx; simpa [tF] using HZ.out.2 y hy)
    generalize l0_0.map (mApply l2) = xs at ho0 HN EM HSE
    generalize l0_1.map (tF (mApply l2)) = ys at ho1 HN EM HSM
    obtain ⟨B0, d0, rfl⟩ := Kd.R_slice ho0
    obtain ⟨B1, d1, rfl⟩ := Kd.S_slice ho1
    have q0 := Aside0.mk (Kd.R_lower ho0 HB.out.size)
    have q1 := Aside0.mk (Kd.S_lower ho1 HB.out.size)
    replace BT := Aside0.mk (blk_below BT.out hb)
    replace HB := Aside0.mk (below_step HB.out hb)
    clear ho0 ho1 hb hx0 hx1 hm0 HR0 HR1 HR2 BQ BM
    go_wp2_with (first | ((with_reducible refine gate_dst (N := 7) rfl ?_); refine hold ?_))
    unfold Hold
    refine box_event ?hg3 (N := 7) ?hd3 (cs := #[.slice none 0 0, .slice none 0 0]) (t := 46) ?hr3 ?_
    case hd3 => rfl
    case hg3 => rfl
    case hr3 => first | (go_simp; done) | (go_simp; rfl)
    intro gi hg w5 hbox hb
    have BI := Aside0.mk hbox
    have HG_ := Aside0.mk hg
    have HB5 := Aside0.mk hb
    clear hbox hg hb
    have hy0 : w5.cell? ⟨gi, 0, none⟩ = some (.slice none 0 0) := (blk_cell BI.out 0).trans rfl
    have hy1 : w5.cell? ⟨gi, 1, none⟩ = some (.slice none 0 0) := (blk_cell BI.out 1).trans rfl
    have hf0 := blk_frozen BI.out 0
    have hf1 := blk_frozen BI.out 1
    go_wp2_with (first | ((with_reducible refine gate_store (t := 46) (p := 7) rfl ?_); refine hold ?_))
    unfold Hold
    refine store_event (t := 46) (p := 7) (v := ?vo_s5) (w1 := ((w5.setCell ⟨gi, 0, none⟩ (.slice B0 xs.length d0)).setCell ⟨gi, 1, none⟩ (.slice B1 ys.length d1))) ?hg5 ?ho5 ?hn5 ?hr5 ?_
    case ho5 => rfl
    case hg5 => rfl
    case hn5 => rfl
    case hr5 => first | (go_simp; done) | (go_simp; rfl)
    intro w6 hw
    have hb : Below w4.heap.size w4 w6 := by rw [hw]; exact below_set (below_set HB5.out (by rw [HG_.out]; exact Nat.le_refl _)) (by rw [HG_.out]; exact Nat.le_refl _)
    have ST := Aside0.mk (show StM w gi gt (.slice B0 xs.length d0) (.slice B1 ys.length d1) xs ys (.slice A1_0 l1_0.length c1_0) (.slice A1_1 l1_1.length c1_1) w6 from
      ⟨Kd.R_below q0.out hb, Kd.S_below q1.out hb, by rw [hw]; exact blk_put (cs := #[.slice B0 xs.length d0, .slice none 0 0]) (blk_put (cs := #[.slice none 0 0, .slice none 0 0]) BI.out 0 _ rfl) 1 _ rfl, blk_below BT.out hb, below_step HB.out hb⟩)
    clear q0 q1 hw hb BI BT HB HB5 HG_ hy0 hy1 hf0 hf1
    have hx0 : w6.cell? ⟨gi, 0, none⟩ = some (.slice B0 xs.length d0) := (blk_cell ST.out.bi 0).trans rfl
    have hx1 : w6.cell? ⟨gi, 1, none⟩ = some (.slice B1 ys.length d1) := (blk_cell ST.out.bi 1).trans rfl
    go_wp2
    go_loopg [19] ys.length (fun kq v19 w' => ∃ x : Int, v19 = .int .i64 x ∧ Aside0 (0 ≤ x ∧ kq + x.toNat = ys.length) ∧ Aside0 ((ys.drop x.toNat).all (fun a => mHit l1_1 a) = ys.all (fun a => mHit l1_1 a)) ∧ Aside0 (StM w gi gt (.slice B0 xs.length d0) (.slice B1 ys.length d1) xs ys (.slice A1_0 l1_0.length c1_0) (.slice A1_1 l1_1.length c1_1) w'))
    case atStart => exact ⟨0, rfl, ⟨⟨Int.le_refl _, rfl⟩⟩, ⟨by rw [show (0 : Int).toNat = 0 from rfl, List.drop_zero]⟩, ST⟩
    case round =>
      clear ST hx0 hx1
      obtain ⟨x, rfl, HG, HI, ST⟩ := hrel
      by_cases c6 : x < (ys.length : Int)
      · have c6b0 : decide (x < (ys.length : Int)) = true := decide_eq_true c6
        have p5 : 0 ≤ x := HG.out.1
        have hlt : x.toNat < ys.length := by omega
        have HLT := Aside0.mk hlt
        obtain ⟨ad, A3, c3, e_, hx0, hx1, hl3, hi3⟩ := at_T97 (Kd.S_reads' ST.out.r1).2.2 x p5 c6
        cases e_
        have HI3 := Aside0.mk hi3
        have HL3 := Aside0.mk hl3
        have e1 : rd_T97 ys x = ys[x.toNat] := by show ys.getD x.toNat _ = _; rw [List.getD_eq_getElem?_getD, List.getElem?_eq_getElem hlt]; rfl
        have HIN := Aside0.mk (show (ys.drop x.toNat).all (fun a => mHit l1_1 a) = (mHit l1_1 (rd_T97 ys x) && (ys.drop (x.toNat + 1)).all (fun a => mHit l1_1 a)) from by
          rw [List.drop_eq_getElem_cons hlt, e1]; simp only [List.all_cons])
        have HSX := Aside0.mk (show (rd_T97 ys x).f1.length ≤ 1048576 from by rw [e1]; exact HSM.out _ (List.getElem_mem _))
        clear hi3 hl3 hlt e1
        replace p5 := eq_true p5
        replace c6 := eq_true c6
        generalize rd_T97 ys x = el at *
        go_wp2_with (first | ((with_reducible refine gate_dst (N := 9) rfl ?_); refine hold ?_))
        unfold Hold
        refine box_event ?hg6 (N := 9) ?hd6 (cs := #[.int .i64 0, .slice none 0 0]) (t := 97) ?hr6 ?_
        case hd6 => rfl
        case hg6 => rfl
        case hr6 => first | (go_simp; done) | (go_simp; rfl)
        intro ga hg w7 hbox hb
        have BA := Aside0.mk hbox
        have HG_ := Aside0.mk hg
        have HB5 := Aside0.mk hb
        clear hbox hg hb hx0 hx1
        have hy0 : w7.cell? ⟨ga, 0, none⟩ = some (.int .i64 0) := (blk_cell BA.out 0).trans rfl
        have hy1 : w7.cell? ⟨ga, 1, none⟩ = some (.slice none 0 0) := (blk_cell BA.out 1).trans rfl
        have hf0 := blk_frozen BA.out 0
        have hf1 := blk_frozen BA.out 1
        go_wp2_with (first | ((with_reducible refine gate_store (t := 97) (p := 9) rfl ?_); refine hold ?_))
        unfold Hold
        refine store_event (t := 97) (p := 9) (v := ?vo_s8) (w1 := ((w7.setCell ⟨ga, 0, none⟩ (.int .i64 el.f0)).setCell ⟨ga, 1, none⟩ (.slice A3 el.f1.length c3))) ?hg8 ?ho8 ?hn8 ?hr8 ?_
        case ho8 => rfl
        case hg8 => rfl
        case hn8 => rfl
        case hr8 => first | (go_simp; done) | (go_simp; rfl)
        intro w8 hw
        have hb : Below wr.heap.size wr w8 := by rw [hw]; exact below_set (below_set HB5.out (by rw [HG_.out]; exact Nat.le_refl _)) (by rw [HG_.out]; exact Nat.le_refl _)
        replace ST := Aside0.mk (ST.out.below hb)
        replace HI3 := Aside0.mk (Kd.C_below HI3.out hb)
        replace BA := Aside0.mk (show w8.heap[ga]? = some (.cells #[.int .i64 el.f0, .slice A3 el.f1.length c3] 97 (0, 0)) from by rw [hw]; exact blk_put (cs := #[.int .i64 el.f0, .slice none 0 0]) (blk_put (cs := #[.int .i64 0, .slice none 0 0]) BA.out 0 _ rfl) 1 _ rfl)
        clear hw hb HB5 HG_ hy0 hy1 hf0 hf1
        have hx0 : w8.cell? ⟨gt, 0, none⟩ = some (.slice A1_0 l1_0.length c1_0) := (blk_cell ST.out.bt 0).trans rfl
        have hx1 : w8.cell? ⟨gt, 1, none⟩ = some (.slice A1_1 l1_1.length c1_1) := (blk_cell ST.out.bt 1).trans rfl
        go_wp2_with (first | (go_at_call 133; refine hold ?_))
        unfold Hold
        refine (containsF_calls ga el.f0 A3 c3 el.f1 A1_1 c1_1 l1_1 _ BA.out HI3.out HL3.out (Kd.C_below HT1.out ST.out.hb) HC.out.2.2.2.1 HZ.out.1.2.2.1 HSX.out).mono ?_
        rintro e w9 ⟨rfl, hb⟩
        replace ST := Aside0.mk (ST.out.below hb)
        clear hb hx0 hx1 BA HI3
        cases hm : mHit l1_1 ⟨el.f0, el.f1⟩
        · have HX := Aside0.mk (show mMaps l0_0 l0_1 l1_0 l1_1 l2 = false from by rw [EM.out, ← HI.out, HIN.out, show mHit l1_1 el = false from hm]; simp)
          clear hm
          go_wp2
          go_ret
          exact ⟨by rw [HX.out]; rfl, ST.out.hb⟩
        · have HX := Aside0.mk (show (ys.drop (x.toNat + 1)).all (fun a => mHit l1_1 a) = ys.all (fun a => mHit l1_1 a) from by rw [← HI.out, HIN.out, show mHit l1_1 el = true from hm]; rfl)
          clear hm
          go_wp2
          go_roundg (gk - 1)
          case measure => have := HG.out; have := HLT.out; omega
          case rel => exact ⟨(wrap64 (x + 1)), rfl, ⟨by have := HG.out; have := HLT.out; have h3 := HN.out; have h4 := HZ.out.1; rw [w64 (by omega) (by omega)]; omega⟩, ⟨by rw [w64 (by have := HG.out; omega) (by have h3 := HN.out; have h4 := HZ.out.1; have := HLT.out; omega), show (x + 1).toNat = x.toNat + 1 by have := HG.out; omega]; exact HX.out⟩, ST⟩
      · have c6b0 : decide (x < (ys.length : Int)) = false := decide_eq_false c6
        have HX := Aside0.mk (show mMaps l0_0 l0_1 l1_0 l1_1 l2 = decide (xs = l1_0) from by rw [EM.out, ← HI.out, List.drop_eq_nil_of_le (by omega)]; simp)
        clear c6
        have hx0 : wr.cell? ⟨gi, 0, none⟩ = some (.slice B0 xs.length d0) := (blk_cell ST.out.bi 0).trans rfl
        have hx1 : wr.cell? ⟨gt, 0, none⟩ = some (.slice A1_0 l1_0.length c1_0) := (blk_cell ST.out.bt 0).trans rfl
        go_wp2_with (first | (go_at_call 86; refine hold ?_))
        unfold Hold
        refine (slices_Equal_int_int.calls ks _ _ xs _ _ l1_0 _ _ (Kd.R_reads' ST.out.r0).2.2 (Kd.R_reads' ST.out.r0).2.1 (Kd.C_below HT0.out ST.out.hb) HC.out.2.2.1 HSE.out).mono ?_
        rintro e w9 ⟨rfl, hd⟩
        replace ST := Aside0.mk (ST.out.below hd.below)
        clear hd hx0 hx1
        go_wp2
        go_ret
        exact ⟨by rw [HX.out]; rfl, ST.out.hb⟩
  · have c20b : ((l2.length : Int) != 20) = true := bne_iff_ne.mpr c20
    have c20c : ((l2.length : Int) == 20) = false := beq_eq_false_iff_ne.mpr c20
    have c20d : decide ((l2.length : Int) = 20) = false := decide_eq_false c20
    have EM := Aside0.mk (show mMaps l0_0 l0_1 l1_0 l1_1 l2 = false from by unfold mMaps; rw [decide_eq_false (show ¬ l2.length = 20 by omega)]; rfl)
    clear c20
    go_wp2
    go_ret
    exact ⟨by rw [EM.out]; rfl, HB.out⟩

set_option maxHeartbeats 8000000 in
set_option maxRecDepth 100000 in
theorem impl_IsMapping_calls (A0_0 : Option Addr) (c0_0 : Nat) (l0_0 : List Int) (A1_0 : Option Addr) (c1_0 : Nat) (l1_0 : List Int) (A1_1 : Option Addr) (c1_1 : Nat) (l1_1 : List (S97)) (A2_0 : Option Addr) (c2_0 : Nat) (l2_0 : List Int) (A2_1 : Option Addr) (c2_1 : Nat) (l2_1 : List (S97)) (A3 : Option Addr) (c3 : Nat) (l3 : List Int) (r : Bool) (w : World) (hr0_0 : Kd.C (Kd.int .i64) w A0_0 l0_0.length l0_0) (hc0_0 : l0_0.length ≤ c0_0) (hr1_0 : Kd.C (Kd.int .i64) w A1_0 l1_0.length l1_0) (hc1_0 : l1_0.length ≤ c1_0) (hr1_1 : Kd.C k97 w A1_1 l1_1.length l1_1) (hc1_1 : l1_1.length ≤ c1_1) (hr2_0 : Kd.C (Kd.int .i64) w A2_0 l2_0.length l2_0) (hc2_0 : l2_0.length ≤ c2_0) (hr2_1 : Kd.C k97 w A2_1 l2_1.length l2_1) (hc2_1 : l2_1.length ≤ c2_1) (hr3 : Kd.C (Kd.int .i64) w A3 l3.length l3) (hc3 : l3.length ≤ c3) (hz0 : (l0_0.length ≤ 1048576 ∧ l1_0.length ≤ 1048576 ∧ l1_1.length ≤ 1048576 ∧ l2_0.length ≤ 1048576 ∧ l2_1.length ≤ 1048576 ∧ l3.length ≤ 1048576) ∧ (∀ x ∈ l1_1, x.f1.length ≤ 1048576) ∧ ∀ x ∈ l2_1, x.f1.length ≤ 1048576) (h : mIsMap l0_0 l1_0 l1_1 l2_0 l2_1 l3 = r) :
    Calls Try.prog 50 #[.agg #[.slice A0_0 l0_0.length c0_0], .agg #[.slice A1_0 l1_0.length c1_0, .slice A1_1 l1_1.length c1_1], .agg #[.slice A2_0 l2_0.length c2_0, .slice A2_1 l2_1.length c2_1], .slice A3 l3.length c3] w fun e w' => e = .returned (.bool r) ∧ Below w.heap.size w w' := by
  obtain ⟨⟨z0, z1, z2, z3, z4, z5⟩, zs1, zs2⟩ := hz0
  obtain ⟨k1, hk1⟩ := (implIsQuery_ev l0_0 l1_0 l1_1 z0 z1 z2 zs1).rounds
  obtain ⟨k2, hk2⟩ := (implIsQuery_ev l0_0 l2_0 l2_1 z0 z3 z4 zs2).rounds
  have hu65 := Try.underlying65
  have hu46 := Try.underlying46
  have HZ := Aside0.mk (show (l1_0.length ≤ 1048576 ∧ l1_1.length ≤ 1048576 ∧ l2_1.length ≤ 1048576 ∧ l3.length ≤ 1048576) ∧ ∀ x ∈ l1_1, x.f1.length ≤ 1048576 from ⟨⟨z1, z2, z4, z5⟩, zs1⟩)
  unfold mIsMap at h
  generalize mIsQuery l0_0 l1_0 l1_1 = b1 at hk1 h
  generalize mIsQuery l0_0 l2_0 l2_1 = b2 at hk2 h
  have K1 := Aside0.mk hk1
  have K2 := Aside0.mk hk2
  have R0 := Aside0.mk hr0_0
  have R1 := Aside0.mk hr1_0
  have R2 := Aside0.mk hr1_1
  have R3 := Aside0.mk hr2_0
  have R4 := Aside0.mk hr2_1
  have R5 := Aside0.mk hr3
  have HC := Aside0.mk (show l0_0.length ≤ c0_0 ∧ l1_0.length ≤ c1_0 ∧ l1_1.length ≤ c1_1 ∧ l2_0.length ≤ c2_0 ∧ l2_1.length ≤ c2_1 ∧ l3.length ≤ c3 from ⟨hc0_0, hc1_0, hc1_1, hc2_0, hc2_1, hc3⟩)
  have HB := Aside0.mk (Below.refl w.heap.size w)
  have HE := Aside0.mk h
  clear hk1 hk2 hr0_0 hr1_0 hr1_1 hr2_0 hr2_1 hr3 hc0_0 hc1_0 hc1_1 hc2_0 hc2_1 hc3 z0 z1 z2 z3 z4 z5 zs1 zs2 h
  go_enter Try.func50, Try.ntmps50
  go_wp2_with (first | ((with_reducible refine gate_dst (N := 4) rfl ?_); refine hold ?_))
  unfold Hold
  refine box_event ?hg (N := 4) ?hd (cs := #[.slice A0_0 l0_0.length c0_0]) (t := 65) ?hr ?_
  case hd => rfl
  case hg => rfl
  case hr => first | (go_simp; done) | (go_simp; rfl)
  intro g0 hg w1 hbox hb
  have B0 := Aside0.mk hbox
  replace HB := Aside0.mk (below_step HB.out hb)
  clear hbox hb hg
  go_wp2_with (first | ((with_reducible refine gate_dst (N := 5) rfl ?_); refine hold ?_))
  unfold Hold
  refine box_event ?hg1 (N := 5) ?hd1 (cs := #[.slice A1_0 l1_0.length c1_0, .slice A1_1 l1_1.length c1_1]) (t := 46) ?hr1 ?_
  case hd1 => rfl
  case hg1 => rfl
  case hr1 => first | (go_simp; done) | (go_simp; rfl)
  intro g1 hg w2 hbox hb
  have B1 := Aside0.mk hbox
  replace B0 := Aside0.mk (blk_below B0.out hb)
  replace HB := Aside0.mk (below_step HB.out hb)
  clear hbox hb hg
  go_wp2_with (first | ((with_reducible refine gate_dst (N := 6) rfl ?_); refine hold ?_))
  unfold Hold
  refine box_event ?hg2 (N := 6) ?hd2 (cs := #[.slice A2_0 l2_0.length c2_0, .slice A2_1 l2_1.length c2_1]) (t := 46) ?hr2 ?_
  case hd2 => rfl
  case hg2 => rfl
  case hr2 => first | (go_simp; done) | (go_simp; rfl)
  intro g2 hg w3 hbox hb
  have B2 := Aside0.mk hbox
  replace B0 := Aside0.mk (blk_below B0.out hb)
  replace B1 := Aside0.mk (blk_below B1.out hb)
  replace HB := Aside0.mk (below_step HB.out hb)
  clear hbox hb hg
  have hx0 : w3.cell? ⟨g0, 0, none⟩ = some (.slice A0_0 l0_0.length c0_0) := (blk_cell B0.out 0).trans rfl
  have hx1 : w3.cell? ⟨g1, 0, none⟩ = some (.slice A1_0 l1_0.length c1_0) := (blk_cell B1.out 0).trans rfl
  have hx2 : w3.cell? ⟨g1, 1, none⟩ = some (.slice A1_1 l1_1.length c1_1) := (blk_cell B1.out 1).trans rfl
  go_wp2_with (first | (go_at_call 103; refine hold ?_))
  unfold Hold
  refine (impl_IsQuery.calls k1 _ _ l0_0 _ _ l1_0 _ _ l1_1 b1 _ (Kd.C_below R0.out HB.out) HC.out.1 (Kd.C_below R1.out HB.out) HC.out.2.1 (Kd.C_below R2.out HB.out) HC.out.2.2.1 K1.out).mono ?_
  rintro e w4 ⟨rfl, hb⟩
  replace B0 := Aside0.mk (blk_below B0.out hb)
  replace B1 := Aside0.mk (blk_below B1.out hb)
  replace B2 := Aside0.mk (blk_below B2.out hb)
  replace HB := Aside0.mk (below_step HB.out hb)
  clear hb hx0 hx1 hx2
  cases b1
  · have HX := Aside0.mk (show r = false from by rw [← HE.out]; rfl)
    go_wp2
    go_ret
    exact ⟨by rw [HX.out]; rfl, HB.out⟩
  have hx0 : w4.cell? ⟨g0, 0, none⟩ = some (.slice A0_0 l0_0.length c0_0) := (blk_cell B0.out 0).trans rfl
  have hx1 : w4.cell? ⟨g2, 0, none⟩ = some (.slice A2_0 l2_0.length c2_0) := (blk_cell B2.out 0).trans rfl
  have hx2 : w4.cell? ⟨g2, 1, none⟩ = some (.slice A2_1 l2_1.length c2_1) := (blk_cell B2.out 1).trans rfl
  go_wp2_with (first | (go_at_call 103; refine hold ?_))
  unfold Hold
  refine (impl_IsQuery.calls k2 _ _ l0_0 _ _ l2_0 _ _ l2_1 b2 _ (Kd.C_below R0.out HB.out) HC.out.1 (Kd.C_below R3.out HB.out) HC.out.2.2.2.1 (Kd.C_below R4.out HB.out) HC.out.2.2.2.2.1 K2.out).mono ?_
  rintro e w5 ⟨rfl, hb⟩
  replace B1 := Aside0.mk (blk_below B1.out hb)
  replace B2 := Aside0.mk (blk_below B2.out hb)
  replace HB := Aside0.mk (below_step HB.out hb)
  clear hb hx0 hx1 hx2 B0
  cases b2
  · have HX := Aside0.mk (show r = false from by rw [← HE.out]; rfl)
    go_wp2
    go_ret
    exact ⟨by rw [HX.out]; rfl, HB.out⟩
  have hx1 : w5.cell? ⟨g1, 0, none⟩ = some (.slice A1_0 l1_0.length c1_0) := (blk_cell B1.out 0).trans rfl
  have hx2 : w5.cell? ⟨g1, 1, none⟩ = some (.slice A1_1 l1_1.length c1_1) := (blk_cell B1.out 1).trans rfl
  have hx3 : w5.cell? ⟨g2, 0, none⟩ = some (.slice A2_0 l2_0.length c2_0) := (blk_cell B2.out 0).trans rfl
  have hx4 : w5.cell? ⟨g2, 1, none⟩ = some (.slice A2_1 l2_1.length c2_1) := (blk_cell B2.out 1).trans rfl
  go_wp2_with (first | (go_at_call 104; refine hold ?_))
  unfold Hold
  refine (maps_calls _ _ l1_0 _ _ l1_1 _ _ l2_0 _ _ l2_1 _ _ l3 _ (Kd.C_below R1.out HB.out) HC.out.2.1 (Kd.C_below R2.out HB.out) HC.out.2.2.1 (Kd.C_below R3.out HB.out) HC.out.2.2.2.1 (Kd.C_below R4.out HB.out) HC.out.2.2.2.2.1 (Kd.C_below R5.out HB.out) HC.out.2.2.2.2.2 HZ.out).mono ?_
  rintro e w6 ⟨rfl, hb⟩
  replace HB := Aside0.mk (below_step HB.out hb)
  clear hb hx1 hx2 hx3 hx4 B1 B2
  have HX := Aside0.mk (show r = mMaps l1_0 l1_1 l2_0 l2_1 l3 from by rw [← HE.out]; rfl)
  clear HE
  go_wp2
  go_ret
  exact ⟨by rw [HX.out]; rfl, HB.out⟩

set_option maxHeartbeats 8000000 in
set_option maxRecDepth 100000 in
theorem laws_FnExactIsMapping_out0 (A0_0 : Option Addr) (c0_0 : Nat) (l0_0 : List Int) (A1_0 : Option Addr) (c1_0 : Nat) (l1_0 : List Int) (A1_1 : Option Addr) (c1_1 : Nat) (l1_1 : List S124) (A2_0 : Option Addr) (c2_0 : Nat) (l2_0 : List Int) (A2_1 : Option Addr) (c2_1 : Nat) (l2_1 : List S124) (A3 : Option Addr) (c3 : Nat) (l3 : List Int) (w : World) (hr0_0 : Kd.C (Kd.int .i64) w A0_0 l0_0.length l0_0) (hc0_0 : l0_0.length ≤ c0_0) (hr1_0 : Kd.C (Kd.int .i64) w A1_0 l1_0.length l1_0) (hc1_0 : l1_0.length ≤ c1_0) (hr1_1 : Kd.C k124 w A1_1 l1_1.length l1_1) (hc1_1 : l1_1.length ≤ c1_1) (hr2_0 : Kd.C (Kd.int .i64) w A2_0 l2_0.length l2_0) (hc2_0 : l2_0.length ≤ c2_0) (hr2_1 : Kd.C k124 w A2_1 l2_1.length l2_1) (hc2_1 : l2_1.length ≤ c2_1) (hr3 : Kd.C (Kd.int .i64) w A3 l3.length l3) (hc3 : l3.length ≤ c3) 
    (ct0 : (l3.length : Int) > 1048576) :
    Calls Try.prog 9 #[.agg #[.slice A0_0 l0_0.length c0_0], .agg #[.slice A1_0 l1_0.length c1_0, .slice A1_1 l1_1.length c1_1], .agg #[.slice A2_0 l2_0.length c2_0, .slice A2_1 l2_1.length c2_1], .slice A3 l3.length c3] w fun e w' => e = .returned (.bool true) ∧ Below w.heap.size w w' := by
  have H0_0 := Aside0.mk hr0_0
  have HC0_0 := Aside0.mk hc0_0
  clear hr0_0 hc0_0
  have H1_0 := Aside0.mk hr1_0
  have HC1_0 := Aside0.mk hc1_0
  clear hr1_0 hc1_0
  have H1_1 := Aside0.mk hr1_1
  have HC1_1 := Aside0.mk hc1_1
  clear hr1_1 hc1_1
  have H2_0 := Aside0.mk hr2_0
  have HC2_0 := Aside0.mk hc2_0
  clear hr2_0 hc2_0
  have H2_1 := Aside0.mk hr2_1
  have HC2_1 := Aside0.mk hc2_1
  clear hr2_1 hc2_1
  have H3 := Aside0.mk hr3
  have HC3 := Aside0.mk hc3
  clear hr3 hc3
  have ct0b := decide_eq_true (show 1048576 < (l3.length : Int) from ct0)
  have ct0n : decide (1048576 < l3.length) = true := decide_eq_true (by omega)
  clear ct0
  have HB := Aside0.mk (Below.refl w.heap.size w)
  have hu41 := Try.underlying41
  have hu62 := Try.underlying62
  go_enter Try.func9, Try.ntmps9
  go_wp2_with (first | ((with_reducible refine gate_dst (N := 4) rfl ?_); refine hold ?_))
  unfold Hold
  refine box_event ?hg (N := 4) ?hd (cs := #[.slice A0_0 l0_0.length c0_0]) (t := 62) ?hr ?_
  case hd => rfl
  case hg => rfl
  case hr => first | (go_simp; done) | (go_simp; rfl)
  intro g1 hg w1_ hbox hb
  have Bg1 := Aside0.mk hbox
  have Gg1 := Aside0.mk (show w.heap.size ≤ g1 ∧ g1 < w1_.heap.size from ⟨by rw [hg]; exact Nat.le_refl _, blk_lt hbox⟩)
  clear hbox hg
  have Z1_ := Aside0.mk (show w.heap.size ≤ w1_.heap.size from hb.size)
  have n_ := Aside0.mk (below_step HB.out hb); clear HB; have HB := n_; clear n_
  have hxg1_0 : w1_.cell? ⟨g1, 0, none⟩ = some (.slice A0_0 l0_0.length c0_0) := (blk_cell Bg1.out 0).trans rfl
  have hfg1_0 := blk_frozen Bg1.out 0
  clear hb
  go_wp2_with (first | ((with_reducible refine gate_dst (N := 5) rfl ?_); refine hold ?_))
  unfold Hold
  refine box_event ?hg (N := 5) ?hd (cs := #[.slice A1_0 l1_0.length c1_0, .slice A1_1 l1_1.length c1_1]) (t := 41) ?hr ?_
  case hd => rfl
  case hg => rfl
  case hr => first | (go_simp; done) | (go_simp; rfl)
  intro g2 hg w2_ hbox hb
  have Bg2 := Aside0.mk hbox
  have Gg2 := Aside0.mk (show w1_.heap.size ≤ g2 ∧ g2 < w2_.heap.size from ⟨by rw [hg]; exact Nat.le_refl _, blk_lt hbox⟩)
  clear hbox hg
  have Z2_ := Aside0.mk (show w1_.heap.size ≤ w2_.heap.size from hb.size)
  have n_ := Aside0.mk (blk_below Bg1.out hb); clear Bg1; have Bg1 := n_; clear n_
  have n_ := Aside0.mk (below_step HB.out hb); clear HB; have HB := n_; clear n_
  clear hxg1_0
  clear hfg1_0
  have hxg1_0 : w2_.cell? ⟨g1, 0, none⟩ = some (.slice A0_0 l0_0.length c0_0) := (blk_cell Bg1.out 0).trans rfl
  have hfg1_0 := blk_frozen Bg1.out 0
  have hxg2_0 : w2_.cell? ⟨g2, 0, none⟩ = some (.slice A1_0 l1_0.length c1_0) := (blk_cell Bg2.out 0).trans rfl
  have hxg2_1 : w2_.cell? ⟨g2, 1, none⟩ = some (.slice A1_1 l1_1.length c1_1) := (blk_cell Bg2.out 1).trans rfl
  have hfg2_0 := blk_frozen Bg2.out 0
  have hfg2_1 := blk_frozen Bg2.out 1
  clear hb
  go_wp2_with (first | ((with_reducible refine gate_dst (N := 6) rfl ?_); refine hold ?_))
  unfold Hold
  refine box_event ?hg (N := 6) ?hd (cs := #[.slice A2_0 l2_0.length c2_0, .slice A2_1 l2_1.length c2_1]) (t := 41) ?hr ?_
  case hd => rfl
  case hg => rfl
  case hr => first | (go_simp; done) | (go_simp; rfl)
  intro g3 hg w3_ hbox hb
  have Bg3 := Aside0.mk hbox
  have Gg3 := Aside0.mk (show w2_.heap.size ≤ g3 ∧ g3 < w3_.heap.size from ⟨by rw [hg]; exact Nat.le_refl _, blk_lt hbox⟩)
  clear hbox hg
  have Z3_ := Aside0.mk (show w2_.heap.size ≤ w3_.heap.size from hb.size)
  have n_ := Aside0.mk (blk_below Bg1.out hb); clear Bg1; have Bg1 := n_; clear n_
  have n_ := Aside0.mk (blk_below Bg2.out hb); clear Bg2; have Bg2 := n_; clear n_
  have n_ := Aside0.mk (below_step HB.out hb); clear HB; have HB := n_; clear n_
  clear hxg1_0
  clear hfg1_0
  clear hxg2_0
  clear hxg2_1
  clear hfg2_0
  clear hfg2_1
  have hxg1_0 : w3_.cell? ⟨g1, 0, none⟩ = some (.slice A0_0 l0_0.length c0_0) := (blk_cell Bg1.out 0).trans rfl
  have hfg1_0 := blk_frozen Bg1.out 0
  have hxg2_0 : w3_.cell? ⟨g2, 0, none⟩ = some (.slice A1_0 l1_0.length c1_0) := (blk_cell Bg2.out 0).trans rfl
  have hxg2_1 : w3_.cell? ⟨g2, 1, none⟩ = some (.slice A1_1 l1_1.length c1_1) := (blk_cell Bg2.out 1).trans rfl
  have hfg2_0 := blk_frozen Bg2.out 0
  have hfg2_1 := blk_frozen Bg2.out 1
  have hxg3_0 : w3_.cell? ⟨g3, 0, none⟩ = some (.slice A2_0 l2_0.length c2_0) := (blk_cell Bg3.out 0).trans rfl
  have hxg3_1 : w3_.cell? ⟨g3, 1, none⟩ = some (.slice A2_1 l2_1.length c2_1) := (blk_cell Bg3.out 1).trans rfl
  have hfg3_0 := blk_frozen Bg3.out 0
  have hfg3_1 := blk_frozen Bg3.out 1
  clear hb
  go_wp2
  go_ret
  exact ⟨rfl, HB.out⟩
set_option maxHeartbeats 8000000 in
set_option maxRecDepth 100000 in
theorem laws_FnExactIsMapping_out1 (A0_0 : Option Addr) (c0_0 : Nat) (l0_0 : List Int) (A1_0 : Option Addr) (c1_0 : Nat) (l1_0 : List Int) (A1_1 : Option Addr) (c1_1 : Nat) (l1_1 : List S124) (A2_0 : Option Addr) (c2_0 : Nat) (l2_0 : List Int) (A2_1 : Option Addr) (c2_1 : Nat) (l2_1 : List S124) (A3 : Option Addr) (c3 : Nat) (l3 : List Int) (w : World) (hr0_0 : Kd.C (Kd.int .i64) w A0_0 l0_0.length l0_0) (hc0_0 : l0_0.length ≤ c0_0) (hr1_0 : Kd.C (Kd.int .i64) w A1_0 l1_0.length l1_0) (hc1_0 : l1_0.length ≤ c1_0) (hr1_1 : Kd.C k124 w A1_1 l1_1.length l1_1) (hc1_1 : l1_1.length ≤ c1_1) (hr2_0 : Kd.C (Kd.int .i64) w A2_0 l2_0.length l2_0) (hc2_0 : l2_0.length ≤ c2_0) (hr2_1 : Kd.C k124 w A2_1 l2_1.length l2_1) (hc2_1 : l2_1.length ≤ c2_1) (hr3 : Kd.C (Kd.int .i64) w A3 l3.length l3) (hc3 : l3.length ≤ c3) (r1_0 : Int)
    (ct0 : ¬ (l3.length : Int) > 1048576)
 (e1 : laws_szSchema.f l0_0 1048576 = some r1_0)
 (ct1 : r1_0 < 0) :
    Calls Try.prog 9 #[.agg #[.slice A0_0 l0_0.length c0_0], .agg #[.slice A1_0 l1_0.length c1_0, .slice A1_1 l1_1.length c1_1], .agg #[.slice A2_0 l2_0.length c2_0, .slice A2_1 l2_1.length c2_1], .slice A3 l3.length c3] w fun e w' => e = .returned (.bool true) ∧ Below w.heap.size w w' := by
  have H0_0 := Aside0.mk hr0_0
  have HC0_0 := Aside0.mk hc0_0
  clear hr0_0 hc0_0
  have H1_0 := Aside0.mk hr1_0
  have HC1_0 := Aside0.mk hc1_0
  clear hr1_0 hc1_0
  have H1_1 := Aside0.mk hr1_1
  have HC1_1 := Aside0.mk hc1_1
  clear hr1_1 hc1_1
  have H2_0 := Aside0.mk hr2_0
  have HC2_0 := Aside0.mk hc2_0
  clear hr2_0 hc2_0
  have H2_1 := Aside0.mk hr2_1
  have HC2_1 := Aside0.mk hc2_1
  clear hr2_1 hc2_1
  have H3 := Aside0.mk hr3
  have HC3 := Aside0.mk hc3
  clear hr3 hc3
  have ct0b := decide_eq_false (show ¬ 1048576 < (l3.length : Int) from ct0)
  have ct0n : decide (1048576 < l3.length) = false := decide_eq_false (by omega)
  clear ct0
  have Ee1 := Aside0.mk e1; clear e1
  have ct1b := decide_eq_true (show r1_0 < 0 from ct1)
  clear ct1
  have HB := Aside0.mk (Below.refl w.heap.size w)
  have hu41 := Try.underlying41
  have hu62 := Try.underlying62
  go_enter Try.func9, Try.ntmps9
  go_wp2_with (first | ((with_reducible refine gate_dst (N := 4) rfl ?_); refine hold ?_))
  unfold Hold
  refine box_event ?hg (N := 4) ?hd (cs := #[.slice A0_0 l0_0.length c0_0]) (t := 62) ?hr ?_
  case hd => rfl
  case hg => rfl
  case hr => first | (go_simp; done) | (go_simp; rfl)
  intro g1 hg w1_ hbox hb
  have Bg1 := Aside0.mk hbox
  have Gg1 := Aside0.mk (show w.heap.size ≤ g1 ∧ g1 < w1_.heap.size from ⟨by rw [hg]; exact Nat.le_refl _, blk_lt hbox⟩)
  clear hbox hg
  have Z1_ := Aside0.mk (show w.heap.size ≤ w1_.heap.size from hb.size)
  have n_ := Aside0.mk (below_step HB.out hb); clear HB; have HB := n_; clear n_
  have hxg1_0 : w1_.cell? ⟨g1, 0, none⟩ = some (.slice A0_0 l0_0.length c0_0) := (blk_cell Bg1.out 0).trans rfl
  have hfg1_0 := blk_frozen Bg1.out 0
  clear hb
  go_wp2_with (first | ((with_reducible refine gate_dst (N := 5) rfl ?_); refine hold ?_))
  unfold Hold
  refine box_event ?hg (N := 5) ?hd (cs := #[.slice A1_0 l1_0.length c1_0, .slice A1_1 l1_1.length c1_1]) (t := 41) ?hr ?_
  case hd => rfl
  case hg => rfl
  case hr => first | (go_simp; done) | (go_simp; rfl)
  intro g2 hg w2_ hbox hb
  have Bg2 := Aside0.mk hbox
  have Gg2 := Aside0.mk (show w1_.heap.size ≤ g2 ∧ g2 < w2_.heap.size from ⟨by rw [hg]; exact Nat.le_refl _, blk_lt hbox⟩)
  clear hbox hg
  have Z2_ := Aside0.mk (show w1_.heap.size ≤ w2_.heap.size from hb.size)
  have n_ := Aside0.mk (blk_below Bg1.out hb); clear Bg1; have Bg1 := n_; clear n_
  have n_ := Aside0.mk (below_step HB.out hb); clear HB; have HB := n_; clear n_
  clear hxg1_0
  clear hfg1_0
  have hxg1_0 : w2_.cell? ⟨g1, 0, none⟩ = some (.slice A0_0 l0_0.length c0_0) := (blk_cell Bg1.out 0).trans rfl
  have hfg1_0 := blk_frozen Bg1.out 0
  have hxg2_0 : w2_.cell? ⟨g2, 0, none⟩ = some (.slice A1_0 l1_0.length c1_0) := (blk_cell Bg2.out 0).trans rfl
  have hxg2_1 : w2_.cell? ⟨g2, 1, none⟩ = some (.slice A1_1 l1_1.length c1_1) := (blk_cell Bg2.out 1).trans rfl
  have hfg2_0 := blk_frozen Bg2.out 0
  have hfg2_1 := blk_frozen Bg2.out 1
  clear hb
  go_wp2_with (first | ((with_reducible refine gate_dst (N := 6) rfl ?_); refine hold ?_))
  unfold Hold
  refine box_event ?hg (N := 6) ?hd (cs := #[.slice A2_0 l2_0.length c2_0, .slice A2_1 l2_1.length c2_1]) (t := 41) ?hr ?_
  case hd => rfl
  case hg => rfl
  case hr => first | (go_simp; done) | (go_simp; rfl)
  intro g3 hg w3_ hbox hb
  have Bg3 := Aside0.mk hbox
  have Gg3 := Aside0.mk (show w2_.heap.size ≤ g3 ∧ g3 < w3_.heap.size from ⟨by rw [hg]; exact Nat.le_refl _, blk_lt hbox⟩)
  clear hbox hg
  have Z3_ := Aside0.mk (show w2_.heap.size ≤ w3_.heap.size from hb.size)
  have n_ := Aside0.mk (blk_below Bg1.out hb); clear Bg1; have Bg1 := n_; clear n_
  have n_ := Aside0.mk (blk_below Bg2.out hb); clear Bg2; have Bg2 := n_; clear n_
  have n_ := Aside0.mk (below_step HB.out hb); clear HB; have HB := n_; clear n_
  clear hxg1_0
  clear hfg1_0
  clear hxg2_0
  clear hxg2_1
  clear hfg2_0
  clear hfg2_1
  have hxg1_0 : w3_.cell? ⟨g1, 0, none⟩ = some (.slice A0_0 l0_0.length c0_0) := (blk_cell Bg1.out 0).trans rfl
  have hfg1_0 := blk_frozen Bg1.out 0
  have hxg2_0 : w3_.cell? ⟨g2, 0, none⟩ = some (.slice A1_0 l1_0.length c1_0) := (blk_cell Bg2.out 0).trans rfl
  have hxg2_1 : w3_.cell? ⟨g2, 1, none⟩ = some (.slice A1_1 l1_1.length c1_1) := (blk_cell Bg2.out 1).trans rfl
  have hfg2_0 := blk_frozen Bg2.out 0
  have hfg2_1 := blk_frozen Bg2.out 1
  have hxg3_0 : w3_.cell? ⟨g3, 0, none⟩ = some (.slice A2_0 l2_0.length c2_0) := (blk_cell Bg3.out 0).trans rfl
  have hxg3_1 : w3_.cell? ⟨g3, 1, none⟩ = some (.slice A2_1 l2_1.length c2_1) := (blk_cell Bg3.out 1).trans rfl
  have hfg3_0 := blk_frozen Bg3.out 0
  have hfg3_1 := blk_frozen Bg3.out 1
  clear hb
  go_wp2_with (first | (go_at_call 47; refine hold ?_))
  unfold Hold
  refine (laws_szSchema.calls _ _ l0_0 1048576 r1_0 _ (Kd.C_below H0_0.out HB.out) HC0_0.out Ee1.out).mono ?_
  rintro e w4_ ⟨rfl, hb⟩
  have Z4_ := Aside0.mk (show w3_.heap.size ≤ w4_.heap.size from hb.size)
  have n_ := Aside0.mk (blk_below Bg1.out hb); clear Bg1; have Bg1 := n_; clear n_
  have n_ := Aside0.mk (blk_below Bg2.out hb); clear Bg2; have Bg2 := n_; clear n_
  have n_ := Aside0.mk (blk_below Bg3.out hb); clear Bg3; have Bg3 := n_; clear n_
  have n_ := Aside0.mk (below_step HB.out hb); clear HB; have HB := n_; clear n_
  clear hxg1_0
  clear hfg1_0
  clear hxg2_0
  clear hxg2_1
  clear hfg2_0
  clear hfg2_1
  clear hxg3_0
  clear hxg3_1
  clear hfg3_0
  clear hfg3_1
  have hxg1_0 : w4_.cell? ⟨g1, 0, none⟩ = some (.slice A0_0 l0_0.length c0_0) := (blk_cell Bg1.out 0).trans rfl
  have hfg1_0 := blk_frozen Bg1.out 0
  have hxg2_0 : w4_.cell? ⟨g2, 0, none⟩ = some (.slice A1_0 l1_0.length c1_0) := (blk_cell Bg2.out 0).trans rfl
  have hxg2_1 : w4_.cell? ⟨g2, 1, none⟩ = some (.slice A1_1 l1_1.length c1_1) := (blk_cell Bg2.out 1).trans rfl
  have hfg2_0 := blk_frozen Bg2.out 0
  have hfg2_1 := blk_frozen Bg2.out 1
  have hxg3_0 : w4_.cell? ⟨g3, 0, none⟩ = some (.slice A2_0 l2_0.length c2_0) := (blk_cell Bg3.out 0).trans rfl
  have hxg3_1 : w4_.cell? ⟨g3, 1, none⟩ = some (.slice A2_1 l2_1.length c2_1) := (blk_cell Bg3.out 1).trans rfl
  have hfg3_0 := blk_frozen Bg3.out 0
  have hfg3_1 := blk_frozen Bg3.out 1
  clear hb
  go_wp2
  go_ret
  exact ⟨rfl, HB.out⟩
set_option maxHeartbeats 8000000 in
set_option maxRecDepth 100000 in
theorem laws_FnExactIsMapping_out2 (A0_0 : Option Addr) (c0_0 : Nat) (l0_0 : List Int) (A1_0 : Option Addr) (c1_0 : Nat) (l1_0 : List Int) (A1_1 : Option Addr) (c1_1 : Nat) (l1_1 : List S124) (A2_0 : Option Addr) (c2_0 : Nat) (l2_0 : List Int) (A2_1 : Option Addr) (c2_1 : Nat) (l2_1 : List S124) (A3 : Option Addr) (c3 : Nat) (l3 : List Int) (w : World) (hr0_0 : Kd.C (Kd.int .i64) w A0_0 l0_0.length l0_0) (hc0_0 : l0_0.length ≤ c0_0) (hr1_0 : Kd.C (Kd.int .i64) w A1_0 l1_0.length l1_0) (hc1_0 : l1_0.length ≤ c1_0) (hr1_1 : Kd.C k124 w A1_1 l1_1.length l1_1) (hc1_1 : l1_1.length ≤ c1_1) (hr2_0 : Kd.C (Kd.int .i64) w A2_0 l2_0.length l2_0) (hc2_0 : l2_0.length ≤ c2_0) (hr2_1 : Kd.C k124 w A2_1 l2_1.length l2_1) (hc2_1 : l2_1.length ≤ c2_1) (hr3 : Kd.C (Kd.int .i64) w A3 l3.length l3) (hc3 : l3.length ≤ c3) (r1_0 : Int) (r3_0 : Int)
    (ct0 : ¬ (l3.length : Int) > 1048576)
 (e1 : laws_szSchema.f l0_0 1048576 = some r1_0)
 (ct1 : ¬ r1_0 < 0)
 (e3 : ∃ k, laws_szQuery.f k l1_0 l1_1 r1_0 = some r3_0)
 (ct2 : r3_0 < 0) :
    Calls Try.prog 9 #[.agg #[.slice A0_0 l0_0.length c0_0], .agg #[.slice A1_0 l1_0.length c1_0, .slice A1_1 l1_1.length c1_1], .agg #[.slice A2_0 l2_0.length c2_0, .slice A2_1 l2_1.length c2_1], .slice A3 l3.length c3] w fun e w' => e = .returned (.bool true) ∧ Below w.heap.size w w' := by
  have H0_0 := Aside0.mk hr0_0
  have HC0_0 := Aside0.mk hc0_0
  clear hr0_0 hc0_0
  have H1_0 := Aside0.mk hr1_0
  have HC1_0 := Aside0.mk hc1_0
  clear hr1_0 hc1_0
  have H1_1 := Aside0.mk hr1_1
  have HC1_1 := Aside0.mk hc1_1
  clear hr1_1 hc1_1
  have H2_0 := Aside0.mk hr2_0
  have HC2_0 := Aside0.mk hc2_0
  clear hr2_0 hc2_0
  have H2_1 := Aside0.mk hr2_1
  have HC2_1 := Aside0.mk hc2_1
  clear hr2_1 hc2_1
  have H3 := Aside0.mk hr3
  have HC3 := Aside0.mk hc3
  clear hr3 hc3
  have ct0b := decide_eq_false (show ¬ 1048576 < (l3.length : Int) from ct0)
  have ct0n : decide (1048576 < l3.length) = false := decide_eq_false (by omega)
  clear ct0
  have Ee1 := Aside0.mk e1; clear e1
  have ct1b := decide_eq_false (show ¬ r1_0 < 0 from ct1)
  clear ct1
  obtain ⟨ke3, q_⟩ := e3; have Ee3 := Aside0.mk q_; clear q_
  have ct2b := decide_eq_true (show r3_0 < 0 from ct2)
  clear ct2
  have HB := Aside0.mk (Below.refl w.heap.size w)
  have hu41 := Try.underlying41
  have hu62 := Try.underlying62
  go_enter Try.func9, Try.ntmps9
  go_wp2_with (first | ((with_reducible refine gate_dst (N := 4) rfl ?_); refine hold ?_))
  unfold Hold
  refine box_event ?hg (N := 4) ?hd (cs := #[.slice A0_0 l0_0.length c0_0]) (t := 62) ?hr ?_
  case hd => rfl
  case hg => rfl
  case hr => first | (go_simp; done) | (go_simp; rfl)
  intro g1 hg w1_ hbox hb
  have Bg1 := Aside0.mk hbox
  have Gg1 := Aside0.mk (show w.heap.size ≤ g1 ∧ g1 < w1_.heap.size from ⟨by rw [hg]; exact Nat.le_refl _, blk_lt hbox⟩)
  clear hbox hg
  have Z1_ := Aside0.mk (show w.heap.size ≤ w1_.heap.size from hb.size)
  have n_ := Aside0.mk (below_step HB.out hb); clear HB; have HB := n_; clear n_
  have hxg1_0 : w1_.cell? ⟨g1, 0, none⟩ = some (.slice A0_0 l0_0.length c0_0) := (blk_cell Bg1.out 0).trans rfl
  have hfg1_0 := blk_frozen Bg1.out 0
  clear hb
  go_wp2_with (first | ((with_reducible refine gate_dst (N := 5) rfl ?_); refine hold ?_))
  unfold Hold
  refine box_event ?hg (N := 5) ?hd (cs := #[.slice A1_0 l1_0.length c1_0, .slice A1_1 l1_1.length c1_1]) (t := 41) ?hr ?_
  case hd => rfl
  case hg => rfl
  case hr => first | (go_simp; done) | (go_simp; rfl)
  intro g2 hg w2_ hbox hb
  have Bg2 := Aside0.mk hbox
  have Gg2 := Aside0.mk (show w1_.heap.size ≤ g2 ∧ g2 < w2_.heap.size from ⟨by rw [hg]; exact Nat.le_refl _, blk_lt hbox⟩)
  clear hbox hg
  have Z2_ := Aside0.mk (show w1_.heap.size ≤ w2_.heap.size from hb.size)
  have n_ := Aside0.mk (blk_below Bg1.out hb); clear Bg1; have Bg1 := n_; clear n_
  have n_ := Aside0.mk (below_step HB.out hb); clear HB; have HB := n_; clear n_
  clear hxg1_0
  clear hfg1_0
  have hxg1_0 : w2_.cell? ⟨g1, 0, none⟩ = some (.slice A0_0 l0_0.length c0_0) := (blk_cell Bg1.out 0).trans rfl
  have hfg1_0 := blk_frozen Bg1.out 0
  have hxg2_0 : w2_.cell? ⟨g2, 0, none⟩ = some (.slice A1_0 l1_0.length c1_0) := (blk_cell Bg2.out 0).trans rfl
  have hxg2_1 : w2_.cell? ⟨g2, 1, none⟩ = some (.slice A1_1 l1_1.length c1_1) := (blk_cell Bg2.out 1).trans rfl
  have hfg2_0 := blk_frozen Bg2.out 0
  have hfg2_1 := blk_frozen Bg2.out 1
  clear hb
  go_wp2_with (first | ((with_reducible refine gate_dst (N := 6) rfl ?_); refine hold ?_))
  unfold Hold
  refine box_event ?hg (N := 6) ?hd (cs := #[.slice A2_0 l2_0.length c2_0, .slice A2_1 l2_1.length c2_1]) (t := 41) ?hr ?_
  case hd => rfl
  case hg => rfl
  case hr => first | (go_simp; done) | (go_simp; rfl)
  intro g3 hg w3_ hbox hb
  have Bg3 := Aside0.mk hbox
  have Gg3 := Aside0.mk (show w2_.heap.size ≤ g3 ∧ g3 < w3_.heap.size from ⟨by rw [hg]; exact Nat.le_refl _, blk_lt hbox⟩)
  clear hbox hg
  have Z3_ := Aside0.mk (show w2_.heap.size ≤ w3_.heap.size from hb.size)
  have n_ := Aside0.mk (blk_below Bg1.out hb); clear Bg1; have Bg1 := n_; clear n_
  have n_ := Aside0.mk (blk_below Bg2.out hb); clear Bg2; have Bg2 := n_; clear n_
  have n_ := Aside0.mk (below_step HB.out hb); clear HB; have HB := n_; clear n_
  clear hxg1_0
  clear hfg1_0
  clear hxg2_0
  clear hxg2_1
  clear hfg2_0
  clear hfg2_1
  have hxg1_0 : w3_.cell? ⟨g1, 0, none⟩ = some (.slice A0_0 l0_0.length c0_0) := (blk_cell Bg1.out 0).trans rfl
  have hfg1_0 := blk_frozen Bg1.out 0
  have hxg2_0 : w3_.cell? ⟨g2, 0, none⟩ = some (.slice A1_0 l1_0.length c1_0) := (blk_cell Bg2.out 0).trans rfl
  have hxg2_1 : w3_.cell? ⟨g2, 1, none⟩ = some (.slice A1_1 l1_1.length c1_1) := (blk_cell Bg2.out 1).trans rfl
  have hfg2_0 := blk_frozen Bg2.out 0
  have hfg2_1 := blk_frozen Bg2.out 1
  have hxg3_0 : w3_.cell? ⟨g3, 0, none⟩ = some (.slice A2_0 l2_0.length c2_0) := (blk_cell Bg3.out 0).trans rfl
  have hxg3_1 : w3_.cell? ⟨g3, 1, none⟩ = some (.slice A2_1 l2_1.length c2_1) := (blk_cell Bg3.out 1).trans rfl
  have hfg3_0 := blk_frozen Bg3.out 0
  have hfg3_1 := blk_frozen Bg3.out 1
  clear hb
  go_wp2_with (first | (go_at_call 47; refine hold ?_))
  unfold Hold
  refine (laws_szSchema.calls _ _ l0_0 1048576 r1_0 _ (Kd.C_below H0_0.out HB.out) HC0_0.out Ee1.out).mono ?_
  rintro e w4_ ⟨rfl, hb⟩
  have Z4_ := Aside0.mk (show w3_.heap.size ≤ w4_.heap.size from hb.size)
  have n_ := Aside0.mk (blk_below Bg1.out hb); clear Bg1; have Bg1 := n_; clear n_
  have n_ := Aside0.mk (blk_below Bg2.out hb); clear Bg2; have Bg2 := n_; clear n_
  have n_ := Aside0.mk (blk_below Bg3.out hb); clear Bg3; have Bg3 := n_; clear n_
  have n_ := Aside0.mk (below_step HB.out hb); clear HB; have HB := n_; clear n_
  clear hxg1_0
  clear hfg1_0
  clear hxg2_0
  clear hxg2_1
  clear hfg2_0
  clear hfg2_1
  clear hxg3_0
  clear hxg3_1
  clear hfg3_0
  clear hfg3_1
  have hxg1_0 : w4_.cell? ⟨g1, 0, none⟩ = some (.slice A0_0 l0_0.length c0_0) := (blk_cell Bg1.out 0).trans rfl
  have hfg1_0 := blk_frozen Bg1.out 0
  have hxg2_0 : w4_.cell? ⟨g2, 0, none⟩ = some (.slice A1_0 l1_0.length c1_0) := (blk_cell Bg2.out 0).trans rfl
  have hxg2_1 : w4_.cell? ⟨g2, 1, none⟩ = some (.slice A1_1 l1_1.length c1_1) := (blk_cell Bg2.out 1).trans rfl
  have hfg2_0 := blk_frozen Bg2.out 0
  have hfg2_1 := blk_frozen Bg2.out 1
  have hxg3_0 : w4_.cell? ⟨g3, 0, none⟩ = some (.slice A2_0 l2_0.length c2_0) := (blk_cell Bg3.out 0).trans rfl
  have hxg3_1 : w4_.cell? ⟨g3, 1, none⟩ = some (.slice A2_1 l2_1.length c2_1) := (blk_cell Bg3.out 1).trans rfl
  have hfg3_0 := blk_frozen Bg3.out 0
  have hfg3_1 := blk_frozen Bg3.out 1
  clear hb
  go_wp2_with (first | (go_at_call 30; refine hold ?_))
  unfold Hold
  refine (laws_szQuery.calls ke3 _ _ l1_0 _ _ l1_1 r1_0 r3_0 _ (Kd.C_below H1_0.out HB.out) HC1_0.out (Kd.C_below H1_1.out HB.out) HC1_1.out Ee3.out).mono ?_
  rintro e w5_ ⟨rfl, hb⟩
  have Z5_ := Aside0.mk (show w4_.heap.size ≤ w5_.heap.size from hb.size)
  have n_ := Aside0.mk (blk_below Bg1.out hb); clear Bg1; have Bg1 := n_; clear n_
  have n_ := Aside0.mk (blk_below Bg2.out hb); clear Bg2; have Bg2 := n_; clear n_
  have n_ := Aside0.mk (blk_below Bg3.out hb); clear Bg3; have Bg3 := n_; clear n_
  have n_ := Aside0.mk (below_step HB.out hb); clear HB; have HB := n_; clear n_
  clear hxg1_0
  clear hfg1_0
  clear hxg2_0
  clear hxg2_1
  clear hfg2_0
  clear hfg2_1
  clear hxg3_0
  clear hxg3_1
  clear hfg3_0
  clear hfg3_1
  have hxg1_0 : w5_.cell? ⟨g1, 0, none⟩ = some (.slice A0_0 l0_0.length c0_0) := (blk_cell Bg1.out 0).trans rfl
  have hfg1_0 := blk_frozen Bg1.out 0
  have hxg2_0 : w5_.cell? ⟨g2, 0, none⟩ = some (.slice A1_0 l1_0.length c1_0) := (blk_cell Bg2.out 0).trans rfl
  have hxg2_1 : w5_.cell? ⟨g2, 1, none⟩ = some (.slice A1_1 l1_1.length c1_1) := (blk_cell Bg2.out 1).trans rfl
  have hfg2_0 := blk_frozen Bg2.out 0
  have hfg2_1 := blk_frozen Bg2.out 1
  have hxg3_0 : w5_.cell? ⟨g3, 0, none⟩ = some (.slice A2_0 l2_0.length c2_0) := (blk_cell Bg3.out 0).trans rfl
  have hxg3_1 : w5_.cell? ⟨g3, 1, none⟩ = some (.slice A2_1 l2_1.length c2_1) := (blk_cell Bg3.out 1).trans rfl
  have hfg3_0 := blk_frozen Bg3.out 0
  have hfg3_1 := blk_frozen Bg3.out 1
  clear hb
  go_wp2
  go_ret
  exact ⟨rfl, HB.out⟩
set_option maxHeartbeats 8000000 in
set_option maxRecDepth 100000 in
theorem laws_FnExactIsMapping_out3 (A0_0 : Option Addr) (c0_0 : Nat) (l0_0 : List Int) (A1_0 : Option Addr) (c1_0 : Nat) (l1_0 : List Int) (A1_1 : Option Addr) (c1_1 : Nat) (l1_1 : List S124) (A2_0 : Option Addr) (c2_0 : Nat) (l2_0 : List Int) (A2_1 : Option Addr) (c2_1 : Nat) (l2_1 : List S124) (A3 : Option Addr) (c3 : Nat) (l3 : List Int) (w : World) (hr0_0 : Kd.C (Kd.int .i64) w A0_0 l0_0.length l0_0) (hc0_0 : l0_0.length ≤ c0_0) (hr1_0 : Kd.C (Kd.int .i64) w A1_0 l1_0.length l1_0) (hc1_0 : l1_0.length ≤ c1_0) (hr1_1 : Kd.C k124 w A1_1 l1_1.length l1_1) (hc1_1 : l1_1.length ≤ c1_1) (hr2_0 : Kd.C (Kd.int .i64) w A2_0 l2_0.length l2_0) (hc2_0 : l2_0.length ≤ c2_0) (hr2_1 : Kd.C k124 w A2_1 l2_1.length l2_1) (hc2_1 : l2_1.length ≤ c2_1) (hr3 : Kd.C (Kd.int .i64) w A3 l3.length l3) (hc3 : l3.length ≤ c3) (r1_0 : Int) (r3_0 : Int) (r5_0 : Int)
    (ct0 : ¬ (l3.length : Int) > 1048576)
 (e1 : laws_szSchema.f l0_0 1048576 = some r1_0)
 (ct1 : ¬ r1_0 < 0)
 (e3 : ∃ k, laws_szQuery.f k l1_0 l1_1 r1_0 = some r3_0)
 (ct2 : ¬ r3_0 < 0)
 (e5 : ∃ k, laws_szQuery.f k l2_0 l2_1 r3_0 = some r5_0)
 (ct3 : r5_0 < 0) :
    Calls Try.prog 9 #[.agg #[.slice A0_0 l0_0.length c0_0], .agg #[.slice A1_0 l1_0.length c1_0, .slice A1_1 l1_1.length c1_1], .agg #[.slice A2_0 l2_0.length c2_0, .slice A2_1 l2_1.length c2_1], .slice A3 l3.length c3] w fun e w' => e = .returned (.bool true) ∧ Below w.heap.size w w' := by
  have H0_0 := Aside0.mk hr0_0
  have HC0_0 := Aside0.mk hc0_0
  clear hr0_0 hc0_0
  have H1_0 := Aside0.mk hr1_0
  have HC1_0 := Aside0.mk hc1_0
  clear hr1_0 hc1_0
  have H1_1 := Aside0.mk hr1_1
  have HC1_1 := Aside0.mk hc1_1
  clear hr1_1 hc1_1
  have H2_0 := Aside0.mk hr2_0
  have HC2_0 := Aside0.mk hc2_0
  clear hr2_0 hc2_0
  have H2_1 := Aside0.mk hr2_1
  have HC2_1 := Aside0.mk hc2_1
  clear hr2_1 hc2_1
  have H3 := Aside0.mk hr3
  have HC3 := Aside0.mk hc3
  clear hr3 hc3
  have ct0b := decide_eq_false (show ¬ 1048576 < (l3.length : Int) from ct0)
  have ct0n : decide (1048576 < l3.length) = false := decide_eq_false (by omega)
  clear ct0
  have Ee1 := Aside0.mk e1; clear e1
  have ct1b := decide_eq_false (show ¬ r1_0 < 0 from ct1)
  clear ct1
  obtain ⟨ke3, q_⟩ := e3; have Ee3 := Aside0.mk q_; clear q_
  have ct2b := decide_eq_false (show ¬ r3_0 < 0 from ct2)
  clear ct2
  obtain ⟨ke5, q_⟩ := e5; have Ee5 := Aside0.mk q_; clear q_
  have ct3b := decide_eq_true (show r5_0 < 0 from ct3)
  clear ct3
  have HB := Aside0.mk (Below.refl w.heap.size w)
  have hu41 := Try.underlying41
  have hu62 := Try.underlying62
  go_enter Try.func9, Try.ntmps9
  go_wp2_with (first | ((with_reducible refine gate_dst (N := 4) rfl ?_); refine hold ?_))
  unfold Hold
  refine box_event ?hg (N := 4) ?hd (cs := #[.slice A0_0 l0_0.length c0_0]) (t := 62) ?hr ?_
  case hd => rfl
  case hg => rfl
  case hr => first | (go_simp; done) | (go_simp; rfl)
  intro g1 hg w1_ hbox hb
  have Bg1 := Aside0.mk hbox
  have Gg1 := Aside0.mk (show w.heap.size ≤ g1 ∧ g1 < w1_.heap.size from ⟨by rw [hg]; exact Nat.le_refl _, blk_lt hbox⟩)
  clear hbox hg
  have Z1_ := Aside0.mk (show w.heap.size ≤ w1_.heap.size from hb.size)
  have n_ := Aside0.mk (below_step HB.out hb); clear HB; have HB := n_; clear n_
  have hxg1_0 : w1_.cell? ⟨g1, 0, none⟩ = some (.slice A0_0 l0_0.length c0_0) := (blk_cell Bg1.out 0).trans rfl
  have hfg1_0 := blk_frozen Bg1.out 0
  clear hb
  go_wp2_with (first | ((with_reducible refine gate_dst (N := 5) rfl ?_); refine hold ?_))
  unfold Hold
  refine box_event ?hg (N := 5) ?hd (cs := #[.slice A1_0 l1_0.length c1_0, .slice A1_1 l1_1.length c1_1]) (t := 41) ?hr ?_
  case hd => rfl
  case hg => rfl
  case hr => first | (go_simp; done) | (go_simp; rfl)
  intro g2 hg w2_ hbox hb
  have Bg2 := Aside0.mk hbox
  have Gg2 := Aside0.mk (show w1_.heap.size ≤ g2 ∧ g2 < w2_.heap.size from ⟨by rw [hg]; exact Nat.le_refl _, blk_lt hbox⟩)
  clear hbox hg
  have Z2_ := Aside0.mk (show w1_.heap.size ≤ w2_.heap.size from hb.size)
  have n_ := Aside0.mk (blk_below Bg1.out hb); clear Bg1; have Bg1 := n_; clear n_
  have n_ := Aside0.mk (below_step HB.out hb); clear HB; have HB := n_; clear n_
  clear hxg1_0
  clear hfg1_0
  have hxg1_0 : w2_.cell? ⟨g1, 0, none⟩ = some (.slice A0_0 l0_0.length c0_0) := (blk_cell Bg1.out 0).trans rfl
  have hfg1_0 := blk_frozen Bg1.out 0
  have hxg2_0 : w2_.cell? ⟨g2, 0, none⟩ = some (.slice A1_0 l1_0.length c1_0) := (blk_cell Bg2.out 0).trans rfl
  have hxg2_1 : w2_.cell? ⟨g2, 1, none⟩ = some (.slice A1_1 l1_1.length c1_1) := (blk_cell Bg2.out 1).trans rfl
  have hfg2_0 := blk_frozen Bg2.out 0
  have hfg2_1 := blk_frozen Bg2.out 1
  clear hb
  go_wp2_with (first | ((with_reducible refine gate_dst (N := 6) rfl ?_); refine hold ?_))
  unfold Hold
  refine box_event ?hg (N := 6) ?hd (cs := #[.slice A2_0 l2_0.length c2_0, .slice A2_1 l2_1.length c2_1]) (t := 41) ?hr ?_
  case hd => rfl
  case hg => rfl
  case hr => first | (go_simp; done) | (go_simp; rfl)
  intro g3 hg w3_ hbox hb
  have Bg3 := Aside0.mk hbox
  have Gg3 := Aside0.mk (show w2_.heap.size ≤ g3 ∧ g3 < w3_.heap.size from ⟨by rw [hg]; exact Nat.le_refl _, blk_lt hbox⟩)
  clear hbox hg
  have Z3_ := Aside0.mk (show w2_.heap.size ≤ w3_.heap.size from hb.size)
  have n_ := Aside0.mk (blk_below Bg1.out hb); clear Bg1; have Bg1 := n_; clear n_
  have n_ := Aside0.mk (blk_below Bg2.out hb); clear Bg2; have Bg2 := n_; clear n_
  have n_ := Aside0.mk (below_step HB.out hb); clear HB; have HB := n_; clear n_
  clear hxg1_0
  clear hfg1_0
  clear hxg2_0
  clear hxg2_1
  clear hfg2_0
  clear hfg2_1
  have hxg1_0 : w3_.cell? ⟨g1, 0, none⟩ = some (.slice A0_0 l0_0.length c0_0) := (blk_cell Bg1.out 0).trans rfl
  have hfg1_0 := blk_frozen Bg1.out 0
  have hxg2_0 : w3_.cell? ⟨g2, 0, none⟩ = some (.slice A1_0 l1_0.length c1_0) := (blk_cell Bg2.out 0).trans rfl
  have hxg2_1 : w3_.cell? ⟨g2, 1, none⟩ = some (.slice A1_1 l1_1.length c1_1) := (blk_cell Bg2.out 1).trans rfl
  have hfg2_0 := blk_frozen Bg2.out 0
  have hfg2_1 := blk_frozen Bg2.out 1
  have hxg3_0 : w3_.cell? ⟨g3, 0, none⟩ = some (.slice A2_0 l2_0.length c2_0) := (blk_cell Bg3.out 0).trans rfl
  have hxg3_1 : w3_.cell? ⟨g3, 1, none⟩ = some (.slice A2_1 l2_1.length c2_1) := (blk_cell Bg3.out 1).trans rfl
  have hfg3_0 := blk_frozen Bg3.out 0
  have hfg3_1 := blk_frozen Bg3.out 1
  clear hb
  go_wp2_with (first | (go_at_call 47; refine hold ?_))
  unfold Hold
  refine (laws_szSchema.calls _ _ l0_0 1048576 r1_0 _ (Kd.C_below H0_0.out HB.out) HC0_0.out Ee1.out).mono ?_
  rintro e w4_ ⟨rfl, hb⟩
  have Z4_ := Aside0.mk (show w3_.heap.size ≤ w4_.heap.size from hb.size)
  have n_ := Aside0.mk (blk_below Bg1.out hb); clear Bg1; have Bg1 := n_; clear n_
  have n_ := Aside0.mk (blk_below Bg2.out hb); clear Bg2; have Bg2 := n_; clear n_
  have n_ := Aside0.mk (blk_below Bg3.out hb); clear Bg3; have Bg3 := n_; clear n_
  have n_ := Aside0.mk (below_step HB.out hb); clear HB; have HB := n_; clear n_
  clear hxg1_0
  clear hfg1_0
  clear hxg2_0
  clear hxg2_1
  clear hfg2_0
  clear hfg2_1
  clear hxg3_0
  clear hxg3_1
  clear hfg3_0
  clear hfg3_1
  have hxg1_0 : w4_.cell? ⟨g1, 0, none⟩ = some (.slice A0_0 l0_0.length c0_0) := (blk_cell Bg1.out 0).trans rfl
  have hfg1_0 := blk_frozen Bg1.out 0
  have hxg2_0 : w4_.cell? ⟨g2, 0, none⟩ = some (.slice A1_0 l1_0.length c1_0) := (blk_cell Bg2.out 0).trans rfl
  have hxg2_1 : w4_.cell? ⟨g2, 1, none⟩ = some (.slice A1_1 l1_1.length c1_1) := (blk_cell Bg2.out 1).trans rfl
  have hfg2_0 := blk_frozen Bg2.out 0
  have hfg2_1 := blk_frozen Bg2.out 1
  have hxg3_0 : w4_.cell? ⟨g3, 0, none⟩ = some (.slice A2_0 l2_0.length c2_0) := (blk_cell Bg3.out 0).trans rfl
  have hxg3_1 : w4_.cell? ⟨g3, 1, none⟩ = some (.slice A2_1 l2_1.length c2_1) := (blk_cell Bg3.out 1).trans rfl
  have hfg3_0 := blk_frozen Bg3.out 0
  have hfg3_1 := blk_frozen Bg3.out 1
  clear hb
  go_wp2_with (first | (go_at_call 30; refine hold ?_))
  unfold Hold
  refine (laws_szQuery.calls ke3 _ _ l1_0 _ _ l1_1 r1_0 r3_0 _ (Kd.C_below H1_0.out HB.out) HC1_0.out (Kd.C_below H1_1.out HB.out) HC1_1.out Ee3.out).mono ?_
  rintro e w5_ ⟨rfl, hb⟩
  have Z5_ := Aside0.mk (show w4_.heap.size ≤ w5_.heap.size from hb.size)
  have n_ := Aside0.mk (blk_below Bg1.out hb); clear Bg1; have Bg1 := n_; clear n_
  have n_ := Aside0.mk (blk_below Bg2.out hb); clear Bg2; have Bg2 := n_; clear n_
  have n_ := Aside0.mk (blk_below Bg3.out hb); clear Bg3; have Bg3 := n_; clear n_
  have n_ := Aside0.mk (below_step HB.out hb); clear HB; have HB := n_; clear n_
  clear hxg1_0
  clear hfg1_0
  clear hxg2_0
  clear hxg2_1
  clear hfg2_0
  clear hfg2_1
  clear hxg3_0
  clear hxg3_1
  clear hfg3_0
  clear hfg3_1
  have hxg1_0 : w5_.cell? ⟨g1, 0, none⟩ = some (.slice A0_0 l0_0.length c0_0) := (blk_cell Bg1.out 0).trans rfl
  have hfg1_0 := blk_frozen Bg1.out 0
  have hxg2_0 : w5_.cell? ⟨g2, 0, none⟩ = some (.slice A1_0 l1_0.length c1_0) := (blk_cell Bg2.out 0).trans rfl
  have hxg2_1 : w5_.cell? ⟨g2, 1, none⟩ = some (.slice A1_1 l1_1.length c1_1) := (blk_cell Bg2.out 1).trans rfl
  have hfg2_0 := blk_frozen Bg2.out 0
  have hfg2_1 := blk_frozen Bg2.out 1
  have hxg3_0 : w5_.cell? ⟨g3, 0, none⟩ = some (.slice A2_0 l2_0.length c2_0) := (blk_cell Bg3.out 0).trans rfl
  have hxg3_1 : w5_.cell? ⟨g3, 1, none⟩ = some (.slice A2_1 l2_1.length c2_1) := (blk_cell Bg3.out 1).trans rfl
  have hfg3_0 := blk_frozen Bg3.out 0
  have hfg3_1 := blk_frozen Bg3.out 1
  clear hb
  go_wp2_with (first | (go_at_call 30; refine hold ?_))
  unfold Hold
  refine (laws_szQuery.calls ke5 _ _ l2_0 _ _ l2_1 r3_0 r5_0 _ (Kd.C_below H2_0.out HB.out) HC2_0.out (Kd.C_below H2_1.out HB.out) HC2_1.out Ee5.out).mono ?_
  rintro e w6_ ⟨rfl, hb⟩
  have Z6_ := Aside0.mk (show w5_.heap.size ≤ w6_.heap.size from hb.size)
  have n_ := Aside0.mk (blk_below Bg1.out hb); clear Bg1; have Bg1 := n_; clear n_
  have n_ := Aside0.mk (blk_below Bg2.out hb); clear Bg2; have Bg2 := n_; clear n_
  have n_ := Aside0.mk (blk_below Bg3.out hb); clear Bg3; have Bg3 := n_; clear n_
  have n_ := Aside0.mk (below_step HB.out hb); clear HB; have HB := n_; clear n_
  clear hxg1_0
  clear hfg1_0
  clear hxg2_0
  clear hxg2_1
  clear hfg2_0
  clear hfg2_1
  clear hxg3_0
  clear hxg3_1
  clear hfg3_0
  clear hfg3_1
  have hxg1_0 : w6_.cell? ⟨g1, 0, none⟩ = some (.slice A0_0 l0_0.length c0_0) := (blk_cell Bg1.out 0).trans rfl
  have hfg1_0 := blk_frozen Bg1.out 0
  have hxg2_0 : w6_.cell? ⟨g2, 0, none⟩ = some (.slice A1_0 l1_0.length c1_0) := (blk_cell Bg2.out 0).trans rfl
  have hxg2_1 : w6_.cell? ⟨g2, 1, none⟩ = some (.slice A1_1 l1_1.length c1_1) := (blk_cell Bg2.out 1).trans rfl
  have hfg2_0 := blk_frozen Bg2.out 0
  have hfg2_1 := blk_frozen Bg2.out 1
  have hxg3_0 : w6_.cell? ⟨g3, 0, none⟩ = some (.slice A2_0 l2_0.length c2_0) := (blk_cell Bg3.out 0).trans rfl
  have hxg3_1 : w6_.cell? ⟨g3, 1, none⟩ = some (.slice A2_1 l2_1.length c2_1) := (blk_cell Bg3.out 1).trans rfl
  have hfg3_0 := blk_frozen Bg3.out 0
  have hfg3_1 := blk_frozen Bg3.out 1
  clear hb
  go_wp2
  go_ret
  exact ⟨rfl, HB.out⟩
set_option maxHeartbeats 8000000 in
set_option maxRecDepth 100000 in
theorem laws_FnExactIsMapping_walk (A0_0 : Option Addr) (c0_0 : Nat) (l0_0 : List Int) (A1_0 : Option Addr) (c1_0 : Nat) (l1_0 : List Int) (A1_1 : Option Addr) (c1_1 : Nat) (l1_1 : List S124) (A2_0 : Option Addr) (c2_0 : Nat) (l2_0 : List Int) (A2_1 : Option Addr) (c2_1 : Nat) (l2_1 : List S124) (A3 : Option Addr) (c3 : Nat) (l3 : List Int) (w : World) (hr0_0 : Kd.C (Kd.int .i64) w A0_0 l0_0.length l0_0) (hc0_0 : l0_0.length ≤ c0_0) (hr1_0 : Kd.C (Kd.int .i64) w A1_0 l1_0.length l1_0) (hc1_0 : l1_0.length ≤ c1_0) (hr1_1 : Kd.C k124 w A1_1 l1_1.length l1_1) (hc1_1 : l1_1.length ≤ c1_1) (hr2_0 : Kd.C (Kd.int .i64) w A2_0 l2_0.length l2_0) (hc2_0 : l2_0.length ≤ c2_0) (hr2_1 : Kd.C k124 w A2_1 l2_1.length l2_1) (hc2_1 : l2_1.length ≤ c2_1) (hr3 : Kd.C (Kd.int .i64) w A3 l3.length l3) (hc3 : l3.length ≤ c3) (r1_0 : Int) (r3_0 : Int) (r5_0 : Int) (r7_0 : List Int) (r8_0 : List Int) (r8_1 : List (S97)) (r9_0 : List Int) (r9_1 : List (S97)) (r10_0 : List Int) (r11_0 : Bool)
    (ct0 : ¬ (l3.length : Int) > 1048576)
 (e1 : laws_szSchema.f l0_0 1048576 = some r1_0)
 (ct1 : ¬ r1_0 < 0)
 (e3 : ∃ k, laws_szQuery.f k l1_0 l1_1 r1_0 = some r3_0)
 (ct2 : ¬ r3_0 < 0)
 (e5 : ∃ k, laws_szQuery.f k l2_0 l2_1 r3_0 = some r5_0)
 (ct3 : ¬ r5_0 < 0)
 (e7 : ∃ k, laws_toSchema.f k l0_0 = some r7_0)
 (e8 : ∃ k, laws_toQuery.f k l1_0 l1_1 = some (r8_0, r8_1))
 (e9 : ∃ k, laws_toQuery.f k l2_0 l2_1 = some (r9_0, r9_1))
 (e10 : ∃ k, laws_toIntS.f k l3 = some r10_0)
 (e11 : ∃ k, spec_IsMapping.f k r7_0 r8_0 r8_1 r9_0 r9_1 r10_0 = some r11_0)
 (e12 : mIsMap r7_0 r8_0 r8_1 r9_0 r9_1 r10_0 = r11_0)
 (e12_hz0_ : (r7_0.length ≤ 1048576 ∧ r8_0.length ≤ 1048576 ∧ r8_1.length ≤ 1048576 ∧ r9_0.length ≤ 1048576 ∧ r9_1.length ≤ 1048576 ∧ r10_0.length ≤ 1048576) ∧ (∀ x ∈ r8_1, x.f1.length ≤ 1048576) ∧ ∀ x ∈ r9_1, x.f1.length ≤ 1048576)
 (e13 : ∃ k, laws_eqSchema.f k r7_0 r7_0 = some true)
 (e14 : ∃ k, laws_eqQuery.f k r8_0 r8_1 r8_0 r8_1 = some true)
 (e15 : ∃ k, laws_eqQuery.f k r9_0 r9_1 r9_0 r9_1 = some true)
 (e16 : ∃ k, laws_eqIntS.f k r10_0 r10_0 = some true) :
    Calls Try.prog 9 #[.agg #[.slice A0_0 l0_0.length c0_0], .agg #[.slice A1_0 l1_0.length c1_0, .slice A1_1 l1_1.length c1_1], .agg #[.slice A2_0 l2_0.length c2_0, .slice A2_1 l2_1.length c2_1], .slice A3 l3.length c3] w fun e w' => e = .returned (.bool true) ∧ Below w.heap.size w w' := by
  have H0_0 := Aside0.mk hr0_0
  have HC0_0 := Aside0.mk hc0_0
  clear hr0_0 hc0_0
  have H1_0 := Aside0.mk hr1_0
  have HC1_0 := Aside0.mk hc1_0
  clear hr1_0 hc1_0
  have H1_1 := Aside0.mk hr1_1
  have HC1_1 := Aside0.mk hc1_1
  clear hr1_1 hc1_1
  have H2_0 := Aside0.mk hr2_0
  have HC2_0 := Aside0.mk hc2_0
  clear hr2_0 hc2_0
  have H2_1 := Aside0.mk hr2_1
  have HC2_1 := Aside0.mk hc2_1
  clear hr2_1 hc2_1
  have H3 := Aside0.mk hr3
  have HC3 := Aside0.mk hc3
  clear hr3 hc3
  have ct0b := decide_eq_false (show ¬ 1048576 < (l3.length : Int) from ct0)
  have ct0n : decide (1048576 < l3.length) = false := decide_eq_false (by omega)
  clear ct0
  have Ee1 := Aside0.mk e1; clear e1
  have ct1b := decide_eq_false (show ¬ r1_0 < 0 from ct1)
  clear ct1
  obtain ⟨ke3, q_⟩ := e3; have Ee3 := Aside0.mk q_; clear q_
  have ct2b := decide_eq_false (show ¬ r3_0 < 0 from ct2)
  clear ct2
  obtain ⟨ke5, q_⟩ := e5; have Ee5 := Aside0.mk q_; clear q_
  have ct3b := decide_eq_false (show ¬ r5_0 < 0 from ct3)
  clear ct3
  obtain ⟨ke7, q_⟩ := e7; have Ee7 := Aside0.mk q_; clear q_
  obtain ⟨ke8, q_⟩ := e8; have Ee8 := Aside0.mk q_; clear q_
  obtain ⟨ke9, q_⟩ := e9; have Ee9 := Aside0.mk q_; clear q_
  obtain ⟨ke10, q_⟩ := e10; have Ee10 := Aside0.mk q_; clear q_
  obtain ⟨ke11, q_⟩ := e11; have Ee11 := Aside0.mk q_; clear q_
  have e12_hz0 := Aside0.mk e12_hz0_; clear e12_hz0_
  have Ee12 := Aside0.mk e12; clear e12
  obtain ⟨ke13, q_⟩ := e13; have Ee13 := Aside0.mk q_; clear q_
  obtain ⟨ke14, q_⟩ := e14; have Ee14 := Aside0.mk q_; clear q_
  obtain ⟨ke15, q_⟩ := e15; have Ee15 := Aside0.mk q_; clear q_
  obtain ⟨ke16, q_⟩ := e16; have Ee16 := Aside0.mk q_; clear q_
  have HB := Aside0.mk (Below.refl w.heap.size w)
  have hu65 := Try.underlying65
  have hu46 := Try.underlying46
  have hu41 := Try.underlying41
  have hu62 := Try.underlying62
  go_enter Try.func9, Try.ntmps9
  go_wp2_with (first | ((with_reducible refine gate_dst (N := 4) rfl ?_); refine hold ?_))
  unfold Hold
  refine box_event ?hg (N := 4) ?hd (cs := #[.slice A0_0 l0_0.length c0_0]) (t := 62) ?hr ?_
  case hd => rfl
  case hg => rfl
  case hr => first | (go_simp; done) | (go_simp; rfl)
  intro g1 hg w1_ hbox hb
  have Bg1 := Aside0.mk hbox
  have Gg1 := Aside0.mk (show w.heap.size ≤ g1 ∧ g1 < w1_.heap.size from ⟨by rw [hg]; exact Nat.le_refl _, blk_lt hbox⟩)
  clear hbox hg
  have Z1_ := Aside0.mk (show w.heap.size ≤ w1_.heap.size from hb.size)
  have n_ := Aside0.mk (below_step HB.out hb); clear HB; have HB := n_; clear n_
  have hxg1_0 : w1_.cell? ⟨g1, 0, none⟩ = some (.slice A0_0 l0_0.length c0_0) := (blk_cell Bg1.out 0).trans rfl
  have hfg1_0 := blk_frozen Bg1.out 0
  clear hb
  go_wp2_with (first | ((with_reducible refine gate_dst (N := 5) rfl ?_); refine hold ?_))
  unfold Hold
  refine box_event ?hg (N := 5) ?hd (cs := #[.slice A1_0 l1_0.length c1_0, .slice A1_1 l1_1.length c1_1]) (t := 41) ?hr ?_
  case hd => rfl
  case hg => rfl
  case hr => first | (go_simp; done) | (go_simp; rfl)
  intro g2 hg w2_ hbox hb
  have Bg2 := Aside0.mk hbox
  have Gg2 := Aside0.mk (show w1_.heap.size ≤ g2 ∧ g2 < w2_.heap.size from ⟨by rw [hg]; exact Nat.le_refl _, blk_lt hbox⟩)
  clear hbox hg
  have Z2_ := Aside0.mk (show w1_.heap.size ≤ w2_.heap.size from hb.size)
  have n_ := Aside0.mk (blk_below Bg1.out hb); clear Bg1; have Bg1 := n_; clear n_
  have n_ := Aside0.mk (below_step HB.out hb); clear HB; have HB := n_; clear n_
  clear hxg1_0
  clear hfg1_0
  have hxg1_0 : w2_.cell? ⟨g1, 0, none⟩ = some (.slice A0_0 l0_0.length c0_0) := (blk_cell Bg1.out 0).trans rfl
  have hfg1_0 := blk_frozen Bg1.out 0
  have hxg2_0 : w2_.cell? ⟨g2, 0, none⟩ = some (.slice A1_0 l1_0.length c1_0) := (blk_cell Bg2.out 0).trans rfl
  have hxg2_1 : w2_.cell? ⟨g2, 1, none⟩ = some (.slice A1_1 l1_1.length c1_1) := (blk_cell Bg2.out 1).trans rfl
  have hfg2_0 := blk_frozen Bg2.out 0
  have hfg2_1 := blk_frozen Bg2.out 1
  clear hb
  go_wp2_with (first | ((with_reducible refine gate_dst (N := 6) rfl ?_); refine hold ?_))
  unfold Hold
  refine box_event ?hg (N := 6) ?hd (cs := #[.slice A2_0 l2_0.length c2_0, .slice A2_1 l2_1.length c2_1]) (t := 41) ?hr ?_
  case hd => rfl
  case hg => rfl
  case hr => first | (go_simp; done) | (go_simp; rfl)
  intro g3 hg w3_ hbox hb
  have Bg3 := Aside0.mk hbox
  have Gg3 := Aside0.mk (show w2_.heap.size ≤ g3 ∧ g3 < w3_.heap.size from ⟨by rw [hg]; exact Nat.le_refl _, blk_lt hbox⟩)
  clear hbox hg
  have Z3_ := Aside0.mk (show w2_.heap.size ≤ w3_.heap.size from hb.size)
  have n_ := Aside0.mk (blk_below Bg1.out hb); clear Bg1; have Bg1 := n_; clear n_
  have n_ := Aside0.mk (blk_below Bg2.out hb); clear Bg2; have Bg2 := n_; clear n_
  have n_ := Aside0.mk (below_step HB.out hb); clear HB; have HB := n_; clear n_
  clear hxg1_0
  clear hfg1_0
  clear hxg2_0
  clear hxg2_1
  clear hfg2_0
  clear hfg2_1
  have hxg1_0 : w3_.cell? ⟨g1, 0, none⟩ = some (.slice A0_0 l0_0.length c0_0) := (blk_cell Bg1.out 0).trans rfl
  have hfg1_0 := blk_frozen Bg1.out 0
  have hxg2_0 : w3_.cell? ⟨g2, 0, none⟩ = some (.slice A1_0 l1_0.length c1_0) := (blk_cell Bg2.out 0).trans rfl
  have hxg2_1 : w3_.cell? ⟨g2, 1, none⟩ = some (.slice A1_1 l1_1.length c1_1) := (blk_cell Bg2.out 1).trans rfl
  have hfg2_0 := blk_frozen Bg2.out 0
  have hfg2_1 := blk_frozen Bg2.out 1
  have hxg3_0 : w3_.cell? ⟨g3, 0, none⟩ = some (.slice A2_0 l2_0.length c2_0) := (blk_cell Bg3.out 0).trans rfl
  have hxg3_1 : w3_.cell? ⟨g3, 1, none⟩ = some (.slice A2_1 l2_1.length c2_1) := (blk_cell Bg3.out 1).trans rfl
  have hfg3_0 := blk_frozen Bg3.out 0
  have hfg3_1 := blk_frozen Bg3.out 1
  clear hb
  go_wp2_with (first | (go_at_call 47; refine hold ?_))
  unfold Hold
  refine (laws_szSchema.calls _ _ l0_0 1048576 r1_0 _ (Kd.C_below H0_0.out HB.out) HC0_0.out Ee1.out).mono ?_
  rintro e w4_ ⟨rfl, hb⟩
  have Z4_ := Aside0.mk (show w3_.heap.size ≤ w4_.heap.size from hb.size)
  have n_ := Aside0.mk (blk_below Bg1.out hb); clear Bg1; have Bg1 := n_; clear n_
  have n_ := Aside0.mk (blk_below Bg2.out hb); clear Bg2; have Bg2 := n_; clear n_
  have n_ := Aside0.mk (blk_below Bg3.out hb); clear Bg3; have Bg3 := n_; clear n_
  have n_ := Aside0.mk (below_step HB.out hb); clear HB; have HB := n_; clear n_
  clear hxg1_0
  clear hfg1_0
  clear hxg2_0
  clear hxg2_1
  clear hfg2_0
  clear hfg2_1
  clear hxg3_0
  clear hxg3_1
  clear hfg3_0
  clear hfg3_1
  have hxg1_0 : w4_.cell? ⟨g1, 0, none⟩ = some (.slice A0_0 l0_0.length c0_0) := (blk_cell Bg1.out 0).trans rfl
  have hfg1_0 := blk_frozen Bg1.out 0
  have hxg2_0 : w4_.cell? ⟨g2, 0, none⟩ = some (.slice A1_0 l1_0.length c1_0) := (blk_cell Bg2.out 0).trans rfl
  have hxg2_1 : w4_.cell? ⟨g2, 1, none⟩ = some (.slice A1_1 l1_1.length c1_1) := (blk_cell Bg2.out 1).trans rfl
  have hfg2_0 := blk_frozen Bg2.out 0
  have hfg2_1 := blk_frozen Bg2.out 1
  have hxg3_0 : w4_.cell? ⟨g3, 0, none⟩ = some (.slice A2_0 l2_0.length c2_0) := (blk_cell Bg3.out 0).trans rfl
  have hxg3_1 : w4_.cell? ⟨g3, 1, none⟩ = some (.slice A2_1 l2_1.length c2_1) := (blk_cell Bg3.out 1).trans rfl
  have hfg3_0 := blk_frozen Bg3.out 0
  have hfg3_1 := blk_frozen Bg3.out 1
  clear hb
  go_wp2_with (first | (go_at_call 30; refine hold ?_))
  unfold Hold
  refine (laws_szQuery.calls ke3 _ _ l1_0 _ _ l1_1 r1_0 r3_0 _ (Kd.C_below H1_0.out HB.out) HC1_0.out (Kd.C_below H1_1.out HB.out) HC1_1.out Ee3.out).mono ?_
  rintro e w5_ ⟨rfl, hb⟩
  have Z5_ := Aside0.mk (show w4_.heap.size ≤ w5_.heap.size from hb.size)
  have n_ := Aside0.mk (blk_below Bg1.out hb); clear Bg1; have Bg1 := n_; clear n_
  have n_ := Aside0.mk (blk_below Bg2.out hb); clear Bg2; have Bg2 := n_; clear n_
  have n_ := Aside0.mk (blk_below Bg3.out hb); clear Bg3; have Bg3 := n_; clear n_
  have n_ := Aside0.mk (below_step HB.out hb); clear HB; have HB := n_; clear n_
  clear hxg1_0
  clear hfg1_0
  clear hxg2_0
  clear hxg2_1
  clear hfg2_0
  clear hfg2_1
  clear hxg3_0
  clear hxg3_1
  clear hfg3_0
  clear hfg3_1
  have hxg1_0 : w5_.cell? ⟨g1, 0, none⟩ = some (.slice A0_0 l0_0.length c0_0) := (blk_cell Bg1.out 0).trans rfl
  have hfg1_0 := blk_frozen Bg1.out 0
  have hxg2_0 : w5_.cell? ⟨g2, 0, none⟩ = some (.slice A1_0 l1_0.length c1_0) := (blk_cell Bg2.out 0).trans rfl
  have hxg2_1 : w5_.cell? ⟨g2, 1, none⟩ = some (.slice A1_1 l1_1.length c1_1) := (blk_cell Bg2.out 1).trans rfl
  have hfg2_0 := blk_frozen Bg2.out 0
  have hfg2_1 := blk_frozen Bg2.out 1
  have hxg3_0 : w5_.cell? ⟨g3, 0, none⟩ = some (.slice A2_0 l2_0.length c2_0) := (blk_cell Bg3.out 0).trans rfl
  have hxg3_1 : w5_.cell? ⟨g3, 1, none⟩ = some (.slice A2_1 l2_1.length c2_1) := (blk_cell Bg3.out 1).trans rfl
  have hfg3_0 := blk_frozen Bg3.out 0
  have hfg3_1 := blk_frozen Bg3.out 1
  clear hb
  go_wp2_with (first | (go_at_call 30; refine hold ?_))
  unfold Hold
  refine (laws_szQuery.calls ke5 _ _ l2_0 _ _ l2_1 r3_0 r5_0 _ (Kd.C_below H2_0.out HB.out) HC2_0.out (Kd.C_below H2_1.out HB.out) HC2_1.out Ee5.out).mono ?_
  rintro e w6_ ⟨rfl, hb⟩
  have Z6_ := Aside0.mk (show w5_.heap.size ≤ w6_.heap.size from hb.size)
  have n_ := Aside0.mk (blk_below Bg1.out hb); clear Bg1; have Bg1 := n_; clear n_
  have n_ := Aside0.mk (blk_below Bg2.out hb); clear Bg2; have Bg2 := n_; clear n_
  have n_ := Aside0.mk (blk_below Bg3.out hb); clear Bg3; have Bg3 := n_; clear n_
  have n_ := Aside0.mk (below_step HB.out hb); clear HB; have HB := n_; clear n_
  clear hxg1_0
  clear hfg1_0
  clear hxg2_0
  clear hxg2_1
  clear hfg2_0
  clear hfg2_1
  clear hxg3_0
  clear hxg3_1
  clear hfg3_0
  clear hfg3_1
  have hxg1_0 : w6_.cell? ⟨g1, 0, none⟩ = some (.slice A0_0 l0_0.length c0_0) := (blk_cell Bg1.out 0).trans rfl
  have hfg1_0 := blk_frozen Bg1.out 0
  have hxg2_0 : w6_.cell? ⟨g2, 0, none⟩ = some (.slice A1_0 l1_0.length c1_0) := (blk_cell Bg2.out 0).trans rfl
  have hxg2_1 : w6_.cell? ⟨g2, 1, none⟩ = some (.slice A1_1 l1_1.length c1_1) := (blk_cell Bg2.out 1).trans rfl
  have hfg2_0 := blk_frozen Bg2.out 0
  have hfg2_1 := blk_frozen Bg2.out 1
  have hxg3_0 : w6_.cell? ⟨g3, 0, none⟩ = some (.slice A2_0 l2_0.length c2_0) := (blk_cell Bg3.out 0).trans rfl
  have hxg3_1 : w6_.cell? ⟨g3, 1, none⟩ = some (.slice A2_1 l2_1.length c2_1) := (blk_cell Bg3.out 1).trans rfl
  have hfg3_0 := blk_frozen Bg3.out 0
  have hfg3_1 := blk_frozen Bg3.out 1
  clear hb
  try go_wp2_with fail
  have n_ := Aside0.mk (blk_drew Bg1.out); clear Bg1; have Bg1 := n_; clear n_
  have n_ := Aside0.mk (blk_drew Bg2.out); clear Bg2; have Bg2 := n_; clear n_
  have n_ := Aside0.mk (blk_drew Bg3.out); clear Bg3; have Bg3 := n_; clear n_
  have n_ := Aside0.mk (below_drew1 HB.out); clear HB; have HB := n_; clear n_
  clear hxg1_0
  clear hfg1_0
  clear hxg2_0
  clear hxg2_1
  clear hfg2_0
  clear hfg2_1
  clear hxg3_0
  clear hxg3_1
  clear hfg3_0
  clear hfg3_1
  have hz := Aside0.mk (show w6_.heap.size ≤ w6_.drew.heap.size from Nat.le_refl _)
  refine start_ (n := 10) (S := fun w' => w'.cell? ⟨g1, 0, none⟩ = some (.slice A0_0 l0_0.length c0_0) ∧ w'.cell? ⟨g2, 0, none⟩ = some (.slice A1_0 l1_0.length c1_0) ∧ w'.cell? ⟨g2, 1, none⟩ = some (.slice A1_1 l1_1.length c1_1) ∧ w'.cell? ⟨g3, 0, none⟩ = some (.slice A2_0 l2_0.length c2_0) ∧ w'.cell? ⟨g3, 1, none⟩ = some (.slice A2_1 l2_1.length c2_1)) (ds := []) #[false,false,false,false,false,false,false,false,false,false] (by kernel_rfl) rfl rfl ⟨(blk_cell Bg1.out 0).trans rfl, (blk_cell Bg2.out 0).trans rfl, (blk_cell Bg2.out 1).trans rfl, (blk_cell Bg3.out 0).trans rfl, (blk_cell Bg3.out 1).trans rfl⟩ (fun hHeld => ?_)
  generalize w6_.drew = w7_ at Bg1 Bg2 Bg3 HB hz hHeld ⊢
  have Z7_ := hz; clear hz
  refine take_ (i := 0) (N := some 34) (v := ?_) (a' := ?_) #[true,false,false,false,false,false,false,false,false,false] rfl rfl (by kernel_rfl) (fun _ _ _ h => h) (Or.inl ⟨by rfl, ?_⟩) hHeld ?_ ?_
  rotate_left
  · rintro w' ⟨s0, s1, s2, s3, s4⟩; go_simp; with_reducible rfl
  rotate_left
  · simp only [Act.put, List.setIfInBounds_toArray, List.set_cons_zero, List.set_cons_succ, i64_w, i32_w]; rfl
  refine take_ (i := 2) (N := some 36) (v := ?_) (a' := ?_) #[true,false,true,false,false,false,false,false,false,false] rfl rfl (by kernel_rfl) (fun _ _ _ h => h) (Or.inl ⟨by rfl, ?_⟩) hHeld ?_ ?_
  rotate_left
  · rintro w' ⟨s0, s1, s2, s3, s4⟩; go_simp; with_reducible rfl
  rotate_left
  · simp only [Act.put, List.setIfInBounds_toArray, List.set_cons_zero, List.set_cons_succ, i64_w, i32_w]; rfl
  refine take_ (i := 4) (N := some 38) (v := ?_) (a' := ?_) #[true,false,true,false,true,false,false,false,false,false] rfl rfl (by kernel_rfl) (fun _ _ _ h => h) (Or.inl ⟨by rfl, ?_⟩) hHeld ?_ ?_
  rotate_left
  · rintro w' ⟨s0, s1, s2, s3, s4⟩; go_simp; with_reducible rfl
  rotate_left
  · simp only [Act.put, List.setIfInBounds_toArray, List.set_cons_zero, List.set_cons_succ, i64_w, i32_w]; rfl
  refine take_ (i := 6) (N := some 40) (v := ?_) (a' := ?_) #[true,false,true,false,true,false,true,false,false,false] rfl rfl (by kernel_rfl) (fun _ _ _ h => h) (Or.inl ⟨by rfl, ?_⟩) hHeld ?_ ?_
  rotate_left
  · rintro w' ⟨s0, s1, s2, s3, s4⟩; go_simp; with_reducible rfl
  rotate_left
  · simp only [Act.put, List.setIfInBounds_toArray, List.set_cons_zero, List.set_cons_succ, i64_w, i32_w]; rfl
  refine one_ (i := 1) (N := some 35) #[true,true,true,false,true,false,true,false,false,false] rfl rfl (by kernel_rfl) (by decide) (fun K hK => ?_)
  refine goes_ Try.func49 (by kernel_rfl) rfl #[.agg #[.slice A0_0 l0_0.length c0_0]] (by rfl) rfl rfl (by (try simp only [List.map_toArray, List.map_cons, List.map_nil]); first | done | rfl) ?_
  with_reducible refine (laws_toSchema.calls ke7 _ _ l0_0 r7_0 _ (Kd.C_below H0_0.out HB.out) HC0_0.out Ee7.out).mono ?_
  rintro e w8_ ⟨v8_0_, rfl, ho0, hb⟩
  refine ⟨_, rfl, ?_⟩
  have O8_0 := Aside0.mk (newR ho0 HB.out.size)
  have Z8_ := Aside0.mk (show w7_.heap.size ≤ w8_.heap.size from hb.size)
  have n_ := Aside0.mk (blk_below Bg1.out hb); clear Bg1; have Bg1 := n_; clear n_
  have n_ := Aside0.mk (blk_below Bg2.out hb); clear Bg2; have Bg2 := n_; clear n_
  have n_ := Aside0.mk (blk_below Bg3.out hb); clear Bg3; have Bg3 := n_; clear n_
  have n_ := Aside0.mk (below_step HB.out hb); clear HB; have HB := n_; clear n_
  have hxg1_0 : w8_.cell? ⟨g1, 0, none⟩ = some (.slice A0_0 l0_0.length c0_0) := (blk_cell Bg1.out 0).trans rfl
  have hfg1_0 := blk_frozen Bg1.out 0
  have hxg2_0 : w8_.cell? ⟨g2, 0, none⟩ = some (.slice A1_0 l1_0.length c1_0) := (blk_cell Bg2.out 0).trans rfl
  have hxg2_1 : w8_.cell? ⟨g2, 1, none⟩ = some (.slice A1_1 l1_1.length c1_1) := (blk_cell Bg2.out 1).trans rfl
  have hfg2_0 := blk_frozen Bg2.out 0
  have hfg2_1 := blk_frozen Bg2.out 1
  have hxg3_0 : w8_.cell? ⟨g3, 0, none⟩ = some (.slice A2_0 l2_0.length c2_0) := (blk_cell Bg3.out 0).trans rfl
  have hxg3_1 : w8_.cell? ⟨g3, 1, none⟩ = some (.slice A2_1 l2_1.length c2_1) := (blk_cell Bg3.out 1).trans rfl
  have hfg3_0 := blk_frozen Bg3.out 0
  have hfg3_1 := blk_frozen Bg3.out 1
  clear hb ho0
  obtain ⟨A8_0_, c8_0_, eq_⟩ := Kd.R_slice O8_0.out
  subst eq_
  clear hxg1_0
  clear hfg1_0
  clear hxg2_0
  clear hxg2_1
  clear hfg2_0
  clear hfg2_1
  clear hxg3_0
  clear hxg3_1
  clear hfg3_0
  clear hfg3_1
  refine hK.out _ _ ⟨(blk_cell Bg1.out 0).trans rfl, (blk_cell Bg2.out 0).trans rfl, (blk_cell Bg2.out 1).trans rfl, (blk_cell Bg3.out 0).trans rfl, (blk_cell Bg3.out 1).trans rfl⟩ (fun hHeld => ?_)
  clear hK K
  refine norm_ (a' := ?_) ?_ ?_
  rotate_left
  · show Act.put _ (some 35) _ = _; simp only [Act.put, List.setIfInBounds_toArray, List.set_cons_zero, List.set_cons_succ, i64_w, i32_w]; rfl
  refine one_ (i := 3) (N := some 37) #[true,true,true,true,true,false,true,false,false,false] rfl rfl (by kernel_rfl) (by decide) (fun K hK => ?_)
  refine goes_ Try.func32 (by kernel_rfl) rfl #[.agg #[.slice A1_0 l1_0.length c1_0, .slice A1_1 l1_1.length c1_1]] (by rfl) rfl rfl (by (try simp only [List.map_toArray, List.map_cons, List.map_nil]); first | done | rfl) ?_
  with_reducible refine (laws_toQuery.calls ke8 _ _ l1_0 _ _ l1_1 r8_0 r8_1 _ (Kd.C_below H1_0.out HB.out) HC1_0.out (Kd.C_below H1_1.out HB.out) HC1_1.out Ee8.out).mono ?_
  rintro e w9_ ⟨v9_0_, v9_1_, rfl, ho0, ho1, hb⟩
  refine ⟨_, rfl, ?_⟩
  have O9_0 := Aside0.mk (newR ho0 HB.out.size)
  have O9_1 := Aside0.mk (newS ho1 HB.out.size)
  have Z9_ := Aside0.mk (show w8_.heap.size ≤ w9_.heap.size from hb.size)
  have n_ := Aside0.mk (Kd.R_below O8_0.out hb); clear O8_0; have O8_0 := n_; clear n_
  have n_ := Aside0.mk (blk_below Bg1.out hb); clear Bg1; have Bg1 := n_; clear n_
  have n_ := Aside0.mk (blk_below Bg2.out hb); clear Bg2; have Bg2 := n_; clear n_
  have n_ := Aside0.mk (blk_below Bg3.out hb); clear Bg3; have Bg3 := n_; clear n_
  have n_ := Aside0.mk (below_step HB.out hb); clear HB; have HB := n_; clear n_
  have hxg1_0 : w9_.cell? ⟨g1, 0, none⟩ = some (.slice A0_0 l0_0.length c0_0) := (blk_cell Bg1.out 0).trans rfl
  have hfg1_0 := blk_frozen Bg1.out 0
  have hxg2_0 : w9_.cell? ⟨g2, 0, none⟩ = some (.slice A1_0 l1_0.length c1_0) := (blk_cell Bg2.out 0).trans rfl
  have hxg2_1 : w9_.cell? ⟨g2, 1, none⟩ = some (.slice A1_1 l1_1.length c1_1) := (blk_cell Bg2.out 1).trans rfl
  have hfg2_0 := blk_frozen Bg2.out 0
  have hfg2_1 := blk_frozen Bg2.out 1
  have hxg3_0 : w9_.cell? ⟨g3, 0, none⟩ = some (.slice A2_0 l2_0.length c2_0) := (blk_cell Bg3.out 0).trans rfl
  have hxg3_1 : w9_.cell? ⟨g3, 1, none⟩ = some (.slice A2_1 l2_1.length c2_1) := (blk_cell Bg3.out 1).trans rfl
  have hfg3_0 := blk_frozen Bg3.out 0
  have hfg3_1 := blk_frozen Bg3.out 1
  clear hb ho0 ho1
  obtain ⟨A9_0_, c9_0_, eq_⟩ := Kd.R_slice O9_0.out
  subst eq_
  obtain ⟨A9_1_, c9_1_, eq_⟩ := Kd.S_slice O9_1.out
  subst eq_
  clear hxg1_0
  clear hfg1_0
  clear hxg2_0
  clear hxg2_1
  clear hfg2_0
  clear hfg2_1
  clear hxg3_0
  clear hxg3_1
  clear hfg3_0
  clear hfg3_1
  refine hK.out _ _ ⟨(blk_cell Bg1.out 0).trans rfl, (blk_cell Bg2.out 0).trans rfl, (blk_cell Bg2.out 1).trans rfl, (blk_cell Bg3.out 0).trans rfl, (blk_cell Bg3.out 1).trans rfl⟩ (fun hHeld => ?_)
  clear hK K
  refine norm_ (a' := ?_) ?_ ?_
  rotate_left
  · show Act.put _ (some 37) _ = _; simp only [Act.put, List.setIfInBounds_toArray, List.set_cons_zero, List.set_cons_succ, i64_w, i32_w]; rfl
  refine one_ (i := 5) (N := some 39) #[true,true,true,true,true,true,true,false,false,false] rfl rfl (by kernel_rfl) (by decide) (fun K hK => ?_)
  refine goes_ Try.func32 (by kernel_rfl) rfl #[.agg #[.slice A2_0 l2_0.length c2_0, .slice A2_1 l2_1.length c2_1]] (by rfl) rfl rfl (by (try simp only [List.map_toArray, List.map_cons, List.map_nil]); first | done | rfl) ?_
  with_reducible refine (laws_toQuery.calls ke9 _ _ l2_0 _ _ l2_1 r9_0 r9_1 _ (Kd.C_below H2_0.out HB.out) HC2_0.out (Kd.C_below H2_1.out HB.out) HC2_1.out Ee9.out).mono ?_
  rintro e w10_ ⟨v10_0_, v10_1_, rfl, ho0, ho1, hb⟩
  refine ⟨_, rfl, ?_⟩
  have O10_0 := Aside0.mk (newR ho0 HB.out.size)
  have O10_1 := Aside0.mk (newS ho1 HB.out.size)
  have Z10_ := Aside0.mk (show w9_.heap.size ≤ w10_.heap.size from hb.size)
  have n_ := Aside0.mk (Kd.R_below O8_0.out hb); clear O8_0; have O8_0 := n_; clear n_
  have n_ := Aside0.mk (Kd.R_below O9_0.out hb); clear O9_0; have O9_0 := n_; clear n_
  have n_ := Aside0.mk (Kd.S_below O9_1.out hb); clear O9_1; have O9_1 := n_; clear n_
  have n_ := Aside0.mk (blk_below Bg1.out hb); clear Bg1; have Bg1 := n_; clear n_
  have n_ := Aside0.mk (blk_below Bg2.out hb); clear Bg2; have Bg2 := n_; clear n_
  have n_ := Aside0.mk (blk_below Bg3.out hb); clear Bg3; have Bg3 := n_; clear n_
  have n_ := Aside0.mk (below_step HB.out hb); clear HB; have HB := n_; clear n_
  have hxg1_0 : w10_.cell? ⟨g1, 0, none⟩ = some (.slice A0_0 l0_0.length c0_0) := (blk_cell Bg1.out 0).trans rfl
  have hfg1_0 := blk_frozen Bg1.out 0
  have hxg2_0 : w10_.cell? ⟨g2, 0, none⟩ = some (.slice A1_0 l1_0.length c1_0) := (blk_cell Bg2.out 0).trans rfl
  have hxg2_1 : w10_.cell? ⟨g2, 1, none⟩ = some (.slice A1_1 l1_1.length c1_1) := (blk_cell Bg2.out 1).trans rfl
  have hfg2_0 := blk_frozen Bg2.out 0
  have hfg2_1 := blk_frozen Bg2.out 1
  have hxg3_0 : w10_.cell? ⟨g3, 0, none⟩ = some (.slice A2_0 l2_0.length c2_0) := (blk_cell Bg3.out 0).trans rfl
  have hxg3_1 : w10_.cell? ⟨g3, 1, none⟩ = some (.slice A2_1 l2_1.length c2_1) := (blk_cell Bg3.out 1).trans rfl
  have hfg3_0 := blk_frozen Bg3.out 0
  have hfg3_1 := blk_frozen Bg3.out 1
  clear hb ho0 ho1
  obtain ⟨A10_0_, c10_0_, eq_⟩ := Kd.R_slice O10_0.out
  subst eq_
  obtain ⟨A10_1_, c10_1_, eq_⟩ := Kd.S_slice O10_1.out
  subst eq_
  clear hxg1_0
  clear hfg1_0
  clear hxg2_0
  clear hxg2_1
  clear hfg2_0
  clear hfg2_1
  clear hxg3_0
  clear hxg3_1
  clear hfg3_0
  clear hfg3_1
  refine hK.out _ _ ⟨(blk_cell Bg1.out 0).trans rfl, (blk_cell Bg2.out 0).trans rfl, (blk_cell Bg2.out 1).trans rfl, (blk_cell Bg3.out 0).trans rfl, (blk_cell Bg3.out 1).trans rfl⟩ (fun hHeld => ?_)
  clear hK K
  refine norm_ (a' := ?_) ?_ ?_
  rotate_left
  · show Act.put _ (some 39) _ = _; simp only [Act.put, List.setIfInBounds_toArray, List.set_cons_zero, List.set_cons_succ, i64_w, i32_w]; rfl
  refine one_ (i := 7) (N := some 41) #[true,true,true,true,true,true,true,true,false,false] rfl rfl (by kernel_rfl) (by decide) (fun K hK => ?_)
  refine goes_ Try.func41 (by kernel_rfl) rfl #[.slice A3 l3.length c3] (by rfl) rfl rfl (by (try simp only [List.map_toArray, List.map_cons, List.map_nil]); first | done | rfl) ?_
  with_reducible refine (laws_toIntS.calls ke10 _ _ l3 r10_0 _ (Kd.C_below H3.out HB.out) HC3.out Ee10.out).mono ?_
  rintro e w11_ ⟨v11_0_, rfl, ho0, hb⟩
  refine ⟨_, rfl, ?_⟩
  have O11_0 := Aside0.mk (newR ho0 HB.out.size)
  have Z11_ := Aside0.mk (show w10_.heap.size ≤ w11_.heap.size from hb.size)
  have n_ := Aside0.mk (Kd.R_below O8_0.out hb); clear O8_0; have O8_0 := n_; clear n_
  have n_ := Aside0.mk (Kd.R_below O9_0.out hb); clear O9_0; have O9_0 := n_; clear n_
  have n_ := Aside0.mk (Kd.S_below O9_1.out hb); clear O9_1; have O9_1 := n_; clear n_
  have n_ := Aside0.mk (Kd.R_below O10_0.out hb); clear O10_0; have O10_0 := n_; clear n_
  have n_ := Aside0.mk (Kd.S_below O10_1.out hb); clear O10_1; have O10_1 := n_; clear n_
  have n_ := Aside0.mk (blk_below Bg1.out hb); clear Bg1; have Bg1 := n_; clear n_
  have n_ := Aside0.mk (blk_below Bg2.out hb); clear Bg2; have Bg2 := n_; clear n_
  have n_ := Aside0.mk (blk_below Bg3.out hb); clear Bg3; have Bg3 := n_; clear n_
  have n_ := Aside0.mk (below_step HB.out hb); clear HB; have HB := n_; clear n_
  have hxg1_0 : w11_.cell? ⟨g1, 0, none⟩ = some (.slice A0_0 l0_0.length c0_0) := (blk_cell Bg1.out 0).trans rfl
  have hfg1_0 := blk_frozen Bg1.out 0
  have hxg2_0 : w11_.cell? ⟨g2, 0, none⟩ = some (.slice A1_0 l1_0.length c1_0) := (blk_cell Bg2.out 0).trans rfl
  have hxg2_1 : w11_.cell? ⟨g2, 1, none⟩ = some (.slice A1_1 l1_1.length c1_1) := (blk_cell Bg2.out 1).trans rfl
  have hfg2_0 := blk_frozen Bg2.out 0
  have hfg2_1 := blk_frozen Bg2.out 1
  have hxg3_0 : w11_.cell? ⟨g3, 0, none⟩ = some (.slice A2_0 l2_0.length c2_0) := (blk_cell Bg3.out 0).trans rfl
  have hxg3_1 : w11_.cell? ⟨g3, 1, none⟩ = some (.slice A2_1 l2_1.length c2_1) := (blk_cell Bg3.out 1).trans rfl
  have hfg3_0 := blk_frozen Bg3.out 0
  have hfg3_1 := blk_frozen Bg3.out 1
  clear hb ho0
  obtain ⟨A11_0_, c11_0_, eq_⟩ := Kd.R_slice O11_0.out
  subst eq_
  clear hxg1_0
  clear hfg1_0
  clear hxg2_0
  clear hxg2_1
  clear hfg2_0
  clear hfg2_1
  clear hxg3_0
  clear hxg3_1
  clear hfg3_0
  clear hfg3_1
  refine hK.out _ _ ⟨(blk_cell Bg1.out 0).trans rfl, (blk_cell Bg2.out 0).trans rfl, (blk_cell Bg2.out 1).trans rfl, (blk_cell Bg3.out 0).trans rfl, (blk_cell Bg3.out 1).trans rfl⟩ (fun hHeld => ?_)
  clear hK K
  refine norm_ (a' := ?_) ?_ ?_
  rotate_left
  · show Act.put _ (some 41) _ = _; simp only [Act.put, List.setIfInBounds_toArray, List.set_cons_zero, List.set_cons_succ, i64_w, i32_w]; rfl
  refine one_ (i := 8) (N := some 42) #[true,true,true,true,true,true,true,true,true,false] rfl rfl (by kernel_rfl) (by decide) (fun K hK => ?_)
  refine goes_ Try.func48 (by kernel_rfl) rfl #[.agg #[.slice A8_0_ r7_0.length c8_0_], .agg #[.slice A9_0_ r8_0.length c9_0_, .slice A9_1_ r8_1.length c9_1_], .agg #[.slice A10_0_ r9_0.length c10_0_, .slice A10_1_ r9_1.length c10_1_], .slice A11_0_ r10_0.length c11_0_] (by rfl) rfl rfl (by (try simp only [List.map_toArray, List.map_cons, List.map_nil]); first | done | rfl) ?_
  with_reducible refine (spec_IsMapping.calls ke11 _ _ r7_0 _ _ r8_0 _ _ r8_1 _ _ r9_0 _ _ r9_1 _ _ r10_0 r11_0 _ (Kd.R_reads' O8_0.out).2.2 (Kd.R_reads' O8_0.out).2.1 (Kd.R_reads' O9_0.out).2.2 (Kd.R_reads' O9_0.out).2.1 (Kd.S_reads' O9_1.out).2.2 (Kd.S_reads' O9_1.out).2.1 (Kd.R_reads' O10_0.out).2.2 (Kd.R_reads' O10_0.out).2.1 (Kd.S_reads' O10_1.out).2.2 (Kd.S_reads' O10_1.out).2.1 (Kd.R_reads' O11_0.out).2.2 (Kd.R_reads' O11_0.out).2.1 Ee11.out).mono ?_
  rintro e w12_ ⟨rfl, hb⟩
  refine ⟨_, rfl, ?_⟩
  have Z12_ := Aside0.mk (show w11_.heap.size ≤ w12_.heap.size from hb.size)
  have n_ := Aside0.mk (Kd.R_below O8_0.out hb); clear O8_0; have O8_0 := n_; clear n_
  have n_ := Aside0.mk (Kd.R_below O9_0.out hb); clear O9_0; have O9_0 := n_; clear n_
  have n_ := Aside0.mk (Kd.S_below O9_1.out hb); clear O9_1; have O9_1 := n_; clear n_
  have n_ := Aside0.mk (Kd.R_below O10_0.out hb); clear O10_0; have O10_0 := n_; clear n_
  have n_ := Aside0.mk (Kd.S_below O10_1.out hb); clear O10_1; have O10_1 := n_; clear n_
  have n_ := Aside0.mk (Kd.R_below O11_0.out hb); clear O11_0; have O11_0 := n_; clear n_
  have n_ := Aside0.mk (blk_below Bg1.out hb); clear Bg1; have Bg1 := n_; clear n_
  have n_ := Aside0.mk (blk_below Bg2.out hb); clear Bg2; have Bg2 := n_; clear n_
  have n_ := Aside0.mk (blk_below Bg3.out hb); clear Bg3; have Bg3 := n_; clear n_
  have n_ := Aside0.mk (below_step HB.out hb); clear HB; have HB := n_; clear n_
  have hxg1_0 : w12_.cell? ⟨g1, 0, none⟩ = some (.slice A0_0 l0_0.length c0_0) := (blk_cell Bg1.out 0).trans rfl
  have hfg1_0 := blk_frozen Bg1.out 0
  have hxg2_0 : w12_.cell? ⟨g2, 0, none⟩ = some (.slice A1_0 l1_0.length c1_0) := (blk_cell Bg2.out 0).trans rfl
  have hxg2_1 : w12_.cell? ⟨g2, 1, none⟩ = some (.slice A1_1 l1_1.length c1_1) := (blk_cell Bg2.out 1).trans rfl
  have hfg2_0 := blk_frozen Bg2.out 0
  have hfg2_1 := blk_frozen Bg2.out 1
  have hxg3_0 : w12_.cell? ⟨g3, 0, none⟩ = some (.slice A2_0 l2_0.length c2_0) := (blk_cell Bg3.out 0).trans rfl
  have hxg3_1 : w12_.cell? ⟨g3, 1, none⟩ = some (.slice A2_1 l2_1.length c2_1) := (blk_cell Bg3.out 1).trans rfl
  have hfg3_0 := blk_frozen Bg3.out 0
  have hfg3_1 := blk_frozen Bg3.out 1
  clear hb
  clear hxg1_0
  clear hfg1_0
  clear hxg2_0
  clear hxg2_1
  clear hfg2_0
  clear hfg2_1
  clear hxg3_0
  clear hxg3_1
  clear hfg3_0
  clear hfg3_1
  refine hK.out _ _ ⟨(blk_cell Bg1.out 0).trans rfl, (blk_cell Bg2.out 0).trans rfl, (blk_cell Bg2.out 1).trans rfl, (blk_cell Bg3.out 0).trans rfl, (blk_cell Bg3.out 1).trans rfl⟩ (fun hHeld => ?_)
  clear hK K
  refine norm_ (a' := ?_) ?_ ?_
  rotate_left
  · show Act.put _ (some 42) _ = _; simp only [Act.put, List.setIfInBounds_toArray, List.set_cons_zero, List.set_cons_succ, i64_w, i32_w]; rfl
  refine pure_ (i := 9) (N := some 10) (v := ?_) (a' := ?_) #[true,true,true,true,true,true,true,true,true,true] rfl rfl (by kernel_rfl) (fun _ _ _ h => h) (Or.inl ⟨by rfl, ?_⟩) ?_ ?_
  rotate_left
  · intro w'; go_simp; with_reducible rfl
  rotate_left
  · simp only [Act.put, List.setIfInBounds_toArray, List.set_cons_zero, List.set_cons_succ, i64_w, i32_w]; rfl
  refine done_ (by kernel_rfl) ?_
  have hxg1_0 : w12_.cell? ⟨g1, 0, none⟩ = some (.slice A0_0 l0_0.length c0_0) := (blk_cell Bg1.out 0).trans rfl
  have hfg1_0 := blk_frozen Bg1.out 0
  have hxg2_0 : w12_.cell? ⟨g2, 0, none⟩ = some (.slice A1_0 l1_0.length c1_0) := (blk_cell Bg2.out 0).trans rfl
  have hxg2_1 : w12_.cell? ⟨g2, 1, none⟩ = some (.slice A1_1 l1_1.length c1_1) := (blk_cell Bg2.out 1).trans rfl
  have hfg2_0 := blk_frozen Bg2.out 0
  have hfg2_1 := blk_frozen Bg2.out 1
  have hxg3_0 : w12_.cell? ⟨g3, 0, none⟩ = some (.slice A2_0 l2_0.length c2_0) := (blk_cell Bg3.out 0).trans rfl
  have hxg3_1 : w12_.cell? ⟨g3, 1, none⟩ = some (.slice A2_1 l2_1.length c2_1) := (blk_cell Bg3.out 1).trans rfl
  have hfg3_0 := blk_frozen Bg3.out 0
  have hfg3_1 := blk_frozen Bg3.out 1
  go_wp2_with (first | (go_at_call 49; refine hold ?_))
  unfold Hold
  refine (laws_toSchema.calls ke7 _ _ l0_0 r7_0 _ (Kd.C_below H0_0.out HB.out) HC0_0.out Ee7.out).mono ?_
  rintro e w13_ ⟨v13_0_, rfl, ho0, hb⟩
  have O13_0 := Aside0.mk (newR ho0 HB.out.size)
  have Z13_ := Aside0.mk (show w12_.heap.size ≤ w13_.heap.size from hb.size)
  have n_ := Aside0.mk (Kd.R_below O8_0.out hb); clear O8_0; have O8_0 := n_; clear n_
  have n_ := Aside0.mk (Kd.R_below O9_0.out hb); clear O9_0; have O9_0 := n_; clear n_
  have n_ := Aside0.mk (Kd.S_below O9_1.out hb); clear O9_1; have O9_1 := n_; clear n_
  have n_ := Aside0.mk (Kd.R_below O10_0.out hb); clear O10_0; have O10_0 := n_; clear n_
  have n_ := Aside0.mk (Kd.S_below O10_1.out hb); clear O10_1; have O10_1 := n_; clear n_
  have n_ := Aside0.mk (Kd.R_below O11_0.out hb); clear O11_0; have O11_0 := n_; clear n_
  have n_ := Aside0.mk (blk_below Bg1.out hb); clear Bg1; have Bg1 := n_; clear n_
  have n_ := Aside0.mk (blk_below Bg2.out hb); clear Bg2; have Bg2 := n_; clear n_
  have n_ := Aside0.mk (blk_below Bg3.out hb); clear Bg3; have Bg3 := n_; clear n_
  have n_ := Aside0.mk (below_step HB.out hb); clear HB; have HB := n_; clear n_
  clear hxg1_0
  clear hfg1_0
  clear hxg2_0
  clear hxg2_1
  clear hfg2_0
  clear hfg2_1
  clear hxg3_0
  clear hxg3_1
  clear hfg3_0
  clear hfg3_1
  have hxg1_0 : w13_.cell? ⟨g1, 0, none⟩ = some (.slice A0_0 l0_0.length c0_0) := (blk_cell Bg1.out 0).trans rfl
  have hfg1_0 := blk_frozen Bg1.out 0
  have hxg2_0 : w13_.cell? ⟨g2, 0, none⟩ = some (.slice A1_0 l1_0.length c1_0) := (blk_cell Bg2.out 0).trans rfl
  have hxg2_1 : w13_.cell? ⟨g2, 1, none⟩ = some (.slice A1_1 l1_1.length c1_1) := (blk_cell Bg2.out 1).trans rfl
  have hfg2_0 := blk_frozen Bg2.out 0
  have hfg2_1 := blk_frozen Bg2.out 1
  have hxg3_0 : w13_.cell? ⟨g3, 0, none⟩ = some (.slice A2_0 l2_0.length c2_0) := (blk_cell Bg3.out 0).trans rfl
  have hxg3_1 : w13_.cell? ⟨g3, 1, none⟩ = some (.slice A2_1 l2_1.length c2_1) := (blk_cell Bg3.out 1).trans rfl
  have hfg3_0 := blk_frozen Bg3.out 0
  have hfg3_1 := blk_frozen Bg3.out 1
  clear hb ho0
  obtain ⟨A13_0_, c13_0_, eq_⟩ := Kd.R_slice O13_0.out
  subst eq_
  go_wp2_with (first | ((with_reducible refine gate_dst (N := 11) rfl ?_); refine hold ?_))
  unfold Hold
  refine box_event ?hg (N := 11) ?hd (cs := #[.slice none 0 0]) (t := 65) ?hr ?_
  case hd => rfl
  case hg => rfl
  case hr => first | (go_simp; done) | (go_simp; rfl)
  intro g12 hg w14_ hbox hb
  have Bg12 := Aside0.mk hbox
  have Gg12 := Aside0.mk (show w13_.heap.size ≤ g12 ∧ g12 < w14_.heap.size from ⟨by rw [hg]; exact Nat.le_refl _, blk_lt hbox⟩)
  clear hbox hg
  have Z14_ := Aside0.mk (show w13_.heap.size ≤ w14_.heap.size from hb.size)
  have n_ := Aside0.mk (Kd.R_below O8_0.out hb); clear O8_0; have O8_0 := n_; clear n_
  have n_ := Aside0.mk (Kd.R_below O9_0.out hb); clear O9_0; have O9_0 := n_; clear n_
  have n_ := Aside0.mk (Kd.S_below O9_1.out hb); clear O9_1; have O9_1 := n_; clear n_
  have n_ := Aside0.mk (Kd.R_below O10_0.out hb); clear O10_0; have O10_0 := n_; clear n_
  have n_ := Aside0.mk (Kd.S_below O10_1.out hb); clear O10_1; have O10_1 := n_; clear n_
  have n_ := Aside0.mk (Kd.R_below O11_0.out hb); clear O11_0; have O11_0 := n_; clear n_
  have n_ := Aside0.mk (Kd.R_below O13_0.out hb); clear O13_0; have O13_0 := n_; clear n_
  have n_ := Aside0.mk (blk_below Bg1.out hb); clear Bg1; have Bg1 := n_; clear n_
  have n_ := Aside0.mk (blk_below Bg2.out hb); clear Bg2; have Bg2 := n_; clear n_
  have n_ := Aside0.mk (blk_below Bg3.out hb); clear Bg3; have Bg3 := n_; clear n_
  have n_ := Aside0.mk (below_step HB.out hb); clear HB; have HB := n_; clear n_
  clear hxg1_0
  clear hfg1_0
  clear hxg2_0
  clear hxg2_1
  clear hfg2_0
  clear hfg2_1
  clear hxg3_0
  clear hxg3_1
  clear hfg3_0
  clear hfg3_1
  have hxg1_0 : w14_.cell? ⟨g1, 0, none⟩ = some (.slice A0_0 l0_0.length c0_0) := (blk_cell Bg1.out 0).trans rfl
  have hfg1_0 := blk_frozen Bg1.out 0
  have hxg2_0 : w14_.cell? ⟨g2, 0, none⟩ = some (.slice A1_0 l1_0.length c1_0) := (blk_cell Bg2.out 0).trans rfl
  have hxg2_1 : w14_.cell? ⟨g2, 1, none⟩ = some (.slice A1_1 l1_1.length c1_1) := (blk_cell Bg2.out 1).trans rfl
  have hfg2_0 := blk_frozen Bg2.out 0
  have hfg2_1 := blk_frozen Bg2.out 1
  have hxg3_0 : w14_.cell? ⟨g3, 0, none⟩ = some (.slice A2_0 l2_0.length c2_0) := (blk_cell Bg3.out 0).trans rfl
  have hxg3_1 : w14_.cell? ⟨g3, 1, none⟩ = some (.slice A2_1 l2_1.length c2_1) := (blk_cell Bg3.out 1).trans rfl
  have hfg3_0 := blk_frozen Bg3.out 0
  have hfg3_1 := blk_frozen Bg3.out 1
  have hxg12_0 : w14_.cell? ⟨g12, 0, none⟩ = some (.slice none 0 0) := (blk_cell Bg12.out 0).trans rfl
  have hfg12_0 := blk_frozen Bg12.out 0
  clear hb
  go_wp2_with (first | ((with_reducible refine gate_store (t := 65) (p := 11) rfl ?_); refine hold ?_))
  unfold Hold
  refine store_event (t := 65) (p := 11) (v := ?vo14) (w1 := (w14_.setCell ⟨g12, 0, none⟩ (.slice A13_0_ r7_0.length c13_0_))) ?hg ?ho ?hn ?hr ?_
  case ho => rfl
  case hg => rfl
  case hn => rfl
  case hr => first | (go_simp; done) | (go_simp; rfl)
  intro w15_ hw
  have hk : Kept w14_ w15_ (fun k => k = g12) := by rw [hw]; exact kept_one _
  have hb0 : Below w.heap.size w w15_ := by rw [hw]; exact (below_set HB.out (Nat.le_trans (by have z1_ := Z1_.out; have z2_ := Z2_.out; have z3_ := Z3_.out; have z4_ := Z4_.out; have z5_ := Z5_.out; have z6_ := Z6_.out; have z7_ := Z7_.out; have z8_ := Z8_.out; have z9_ := Z9_.out; have z10_ := Z10_.out; have z11_ := Z11_.out; have z12_ := Z12_.out; have z13_ := Z13_.out; omega) Gg12.out.1))
  have n_ := Aside0.mk (show w15_.heap[g12]? = some (.cells #[.slice A13_0_ r7_0.length c13_0_] 65 (0, 0)) by rw [hw]; exact (blk_put (cs := #[.slice none 0 0]) (cs' := #[.slice A13_0_ r7_0.length c13_0_]) Bg12.out 0 _ rfl))
  clear Bg12; have Bg12 := n_; clear n_ hw
  have Z15_ := Aside0.mk (show w14_.heap.size ≤ w15_.heap.size from hk.1)
  have n_ := Aside0.mk (Kd.R_kept O8_0.out hk (fun k_ hk1 hk2 => by obtain ⟨a1_, a2_⟩ := hk1.1; have e_ : k_ = g12 := hk2; obtain ⟨b1_, b2_⟩ := Gg12.out; have z9_ := Z9_.out; have z10_ := Z10_.out; have z11_ := Z11_.out; have z12_ := Z12_.out; have z13_ := Z13_.out; omega)); clear O8_0; have O8_0 := n_; clear n_
  have n_ := Aside0.mk (Kd.R_kept O9_0.out hk (fun k_ hk1 hk2 => by obtain ⟨a1_, a2_⟩ := hk1.1; have e_ : k_ = g12 := hk2; obtain ⟨b1_, b2_⟩ := Gg12.out; have z10_ := Z10_.out; have z11_ := Z11_.out; have z12_ := Z12_.out; have z13_ := Z13_.out; omega)); clear O9_0; have O9_0 := n_; clear n_
  have n_ := Aside0.mk (Kd.S_kept O9_1.out hk (fun k_ hk1 hk2 => by obtain ⟨a1_, a2_⟩ := hk1.1; have e_ : k_ = g12 := hk2; obtain ⟨b1_, b2_⟩ := Gg12.out; have z10_ := Z10_.out; have z11_ := Z11_.out; have z12_ := Z12_.out; have z13_ := Z13_.out; omega)); clear O9_1; have O9_1 := n_; clear n_
  have n_ := Aside0.mk (Kd.R_kept O10_0.out hk (fun k_ hk1 hk2 => by obtain ⟨a1_, a2_⟩ := hk1.1; have e_ : k_ = g12 := hk2; obtain ⟨b1_, b2_⟩ := Gg12.out; have z11_ := Z11_.out; have z12_ := Z12_.out; have z13_ := Z13_.out; omega)); clear O10_0; have O10_0 := n_; clear n_
  have n_ := Aside0.mk (Kd.S_kept O10_1.out hk (fun k_ hk1 hk2 => by obtain ⟨a1_, a2_⟩ := hk1.1; have e_ : k_ = g12 := hk2; obtain ⟨b1_, b2_⟩ := Gg12.out; have z11_ := Z11_.out; have z12_ := Z12_.out; have z13_ := Z13_.out; omega)); clear O10_1; have O10_1 := n_; clear n_
  have n_ := Aside0.mk (Kd.R_kept O11_0.out hk (fun k_ hk1 hk2 => by obtain ⟨a1_, a2_⟩ := hk1.1; have e_ : k_ = g12 := hk2; obtain ⟨b1_, b2_⟩ := Gg12.out; have z12_ := Z12_.out; have z13_ := Z13_.out; omega)); clear O11_0; have O11_0 := n_; clear n_
  have n_ := Aside0.mk (Kd.R_kept O13_0.out hk (fun k_ hk1 hk2 => by obtain ⟨a1_, a2_⟩ := hk1.1; have e_ : k_ = g12 := hk2; obtain ⟨b1_, b2_⟩ := Gg12.out; omega)); clear O13_0; have O13_0 := n_; clear n_
  have n_ := Aside0.mk (blk_kept Bg1.out hk (fun hk2 => by obtain ⟨a1_, a2_⟩ := Gg1.out; have e_ : g1 = g12 := hk2; obtain ⟨b1_, b2_⟩ := Gg12.out; have z2_ := Z2_.out; have z3_ := Z3_.out; have z4_ := Z4_.out; have z5_ := Z5_.out; have z6_ := Z6_.out; have z7_ := Z7_.out; have z8_ := Z8_.out; have z9_ := Z9_.out; have z10_ := Z10_.out; have z11_ := Z11_.out; have z12_ := Z12_.out; have z13_ := Z13_.out; omega)); clear Bg1; have Bg1 := n_; clear n_
  have n_ := Aside0.mk (blk_kept Bg2.out hk (fun hk2 => by obtain ⟨a1_, a2_⟩ := Gg2.out; have e_ : g2 = g12 := hk2; obtain ⟨b1_, b2_⟩ := Gg12.out; have z3_ := Z3_.out; have z4_ := Z4_.out; have z5_ := Z5_.out; have z6_ := Z6_.out; have z7_ := Z7_.out; have z8_ := Z8_.out; have z9_ := Z9_.out; have z10_ := Z10_.out; have z11_ := Z11_.out; have z12_ := Z12_.out; have z13_ := Z13_.out; omega)); clear Bg2; have Bg2 := n_; clear n_
  have n_ := Aside0.mk (blk_kept Bg3.out hk (fun hk2 => by obtain ⟨a1_, a2_⟩ := Gg3.out; have e_ : g3 = g12 := hk2; obtain ⟨b1_, b2_⟩ := Gg12.out; have z4_ := Z4_.out; have z5_ := Z5_.out; have z6_ := Z6_.out; have z7_ := Z7_.out; have z8_ := Z8_.out; have z9_ := Z9_.out; have z10_ := Z10_.out; have z11_ := Z11_.out; have z12_ := Z12_.out; have z13_ := Z13_.out; omega)); clear Bg3; have Bg3 := n_; clear n_
  clear HB; have HB := Aside0.mk hb0
  clear hxg1_0
  clear hfg1_0
  clear hxg2_0
  clear hxg2_1
  clear hfg2_0
  clear hfg2_1
  clear hxg3_0
  clear hxg3_1
  clear hfg3_0
  clear hfg3_1
  clear hxg12_0
  clear hfg12_0
  have hxg1_0 : w15_.cell? ⟨g1, 0, none⟩ = some (.slice A0_0 l0_0.length c0_0) := (blk_cell Bg1.out 0).trans rfl
  have hfg1_0 := blk_frozen Bg1.out 0
  have hxg2_0 : w15_.cell? ⟨g2, 0, none⟩ = some (.slice A1_0 l1_0.length c1_0) := (blk_cell Bg2.out 0).trans rfl
  have hxg2_1 : w15_.cell? ⟨g2, 1, none⟩ = some (.slice A1_1 l1_1.length c1_1) := (blk_cell Bg2.out 1).trans rfl
  have hfg2_0 := blk_frozen Bg2.out 0
  have hfg2_1 := blk_frozen Bg2.out 1
  have hxg3_0 : w15_.cell? ⟨g3, 0, none⟩ = some (.slice A2_0 l2_0.length c2_0) := (blk_cell Bg3.out 0).trans rfl
  have hxg3_1 : w15_.cell? ⟨g3, 1, none⟩ = some (.slice A2_1 l2_1.length c2_1) := (blk_cell Bg3.out 1).trans rfl
  have hfg3_0 := blk_frozen Bg3.out 0
  have hfg3_1 := blk_frozen Bg3.out 1
  have hxg12_0 : w15_.cell? ⟨g12, 0, none⟩ = some (.slice A13_0_ r7_0.length c13_0_) := (blk_cell Bg12.out 0).trans rfl
  have hfg12_0 := blk_frozen Bg12.out 0
  clear hk hb0
  go_wp2_with (first | (go_at_call 32; refine hold ?_))
  unfold Hold
  refine (laws_toQuery.calls ke8 _ _ l1_0 _ _ l1_1 r8_0 r8_1 _ (Kd.C_below H1_0.out HB.out) HC1_0.out (Kd.C_below H1_1.out HB.out) HC1_1.out Ee8.out).mono ?_
  rintro e w16_ ⟨v16_0_, v16_1_, rfl, ho0, ho1, hb⟩
  have O16_0 := Aside0.mk (newR ho0 HB.out.size)
  have O16_1 := Aside0.mk (newS ho1 HB.out.size)
  have Z16_ := Aside0.mk (show w15_.heap.size ≤ w16_.heap.size from hb.size)
  have n_ := Aside0.mk (Kd.R_below O8_0.out hb); clear O8_0; have O8_0 := n_; clear n_
  have n_ := Aside0.mk (Kd.R_below O9_0.out hb); clear O9_0; have O9_0 := n_; clear n_
  have n_ := Aside0.mk (Kd.S_below O9_1.out hb); clear O9_1; have O9_1 := n_; clear n_
  have n_ := Aside0.mk (Kd.R_below O10_0.out hb); clear O10_0; have O10_0 := n_; clear n_
  have n_ := Aside0.mk (Kd.S_below O10_1.out hb); clear O10_1; have O10_1 := n_; clear n_
  have n_ := Aside0.mk (Kd.R_below O11_0.out hb); clear O11_0; have O11_0 := n_; clear n_
  have n_ := Aside0.mk (Kd.R_below O13_0.out hb); clear O13_0; have O13_0 := n_; clear n_
  have n_ := Aside0.mk (blk_below Bg1.out hb); clear Bg1; have Bg1 := n_; clear n_
  have n_ := Aside0.mk (blk_below Bg2.out hb); clear Bg2; have Bg2 := n_; clear n_
  have n_ := Aside0.mk (blk_below Bg3.out hb); clear Bg3; have Bg3 := n_; clear n_
  have n_ := Aside0.mk (blk_below Bg12.out hb); clear Bg12; have Bg12 := n_; clear n_
  have n_ := Aside0.mk (below_step HB.out hb); clear HB; have HB := n_; clear n_
  clear hxg1_0
  clear hfg1_0
  clear hxg2_0
  clear hxg2_1
  clear hfg2_0
  clear hfg2_1
  clear hxg3_0
  clear hxg3_1
  clear hfg3_0
  clear hfg3_1
  clear hxg12_0
  clear hfg12_0
  have hxg1_0 : w16_.cell? ⟨g1, 0, none⟩ = some (.slice A0_0 l0_0.length c0_0) := (blk_cell Bg1.out 0).trans rfl
  have hfg1_0 := blk_frozen Bg1.out 0
  have hxg2_0 : w16_.cell? ⟨g2, 0, none⟩ = some (.slice A1_0 l1_0.length c1_0) := (blk_cell Bg2.out 0).trans rfl
  have hxg2_1 : w16_.cell? ⟨g2, 1, none⟩ = some (.slice A1_1 l1_1.length c1_1) := (blk_cell Bg2.out 1).trans rfl
  have hfg2_0 := blk_frozen Bg2.out 0
  have hfg2_1 := blk_frozen Bg2.out 1
  have hxg3_0 : w16_.cell? ⟨g3, 0, none⟩ = some (.slice A2_0 l2_0.length c2_0) := (blk_cell Bg3.out 0).trans rfl
  have hxg3_1 : w16_.cell? ⟨g3, 1, none⟩ = some (.slice A2_1 l2_1.length c2_1) := (blk_cell Bg3.out 1).trans rfl
  have hfg3_0 := blk_frozen Bg3.out 0
  have hfg3_1 := blk_frozen Bg3.out 1
  have hxg12_0 : w16_.cell? ⟨g12, 0, none⟩ = some (.slice A13_0_ r7_0.length c13_0_) := (blk_cell Bg12.out 0).trans rfl
  have hfg12_0 := blk_frozen Bg12.out 0
  clear hb ho0 ho1
  obtain ⟨A16_0_, c16_0_, eq_⟩ := Kd.R_slice O16_0.out
  subst eq_
  obtain ⟨A16_1_, c16_1_, eq_⟩ := Kd.S_slice O16_1.out
  subst eq_
  go_wp2_with (first | ((with_reducible refine gate_dst (N := 12) rfl ?_); refine hold ?_))
  unfold Hold
  refine box_event ?hg (N := 12) ?hd (cs := #[.slice none 0 0, .slice none 0 0]) (t := 46) ?hr ?_
  case hd => rfl
  case hg => rfl
  case hr => first | (go_simp; done) | (go_simp; rfl)
  intro g13 hg w17_ hbox hb
  have Bg13 := Aside0.mk hbox
  have Gg13 := Aside0.mk (show w16_.heap.size ≤ g13 ∧ g13 < w17_.heap.size from ⟨by rw [hg]; exact Nat.le_refl _, blk_lt hbox⟩)
  clear hbox hg
  have Z17_ := Aside0.mk (show w16_.heap.size ≤ w17_.heap.size from hb.size)
  have n_ := Aside0.mk (Kd.R_below O8_0.out hb); clear O8_0; have O8_0 := n_; clear n_
  have n_ := Aside0.mk (Kd.R_below O9_0.out hb); clear O9_0; have O9_0 := n_; clear n_
  have n_ := Aside0.mk (Kd.S_below O9_1.out hb); clear O9_1; have O9_1 := n_; clear n_
  have n_ := Aside0.mk (Kd.R_below O10_0.out hb); clear O10_0; have O10_0 := n_; clear n_
  have n_ := Aside0.mk (Kd.S_below O10_1.out hb); clear O10_1; have O10_1 := n_; clear n_
  have n_ := Aside0.mk (Kd.R_below O11_0.out hb); clear O11_0; have O11_0 := n_; clear n_
  have n_ := Aside0.mk (Kd.R_below O13_0.out hb); clear O13_0; have O13_0 := n_; clear n_
  have n_ := Aside0.mk (Kd.R_below O16_0.out hb); clear O16_0; have O16_0 := n_; clear n_
  have n_ := Aside0.mk (Kd.S_below O16_1.out hb); clear O16_1; have O16_1 := n_; clear n_
  have n_ := Aside0.mk (blk_below Bg1.out hb); clear Bg1; have Bg1 := n_; clear n_
  have n_ := Aside0.mk (blk_below Bg2.out hb); clear Bg2; have Bg2 := n_; clear n_
  have n_ := Aside0.mk (blk_below Bg3.out hb); clear Bg3; have Bg3 := n_; clear n_
  have n_ := Aside0.mk (blk_below Bg12.out hb); clear Bg12; have Bg12 := n_; clear n_
  have n_ := Aside0.mk (below_step HB.out hb); clear HB; have HB := n_; clear n_
  clear hxg1_0
  clear hfg1_0
  clear hxg2_0
  clear hxg2_1
  clear hfg2_0
  clear hfg2_1
  clear hxg3_0
  clear hxg3_1
  clear hfg3_0
  clear hfg3_1
  clear hxg12_0
  clear hfg12_0
  have hxg1_0 : w17_.cell? ⟨g1, 0, none⟩ = some (.slice A0_0 l0_0.length c0_0) := (blk_cell Bg1.out 0).trans rfl
  have hfg1_0 := blk_frozen Bg1.out 0
  have hxg2_0 : w17_.cell? ⟨g2, 0, none⟩ = some (.slice A1_0 l1_0.length c1_0) := (blk_cell Bg2.out 0).trans rfl
  have hxg2_1 : w17_.cell? ⟨g2, 1, none⟩ = some (.slice A1_1 l1_1.length c1_1) := (blk_cell Bg2.out 1).trans rfl
  have hfg2_0 := blk_frozen Bg2.out 0
  have hfg2_1 := blk_frozen Bg2.out 1
  have hxg3_0 : w17_.cell? ⟨g3, 0, none⟩ = some (.slice A2_0 l2_0.length c2_0) := (blk_cell Bg3.out 0).trans rfl
  have hxg3_1 : w17_.cell? ⟨g3, 1, none⟩ = some (.slice A2_1 l2_1.length c2_1) := (blk_cell Bg3.out 1).trans rfl
  have hfg3_0 := blk_frozen Bg3.out 0
  have hfg3_1 := blk_frozen Bg3.out 1
  have hxg12_0 : w17_.cell? ⟨g12, 0, none⟩ = some (.slice A13_0_ r7_0.length c13_0_) := (blk_cell Bg12.out 0).trans rfl
  have hfg12_0 := blk_frozen Bg12.out 0
  have hxg13_0 : w17_.cell? ⟨g13, 0, none⟩ = some (.slice none 0 0) := (blk_cell Bg13.out 0).trans rfl
  have hxg13_1 : w17_.cell? ⟨g13, 1, none⟩ = some (.slice none 0 0) := (blk_cell Bg13.out 1).trans rfl
  have hfg13_0 := blk_frozen Bg13.out 0
  have hfg13_1 := blk_frozen Bg13.out 1
  clear hb
  go_wp2_with (first | ((with_reducible refine gate_store (t := 46) (p := 12) rfl ?_); refine hold ?_))
  unfold Hold
  refine store_event (t := 46) (p := 12) (v := ?vo17) (w1 := ((w17_.setCell ⟨g13, 0, none⟩ (.slice A16_0_ r8_0.length c16_0_)).setCell ⟨g13, 1, none⟩ (.slice A16_1_ r8_1.length c16_1_))) ?hg ?ho ?hn ?hr ?_
  case ho => rfl
  case hg => rfl
  case hn => rfl
  case hr => first | (go_simp; done) | (go_simp; rfl)
  intro w18_ hw
  have hk : Kept w17_ w18_ (fun k => k = g13) := by rw [hw]; exact kept_two _ _
  have hb0 : Below w.heap.size w w18_ := by rw [hw]; exact (below_set (below_set HB.out (Nat.le_trans (by have z1_ := Z1_.out; have z2_ := Z2_.out; have z3_ := Z3_.out; have z4_ := Z4_.out; have z5_ := Z5_.out; have z6_ := Z6_.out; have z7_ := Z7_.out; have z8_ := Z8_.out; have z9_ := Z9_.out; have z10_ := Z10_.out; have z11_ := Z11_.out; have z12_ := Z12_.out; have z13_ := Z13_.out; have z14_ := Z14_.out; have z15_ := Z15_.out; have z16_ := Z16_.out; omega) Gg13.out.1)) (Nat.le_trans (by have z1_ := Z1_.out; have z2_ := Z2_.out; have z3_ := Z3_.out; have z4_ := Z4_.out; have z5_ := Z5_.out; have z6_ := Z6_.out; have z7_ := Z7_.out; have z8_ := Z8_.out; have z9_ := Z9_.out; have z10_ := Z10_.out; have z11_ := Z11_.out; have z12_ := Z12_.out; have z13_ := Z13_.out; have z14_ := Z14_.out; have z15_ := Z15_.out; have z16_ := Z16_.out; omega) Gg13.out.1))
  have n_ := Aside0.mk (show w18_.heap[g13]? = some (.cells #[.slice A16_0_ r8_0.length c16_0_, .slice A16_1_ r8_1.length c16_1_] 46 (0, 0)) by rw [hw]; exact (blk_put (cs := #[.slice A16_0_ r8_0.length c16_0_, .slice none 0 0]) (cs' := #[.slice A16_0_ r8_0.length c16_0_, .slice A16_1_ r8_1.length c16_1_]) (blk_put (cs := #[.slice none 0 0, .slice none 0 0]) (cs' := #[.slice A16_0_ r8_0.length c16_0_, .slice none 0 0]) Bg13.out 0 _ rfl) 1 _ rfl))
  clear Bg13; have Bg13 := n_; clear n_ hw
  have Z18_ := Aside0.mk (show w17_.heap.size ≤ w18_.heap.size from hk.1)
  have n_ := Aside0.mk (Kd.R_kept O8_0.out hk (fun k_ hk1 hk2 => by obtain ⟨a1_, a2_⟩ := hk1.1; have e_ : k_ = g13 := hk2; obtain ⟨b1_, b2_⟩ := Gg13.out; have z9_ := Z9_.out; have z10_ := Z10_.out; have z11_ := Z11_.out; have z12_ := Z12_.out; have z13_ := Z13_.out; have z14_ := Z14_.out; have z15_ := Z15_.out; have z16_ := Z16_.out; omega)); clear O8_0; have O8_0 := n_; clear n_
  have n_ := Aside0.mk (Kd.R_kept O9_0.out hk (fun k_ hk1 hk2 => by obtain ⟨a1_, a2_⟩ := hk1.1; have e_ : k_ = g13 := hk2; obtain ⟨b1_, b2_⟩ := Gg13.out; have z10_ := Z10_.out; have z11_ := Z11_.out; have z12_ := Z12_.out; have z13_ := Z13_.out; have z14_ := Z14_.out; have z15_ := Z15_.out; have z16_ := Z16_.out; omega)); clear O9_0; have O9_0 := n_; clear n_
  have n_ := Aside0.mk (Kd.S_kept O9_1.out hk (fun k_ hk1 hk2 => by obtain ⟨a1_, a2_⟩ := hk1.1; have e_ : k_ = g13 := hk2; obtain ⟨b1_, b2_⟩ := Gg13.out; have z10_ := Z10_.out; have z11_ := Z11_.out; have z12_ := Z12_.out; have z13_ := Z13_.out; have z14_ := Z14_.out; have z15_ := Z15_.out; have z16_ := Z16_.out; omega)); clear O9_1; have O9_1 := n_; clear n_
  have n_ := Aside0.mk (Kd.R_kept O10_0.out hk (fun k_ hk1 hk2 => by obtain ⟨a1_, a2_⟩ := hk1.1; have e_ : k_ = g13 := hk2; obtain ⟨b1_, b2_⟩ := Gg13.out; have z11_ := Z11_.out; have z12_ := Z12_.out; have z13_ := Z13_.out; have z14_ := Z14_.out; have z15_ := Z15_.out; have z16_ := Z16_.out; omega)); clear O10_0; have O10_0 := n_; clear n_
  have n_ := Aside0.mk (Kd.S_kept O10_1.out hk (fun k_ hk1 hk2 => by obtain ⟨a1_, a2_⟩ := hk1.1; have e_ : k_ = g13 := hk2; obtain ⟨b1_, b2_⟩ := Gg13.out; have z11_ := Z11_.out; have z12_ := Z12_.out; have z13_ := Z13_.out; have z14_ := Z14_.out; have z15_ := Z15_.out; have z16_ := Z16_.out; omega)); clear O10_1; have O10_1 := n_; clear n_
  have n_ := Aside0.mk (Kd.R_kept O11_0.out hk (fun k_ hk1 hk2 => by obtain ⟨a1_, a2_⟩ := hk1.1; have e_ : k_ = g13 := hk2; obtain ⟨b1_, b2_⟩ := Gg13.out; have z12_ := Z12_.out; have z13_ := Z13_.out; have z14_ := Z14_.out; have z15_ := Z15_.out; have z16_ := Z16_.out; omega)); clear O11_0; have O11_0 := n_; clear n_
  have n_ := Aside0.mk (Kd.R_kept O13_0.out hk (fun k_ hk1 hk2 => by obtain ⟨a1_, a2_⟩ := hk1.1; have e_ : k_ = g13 := hk2; obtain ⟨b1_, b2_⟩ := Gg13.out; have z14_ := Z14_.out; have z15_ := Z15_.out; have z16_ := Z16_.out; omega)); clear O13_0; have O13_0 := n_; clear n_
  have n_ := Aside0.mk (Kd.R_kept O16_0.out hk (fun k_ hk1 hk2 => by obtain ⟨a1_, a2_⟩ := hk1.1; have e_ : k_ = g13 := hk2; obtain ⟨b1_, b2_⟩ := Gg13.out; omega)); clear O16_0; have O16_0 := n_; clear n_
  have n_ := Aside0.mk (Kd.S_kept O16_1.out hk (fun k_ hk1 hk2 => by obtain ⟨a1_, a2_⟩ := hk1.1; have e_ : k_ = g13 := hk2; obtain ⟨b1_, b2_⟩ := Gg13.out; omega)); clear O16_1; have O16_1 := n_; clear n_
  have n_ := Aside0.mk (blk_kept Bg1.out hk (fun hk2 => by obtain ⟨a1_, a2_⟩ := Gg1.out; have e_ : g1 = g13 := hk2; obtain ⟨b1_, b2_⟩ := Gg13.out; have z2_ := Z2_.out; have z3_ := Z3_.out; have z4_ := Z4_.out; have z5_ := Z5_.out; have z6_ := Z6_.out; have z7_ := Z7_.out; have z8_ := Z8_.out; have z9_ := Z9_.out; have z10_ := Z10_.out; have z11_ := Z11_.out; have z12_ := Z12_.out; have z13_ := Z13_.out; have z14_ := Z14_.out; have z15_ := Z15_.out; have z16_ := Z16_.out; omega)); clear Bg1; have Bg1 := n_; clear n_
  have n_ := Aside0.mk (blk_kept Bg2.out hk (fun hk2 => by obtain ⟨a1_, a2_⟩ := Gg2.out; have e_ : g2 = g13 := hk2; obtain ⟨b1_, b2_⟩ := Gg13.out; have z3_ := Z3_.out; have z4_ := Z4_.out; have z5_ := Z5_.out; have z6_ := Z6_.out; have z7_ := Z7_.out; have z8_ := Z8_.out; have z9_ := Z9_.out; have z10_ := Z10_.out; have z11_ := Z11_.out; have z12_ := Z12_.out; have z13_ := Z13_.out; have z14_ := Z14_.out; have z15_ := Z15_.out; have z16_ := Z16_.out; omega)); clear Bg2; have Bg2 := n_; clear n_
  have n_ := Aside0.mk (blk_kept Bg3.out hk (fun hk2 => by obtain ⟨a1_, a2_⟩ := Gg3.out; have e_ : g3 = g13 := hk2; obtain ⟨b1_, b2_⟩ := Gg13.out; have z4_ := Z4_.out; have z5_ := Z5_.out; have z6_ := Z6_.out; have z7_ := Z7_.out; have z8_ := Z8_.out; have z9_ := Z9_.out; have z10_ := Z10_.out; have z11_ := Z11_.out; have z12_ := Z12_.out; have z13_ := Z13_.out; have z14_ := Z14_.out; have z15_ := Z15_.out; have z16_ := Z16_.out; omega)); clear Bg3; have Bg3 := n_; clear n_
  have n_ := Aside0.mk (blk_kept Bg12.out hk (fun hk2 => by obtain ⟨a1_, a2_⟩ := Gg12.out; have e_ : g12 = g13 := hk2; obtain ⟨b1_, b2_⟩ := Gg13.out; have z15_ := Z15_.out; have z16_ := Z16_.out; omega)); clear Bg12; have Bg12 := n_; clear n_
  clear HB; have HB := Aside0.mk hb0
  clear hxg1_0
  clear hfg1_0
  clear hxg2_0
  clear hxg2_1
  clear hfg2_0
  clear hfg2_1
  clear hxg3_0
  clear hxg3_1
  clear hfg3_0
  clear hfg3_1
  clear hxg12_0
  clear hfg12_0
  clear hxg13_0
  clear hxg13_1
  clear hfg13_0
  clear hfg13_1
  have hxg1_0 : w18_.cell? ⟨g1, 0, none⟩ = some (.slice A0_0 l0_0.length c0_0) := (blk_cell Bg1.out 0).trans rfl
  have hfg1_0 := blk_frozen Bg1.out 0
  have hxg2_0 : w18_.cell? ⟨g2, 0, none⟩ = some (.slice A1_0 l1_0.length c1_0) := (blk_cell Bg2.out 0).trans rfl
  have hxg2_1 : w18_.cell? ⟨g2, 1, none⟩ = some (.slice A1_1 l1_1.length c1_1) := (blk_cell Bg2.out 1).trans rfl
  have hfg2_0 := blk_frozen Bg2.out 0
  have hfg2_1 := blk_frozen Bg2.out 1
  have hxg3_0 : w18_.cell? ⟨g3, 0, none⟩ = some (.slice A2_0 l2_0.length c2_0) := (blk_cell Bg3.out 0).trans rfl
  have hxg3_1 : w18_.cell? ⟨g3, 1, none⟩ = some (.slice A2_1 l2_1.length c2_1) := (blk_cell Bg3.out 1).trans rfl
  have hfg3_0 := blk_frozen Bg3.out 0
  have hfg3_1 := blk_frozen Bg3.out 1
  have hxg12_0 : w18_.cell? ⟨g12, 0, none⟩ = some (.slice A13_0_ r7_0.length c13_0_) := (blk_cell Bg12.out 0).trans rfl
  have hfg12_0 := blk_frozen Bg12.out 0
  have hxg13_0 : w18_.cell? ⟨g13, 0, none⟩ = some (.slice A16_0_ r8_0.length c16_0_) := (blk_cell Bg13.out 0).trans rfl
  have hxg13_1 : w18_.cell? ⟨g13, 1, none⟩ = some (.slice A16_1_ r8_1.length c16_1_) := (blk_cell Bg13.out 1).trans rfl
  have hfg13_0 := blk_frozen Bg13.out 0
  have hfg13_1 := blk_frozen Bg13.out 1
  clear hk hb0
  go_wp2_with (first | (go_at_call 32; refine hold ?_))
  unfold Hold
  refine (laws_toQuery.calls ke9 _ _ l2_0 _ _ l2_1 r9_0 r9_1 _ (Kd.C_below H2_0.out HB.out) HC2_0.out (Kd.C_below H2_1.out HB.out) HC2_1.out Ee9.out).mono ?_
  rintro e w19_ ⟨v19_0_, v19_1_, rfl, ho0, ho1, hb⟩
  have O19_0 := Aside0.mk (newR ho0 HB.out.size)
  have O19_1 := Aside0.mk (newS ho1 HB.out.size)
  have Z19_ := Aside0.mk (show w18_.heap.size ≤ w19_.heap.size from hb.size)
  have n_ := Aside0.mk (Kd.R_below O8_0.out hb); clear O8_0; have O8_0 := n_; clear n_
  have n_ := Aside0.mk (Kd.R_below O9_0.out hb); clear O9_0; have O9_0 := n_; clear n_
  have n_ := Aside0.mk (Kd.S_below O9_1.out hb); clear O9_1; have O9_1 := n_; clear n_
  have n_ := Aside0.mk (Kd.R_below O10_0.out hb); clear O10_0; have O10_0 := n_; clear n_
  have n_ := Aside0.mk (Kd.S_below O10_1.out hb); clear O10_1; have O10_1 := n_; clear n_
  have n_ := Aside0.mk (Kd.R_below O11_0.out hb); clear O11_0; have O11_0 := n_; clear n_
  have n_ := Aside0.mk (Kd.R_below O13_0.out hb); clear O13_0; have O13_0 := n_; clear n_
  have n_ := Aside0.mk (Kd.R_below O16_0.out hb); clear O16_0; have O16_0 := n_; clear n_
  have n_ := Aside0.mk (Kd.S_below O16_1.out hb); clear O16_1; have O16_1 := n_; clear n_
  have n_ := Aside0.mk (blk_below Bg1.out hb); clear Bg1; have Bg1 := n_; clear n_
  have n_ := Aside0.mk (blk_below Bg2.out hb); clear Bg2; have Bg2 := n_; clear n_
  have n_ := Aside0.mk (blk_below Bg3.out hb); clear Bg3; have Bg3 := n_; clear n_
  have n_ := Aside0.mk (blk_below Bg12.out hb); clear Bg12; have Bg12 := n_; clear n_
  have n_ := Aside0.mk (blk_below Bg13.out hb); clear Bg13; have Bg13 := n_; clear n_
  have n_ := Aside0.mk (below_step HB.out hb); clear HB; have HB := n_; clear n_
  clear hxg1_0
  clear hfg1_0
  clear hxg2_0
  clear hxg2_1
  clear hfg2_0
  clear hfg2_1
  clear hxg3_0
  clear hxg3_1
  clear hfg3_0
  clear hfg3_1
  clear hxg12_0
  clear hfg12_0
  clear hxg13_0
  clear hxg13_1
  clear hfg13_0
  clear hfg13_1
  have hxg1_0 : w19_.cell? ⟨g1, 0, none⟩ = some (.slice A0_0 l0_0.length c0_0) := (blk_cell Bg1.out 0).trans rfl
  have hfg1_0 := blk_frozen Bg1.out 0
  have hxg2_0 : w19_.cell? ⟨g2, 0, none⟩ = some (.slice A1_0 l1_0.length c1_0) := (blk_cell Bg2.out 0).trans rfl
  have hxg2_1 : w19_.cell? ⟨g2, 1, none⟩ = some (.slice A1_1 l1_1.length c1_1) := (blk_cell Bg2.out 1).trans rfl
  have hfg2_0 := blk_frozen Bg2.out 0
  have hfg2_1 := blk_frozen Bg2.out 1
  have hxg3_0 : w19_.cell? ⟨g3, 0, none⟩ = some (.slice A2_0 l2_0.length c2_0) := (blk_cell Bg3.out 0).trans rfl
  have hxg3_1 : w19_.cell? ⟨g3, 1, none⟩ = some (.slice A2_1 l2_1.length c2_1) := (blk_cell Bg3.out 1).trans rfl
  have hfg3_0 := blk_frozen Bg3.out 0
  have hfg3_1 := blk_frozen Bg3.out 1
  have hxg12_0 : w19_.cell? ⟨g12, 0, none⟩ = some (.slice A13_0_ r7_0.length c13_0_) := (blk_cell Bg12.out 0).trans rfl
  have hfg12_0 := blk_frozen Bg12.out 0
  have hxg13_0 : w19_.cell? ⟨g13, 0, none⟩ = some (.slice A16_0_ r8_0.length c16_0_) := (blk_cell Bg13.out 0).trans rfl
  have hxg13_1 : w19_.cell? ⟨g13, 1, none⟩ = some (.slice A16_1_ r8_1.length c16_1_) := (blk_cell Bg13.out 1).trans rfl
  have hfg13_0 := blk_frozen Bg13.out 0
  have hfg13_1 := blk_frozen Bg13.out 1
  clear hb ho0 ho1
  obtain ⟨A19_0_, c19_0_, eq_⟩ := Kd.R_slice O19_0.out
  subst eq_
  obtain ⟨A19_1_, c19_1_, eq_⟩ := Kd.S_slice O19_1.out
  subst eq_
  go_wp2_with (first | ((with_reducible refine gate_dst (N := 13) rfl ?_); refine hold ?_))
  unfold Hold
  refine box_event ?hg (N := 13) ?hd (cs := #[.slice none 0 0, .slice none 0 0]) (t := 46) ?hr ?_
  case hd => rfl
  case hg => rfl
  case hr => first | (go_simp; done) | (go_simp; rfl)
  intro g14 hg w20_ hbox hb
  have Bg14 := Aside0.mk hbox
  have Gg14 := Aside0.mk (show w19_.heap.size ≤ g14 ∧ g14 < w20_.heap.size from ⟨by rw [hg]; exact Nat.le_refl _, blk_lt hbox⟩)
  clear hbox hg
  have Z20_ := Aside0.mk (show w19_.heap.size ≤ w20_.heap.size from hb.size)
  have n_ := Aside0.mk (Kd.R_below O8_0.out hb); clear O8_0; have O8_0 := n_; clear n_
  have n_ := Aside0.mk (Kd.R_below O9_0.out hb); clear O9_0; have O9_0 := n_; clear n_
  have n_ := Aside0.mk (Kd.S_below O9_1.out hb); clear O9_1; have O9_1 := n_; clear n_
  have n_ := Aside0.mk (Kd.R_below O10_0.out hb); clear O10_0; have O10_0 := n_; clear n_
  have n_ := Aside0.mk (Kd.S_below O10_1.out hb); clear O10_1; have O10_1 := n_; clear n_
  have n_ := Aside0.mk (Kd.R_below O11_0.out hb); clear O11_0; have O11_0 := n_; clear n_
  have n_ := Aside0.mk (Kd.R_below O13_0.out hb); clear O13_0; have O13_0 := n_; clear n_
  have n_ := Aside0.mk (Kd.R_below O16_0.out hb); clear O16_0; have O16_0 := n_; clear n_
  have n_ := Aside0.mk (Kd.S_below O16_1.out hb); clear O16_1; have O16_1 := n_; clear n_
  have n_ := Aside0.mk (Kd.R_below O19_0.out hb); clear O19_0; have O19_0 := n_; clear n_
  have n_ := Aside0.mk (Kd.S_below O19_1.out hb); clear O19_1; have O19_1 := n_; clear n_
  have n_ := Aside0.mk (blk_below Bg1.out hb); clear Bg1; have Bg1 := n_; clear n_
  have n_ := Aside0.mk (blk_below Bg2.out hb); clear Bg2; have Bg2 := n_; clear n_
  have n_ := Aside0.mk (blk_below Bg3.out hb); clear Bg3; have Bg3 := n_; clear n_
  have n_ := Aside0.mk (blk_below Bg12.out hb); clear Bg12; have Bg12 := n_; clear n_
  have n_ := Aside0.mk (blk_below Bg13.out hb); clear Bg13; have Bg13 := n_; clear n_
  have n_ := Aside0.mk (below_step HB.out hb); clear HB; have HB := n_; clear n_
  clear hxg1_0
  clear hfg1_0
  clear hxg2_0
  clear hxg2_1
  clear hfg2_0
  clear hfg2_1
  clear hxg3_0
  clear hxg3_1
  clear hfg3_0
  clear hfg3_1
  clear hxg12_0
  clear hfg12_0
  clear hxg13_0
  clear hxg13_1
  clear hfg13_0
  clear hfg13_1
  have hxg1_0 : w20_.cell? ⟨g1, 0, none⟩ = some (.slice A0_0 l0_0.length c0_0) := (blk_cell Bg1.out 0).trans rfl
  have hfg1_0 := blk_frozen Bg1.out 0
  have hxg2_0 : w20_.cell? ⟨g2, 0, none⟩ = some (.slice A1_0 l1_0.length c1_0) := (blk_cell Bg2.out 0).trans rfl
  have hxg2_1 : w20_.cell? ⟨g2, 1, none⟩ = some (.slice A1_1 l1_1.length c1_1) := (blk_cell Bg2.out 1).trans rfl
  have hfg2_0 := blk_frozen Bg2.out 0
  have hfg2_1 := blk_frozen Bg2.out 1
  have hxg3_0 : w20_.cell? ⟨g3, 0, none⟩ = some (.slice A2_0 l2_0.length c2_0) := (blk_cell Bg3.out 0).trans rfl
  have hxg3_1 : w20_.cell? ⟨g3, 1, none⟩ = some (.slice A2_1 l2_1.length c2_1) := (blk_cell Bg3.out 1).trans rfl
  have hfg3_0 := blk_frozen Bg3.out 0
  have hfg3_1 := blk_frozen Bg3.out 1
  have hxg12_0 : w20_.cell? ⟨g12, 0, none⟩ = some (.slice A13_0_ r7_0.length c13_0_) := (blk_cell Bg12.out 0).trans rfl
  have hfg12_0 := blk_frozen Bg12.out 0
  have hxg13_0 : w20_.cell? ⟨g13, 0, none⟩ = some (.slice A16_0_ r8_0.length c16_0_) := (blk_cell Bg13.out 0).trans rfl
  have hxg13_1 : w20_.cell? ⟨g13, 1, none⟩ = some (.slice A16_1_ r8_1.length c16_1_) := (blk_cell Bg13.out 1).trans rfl
  have hfg13_0 := blk_frozen Bg13.out 0
  have hfg13_1 := blk_frozen Bg13.out 1
  have hxg14_0 : w20_.cell? ⟨g14, 0, none⟩ = some (.slice none 0 0) := (blk_cell Bg14.out 0).trans rfl
  have hxg14_1 : w20_.cell? ⟨g14, 1, none⟩ = some (.slice none 0 0) := (blk_cell Bg14.out 1).trans rfl
  have hfg14_0 := blk_frozen Bg14.out 0
  have hfg14_1 := blk_frozen Bg14.out 1
  clear hb
  go_wp2_with (first | ((with_reducible refine gate_store (t := 46) (p := 13) rfl ?_); refine hold ?_))
  unfold Hold
  refine store_event (t := 46) (p := 13) (v := ?vo20) (w1 := ((w20_.setCell ⟨g14, 0, none⟩ (.slice A19_0_ r9_0.length c19_0_)).setCell ⟨g14, 1, none⟩ (.slice A19_1_ r9_1.length c19_1_))) ?hg ?ho ?hn ?hr ?_
  case ho => rfl
  case hg => rfl
  case hn => rfl
  case hr => first | (go_simp; done) | (go_simp; rfl)
  intro w21_ hw
  have hk : Kept w20_ w21_ (fun k => k = g14) := by rw [hw]; exact kept_two _ _
  have hb0 : Below w.heap.size w w21_ := by rw [hw]; exact (below_set (below_set HB.out (Nat.le_trans (by have z1_ := Z1_.out; have z2_ := Z2_.out; have z3_ := Z3_.out; have z4_ := Z4_.out; have z5_ := Z5_.out; have z6_ := Z6_.out; have z7_ := Z7_.out; have z8_ := Z8_.out; have z9_ := Z9_.out; have z10_ := Z10_.out; have z11_ := Z11_.out; have z12_ := Z12_.out; have z13_ := Z13_.out; have z14_ := Z14_.out; have z15_ := Z15_.out; have z16_ := Z16_.out; have z17_ := Z17_.out; have z18_ := Z18_.out; have z19_ := Z19_.out; omega) Gg14.out.1)) (Nat.le_trans (by have z1_ := Z1_.out; have z2_ := Z2_.out; have z3_ := Z3_.out; have z4_ := Z4_.out; have z5_ := Z5_.out; have z6_ := Z6_.out; have z7_ := Z7_.out; have z8_ := Z8_.out; have z9_ := Z9_.out; have z10_ := Z10_.out; have z11_ := Z11_.out; have z12_ := Z12_.out; have z13_ := Z13_.out; have z14_ := Z14_.out; have z15_ := Z15_.out; have z16_ := Z16_.out; have z17_ := Z17_.out; have z18_ := Z18_.out; have z19_ := Z19_.out; omega) Gg14.out.1))
  have n_ := Aside0.mk (show w21_.heap[g14]? = some (.cells #[.slice A19_0_ r9_0.length c19_0_, .slice A19_1_ r9_1.length c19_1_] 46 (0, 0)) by rw [hw]; exact (blk_put (cs := #[.slice A19_0_ r9_0.length c19_0_, .slice none 0 0]) (cs' := #[.slice A19_0_ r9_0.length c19_0_, .slice A19_1_ r9_1.length c19_1_]) (blk_put (cs := #[.slice none 0 0, .slice none 0 0]) (cs' := #[.slice A19_0_ r9_0.length c19_0_, .slice none 0 0]) Bg14.out 0 _ rfl) 1 _ rfl))
  clear Bg14; have Bg14 := n_; clear n_ hw
  have Z21_ := Aside0.mk (show w20_.heap.size ≤ w21_.heap.size from hk.1)
  have n_ := Aside0.mk (Kd.R_kept O8_0.out hk (fun k_ hk1 hk2 => by obtain ⟨a1_, a2_⟩ := hk1.1; have e_ : k_ = g14 := hk2; obtain ⟨b1_, b2_⟩ := Gg14.out; have z9_ := Z9_.out; have z10_ := Z10_.out; have z11_ := Z11_.out; have z12_ := Z12_.out; have z13_ := Z13_.out; have z14_ := Z14_.out; have z15_ := Z15_.out; have z16_ := Z16_.out; have z17_ := Z17_.out; have z18_ := Z18_.out; have z19_ := Z19_.out; omega)); clear O8_0; have O8_0 := n_; clear n_
  have n_ := Aside0.mk (Kd.R_kept O9_0.out hk (fun k_ hk1 hk2 => by obtain ⟨a1_, a2_⟩ := hk1.1; have e_ : k_ = g14 := hk2; obtain ⟨b1_, b2_⟩ := Gg14.out; have z10_ := Z10_.out; have z11_ := Z11_.out; have z12_ := Z12_.out; have z13_ := Z13_.out; have z14_ := Z14_.out; have z15_ := Z15_.out; have z16_ := Z16_.out; have z17_ := Z17_.out; have z18_ := Z18_.out; have z19_ := Z19_.out; omega)); clear O9_0; have O9_0 := n_; clear n_
  have n_ := Aside0.mk (Kd.S_kept O9_1.out hk (fun k_ hk1 hk2 => by obtain ⟨a1_, a2_⟩ := hk1.1; have e_ : k_ = g14 := hk2; obtain ⟨b1_, b2_⟩ := Gg14.out; have z10_ := Z10_.out; have z11_ := Z11_.out; have z12_ := Z12_.out; have z13_ := Z13_.out; have z14_ := Z14_.out; have z15_ := Z15_.out; have z16_ := Z16_.out; have z17_ := Z17_.out; have z18_ := Z18_.out; have z19_ := Z19_.out; omega)); clear O9_1; have O9_1 := n_; clear n_
  have n_ := Aside0.mk (Kd.R_kept O10_0.out hk (fun k_ hk1 hk2 => by obtain ⟨a1_, a2_⟩ := hk1.1; have e_ : k_ = g14 := hk2; obtain ⟨b1_, b2_⟩ := Gg14.out; have z11_ := Z11_.out; have z12_ := Z12_.out; have z13_ := Z13_.out; have z14_ := Z14_.out; have z15_ := Z15_.out; have z16_ := Z16_.out; have z17_ := Z17_.out; have z18_ := Z18_.out; have z19_ := Z19_.out; omega)); clear O10_0; have O10_0 := n_; clear n_
  have n_ := Aside0.mk (Kd.S_kept O10_1.out hk (fun k_ hk1 hk2 => by obtain ⟨a1_, a2_⟩ := hk1.1; have e_ : k_ = g14 := hk2; obtain ⟨b1_, b2_⟩ := Gg14.out; have z11_ := Z11_.out; have z12_ := Z12_.out; have z13_ := Z13_.out; have z14_ := Z14_.out; have z15_ := Z15_.out; have z16_ := Z16_.out; have z17_ := Z17_.out; have z18_ := Z18_.out; have z19_ := Z19_.out; omega)); clear O10_1; have O10_1 := n_; clear n_
  have n_ := Aside0.mk (Kd.R_kept O11_0.out hk (fun k_ hk1 hk2 => by obtain ⟨a1_, a2_⟩ := hk1.1; have e_ : k_ = g14 := hk2; obtain ⟨b1_, b2_⟩ := Gg14.out; have z12_ := Z12_.out; have z13_ := Z13_.out; have z14_ := Z14_.out; have z15_ := Z15_.out; have z16_ := Z16_.out; have z17_ := Z17_.out; have z18_ := Z18_.out; have z19_ := Z19_.out; omega)); clear O11_0; have O11_0 := n_; clear n_
  have n_ := Aside0.mk (Kd.R_kept O13_0.out hk (fun k_ hk1 hk2 => by obtain ⟨a1_, a2_⟩ := hk1.1; have e_ : k_ = g14 := hk2; obtain ⟨b1_, b2_⟩ := Gg14.out; have z14_ := Z14_.out; have z15_ := Z15_.out; have z16_ := Z16_.out; have z17_ := Z17_.out; have z18_ := Z18_.out; have z19_ := Z19_.out; omega)); clear O13_0; have O13_0 := n_; clear n_
  have n_ := Aside0.mk (Kd.R_kept O16_0.out hk (fun k_ hk1 hk2 => by obtain ⟨a1_, a2_⟩ := hk1.1; have e_ : k_ = g14 := hk2; obtain ⟨b1_, b2_⟩ := Gg14.out; have z17_ := Z17_.out; have z18_ := Z18_.out; have z19_ := Z19_.out; omega)); clear O16_0; have O16_0 := n_; clear n_
  have n_ := Aside0.mk (Kd.S_kept O16_1.out hk (fun k_ hk1 hk2 => by obtain ⟨a1_, a2_⟩ := hk1.1; have e_ : k_ = g14 := hk2; obtain ⟨b1_, b2_⟩ := Gg14.out; have z17_ := Z17_.out; have z18_ := Z18_.out; have z19_ := Z19_.out; omega)); clear O16_1; have O16_1 := n_; clear n_
  have n_ := Aside0.mk (Kd.R_kept O19_0.out hk (fun k_ hk1 hk2 => by obtain ⟨a1_, a2_⟩ := hk1.1; have e_ : k_ = g14 := hk2; obtain ⟨b1_, b2_⟩ := Gg14.out; omega)); clear O19_0; have O19_0 := n_; clear n_
  have n_ := Aside0.mk (Kd.S_kept O19_1.out hk (fun k_ hk1 hk2 => by obtain ⟨a1_, a2_⟩ := hk1.1; have e_ : k_ = g14 := hk2; obtain ⟨b1_, b2_⟩ := Gg14.out; omega)); clear O19_1; have O19_1 := n_; clear n_
  have n_ := Aside0.mk (blk_kept Bg1.out hk (fun hk2 => by obtain ⟨a1_, a2_⟩ := Gg1.out; have e_ : g1 = g14 := hk2; obtain ⟨b1_, b2_⟩ := Gg14.out; have z2_ := Z2_.out; have z3_ := Z3_.out; have z4_ := Z4_.out; have z5_ := Z5_.out; have z6_ := Z6_.out; have z7_ := Z7_.out; have z8_ := Z8_.out; have z9_ := Z9_.out; have z10_ := Z10_.out; have z11_ := Z11_.out; have z12_ := Z12_.out; have z13_ := Z13_.out; have z14_ := Z14_.out; have z15_ := Z15_.out; have z16_ := Z16_.out; have z17_ := Z17_.out; have z18_ := Z18_.out; have z19_ := Z19_.out; omega)); clear Bg1; have Bg1 := n_; clear n_
  have n_ := Aside0.mk (blk_kept Bg2.out hk (fun hk2 => by obtain ⟨a1_, a2_⟩ := Gg2.out; have e_ : g2 = g14 := hk2; obtain ⟨b1_, b2_⟩ := Gg14.out; have z3_ := Z3_.out; have z4_ := Z4_.out; have z5_ := Z5_.out; have z6_ := Z6_.out; have z7_ := Z7_.out; have z8_ := Z8_.out; have z9_ := Z9_.out; have z10_ := Z10_.out; have z11_ := Z11_.out; have z12_ := Z12_.out; have z13_ := Z13_.out; have z14_ := Z14_.out; have z15_ := Z15_.out; have z16_ := Z16_.out; have z17_ := Z17_.out; have z18_ := Z18_.out; have z19_ := Z19_.out; omega)); clear Bg2; have Bg2 := n_; clear n_
  have n_ := Aside0.mk (blk_kept Bg3.out hk (fun hk2 => by obtain ⟨a1_, a2_⟩ := Gg3.out; have e_ : g3 = g14 := hk2; obtain ⟨b1_, b2_⟩ := Gg14.out; have z4_ := Z4_.out; have z5_ := Z5_.out; have z6_ := Z6_.out; have z7_ := Z7_.out; have z8_ := Z8_.out; have z9_ := Z9_.out; have z10_ := Z10_.out; have z11_ := Z11_.out; have z12_ := Z12_.out; have z13_ := Z13_.out; have z14_ := Z14_.out; have z15_ := Z15_.out; have z16_ := Z16_.out; have z17_ := Z17_.out; have z18_ := Z18_.out; have z19_ := Z19_.out; omega)); clear Bg3; have Bg3 := n_; clear n_
  have n_ := Aside0.mk (blk_kept Bg12.out hk (fun hk2 => by obtain ⟨a1_, a2_⟩ := Gg12.out; have e_ : g12 = g14 := hk2; obtain ⟨b1_, b2_⟩ := Gg14.out; have z15_ := Z15_.out; have z16_ := Z16_.out; have z17_ := Z17_.out; have z18_ := Z18_.out; have z19_ := Z19_.out; omega)); clear Bg12; have Bg12 := n_; clear n_
  have n_ := Aside0.mk (blk_kept Bg13.out hk (fun hk2 => by obtain ⟨a1_, a2_⟩ := Gg13.out; have e_ : g13 = g14 := hk2; obtain ⟨b1_, b2_⟩ := Gg14.out; have z18_ := Z18_.out; have z19_ := Z19_.out; omega)); clear Bg13; have Bg13 := n_; clear n_
  clear HB; have HB := Aside0.mk hb0
  clear hxg1_0
  clear hfg1_0
  clear hxg2_0
  clear hxg2_1
  clear hfg2_0
  clear hfg2_1
  clear hxg3_0
  clear hxg3_1
  clear hfg3_0
  clear hfg3_1
  clear hxg12_0
  clear hfg12_0
  clear hxg13_0
  clear hxg13_1
  clear hfg13_0
  clear hfg13_1
  clear hxg14_0
  clear hxg14_1
  clear hfg14_0
  clear hfg14_1
  have hxg1_0 : w21_.cell? ⟨g1, 0, none⟩ = some (.slice A0_0 l0_0.length c0_0) := (blk_cell Bg1.out 0).trans rfl
  have hfg1_0 := blk_frozen Bg1.out 0
  have hxg2_0 : w21_.cell? ⟨g2, 0, none⟩ = some (.slice A1_0 l1_0.length c1_0) := (blk_cell Bg2.out 0).trans rfl
  have hxg2_1 : w21_.cell? ⟨g2, 1, none⟩ = some (.slice A1_1 l1_1.length c1_1) := (blk_cell Bg2.out 1).trans rfl
  have hfg2_0 := blk_frozen Bg2.out 0
  have hfg2_1 := blk_frozen Bg2.out 1
  have hxg3_0 : w21_.cell? ⟨g3, 0, none⟩ = some (.slice A2_0 l2_0.length c2_0) := (blk_cell Bg3.out 0).trans rfl
  have hxg3_1 : w21_.cell? ⟨g3, 1, none⟩ = some (.slice A2_1 l2_1.length c2_1) := (blk_cell Bg3.out 1).trans rfl
  have hfg3_0 := blk_frozen Bg3.out 0
  have hfg3_1 := blk_frozen Bg3.out 1
  have hxg12_0 : w21_.cell? ⟨g12, 0, none⟩ = some (.slice A13_0_ r7_0.length c13_0_) := (blk_cell Bg12.out 0).trans rfl
  have hfg12_0 := blk_frozen Bg12.out 0
  have hxg13_0 : w21_.cell? ⟨g13, 0, none⟩ = some (.slice A16_0_ r8_0.length c16_0_) := (blk_cell Bg13.out 0).trans rfl
  have hxg13_1 : w21_.cell? ⟨g13, 1, none⟩ = some (.slice A16_1_ r8_1.length c16_1_) := (blk_cell Bg13.out 1).trans rfl
  have hfg13_0 := blk_frozen Bg13.out 0
  have hfg13_1 := blk_frozen Bg13.out 1
  have hxg14_0 : w21_.cell? ⟨g14, 0, none⟩ = some (.slice A19_0_ r9_0.length c19_0_) := (blk_cell Bg14.out 0).trans rfl
  have hxg14_1 : w21_.cell? ⟨g14, 1, none⟩ = some (.slice A19_1_ r9_1.length c19_1_) := (blk_cell Bg14.out 1).trans rfl
  have hfg14_0 := blk_frozen Bg14.out 0
  have hfg14_1 := blk_frozen Bg14.out 1
  clear hk hb0
  go_wp2_with (first | (go_at_call 41; refine hold ?_))
  unfold Hold
  refine (laws_toIntS.calls ke10 _ _ l3 r10_0 _ (Kd.C_below H3.out HB.out) HC3.out Ee10.out).mono ?_
  rintro e w22_ ⟨v22_0_, rfl, ho0, hb⟩
  have O22_0 := Aside0.mk (newR ho0 HB.out.size)
  have Z22_ := Aside0.mk (show w21_.heap.size ≤ w22_.heap.size from hb.size)
  have n_ := Aside0.mk (Kd.R_below O8_0.out hb); clear O8_0; have O8_0 := n_; clear n_
  have n_ := Aside0.mk (Kd.R_below O9_0.out hb); clear O9_0; have O9_0 := n_; clear n_
  have n_ := Aside0.mk (Kd.S_below O9_1.out hb); clear O9_1; have O9_1 := n_; clear n_
  have n_ := Aside0.mk (Kd.R_below O10_0.out hb); clear O10_0; have O10_0 := n_; clear n_
  have n_ := Aside0.mk (Kd.S_below O10_1.out hb); clear O10_1; have O10_1 := n_; clear n_
  have n_ := Aside0.mk (Kd.R_below O11_0.out hb); clear O11_0; have O11_0 := n_; clear n_
  have n_ := Aside0.mk (Kd.R_below O13_0.out hb); clear O13_0; have O13_0 := n_; clear n_
  have n_ := Aside0.mk (Kd.R_below O16_0.out hb); clear O16_0; have O16_0 := n_; clear n_
  have n_ := Aside0.mk (Kd.S_below O16_1.out hb); clear O16_1; have O16_1 := n_; clear n_
  have n_ := Aside0.mk (Kd.R_below O19_0.out hb); clear O19_0; have O19_0 := n_; clear n_
  have n_ := Aside0.mk (Kd.S_below O19_1.out hb); clear O19_1; have O19_1 := n_; clear n_
  have n_ := Aside0.mk (blk_below Bg1.out hb); clear Bg1; have Bg1 := n_; clear n_
  have n_ := Aside0.mk (blk_below Bg2.out hb); clear Bg2; have Bg2 := n_; clear n_
  have n_ := Aside0.mk (blk_below Bg3.out hb); clear Bg3; have Bg3 := n_; clear n_
  have n_ := Aside0.mk (blk_below Bg12.out hb); clear Bg12; have Bg12 := n_; clear n_
  have n_ := Aside0.mk (blk_below Bg13.out hb); clear Bg13; have Bg13 := n_; clear n_
  have n_ := Aside0.mk (blk_below Bg14.out hb); clear Bg14; have Bg14 := n_; clear n_
  have n_ := Aside0.mk (below_step HB.out hb); clear HB; have HB := n_; clear n_
  clear hxg1_0
  clear hfg1_0
  clear hxg2_0
  clear hxg2_1
  clear hfg2_0
  clear hfg2_1
  clear hxg3_0
  clear hxg3_1
  clear hfg3_0
  clear hfg3_1
  clear hxg12_0
  clear hfg12_0
  clear hxg13_0
  clear hxg13_1
  clear hfg13_0
  clear hfg13_1
  clear hxg14_0
  clear hxg14_1
  clear hfg14_0
  clear hfg14_1
  have hxg1_0 : w22_.cell? ⟨g1, 0, none⟩ = some (.slice A0_0 l0_0.length c0_0) := (blk_cell Bg1.out 0).trans rfl
  have hfg1_0 := blk_frozen Bg1.out 0
  have hxg2_0 : w22_.cell? ⟨g2, 0, none⟩ = some (.slice A1_0 l1_0.length c1_0) := (blk_cell Bg2.out 0).trans rfl
  have hxg2_1 : w22_.cell? ⟨g2, 1, none⟩ = some (.slice A1_1 l1_1.length c1_1) := (blk_cell Bg2.out 1).trans rfl
  have hfg2_0 := blk_frozen Bg2.out 0
  have hfg2_1 := blk_frozen Bg2.out 1
  have hxg3_0 : w22_.cell? ⟨g3, 0, none⟩ = some (.slice A2_0 l2_0.length c2_0) := (blk_cell Bg3.out 0).trans rfl
  have hxg3_1 : w22_.cell? ⟨g3, 1, none⟩ = some (.slice A2_1 l2_1.length c2_1) := (blk_cell Bg3.out 1).trans rfl
  have hfg3_0 := blk_frozen Bg3.out 0
  have hfg3_1 := blk_frozen Bg3.out 1
  have hxg12_0 : w22_.cell? ⟨g12, 0, none⟩ = some (.slice A13_0_ r7_0.length c13_0_) := (blk_cell Bg12.out 0).trans rfl
  have hfg12_0 := blk_frozen Bg12.out 0
  have hxg13_0 : w22_.cell? ⟨g13, 0, none⟩ = some (.slice A16_0_ r8_0.length c16_0_) := (blk_cell Bg13.out 0).trans rfl
  have hxg13_1 : w22_.cell? ⟨g13, 1, none⟩ = some (.slice A16_1_ r8_1.length c16_1_) := (blk_cell Bg13.out 1).trans rfl
  have hfg13_0 := blk_frozen Bg13.out 0
  have hfg13_1 := blk_frozen Bg13.out 1
  have hxg14_0 : w22_.cell? ⟨g14, 0, none⟩ = some (.slice A19_0_ r9_0.length c19_0_) := (blk_cell Bg14.out 0).trans rfl
  have hxg14_1 : w22_.cell? ⟨g14, 1, none⟩ = some (.slice A19_1_ r9_1.length c19_1_) := (blk_cell Bg14.out 1).trans rfl
  have hfg14_0 := blk_frozen Bg14.out 0
  have hfg14_1 := blk_frozen Bg14.out 1
  clear hb ho0
  obtain ⟨A22_0_, c22_0_, eq_⟩ := Kd.R_slice O22_0.out
  subst eq_
  go_wp2_with (first | (go_at_call 50; refine hold ?_))
  unfold Hold
  refine (impl_IsMapping_calls _ _ r7_0 _ _ r8_0 _ _ r8_1 _ _ r9_0 _ _ r9_1 _ _ r10_0 r11_0 _ (Kd.R_reads' O13_0.out).2.2 (Kd.R_reads' O13_0.out).2.1 (Kd.R_reads' O16_0.out).2.2 (Kd.R_reads' O16_0.out).2.1 (Kd.S_reads' O16_1.out).2.2 (Kd.S_reads' O16_1.out).2.1 (Kd.R_reads' O19_0.out).2.2 (Kd.R_reads' O19_0.out).2.1 (Kd.S_reads' O19_1.out).2.2 (Kd.S_reads' O19_1.out).2.1 (Kd.R_reads' O22_0.out).2.2 (Kd.R_reads' O22_0.out).2.1 e12_hz0.out Ee12.out).mono ?_
  rintro e w23_ ⟨rfl, hb⟩
  have Z23_ := Aside0.mk (show w22_.heap.size ≤ w23_.heap.size from hb.size)
  have n_ := Aside0.mk (Kd.R_below O8_0.out hb); clear O8_0; have O8_0 := n_; clear n_
  have n_ := Aside0.mk (Kd.R_below O9_0.out hb); clear O9_0; have O9_0 := n_; clear n_
  have n_ := Aside0.mk (Kd.S_below O9_1.out hb); clear O9_1; have O9_1 := n_; clear n_
  have n_ := Aside0.mk (Kd.R_below O10_0.out hb); clear O10_0; have O10_0 := n_; clear n_
  have n_ := Aside0.mk (Kd.S_below O10_1.out hb); clear O10_1; have O10_1 := n_; clear n_
  have n_ := Aside0.mk (Kd.R_below O11_0.out hb); clear O11_0; have O11_0 := n_; clear n_
  have n_ := Aside0.mk (Kd.R_below O13_0.out hb); clear O13_0; have O13_0 := n_; clear n_
  have n_ := Aside0.mk (Kd.R_below O16_0.out hb); clear O16_0; have O16_0 := n_; clear n_
  have n_ := Aside0.mk (Kd.S_below O16_1.out hb); clear O16_1; have O16_1 := n_; clear n_
  have n_ := Aside0.mk (Kd.R_below O19_0.out hb); clear O19_0; have O19_0 := n_; clear n_
  have n_ := Aside0.mk (Kd.S_below O19_1.out hb); clear O19_1; have O19_1 := n_; clear n_
  have n_ := Aside0.mk (Kd.R_below O22_0.out hb); clear O22_0; have O22_0 := n_; clear n_
  have n_ := Aside0.mk (blk_below Bg1.out hb); clear Bg1; have Bg1 := n_; clear n_
  have n_ := Aside0.mk (blk_below Bg2.out hb); clear Bg2; have Bg2 := n_; clear n_
  have n_ := Aside0.mk (blk_below Bg3.out hb); clear Bg3; have Bg3 := n_; clear n_
  have n_ := Aside0.mk (blk_below Bg12.out hb); clear Bg12; have Bg12 := n_; clear n_
  have n_ := Aside0.mk (blk_below Bg13.out hb); clear Bg13; have Bg13 := n_; clear n_
  have n_ := Aside0.mk (blk_below Bg14.out hb); clear Bg14; have Bg14 := n_; clear n_
  have n_ := Aside0.mk (below_step HB.out hb); clear HB; have HB := n_; clear n_
  clear hxg1_0
  clear hfg1_0
  clear hxg2_0
  clear hxg2_1
  clear hfg2_0
  clear hfg2_1
  clear hxg3_0
  clear hxg3_1
  clear hfg3_0
  clear hfg3_1
  clear hxg12_0
  clear hfg12_0
  clear hxg13_0
  clear hxg13_1
  clear hfg13_0
  clear hfg13_1
  clear hxg14_0
  clear hxg14_1
  clear hfg14_0
  clear hfg14_1
  have hxg1_0 : w23_.cell? ⟨g1, 0, none⟩ = some (.slice A0_0 l0_0.length c0_0) := (blk_cell Bg1.out 0).trans rfl
  have hfg1_0 := blk_frozen Bg1.out 0
  have hxg2_0 : w23_.cell? ⟨g2, 0, none⟩ = some (.slice A1_0 l1_0.length c1_0) := (blk_cell Bg2.out 0).trans rfl
  have hxg2_1 : w23_.cell? ⟨g2, 1, none⟩ = some (.slice A1_1 l1_1.length c1_1) := (blk_cell Bg2.out 1).trans rfl
  have hfg2_0 := blk_frozen Bg2.out 0
  have hfg2_1 := blk_frozen Bg2.out 1
  have hxg3_0 : w23_.cell? ⟨g3, 0, none⟩ = some (.slice A2_0 l2_0.length c2_0) := (blk_cell Bg3.out 0).trans rfl
  have hxg3_1 : w23_.cell? ⟨g3, 1, none⟩ = some (.slice A2_1 l2_1.length c2_1) := (blk_cell Bg3.out 1).trans rfl
  have hfg3_0 := blk_frozen Bg3.out 0
  have hfg3_1 := blk_frozen Bg3.out 1
  have hxg12_0 : w23_.cell? ⟨g12, 0, none⟩ = some (.slice A13_0_ r7_0.length c13_0_) := (blk_cell Bg12.out 0).trans rfl
  have hfg12_0 := blk_frozen Bg12.out 0
  have hxg13_0 : w23_.cell? ⟨g13, 0, none⟩ = some (.slice A16_0_ r8_0.length c16_0_) := (blk_cell Bg13.out 0).trans rfl
  have hxg13_1 : w23_.cell? ⟨g13, 1, none⟩ = some (.slice A16_1_ r8_1.length c16_1_) := (blk_cell Bg13.out 1).trans rfl
  have hfg13_0 := blk_frozen Bg13.out 0
  have hfg13_1 := blk_frozen Bg13.out 1
  have hxg14_0 : w23_.cell? ⟨g14, 0, none⟩ = some (.slice A19_0_ r9_0.length c19_0_) := (blk_cell Bg14.out 0).trans rfl
  have hxg14_1 : w23_.cell? ⟨g14, 1, none⟩ = some (.slice A19_1_ r9_1.length c19_1_) := (blk_cell Bg14.out 1).trans rfl
  have hfg14_0 := blk_frozen Bg14.out 0
  have hfg14_1 := blk_frozen Bg14.out 1
  clear hb
  try go_wp2_with fail
  have n_ := Aside0.mk (Kd.R_drew O8_0.out); clear O8_0; have O8_0 := n_; clear n_
  have n_ := Aside0.mk (Kd.R_drew O9_0.out); clear O9_0; have O9_0 := n_; clear n_
  have n_ := Aside0.mk (Kd.S_drew O9_1.out); clear O9_1; have O9_1 := n_; clear n_
  have n_ := Aside0.mk (Kd.R_drew O10_0.out); clear O10_0; have O10_0 := n_; clear n_
  have n_ := Aside0.mk (Kd.S_drew O10_1.out); clear O10_1; have O10_1 := n_; clear n_
  have n_ := Aside0.mk (Kd.R_drew O11_0.out); clear O11_0; have O11_0 := n_; clear n_
  have n_ := Aside0.mk (Kd.R_drew O13_0.out); clear O13_0; have O13_0 := n_; clear n_
  have n_ := Aside0.mk (Kd.R_drew O16_0.out); clear O16_0; have O16_0 := n_; clear n_
  have n_ := Aside0.mk (Kd.S_drew O16_1.out); clear O16_1; have O16_1 := n_; clear n_
  have n_ := Aside0.mk (Kd.R_drew O19_0.out); clear O19_0; have O19_0 := n_; clear n_
  have n_ := Aside0.mk (Kd.S_drew O19_1.out); clear O19_1; have O19_1 := n_; clear n_
  have n_ := Aside0.mk (Kd.R_drew O22_0.out); clear O22_0; have O22_0 := n_; clear n_
  have n_ := Aside0.mk (blk_drew Bg1.out); clear Bg1; have Bg1 := n_; clear n_
  have n_ := Aside0.mk (blk_drew Bg2.out); clear Bg2; have Bg2 := n_; clear n_
  have n_ := Aside0.mk (blk_drew Bg3.out); clear Bg3; have Bg3 := n_; clear n_
  have n_ := Aside0.mk (blk_drew Bg12.out); clear Bg12; have Bg12 := n_; clear n_
  have n_ := Aside0.mk (blk_drew Bg13.out); clear Bg13; have Bg13 := n_; clear n_
  have n_ := Aside0.mk (blk_drew Bg14.out); clear Bg14; have Bg14 := n_; clear n_
  have n_ := Aside0.mk (below_drew1 HB.out); clear HB; have HB := n_; clear n_
  clear hxg1_0
  clear hfg1_0
  clear hxg2_0
  clear hxg2_1
  clear hfg2_0
  clear hfg2_1
  clear hxg3_0
  clear hxg3_1
  clear hfg3_0
  clear hfg3_1
  clear hxg12_0
  clear hfg12_0
  clear hxg13_0
  clear hxg13_1
  clear hfg13_0
  clear hfg13_1
  clear hxg14_0
  clear hxg14_1
  clear hfg14_0
  clear hfg14_1
  have hz := Aside0.mk (show w23_.heap.size ≤ w23_.drew.heap.size from Nat.le_refl _)
  refine start_ (n := 5) (S := fun w' => w'.cell? ⟨g12, 0, none⟩ = some (.slice A13_0_ r7_0.length c13_0_) ∧ w'.cell? ⟨g1, 0, none⟩ = some (.slice A0_0 l0_0.length c0_0)) (ds := []) #[false,false,false,false,false] (by kernel_rfl) rfl rfl ⟨(blk_cell Bg12.out 0).trans rfl, (blk_cell Bg1.out 0).trans rfl⟩ (fun hHeld => ?_)
  generalize w23_.drew = w24_ at O8_0 O9_0 O9_1 O10_0 O10_1 O11_0 O13_0 O16_0 O16_1 O19_0 O19_1 O22_0 Bg1 Bg2 Bg3 Bg12 Bg13 Bg14 HB hz hHeld ⊢
  have Z24_ := hz; clear hz
  refine take_ (i := 0) (N := some 59) (v := ?_) (a' := ?_) #[true,false,false,false,false] rfl rfl (by kernel_rfl) (fun _ _ _ h => h) (Or.inl ⟨by rfl, ?_⟩) hHeld ?_ ?_
  rotate_left
  · rintro w' ⟨s0, s1⟩; go_simp; with_reducible rfl
  rotate_left
  · simp only [Act.put, List.setIfInBounds_toArray, List.set_cons_zero, List.set_cons_succ, i64_w, i32_w]; rfl
  refine take_ (i := 1) (N := some 60) (v := ?_) (a' := ?_) #[true,true,false,false,false] rfl rfl (by kernel_rfl) (fun _ _ _ h => h) (Or.inl ⟨by rfl, ?_⟩) hHeld ?_ ?_
  rotate_left
  · rintro w' ⟨s0, s1⟩; go_simp; with_reducible rfl
  rotate_left
  · simp only [Act.put, List.setIfInBounds_toArray, List.set_cons_zero, List.set_cons_succ, i64_w, i32_w]; rfl
  refine one_ (i := 2) (N := some 61) #[true,true,true,false,false] rfl rfl (by kernel_rfl) (by decide) (fun K hK => ?_)
  refine goes_ Try.func49 (by kernel_rfl) rfl #[.agg #[.slice A0_0 l0_0.length c0_0]] (by rfl) rfl rfl (by (try simp only [List.map_toArray, List.map_cons, List.map_nil]); first | done | rfl) ?_
  with_reducible refine (laws_toSchema.calls ke7 _ _ l0_0 r7_0 _ (Kd.C_below H0_0.out HB.out) HC0_0.out Ee7.out).mono ?_
  rintro e w25_ ⟨v25_0_, rfl, ho0, hb⟩
  refine ⟨_, rfl, ?_⟩
  have O25_0 := Aside0.mk (newR ho0 HB.out.size)
  have Z25_ := Aside0.mk (show w24_.heap.size ≤ w25_.heap.size from hb.size)
  have n_ := Aside0.mk (Kd.R_below O8_0.out hb); clear O8_0; have O8_0 := n_; clear n_
  have n_ := Aside0.mk (Kd.R_below O9_0.out hb); clear O9_0; have O9_0 := n_; clear n_
  have n_ := Aside0.mk (Kd.S_below O9_1.out hb); clear O9_1; have O9_1 := n_; clear n_
  have n_ := Aside0.mk (Kd.R_below O10_0.out hb); clear O10_0; have O10_0 := n_; clear n_
  have n_ := Aside0.mk (Kd.S_below O10_1.out hb); clear O10_1; have O10_1 := n_; clear n_
  have n_ := Aside0.mk (Kd.R_below O11_0.out hb); clear O11_0; have O11_0 := n_; clear n_
  have n_ := Aside0.mk (Kd.R_below O13_0.out hb); clear O13_0; have O13_0 := n_; clear n_
  have n_ := Aside0.mk (Kd.R_below O16_0.out hb); clear O16_0; have O16_0 := n_; clear n_
  have n_ := Aside0.mk (Kd.S_below O16_1.out hb); clear O16_1; have O16_1 := n_; clear n_
  have n_ := Aside0.mk (Kd.R_below O19_0.out hb); clear O19_0; have O19_0 := n_; clear n_
  have n_ := Aside0.mk (Kd.S_below O19_1.out hb); clear O19_1; have O19_1 := n_; clear n_
  have n_ := Aside0.mk (Kd.R_below O22_0.out hb); clear O22_0; have O22_0 := n_; clear n_
  have n_ := Aside0.mk (blk_below Bg1.out hb); clear Bg1; have Bg1 := n_; clear n_
  have n_ := Aside0.mk (blk_below Bg2.out hb); clear Bg2; have Bg2 := n_; clear n_
  have n_ := Aside0.mk (blk_below Bg3.out hb); clear Bg3; have Bg3 := n_; clear n_
  have n_ := Aside0.mk (blk_below Bg12.out hb); clear Bg12; have Bg12 := n_; clear n_
  have n_ := Aside0.mk (blk_below Bg13.out hb); clear Bg13; have Bg13 := n_; clear n_
  have n_ := Aside0.mk (blk_below Bg14.out hb); clear Bg14; have Bg14 := n_; clear n_
  have n_ := Aside0.mk (below_step HB.out hb); clear HB; have HB := n_; clear n_
  have hxg1_0 : w25_.cell? ⟨g1, 0, none⟩ = some (.slice A0_0 l0_0.length c0_0) := (blk_cell Bg1.out 0).trans rfl
  have hfg1_0 := blk_frozen Bg1.out 0
  have hxg2_0 : w25_.cell? ⟨g2, 0, none⟩ = some (.slice A1_0 l1_0.length c1_0) := (blk_cell Bg2.out 0).trans rfl
  have hxg2_1 : w25_.cell? ⟨g2, 1, none⟩ = some (.slice A1_1 l1_1.length c1_1) := (blk_cell Bg2.out 1).trans rfl
  have hfg2_0 := blk_frozen Bg2.out 0
  have hfg2_1 := blk_frozen Bg2.out 1
  have hxg3_0 : w25_.cell? ⟨g3, 0, none⟩ = some (.slice A2_0 l2_0.length c2_0) := (blk_cell Bg3.out 0).trans rfl
  have hxg3_1 : w25_.cell? ⟨g3, 1, none⟩ = some (.slice A2_1 l2_1.length c2_1) := (blk_cell Bg3.out 1).trans rfl
  have hfg3_0 := blk_frozen Bg3.out 0
  have hfg3_1 := blk_frozen Bg3.out 1
  have hxg12_0 : w25_.cell? ⟨g12, 0, none⟩ = some (.slice A13_0_ r7_0.length c13_0_) := (blk_cell Bg12.out 0).trans rfl
  have hfg12_0 := blk_frozen Bg12.out 0
  have hxg13_0 : w25_.cell? ⟨g13, 0, none⟩ = some (.slice A16_0_ r8_0.length c16_0_) := (blk_cell Bg13.out 0).trans rfl
  have hxg13_1 : w25_.cell? ⟨g13, 1, none⟩ = some (.slice A16_1_ r8_1.length c16_1_) := (blk_cell Bg13.out 1).trans rfl
  have hfg13_0 := blk_frozen Bg13.out 0
  have hfg13_1 := blk_frozen Bg13.out 1
  have hxg14_0 : w25_.cell? ⟨g14, 0, none⟩ = some (.slice A19_0_ r9_0.length c19_0_) := (blk_cell Bg14.out 0).trans rfl
  have hxg14_1 : w25_.cell? ⟨g14, 1, none⟩ = some (.slice A19_1_ r9_1.length c19_1_) := (blk_cell Bg14.out 1).trans rfl
  have hfg14_0 := blk_frozen Bg14.out 0
  have hfg14_1 := blk_frozen Bg14.out 1
  clear hb ho0
  obtain ⟨A25_0_, c25_0_, eq_⟩ := Kd.R_slice O25_0.out
  subst eq_
  clear hxg1_0
  clear hfg1_0
  clear hxg2_0
  clear hxg2_1
  clear hfg2_0
  clear hfg2_1
  clear hxg3_0
  clear hxg3_1
  clear hfg3_0
  clear hfg3_1
  clear hxg12_0
  clear hfg12_0
  clear hxg13_0
  clear hxg13_1
  clear hfg13_0
  clear hfg13_1
  clear hxg14_0
  clear hxg14_1
  clear hfg14_0
  clear hfg14_1
  refine hK.out _ _ ⟨(blk_cell Bg12.out 0).trans rfl, (blk_cell Bg1.out 0).trans rfl⟩ (fun hHeld => ?_)
  clear hK K
  refine norm_ (a' := ?_) ?_ ?_
  rotate_left
  · show Act.put _ (some 61) _ = _; simp only [Act.put, List.setIfInBounds_toArray, List.set_cons_zero, List.set_cons_succ, i64_w, i32_w]; rfl
  refine one_ (i := 3) (N := some 62) #[true,true,true,true,false] rfl rfl (by kernel_rfl) (by decide) (fun K hK => ?_)
  refine goes_ Try.func51 (by kernel_rfl) rfl #[.agg #[.slice A13_0_ r7_0.length c13_0_], .agg #[.slice A25_0_ r7_0.length c25_0_]] (by rfl) rfl rfl (by (try simp only [List.map_toArray, List.map_cons, List.map_nil]); first | done | rfl) ?_
  with_reducible refine (laws_eqSchema.calls ke13 _ _ r7_0 _ _ r7_0 true _ (Kd.R_reads' O13_0.out).2.2 (Kd.R_reads' O13_0.out).2.1 (Kd.R_reads' O25_0.out).2.2 (Kd.R_reads' O25_0.out).2.1 Ee13.out).mono ?_
  rintro e w26_ ⟨rfl, hb⟩
  refine ⟨_, rfl, ?_⟩
  have Z26_ := Aside0.mk (show w25_.heap.size ≤ w26_.heap.size from hb.size)
  have n_ := Aside0.mk (Kd.R_below O8_0.out hb); clear O8_0; have O8_0 := n_; clear n_
  have n_ := Aside0.mk (Kd.R_below O9_0.out hb); clear O9_0; have O9_0 := n_; clear n_
  have n_ := Aside0.mk (Kd.S_below O9_1.out hb); clear O9_1; have O9_1 := n_; clear n_
  have n_ := Aside0.mk (Kd.R_below O10_0.out hb); clear O10_0; have O10_0 := n_; clear n_
  have n_ := Aside0.mk (Kd.S_below O10_1.out hb); clear O10_1; have O10_1 := n_; clear n_
  have n_ := Aside0.mk (Kd.R_below O11_0.out hb); clear O11_0; have O11_0 := n_; clear n_
  have n_ := Aside0.mk (Kd.R_below O13_0.out hb); clear O13_0; have O13_0 := n_; clear n_
  have n_ := Aside0.mk (Kd.R_below O16_0.out hb); clear O16_0; have O16_0 := n_; clear n_
  have n_ := Aside0.mk (Kd.S_below O16_1.out hb); clear O16_1; have O16_1 := n_; clear n_
  have n_ := Aside0.mk (Kd.R_below O19_0.out hb); clear O19_0; have O19_0 := n_; clear n_
  have n_ := Aside0.mk (Kd.S_below O19_1.out hb); clear O19_1; have O19_1 := n_; clear n_
  have n_ := Aside0.mk (Kd.R_below O22_0.out hb); clear O22_0; have O22_0 := n_; clear n_
  have n_ := Aside0.mk (Kd.R_below O25_0.out hb); clear O25_0; have O25_0 := n_; clear n_
  have n_ := Aside0.mk (blk_below Bg1.out hb); clear Bg1; have Bg1 := n_; clear n_
  have n_ := Aside0.mk (blk_below Bg2.out hb); clear Bg2; have Bg2 := n_; clear n_
  have n_ := Aside0.mk (blk_below Bg3.out hb); clear Bg3; have Bg3 := n_; clear n_
  have n_ := Aside0.mk (blk_below Bg12.out hb); clear Bg12; have Bg12 := n_; clear n_
  have n_ := Aside0.mk (blk_below Bg13.out hb); clear Bg13; have Bg13 := n_; clear n_
  have n_ := Aside0.mk (blk_below Bg14.out hb); clear Bg14; have Bg14 := n_; clear n_
  have n_ := Aside0.mk (below_step HB.out hb); clear HB; have HB := n_; clear n_
  have hxg1_0 : w26_.cell? ⟨g1, 0, none⟩ = some (.slice A0_0 l0_0.length c0_0) := (blk_cell Bg1.out 0).trans rfl
  have hfg1_0 := blk_frozen Bg1.out 0
  have hxg2_0 : w26_.cell? ⟨g2, 0, none⟩ = some (.slice A1_0 l1_0.length c1_0) := (blk_cell Bg2.out 0).trans rfl
  have hxg2_1 : w26_.cell? ⟨g2, 1, none⟩ = some (.slice A1_1 l1_1.length c1_1) := (blk_cell Bg2.out 1).trans rfl
  have hfg2_0 := blk_frozen Bg2.out 0
  have hfg2_1 := blk_frozen Bg2.out 1
  have hxg3_0 : w26_.cell? ⟨g3, 0, none⟩ = some (.slice A2_0 l2_0.length c2_0) := (blk_cell Bg3.out 0).trans rfl
  have hxg3_1 : w26_.cell? ⟨g3, 1, none⟩ = some (.slice A2_1 l2_1.length c2_1) := (blk_cell Bg3.out 1).trans rfl
  have hfg3_0 := blk_frozen Bg3.out 0
  have hfg3_1 := blk_frozen Bg3.out 1
  have hxg12_0 : w26_.cell? ⟨g12, 0, none⟩ = some (.slice A13_0_ r7_0.length c13_0_) := (blk_cell Bg12.out 0).trans rfl
  have hfg12_0 := blk_frozen Bg12.out 0
  have hxg13_0 : w26_.cell? ⟨g13, 0, none⟩ = some (.slice A16_0_ r8_0.length c16_0_) := (blk_cell Bg13.out 0).trans rfl
  have hxg13_1 : w26_.cell? ⟨g13, 1, none⟩ = some (.slice A16_1_ r8_1.length c16_1_) := (blk_cell Bg13.out 1).trans rfl
  have hfg13_0 := blk_frozen Bg13.out 0
  have hfg13_1 := blk_frozen Bg13.out 1
  have hxg14_0 : w26_.cell? ⟨g14, 0, none⟩ = some (.slice A19_0_ r9_0.length c19_0_) := (blk_cell Bg14.out 0).trans rfl
  have hxg14_1 : w26_.cell? ⟨g14, 1, none⟩ = some (.slice A19_1_ r9_1.length c19_1_) := (blk_cell Bg14.out 1).trans rfl
  have hfg14_0 := blk_frozen Bg14.out 0
  have hfg14_1 := blk_frozen Bg14.out 1
  clear hb
  clear hxg1_0
  clear hfg1_0
  clear hxg2_0
  clear hxg2_1
  clear hfg2_0
  clear hfg2_1
  clear hxg3_0
  clear hxg3_1
  clear hfg3_0
  clear hfg3_1
  clear hxg12_0
  clear hfg12_0
  clear hxg13_0
  clear hxg13_1
  clear hfg13_0
  clear hfg13_1
  clear hxg14_0
  clear hxg14_1
  clear hfg14_0
  clear hfg14_1
  refine hK.out _ _ ⟨(blk_cell Bg12.out 0).trans rfl, (blk_cell Bg1.out 0).trans rfl⟩ (fun hHeld => ?_)
  clear hK K
  refine norm_ (a' := ?_) ?_ ?_
  rotate_left
  · show Act.put _ (some 62) _ = _; simp only [Act.put, List.setIfInBounds_toArray, List.set_cons_zero, List.set_cons_succ, i64_w, i32_w]; rfl
  refine pure_ (i := 4) (N := some 63) (v := ?_) (a' := ?_) #[true,true,true,true,true] rfl rfl (by kernel_rfl) (fun _ _ _ h => h) (Or.inl ⟨by rfl, ?_⟩) ?_ ?_
  rotate_left
  · intro w'; go_simp; with_reducible rfl
  rotate_left
  · simp only [Act.put, List.setIfInBounds_toArray, List.set_cons_zero, List.set_cons_succ, i64_w, i32_w]; rfl
  refine done_ (by kernel_rfl) ?_
  have hxg1_0 : w26_.cell? ⟨g1, 0, none⟩ = some (.slice A0_0 l0_0.length c0_0) := (blk_cell Bg1.out 0).trans rfl
  have hfg1_0 := blk_frozen Bg1.out 0
  have hxg2_0 : w26_.cell? ⟨g2, 0, none⟩ = some (.slice A1_0 l1_0.length c1_0) := (blk_cell Bg2.out 0).trans rfl
  have hxg2_1 : w26_.cell? ⟨g2, 1, none⟩ = some (.slice A1_1 l1_1.length c1_1) := (blk_cell Bg2.out 1).trans rfl
  have hfg2_0 := blk_frozen Bg2.out 0
  have hfg2_1 := blk_frozen Bg2.out 1
  have hxg3_0 : w26_.cell? ⟨g3, 0, none⟩ = some (.slice A2_0 l2_0.length c2_0) := (blk_cell Bg3.out 0).trans rfl
  have hxg3_1 : w26_.cell? ⟨g3, 1, none⟩ = some (.slice A2_1 l2_1.length c2_1) := (blk_cell Bg3.out 1).trans rfl
  have hfg3_0 := blk_frozen Bg3.out 0
  have hfg3_1 := blk_frozen Bg3.out 1
  have hxg12_0 : w26_.cell? ⟨g12, 0, none⟩ = some (.slice A13_0_ r7_0.length c13_0_) := (blk_cell Bg12.out 0).trans rfl
  have hfg12_0 := blk_frozen Bg12.out 0
  have hxg13_0 : w26_.cell? ⟨g13, 0, none⟩ = some (.slice A16_0_ r8_0.length c16_0_) := (blk_cell Bg13.out 0).trans rfl
  have hxg13_1 : w26_.cell? ⟨g13, 1, none⟩ = some (.slice A16_1_ r8_1.length c16_1_) := (blk_cell Bg13.out 1).trans rfl
  have hfg13_0 := blk_frozen Bg13.out 0
  have hfg13_1 := blk_frozen Bg13.out 1
  have hxg14_0 : w26_.cell? ⟨g14, 0, none⟩ = some (.slice A19_0_ r9_0.length c19_0_) := (blk_cell Bg14.out 0).trans rfl
  have hxg14_1 : w26_.cell? ⟨g14, 1, none⟩ = some (.slice A19_1_ r9_1.length c19_1_) := (blk_cell Bg14.out 1).trans rfl
  have hfg14_0 := blk_frozen Bg14.out 0
  have hfg14_1 := blk_frozen Bg14.out 1
  try go_wp2_with fail
  have n_ := Aside0.mk (Kd.R_drew O8_0.out); clear O8_0; have O8_0 := n_; clear n_
  have n_ := Aside0.mk (Kd.R_drew O9_0.out); clear O9_0; have O9_0 := n_; clear n_
  have n_ := Aside0.mk (Kd.S_drew O9_1.out); clear O9_1; have O9_1 := n_; clear n_
  have n_ := Aside0.mk (Kd.R_drew O10_0.out); clear O10_0; have O10_0 := n_; clear n_
  have n_ := Aside0.mk (Kd.S_drew O10_1.out); clear O10_1; have O10_1 := n_; clear n_
  have n_ := Aside0.mk (Kd.R_drew O11_0.out); clear O11_0; have O11_0 := n_; clear n_
  have n_ := Aside0.mk (Kd.R_drew O13_0.out); clear O13_0; have O13_0 := n_; clear n_
  have n_ := Aside0.mk (Kd.R_drew O16_0.out); clear O16_0; have O16_0 := n_; clear n_
  have n_ := Aside0.mk (Kd.S_drew O16_1.out); clear O16_1; have O16_1 := n_; clear n_
  have n_ := Aside0.mk (Kd.R_drew O19_0.out); clear O19_0; have O19_0 := n_; clear n_
  have n_ := Aside0.mk (Kd.S_drew O19_1.out); clear O19_1; have O19_1 := n_; clear n_
  have n_ := Aside0.mk (Kd.R_drew O22_0.out); clear O22_0; have O22_0 := n_; clear n_
  have n_ := Aside0.mk (Kd.R_drew O25_0.out); clear O25_0; have O25_0 := n_; clear n_
  have n_ := Aside0.mk (blk_drew Bg1.out); clear Bg1; have Bg1 := n_; clear n_
  have n_ := Aside0.mk (blk_drew Bg2.out); clear Bg2; have Bg2 := n_; clear n_
  have n_ := Aside0.mk (blk_drew Bg3.out); clear Bg3; have Bg3 := n_; clear n_
  have n_ := Aside0.mk (blk_drew Bg12.out); clear Bg12; have Bg12 := n_; clear n_
  have n_ := Aside0.mk (blk_drew Bg13.out); clear Bg13; have Bg13 := n_; clear n_
  have n_ := Aside0.mk (blk_drew Bg14.out); clear Bg14; have Bg14 := n_; clear n_
  have n_ := Aside0.mk (below_drew1 HB.out); clear HB; have HB := n_; clear n_
  clear hxg1_0
  clear hfg1_0
  clear hxg2_0
  clear hxg2_1
  clear hfg2_0
  clear hfg2_1
  clear hxg3_0
  clear hxg3_1
  clear hfg3_0
  clear hfg3_1
  clear hxg12_0
  clear hfg12_0
  clear hxg13_0
  clear hxg13_1
  clear hfg13_0
  clear hfg13_1
  clear hxg14_0
  clear hxg14_1
  clear hfg14_0
  clear hfg14_1
  have hz := Aside0.mk (show w26_.heap.size ≤ w26_.drew.heap.size from Nat.le_refl _)
  refine start_ (n := 5) (S := fun w' => w'.cell? ⟨g13, 0, none⟩ = some (.slice A16_0_ r8_0.length c16_0_) ∧ w'.cell? ⟨g13, 1, none⟩ = some (.slice A16_1_ r8_1.length c16_1_) ∧ w'.cell? ⟨g2, 0, none⟩ = some (.slice A1_0 l1_0.length c1_0) ∧ w'.cell? ⟨g2, 1, none⟩ = some (.slice A1_1 l1_1.length c1_1)) (ds := []) #[false,false,false,false,false] (by kernel_rfl) rfl rfl ⟨(blk_cell Bg13.out 0).trans rfl, (blk_cell Bg13.out 1).trans rfl, (blk_cell Bg2.out 0).trans rfl, (blk_cell Bg2.out 1).trans rfl⟩ (fun hHeld => ?_)
  generalize w26_.drew = w27_ at O8_0 O9_0 O9_1 O10_0 O10_1 O11_0 O13_0 O16_0 O16_1 O19_0 O19_1 O22_0 O25_0 Bg1 Bg2 Bg3 Bg12 Bg13 Bg14 HB hz hHeld ⊢
  have Z27_ := hz; clear hz
  refine take_ (i := 0) (N := some 64) (v := ?_) (a' := ?_) #[true,false,false,false,false] rfl rfl (by kernel_rfl) (fun _ _ _ h => h) (Or.inl ⟨by rfl, ?_⟩) hHeld ?_ ?_
  rotate_left
  · rintro w' ⟨s0, s1, s2, s3⟩; go_simp; with_reducible rfl
  rotate_left
  · simp only [Act.put, List.setIfInBounds_toArray, List.set_cons_zero, List.set_cons_succ, i64_w, i32_w]; rfl
  refine take_ (i := 1) (N := some 65) (v := ?_) (a' := ?_) #[true,true,false,false,false] rfl rfl (by kernel_rfl) (fun _ _ _ h => h) (Or.inl ⟨by rfl, ?_⟩) hHeld ?_ ?_
  rotate_left
  · rintro w' ⟨s0, s1, s2, s3⟩; go_simp; with_reducible rfl
  rotate_left
  · simp only [Act.put, List.setIfInBounds_toArray, List.set_cons_zero, List.set_cons_succ, i64_w, i32_w]; rfl
  refine one_ (i := 2) (N := some 66) #[true,true,true,false,false] rfl rfl (by kernel_rfl) (by decide) (fun K hK => ?_)
  refine goes_ Try.func32 (by kernel_rfl) rfl #[.agg #[.slice A1_0 l1_0.length c1_0, .slice A1_1 l1_1.length c1_1]] (by rfl) rfl rfl (by (try simp only [List.map_toArray, List.map_cons, List.map_nil]); first | done | rfl) ?_
  with_reducible refine (laws_toQuery.calls ke8 _ _ l1_0 _ _ l1_1 r8_0 r8_1 _ (Kd.C_below H1_0.out HB.out) HC1_0.out (Kd.C_below H1_1.out HB.out) HC1_1.out Ee8.out).mono ?_
  rintro e w28_ ⟨v28_0_, v28_1_, rfl, ho0, ho1, hb⟩
  refine ⟨_, rfl, ?_⟩
  have O28_0 := Aside0.mk (newR ho0 HB.out.size)
  have O28_1 := Aside0.mk (newS ho1 HB.out.size)
  have Z28_ := Aside0.mk (show w27_.heap.size ≤ w28_.heap.size from hb.size)
  have n_ := Aside0.mk (Kd.R_below O8_0.out hb); clear O8_0; have O8_0 := n_; clear n_
  have n_ := Aside0.mk (Kd.R_below O9_0.out hb); clear O9_0; have O9_0 := n_; clear n_
  have n_ := Aside0.mk (Kd.S_below O9_1.out hb); clear O9_1; have O9_1 := n_; clear n_
  have n_ := Aside0.mk (Kd.R_below O10_0.out hb); clear O10_0; have O10_0 := n_; clear n_
  have n_ := Aside0.mk (Kd.S_below O10_1.out hb); clear O10_1; have O10_1 := n_; clear n_
  have n_ := Aside0.mk (Kd.R_below O11_0.out hb); clear O11_0; have O11_0 := n_; clear n_
  have n_ := Aside0.mk (Kd.R_below O13_0.out hb); clear O13_0; have O13_0 := n_; clear n_
  have n_ := Aside0.mk (Kd.R_below O16_0.out hb); clear O16_0; have O16_0 := n_; clear n_
  have n_ := Aside0.mk (Kd.S_below O16_1.out hb); clear O16_1; have O16_1 := n_; clear n_
  have n_ := Aside0.mk (Kd.R_below O19_0.out hb); clear O19_0; have O19_0 := n_; clear n_
  have n_ := Aside0.mk (Kd.S_below O19_1.out hb); clear O19_1; have O19_1 := n_; clear n_
  have n_ := Aside0.mk (Kd.R_below O22_0.out hb); clear O22_0; have O22_0 := n_; clear n_
  have n_ := Aside0.mk (Kd.R_below O25_0.out hb); clear O25_0; have O25_0 := n_; clear n_
  have n_ := Aside0.mk (blk_below Bg1.out hb); clear Bg1; have Bg1 := n_; clear n_
  have n_ := Aside0.mk (blk_below Bg2.out hb); clear Bg2; have Bg2 := n_; clear n_
  have n_ := Aside0.mk (blk_below Bg3.out hb); clear Bg3; have Bg3 := n_; clear n_
  have n_ := Aside0.mk (blk_below Bg12.out hb); clear Bg12; have Bg12 := n_; clear n_
  have n_ := Aside0.mk (blk_below Bg13.out hb); clear Bg13; have Bg13 := n_; clear n_
  have n_ := Aside0.mk (blk_below Bg14.out hb); clear Bg14; have Bg14 := n_; clear n_
  have n_ := Aside0.mk (below_step HB.out hb); clear HB; have HB := n_; clear n_
  have hxg1_0 : w28_.cell? ⟨g1, 0, none⟩ = some (.slice A0_0 l0_0.length c0_0) := (blk_cell Bg1.out 0).trans rfl
  have hfg1_0 := blk_frozen Bg1.out 0
  have hxg2_0 : w28_.cell? ⟨g2, 0, none⟩ = some (.slice A1_0 l1_0.length c1_0) := (blk_cell Bg2.out 0).trans rfl
  have hxg2_1 : w28_.cell? ⟨g2, 1, none⟩ = some (.slice A1_1 l1_1.length c1_1) := (blk_cell Bg2.out 1).trans rfl
  have hfg2_0 := blk_frozen Bg2.out 0
  have hfg2_1 := blk_frozen Bg2.out 1
  have hxg3_0 : w28_.cell? ⟨g3, 0, none⟩ = some (.slice A2_0 l2_0.length c2_0) := (blk_cell Bg3.out 0).trans rfl
  have hxg3_1 : w28_.cell? ⟨g3, 1, none⟩ = some (.slice A2_1 l2_1.length c2_1) := (blk_cell Bg3.out 1).trans rfl
  have hfg3_0 := blk_frozen Bg3.out 0
  have hfg3_1 := blk_frozen Bg3.out 1
  have hxg12_0 : w28_.cell? ⟨g12, 0, none⟩ = some (.slice A13_0_ r7_0.length c13_0_) := (blk_cell Bg12.out 0).trans rfl
  have hfg12_0 := blk_frozen Bg12.out 0
  have hxg13_0 : w28_.cell? ⟨g13, 0, none⟩ = some (.slice A16_0_ r8_0.length c16_0_) := (blk_cell Bg13.out 0).trans rfl
  have hxg13_1 : w28_.cell? ⟨g13, 1, none⟩ = some (.slice A16_1_ r8_1.length c16_1_) := (blk_cell Bg13.out 1).trans rfl
  have hfg13_0 := blk_frozen Bg13.out 0
  have hfg13_1 := blk_frozen Bg13.out 1
  have hxg14_0 : w28_.cell? ⟨g14, 0, none⟩ = some (.slice A19_0_ r9_0.length c19_0_) := (blk_cell Bg14.out 0).trans rfl
  have hxg14_1 : w28_.cell? ⟨g14, 1, none⟩ = some (.slice A19_1_ r9_1.length c19_1_) := (blk_cell Bg14.out 1).trans rfl
  have hfg14_0 := blk_frozen Bg14.out 0
  have hfg14_1 := blk_frozen Bg14.out 1
  clear hb ho0 ho1
  obtain ⟨A28_0_, c28_0_, eq_⟩ := Kd.R_slice O28_0.out
  subst eq_
  obtain ⟨A28_1_, c28_1_, eq_⟩ := Kd.S_slice O28_1.out
  subst eq_
  clear hxg1_0
  clear hfg1_0
  clear hxg2_0
  clear hxg2_1
  clear hfg2_0
  clear hfg2_1
  clear hxg3_0
  clear hxg3_1
  clear hfg3_0
  clear hfg3_1
  clear hxg12_0
  clear hfg12_0
  clear hxg13_0
  clear hxg13_1
  clear hfg13_0
  clear hfg13_1
  clear hxg14_0
  clear hxg14_1
  clear hfg14_0
  clear hfg14_1
  refine hK.out _ _ ⟨(blk_cell Bg13.out 0).trans rfl, (blk_cell Bg13.out 1).trans rfl, (blk_cell Bg2.out 0).trans rfl, (blk_cell Bg2.out 1).trans rfl⟩ (fun hHeld => ?_)
  clear hK K
  refine norm_ (a' := ?_) ?_ ?_
  rotate_left
  · show Act.put _ (some 66) _ = _; simp only [Act.put, List.setIfInBounds_toArray, List.set_cons_zero, List.set_cons_succ, i64_w, i32_w]; rfl
  refine one_ (i := 3) (N := some 67) #[true,true,true,true,false] rfl rfl (by kernel_rfl) (by decide) (fun K hK => ?_)
  refine goes_ Try.func34 (by kernel_rfl) rfl #[.agg #[.slice A16_0_ r8_0.length c16_0_, .slice A16_1_ r8_1.length c16_1_], .agg #[.slice A28_0_ r8_0.length c28_0_, .slice A28_1_ r8_1.length c28_1_]] (by rfl) rfl rfl (by (try simp only [List.map_toArray, List.map_cons, List.map_nil]); first | done | rfl) ?_
  with_reducible refine (laws_eqQuery.calls ke14 _ _ r8_0 _ _ r8_1 _ _ r8_0 _ _ r8_1 true _ (Kd.R_reads' O16_0.out).2.2 (Kd.R_reads' O16_0.out).2.1 (Kd.S_reads' O16_1.out).2.2 (Kd.S_reads' O16_1.out).2.1 (Kd.R_reads' O28_0.out).2.2 (Kd.R_reads' O28_0.out).2.1 (Kd.S_reads' O28_1.out).2.2 (Kd.S_reads' O28_1.out).2.1 Ee14.out).mono ?_
  rintro e w29_ ⟨rfl, hb⟩
  refine ⟨_, rfl, ?_⟩
  have Z29_ := Aside0.mk (show w28_.heap.size ≤ w29_.heap.size from hb.size)
  have n_ := Aside0.mk (Kd.R_below O8_0.out hb); clear O8_0; have O8_0 := n_; clear n_
  have n_ := Aside0.mk (Kd.R_below O9_0.out hb); clear O9_0; have O9_0 := n_; clear n_
  have n_ := Aside0.mk (Kd.S_below O9_1.out hb); clear O9_1; have O9_1 := n_; clear n_
  have n_ := Aside0.mk (Kd.R_below O10_0.out hb); clear O10_0; have O10_0 := n_; clear n_
  have n_ := Aside0.mk (Kd.S_below O10_1.out hb); clear O10_1; have O10_1 := n_; clear n_
  have n_ := Aside0.mk (Kd.R_below O11_0.out hb); clear O11_0; have O11_0 := n_; clear n_
  have n_ := Aside0.mk (Kd.R_below O13_0.out hb); clear O13_0; have O13_0 := n_; clear n_
  have n_ := Aside0.mk (Kd.R_below O16_0.out hb); clear O16_0; have O16_0 := n_; clear n_
  have n_ := Aside0.mk (Kd.S_below O16_1.out hb); clear O16_1; have O16_1 := n_; clear n_
  have n_ := Aside0.mk (Kd.R_below O19_0.out hb); clear O19_0; have O19_0 := n_; clear n_
  have n_ := Aside0.mk (Kd.S_below O19_1.out hb); clear O19_1; have O19_1 := n_; clear n_
  have n_ := Aside0.mk (Kd.R_below O22_0.out hb); clear O22_0; have O22_0 := n_; clear n_
  have n_ := Aside0.mk (Kd.R_below O25_0.out hb); clear O25_0; have O25_0 := n_; clear n_
  have n_ := Aside0.mk (Kd.R_below O28_0.out hb); clear O28_0; have O28_0 := n_; clear n_
  have n_ := Aside0.mk (Kd.S_below O28_1.out hb); clear O28_1; have O28_1 := n_; clear n_
  have n_ := Aside0.mk (blk_below Bg1.out hb); clear Bg1; have Bg1 := n_; clear n_
  have n_ := Aside0.mk (blk_below Bg2.out hb); clear Bg2; have Bg2 := n_; clear n_
  have n_ := Aside0.mk (blk_below Bg3.out hb); clear Bg3; have Bg3 := n_; clear n_
  have n_ := Aside0.mk (blk_below Bg12.out hb); clear Bg12; have Bg12 := n_; clear n_
  have n_ := Aside0.mk (blk_below Bg13.out hb); clear Bg13; have Bg13 := n_; clear n_
  have n_ := Aside0.mk (blk_below Bg14.out hb); clear Bg14; have Bg14 := n_; clear n_
  have n_ := Aside0.mk (below_step HB.out hb); clear HB; have HB := n_; clear n_
  have hxg1_0 : w29_.cell? ⟨g1, 0, none⟩ = some (.slice A0_0 l0_0.length c0_0) := (blk_cell Bg1.out 0).trans rfl
  have hfg1_0 := blk_frozen Bg1.out 0
  have hxg2_0 : w29_.cell? ⟨g2, 0, none⟩ = some (.slice A1_0 l1_0.length c1_0) := (blk_cell Bg2.out 0).trans rfl
  have hxg2_1 : w29_.cell? ⟨g2, 1, none⟩ = some (.slice A1_1 l1_1.length c1_1) := (blk_cell Bg2.out 1).trans rfl
  have hfg2_0 := blk_frozen Bg2.out 0
  have hfg2_1 := blk_frozen Bg2.out 1
  have hxg3_0 : w29_.cell? ⟨g3, 0, none⟩ = some (.slice A2_0 l2_0.length c2_0) := (blk_cell Bg3.out 0).trans rfl
  have hxg3_1 : w29_.cell? ⟨g3, 1, none⟩ = some (.slice A2_1 l2_1.length c2_1) := (blk_cell Bg3.out 1).trans rfl
  have hfg3_0 := blk_frozen Bg3.out 0
  have hfg3_1 := blk_frozen Bg3.out 1
  have hxg12_0 : w29_.cell? ⟨g12, 0, none⟩ = some (.slice A13_0_ r7_0.length c13_0_) := (blk_cell Bg12.out 0).trans rfl
  have hfg12_0 := blk_frozen Bg12.out 0
  have hxg13_0 : w29_.cell? ⟨g13, 0, none⟩ = some (.slice A16_0_ r8_0.length c16_0_) := (blk_cell Bg13.out 0).trans rfl
  have hxg13_1 : w29_.cell? ⟨g13, 1, none⟩ = some (.slice A16_1_ r8_1.length c16_1_) := (blk_cell Bg13.out 1).trans rfl
  have hfg13_0 := blk_frozen Bg13.out 0
  have hfg13_1 := blk_frozen Bg13.out 1
  have hxg14_0 : w29_.cell? ⟨g14, 0, none⟩ = some (.slice A19_0_ r9_0.length c19_0_) := (blk_cell Bg14.out 0).trans rfl
  have hxg14_1 : w29_.cell? ⟨g14, 1, none⟩ = some (.slice A19_1_ r9_1.length c19_1_) := (blk_cell Bg14.out 1).trans rfl
  have hfg14_0 := blk_frozen Bg14.out 0
  have hfg14_1 := blk_frozen Bg14.out 1
  clear hb
  clear hxg1_0
  clear hfg1_0
  clear hxg2_0
  clear hxg2_1
  clear hfg2_0
  clear hfg2_1
  clear hxg3_0
  clear hxg3_1
  clear hfg3_0
  clear hfg3_1
  clear hxg12_0
  clear hfg12_0
  clear hxg13_0
  clear hxg13_1
  clear hfg13_0
  clear hfg13_1
  clear hxg14_0
  clear hxg14_1
  clear hfg14_0
  clear hfg14_1
  refine hK.out _ _ ⟨(blk_cell Bg13.out 0).trans rfl, (blk_cell Bg13.out 1).trans rfl, (blk_cell Bg2.out 0).trans rfl, (blk_cell Bg2.out 1).trans rfl⟩ (fun hHeld => ?_)
  clear hK K
  refine norm_ (a' := ?_) ?_ ?_
  rotate_left
  · show Act.put _ (some 67) _ = _; simp only [Act.put, List.setIfInBounds_toArray, List.set_cons_zero, List.set_cons_succ, i64_w, i32_w]; rfl
  refine pure_ (i := 4) (N := some 68) (v := ?_) (a' := ?_) #[true,true,true,true,true] rfl rfl (by kernel_rfl) (fun _ _ _ h => h) (Or.inl ⟨by rfl, ?_⟩) ?_ ?_
  rotate_left
  · intro w'; go_simp; with_reducible rfl
  rotate_left
  · simp only [Act.put, List.setIfInBounds_toArray, List.set_cons_zero, List.set_cons_succ, i64_w, i32_w]; rfl
  refine done_ (by kernel_rfl) ?_
  have hxg1_0 : w29_.cell? ⟨g1, 0, none⟩ = some (.slice A0_0 l0_0.length c0_0) := (blk_cell Bg1.out 0).trans rfl
  have hfg1_0 := blk_frozen Bg1.out 0
  have hxg2_0 : w29_.cell? ⟨g2, 0, none⟩ = some (.slice A1_0 l1_0.length c1_0) := (blk_cell Bg2.out 0).trans rfl
  have hxg2_1 : w29_.cell? ⟨g2, 1, none⟩ = some (.slice A1_1 l1_1.length c1_1) := (blk_cell Bg2.out 1).trans rfl
  have hfg2_0 := blk_frozen Bg2.out 0
  have hfg2_1 := blk_frozen Bg2.out 1
  have hxg3_0 : w29_.cell? ⟨g3, 0, none⟩ = some (.slice A2_0 l2_0.length c2_0) := (blk_cell Bg3.out 0).trans rfl
  have hxg3_1 : w29_.cell? ⟨g3, 1, none⟩ = some (.slice A2_1 l2_1.length c2_1) := (blk_cell Bg3.out 1).trans rfl
  have hfg3_0 := blk_frozen Bg3.out 0
  have hfg3_1 := blk_frozen Bg3.out 1
  have hxg12_0 : w29_.cell? ⟨g12, 0, none⟩ = some (.slice A13_0_ r7_0.length c13_0_) := (blk_cell Bg12.out 0).trans rfl
  have hfg12_0 := blk_frozen Bg12.out 0
  have hxg13_0 : w29_.cell? ⟨g13, 0, none⟩ = some (.slice A16_0_ r8_0.length c16_0_) := (blk_cell Bg13.out 0).trans rfl
  have hxg13_1 : w29_.cell? ⟨g13, 1, none⟩ = some (.slice A16_1_ r8_1.length c16_1_) := (blk_cell Bg13.out 1).trans rfl
  have hfg13_0 := blk_frozen Bg13.out 0
  have hfg13_1 := blk_frozen Bg13.out 1
  have hxg14_0 : w29_.cell? ⟨g14, 0, none⟩ = some (.slice A19_0_ r9_0.length c19_0_) := (blk_cell Bg14.out 0).trans rfl
  have hxg14_1 : w29_.cell? ⟨g14, 1, none⟩ = some (.slice A19_1_ r9_1.length c19_1_) := (blk_cell Bg14.out 1).trans rfl
  have hfg14_0 := blk_frozen Bg14.out 0
  have hfg14_1 := blk_frozen Bg14.out 1
  try go_wp2_with fail
  have n_ := Aside0.mk (Kd.R_drew O8_0.out); clear O8_0; have O8_0 := n_; clear n_
  have n_ := Aside0.mk (Kd.R_drew O9_0.out); clear O9_0; have O9_0 := n_; clear n_
  have n_ := Aside0.mk (Kd.S_drew O9_1.out); clear O9_1; have O9_1 := n_; clear n_
  have n_ := Aside0.mk (Kd.R_drew O10_0.out); clear O10_0; have O10_0 := n_; clear n_
  have n_ := Aside0.mk (Kd.S_drew O10_1.out); clear O10_1; have O10_1 := n_; clear n_
  have n_ := Aside0.mk (Kd.R_drew O11_0.out); clear O11_0; have O11_0 := n_; clear n_
  have n_ := Aside0.mk (Kd.R_drew O13_0.out); clear O13_0; have O13_0 := n_; clear n_
  have n_ := Aside0.mk (Kd.R_drew O16_0.out); clear O16_0; have O16_0 := n_; clear n_
  have n_ := Aside0.mk (Kd.S_drew O16_1.out); clear O16_1; have O16_1 := n_; clear n_
  have n_ := Aside0.mk (Kd.R_drew O19_0.out); clear O19_0; have O19_0 := n_; clear n_
  have n_ := Aside0.mk (Kd.S_drew O19_1.out); clear O19_1; have O19_1 := n_; clear n_
  have n_ := Aside0.mk (Kd.R_drew O22_0.out); clear O22_0; have O22_0 := n_; clear n_
  have n_ := Aside0.mk (Kd.R_drew O25_0.out); clear O25_0; have O25_0 := n_; clear n_
  have n_ := Aside0.mk (Kd.R_drew O28_0.out); clear O28_0; have O28_0 := n_; clear n_
  have n_ := Aside0.mk (Kd.S_drew O28_1.out); clear O28_1; have O28_1 := n_; clear n_
  have n_ := Aside0.mk (blk_drew Bg1.out); clear Bg1; have Bg1 := n_; clear n_
  have n_ := Aside0.mk (blk_drew Bg2.out); clear Bg2; have Bg2 := n_; clear n_
  have n_ := Aside0.mk (blk_drew Bg3.out); clear Bg3; have Bg3 := n_; clear n_
  have n_ := Aside0.mk (blk_drew Bg12.out); clear Bg12; have Bg12 := n_; clear n_
  have n_ := Aside0.mk (blk_drew Bg13.out); clear Bg13; have Bg13 := n_; clear n_
  have n_ := Aside0.mk (blk_drew Bg14.out); clear Bg14; have Bg14 := n_; clear n_
  have n_ := Aside0.mk (below_drew1 HB.out); clear HB; have HB := n_; clear n_
  clear hxg1_0
  clear hfg1_0
  clear hxg2_0
  clear hxg2_1
  clear hfg2_0
  clear hfg2_1
  clear hxg3_0
  clear hxg3_1
  clear hfg3_0
  clear hfg3_1
  clear hxg12_0
  clear hfg12_0
  clear hxg13_0
  clear hxg13_1
  clear hfg13_0
  clear hfg13_1
  clear hxg14_0
  clear hxg14_1
  clear hfg14_0
  clear hfg14_1
  have hz := Aside0.mk (show w29_.heap.size ≤ w29_.drew.heap.size from Nat.le_refl _)
  refine start_ (n := 5) (S := fun w' => w'.cell? ⟨g14, 0, none⟩ = some (.slice A19_0_ r9_0.length c19_0_) ∧ w'.cell? ⟨g14, 1, none⟩ = some (.slice A19_1_ r9_1.length c19_1_) ∧ w'.cell? ⟨g3, 0, none⟩ = some (.slice A2_0 l2_0.length c2_0) ∧ w'.cell? ⟨g3, 1, none⟩ = some (.slice A2_1 l2_1.length c2_1)) (ds := []) #[false,false,false,false,false] (by kernel_rfl) rfl rfl ⟨(blk_cell Bg14.out 0).trans rfl, (blk_cell Bg14.out 1).trans rfl, (blk_cell Bg3.out 0).trans rfl, (blk_cell Bg3.out 1).trans rfl⟩ (fun hHeld => ?_)
  generalize w29_.drew = w30_ at O8_0 O9_0 O9_1 O10_0 O10_1 O11_0 O13_0 O16_0 O16_1 O19_0 O19_1 O22_0 O25_0 O28_0 O28_1 Bg1 Bg2 Bg3 Bg12 Bg13 Bg14 HB hz hHeld ⊢
  have Z30_ := hz; clear hz
  refine take_ (i := 0) (N := some 69) (v := ?_) (a' := ?_) #[true,false,false,false,false] rfl rfl (by kernel_rfl) (fun _ _ _ h => h) (Or.inl ⟨by rfl, ?_⟩) hHeld ?_ ?_
  rotate_left
  · rintro w' ⟨s0, s1, s2, s3⟩; go_simp; with_reducible rfl
  rotate_left
  · simp only [Act.put, List.setIfInBounds_toArray, List.set_cons_zero, List.set_cons_succ, i64_w, i32_w]; rfl
  refine take_ (i := 1) (N := some 70) (v := ?_) (a' := ?_) #[true,true,false,false,false] rfl rfl (by kernel_rfl) (fun _ _ _ h => h) (Or.inl ⟨by rfl, ?_⟩) hHeld ?_ ?_
  rotate_left
  · rintro w' ⟨s0, s1, s2, s3⟩; go_simp; with_reducible rfl
  rotate_left
  · simp only [Act.put, List.setIfInBounds_toArray, List.set_cons_zero, List.set_cons_succ, i64_w, i32_w]; rfl
  refine one_ (i := 2) (N := some 71) #[true,true,true,false,false] rfl rfl (by kernel_rfl) (by decide) (fun K hK => ?_)
  refine goes_ Try.func32 (by kernel_rfl) rfl #[.agg #[.slice A2_0 l2_0.length c2_0, .slice A2_1 l2_1.length c2_1]] (by rfl) rfl rfl (by (try simp only [List.map_toArray, List.map_cons, List.map_nil]); first | done | rfl) ?_
  with_reducible refine (laws_toQuery.calls ke9 _ _ l2_0 _ _ l2_1 r9_0 r9_1 _ (Kd.C_below H2_0.out HB.out) HC2_0.out (Kd.C_below H2_1.out HB.out) HC2_1.out Ee9.out).mono ?_
  rintro e w31_ ⟨v31_0_, v31_1_, rfl, ho0, ho1, hb⟩
  refine ⟨_, rfl, ?_⟩
  have O31_0 := Aside0.mk (newR ho0 HB.out.size)
  have O31_1 := Aside0.mk (newS ho1 HB.out.size)
  have Z31_ := Aside0.mk (show w30_.heap.size ≤ w31_.heap.size from hb.size)
  have n_ := Aside0.mk (Kd.R_below O8_0.out hb); clear O8_0; have O8_0 := n_; clear n_
  have n_ := Aside0.mk (Kd.R_below O9_0.out hb); clear O9_0; have O9_0 := n_; clear n_
  have n_ := Aside0.mk (Kd.S_below O9_1.out hb); clear O9_1; have O9_1 := n_; clear n_
  have n_ := Aside0.mk (Kd.R_below O10_0.out hb); clear O10_0; have O10_0 := n_; clear n_
  have n_ := Aside0.mk (Kd.S_below O10_1.out hb); clear O10_1; have O10_1 := n_; clear n_
  have n_ := Aside0.mk (Kd.R_below O11_0.out hb); clear O11_0; have O11_0 := n_; clear n_
  have n_ := Aside0.mk (Kd.R_below O13_0.out hb); clear O13_0; have O13_0 := n_; clear n_
  have n_ := Aside0.mk (Kd.R_below O16_0.out hb); clear O16_0; have O16_0 := n_; clear n_
  have n_ := Aside0.mk (Kd.S_below O16_1.out hb); clear O16_1; have O16_1 := n_; clear n_
  have n_ := Aside0.mk (Kd.R_below O19_0.out hb); clear O19_0; have O19_0 := n_; clear n_
  have n_ := Aside0.mk (Kd.S_below O19_1.out hb); clear O19_1; have O19_1 := n_; clear n_
  have n_ := Aside0.mk (Kd.R_below O22_0.out hb); clear O22_0; have O22_0 := n_; clear n_
  have n_ := Aside0.mk (Kd.R_below O25_0.out hb); clear O25_0; have O25_0 := n_; clear n_
  have n_ := Aside0.mk (Kd.R_below O28_0.out hb); clear O28_0; have O28_0 := n_; clear n_
  have n_ := Aside0.mk (Kd.S_below O28_1.out hb); clear O28_1; have O28_1 := n_; clear n_
  have n_ := Aside0.mk (blk_below Bg1.out hb); clear Bg1; have Bg1 := n_; clear n_
  have n_ := Aside0.mk (blk_below Bg2.out hb); clear Bg2; have Bg2 := n_; clear n_
  have n_ := Aside0.mk (blk_below Bg3.out hb); clear Bg3; have Bg3 := n_; clear n_
  have n_ := Aside0.mk (blk_below Bg12.out hb); clear Bg12; have Bg12 := n_; clear n_
  have n_ := Aside0.mk (blk_below Bg13.out hb); clear Bg13; have Bg13 := n_; clear n_
  have n_ := Aside0.mk (blk_below Bg14.out hb); clear Bg14; have Bg14 := n_; clear n_
  have n_ := Aside0.mk (below_step HB.out hb); clear HB; have HB := n_; clear n_
  have hxg1_0 : w31_.cell? ⟨g1, 0, none⟩ = some (.slice A0_0 l0_0.length c0_0) := (blk_cell Bg1.out 0).trans rfl
  have hfg1_0 := blk_frozen Bg1.out 0
  have hxg2_0 : w31_.cell? ⟨g2, 0, none⟩ = some (.slice A1_0 l1_0.length c1_0) := (blk_cell Bg2.out 0).trans rfl
  have hxg2_1 : w31_.cell? ⟨g2, 1, none⟩ = some (.slice A1_1 l1_1.length c1_1) := (blk_cell Bg2.out 1).trans rfl
  have hfg2_0 := blk_frozen Bg2.out 0
  have hfg2_1 := blk_frozen Bg2.out 1
  have hxg3_0 : w31_.cell? ⟨g3, 0, none⟩ = some (.slice A2_0 l2_0.length c2_0) := (blk_cell Bg3.out 0).trans rfl
  have hxg3_1 : w31_.cell? ⟨g3, 1, none⟩ = some (.slice A2_1 l2_1.length c2_1) := (blk_cell Bg3.out 1).trans rfl
  have hfg3_0 := blk_frozen Bg3.out 0
  have hfg3_1 := blk_frozen Bg3.out 1
  have hxg12_0 : w31_.cell? ⟨g12, 0, none⟩ = some (.slice A13_0_ r7_0.length c13_0_) := (blk_cell Bg12.out 0).trans rfl
  have hfg12_0 := blk_frozen Bg12.out 0
  have hxg13_0 : w31_.cell? ⟨g13, 0, none⟩ = some (.slice A16_0_ r8_0.length c16_0_) := (blk_cell Bg13.out 0).trans rfl
  have hxg13_1 : w31_.cell? ⟨g13, 1, none⟩ = some (.slice A16_1_ r8_1.length c16_1_) := (blk_cell Bg13.out 1).trans rfl
  have hfg13_0 := blk_frozen Bg13.out 0
  have hfg13_1 := blk_frozen Bg13.out 1
  have hxg14_0 : w31_.cell? ⟨g14, 0, none⟩ = some (.slice A19_0_ r9_0.length c19_0_) := (blk_cell Bg14.out 0).trans rfl
  have hxg14_1 : w31_.cell? ⟨g14, 1, none⟩ = some (.slice A19_1_ r9_1.length c19_1_) := (blk_cell Bg14.out 1).trans rfl
  have hfg14_0 := blk_frozen Bg14.out 0
  have hfg14_1 := blk_frozen Bg14.out 1
  clear hb ho0 ho1
  obtain ⟨A31_0_, c31_0_, eq_⟩ := Kd.R_slice O31_0.out
  subst eq_
  obtain ⟨A31_1_, c31_1_, eq_⟩ := Kd.S_slice O31_1.out
  subst eq_
  clear hxg1_0
  clear hfg1_0
  clear hxg2_0
  clear hxg2_1
  clear hfg2_0
  clear hfg2_1
  clear hxg3_0
  clear hxg3_1
  clear hfg3_0
  clear hfg3_1
  clear hxg12_0
  clear hfg12_0
  clear hxg13_0
  clear hxg13_1
  clear hfg13_0
  clear hfg13_1
  clear hxg14_0
  clear hxg14_1
  clear hfg14_0
  clear hfg14_1
  refine hK.out _ _ ⟨(blk_cell Bg14.out 0).trans rfl, (blk_cell Bg14.out 1).trans rfl, (blk_cell Bg3.out 0).trans rfl, (blk_cell Bg3.out 1).trans rfl⟩ (fun hHeld => ?_)
  clear hK K
  refine norm_ (a' := ?_) ?_ ?_
  rotate_left
  · show Act.put _ (some 71) _ = _; simp only [Act.put, List.setIfInBounds_toArray, List.set_cons_zero, List.set_cons_succ, i64_w, i32_w]; rfl
  refine one_ (i := 3) (N := some 72) #[true,true,true,true,false] rfl rfl (by kernel_rfl) (by decide) (fun K hK => ?_)
  refine goes_ Try.func34 (by kernel_rfl) rfl #[.agg #[.slice A19_0_ r9_0.length c19_0_, .slice A19_1_ r9_1.length c19_1_], .agg #[.slice A31_0_ r9_0.length c31_0_, .slice A31_1_ r9_1.length c31_1_]] (by rfl) rfl rfl (by (try simp only [List.map_toArray, List.map_cons, List.map_nil]); first | done | rfl) ?_
  with_reducible refine (laws_eqQuery.calls ke15 _ _ r9_0 _ _ r9_1 _ _ r9_0 _ _ r9_1 true _ (Kd.R_reads' O19_0.out).2.2 (Kd.R_reads' O19_0.out).2.1 (Kd.S_reads' O19_1.out).2.2 (Kd.S_reads' O19_1.out).2.1 (Kd.R_reads' O31_0.out).2.2 (Kd.R_reads' O31_0.out).2.1 (Kd.S_reads' O31_1.out).2.2 (Kd.S_reads' O31_1.out).2.1 Ee15.out).mono ?_
  rintro e w32_ ⟨rfl, hb⟩
  refine ⟨_, rfl, ?_⟩
  have Z32_ := Aside0.mk (show w31_.heap.size ≤ w32_.heap.size from hb.size)
  have n_ := Aside0.mk (Kd.R_below O8_0.out hb); clear O8_0; have O8_0 := n_; clear n_
  have n_ := Aside0.mk (Kd.R_below O9_0.out hb); clear O9_0; have O9_0 := n_; clear n_
  have n_ := Aside0.mk (Kd.S_below O9_1.out hb); clear O9_1; have O9_1 := n_; clear n_
  have n_ := Aside0.mk (Kd.R_below O10_0.out hb); clear O10_0; have O10_0 := n_; clear n_
  have n_ := Aside0.mk (Kd.S_below O10_1.out hb); clear O10_1; have O10_1 := n_; clear n_
  have n_ := Aside0.mk (Kd.R_below O11_0.out hb); clear O11_0; have O11_0 := n_; clear n_
  have n_ := Aside0.mk (Kd.R_below O13_0.out hb); clear O13_0; have O13_0 := n_; clear n_
  have n_ := Aside0.mk (Kd.R_below O16_0.out hb); clear O16_0; have O16_0 := n_; clear n_
  have n_ := Aside0.mk (Kd.S_below O16_1.out hb); clear O16_1; have O16_1 := n_; clear n_
  have n_ := Aside0.mk (Kd.R_below O19_0.out hb); clear O19_0; have O19_0 := n_; clear n_
  have n_ := Aside0.mk (Kd.S_below O19_1.out hb); clear O19_1; have O19_1 := n_; clear n_
  have n_ := Aside0.mk (Kd.R_below O22_0.out hb); clear O22_0; have O22_0 := n_; clear n_
  have n_ := Aside0.mk (Kd.R_below O25_0.out hb); clear O25_0; have O25_0 := n_; clear n_
  have n_ := Aside0.mk (Kd.R_below O28_0.out hb); clear O28_0; have O28_0 := n_; clear n_
  have n_ := Aside0.mk (Kd.S_below O28_1.out hb); clear O28_1; have O28_1 := n_; clear n_
  have n_ := Aside0.mk (Kd.R_below O31_0.out hb); clear O31_0; have O31_0 := n_; clear n_
  have n_ := Aside0.mk (Kd.S_below O31_1.out hb); clear O31_1; have O31_1 := n_; clear n_
  have n_ := Aside0.mk (blk_below Bg1.out hb); clear Bg1; have Bg1 := n_; clear n_
  have n_ := Aside0.mk (blk_below Bg2.out hb); clear Bg2; have Bg2 := n_; clear n_
  have n_ := Aside0.mk (blk_below Bg3.out hb); clear Bg3; have Bg3 := n_; clear n_
  have n_ := Aside0.mk (blk_below Bg12.out hb); clear Bg12; have Bg12 := n_; clear n_
  have n_ := Aside0.mk (blk_below Bg13.out hb); clear Bg13; have Bg13 := n_; clear n_
  have n_ := Aside0.mk (blk_below Bg14.out hb); clear Bg14; have Bg14 := n_; clear n_
  have n_ := Aside0.mk (below_step HB.out hb); clear HB; have HB := n_; clear n_
  have hxg1_0 : w32_.cell? ⟨g1, 0, none⟩ = some (.slice A0_0 l0_0.length c0_0) := (blk_cell Bg1.out 0).trans rfl
  have hfg1_0 := blk_frozen Bg1.out 0
  have hxg2_0 : w32_.cell? ⟨g2, 0, none⟩ = some (.slice A1_0 l1_0.length c1_0) := (blk_cell Bg2.out 0).trans rfl
  have hxg2_1 : w32_.cell? ⟨g2, 1, none⟩ = some (.slice A1_1 l1_1.length c1_1) := (blk_cell Bg2.out 1).trans rfl
  have hfg2_0 := blk_frozen Bg2.out 0
  have hfg2_1 := blk_frozen Bg2.out 1
  have hxg3_0 : w32_.cell? ⟨g3, 0, none⟩ = some (.slice A2_0 l2_0.length c2_0) := (blk_cell Bg3.out 0).trans rfl
  have hxg3_1 : w32_.cell? ⟨g3, 1, none⟩ = some (.slice A2_1 l2_1.length c2_1) := (blk_cell Bg3.out 1).trans rfl
  have hfg3_0 := blk_frozen Bg3.out 0
  have hfg3_1 := blk_frozen Bg3.out 1
  have hxg12_0 : w32_.cell? ⟨g12, 0, none⟩ = some (.slice A13_0_ r7_0.length c13_0_) := (blk_cell Bg12.out 0).trans rfl
  have hfg12_0 := blk_frozen Bg12.out 0
  have hxg13_0 : w32_.cell? ⟨g13, 0, none⟩ = some (.slice A16_0_ r8_0.length c16_0_) := (blk_cell Bg13.out 0).trans rfl
  have hxg13_1 : w32_.cell? ⟨g13, 1, none⟩ = some (.slice A16_1_ r8_1.length c16_1_) := (blk_cell Bg13.out 1).trans rfl
  have hfg13_0 := blk_frozen Bg13.out 0
  have hfg13_1 := blk_frozen Bg13.out 1
  have hxg14_0 : w32_.cell? ⟨g14, 0, none⟩ = some (.slice A19_0_ r9_0.length c19_0_) := (blk_cell Bg14.out 0).trans rfl
  have hxg14_1 : w32_.cell? ⟨g14, 1, none⟩ = some (.slice A19_1_ r9_1.length c19_1_) := (blk_cell Bg14.out 1).trans rfl
  have hfg14_0 := blk_frozen Bg14.out 0
  have hfg14_1 := blk_frozen Bg14.out 1
  clear hb
  clear hxg1_0
  clear hfg1_0
  clear hxg2_0
  clear hxg2_1
  clear hfg2_0
  clear hfg2_1
  clear hxg3_0
  clear hxg3_1
  clear hfg3_0
  clear hfg3_1
  clear hxg12_0
  clear hfg12_0
  clear hxg13_0
  clear hxg13_1
  clear hfg13_0
  clear hfg13_1
  clear hxg14_0
  clear hxg14_1
  clear hfg14_0
  clear hfg14_1
  refine hK.out _ _ ⟨(blk_cell Bg14.out 0).trans rfl, (blk_cell Bg14.out 1).trans rfl, (blk_cell Bg3.out 0).trans rfl, (blk_cell Bg3.out 1).trans rfl⟩ (fun hHeld => ?_)
  clear hK K
  refine norm_ (a' := ?_) ?_ ?_
  rotate_left
  · show Act.put _ (some 72) _ = _; simp only [Act.put, List.setIfInBounds_toArray, List.set_cons_zero, List.set_cons_succ, i64_w, i32_w]; rfl
  refine pure_ (i := 4) (N := some 73) (v := ?_) (a' := ?_) #[true,true,true,true,true] rfl rfl (by kernel_rfl) (fun _ _ _ h => h) (Or.inl ⟨by rfl, ?_⟩) ?_ ?_
  rotate_left
  · intro w'; go_simp; with_reducible rfl
  rotate_left
  · simp only [Act.put, List.setIfInBounds_toArray, List.set_cons_zero, List.set_cons_succ, i64_w, i32_w]; rfl
  refine done_ (by kernel_rfl) ?_
  have hxg1_0 : w32_.cell? ⟨g1, 0, none⟩ = some (.slice A0_0 l0_0.length c0_0) := (blk_cell Bg1.out 0).trans rfl
  have hfg1_0 := blk_frozen Bg1.out 0
  have hxg2_0 : w32_.cell? ⟨g2, 0, none⟩ = some (.slice A1_0 l1_0.length c1_0) := (blk_cell Bg2.out 0).trans rfl
  have hxg2_1 : w32_.cell? ⟨g2, 1, none⟩ = some (.slice A1_1 l1_1.length c1_1) := (blk_cell Bg2.out 1).trans rfl
  have hfg2_0 := blk_frozen Bg2.out 0
  have hfg2_1 := blk_frozen Bg2.out 1
  have hxg3_0 : w32_.cell? ⟨g3, 0, none⟩ = some (.slice A2_0 l2_0.length c2_0) := (blk_cell Bg3.out 0).trans rfl
  have hxg3_1 : w32_.cell? ⟨g3, 1, none⟩ = some (.slice A2_1 l2_1.length c2_1) := (blk_cell Bg3.out 1).trans rfl
  have hfg3_0 := blk_frozen Bg3.out 0
  have hfg3_1 := blk_frozen Bg3.out 1
  have hxg12_0 : w32_.cell? ⟨g12, 0, none⟩ = some (.slice A13_0_ r7_0.length c13_0_) := (blk_cell Bg12.out 0).trans rfl
  have hfg12_0 := blk_frozen Bg12.out 0
  have hxg13_0 : w32_.cell? ⟨g13, 0, none⟩ = some (.slice A16_0_ r8_0.length c16_0_) := (blk_cell Bg13.out 0).trans rfl
  have hxg13_1 : w32_.cell? ⟨g13, 1, none⟩ = some (.slice A16_1_ r8_1.length c16_1_) := (blk_cell Bg13.out 1).trans rfl
  have hfg13_0 := blk_frozen Bg13.out 0
  have hfg13_1 := blk_frozen Bg13.out 1
  have hxg14_0 : w32_.cell? ⟨g14, 0, none⟩ = some (.slice A19_0_ r9_0.length c19_0_) := (blk_cell Bg14.out 0).trans rfl
  have hxg14_1 : w32_.cell? ⟨g14, 1, none⟩ = some (.slice A19_1_ r9_1.length c19_1_) := (blk_cell Bg14.out 1).trans rfl
  have hfg14_0 := blk_frozen Bg14.out 0
  have hfg14_1 := blk_frozen Bg14.out 1
  go_wp2_with (first | (go_at_call 41; refine hold ?_))
  unfold Hold
  refine (laws_toIntS.calls ke10 _ _ l3 r10_0 _ (Kd.C_below H3.out HB.out) HC3.out Ee10.out).mono ?_
  rintro e w33_ ⟨v33_0_, rfl, ho0, hb⟩
  have O33_0 := Aside0.mk (newR ho0 HB.out.size)
  have Z33_ := Aside0.mk (show w32_.heap.size ≤ w33_.heap.size from hb.size)
  have n_ := Aside0.mk (Kd.R_below O8_0.out hb); clear O8_0; have O8_0 := n_; clear n_
  have n_ := Aside0.mk (Kd.R_below O9_0.out hb); clear O9_0; have O9_0 := n_; clear n_
  have n_ := Aside0.mk (Kd.S_below O9_1.out hb); clear O9_1; have O9_1 := n_; clear n_
  have n_ := Aside0.mk (Kd.R_below O10_0.out hb); clear O10_0; have O10_0 := n_; clear n_
  have n_ := Aside0.mk (Kd.S_below O10_1.out hb); clear O10_1; have O10_1 := n_; clear n_
  have n_ := Aside0.mk (Kd.R_below O11_0.out hb); clear O11_0; have O11_0 := n_; clear n_
  have n_ := Aside0.mk (Kd.R_below O13_0.out hb); clear O13_0; have O13_0 := n_; clear n_
  have n_ := Aside0.mk (Kd.R_below O16_0.out hb); clear O16_0; have O16_0 := n_; clear n_
  have n_ := Aside0.mk (Kd.S_below O16_1.out hb); clear O16_1; have O16_1 := n_; clear n_
  have n_ := Aside0.mk (Kd.R_below O19_0.out hb); clear O19_0; have O19_0 := n_; clear n_
  have n_ := Aside0.mk (Kd.S_below O19_1.out hb); clear O19_1; have O19_1 := n_; clear n_
  have n_ := Aside0.mk (Kd.R_below O22_0.out hb); clear O22_0; have O22_0 := n_; clear n_
  have n_ := Aside0.mk (Kd.R_below O25_0.out hb); clear O25_0; have O25_0 := n_; clear n_
  have n_ := Aside0.mk (Kd.R_below O28_0.out hb); clear O28_0; have O28_0 := n_; clear n_
  have n_ := Aside0.mk (Kd.S_below O28_1.out hb); clear O28_1; have O28_1 := n_; clear n_
  have n_ := Aside0.mk (Kd.R_below O31_0.out hb); clear O31_0; have O31_0 := n_; clear n_
  have n_ := Aside0.mk (Kd.S_below O31_1.out hb); clear O31_1; have O31_1 := n_; clear n_
  have n_ := Aside0.mk (blk_below Bg1.out hb); clear Bg1; have Bg1 := n_; clear n_
  have n_ := Aside0.mk (blk_below Bg2.out hb); clear Bg2; have Bg2 := n_; clear n_
  have n_ := Aside0.mk (blk_below Bg3.out hb); clear Bg3; have Bg3 := n_; clear n_
  have n_ := Aside0.mk (blk_below Bg12.out hb); clear Bg12; have Bg12 := n_; clear n_
  have n_ := Aside0.mk (blk_below Bg13.out hb); clear Bg13; have Bg13 := n_; clear n_
  have n_ := Aside0.mk (blk_below Bg14.out hb); clear Bg14; have Bg14 := n_; clear n_
  have n_ := Aside0.mk (below_step HB.out hb); clear HB; have HB := n_; clear n_
  clear hxg1_0
  clear hfg1_0
  clear hxg2_0
  clear hxg2_1
  clear hfg2_0
  clear hfg2_1
  clear hxg3_0
  clear hxg3_1
  clear hfg3_0
  clear hfg3_1
  clear hxg12_0
  clear hfg12_0
  clear hxg13_0
  clear hxg13_1
  clear hfg13_0
  clear hfg13_1
  clear hxg14_0
  clear hxg14_1
  clear hfg14_0
  clear hfg14_1
  have hxg1_0 : w33_.cell? ⟨g1, 0, none⟩ = some (.slice A0_0 l0_0.length c0_0) := (blk_cell Bg1.out 0).trans rfl
  have hfg1_0 := blk_frozen Bg1.out 0
  have hxg2_0 : w33_.cell? ⟨g2, 0, none⟩ = some (.slice A1_0 l1_0.length c1_0) := (blk_cell Bg2.out 0).trans rfl
  have hxg2_1 : w33_.cell? ⟨g2, 1, none⟩ = some (.slice A1_1 l1_1.length c1_1) := (blk_cell Bg2.out 1).trans rfl
  have hfg2_0 := blk_frozen Bg2.out 0
  have hfg2_1 := blk_frozen Bg2.out 1
  have hxg3_0 : w33_.cell? ⟨g3, 0, none⟩ = some (.slice A2_0 l2_0.length c2_0) := (blk_cell Bg3.out 0).trans rfl
  have hxg3_1 : w33_.cell? ⟨g3, 1, none⟩ = some (.slice A2_1 l2_1.length c2_1) := (blk_cell Bg3.out 1).trans rfl
  have hfg3_0 := blk_frozen Bg3.out 0
  have hfg3_1 := blk_frozen Bg3.out 1
  have hxg12_0 : w33_.cell? ⟨g12, 0, none⟩ = some (.slice A13_0_ r7_0.length c13_0_) := (blk_cell Bg12.out 0).trans rfl
  have hfg12_0 := blk_frozen Bg12.out 0
  have hxg13_0 : w33_.cell? ⟨g13, 0, none⟩ = some (.slice A16_0_ r8_0.length c16_0_) := (blk_cell Bg13.out 0).trans rfl
  have hxg13_1 : w33_.cell? ⟨g13, 1, none⟩ = some (.slice A16_1_ r8_1.length c16_1_) := (blk_cell Bg13.out 1).trans rfl
  have hfg13_0 := blk_frozen Bg13.out 0
  have hfg13_1 := blk_frozen Bg13.out 1
  have hxg14_0 : w33_.cell? ⟨g14, 0, none⟩ = some (.slice A19_0_ r9_0.length c19_0_) := (blk_cell Bg14.out 0).trans rfl
  have hxg14_1 : w33_.cell? ⟨g14, 1, none⟩ = some (.slice A19_1_ r9_1.length c19_1_) := (blk_cell Bg14.out 1).trans rfl
  have hfg14_0 := blk_frozen Bg14.out 0
  have hfg14_1 := blk_frozen Bg14.out 1
  clear hb ho0
  obtain ⟨A33_0_, c33_0_, eq_⟩ := Kd.R_slice O33_0.out
  subst eq_
  go_wp2_with (first | (go_at_call 43; refine hold ?_))
  unfold Hold
  refine (laws_eqIntS.calls ke16 _ _ r10_0 _ _ r10_0 true _ (Kd.R_reads' O22_0.out).2.2 (Kd.R_reads' O22_0.out).2.1 (Kd.R_reads' O33_0.out).2.2 (Kd.R_reads' O33_0.out).2.1 Ee16.out).mono ?_
  rintro e w34_ ⟨rfl, hd⟩
  have hb := hd.below; clear hd
  have Z34_ := Aside0.mk (show w33_.heap.size ≤ w34_.heap.size from hb.size)
  have n_ := Aside0.mk (Kd.R_below O8_0.out hb); clear O8_0; have O8_0 := n_; clear n_
  have n_ := Aside0.mk (Kd.R_below O9_0.out hb); clear O9_0; have O9_0 := n_; clear n_
  have n_ := Aside0.mk (Kd.S_below O9_1.out hb); clear O9_1; have O9_1 := n_; clear n_
  have n_ := Aside0.mk (Kd.R_below O10_0.out hb); clear O10_0; have O10_0 := n_; clear n_
  have n_ := Aside0.mk (Kd.S_below O10_1.out hb); clear O10_1; have O10_1 := n_; clear n_
  have n_ := Aside0.mk (Kd.R_below O11_0.out hb); clear O11_0; have O11_0 := n_; clear n_
  have n_ := Aside0.mk (Kd.R_below O13_0.out hb); clear O13_0; have O13_0 := n_; clear n_
  have n_ := Aside0.mk (Kd.R_below O16_0.out hb); clear O16_0; have O16_0 := n_; clear n_
  have n_ := Aside0.mk (Kd.S_below O16_1.out hb); clear O16_1; have O16_1 := n_; clear n_
  have n_ := Aside0.mk (Kd.R_below O19_0.out hb); clear O19_0; have O19_0 := n_; clear n_
  have n_ := Aside0.mk (Kd.S_below O19_1.out hb); clear O19_1; have O19_1 := n_; clear n_
  have n_ := Aside0.mk (Kd.R_below O22_0.out hb); clear O22_0; have O22_0 := n_; clear n_
  have n_ := Aside0.mk (Kd.R_below O25_0.out hb); clear O25_0; have O25_0 := n_; clear n_
  have n_ := Aside0.mk (Kd.R_below O28_0.out hb); clear O28_0; have O28_0 := n_; clear n_
  have n_ := Aside0.mk (Kd.S_below O28_1.out hb); clear O28_1; have O28_1 := n_; clear n_
  have n_ := Aside0.mk (Kd.R_below O31_0.out hb); clear O31_0; have O31_0 := n_; clear n_
  have n_ := Aside0.mk (Kd.S_below O31_1.out hb); clear O31_1; have O31_1 := n_; clear n_
  have n_ := Aside0.mk (Kd.R_below O33_0.out hb); clear O33_0; have O33_0 := n_; clear n_
  have n_ := Aside0.mk (blk_below Bg1.out hb); clear Bg1; have Bg1 := n_; clear n_
  have n_ := Aside0.mk (blk_below Bg2.out hb); clear Bg2; have Bg2 := n_; clear n_
  have n_ := Aside0.mk (blk_below Bg3.out hb); clear Bg3; have Bg3 := n_; clear n_
  have n_ := Aside0.mk (blk_below Bg12.out hb); clear Bg12; have Bg12 := n_; clear n_
  have n_ := Aside0.mk (blk_below Bg13.out hb); clear Bg13; have Bg13 := n_; clear n_
  have n_ := Aside0.mk (blk_below Bg14.out hb); clear Bg14; have Bg14 := n_; clear n_
  have n_ := Aside0.mk (below_step HB.out hb); clear HB; have HB := n_; clear n_
  clear hxg1_0
  clear hfg1_0
  clear hxg2_0
  clear hxg2_1
  clear hfg2_0
  clear hfg2_1
  clear hxg3_0
  clear hxg3_1
  clear hfg3_0
  clear hfg3_1
  clear hxg12_0
  clear hfg12_0
  clear hxg13_0
  clear hxg13_1
  clear hfg13_0
  clear hfg13_1
  clear hxg14_0
  clear hxg14_1
  clear hfg14_0
  clear hfg14_1
  have hxg1_0 : w34_.cell? ⟨g1, 0, none⟩ = some (.slice A0_0 l0_0.length c0_0) := (blk_cell Bg1.out 0).trans rfl
  have hfg1_0 := blk_frozen Bg1.out 0
  have hxg2_0 : w34_.cell? ⟨g2, 0, none⟩ = some (.slice A1_0 l1_0.length c1_0) := (blk_cell Bg2.out 0).trans rfl
  have hxg2_1 : w34_.cell? ⟨g2, 1, none⟩ = some (.slice A1_1 l1_1.length c1_1) := (blk_cell Bg2.out 1).trans rfl
  have hfg2_0 := blk_frozen Bg2.out 0
  have hfg2_1 := blk_frozen Bg2.out 1
  have hxg3_0 : w34_.cell? ⟨g3, 0, none⟩ = some (.slice A2_0 l2_0.length c2_0) := (blk_cell Bg3.out 0).trans rfl
  have hxg3_1 : w34_.cell? ⟨g3, 1, none⟩ = some (.slice A2_1 l2_1.length c2_1) := (blk_cell Bg3.out 1).trans rfl
  have hfg3_0 := blk_frozen Bg3.out 0
  have hfg3_1 := blk_frozen Bg3.out 1
  have hxg12_0 : w34_.cell? ⟨g12, 0, none⟩ = some (.slice A13_0_ r7_0.length c13_0_) := (blk_cell Bg12.out 0).trans rfl
  have hfg12_0 := blk_frozen Bg12.out 0
  have hxg13_0 : w34_.cell? ⟨g13, 0, none⟩ = some (.slice A16_0_ r8_0.length c16_0_) := (blk_cell Bg13.out 0).trans rfl
  have hxg13_1 : w34_.cell? ⟨g13, 1, none⟩ = some (.slice A16_1_ r8_1.length c16_1_) := (blk_cell Bg13.out 1).trans rfl
  have hfg13_0 := blk_frozen Bg13.out 0
  have hfg13_1 := blk_frozen Bg13.out 1
  have hxg14_0 : w34_.cell? ⟨g14, 0, none⟩ = some (.slice A19_0_ r9_0.length c19_0_) := (blk_cell Bg14.out 0).trans rfl
  have hxg14_1 : w34_.cell? ⟨g14, 1, none⟩ = some (.slice A19_1_ r9_1.length c19_1_) := (blk_cell Bg14.out 1).trans rfl
  have hfg14_0 := blk_frozen Bg14.out 0
  have hfg14_1 := blk_frozen Bg14.out 1
  clear hb
  go_wp2
  go_ret
  exact ⟨rfl, HB.out⟩
theorem FnExactIsMapping_calls (A0_0 : Option Addr) (c0_0 : Nat) (l0_0 : List Int) (A1_0 : Option Addr) (c1_0 : Nat) (l1_0 : List Int) (A1_1 : Option Addr) (c1_1 : Nat) (l1_1 : List S124) (A2_0 : Option Addr) (c2_0 : Nat) (l2_0 : List Int) (A2_1 : Option Addr) (c2_1 : Nat) (l2_1 : List S124) (A3 : Option Addr) (c3 : Nat) (l3 : List Int) (w : World) (hr0_0 : Kd.C (Kd.int .i64) w A0_0 l0_0.length l0_0) (hc0_0 : l0_0.length ≤ c0_0) (hr1_0 : Kd.C (Kd.int .i64) w A1_0 l1_0.length l1_0) (hc1_0 : l1_0.length ≤ c1_0) (hr1_1 : Kd.C k124 w A1_1 l1_1.length l1_1) (hc1_1 : l1_1.length ≤ c1_1) (hr2_0 : Kd.C (Kd.int .i64) w A2_0 l2_0.length l2_0) (hc2_0 : l2_0.length ≤ c2_0) (hr2_1 : Kd.C k124 w A2_1 l2_1.length l2_1) (hc2_1 : l2_1.length ≤ c2_1) (hr3 : Kd.C (Kd.int .i64) w A3 l3.length l3) (hc3 : l3.length ≤ c3)
    (w0 : (WfL WfI) l0_0) (w1 : (WfL WfI) l1_0 ∧ (WfL (fun x : S124 => WfI x.f0 ∧ (WfL WfI) x.f1)) l1_1) (w2 : (WfL WfI) l2_0 ∧ (WfL (fun x : S124 => WfI x.f0 ∧ (WfL WfI) x.f1)) l2_1) (_w3 : (WfL WfI) l3) :
    Calls Try.prog 9 #[.agg #[.slice A0_0 l0_0.length c0_0], .agg #[.slice A1_0 l1_0.length c1_0, .slice A1_1 l1_1.length c1_1], .agg #[.slice A2_0 l2_0.length c2_0, .slice A2_1 l2_1.length c2_1], .slice A3 l3.length c3] w fun e w' => e = .returned (.bool true) ∧ Below w.heap.size w w' := by
  by_cases hb : (l3.length : Int) > 1048576
  · exact laws_FnExactIsMapping_out0 _ _ _ _ _ _ _ _ _ _ _ _ _ _ _ _ _ _ w hr0_0 hc0_0 hr1_0 hc1_0 hr1_1 hc1_1 hr2_0 hc2_0 hr2_1 hc2_1 hr3 hc3 hb
  obtain ⟨t0, z0, c0⟩ := szSchema_ok l0_0 1048576 w0 (by omega) (by omega)
  obtain ⟨_, z0⟩ := z0.rounds
  rcases c0 with c0 | ⟨p0, q0, hs0⟩
  · exact laws_FnExactIsMapping_out1 _ _ _ _ _ _ _ _ _ _ _ _ _ _ _ _ _ _ w hr0_0 hc0_0 hr1_0 hc1_0 hr1_1 hc1_1 hr2_0 hc2_0 hr2_1 hc2_1 hr3 hc3 _ hb z0 c0
  obtain ⟨t1, z1, c1⟩ := szQuery_ok l1_0 l1_1 t0 w1 (by omega) (by omega)
  rcases c1 with c1 | ⟨p1, q1, hs1⟩
  · exact laws_FnExactIsMapping_out2 _ _ _ _ _ _ _ _ _ _ _ _ _ _ _ _ _ _ w hr0_0 hc0_0 hr1_0 hc1_0 hr1_1 hc1_1 hr2_0 hc2_0 hr2_1 hc2_1 hr3 hc3 _ _ hb z0 (by omega) z1.rounds c1
  obtain ⟨t2, z2, c2⟩ := szQuery_ok l2_0 l2_1 t1 w2 (by omega) (by omega)
  rcases c2 with c2 | ⟨p2, q2, hs2⟩
  · exact laws_FnExactIsMapping_out3 _ _ _ _ _ _ _ _ _ _ _ _ _ _ _ _ _ _ w hr0_0 hc0_0 hr1_0 hc1_0 hr1_1 hc1_1 hr2_0 hc2_0 hr2_1 hc2_1 hr3 hc3 _ _ _ hb z0 (by omega) z1.rounds (by omega) z2.rounds c2
  have d1 : (l1_1.map cvA).length ≤ 1048576 := by simpa using hs1.2.1
  have s1 := cvA_small hs1.2.2
  have d2 : (l2_1.map cvA).length ≤ 1048576 := by simpa using hs2.2.1
  have s2 := cvA_small hs2.2.2
  exact laws_FnExactIsMapping_walk _ _ _ _ _ _ _ _ _ _ _ _ _ _ _ _ _ _ w hr0_0 hc0_0 hr1_0 hc1_0 hr1_1 hc1_1 hr2_0 hc2_0 hr2_1 hc2_1 hr3 hc3 _ _ _ _ _ _ _ _ _ _ hb z0 (by omega) z1.rounds (by omega) z2.rounds (by omega)
    (toSchema_ev l0_0 (by omega)).rounds (toQuery_ev l1_0 l1_1 hs1.1 hs1.2.1 hs1.2.2).rounds (toQuery_ev l2_0 l2_1 hs2.1 hs2.2.1 hs2.2.2).rounds (toIntS_ev l3 (by omega)).rounds
    (specIsMapping_ev l0_0 l1_0 (l1_1.map cvA) l2_0 (l2_1.map cvA) l3 (by omega) (by omega) hs1.1 d1 s1 hs2.1 d2 s2).rounds rfl ⟨⟨by omega, hs1.1, d1, hs2.1, d2, by omega⟩, s1, s2⟩
    (by have e := eqSchema_ev l0_0 l0_0 (by omega); rw [decide_eq_true rfl] at e; exact e.rounds) (eqQuery_ev _ _ hs1.1 d1 s1).rounds (eqQuery_ev _ _ hs2.1 d2 s2).rounds (by have e := eqIntS_ev l3 l3 (by omega); rw [decide_eq_true rfl] at e; exact e.rounds)


end Go.Proofs.Ytanbgnjfllpkgaa.Hand
