/- Walks through Go functions that FnExactIsEquivalent reaches, by hand: each call returns what is said beside it, within the bounds that the theorem names. -/
import Derived.Test.YtanbgnjfllpkgaaQFnExactIsEquivalentx0
import Derived.Test.YtanbgnjfllpkgaaQFnExactIsEquivalentx1
import Derived.Test.YtanbgnjfllpkgaaQFnExactIsEquivalentx2
import Derived.Test.YtanbgnjfllpkgaaQFnExactIsEquivalentx3
import Derived.Test.YtanbgnjfllpkgaaQFnExactIsEquivalentx4
import Derived.Test.YtanbgnjfllpkgaaQFnExactIsEquivalentx5
import Derived.Test.YtanbgnjfllpkgaaQFnExactIsEquivalentx6
import Derived.Test.YtanbgnjfllpkgaaQFnExactIsEquivalentx7
import Derived.Test.YtanbgnjfllpkgaaQFnExactIsEquivalentx8
import Derived.Test.YtanbgnjfllpkgaaQFnExactIsEquivalentx9
import Derived.Test.YtanbgnjfllpkgaaVFnExactIsEquivalentMine
import Derived.Test.YtanbgnjfllpkgaaPureFnExactIsEquivalent
set_option linter.unusedVariables false
set_option linter.unusedSimpArgs false
namespace Go.Proofs.Ytanbgnjfllpkgaa.Hand
open Go.RowKit Go.Proofs.Ytanbgnjfllpkgaa.QFnExactIsEquivalent Go.Proofs.YtanbgnjfllpkgaaW.PrintWords Go.Proofs.YtanbgnjfllpkgaaW.PrintLast Go.Proofs.YtanbgnjfllpkgaaW.PrintMore Go.Proofs.Ytanbgnjfllpkgaa.Mine Go.Proofs.Ytanbgnjfllpkgaa.Open Go.Proofs.Ytanbgnjfllpkgaa.Pure
attribute [local go_sem] max2_int min2_int max_two min_two max_three min_three max_four min_four

/-- A goal that the walk leaves alone. -/
def Hold (p : Prop) : Prop := p
theorem hold {p : Prop} (h : Hold p) : p := h
theorem newR {α : Type} {d : Kd α} {e B : Nat} {W w1 : World} {ok : Nat → Prop} {v : Value} {xs : List α} (h : d.R e w1 W.heap.size ok v xs) (hB : B ≤ W.heap.size) : d.R e w1 B (fun k => (W.heap.size ≤ k ∧ k < w1.heap.size) ∧ ok k) v xs :=
  Kd.R_lower (Kd.R_mono (Kd.R_bound h) (fun _ hk => ⟨⟨hk.2.1, hk.2.2.1⟩, hk.1⟩)) hB
theorem newS {α : Type} {d : Kd α} {e B : Nat} {W w1 : World} {ok : Nat → Prop} {v : Value} {xs : List α} (h : Kd.S d e w1 W.heap.size ok v xs) (hB : B ≤ W.heap.size) : Kd.S d e w1 B (fun k => (W.heap.size ≤ k ∧ k < w1.heap.size) ∧ ok k) v xs :=
  Kd.S_lower (Kd.S_mono (Kd.S_bound h) (fun _ hk => ⟨⟨hk.2.1, hk.2.2.1⟩, hk.1⟩)) hB
/-- A box stored into. -/
theorem kept_two {w : World} {g : Nat} (a b : Value) : Kept w ((w.setCell ⟨g, 0, none⟩ a).setCell ⟨g, 1, none⟩ b) (fun k => k = g) :=
  ((Kept.refl w (fun k => k = g)).setCell (.inl rfl) a).setCell (.inl rfl) b
theorem kept_one {w : World} {g : Nat} (a : Value) : Kept w (w.setCell ⟨g, 0, none⟩ a) (fun k => k = g) := (Kept.refl w (fun k => k = g)).setCell (.inl rfl) a
/-- A call of a closure. -/
theorem goesC_ {P : Program} {ops : Array Oper} {Q : Exit → Act → World → Prop} {oi : Oper} {N : Option Tmp} {a : Act} {w : World} {K : Act → World → Prop} {f : FuncId} {fn : Func} {p : Operand} {as_ : Array Operand} {ts : Array TypeId} (hf : P.funcs[f]? = some fn) (hname : (fn.name == "runtime.NumGoroutine") = false) (hb : fn.body.isSome = true) (first cap args : Array Value)
    (hw : Region.wanted oi (yielded ops a.tmps) = true) (hN : oi.dst = N) (hop : oi.op = .call { callee := .value p, args := as_, argTypes := ts }) (hv : a.eval p = .func (.func f) first cap) (hargs : (first ++ as_.map a.eval) ++ cap = args)
    (h : Calls P f args w fun e w' => ∃ v, e = .returned v ∧ K (a.put N v) w') : if Region.wanted oi (yielded ops a.tmps) = true then Oper.wp P oi a w K Q else K (a.put N undef) w := by
  refine call_ f args hw hN ?_ h
  have he := enters_ hf hname hb args w
  unfold execOp
  simp [hop, resolve, hv, Deferred.ofValue, invoke, hargs, he]

/-- What stands while a body is searched. -/
structure StL (w : World) (gf gt ga : Nat) (f0 f1 t0 t1 a0 a1 : Value) (W : World) : Prop where
  bf : W.heap[gf]? = some (.cells #[f0, f1] 46 (0, 0))
  bt : W.heap[gt]? = some (.cells #[t0, t1] 46 (0, 0))
  ba : W.heap[ga]? = some (.cells #[a0, a1] 97 (0, 0))
  hb : Below w.heap.size w W
theorem StL.below {w : World} {gf gt ga : Nat} {f0 f1 t0 t1 a0 a1 : Value} {W W2 : World} (h : StL w gf gt ga f0 f1 t0 t1 a0 a1 W) (hb : Below W.heap.size W W2) : StL w gf gt ga f0 f1 t0 t1 a0 a1 W2 :=
  ⟨blk_below h.bf hb, blk_below h.bt hb, blk_below h.ba hb, below_step h.hb hb⟩
theorem findSome_drop {α β : Type} (l : List α) (f : α → Option β) (i : Nat) (h : i < l.length) : (l.drop i).findSome? f = ((f l[i]).or ((l.drop (i + 1)).findSome? f)) := by
  rw [List.drop_eq_getElem_cons h, List.findSome?_cons]
  cases f l[i] <;> rfl
set_option maxHeartbeats 8000000 in
set_option maxRecDepth 100000 in
theorem l7Search_walk (Ah : Option Addr) (nh ch : Nat) (A1 : Option Addr) (c1 : Nat) (l1 : List S97) (Ai : Option Addr) (ni ci : Nat) (A2 : Option Addr) (c2 : Nat) (l2 : List S97) (hz : (l1.length ≤ 1048576 ∧ l2.length ≤ 1048576) ∧ (∀ x ∈ l1, x.f1.length ≤ 1048576) ∧ ∀ a ∈ l1, okTs a.f1) :
    ∀ (rest pre : List S97), l1 = pre ++ rest → ∀ (A3 : Option Addr) (c3 : Nat) (m : List Int) (w : World), m.length = 20 → m.length ≤ c3 → Kd.C (Kd.int .i64) w A3 m.length m → Kd.C k97 w A1 l1.length l1 → Kd.C k97 w A2 l2.length l2 →
    Calls Try.prog 136 #[.agg #[.slice Ah nh ch, .slice A1 l1.length c1], .agg #[.slice Ai ni ci, .slice A2 l2.length c2], .int .i64 (pre.length : Int), .slice A3 m.length c3] w fun e w' => ∃ (A : Option Addr) (c : Nat) (ys : List Int) (b : Bool), e = .returned (.tuple #[.slice A ys.length c, .bool b]) ∧ (Kd.C (Kd.int .i64) w' A ys.length ys ∧ ys.length ≤ c ∧ ys.length = 20) ∧ ((b = true ∧ mTry l2 rest m = some ys) ∨ (b = false ∧ mTry l2 rest m = none)) ∧ Below w.heap.size w w' := by
  intro rest
  induction rest with
  | nil =>
    intro pre he A3 c3 m w hm hc3 hr3 hr1 hr2
    have hu46 := Try.underlying46
    have hu97 := Try.underlying97
    have HZ := Aside0.mk hz
    have HE := Aside0.mk he
    have HM := Aside0.mk hm
    have HC3 := Aside0.mk hc3
    have R3 := Aside0.mk hr3
    have R1 := Aside0.mk hr1
    have R2 := Aside0.mk hr2
    have HB := Aside0.mk (Below.refl w.heap.size w)
    clear hm hc3 hr3 hr1 hr2 he hz
    have e1 : (pre.length : Int) = (l1.length : Int) := by have h := HE.out; rw [h]; simp
    go_enter Try.func136, Try.ntmps136
    go_wp2_with (first | ((with_reducible refine gate_dst (N := 4) rfl ?_); refine hold ?_))
    unfold Hold
    refine box_event ?hg0 (N := 4) ?hd0 (cs := #[.slice Ah nh ch, .slice A1 l1.length c1]) (t := 46) ?hr0 ?_
    case hd0 => rfl
    case hg0 => rfl
    case hr0 => first | (go_simp; done) | (go_simp; rfl)
    intro gf hg w1 hbox hb
    have BF := Aside0.mk hbox
    replace HB := Aside0.mk (below_step HB.out hb)
    clear hbox hb hg
    go_wp2_with (first | ((with_reducible refine gate_dst (N := 5) rfl ?_); refine hold ?_))
    unfold Hold
    refine box_event ?hg1 (N := 5) ?hd1 (cs := #[.slice Ai ni ci, .slice A2 l2.length c2]) (t := 46) ?hr1 ?_
    case hd1 => rfl
    case hg1 => rfl
    case hr1 => first | (go_simp; done) | (go_simp; rfl)
    intro gt hg w2 hbox hb
    have BT := Aside0.mk hbox
    replace BF := Aside0.mk (blk_below BF.out hb)
    replace HB := Aside0.mk (below_step HB.out hb)
    clear hbox hb hg
    have hx1 : w2.cell? ⟨gf, 1, none⟩ = some (.slice A1 l1.length c1) := (blk_cell BF.out 1).trans rfl
    have e2 : ((pre.length : Int) == (l1.length : Int)) = true := beq_iff_eq.mpr e1
    have e3 : decide ((pre.length : Int) = (l1.length : Int)) = true := decide_eq_true e1
    clear e1
    go_wp2
    go_ret2
    exact ⟨A3, c3, m, true, rfl, ⟨Kd.C_below R3.out HB.out, HC3.out, HM.out⟩, .inl ⟨rfl, rfl⟩, HB.out⟩
  | cons a rest ih =>
    intro pre he A3 c3 m w hm hc3 hr3 hr1 hr2
    have hu46 := Try.underlying46
    have hu97 := Try.underlying97
    have HZ := Aside0.mk hz
    have HE := Aside0.mk he
    have HM := Aside0.mk hm
    have HC3 := Aside0.mk hc3
    have R3 := Aside0.mk hr3
    have R1 := Aside0.mk hr1
    have R2 := Aside0.mk hr2
    have HB := Aside0.mk (Below.refl w.heap.size w)
    clear hm hc3 hr3 hr1 hr2 he hz
    have HI := Aside0.mk ih
    clear ih
    have HLT := Aside0.mk (show (pre.length : Int) < (l1.length : Int) from lt_of HE.out)
    have HRD := Aside0.mk (show rd_T97 l1 (pre.length : Int) = a from rdIA_of HE.out)
    have HIN := Aside0.mk (show a ∈ l1 from by rw [HE.out]; simp)
    have HP := Aside0.mk (show (pre ++ [a]).length = pre.length + 1 from by simp)
    have HPE := Aside0.mk (show l1 = (pre ++ [a]) ++ rest from by rw [HE.out]; simp)
    obtain ⟨ad1, Aa, ca, e_, hxa0, hxa1, hla, hia⟩ := at_T97 R1.out (pre.length : Int) (by omega) HLT.out
    cases e_
    rw [HRD.out] at hxa0 hxa1 hla hia
    have IA := Aside0.mk hia
    have LA := Aside0.mk hla
    clear hla hia
    have p5 := eq_true (show 0 ≤ (pre.length : Int) by omega)
    have q5 := eq_true HLT.out
    generalize hi_ : (pre.length : Int) = ix at hxa0 hxa1 p5 q5 HLT ⊢
    have HIX := Aside0.mk hi_
    clear hi_
    have ne1 : (ix == (l1.length : Int)) = false := beq_eq_false_iff_ne.mpr (by have h := HLT.out; omega)
    have ne2 : decide (ix = (l1.length : Int)) = false := decide_eq_false (by have h := HLT.out; omega)
    go_enter Try.func136, Try.ntmps136
    go_wp2_with (first | ((with_reducible refine gate_dst (N := 4) rfl ?_); refine hold ?_))
    unfold Hold
    refine box_event ?hg0 (N := 4) ?hd0 (cs := #[.slice Ah nh ch, .slice (some ad1) l1.length c1]) (t := 46) ?hr0 ?_
    case hd0 => rfl
    case hg0 => rfl
    case hr0 => first | (go_simp; done) | (go_simp; rfl)
    intro gf hg w1 hbox hb
    have BF := Aside0.mk hbox
    replace HB := Aside0.mk (below_step HB.out hb)
    replace hxa0 := (hb.cell (World.block_lt_of_cell? _ _ hxa0)).trans hxa0
    replace hxa1 := (hb.cell (World.block_lt_of_cell? _ _ hxa1)).trans hxa1
    clear hbox hb hg
    go_wp2_with (first | ((with_reducible refine gate_dst (N := 5) rfl ?_); refine hold ?_))
    unfold Hold
    refine box_event ?hg1 (N := 5) ?hd1 (cs := #[.slice Ai ni ci, .slice A2 l2.length c2]) (t := 46) ?hr1 ?_
    case hd1 => rfl
    case hg1 => rfl
    case hr1 => first | (go_simp; done) | (go_simp; rfl)
    intro gt hg w2 hbox hb
    have BT := Aside0.mk hbox
    replace BF := Aside0.mk (blk_below BF.out hb)
    replace HB := Aside0.mk (below_step HB.out hb)
    replace hxa0 := (hb.cell (World.block_lt_of_cell? _ _ hxa0)).trans hxa0
    replace hxa1 := (hb.cell (World.block_lt_of_cell? _ _ hxa1)).trans hxa1
    clear hbox hb hg
    have hx1 : w2.cell? ⟨gf, 1, none⟩ = some (.slice (some ad1) l1.length c1) := (blk_cell BF.out 1).trans rfl
    go_wp2_with (first | ((with_reducible refine gate_dst (N := 10) rfl ?_); refine hold ?_))
    unfold Hold
    refine box_event ?hg2 (N := 10) ?hd2 (cs := #[.int .i64 0, .slice none 0 0]) (t := 97) ?hr2 ?_
    case hd2 => rfl
    case hg2 => rfl
    case hr2 => first | (go_simp; done) | (go_simp; rfl)
    intro ga hg w3 hbox hb
    have BA_ := Aside0.mk hbox
    have HG_ := Aside0.mk hg
    have HB5 := Aside0.mk hb
    clear hbox hg hb
    have hy0 : w3.cell? ⟨ga, 0, none⟩ = some (.int .i64 0) := (blk_cell BA_.out 0).trans rfl
    have hy1 : w3.cell? ⟨ga, 1, none⟩ = some (.slice none 0 0) := (blk_cell BA_.out 1).trans rfl
    have hf0 := blk_frozen BA_.out 0
    have hf1 := blk_frozen BA_.out 1
    go_wp2_with (first | ((with_reducible refine gate_store (t := 97) (p := 10) rfl ?_); refine hold ?_))
    unfold Hold
    refine store_event (t := 97) (p := 10) (v := ?vo_2) (w1 := ((w3.setCell ⟨ga, 0, none⟩ (.int .i64 a.f0)).setCell ⟨ga, 1, none⟩ (.slice Aa a.f1.length ca))) ?hgs2 ?ho2 ?hn2 ?hrs2 ?_
    case ho2 => rfl
    case hgs2 => rfl
    case hn2 => rfl
    case hrs2 => first | (go_simp; done) | (go_simp; rfl)
    intro w4 hw
    have hb : Below w2.heap.size w2 w4 := by rw [hw]; exact (below_set (below_set HB5.out (by rw [HG_.out]; exact Nat.le_refl _)) (by rw [HG_.out]; exact Nat.le_refl _))
    have BN := Aside0.mk (show w4.heap[ga]? = some (.cells #[.int .i64 a.f0, .slice Aa a.f1.length ca] 97 (0, 0)) from by rw [hw]; exact (blk_put (cs := #[.int .i64 a.f0, .slice none 0 0]) (blk_put (cs := #[.int .i64 0, .slice none 0 0]) BA_.out 0 _ rfl) 1 _ rfl))
    have ST := Aside0.mk (show StL w gf gt ga (.slice Ah nh ch) (.slice (some ad1) l1.length c1) (.slice Ai ni ci) (.slice A2 l2.length c2) (.int .i64 a.f0) (.slice Aa a.f1.length ca) w4 from ⟨blk_below BF.out hb, blk_below BT.out hb, BN.out, below_step HB.out hb⟩)
    clear hw hb HB5 HG_ BA_ hy0 hf0 hy1 hf1
    clear BN BF BT HB hx1 hxa0 hxa1
    have hx1 : w4.cell? ⟨gt, 1, none⟩ = some (.slice A2 l2.length c2) := (blk_cell ST.out.bt 1).trans rfl
    go_wp2
    go_loopg [11] l2.length (fun kq v11 w' => ∃ x : Int, v11 = .int .i64 x ∧ Aside0 (0 ≤ x ∧ kq + x.toNat = l2.length) ∧ Aside0 ((l2.drop x.toNat).findSome? (fun b => if a.f0 = b.f0 ∧ a.f1.length = b.f1.length ∧ (mUni a.f1 b.f1 m).2 = true then mTry l2 rest (mUni a.f1 b.f1 m).1 else none) = l2.findSome? (fun b => if a.f0 = b.f0 ∧ a.f1.length = b.f1.length ∧ (mUni a.f1 b.f1 m).2 = true then mTry l2 rest (mUni a.f1 b.f1 m).1 else none)) ∧ Aside0 (StL w gf gt ga (.slice Ah nh ch) (.slice (some ad1) l1.length c1) (.slice Ai ni ci) (.slice A2 l2.length c2) (.int .i64 a.f0) (.slice Aa a.f1.length ca) w'))
    case atStart => exact ⟨0, rfl, ⟨⟨Int.le_refl _, rfl⟩⟩, ⟨by rw [show (0 : Int).toNat = 0 from rfl, List.drop_zero]⟩, ST⟩
    case round =>
      clear ST hx1
      obtain ⟨x, rfl, HG, HF, ST⟩ := hrel
      have hx1 : wr.cell? ⟨gt, 1, none⟩ = some (.slice A2 l2.length c2) := (blk_cell ST.out.bt 1).trans rfl
      by_cases c6 : x < (l2.length : Int)
      · have c6b0 : decide (x < (l2.length : Int)) = true := decide_eq_true c6
        have p5 : 0 ≤ x := HG.out.1
        have hlt : x.toNat < l2.length := by omega
        have HLT2 := Aside0.mk hlt
        obtain ⟨ad2, Ab, cb, e_, hxb0, hxb1, hlb, hib⟩ := at_T97 (Kd.C_below R2.out ST.out.hb) x p5 c6
        cases e_
        have IB := Aside0.mk hib
        have LB := Aside0.mk hlb
        have e1 : rd_T97 l2 x = l2[x.toNat] := by show l2.getD x.toNat _ = _; rw [List.getD_eq_getElem?_getD, List.getElem?_eq_getElem hlt]; rfl
        have HFS := Aside0.mk (show (l2.drop x.toNat).findSome? (fun b => if a.f0 = b.f0 ∧ a.f1.length = b.f1.length ∧ (mUni a.f1 b.f1 m).2 = true then mTry l2 rest (mUni a.f1 b.f1 m).1 else none) = (((fun b => if a.f0 = b.f0 ∧ a.f1.length = b.f1.length ∧ (mUni a.f1 b.f1 m).2 = true then mTry l2 rest (mUni a.f1 b.f1 m).1 else none) (rd_T97 l2 x)).or ((l2.drop (x.toNat + 1)).findSome? (fun b => if a.f0 = b.f0 ∧ a.f1.length = b.f1.length ∧ (mUni a.f1 b.f1 m).2 = true then mTry l2 rest (mUni a.f1 b.f1 m).1 else none))) from by rw [e1]; exact findSome_drop l2 _ x.toNat hlt)
        clear hib hlb hlt e1
        replace p5 := eq_true p5
        replace c6 := eq_true c6
        generalize rd_T97 l2 x = el at *
        go_wp2_with (first | ((with_reducible refine gate_dst (N := 12) rfl ?_); refine hold ?_))
        unfold Hold
        refine box_event ?hg3 (N := 12) ?hd3 (cs := #[.int .i64 0, .slice none 0 0]) (t := 97) ?hr3 ?_
        case hd3 => rfl
        case hg3 => rfl
        case hr3 => first | (go_simp; done) | (go_simp; rfl)
        intro gb hg w7 hbox hb
        have BA_ := Aside0.mk hbox
        have HG_ := Aside0.mk hg
        have HB5 := Aside0.mk hb
        clear hbox hg hb
        have hy0 : w7.cell? ⟨gb, 0, none⟩ = some (.int .i64 0) := (blk_cell BA_.out 0).trans rfl
        have hy1 : w7.cell? ⟨gb, 1, none⟩ = some (.slice none 0 0) := (blk_cell BA_.out 1).trans rfl
        have hf0 := blk_frozen BA_.out 0
        have hf1 := blk_frozen BA_.out 1
        go_wp2_with (first | ((with_reducible refine gate_store (t := 97) (p := 12) rfl ?_); refine hold ?_))
        unfold Hold
        refine store_event (t := 97) (p := 12) (v := ?vo_3) (w1 := ((w7.setCell ⟨gb, 0, none⟩ (.int .i64 el.f0)).setCell ⟨gb, 1, none⟩ (.slice Ab el.f1.length cb))) ?hgs3 ?ho3 ?hn3 ?hrs3 ?_
        case ho3 => rfl
        case hgs3 => rfl
        case hn3 => rfl
        case hrs3 => first | (go_simp; done) | (go_simp; rfl)
        intro w8 hw
        have hb : Below wr.heap.size wr w8 := by rw [hw]; exact (below_set (below_set HB5.out (by rw [HG_.out]; exact Nat.le_refl _)) (by rw [HG_.out]; exact Nat.le_refl _))
        have BN := Aside0.mk (show w8.heap[gb]? = some (.cells #[.int .i64 el.f0, .slice Ab el.f1.length cb] 97 (0, 0)) from by rw [hw]; exact (blk_put (cs := #[.int .i64 el.f0, .slice none 0 0]) (blk_put (cs := #[.int .i64 0, .slice none 0 0]) BA_.out 0 _ rfl) 1 _ rfl))
        replace ST := Aside0.mk (ST.out.below hb)
        replace IB := Aside0.mk (Kd.C_below IB.out hb)
        clear hw hb HB5 HG_ BA_ hy0 hf0 hy1 hf1
        clear hx1 hxb0 hxb1
        have hx0 : w8.cell? ⟨ga, 0, none⟩ = some (.int .i64 a.f0) := (blk_cell ST.out.ba 0).trans rfl
        have hx1 : w8.cell? ⟨ga, 1, none⟩ = some (.slice Aa a.f1.length ca) := (blk_cell ST.out.ba 1).trans rfl
        have hx2 : w8.cell? ⟨gb, 0, none⟩ = some (.int .i64 el.f0) := (blk_cell BN.out 0).trans rfl
        have hx3 : w8.cell? ⟨gb, 1, none⟩ = some (.slice Ab el.f1.length cb) := (blk_cell BN.out 1).trans rfl
        by_cases d1 : a.f0 = el.f0
        · have D1 := Aside0.mk d1
          have d1a : (a.f0 != el.f0) = false := bne_eq_false_iff_eq.mpr d1
          have d1b : (a.f0 == el.f0) = true := beq_iff_eq.mpr d1
          have d1c : decide (a.f0 = el.f0) = true := decide_eq_true d1
          clear d1
          by_cases d2 : (a.f1.length : Int) = (el.f1.length : Int)
          · have D2 := Aside0.mk (show a.f1.length = el.f1.length from by omega)
            have d2a : ((a.f1.length : Int) != (el.f1.length : Int)) = false := bne_eq_false_iff_eq.mpr d2
            have d2b : ((a.f1.length : Int) == (el.f1.length : Int)) = true := beq_iff_eq.mpr d2
            have d2c : decide ((a.f1.length : Int) = (el.f1.length : Int)) = true := decide_eq_true d2
            clear d2
            obtain ⟨ku, hku⟩ := (l7Unify_ev a.f1 el.f1 m D2.out HM.out (HZ.out.2.2 a HIN.out) (HZ.out.2.1 a HIN.out)).rounds
            have HKU := Aside0.mk hku
            have HUL := Aside0.mk (show (mUni a.f1 el.f1 m).1.length = 20 from by rw [mUni_len]; exact HM.out)
            clear hku
            go_wp2_with (first | (go_at_call 135; refine hold ?_))
            unfold Hold
            refine (spec_l7Unify.calls ku Aa ca a.f1 Ab cb el.f1 A3 c3 m _ _ _ (Kd.C_below IA.out ST.out.hb) LA.out IB.out LB.out (Kd.C_below R3.out ST.out.hb) HC3.out HKU.out).mono ?_
            rintro e w9 ⟨vu, rfl, hou, hb⟩
            obtain ⟨Au, cu, rfl⟩ := Kd.R_slice hou
            replace ST := Aside0.mk (ST.out.below hb)
            have OU := Aside0.mk hou
            clear hb hou hx0 hx1 hx2 hx3 BN IB LB HKU
            cases hu2 : (mUni a.f1 el.f1 m).2
            · have HU2 := Aside0.mk hu2
              clear hu2
              have HX := Aside0.mk (show (l2.drop (x.toNat + 1)).findSome? (fun b => if a.f0 = b.f0 ∧ a.f1.length = b.f1.length ∧ (mUni a.f1 b.f1 m).2 = true then mTry l2 rest (mUni a.f1 b.f1 m).1 else none) = l2.findSome? (fun b => if a.f0 = b.f0 ∧ a.f1.length = b.f1.length ∧ (mUni a.f1 b.f1 m).2 = true then mTry l2 rest (mUni a.f1 b.f1 m).1 else none) from by rw [← HF.out, HFS.out]; rw [if_neg (by rw [HU2.out]; simp)]; rfl)
              go_wp2
              go_roundg (l2.length - (x.toNat + 1))
              case measure => have := HG.out; have := HLT2.out; omega
              case rel => exact ⟨(wrap64 (x + 1)), rfl, ⟨by have := HG.out; have := HLT2.out; have h4 := HZ.out.1; rw [w64 (by omega) (by omega)]; omega⟩, ⟨by rw [w64 (by have := HG.out; omega) (by have h4 := HZ.out.1; have := HLT2.out; omega), show (x + 1).toNat = x.toNat + 1 by have := HG.out; omega]; exact HX.out⟩, ST⟩
            · have HU2 := Aside0.mk hu2
              clear hu2
              have HFE := Aside0.mk (show (fun b => if a.f0 = b.f0 ∧ a.f1.length = b.f1.length ∧ (mUni a.f1 b.f1 m).2 = true then mTry l2 rest (mUni a.f1 b.f1 m).1 else none) el = mTry l2 rest (mUni a.f1 el.f1 m).1 from if_pos ⟨D1.out, D2.out, HU2.out⟩)
              have hx0 : w9.cell? ⟨gf, 0, none⟩ = some (.slice Ah nh ch) := (blk_cell ST.out.bf 0).trans rfl
              have hx1 : w9.cell? ⟨gf, 1, none⟩ = some (.slice (some ad1) l1.length c1) := (blk_cell ST.out.bf 1).trans rfl
              have hx2 : w9.cell? ⟨gt, 0, none⟩ = some (.slice Ai ni ci) := (blk_cell ST.out.bt 0).trans rfl
              have hx3 : w9.cell? ⟨gt, 1, none⟩ = some (.slice (some ad2) l2.length c2) := (blk_cell ST.out.bt 1).trans rfl
              have ew : wrap64 (ix + 1) = ((pre ++ [a]).length : Int) := by rw [HP.out, ← HIX.out]; have h4 := HZ.out.1; have h5 := HLT.out; have h6 := HIX.out; rw [w64 (by omega) (by omega)]; omega
              have EW := Aside0.mk ew
              clear ew
              go_wp2_with (first | (go_at_call 136; refine hold ?_))
              unfold Hold
              rw [EW.out]
              refine (HI.out (pre ++ [a]) HPE.out Au cu (mUni a.f1 el.f1 m).1 _ HUL.out (Kd.R_reads' OU.out).2.1 (Kd.R_reads' OU.out).2.2 (Kd.C_below R1.out ST.out.hb) (Kd.C_below R2.out ST.out.hb)).mono ?_
              rintro e w10 ⟨Ay, cy, ys, b, rfl, ⟨hy1, hy2, hy3⟩, hyb, hb⟩
              replace ST := Aside0.mk (ST.out.below hb)
              clear hb hx0 hx1 hx2 hx3 OU
              have Y1 := Aside0.mk hy1
              have Y2 := Aside0.mk (show ys.length ≤ cy ∧ ys.length = 20 from ⟨hy2, hy3⟩)
              clear hy1 hy2 hy3
              rcases hyb with ⟨rfl, hyb⟩ | ⟨rfl, hyb⟩
              · have HX := Aside0.mk (show mTry l2 (a :: rest) m = some ys from by show l2.findSome? (fun b => if a.f0 = b.f0 ∧ a.f1.length = b.f1.length ∧ (mUni a.f1 b.f1 m).2 = true then mTry l2 rest (mUni a.f1 b.f1 m).1 else none) = _; rw [← HF.out, HFS.out, HFE.out, hyb]; rfl)
                clear hyb
                go_wp2
                go_ret2
                exact ⟨Ay, cy, ys, true, rfl, ⟨Y1.out, Y2.out.1, Y2.out.2⟩, .inl ⟨rfl, HX.out⟩, ST.out.hb⟩
              · have HYN := Aside0.mk hyb
                clear hyb
                have HX := Aside0.mk (show (l2.drop (x.toNat + 1)).findSome? (fun b => if a.f0 = b.f0 ∧ a.f1.length = b.f1.length ∧ (mUni a.f1 b.f1 m).2 = true then mTry l2 rest (mUni a.f1 b.f1 m).1 else none) = l2.findSome? (fun b => if a.f0 = b.f0 ∧ a.f1.length = b.f1.length ∧ (mUni a.f1 b.f1 m).2 = true then mTry l2 rest (mUni a.f1 b.f1 m).1 else none) from by rw [← HF.out, HFS.out]; rw [HFE.out, HYN.out]; rfl)
                go_wp2
                go_roundg (l2.length - (x.toNat + 1))
                case measure => have := HG.out; have := HLT2.out; omega
                case rel => exact ⟨(wrap64 (x + 1)), rfl, ⟨by have := HG.out; have := HLT2.out; have h4 := HZ.out.1; rw [w64 (by omega) (by omega)]; omega⟩, ⟨by rw [w64 (by have := HG.out; omega) (by have h4 := HZ.out.1; have := HLT2.out; omega), show (x + 1).toNat = x.toNat + 1 by have := HG.out; omega]; exact HX.out⟩, ST⟩
          · have D2 := Aside0.mk (show ¬ a.f1.length = el.f1.length from by omega)
            have d2a : ((a.f1.length : Int) != (el.f1.length : Int)) = true := bne_iff_ne.mpr d2
            have d2b : ((a.f1.length : Int) == (el.f1.length : Int)) = false := beq_eq_false_iff_ne.mpr d2
            have d2c : decide ((a.f1.length : Int) = (el.f1.length : Int)) = false := decide_eq_false d2
            clear d2
            have HX := Aside0.mk (show (l2.drop (x.toNat + 1)).findSome? (fun b => if a.f0 = b.f0 ∧ a.f1.length = b.f1.length ∧ (mUni a.f1 b.f1 m).2 = true then mTry l2 rest (mUni a.f1 b.f1 m).1 else none) = l2.findSome? (fun b => if a.f0 = b.f0 ∧ a.f1.length = b.f1.length ∧ (mUni a.f1 b.f1 m).2 = true then mTry l2 rest (mUni a.f1 b.f1 m).1 else none) from by rw [← HF.out, HFS.out]; rw [if_neg (fun h => D2.out h.2.1)]; rfl)
            go_wp2
            go_roundg (l2.length - (x.toNat + 1))
            case measure => have := HG.out; have := HLT2.out; omega
            case rel => exact ⟨(wrap64 (x + 1)), rfl, ⟨by have := HG.out; have := HLT2.out; have h4 := HZ.out.1; rw [w64 (by omega) (by omega)]; omega⟩, ⟨by rw [w64 (by have := HG.out; omega) (by have h4 := HZ.out.1; have := HLT2.out; omega), show (x + 1).toNat = x.toNat + 1 by have := HG.out; omega]; exact HX.out⟩, ST⟩
        · have D1 := Aside0.mk d1
          have d1a : (a.f0 != el.f0) = true := bne_iff_ne.mpr d1
          have d1b : (a.f0 == el.f0) = false := beq_eq_false_iff_ne.mpr d1
          have d1c : decide (a.f0 = el.f0) = false := decide_eq_false d1
          clear d1
          have HX := Aside0.mk (show (l2.drop (x.toNat + 1)).findSome? (fun b => if a.f0 = b.f0 ∧ a.f1.length = b.f1.length ∧ (mUni a.f1 b.f1 m).2 = true then mTry l2 rest (mUni a.f1 b.f1 m).1 else none) = l2.findSome? (fun b => if a.f0 = b.f0 ∧ a.f1.length = b.f1.length ∧ (mUni a.f1 b.f1 m).2 = true then mTry l2 rest (mUni a.f1 b.f1 m).1 else none) from by rw [← HF.out, HFS.out]; rw [if_neg (fun h => D1.out h.1)]; rfl)
          go_wp2
          go_roundg (l2.length - (x.toNat + 1))
          case measure => have := HG.out; have := HLT2.out; omega
          case rel => exact ⟨(wrap64 (x + 1)), rfl, ⟨by have := HG.out; have := HLT2.out; have h4 := HZ.out.1; rw [w64 (by omega) (by omega)]; omega⟩, ⟨by rw [w64 (by have := HG.out; omega) (by have h4 := HZ.out.1; have := HLT2.out; omega), show (x + 1).toNat = x.toNat + 1 by have := HG.out; omega]; exact HX.out⟩, ST⟩
      · have c6b0 : decide (x < (l2.length : Int)) = false := decide_eq_false c6
        have HX := Aside0.mk (show mTry l2 (a :: rest) m = none from by show l2.findSome? (fun b => if a.f0 = b.f0 ∧ a.f1.length = b.f1.length ∧ (mUni a.f1 b.f1 m).2 = true then mTry l2 rest (mUni a.f1 b.f1 m).1 else none) = _; rw [← HF.out, List.drop_eq_nil_of_le (by omega)]; rfl)
        clear c6
        go_wp2
        go_ret2
        exact ⟨A3, c3, m, false, rfl, ⟨Kd.C_below R3.out ST.out.hb, HC3.out, HM.out⟩, .inr ⟨rfl, HX.out⟩, ST.out.hb⟩

theorem eqnil_in {P : Program} (d : Nat) {t e : TypeId} (hu : P.underlying t = some (.slice e)) (A : Option Addr) (n c : Nat) (W : World) : (Op.equalIn (d + 1) t (.slice A n c) (.slice none 0 0)).run P W = .ok A.isNone W := by
  unfold Op.equalIn
  cases A <;> simp only [Sem.run_bind, run_underlying hu, Result.andThen_ok] <;> rfl
theorem eqnil {P : Program} {t e : TypeId} (hu : P.underlying t = some (.slice e)) (A : Option Addr) (n c : Nat) (W : World) : (binOp BinOp.eql t (.slice A n c) (.slice none 0 0)).run P W = .ok (.bool A.isNone) W := by
  have h : (Op.equal t (.slice A n c) (.slice none 0 0)).run P W = .ok A.isNone W := eqnil_in 9999 hu A n c W
  unfold binOp
  simp [go_sem, h]
theorem nenil {P : Program} {t e : TypeId} (hu : P.underlying t = some (.slice e)) (A : Option Addr) (n c : Nat) (W : World) : (binOp BinOp.neq t (.slice A n c) (.slice none 0 0)).run P W = .ok (.bool (!A.isNone)) W := by
  have h : (Op.equal t (.slice A n c) (.slice none 0 0)).run P W = .ok A.isNone W := eqnil_in 9999 hu A n c W
  unfold binOp
  simp [go_sem, h]
theorem run_store_func {P : Program} {w : World} {a : Addr} {m : Mode} (fn : Fn) (first cap : Array Value) : (store a (.func fn first cap) m).run P w = stored P w a (.func fn first cap) m := run_store P w a _ m rfl
attribute [local go_sem] run_store_func

set_option maxHeartbeats 8000000 in
set_option maxRecDepth 100000 in
theorem l7Find_calls (A0_0 : Option Addr) (c0_0 : Nat) (l0_0 : List Int) (A0_1 : Option Addr) (c0_1 : Nat) (l0_1 : List (S97)) (A1_0 : Option Addr) (c1_0 : Nat) (l1_0 : List Int) (A1_1 : Option Addr) (c1_1 : Nat) (l1_1 : List (S97)) (w : World) (hr0_0 : Kd.C (Kd.int .i64) w A0_0 l0_0.length l0_0) (hc0_0 : l0_0.length ≤ c0_0) (hr0_1 : Kd.C k97 w A0_1 l0_1.length l0_1) (hc0_1 : l0_1.length ≤ c0_1) (hr1_0 : Kd.C (Kd.int .i64) w A1_0 l1_0.length l1_0) (hc1_0 : l1_0.length ≤ c1_0) (hr1_1 : Kd.C k97 w A1_1 l1_1.length l1_1) (hc1_1 : l1_1.length ≤ c1_1) (hz : (l0_0.length ≤ 1048576 ∧ l0_1.length ≤ 1048576 ∧ l1_1.length ≤ 1048576) ∧ (∀ x ∈ l0_1, x.f1.length ≤ 1048576) ∧ okTs l0_0 ∧ ∀ a ∈ l0_1, okTs a.f1) :
    Calls Try.prog 105 #[.agg #[.slice A0_0 l0_0.length c0_0, .slice A0_1 l0_1.length c0_1], .agg #[.slice A1_0 l1_0.length c1_0, .slice A1_1 l1_1.length c1_1]] w fun e w' => ∃ v : Value, e = .returned (.tuple #[v, .bool (mFind l0_0 l0_1 l1_0 l1_1).2]) ∧ Kd.R (Kd.int .i64) 3 w' w.heap.size (fun _ => True) v (mFind l0_0 l0_1 l1_0 l1_1).1 ∧ Below w.heap.size w w' := by
  obtain ⟨k0, hk0⟩ := l7Empty_ev.rounds
  have K0 := Aside0.mk hk0
  clear hk0
  have hu46 := Try.underlying46
  have hnn : ∀ W : World, (binOp BinOp.eql 38 (.slice none 0 0) (.slice none 0 0)).run Try.prog W = .ok (.bool true) W := fun W => eqnil Try.underlying38 none 0 0 W
  have hns : ∀ (g : Addr) (n c : Nat) (W : World), (binOp BinOp.eql 38 (.slice (some g) n c) (.slice none 0 0)).run Try.prog W = .ok (.bool false) W := fun g n c W => eqnil Try.underlying38 (some g) n c W
  have hmf : ∀ (fn : Fn) (first cap : Array Value) (w : World), (Instr.makeFunc fn first cap).run Try.prog w = .ok (.func fn first cap) w := fun _ _ _ _ => rfl
  have HR0 := Aside0.mk hr0_0
  have HR1 := Aside0.mk hr0_1
  have HT0 := Aside0.mk hr1_0
  have HT1 := Aside0.mk hr1_1
  have HC := Aside0.mk (show l0_0.length ≤ c0_0 ∧ l0_1.length ≤ c0_1 ∧ l1_0.length ≤ c1_0 ∧ l1_1.length ≤ c1_1 from ⟨hc0_0, hc0_1, hc1_0, hc1_1⟩)
  have HZ := Aside0.mk hz
  have HB := Aside0.mk (Below.refl w.heap.size w)
  clear hr0_0 hr0_1 hr1_0 hr1_1 hc0_0 hc0_1 hc1_0 hc1_1 hz
  go_enter Try.func105, Try.ntmps105
  go_wp2_with (first | ((with_reducible refine gate_dst (N := 2) rfl ?_); refine hold ?_))
  unfold Hold
  refine box_event ?hg0 (N := 2) ?hd0 (cs := #[.slice A0_0 l0_0.length c0_0, .slice A0_1 l0_1.length c0_1]) (t := 46) ?hr0 ?_
  case hd0 => rfl
  case hg0 => rfl
  case hr0 => first | (go_simp; done) | (go_simp; rfl)
  intro gf hg w1 hbox hb
  have Bgf := Aside0.mk hbox
  replace HB := Aside0.mk (below_step HB.out hb)
  clear hbox hb hg
  go_wp2_with (first | ((with_reducible refine gate_dst (N := 3) rfl ?_); refine hold ?_))
  unfold Hold
  refine box_event ?hg1 (N := 3) ?hd1 (cs := #[.slice A1_0 l1_0.length c1_0, .slice A1_1 l1_1.length c1_1]) (t := 46) ?hr1 ?_
  case hd1 => rfl
  case hg1 => rfl
  case hr1 => first | (go_simp; done) | (go_simp; rfl)
  intro gt hg w2 hbox hb
  have Bgt := Aside0.mk hbox
  replace Bgf := Aside0.mk (blk_below Bgf.out hb)
  replace HB := Aside0.mk (below_step HB.out hb)
  clear hbox hb hg
  have hx0 : w2.cell? ⟨gf, 0, none⟩ = some (.slice A0_0 l0_0.length c0_0) := (blk_cell Bgf.out 0).trans rfl
  have hx1 : w2.cell? ⟨gt, 0, none⟩ = some (.slice A1_0 l1_0.length c1_0) := (blk_cell Bgt.out 0).trans rfl
  by_cases d1 : (l0_0.length : Int) = (l1_0.length : Int)
  · have D1 := Aside0.mk (show l0_0.length = l1_0.length from by omega)
    have d1a : ((l0_0.length : Int) != (l1_0.length : Int)) = false := bne_eq_false_iff_eq.mpr d1
    have d1b : ((l0_0.length : Int) == (l1_0.length : Int)) = true := beq_iff_eq.mpr d1
    have d1c : decide ((l0_0.length : Int) = (l1_0.length : Int)) = true := decide_eq_true d1
    clear d1
    obtain ⟨ku, hku⟩ := (l7Unify_ev l0_0 l1_0 mNone D1.out mNone_len HZ.out.2.2.1 HZ.out.1.1).rounds
    have KU := Aside0.mk hku
    have HUL := Aside0.mk (show (mUni l0_0 l1_0 mNone).1.length = 20 from mUni_len _ _ _)
    clear hku
    try go_wp2
    have hD : Below w2.heap.size w2 w2.drew := below_drew (Below.refl _ _)
    replace Bgf := Aside0.mk (blk_below Bgf.out hD)
    replace Bgt := Aside0.mk (blk_below Bgt.out hD)
    replace HB := Aside0.mk (below_step HB.out hD)
    clear hD hx0 hx1
    refine start_ (n := 11) (S := fun w' => w'.cell? ⟨gf, 0, none⟩ = some (.slice A0_0 l0_0.length c0_0) ∧ w'.cell? ⟨gt, 0, none⟩ = some (.slice A1_0 l1_0.length c1_0)) (ds := []) #[false, false, false, false, false, false, false, false, false, false, false] (by kernel_rfl) rfl rfl ⟨(blk_cell Bgf.out 0).trans rfl, (blk_cell Bgt.out 0).trans rfl⟩ (fun hHeld => ?_)
    generalize w2.drew = w3 at Bgf Bgt HB hHeld ⊢
    refine pure_ (i := 0) (N := some 19) (v := ?_) (a' := ?_) #[true, false, false, false, false, false, false, false, false, false, false] rfl rfl (by kernel_rfl) (fun _ _ _ h => h) (Or.inl ⟨by rfl, ?_⟩) ?_ ?_
    rotate_left
    · intro w'; go_simp; with_reducible rfl
    rotate_left
    · simp only [Act.put, List.setIfInBounds_toArray, List.set_cons_zero, List.set_cons_succ, i64_w, i32_w]; rfl
    refine pure_ (i := 2) (N := some 21) (v := ?_) (a' := ?_) #[true, false, true, false, false, false, false, false, false, false, false] rfl rfl (by kernel_rfl) (fun _ _ _ h => h) (Or.inl ⟨by rfl, ?_⟩) ?_ ?_
    rotate_left
    · intro w'; go_simp; with_reducible rfl
    rotate_left
    · simp only [Act.put, List.setIfInBounds_toArray, List.set_cons_zero, List.set_cons_succ, i64_w, i32_w]; rfl
    refine take_ (i := 1) (N := some 20) (v := ?_) (a' := ?_) #[true, true, true, false, false, false, false, false, false, false, false] rfl rfl (by kernel_rfl) (fun _ _ _ h => h) (Or.inl ⟨by rfl, ?_⟩) hHeld ?_ ?_
    rotate_left
    · rintro w' ⟨s0, s1⟩; go_simp; with_reducible rfl
    rotate_left
    · simp only [Act.put, List.setIfInBounds_toArray, List.set_cons_zero, List.set_cons_succ, i64_w, i32_w]; rfl
    refine take_ (i := 3) (N := some 22) (v := ?_) (a' := ?_) #[true, true, true, true, false, false, false, false, false, false, false] rfl rfl (by kernel_rfl) (fun _ _ _ h => h) (Or.inl ⟨by rfl, ?_⟩) hHeld ?_ ?_
    rotate_left
    · rintro w' ⟨s0, s1⟩; go_simp; with_reducible rfl
    rotate_left
    · simp only [Act.put, List.setIfInBounds_toArray, List.set_cons_zero, List.set_cons_succ, i64_w, i32_w]; rfl
    refine one_ (i := 4) (N := some 23) #[true, true, true, true, true, false, false, false, false, false, false] rfl rfl (by kernel_rfl) (by decide) (fun K hK => ?_)
    refine goes_ Try.func108 (by kernel_rfl) rfl #[] (by rfl) rfl rfl (by (try simp only [List.map_toArray, List.map_cons, List.map_nil]); first | done | rfl) ?_
    with_reducible refine (spec_l7Empty.calls k0 mNone _ K0.out).mono ?_
    rintro e w4 ⟨ve, rfl, hoe, hb⟩
    refine ⟨_, rfl, ?_⟩
    obtain ⟨Ae, ce, rfl⟩ := Kd.R_slice hoe
    have OE := Aside0.mk hoe
    replace Bgf := Aside0.mk (blk_below Bgf.out hb)
    replace Bgt := Aside0.mk (blk_below Bgt.out hb)
    replace HB := Aside0.mk (below_step HB.out hb)
    clear hb hoe
    refine hK.out _ _ ⟨(blk_cell Bgf.out 0).trans rfl, (blk_cell Bgt.out 0).trans rfl⟩ (fun hHeld => ?_)
    clear hK K
    refine norm_ (a' := ?_) ?_ ?_
    rotate_left
    · show Act.put _ (some 23) _ = _; simp only [Act.put, List.setIfInBounds_toArray, List.set_cons_zero, List.set_cons_succ, i64_w, i32_w]; rfl
    refine one_ (i := 5) (N := some 24) #[true, true, true, true, true, true, false, false, false, false, false] rfl rfl (by kernel_rfl) (by decide) (fun K hK => ?_)
    refine goes_ Try.func135 (by kernel_rfl) rfl #[.slice A0_0 l0_0.length c0_0, .slice A1_0 l1_0.length c1_0, .slice Ae mNone.length ce] (by rfl) rfl rfl (by (try simp only [List.map_toArray, List.map_cons, List.map_nil]); first | done | rfl) ?_
    with_reducible refine (spec_l7Unify.calls ku A0_0 c0_0 l0_0 A1_0 c1_0 l1_0 Ae ce mNone _ _ _ (Kd.C_below HR0.out HB.out) HC.out.1 (Kd.C_below HT0.out HB.out) HC.out.2.2.1 (Kd.R_reads' OE.out).2.2 (Kd.R_reads' OE.out).2.1 KU.out).mono ?_
    rintro e w5 ⟨vu, rfl, hou, hb⟩
    refine ⟨_, rfl, ?_⟩
    obtain ⟨Au, cu, rfl⟩ := Kd.R_slice hou
    have OU := Aside0.mk hou
    replace Bgf := Aside0.mk (blk_below Bgf.out hb)
    replace Bgt := Aside0.mk (blk_below Bgt.out hb)
    replace HB := Aside0.mk (below_step HB.out hb)
    clear hb hou OE
    refine hK.out _ _ ⟨(blk_cell Bgf.out 0).trans rfl, (blk_cell Bgt.out 0).trans rfl⟩ (fun hHeld => ?_)
    clear hK K
    refine norm_ (a' := ?_) ?_ ?_
    rotate_left
    · show Act.put _ (some 24) _ = _; simp only [Act.put, List.setIfInBounds_toArray, List.set_cons_zero, List.set_cons_succ, i64_w, i32_w]; rfl
    refine pure_ (i := 6) (N := some 18) (v := ?_) (a' := ?_) #[true, true, true, true, true, true, true, false, false, false, false] rfl rfl (by kernel_rfl) (fun _ _ _ h => h) (Or.inl ⟨by rfl, ?_⟩) ?_ ?_
    rotate_left
    · intro w'; go_simp; with_reducible rfl
    rotate_left
    · simp only [Act.put, List.setIfInBounds_toArray, List.set_cons_zero, List.set_cons_succ, i64_w, i32_w]; rfl
    refine pure_ (i := 7) (N := some 25) (v := ?_) (a' := ?_) #[true, true, true, true, true, true, true, true, false, false, false] rfl rfl (by kernel_rfl) (fun _ _ _ h => h) (Or.inl ⟨by rfl, ?_⟩) ?_ ?_
    rotate_left
    · intro w'; go_simp; with_reducible rfl
    rotate_left
    · simp only [Act.put, List.setIfInBounds_toArray, List.set_cons_zero, List.set_cons_succ, i64_w, i32_w]; rfl
    refine pure_ (i := 8) (N := some 26) (v := ?_) (a' := ?_) #[true, true, true, true, true, true, true, true, true, false, false] rfl rfl (by kernel_rfl) (fun _ _ _ h => h) (Or.inl ⟨by rfl, ?_⟩) ?_ ?_
    rotate_left
    · intro w'; go_simp; with_reducible rfl
    rotate_left
    · simp only [Act.put, List.setIfInBounds_toArray, List.set_cons_zero, List.set_cons_succ, i64_w, i32_w]; rfl
    refine pure_ (i := 9) (N := some 6) (v := ?_) (a' := ?_) #[true, true, true, true, true, true, true, true, true, true, false] rfl rfl (by kernel_rfl) (fun _ _ _ h => h) (Or.inl ⟨by rfl, ?_⟩) ?_ ?_
    rotate_left
    · intro w'; go_simp; with_reducible rfl
    rotate_left
    · simp only [Act.put, List.setIfInBounds_toArray, List.set_cons_zero, List.set_cons_succ, i64_w, i32_w]; rfl
    refine pure_ (i := 10) (N := some 7) (v := ?_) (a' := ?_) #[true, true, true, true, true, true, true, true, true, true, true] rfl rfl (by kernel_rfl) (fun _ _ _ h => h) (Or.inl ⟨by rfl, ?_⟩) ?_ ?_
    rotate_left
    · intro w'; go_simp; with_reducible rfl
    rotate_left
    · simp only [Act.put, List.setIfInBounds_toArray, List.set_cons_zero, List.set_cons_succ, i64_w, i32_w]; rfl
    refine done_ (by kernel_rfl) ?_
    cases hu2 : (mUni l0_0 l1_0 mNone).2
    · have EM := Aside0.mk (show mFind l0_0 l0_1 l1_0 l1_1 = ([], false) from by unfold mFind; rw [if_neg (by rw [hu2]; simp)])
      clear hu2
      go_wp2_with (first | ((with_reducible refine gate_dst (N := 29) rfl ?_); refine hold ?_))
      unfold Hold
      refine Kd.R_lit (Kd.int .i64) _ 3 ?hgla (N := 29) ?hdla (xs := ([] : List Int)) (inner := []) (ok := fun _ => True) (okp := fun _ => True) ?hrla ?hpla (fun _ hk => hk) trivial (Below.refl _ _) (Nat.le_refl _) (by simp) ?_
      case hdla => rfl
      case hgla => rfl
      case hrla => first | (go_simp; done) | (go_simp; rfl)
      case hpla => exact (Reps.none _ _)
      intro vl wl ho hb hg_ hnew_
      clear hg_ hnew_
      have OL := Aside0.mk (Kd.R_lower ho HB.out.size)
      have BL := Aside0.mk (below_step HB.out hb)
      clear ho hb
      go_wp2
      go_ret2
      exact ⟨_, by rw [EM.out]; rfl, by rw [EM.out]; exact OL.out, BL.out⟩
    · have HU2 := Aside0.mk hu2
      clear hu2
      have hx0 : w5.cell? ⟨gf, 0, none⟩ = some (.slice A0_0 l0_0.length c0_0) := (blk_cell Bgf.out 0).trans rfl
      have hx1 : w5.cell? ⟨gf, 1, none⟩ = some (.slice A0_1 l0_1.length c0_1) := (blk_cell Bgf.out 1).trans rfl
      have hx2 : w5.cell? ⟨gt, 0, none⟩ = some (.slice A1_0 l1_0.length c1_0) := (blk_cell Bgt.out 0).trans rfl
      have hx3 : w5.cell? ⟨gt, 1, none⟩ = some (.slice A1_1 l1_1.length c1_1) := (blk_cell Bgt.out 1).trans rfl
      go_wp2_with (first | (go_at_call 136; refine hold ?_))
      unfold Hold
      refine (l7Search_walk A0_0 l0_0.length c0_0 A0_1 c0_1 l0_1 A1_0 l1_0.length c1_0 A1_1 c1_1 l1_1 ⟨HZ.out.1.2, HZ.out.2.1, HZ.out.2.2.2⟩ l0_1 [] rfl Au cu (mUni l0_0 l1_0 mNone).1 _ HUL.out (Kd.R_reads' OU.out).2.1 (Kd.R_reads' OU.out).2.2 (Kd.C_below HR1.out HB.out) (Kd.C_below HT1.out HB.out)).mono ?_
      rintro e w6 ⟨Ay, cy, ys, b, rfl, ⟨hy1, hy2, hy3⟩, hyb, hb⟩
      replace HB := Aside0.mk (below_step HB.out hb)
      clear hb hx0 hx1 hx2 hx3 OU Bgf Bgt
      have Y1 := Aside0.mk hy1
      have Y3 := Aside0.mk hy3
      clear hy1 hy2 hy3
      rcases hyb with ⟨rfl, hyb⟩ | ⟨rfl, hyb⟩
      · have EM := Aside0.mk (show mFind l0_0 l0_1 l1_0 l1_1 = (ys, true) from mFind_some D1.out HU2.out hyb)
        clear hyb
        go_wp2_with (first | ((with_reducible refine gate_dst (N := 40) rfl ?_); refine hold ?_))
        unfold Hold
        refine Kd.R_lit (Kd.int .i64) _ 3 ?hglc (N := 40) ?hdlc (xs := ([] : List Int)) (inner := []) (ok := fun _ => True) (okp := fun _ => True) ?hrlc ?hplc (fun _ hk => hk) trivial (Below.refl _ _) (Nat.le_refl _) (by simp) ?_
        case hdlc => rfl
        case hglc => rfl
        case hrlc => first | (go_simp; done) | (go_simp; rfl)
        case hplc => exact (Reps.none _ _)
        intro vl wl ho hb hg_ hnew_
        clear hg_ hnew_
        have OL := Aside0.mk (Kd.R_lower ho HB.out.size)
        have Y2 := Aside0.mk (Kd.C_below Y1.out hb)
        replace HB := Aside0.mk (below_step HB.out hb)
        clear ho hb
        go_wp2_with (first | ((with_reducible refine gate_builtin (b := .append) (xs := #[.tmp 40, .tmp 41]) rfl ?_); at_builtin; refine hold ?_))
        unfold Hold
        refine Kd.R_append_rows (Kd.int .i64) (w0 := w) w.heap.size rfl (.tmp 40) (.tmp 41) 38 3 (.int .i64 0) 8 rfl Try.underlying38 info3 rfl (by decide) (by omega) vl [] ys _ _ _ (fun _ => True) (fun _ => False) rfl rfl ?aO ?aR (fun _ _ h => h) (fun _ h => h.elim) ?aF ?aB ?aS ?aL ?_
        case aR => exact Y2.out
        case aB => exact HB.out
        case aF => exact (fun _ _ => trivial)
        case aO => exact OL.out
        case aS => exact HB.out.size
        case aL => have := Y3.out; simp; omega
        intro va wa ho hb hg hat
        clear hg hat
        have OA := Aside0.mk ho
        have BA := Aside0.mk hb
        clear ho hb
        go_wp2
        go_ret2
        exact ⟨_, by rw [EM.out]; rfl, by rw [EM.out]; exact OA.out, BA.out⟩
      · have EM := Aside0.mk (show mFind l0_0 l0_1 l1_0 l1_1 = ([], false) from mFind_none D1.out HU2.out hyb)
        clear hyb
        go_wp2_with (first | ((with_reducible refine gate_dst (N := 39) rfl ?_); refine hold ?_))
        unfold Hold
        refine Kd.R_lit (Kd.int .i64) _ 3 ?hgld (N := 39) ?hdld (xs := ([] : List Int)) (inner := []) (ok := fun _ => True) (okp := fun _ => True) ?hrld ?hpld (fun _ hk => hk) trivial (Below.refl _ _) (Nat.le_refl _) (by simp) ?_
        case hdld => rfl
        case hgld => rfl
        case hrld => first | (go_simp; done) | (go_simp; rfl)
        case hpld => exact (Reps.none _ _)
        intro vl wl ho hb hg_ hnew_
        clear hg_ hnew_
        have OL := Aside0.mk (Kd.R_lower ho HB.out.size)
        have BL := Aside0.mk (below_step HB.out hb)
        clear ho hb
        go_wp2
        go_ret2
        exact ⟨_, by rw [EM.out]; rfl, by rw [EM.out]; exact OL.out, BL.out⟩
  · have EM := Aside0.mk (show mFind l0_0 l0_1 l1_0 l1_1 = ([], false) from by unfold mFind; rw [if_neg (fun h => d1 (by have := h.1; omega))])
    have d1a : ((l0_0.length : Int) != (l1_0.length : Int)) = true := bne_iff_ne.mpr d1
    have d1b : ((l0_0.length : Int) == (l1_0.length : Int)) = false := beq_eq_false_iff_ne.mpr d1
    have d1c : decide ((l0_0.length : Int) = (l1_0.length : Int)) = false := decide_eq_false d1
    clear d1
    go_wp2_with (first | ((with_reducible refine gate_dst (N := 17) rfl ?_); refine hold ?_))
    unfold Hold
    refine Kd.R_lit (Kd.int .i64) _ 3 ?hglz (N := 17) ?hdlz (xs := ([] : List Int)) (inner := []) (ok := fun _ => True) (okp := fun _ => True) ?hrlz ?hplz (fun _ hk => hk) trivial (Below.refl _ _) (Nat.le_refl _) (by simp) ?_
    case hdlz => rfl
    case hglz => rfl
    case hrlz => first | (go_simp; done) | (go_simp; rfl)
    case hplz => exact (Reps.none _ _)
    intro vl wl ho hb hg_ hnew_
    clear hg_ hnew_
    have OL := Aside0.mk (Kd.R_lower ho HB.out.size)
    have BL := Aside0.mk (below_step HB.out hb)
    clear ho hb
    go_wp2
    go_ret2
    exact ⟨_, by rw [EM.out]; rfl, by rw [EM.out]; exact OL.out, BL.out⟩

set_option maxHeartbeats 8000000 in
set_option maxRecDepth 100000 in
theorem send_calls (P : Nat → Prop) (u : Value) (m : List Int) (t a : Int) (w0 w : World) (hB : Below w0.heap.size w0 w) (ho : Kd.R (Kd.int .i64) 3 w w0.heap.size P u m) (hm : m.length = 20) (ht : t < 20) :
    Calls Try.prog 137 #[u, .int .i64 t, .int .i64 a] w fun e w' => e = .returned (.bool (mSend m t a).isSome) ∧ Kd.R (Kd.int .i64) 3 w' w0.heap.size P u ((mSend m t a).getD m) ∧ Below w0.heap.size w0 w' ∧ Kept w w' P := by
  obtain ⟨go, co, rfl, gb, gl, cl, hgo⟩ := Kd.R_form ho (by omega)
  have HO := Aside0.mk ho
  have HB := Aside0.mk hB
  have HM := Aside0.mk hm
  have HV := Aside0.mk (implIsVar_eq3 t)
  clear ho hB gl cl hgo hm
  have GB := Aside0.mk gb
  clear gb
  by_cases c1 : t < 0
  · have ES := Aside0.mk (show mSend m t a = if t = a then some m else none from by unfold mSend; rw [if_pos c1])
    have HV2 := Aside0.mk (show impl_IsVar.f t = some false from by rw [HV.out]; congr 1; simp [mIsVar]; omega)
    clear c1 ht HV
    go_enter Try.func137, Try.ntmps137
    go_wp2_with (first | (go_at_call 112; refine hold ?_))
    unfold Hold
    refine (impl_IsVar.calls t false _ HV2.out).mono ?_
    rintro e w1 ⟨rfl, hd⟩
    replace HB := Aside0.mk (below_step HB.out hd.below)
    replace HO := Aside0.mk (Kd.R_below HO.out hd.below)
    have HK := Aside0.mk (Kept.of_below hd.below P)
    clear hd
    by_cases c2 : t = a
    · have E2 := Aside0.mk (show mSend m t a = some m from by rw [ES.out, if_pos c2])
      have c2a : (t != a) = false := bne_eq_false_iff_eq.mpr c2
      have c2b : (t == a) = true := beq_iff_eq.mpr c2
      have c2c : decide (t = a) = true := decide_eq_true c2
      clear c2 ES
      go_wp2
      go_ret
      exact ⟨by rw [E2.out]; first | rfl | (simp; done), by rw [E2.out]; exact HO.out, HB.out, HK.out⟩
    · have E2 := Aside0.mk (show mSend m t a = none from by rw [ES.out, if_neg c2])
      have c2a : (t != a) = true := bne_iff_ne.mpr c2
      have c2b : (t == a) = false := beq_eq_false_iff_ne.mpr c2
      have c2c : decide (t = a) = false := decide_eq_false c2
      clear c2 ES
      go_wp2
      go_ret
      exact ⟨by rw [E2.out]; first | rfl | (simp; done), by rw [E2.out]; exact HO.out, HB.out, HK.out⟩
  · have ES := Aside0.mk (show mSend m t a = if rd m t = -1000 then some (m.set t.toNat a) else if rd m t = a then some m else none from by unfold mSend; rw [if_neg c1])
    have HV2 := Aside0.mk (show impl_IsVar.f t = some true from by rw [HV.out]; congr 1; simp [mIsVar]; omega)
    have p5 : 0 ≤ t := by omega
    have c6 : t < (m.length : Int) := by have := HM.out; omega
    clear c1 ht HV
    go_enter Try.func137, Try.ntmps137
    go_wp2_with (first | (go_at_call 112; refine hold ?_))
    unfold Hold
    refine (impl_IsVar.calls t true _ HV2.out).mono ?_
    rintro e w1 ⟨rfl, hd⟩
    replace HB := Aside0.mk (below_step HB.out hd.below)
    replace HO := Aside0.mk (Kd.R_below HO.out hd.below)
    have HK := Aside0.mk (Kept.of_below hd.below P)
    clear hd
    obtain ⟨hx0, hf0⟩ := Kd.R_celln 0 HO.out t p5 c6
    replace hx0 : w1.cell? ⟨go, t.toNat, none⟩ = some (.int .i64 (rd m t)) := hx0
    have q5 := eq_true p5
    have q6 := eq_true c6
    by_cases c3 : rd m t = -1000
    · have E2 := Aside0.mk (show mSend m t a = some (m.set t.toNat a) from by rw [ES.out, if_pos c3])
      have c3a : (rd m t != -1000) = false := bne_eq_false_iff_eq.mpr c3
      have c3b : (rd m t == -1000) = true := beq_iff_eq.mpr c3
      have c3c : decide (rd m t = -1000) = true := decide_eq_true c3
      have HPP := Aside0.mk (Kd.R_putg HO.out t a)
      have PG := Aside0.mk (show P go from HO.out.1 go rfl)
      clear c3 ES
      go_wp2_with (first | ((with_reducible refine gate_store (t := 3) (p := 21) rfl ?_); refine hold ?_))
      unfold Hold
      refine store_event (t := 3) (p := 21) (v := ?vo_s) (w1 := (w1.setCell ⟨go, t.toNat, none⟩ (.int .i64 a))) ?hgs ?ho ?hn ?hr ?_
      case ho => rfl
      case hgs => rfl
      case hn => rfl
      case hr => first | (go_simp; done) | (go_simp; rfl)
      intro w2 hw
      have H2 := Aside0.mk (show Kd.R (Kd.int .i64) 3 w2 w0.heap.size P (.slice (some ⟨go, 0, none⟩) m.length co) (m.set t.toNat a) from by rw [hw]; exact HPP.out.1)
      have B2 := Aside0.mk (show Below w0.heap.size w0 w2 from by rw [hw]; exact below_set HB.out GB.out)
      have K2 := Aside0.mk (show Kept w w2 P from by rw [hw]; exact Kept.of_grown HPP.out.2 HK.out (fun k he => .inl (by injection he with he; subst he; exact PG.out)))
      have c7 : t < ((m.set t.toNat a).length : Int) := by simpa using c6
      have hx2 : w2.cell? ⟨go, t.toNat, none⟩ = some (.int .i64 a) := by
        have h1 := (Kd.R_celln 0 H2.out t p5 c6).1
        rw [show rdOf 0 (m.set t.toNat a) t = a from by show (m.set t.toNat a).getD t.toNat 0 = a; rw [List.getD_eq_getElem?_getD, List.getElem?_set_self (by omega)]; rfl] at h1
        exact h1
      clear hx0 hf0 hw HB HK HO HPP
      have e1 : (a == a) = true := by simp
      have e2 : decide (a = a) = true := by simp
      go_wp2
      go_ret
      exact ⟨by rw [E2.out]; first | rfl | (simp; done), by rw [E2.out]; exact H2.out, B2.out, K2.out⟩
    · have c3a : (rd m t != -1000) = true := bne_iff_ne.mpr c3
      have c3b : (rd m t == -1000) = false := beq_eq_false_iff_ne.mpr c3
      have c3c : decide (rd m t = -1000) = false := decide_eq_false c3
      by_cases c2 : rd m t = a
      · have E2 := Aside0.mk (show mSend m t a = some m from by rw [ES.out, if_neg c3, if_pos c2])
        have c2a : (rd m t != a) = false := bne_eq_false_iff_eq.mpr c2
        have c2b : (rd m t == a) = true := beq_iff_eq.mpr c2
        have c2c : decide (rd m t = a) = true := decide_eq_true c2
        clear c2 ES c3
        go_wp2
        go_ret
        exact ⟨by rw [E2.out]; first | rfl | (simp; done), by rw [E2.out]; exact HO.out, HB.out, HK.out⟩
      · have E2 := Aside0.mk (show mSend m t a = none from by rw [ES.out, if_neg c3, if_neg c2])
        have c2a : (rd m t != a) = true := bne_iff_ne.mpr c2
        have c2b : (rd m t == a) = false := beq_eq_false_iff_ne.mpr c2
        have c2c : decide (rd m t = a) = false := decide_eq_false c2
        clear c2 ES c3
        go_wp2
        go_ret
        exact ⟨by rw [E2.out]; first | rfl | (simp; done), by rw [E2.out]; exact HO.out, HB.out, HK.out⟩

/-- What stands while the program searches a body. -/
structure StT (w : World) (gf gt gy ga : Nat) (f0 f1 t0 t1 y0 a0 a1 : Value) (W : World) : Prop where
  bf : W.heap[gf]? = some (.cells #[f0, f1] 46 (0, 0))
  bt : W.heap[gt]? = some (.cells #[t0, t1] 46 (0, 0))
  bY : W.heap[gy]? = some (.cells #[y0] 138 (0, 0))
  ba : W.heap[ga]? = some (.cells #[a0, a1] 97 (0, 0))
  hb : Below w.heap.size w W
theorem StT.below {w : World} {gf gt gy ga : Nat} {f0 f1 t0 t1 y0 a0 a1 : Value} {W W2 : World} (h : StT w gf gt gy ga f0 f1 t0 t1 y0 a0 a1 W) (hb : Below W.heap.size W W2) : StT w gf gt gy ga f0 f1 t0 t1 y0 a0 a1 W2 :=
  ⟨blk_below h.bf hb, blk_below h.bt hb, blk_below h.bY hb, blk_below h.ba hb, below_step h.hb hb⟩
theorem StT.kept {w : World} {gf gt gy ga n : Nat} {f0 f1 t0 t1 y0 a0 a1 : Value} {W W2 : World} (h : StT w gf gt gy ga f0 f1 t0 t1 y0 a0 a1 W) (hk : Kept W W2 (fun k => n ≤ k)) (hb : Below w.heap.size w W2) (hf : gf < n) (ht : gt < n) (hy : gy < n) (ha : ga < n) : StT w gf gt gy ga f0 f1 t0 t1 y0 a0 a1 W2 :=
  ⟨blk_kept h.bf hk (by omega), blk_kept h.bt hk (by omega), blk_kept h.bY hk (by omega), blk_kept h.ba hk (by omega), hb⟩
theorem findSome_drop2 {α β : Type} (l : List α) (f : α → Option β) (i : Nat) (h : i < l.length) : (l.drop i).findSome? f = ((f l[i]).or ((l.drop (i + 1)).findSome? f)) := by
  rw [List.drop_eq_getElem_cons h, List.findSome?_cons]
  cases f l[i] <;> rfl
/-- How far two lists are sent. -/
def InvU (ts us m m' : List Int) (j : Nat) (b : Bool) : Prop := (b = true ∧ mUni (ts.drop j) (us.drop j) m' = mUni ts us m) ∨ (b = false ∧ mUni ts us m = (m', false))
theorem InvU.step {ts us m m' : List Int} {j : Nat} (h : InvU ts us m m' j true) (ht : j < ts.length) (hu : j < us.length) : InvU ts us m ((mSend m' ts[j] us[j]).getD m') (j + 1) (mSend m' ts[j] us[j]).isSome := by
  rcases h with ⟨_, h⟩ | ⟨h, _⟩
  · rw [List.drop_eq_getElem_cons ht, List.drop_eq_getElem_cons hu] at h
    simp only [mUni] at h
    cases e : mSend m' ts[j] us[j] with
    | none => rw [e] at h; exact .inr ⟨rfl, h.symm⟩
    | some m2 => rw [e] at h; exact .inl ⟨rfl, h⟩
  · cases h
theorem InvU.keep {ts us m m' : List Int} {j : Nat} (h : InvU ts us m m' j false) : InvU ts us m m' (j + 1) false := by
  rcases h with ⟨h, _⟩ | h
  · cases h
  · exact .inr h
theorem InvU.done {ts us m m' : List Int} {j : Nat} {b : Bool} (h : InvU ts us m m' j b) (ht : ts.length ≤ j) : mUni ts us m = (m', b) := by
  rcases h with ⟨hb, h⟩ | ⟨hb, h⟩
  · rw [hb, ← h, List.drop_eq_nil_of_le ht]; cases us.drop j <;> rfl
  · rw [hb, h]
set_option maxHeartbeats 8000000 in
set_option maxRecDepth 100000 in
theorem try_walk (Ah : Option Addr) (nh ch : Nat) (A1 : Option Addr) (c1 : Nat) (l1 : List S97) (Ai : Option Addr) (ni ci : Nat) (A2 : Option Addr) (c2 : Nat) (l2 : List S97) (gf gt gy B : Nat) (hz : (l1.length ≤ 1048576 ∧ l2.length ≤ 1048576) ∧ (∀ x ∈ l1, x.f1.length ≤ 1048576) ∧ ∀ a ∈ l1, okTs a.f1) :
    ∀ (rest pre : List S97), l1 = pre ++ rest → ∀ (A3 : Option Addr) (c3 : Nat) (m : List Int) (w : World), m.length = 20 → B ≤ w.heap.size → Kd.R (Kd.int .i64) 3 w B (fun _ => True) (.slice A3 m.length c3) m → Kd.C k97 w A1 l1.length l1 → Kd.C k97 w A2 l2.length l2 →
    w.heap[gf]? = some (.cells #[.slice Ah nh ch, .slice A1 l1.length c1] 46 (0, 0)) → w.heap[gt]? = some (.cells #[.slice Ai ni ci, .slice A2 l2.length c2] 46 (0, 0)) → w.heap[gy]? = some (.cells #[.func (.func 138) #[] #[.pointer (some ⟨gf, 0, none⟩), .pointer (some ⟨gt, 0, none⟩), .pointer (some ⟨gy, 0, none⟩)]] 138 (0, 0)) →
    Calls Try.prog 138 #[.slice A3 m.length c3, .int .i64 (pre.length : Int), .pointer (some ⟨gf, 0, none⟩), .pointer (some ⟨gt, 0, none⟩), .pointer (some ⟨gy, 0, none⟩)] w fun e w' => ∃ v : Value, e = .returned v ∧ ((∃ ys : List Int, mTry l2 rest m = some ys ∧ Kd.R (Kd.int .i64) 3 w' B (fun _ => True) v ys ∧ ys.length = 20) ∨ (v = .slice none 0 0 ∧ mTry l2 rest m = none)) ∧ Below w.heap.size w w' := by
  intro rest
  induction rest with
  | nil =>
    intro pre he A3 c3 m w hm hBw hr3 hr1 hr2 hbf hbt hby
    have hnn : ∀ W : World, (binOp BinOp.neq 38 (.slice none 0 0) (.slice none 0 0)).run Try.prog W = .ok (.bool false) W := fun W => nenil Try.underlying38 none 0 0 W
    have hns : ∀ (g : Addr) (n c : Nat) (W : World), (binOp BinOp.neq 38 (.slice (some g) n c) (.slice none 0 0)).run Try.prog W = .ok (.bool true) W := fun g n c W => nenil Try.underlying38 (some g) n c W
    have hu46 := Try.underlying46
    have hu97 := Try.underlying97
    have HZ := Aside0.mk hz
    have HE := Aside0.mk he
    have HM := Aside0.mk hm
    have HBW := Aside0.mk hBw
    have R3 := Aside0.mk hr3
    have R1 := Aside0.mk hr1
    have R2 := Aside0.mk hr2
    have HB := Aside0.mk (Below.refl w.heap.size w)
    have BF := Aside0.mk hbf
    have BT := Aside0.mk hbt
    have BY := Aside0.mk hby
    clear hm hBw hr3 hr1 hr2 he hz hbf hbt hby
    have e1 : (pre.length : Int) = (l1.length : Int) := by have h := HE.out; rw [h]; simp
    have hx1 : w.cell? ⟨gf, 1, none⟩ = some (.slice A1 l1.length c1) := (blk_cell BF.out 1).trans rfl
    go_enter Try.func138, Try.ntmps138
    have e2 : ((pre.length : Int) == (l1.length : Int)) = true := beq_iff_eq.mpr e1
    have e3 : decide ((pre.length : Int) = (l1.length : Int)) = true := decide_eq_true e1
    clear e1
    go_wp2
    go_ret
    exact ⟨_, rfl, .inl ⟨m, rfl, R3.out, HM.out⟩, HB.out⟩
  | cons a rest ih =>
    intro pre he A3 c3 m w hm hBw hr3 hr1 hr2 hbf hbt hby
    have hnn : ∀ W : World, (binOp BinOp.neq 38 (.slice none 0 0) (.slice none 0 0)).run Try.prog W = .ok (.bool false) W := fun W => nenil Try.underlying38 none 0 0 W
    have hns : ∀ (g : Addr) (n c : Nat) (W : World), (binOp BinOp.neq 38 (.slice (some g) n c) (.slice none 0 0)).run Try.prog W = .ok (.bool true) W := fun g n c W => nenil Try.underlying38 (some g) n c W
    have hu46 := Try.underlying46
    have hu97 := Try.underlying97
    have HZ := Aside0.mk hz
    have HE := Aside0.mk he
    have HM := Aside0.mk hm
    have HBW := Aside0.mk hBw
    have R3 := Aside0.mk hr3
    have R1 := Aside0.mk hr1
    have R2 := Aside0.mk hr2
    have HB := Aside0.mk (Below.refl w.heap.size w)
    have BF := Aside0.mk hbf
    have BT := Aside0.mk hbt
    have BY := Aside0.mk hby
    clear hm hBw hr3 hr1 hr2 he hz hbf hbt hby
    have HI := Aside0.mk ih
    clear ih
    have HLT := Aside0.mk (show (pre.length : Int) < (l1.length : Int) from lt_of HE.out)
    have HRD := Aside0.mk (show rd_T97 l1 (pre.length : Int) = a from rdIA_of HE.out)
    have HIN := Aside0.mk (show a ∈ l1 from by rw [HE.out]; simp)
    have HP := Aside0.mk (show (pre ++ [a]).length = pre.length + 1 from by simp)
    have HPE := Aside0.mk (show l1 = (pre ++ [a]) ++ rest from by rw [HE.out]; simp)
    obtain ⟨ad1, Aa, ca, e_, hxa0, hxa1, hla, hia⟩ := at_T97 R1.out (pre.length : Int) (by omega) HLT.out
    cases e_
    rw [HRD.out] at hxa0 hxa1 hla hia
    have IA := Aside0.mk hia
    have LA := Aside0.mk hla
    clear hla hia
    have p5 := eq_true (show 0 ≤ (pre.length : Int) by omega)
    have q5 := eq_true HLT.out
    generalize hi_ : (pre.length : Int) = ix at hxa0 hxa1 p5 q5 HLT ⊢
    have HIX := Aside0.mk hi_
    clear hi_
    have ne1 : (ix == (l1.length : Int)) = false := beq_eq_false_iff_ne.mpr (by have h := HLT.out; omega)
    have ne2 : decide (ix = (l1.length : Int)) = false := decide_eq_false (by have h := HLT.out; omega)
    have hx1 : w.cell? ⟨gf, 1, none⟩ = some (.slice (some ad1) l1.length c1) := (blk_cell BF.out 1).trans rfl
    go_enter Try.func138, Try.ntmps138
    go_wp2_with (first | ((with_reducible refine gate_dst (N := 8) rfl ?_); refine hold ?_))
    unfold Hold
    refine box_event ?hg2 (N := 8) ?hd2 (cs := #[.int .i64 0, .slice none 0 0]) (t := 97) ?hr2 ?_
    case hd2 => rfl
    case hg2 => rfl
    case hr2 => first | (go_simp; done) | (go_simp; rfl)
    intro ga hg w3 hbox hb
    have BA_ := Aside0.mk hbox
    have HG_ := Aside0.mk hg
    have HB5 := Aside0.mk hb
    clear hbox hg hb
    have hy0 : w3.cell? ⟨ga, 0, none⟩ = some (.int .i64 0) := (blk_cell BA_.out 0).trans rfl
    have hy1 : w3.cell? ⟨ga, 1, none⟩ = some (.slice none 0 0) := (blk_cell BA_.out 1).trans rfl
    have hf0 := blk_frozen BA_.out 0
    have hf1 := blk_frozen BA_.out 1
    go_wp2_with (first | ((with_reducible refine gate_store (t := 97) (p := 8) rfl ?_); refine hold ?_))
    unfold Hold
    refine store_event (t := 97) (p := 8) (v := ?vo_2) (w1 := ((w3.setCell ⟨ga, 0, none⟩ (.int .i64 a.f0)).setCell ⟨ga, 1, none⟩ (.slice Aa a.f1.length ca))) ?hgs2 ?ho2 ?hn2 ?hrs2 ?_
    case ho2 => rfl
    case hgs2 => rfl
    case hn2 => rfl
    case hrs2 => first | (go_simp; done) | (go_simp; rfl)
    intro w4 hw
    have hb : Below w.heap.size w w4 := by rw [hw]; exact (below_set (below_set HB5.out (by rw [HG_.out]; exact Nat.le_refl _)) (by rw [HG_.out]; exact Nat.le_refl _))
    have BN := Aside0.mk (show w4.heap[ga]? = some (.cells #[.int .i64 a.f0, .slice Aa a.f1.length ca] 97 (0, 0)) from by rw [hw]; exact (blk_put (cs := #[.int .i64 a.f0, .slice none 0 0]) (blk_put (cs := #[.int .i64 0, .slice none 0 0]) BA_.out 0 _ rfl) 1 _ rfl))
    have ST := Aside0.mk (show StT w gf gt gy ga (.slice Ah nh ch) (.slice (some ad1) l1.length c1) (.slice Ai ni ci) (.slice A2 l2.length c2) (.func (.func 138) #[] #[.pointer (some ⟨gf, 0, none⟩), .pointer (some ⟨gt, 0, none⟩), .pointer (some ⟨gy, 0, none⟩)]) (.int .i64 a.f0) (.slice Aa a.f1.length ca) w4 from ⟨blk_below BF.out hb, blk_below BT.out hb, blk_below BY.out hb, BN.out, below_step HB.out hb⟩)
    clear hw hb HB5 HG_ BA_ hy0 hf0 hy1 hf1
    clear BN BF BT BY HB hx1 hxa0 hxa1
    have hx1 : w4.cell? ⟨gt, 1, none⟩ = some (.slice A2 l2.length c2) := (blk_cell ST.out.bt 1).trans rfl
    go_wp2
    go_loopg [30] l2.length (fun kq v30 w' => ∃ x : Int, v30 = .int .i64 x ∧ Aside0 (0 ≤ x ∧ kq + x.toNat = l2.length) ∧ Aside0 ((l2.drop x.toNat).findSome? (fun b => if a.f0 = b.f0 ∧ a.f1.length = b.f1.length ∧ (mUni a.f1 b.f1 m).2 = true then mTry l2 rest (mUni a.f1 b.f1 m).1 else none) = l2.findSome? (fun b => if a.f0 = b.f0 ∧ a.f1.length = b.f1.length ∧ (mUni a.f1 b.f1 m).2 = true then mTry l2 rest (mUni a.f1 b.f1 m).1 else none)) ∧ Aside0 (StT w gf gt gy ga (.slice Ah nh ch) (.slice (some ad1) l1.length c1) (.slice Ai ni ci) (.slice A2 l2.length c2) (.func (.func 138) #[] #[.pointer (some ⟨gf, 0, none⟩), .pointer (some ⟨gt, 0, none⟩), .pointer (some ⟨gy, 0, none⟩)]) (.int .i64 a.f0) (.slice Aa a.f1.length ca) w'))
    case atStart => exact ⟨0, rfl, ⟨⟨Int.le_refl _, rfl⟩⟩, ⟨by rw [show (0 : Int).toNat = 0 from rfl, List.drop_zero]⟩, ST⟩
    case round =>
      clear ST hx1
      obtain ⟨x, rfl, HG, HF, ST⟩ := hrel
      by_cases c6 : x < (l2.length : Int)
      · have c6b0 : decide (x < (l2.length : Int)) = true := decide_eq_true c6
        have p5 : 0 ≤ x := HG.out.1
        have hlt : x.toNat < l2.length := by omega
        have HLT2 := Aside0.mk hlt
        obtain ⟨ad2, Ab, cb, e_, hxb0, hxb1, hlb, hib⟩ := at_T97 R2.out x p5 c6
        cases e_
        have IB := Aside0.mk hib
        have LB := Aside0.mk hlb
        replace hxb0 := (ST.out.hb.cell (World.block_lt_of_cell? w _ hxb0)).trans hxb0
        replace hxb1 := (ST.out.hb.cell (World.block_lt_of_cell? w _ hxb1)).trans hxb1
        have e1 : rd_T97 l2 x = l2[x.toNat] := by show l2.getD x.toNat _ = _; rw [List.getD_eq_getElem?_getD, List.getElem?_eq_getElem hlt]; rfl
        have HFS := Aside0.mk (show (l2.drop x.toNat).findSome? (fun b => if a.f0 = b.f0 ∧ a.f1.length = b.f1.length ∧ (mUni a.f1 b.f1 m).2 = true then mTry l2 rest (mUni a.f1 b.f1 m).1 else none) = (((fun b => if a.f0 = b.f0 ∧ a.f1.length = b.f1.length ∧ (mUni a.f1 b.f1 m).2 = true then mTry l2 rest (mUni a.f1 b.f1 m).1 else none) (rd_T97 l2 x)).or ((l2.drop (x.toNat + 1)).findSome? (fun b => if a.f0 = b.f0 ∧ a.f1.length = b.f1.length ∧ (mUni a.f1 b.f1 m).2 = true then mTry l2 rest (mUni a.f1 b.f1 m).1 else none))) from by rw [e1]; exact findSome_drop2 l2 _ x.toNat hlt)
        clear hib hlb hlt e1
        replace p5 := eq_true p5
        replace c6 := eq_true c6
        generalize rd_T97 l2 x = el at *
        go_wp2_with (first | ((with_reducible refine gate_dst (N := 10) rfl ?_); refine hold ?_))
        unfold Hold
        refine box_event ?hg3 (N := 10) ?hd3 (cs := #[.int .i64 0, .slice none 0 0]) (t := 97) ?hr3 ?_
        case hd3 => rfl
        case hg3 => rfl
        case hr3 => first | (go_simp; done) | (go_simp; rfl)
        intro gb hg w7 hbox hb
        have BA_ := Aside0.mk hbox
        have HG_ := Aside0.mk hg
        have HB5 := Aside0.mk hb
        clear hbox hg hb
        have hy0 : w7.cell? ⟨gb, 0, none⟩ = some (.int .i64 0) := (blk_cell BA_.out 0).trans rfl
        have hy1 : w7.cell? ⟨gb, 1, none⟩ = some (.slice none 0 0) := (blk_cell BA_.out 1).trans rfl
        have hf0 := blk_frozen BA_.out 0
        have hf1 := blk_frozen BA_.out 1
        go_wp2_with (first | ((with_reducible refine gate_store (t := 97) (p := 10) rfl ?_); refine hold ?_))
        unfold Hold
        refine store_event (t := 97) (p := 10) (v := ?vo_3) (w1 := ((w7.setCell ⟨gb, 0, none⟩ (.int .i64 el.f0)).setCell ⟨gb, 1, none⟩ (.slice Ab el.f1.length cb))) ?hgs3 ?ho3 ?hn3 ?hrs3 ?_
        case ho3 => rfl
        case hgs3 => rfl
        case hn3 => rfl
        case hrs3 => first | (go_simp; done) | (go_simp; rfl)
        intro w8 hw
        have hb : Below wr.heap.size wr w8 := by rw [hw]; exact (below_set (below_set HB5.out (by rw [HG_.out]; exact Nat.le_refl _)) (by rw [HG_.out]; exact Nat.le_refl _))
        have BN := Aside0.mk (show w8.heap[gb]? = some (.cells #[.int .i64 el.f0, .slice Ab el.f1.length cb] 97 (0, 0)) from by rw [hw]; exact (blk_put (cs := #[.int .i64 el.f0, .slice none 0 0]) (blk_put (cs := #[.int .i64 0, .slice none 0 0]) BA_.out 0 _ rfl) 1 _ rfl))
        replace ST := Aside0.mk (ST.out.below hb)
        clear hw hb HB5 HG_ BA_ hy0 hf0 hy1 hf1
        clear hxb0 hxb1
        have hx0 : w8.cell? ⟨ga, 0, none⟩ = some (.int .i64 a.f0) := (blk_cell ST.out.ba 0).trans rfl
        have hx1 : w8.cell? ⟨ga, 1, none⟩ = some (.slice Aa a.f1.length ca) := (blk_cell ST.out.ba 1).trans rfl
        have hx2 : w8.cell? ⟨gb, 0, none⟩ = some (.int .i64 el.f0) := (blk_cell BN.out 0).trans rfl
        have hx3 : w8.cell? ⟨gb, 1, none⟩ = some (.slice Ab el.f1.length cb) := (blk_cell BN.out 1).trans rfl
        by_cases d1 : a.f0 = el.f0
        · have D1 := Aside0.mk d1
          have d1a : (a.f0 != el.f0) = false := bne_eq_false_iff_eq.mpr d1
          have d1b : (a.f0 == el.f0) = true := beq_iff_eq.mpr d1
          have d1c : decide (a.f0 = el.f0) = true := decide_eq_true d1
          clear d1
          by_cases d2 : (a.f1.length : Int) = (el.f1.length : Int)
          · have D2 := Aside0.mk (show a.f1.length = el.f1.length from by omega)
            have d2a : ((a.f1.length : Int) != (el.f1.length : Int)) = false := bne_eq_false_iff_eq.mpr d2
            have d2b : ((a.f1.length : Int) == (el.f1.length : Int)) = true := beq_iff_eq.mpr d2
            have d2c : decide ((a.f1.length : Int) = (el.f1.length : Int)) = true := decide_eq_true d2
            clear d2
            obtain ⟨n9, hn9⟩ : ∃ n9 : Nat, n9 = w8.heap.size := ⟨_, rfl⟩
            have GL := Aside0.mk (show (gf < n9 ∧ gt < n9 ∧ gy < n9 ∧ ga < n9) ∧ gb < n9 ∧ w.heap.size ≤ n9 from by rw [hn9]; exact ⟨⟨blk_lt ST.out.bf, blk_lt ST.out.bt, blk_lt ST.out.bY, blk_lt ST.out.ba⟩, blk_lt BN.out, ST.out.hb.size⟩)
            go_wp2_with (first | (go_at_call 139; refine hold ?_))
            unfold Hold
            refine (impl_copyInts.calls A3 c3 m m _ (Kd.C_below (Kd.R_reads' R3.out).2.2 ST.out.hb) (Kd.R_reads' R3.out).2.1 (copyInts_eq m (by have := HM.out; omega))).mono ?_
            rintro e w9 ⟨vn, rfl, hon, hb⟩
            have ON := Aside0.mk (show Kd.R (Kd.int .i64) 3 w9 w.heap.size (fun k => n9 ≤ k) vn m from Kd.R_mono (newR hon ST.out.hb.size) (fun k hk => by rw [hn9]; exact hk.1.1))
            replace ST := Aside0.mk (ST.out.below hb)
            replace BN := Aside0.mk (blk_below BN.out hb)
            clear hon hb hx0 hx1 hx2 hx3 hn9
            have hx1 : w9.cell? ⟨ga, 1, none⟩ = some (.slice Aa a.f1.length ca) := (blk_cell ST.out.ba 1).trans rfl
            go_wp2
            go_loopg [12, 53] a.f1.length (fun kq v12 v53 w' => ∃ (bq : Bool) (j : Int) (mq : List Int), v12 = .bool bq ∧ v53 = .int .i64 j ∧ Aside0 (0 ≤ j ∧ kq + j.toNat = a.f1.length) ∧ Aside0 (InvU a.f1 el.f1 m mq j.toNat bq ∧ mq.length = 20) ∧ Aside0 (Kd.R (Kd.int .i64) 3 w' w.heap.size (fun k => n9 ≤ k) vn mq) ∧ Aside0 (w'.heap[gb]? = some (.cells #[.int .i64 el.f0, .slice Ab el.f1.length cb] 97 (0, 0))) ∧ Aside0 (StT w gf gt gy ga (.slice Ah nh ch) (.slice (some ad1) l1.length c1) (.slice Ai ni ci) (.slice (some ad2) l2.length c2) (.func (.func 138) #[] #[.pointer (some ⟨gf, 0, none⟩), .pointer (some ⟨gt, 0, none⟩), .pointer (some ⟨gy, 0, none⟩)]) (.int .i64 a.f0) (.slice Aa a.f1.length ca) w'))
            case atStart => exact ⟨true, 0, m, rfl, rfl, ⟨⟨Int.le_refl _, rfl⟩⟩, ⟨⟨.inl ⟨rfl, by rw [show (0 : Int).toNat = 0 from rfl, List.drop_zero, List.drop_zero]⟩, HM.out⟩⟩, ON, BN, ST⟩
            case round =>
              clear ON BN ST hx1
              obtain ⟨bq, j, mq, rfl, rfl, HG2, HV, ON, BN, ST⟩ := hrel
              by_cases c8 : j < (a.f1.length : Int)
              · have c8b0 : decide (j < (a.f1.length : Int)) = true := decide_eq_true c8
                have p7 : 0 ≤ j := HG2.out.1
                have hlt : j.toNat < a.f1.length := by omega
                have HLT3 := Aside0.mk hlt
                obtain ⟨ad3, e_, hxt⟩ := Kd.at_int IA.out j p7 c8
                replace hxt := (ST.out.hb.cell (World.block_lt_of_cell? w _ hxt)).trans hxt
                have c9 : j < (el.f1.length : Int) := by have := D2.out; omega
                obtain ⟨ad4, e4_, hxu⟩ := Kd.at_int IB.out j p7 c9
                replace hxu := (ST.out.hb.cell (World.block_lt_of_cell? w _ hxu)).trans hxu
                have et : rd a.f1 j = a.f1[j.toNat] := by show a.f1.getD j.toNat 0 = _; rw [List.getD_eq_getElem?_getD, List.getElem?_eq_getElem hlt]; rfl
                have eu : rd el.f1 j = el.f1[j.toNat]'(by have := D2.out; omega) := by show el.f1.getD j.toNat 0 = _; rw [List.getD_eq_getElem?_getD, List.getElem?_eq_getElem (by have := D2.out; omega)]; rfl
                have OKT := Aside0.mk (show rd a.f1 j < 20 from by rw [et]; exact HZ.out.2.2 a HIN.out _ (List.getElem_mem _))
                cases e_
                cases e4_
                replace p7 := eq_true p7
                replace c8 := eq_true c8
                replace c9 := eq_true c9
                cases bq
                · have HV2 := Aside0.mk (show InvU a.f1 el.f1 m mq (j.toNat + 1) false ∧ mq.length = 20 from ⟨HV.out.1.keep, HV.out.2⟩)
                  go_wp2
                  go_roundg (a.f1.length - (j.toNat + 1))
                  case measure => have := HG2.out; have := HLT3.out; omega
                  case rel => exact ⟨false, (wrap64 (j + 1)), mq, rfl, rfl, ⟨by have := HG2.out; have := HLT3.out; have h4 := HZ.out.2.1 a HIN.out; rw [w64 (by omega) (by omega)]; omega⟩, ⟨by rw [w64 (by have := HG2.out; omega) (by have h4 := HZ.out.2.1 a HIN.out; have := HLT3.out; omega), show (j + 1).toNat = j.toNat + 1 by have := HG2.out; omega]; exact HV2.out⟩, ON, BN, ST⟩
                · have HV2 := Aside0.mk (show InvU a.f1 el.f1 m ((mSend mq (rd a.f1 j) (rd el.f1 j)).getD mq) (j.toNat + 1) (mSend mq (rd a.f1 j) (rd el.f1 j)).isSome ∧ ((mSend mq (rd a.f1 j) (rd el.f1 j)).getD mq).length = 20 from ⟨by rw [et, eu]; exact HV.out.1.step _ _, by cases e : mSend mq (rd a.f1 j) (rd el.f1 j) with | none => exact HV.out.2 | some m2 => exact (mSend_len e).trans HV.out.2⟩)
                  clear et eu hlt
                  have hx3 : wr.cell? ⟨gb, 1, none⟩ = some (.slice (some ad4) el.f1.length cb) := (blk_cell BN.out 1).trans rfl
                  obtain ⟨An, cn, rfl⟩ := Kd.R_slice ON.out
                  go_wp2_with (first | (go_at_call 137; refine hold ?_))
                  unfold Hold
                  refine (send_calls (fun k => n9 ≤ k) (.slice An mq.length cn) mq (rd a.f1 j) (rd el.f1 j) w _ ST.out.hb ON.out HV.out.2 OKT.out).mono ?_
                  rintro e w10 ⟨rfl, hor, hbr, hkr⟩
                  replace ST := Aside0.mk (ST.out.kept hkr hbr GL.out.1.1 GL.out.1.2.1 GL.out.1.2.2.1 GL.out.1.2.2.2)
                  replace BN := Aside0.mk (blk_kept BN.out hkr (by have := GL.out.2.1; omega))
                  replace ON := Aside0.mk hor
                  clear hor hbr hkr hxt hxu hx3
                  generalize (mSend mq (rd a.f1 j) (rd el.f1 j)).isSome = b2 at HV2 ⊢
                  generalize (mSend mq (rd a.f1 j) (rd el.f1 j)).getD mq = m2 at HV2 ON
                  go_wp2
                  go_roundg (a.f1.length - (j.toNat + 1))
                  case measure => have := HG2.out; have := HLT3.out; omega
                  case rel => exact ⟨b2, (wrap64 (j + 1)), m2, rfl, rfl, ⟨by have := HG2.out; have := HLT3.out; have h4 := HZ.out.2.1 a HIN.out; rw [w64 (by omega) (by omega)]; omega⟩, ⟨by rw [w64 (by have := HG2.out; omega) (by have h4 := HZ.out.2.1 a HIN.out; have := HLT3.out; omega), show (j + 1).toNat = j.toNat + 1 by have := HG2.out; omega]; exact HV2.out⟩, ON, BN, ST⟩
              · have c8b0 : decide (j < (a.f1.length : Int)) = false := decide_eq_false c8
                have HU := Aside0.mk (show mUni a.f1 el.f1 m = (mq, bq) from HV.out.1.done (by have := HG2.out.1; omega))
                clear c8
                cases bq
                · have HU2 := Aside0.mk (show (mUni a.f1 el.f1 m).2 = false from by rw [HU.out])
                  have HX := Aside0.mk (show (l2.drop (x.toNat + 1)).findSome? (fun b => if a.f0 = b.f0 ∧ a.f1.length = b.f1.length ∧ (mUni a.f1 b.f1 m).2 = true then mTry l2 rest (mUni a.f1 b.f1 m).1 else none) = l2.findSome? (fun b => if a.f0 = b.f0 ∧ a.f1.length = b.f1.length ∧ (mUni a.f1 b.f1 m).2 = true then mTry l2 rest (mUni a.f1 b.f1 m).1 else none) from by rw [← HF.out, HFS.out]; rw [if_neg (by rw [HU2.out]; simp)]; rfl)
                  go_wp2
                  go_roundg (l2.length - (x.toNat + 1))
                  case measure => have := HG.out; have := HLT2.out; omega
                  case rel => exact ⟨(wrap64 (x + 1)), rfl, ⟨by have := HG.out; have := HLT2.out; have h4 := HZ.out.1; rw [w64 (by omega) (by omega)]; omega⟩, ⟨by rw [w64 (by have := HG.out; omega) (by have h4 := HZ.out.1; have := HLT2.out; omega), show (x + 1).toNat = x.toNat + 1 by have := HG.out; omega]; exact HX.out⟩, ST⟩
                · have HFE := Aside0.mk (show (fun b => if a.f0 = b.f0 ∧ a.f1.length = b.f1.length ∧ (mUni a.f1 b.f1 m).2 = true then mTry l2 rest (mUni a.f1 b.f1 m).1 else none) el = mTry l2 rest mq from by simp only []; rw [HU.out]; exact if_pos ⟨D1.out, D2.out, rfl⟩)
                  have hx0 : wr.cell? ⟨gy, 0, none⟩ = some (.func (.func 138) #[] #[.pointer (some ⟨gf, 0, none⟩), .pointer (some ⟨gt, 0, none⟩), .pointer (some ⟨gy, 0, none⟩)]) := (blk_cell ST.out.bY 0).trans rfl
                  obtain ⟨An, cn, rfl⟩ := Kd.R_slice ON.out
                  have ew : wrap64 (ix + 1) = ((pre ++ [a]).length : Int) := by rw [HP.out, ← HIX.out]; have h4 := HZ.out.1; have h5 := HLT.out; have h6 := HIX.out; rw [w64 (by omega) (by omega)]; omega
                  have EW := Aside0.mk ew
                  clear ew
                  go_wp2_with (first | (go_at_call 138; refine hold ?_))
                  unfold Hold
                  rw [EW.out]
                  refine (HI.out (pre ++ [a]) HPE.out An cn mq wr HV.out.2 (Nat.le_trans HBW.out ST.out.hb.size) (Kd.R_lower (Kd.R_mono ON.out (fun _ _ => trivial)) HBW.out) (Kd.C_below R1.out ST.out.hb) (Kd.C_below R2.out ST.out.hb) ST.out.bf ST.out.bt ST.out.bY).mono ?_
                  rintro e w11 ⟨vy, rfl, hyb, hb⟩
                  replace ST := Aside0.mk (ST.out.below hb)
                  clear hb hx0
                  rcases hyb with ⟨ys, hy1, hy2, hy3⟩ | ⟨rfl, hyb⟩
                  · have HX := Aside0.mk (show mTry l2 (a :: rest) m = some ys from by show l2.findSome? (fun b => if a.f0 = b.f0 ∧ a.f1.length = b.f1.length ∧ (mUni a.f1 b.f1 m).2 = true then mTry l2 rest (mUni a.f1 b.f1 m).1 else none) = _; rw [← HF.out, HFS.out, HFE.out, hy1]; rfl)
                    obtain ⟨gg, cg, rfl, _, _, _, _⟩ := Kd.R_form hy2 (by omega)
                    have Y2 := Aside0.mk hy2
                    have Y3 := Aside0.mk hy3
                    clear hy1 hy2 hy3
                    go_wp2
                    go_ret
                    exact ⟨_, rfl, .inl ⟨ys, HX.out, Y2.out, Y3.out⟩, ST.out.hb⟩
                  · have HYN := Aside0.mk hyb
                    clear hyb
                    have HX := Aside0.mk (show (l2.drop (x.toNat + 1)).findSome? (fun b => if a.f0 = b.f0 ∧ a.f1.length = b.f1.length ∧ (mUni a.f1 b.f1 m).2 = true then mTry l2 rest (mUni a.f1 b.f1 m).1 else none) = l2.findSome? (fun b => if a.f0 = b.f0 ∧ a.f1.length = b.f1.length ∧ (mUni a.f1 b.f1 m).2 = true then mTry l2 rest (mUni a.f1 b.f1 m).1 else none) from by rw [← HF.out, HFS.out]; rw [HFE.out, HYN.out]; rfl)
                    go_wp2
                    go_roundg (l2.length - (x.toNat + 1))
                    case measure => have := HG.out; have := HLT2.out; omega
                    case rel => exact ⟨(wrap64 (x + 1)), rfl, ⟨by have := HG.out; have := HLT2.out; have h4 := HZ.out.1; rw [w64 (by omega) (by omega)]; omega⟩, ⟨by rw [w64 (by have := HG.out; omega) (by have h4 := HZ.out.1; have := HLT2.out; omega), show (x + 1).toNat = x.toNat + 1 by have := HG.out; omega]; exact HX.out⟩, ST⟩
          · have D2 := Aside0.mk (show ¬ a.f1.length = el.f1.length from by omega)
            have d2a : ((a.f1.length : Int) != (el.f1.length : Int)) = true := bne_iff_ne.mpr d2
            have d2b : ((a.f1.length : Int) == (el.f1.length : Int)) = false := beq_eq_false_iff_ne.mpr d2
            have d2c : decide ((a.f1.length : Int) = (el.f1.length : Int)) = false := decide_eq_false d2
            clear d2
            have HX := Aside0.mk (show (l2.drop (x.toNat + 1)).findSome? (fun b => if a.f0 = b.f0 ∧ a.f1.length = b.f1.length ∧ (mUni a.f1 b.f1 m).2 = true then mTry l2 rest (mUni a.f1 b.f1 m).1 else none) = l2.findSome? (fun b => if a.f0 = b.f0 ∧ a.f1.length = b.f1.length ∧ (mUni a.f1 b.f1 m).2 = true then mTry l2 rest (mUni a.f1 b.f1 m).1 else none) from by rw [← HF.out, HFS.out]; rw [if_neg (fun h => D2.out h.2.1)]; rfl)
            go_wp2
            go_roundg (l2.length - (x.toNat + 1))
            case measure => have := HG.out; have := HLT2.out; omega
            case rel => exact ⟨(wrap64 (x + 1)), rfl, ⟨by have := HG.out; have := HLT2.out; have h4 := HZ.out.1; rw [w64 (by omega) (by omega)]; omega⟩, ⟨by rw [w64 (by have := HG.out; omega) (by have h4 := HZ.out.1; have := HLT2.out; omega), show (x + 1).toNat = x.toNat + 1 by have := HG.out; omega]; exact HX.out⟩, ST⟩
        · have D1 := Aside0.mk d1
          have d1a : (a.f0 != el.f0) = true := bne_iff_ne.mpr d1
          have d1b : (a.f0 == el.f0) = false := beq_eq_false_iff_ne.mpr d1
          have d1c : decide (a.f0 = el.f0) = false := decide_eq_false d1
          clear d1
          have HX := Aside0.mk (show (l2.drop (x.toNat + 1)).findSome? (fun b => if a.f0 = b.f0 ∧ a.f1.length = b.f1.length ∧ (mUni a.f1 b.f1 m).2 = true then mTry l2 rest (mUni a.f1 b.f1 m).1 else none) = l2.findSome? (fun b => if a.f0 = b.f0 ∧ a.f1.length = b.f1.length ∧ (mUni a.f1 b.f1 m).2 = true then mTry l2 rest (mUni a.f1 b.f1 m).1 else none) from by rw [← HF.out, HFS.out]; rw [if_neg (fun h => D1.out h.1)]; rfl)
          go_wp2
          go_roundg (l2.length - (x.toNat + 1))
          case measure => have := HG.out; have := HLT2.out; omega
          case rel => exact ⟨(wrap64 (x + 1)), rfl, ⟨by have := HG.out; have := HLT2.out; have h4 := HZ.out.1; rw [w64 (by omega) (by omega)]; omega⟩, ⟨by rw [w64 (by have := HG.out; omega) (by have h4 := HZ.out.1; have := HLT2.out; omega), show (x + 1).toNat = x.toNat + 1 by have := HG.out; omega]; exact HX.out⟩, ST⟩
      · have c6b0 : decide (x < (l2.length : Int)) = false := decide_eq_false c6
        have HX := Aside0.mk (show mTry l2 (a :: rest) m = none from by show l2.findSome? (fun b => if a.f0 = b.f0 ∧ a.f1.length = b.f1.length ∧ (mUni a.f1 b.f1 m).2 = true then mTry l2 rest (mUni a.f1 b.f1 m).1 else none) = _; rw [← HF.out, List.drop_eq_nil_of_le (by omega)]; rfl)
        clear c6
        go_wp2
        go_ret
        exact ⟨_, rfl, .inr ⟨rfl, HX.out⟩, ST.out.hb⟩

/-- The first i elements changed. -/
def upto {α : Type} (f : α → α) (l : List α) (i : Nat) : List α := (l.take i).map f ++ l.drop i
theorem upto_0 {α : Type} (f : α → α) (l : List α) : upto f l 0 = l := by simp [upto]
theorem upto_len {α : Type} (f : α → α) (l : List α) (i : Nat) : (upto f l i).length = l.length := by simp [upto]; omega
theorem upto_end {α : Type} (f : α → α) (l : List α) (i : Nat) (h : l.length ≤ i) : upto f l i = l.map f := by simp [upto, List.take_of_length_le h, List.drop_eq_nil_of_le h]
theorem upto_get {α : Type} (f : α → α) (l : List α) (i : Nat) (z : α) : (upto f l i).getD i z = l.getD i z := by
  unfold upto
  by_cases h : i < l.length
  · rw [List.getD_eq_getElem?_getD, List.getElem?_append_right (by simp; omega), List.getD_eq_getElem?_getD]
    simp [Nat.min_eq_left (Nat.le_of_lt h)]
  · rw [List.getD_eq_getElem?_getD, List.getD_eq_getElem?_getD, List.getElem?_eq_none (by simp; omega), List.getElem?_eq_none (by omega)]
theorem upto_step {α : Type} (f : α → α) (l : List α) (i : Nat) (z : α) (h : i < l.length) : (upto f l i).set i (f (l.getD i z)) = upto f l (i + 1) := by
  unfold upto
  rw [List.set_append_right _ _ (by simp; omega)]
  simp only [List.length_map, List.length_take, Nat.min_eq_left (Nat.le_of_lt h), Nat.sub_self]
  rw [List.drop_eq_getElem_cons h, List.set_cons_zero, List.take_succ_eq_append_getElem h, List.map_append, List.getD_eq_getElem?_getD, List.getElem?_eq_getElem h]
  simp

set_option maxHeartbeats 8000000 in
set_option maxRecDepth 100000 in
theorem mapping_calls (A0_0 : Option Addr) (c0_0 : Nat) (l0_0 : List Int) (A0_1 : Option Addr) (c0_1 : Nat) (l0_1 : List (S97)) (A1_0 : Option Addr) (c1_0 : Nat) (l1_0 : List Int) (A1_1 : Option Addr) (c1_1 : Nat) (l1_1 : List (S97)) (w : World) (hr0_0 : Kd.C (Kd.int .i64) w A0_0 l0_0.length l0_0) (hc0_0 : l0_0.length ≤ c0_0) (hr0_1 : Kd.C k97 w A0_1 l0_1.length l0_1) (hc0_1 : l0_1.length ≤ c0_1) (hr1_0 : Kd.C (Kd.int .i64) w A1_0 l1_0.length l1_0) (hc1_0 : l1_0.length ≤ c1_0) (hr1_1 : Kd.C k97 w A1_1 l1_1.length l1_1) (hc1_1 : l1_1.length ≤ c1_1) (hz : (l0_0.length ≤ 1048576 ∧ l0_1.length ≤ 1048576 ∧ l1_1.length ≤ 1048576) ∧ (∀ x ∈ l0_1, x.f1.length ≤ 1048576) ∧ okTs l0_0 ∧ ∀ a ∈ l0_1, okTs a.f1) :
    Calls Try.prog 106 #[.agg #[.slice A0_0 l0_0.length c0_0, .slice A0_1 l0_1.length c0_1], .agg #[.slice A1_0 l1_0.length c1_0, .slice A1_1 l1_1.length c1_1]] w fun e w' => ∃ v : Value, e = .returned (.tuple #[v, .bool (mFind l0_0 l0_1 l1_0 l1_1).2]) ∧ Kd.R (Kd.int .i64) 3 w' w.heap.size (fun _ => True) v (mFind l0_0 l0_1 l1_0 l1_1).1 ∧ Below w.heap.size w w' := by
  have hu46 := Try.underlying46
  have hnn : ∀ W : World, (binOp BinOp.eql 38 (.slice none 0 0) (.slice none 0 0)).run Try.prog W = .ok (.bool true) W := fun W => eqnil Try.underlying38 none 0 0 W
  have hns : ∀ (g : Addr) (n c : Nat) (W : World), (binOp BinOp.eql 38 (.slice (some g) n c) (.slice none 0 0)).run Try.prog W = .ok (.bool false) W := fun g n c W => eqnil Try.underlying38 (some g) n c W
  have hmf : ∀ (fn : Fn) (first cap : Array Value) (w : World), (Instr.makeFunc fn first cap).run Try.prog w = .ok (.func fn first cap) w := fun _ _ _ _ => rfl
  have HR0 := Aside0.mk hr0_0
  have HR1 := Aside0.mk hr0_1
  have HT0 := Aside0.mk hr1_0
  have HT1 := Aside0.mk hr1_1
  have HC := Aside0.mk (show l0_0.length ≤ c0_0 ∧ l0_1.length ≤ c0_1 ∧ l1_0.length ≤ c1_0 ∧ l1_1.length ≤ c1_1 from ⟨hc0_0, hc0_1, hc1_0, hc1_1⟩)
  have HZ := Aside0.mk hz
  have HB := Aside0.mk (Below.refl w.heap.size w)
  clear hr0_0 hr0_1 hr1_0 hr1_1 hc0_0 hc0_1 hc1_0 hc1_1 hz
  go_enter Try.func106, Try.ntmps106
  go_wp2_with (first | ((with_reducible refine gate_dst (N := 2) rfl ?_); refine hold ?_))
  unfold Hold
  refine box_event ?hg0 (N := 2) ?hd0 (cs := #[.slice A0_0 l0_0.length c0_0, .slice A0_1 l0_1.length c0_1]) (t := 46) ?hr0 ?_
  case hd0 => rfl
  case hg0 => rfl
  case hr0 => first | (go_simp; done) | (go_simp; rfl)
  intro gf hg w1 hbox hb
  have Bgf := Aside0.mk hbox
  replace HB := Aside0.mk (below_step HB.out hb)
  clear hbox hb hg
  go_wp2_with (first | ((with_reducible refine gate_dst (N := 3) rfl ?_); refine hold ?_))
  unfold Hold
  refine box_event ?hg1 (N := 3) ?hd1 (cs := #[.slice A1_0 l1_0.length c1_0, .slice A1_1 l1_1.length c1_1]) (t := 46) ?hr1 ?_
  case hd1 => rfl
  case hg1 => rfl
  case hr1 => first | (go_simp; done) | (go_simp; rfl)
  intro gt hg w2 hbox hb
  have Bgt := Aside0.mk hbox
  replace Bgf := Aside0.mk (blk_below Bgf.out hb)
  replace HB := Aside0.mk (below_step HB.out hb)
  clear hbox hb hg
  have hx0 : w2.cell? ⟨gf, 0, none⟩ = some (.slice A0_0 l0_0.length c0_0) := (blk_cell Bgf.out 0).trans rfl
  have hx1 : w2.cell? ⟨gt, 0, none⟩ = some (.slice A1_0 l1_0.length c1_0) := (blk_cell Bgt.out 0).trans rfl
  by_cases d1 : (l0_0.length : Int) = (l1_0.length : Int)
  · have D1 := Aside0.mk (show l0_0.length = l1_0.length from by omega)
    have d1a : ((l0_0.length : Int) != (l1_0.length : Int)) = false := bne_eq_false_iff_eq.mpr d1
    have d1b : ((l0_0.length : Int) == (l1_0.length : Int)) = true := beq_iff_eq.mpr d1
    have d1c : decide ((l0_0.length : Int) = (l1_0.length : Int)) = true := decide_eq_true d1
    clear d1
    obtain ⟨n3, hn3⟩ : ∃ n3 : Nat, n3 = w2.heap.size := ⟨_, rfl⟩
    have GL := Aside0.mk (show (gf < n3 ∧ gt < n3) ∧ w.heap.size ≤ n3 from by rw [hn3]; exact ⟨⟨blk_lt Bgf.out, blk_lt Bgt.out⟩, HB.out.size⟩)
    go_wp2_with (first | ((with_reducible refine gate_dst (N := 20) rfl ?_); refine hold ?_))
    unfold Hold
    refine Kd.R_make (Kd.int .i64) _ 3 rfl (N := 20) rfl 38 _ _ rfl (20 : Int) rfl rfl Try.underlying38 (.int .i64 0) 8 info3 rfl (by decide) (by omega) 0 (ok := fun _ => True) (okp := fun _ => True) rfl (fun _ hk => hk) trivial (by decide) (by decide) (Below.refl _ _) (Nat.le_refl _) ?_
    intro vm w3 ho hb hg_ hnew_
    clear hg_ hnew_
    have OM := Aside0.mk (show Kd.R (Kd.int .i64) 3 w3 w.heap.size (fun k => n3 ≤ k) vm (List.replicate 20 0) from Kd.R_mono (newR ho HB.out.size) (fun k hk => by rw [hn3]; exact hk.1.1))
    replace Bgf := Aside0.mk (blk_below Bgf.out hb)
    replace Bgt := Aside0.mk (blk_below Bgt.out hb)
    replace HB := Aside0.mk (below_step HB.out hb)
    clear ho hb hx0 hx1 hn3
    obtain ⟨Am, cm, rfl⟩ := Kd.R_slice OM.out
    have hl20 : (List.replicate 20 (0 : Int)).length = 20 := rfl
    rw [hl20] at OM
    rw [hl20]
    clear hl20
    go_wp2
    go_loopg [23] 20 (fun kq v23 w' => ∃ x : Int, v23 = .int .i64 x ∧ Aside0 (0 ≤ x ∧ kq + x.toNat = 20) ∧ Aside0 (Kd.R (Kd.int .i64) 3 w' w.heap.size (fun k => n3 ≤ k) (.slice Am 20 cm) (upto (fun _ => -1000) (List.replicate 20 0) x.toNat)) ∧ Aside0 (w'.heap[gf]? = some (.cells #[.slice A0_0 l0_0.length c0_0, .slice A0_1 l0_1.length c0_1] 46 (0, 0))) ∧ Aside0 (w'.heap[gt]? = some (.cells #[.slice A1_0 l1_0.length c1_0, .slice A1_1 l1_1.length c1_1] 46 (0, 0))) ∧ Aside0 (Below w.heap.size w w'))
    case atStart => exact ⟨0, rfl, ⟨⟨Int.le_refl _, rfl⟩⟩, ⟨by rw [show (0 : Int).toNat = 0 from rfl, upto_0]; exact OM.out⟩, Bgf, Bgt, HB⟩
    case round =>
      clear OM Bgf Bgt HB
      obtain ⟨x, rfl, HG, OM, Bgf, Bgt, HB⟩ := hrel
      by_cases c6 : x < 20
      · have c6b0 : decide (x < 20) = true := decide_eq_true c6
        have p5 : 0 ≤ x := HG.out.1
        have hlt : x.toNat < (List.replicate 20 (0 : Int)).length := by rw [List.length_replicate]; omega
        obtain ⟨go, co, eo, gb, gl, cl, hgo⟩ := Kd.R_form OM.out (by rw [upto_len]; decide)
        injection eo with ea en ec
        subst ea; subst ec
        clear en gl cl hgo
        have GB := Aside0.mk gb
        have NG := Aside0.mk (show n3 ≤ go from OM.out.1 go rfl)
        clear gb
        obtain ⟨hx5, hf5⟩ := Kd.R_celln 0 OM.out x p5 c6
        have HP := Aside0.mk (Kd.R_putg OM.out x (-1000))
        have HS := Aside0.mk (upto_step (fun _ : Int => (-1000 : Int)) (List.replicate 20 0) x.toNat 0 hlt)
        have HLT := Aside0.mk (show x.toNat < 20 from by omega)
        clear hlt
        replace p5 := eq_true p5
        replace c6 := eq_true c6
        go_wp2_with (first | ((with_reducible refine gate_store (t := 3) (p := 28) rfl ?_); refine hold ?_))
        unfold Hold
        refine store_event (t := 3) (p := 28) (v := ?vo_m) (w1 := (wr.setCell ⟨go, x.toNat, none⟩ (.int .i64 (-1000)))) ?hgm ?hom ?hnm ?hrm ?_
        case hom => rfl
        case hgm => rfl
        case hnm => rfl
        case hrm => first | (go_simp; done) | (go_simp; rfl)
        intro w4 hw
        have hk : Kept wr w4 (fun k => n3 ≤ k) := by rw [hw]; exact Kept.of_grown HP.out.2 (Kept.refl _ _) (fun k he => .inl (by injection he with he; subst he; exact NG.out))
        have OM2 := Aside0.mk (show Kd.R (Kd.int .i64) 3 w4 w.heap.size (fun k => n3 ≤ k) (.slice (some ⟨go, 0, none⟩) 20 cm) (upto (fun _ => -1000) (List.replicate 20 0) (x.toNat + 1)) from by rw [hw, ← HS.out]; exact HP.out.1)
        replace Bgf := Aside0.mk (blk_kept Bgf.out hk (by have := GL.out; omega))
        replace Bgt := Aside0.mk (blk_kept Bgt.out hk (by have := GL.out; omega))
        replace HB := Aside0.mk (show Below w.heap.size w w4 from by rw [hw]; exact below_set HB.out GB.out)
        clear hk hw OM HP hx5 hf5
        go_wp2
        go_roundg (20 - (x.toNat + 1))
        case measure => have := HG.out; have := HLT.out; omega
        case rel => exact ⟨(wrap64 (x + 1)), rfl, ⟨by have := HG.out; have := HLT.out; rw [w64 (by omega) (by omega)]; omega⟩, ⟨by rw [w64 (by have := HG.out; omega) (by have := HLT.out; omega), show (x + 1).toNat = x.toNat + 1 by have := HG.out; omega]; exact OM2.out⟩, Bgf, Bgt, HB⟩
      · have c6b0 : decide (x < 20) = false := decide_eq_false c6
        have ON := Aside0.mk (show Kd.R (Kd.int .i64) 3 wr w.heap.size (fun k => n3 ≤ k) (.slice Am 20 cm) mNone from by have h := OM.out; rw [upto_end _ _ _ (by rw [List.length_replicate]; omega)] at h; exact h)
        clear c6 OM HG
        have hx0 : wr.cell? ⟨gf, 0, none⟩ = some (.slice A0_0 l0_0.length c0_0) := (blk_cell Bgf.out 0).trans rfl
        go_wp2
        go_loopg [33] l0_0.length (fun kq v33 w' => ∃ (j : Int) (mq : List Int), v33 = .int .i64 j ∧ Aside0 (0 ≤ j ∧ kq + j.toNat = l0_0.length) ∧ Aside0 (InvU l0_0 l1_0 mNone mq j.toNat true ∧ mq.length = 20) ∧ Aside0 (Kd.R (Kd.int .i64) 3 w' w.heap.size (fun k => n3 ≤ k) (.slice Am 20 cm) mq) ∧ Aside0 (w'.heap[gf]? = some (.cells #[.slice A0_0 l0_0.length c0_0, .slice A0_1 l0_1.length c0_1] 46 (0, 0))) ∧ Aside0 (w'.heap[gt]? = some (.cells #[.slice A1_0 l1_0.length c1_0, .slice A1_1 l1_1.length c1_1] 46 (0, 0))) ∧ Aside0 (Below w.heap.size w w'))
        case atStart => exact ⟨0, mNone, rfl, ⟨⟨Int.le_refl _, rfl⟩⟩, ⟨⟨.inl ⟨rfl, by rw [show (0 : Int).toNat = 0 from rfl, List.drop_zero, List.drop_zero]⟩, mNone_len⟩⟩, ON, Bgf, Bgt, HB⟩
        case round =>
          clear ON Bgf Bgt HB hx0
          obtain ⟨j, mq, rfl, HG, HV, ON, Bgf, Bgt, HB⟩ := hrel
          by_cases c8 : j < (l0_0.length : Int)
          · have c8b0 : decide (j < (l0_0.length : Int)) = true := decide_eq_true c8
            have p7 : 0 ≤ j := HG.out.1
            have hlt : j.toNat < l0_0.length := by omega
            have HLT3 := Aside0.mk hlt
            obtain ⟨ad3, e_, hxt⟩ := Kd.at_int HR0.out j p7 c8
            replace hxt := (HB.out.cell (World.block_lt_of_cell? w _ hxt)).trans hxt
            have c9 : j < (l1_0.length : Int) := by have := D1.out; omega
            obtain ⟨ad4, e4_, hxu⟩ := Kd.at_int HT0.out j p7 c9
            replace hxu := (HB.out.cell (World.block_lt_of_cell? w _ hxu)).trans hxu
            have et : rd l0_0 j = l0_0[j.toNat] := by show l0_0.getD j.toNat 0 = _; rw [List.getD_eq_getElem?_getD, List.getElem?_eq_getElem hlt]; rfl
            have eu : rd l1_0 j = l1_0[j.toNat]'(by have := D1.out; omega) := by show l1_0.getD j.toNat 0 = _; rw [List.getD_eq_getElem?_getD, List.getElem?_eq_getElem (by have := D1.out; omega)]; rfl
            have OKT := Aside0.mk (show rd l0_0 j < 20 from by rw [et]; exact HZ.out.2.2.1 _ (List.getElem_mem _))
            cases e_
            cases e4_
            replace p7 := eq_true p7
            replace c8 := eq_true c8
            replace c9 := eq_true c9
            have HV2 := Aside0.mk (show InvU l0_0 l1_0 mNone ((mSend mq (rd l0_0 j) (rd l1_0 j)).getD mq) (j.toNat + 1) (mSend mq (rd l0_0 j) (rd l1_0 j)).isSome ∧ ((mSend mq (rd l0_0 j) (rd l1_0 j)).getD mq).length = 20 from ⟨by rw [et, eu]; exact HV.out.1.step _ _, by cases e : mSend mq (rd l0_0 j) (rd l1_0 j) with | none => exact HV.out.2 | some m2 => exact (mSend_len e).trans HV.out.2⟩)
            clear et eu hlt
            have hx1 : wr.cell? ⟨gt, 0, none⟩ = some (.slice (some ad4) l1_0.length c1_0) := (blk_cell Bgt.out 0).trans rfl
            go_wp2_with (first | (go_at_call 137; refine hold ?_))
            unfold Hold
            refine (send_calls (fun k => n3 ≤ k) (.slice Am 20 cm) mq (rd l0_0 j) (rd l1_0 j) w _ HB.out ON.out HV.out.2 OKT.out).mono ?_
            rintro e w10 ⟨rfl, hor, hbr, hkr⟩
            replace Bgf := Aside0.mk (blk_kept Bgf.out hkr (by have := GL.out; omega))
            replace Bgt := Aside0.mk (blk_kept Bgt.out hkr (by have := GL.out; omega))
            replace HB := Aside0.mk hbr
            replace ON := Aside0.mk hor
            clear hor hbr hkr hxt hxu hx1
            generalize (mSend mq (rd l0_0 j) (rd l1_0 j)).getD mq = m2 at HV2 ON
            cases hb2 : (mSend mq (rd l0_0 j) (rd l1_0 j)).isSome
            · have HF := Aside0.mk (show (mUni l0_0 l1_0 mNone).2 = false from by have h := HV2.out.1; rw [hb2] at h; rcases h with ⟨h, _⟩ | ⟨_, h⟩ <;> first | cases h | rw [h])
              have EM := Aside0.mk (show mFind l0_0 l0_1 l1_0 l1_1 = ([], false) from by unfold mFind; rw [if_neg (by rw [HF.out]; simp)])
              clear hb2
              go_wp2_with (first | ((with_reducible refine gate_dst (N := 47) rfl ?_); refine hold ?_))
              unfold Hold
              refine Kd.R_lit (Kd.int .i64) _ 3 ?hglb (N := 47) ?hdlb (xs := ([] : List Int)) (inner := []) (ok := fun _ => True) (okp := fun _ => True) ?hrlb ?hplb (fun _ hk => hk) trivial (Below.refl _ _) (Nat.le_refl _) (by simp) ?_
              case hdlb => rfl
              case hglb => rfl
              case hrlb => first | (go_simp; done) | (go_simp; rfl)
              case hplb => exact (Reps.none _ _)
              intro vl wl ho hb hg_ hnew_
              clear hg_ hnew_
              have OL := Aside0.mk (Kd.R_lower ho HB.out.size)
              have BL := Aside0.mk (below_step HB.out hb)
              clear ho hb
              go_wp2
              go_ret2
              exact ⟨_, by rw [EM.out]; rfl, by rw [EM.out]; exact OL.out, BL.out⟩
            · have HV3 := Aside0.mk (show InvU l0_0 l1_0 mNone m2 (j.toNat + 1) true ∧ m2.length = 20 from ⟨by have h := HV2.out.1; rw [hb2] at h; exact h, HV2.out.2⟩)
              clear hb2 HV2
              go_wp2
              go_roundg (l0_0.length - (j.toNat + 1))
              case measure => have := HG.out; have := HLT3.out; omega
              case rel => exact ⟨(wrap64 (j + 1)), m2, rfl, ⟨by have := HG.out; have := HLT3.out; have h4 := HZ.out.1.1; rw [w64 (by omega) (by omega)]; omega⟩, ⟨by rw [w64 (by have := HG.out; omega) (by have h4 := HZ.out.1.1; have := HLT3.out; omega), show (j + 1).toNat = j.toNat + 1 by have := HG.out; omega]; exact HV3.out⟩, ON, Bgf, Bgt, HB⟩
          · have c8b0 : decide (j < (l0_0.length : Int)) = false := decide_eq_false c8
            have HU := Aside0.mk (show mUni l0_0 l1_0 mNone = (mq, true) from HV.out.1.done (by have := HG.out.1; omega))
            clear c8
            have OQ := Aside0.mk (show Kd.R (Kd.int .i64) 3 wr w.heap.size (fun _ => True) (.slice Am mq.length cm) mq from by rw [HV.out.2]; exact Kd.R_mono ON.out (fun _ _ => trivial))
            clear ON
            go_wp2_with (first | ((with_reducible refine gate_dst (N := 10) rfl ?_); refine hold ?_))
            unfold Hold
            refine box_event ?hgy (N := 10) ?hdy (cs := #[.nilFunc]) (t := 138) ?hry ?_
            case hdy => rfl
            case hgy => rfl
            case hry => first | (go_simp; done) | (go_simp; rfl)
            intro gy hg w5 hbox hb
            have BY0 := Aside0.mk hbox
            have HG_ := Aside0.mk hg
            have HB5 := Aside0.mk hb
            clear hbox hg hb
            have hy0 : w5.cell? ⟨gy, 0, none⟩ = some .nilFunc := (blk_cell BY0.out 0).trans rfl
            have hf0 := blk_frozen BY0.out 0
            go_wp2_with (first | ((with_reducible refine gate_store (t := 138) (p := 10) rfl ?_); refine hold ?_))
            unfold Hold
            refine store_event (t := 138) (p := 10) (v := ?vo_y) (w1 := (w5.setCell ⟨gy, 0, none⟩ (.func (.func 138) #[] #[.pointer (some ⟨gf, 0, none⟩), .pointer (some ⟨gt, 0, none⟩), .pointer (some ⟨gy, 0, none⟩)]))) ?hgsy ?hosy ?hnsy ?hrsy ?_
            case hosy => rfl
            case hgsy => rfl
            case hnsy => rfl
            case hrsy => first | (go_simp; done) | (go_simp; rfl)
            intro w6 hw
            have hb : Below wr.heap.size wr w6 := by rw [hw]; exact below_set HB5.out (by rw [HG_.out]; exact Nat.le_refl _)
            have BY := Aside0.mk (show w6.heap[gy]? = some (.cells #[.func (.func 138) #[] #[.pointer (some ⟨gf, 0, none⟩), .pointer (some ⟨gt, 0, none⟩), .pointer (some ⟨gy, 0, none⟩)]] 138 (0, 0)) from by rw [hw]; exact blk_put (cs := #[.nilFunc]) BY0.out 0 _ rfl)
            replace Bgf := Aside0.mk (blk_below Bgf.out hb)
            replace Bgt := Aside0.mk (blk_below Bgt.out hb)
            replace HB := Aside0.mk (below_step HB.out hb)
            replace OQ := Aside0.mk (Kd.R_below OQ.out hb)
            clear hw hb BY0 HG_ HB5 hy0 hf0
            have hx0 : w6.cell? ⟨gy, 0, none⟩ = some (.func (.func 138) #[] #[.pointer (some ⟨gf, 0, none⟩), .pointer (some ⟨gt, 0, none⟩), .pointer (some ⟨gy, 0, none⟩)]) := (blk_cell BY.out 0).trans rfl
            go_wp2_with (first | (go_at_call 138; refine hold ?_))
            unfold Hold
            rw [show (20 : Nat) = mq.length from HV.out.2.symm]
            refine (try_walk A0_0 l0_0.length c0_0 A0_1 c0_1 l0_1 A1_0 l1_0.length c1_0 A1_1 c1_1 l1_1 gf gt gy w.heap.size ⟨HZ.out.1.2, HZ.out.2.1, HZ.out.2.2.2⟩ l0_1 [] rfl Am cm mq w6 HV.out.2 HB.out.size OQ.out (Kd.C_below HR1.out HB.out) (Kd.C_below HT1.out HB.out) Bgf.out Bgt.out BY.out).mono ?_
            rintro e w7 ⟨vy, rfl, hyb, hb⟩
            replace HB := Aside0.mk (below_step HB.out hb)
            clear hb hx0 BY Bgf Bgt OQ
            rcases hyb with ⟨ys, hy1, hy2, hy3⟩ | ⟨rfl, hyb⟩
            · have EM := Aside0.mk (show mFind l0_0 l0_1 l1_0 l1_1 = (ys, true) from mFind_some D1.out (by rw [HU.out]) (by rw [HU.out]; exact hy1))
              obtain ⟨gg, cg, rfl, _, _, _, _⟩ := Kd.R_form hy2 (by omega)
              have Y2 := Aside0.mk hy2
              clear hy1 hy2 hy3
              go_wp2
              go_ret2
              exact ⟨_, by rw [EM.out]; rfl, by rw [EM.out]; exact Y2.out, HB.out⟩
            · have EM := Aside0.mk (show mFind l0_0 l0_1 l1_0 l1_1 = ([], false) from mFind_none D1.out (by rw [HU.out]) (by rw [HU.out]; exact hyb))
              clear hyb
              go_wp2_with (first | ((with_reducible refine gate_dst (N := 55) rfl ?_); refine hold ?_))
              unfold Hold
              refine Kd.R_lit (Kd.int .i64) _ 3 ?hgle (N := 55) ?hdle (xs := ([] : List Int)) (inner := []) (ok := fun _ => True) (okp := fun _ => True) ?hrle ?hple (fun _ hk => hk) trivial (Below.refl _ _) (Nat.le_refl _) (by simp) ?_
              case hdle => rfl
              case hgle => rfl
              case hrle => first | (go_simp; done) | (go_simp; rfl)
              case hple => exact (Reps.none _ _)
              intro vl wl ho hb hg_ hnew_
              clear hg_ hnew_
              have OL := Aside0.mk (Kd.R_lower ho HB.out.size)
              have BL := Aside0.mk (below_step HB.out hb)
              clear ho hb
              go_wp2
              go_ret2
              exact ⟨_, by rw [EM.out]; rfl, by rw [EM.out]; exact OL.out, BL.out⟩
  · have EM := Aside0.mk (show mFind l0_0 l0_1 l1_0 l1_1 = ([], false) from by unfold mFind; rw [if_neg (fun h => d1 (by have := h.1; omega))])
    have d1a : ((l0_0.length : Int) != (l1_0.length : Int)) = true := bne_iff_ne.mpr d1
    have d1b : ((l0_0.length : Int) == (l1_0.length : Int)) = false := beq_eq_false_iff_ne.mpr d1
    have d1c : decide ((l0_0.length : Int) = (l1_0.length : Int)) = false := decide_eq_false d1
    clear d1
    go_wp2_with (first | ((with_reducible refine gate_dst (N := 19) rfl ?_); refine hold ?_))
    unfold Hold
    refine Kd.R_lit (Kd.int .i64) _ 3 ?hglz (N := 19) ?hdlz (xs := ([] : List Int)) (inner := []) (ok := fun _ => True) (okp := fun _ => True) ?hrlz ?hplz (fun _ hk => hk) trivial (Below.refl _ _) (Nat.le_refl _) (by simp) ?_
    case hdlz => rfl
    case hglz => rfl
    case hrlz => first | (go_simp; done) | (go_simp; rfl)
    case hplz => exact (Reps.none _ _)
    intro vl wl ho hb hg_ hnew_
    clear hg_ hnew_
    have OL := Aside0.mk (Kd.R_lower ho HB.out.size)
    have BL := Aside0.mk (below_step HB.out hb)
    clear ho hb
    go_wp2
    go_ret2
    exact ⟨_, by rw [EM.out]; rfl, by rw [EM.out]; exact OL.out, BL.out⟩

set_option maxHeartbeats 8000000 in
set_option maxRecDepth 100000 in
theorem spec_FindMapping_calls (A0_0 : Option Addr) (c0_0 : Nat) (l0_0 : List Int) (A1_0 : Option Addr) (c1_0 : Nat) (l1_0 : List Int) (A1_1 : Option Addr) (c1_1 : Nat) (l1_1 : List (S97)) (A2_0 : Option Addr) (c2_0 : Nat) (l2_0 : List Int) (A2_1 : Option Addr) (c2_1 : Nat) (l2_1 : List (S97)) (r1 : List Int) (r2 : Bool) (w : World) (hr0_0 : Kd.C (Kd.int .i64) w A0_0 l0_0.length l0_0) (hc0_0 : l0_0.length ≤ c0_0) (hr1_0 : Kd.C (Kd.int .i64) w A1_0 l1_0.length l1_0) (hc1_0 : l1_0.length ≤ c1_0) (hr1_1 : Kd.C k97 w A1_1 l1_1.length l1_1) (hc1_1 : l1_1.length ≤ c1_1) (hr2_0 : Kd.C (Kd.int .i64) w A2_0 l2_0.length l2_0) (hc2_0 : l2_0.length ≤ c2_0) (hr2_1 : Kd.C k97 w A2_1 l2_1.length l2_1) (hc2_1 : l2_1.length ≤ c2_1) (hz0 : (l0_0.length ≤ 1048576 ∧ l1_0.length ≤ 1048576 ∧ l1_1.length ≤ 1048576 ∧ l2_0.length ≤ 1048576 ∧ l2_1.length ≤ 1048576) ∧ (∀ x ∈ l1_1, x.f1.length ≤ 1048576) ∧ ∀ x ∈ l2_1, x.f1.length ≤ 1048576) (h : mFindQ l0_0 l1_0 l1_1 l2_0 l2_1 = (r1, r2)) :
    Calls Try.prog 56 #[.agg #[.slice A0_0 l0_0.length c0_0], .agg #[.slice A1_0 l1_0.length c1_0, .slice A1_1 l1_1.length c1_1], .agg #[.slice A2_0 l2_0.length c2_0, .slice A2_1 l2_1.length c2_1]] w fun e w' => ∃ v0_ : Value, e = .returned (.tuple #[v0_, .bool r2]) ∧ Kd.R (Kd.int .i64) 3 w' w.heap.size (fun _ => True) v0_ r1 ∧ Below w.heap.size w w' := by
  obtain ⟨⟨z0, z1, z2, z3, z4⟩, zs1, zs2⟩ := hz0
  obtain ⟨k1, hk1⟩ := (specIsQuery_ev l0_0 l1_0 l1_1 z0 z1 z2 zs1).rounds
  obtain ⟨k2, hk2⟩ := (specIsQuery_ev l0_0 l2_0 l2_1 z0 z3 z4 zs2).rounds
  have hu65 := Try.underlying65
  have hu46 := Try.underlying46
  have HZ := Aside0.mk (show (l1_0.length ≤ 1048576 ∧ l1_1.length ≤ 1048576 ∧ l2_1.length ≤ 1048576) ∧ ∀ x ∈ l1_1, x.f1.length ≤ 1048576 from ⟨⟨z1, z2, z4⟩, zs1⟩)
  have HOQ := Aside0.mk (fun h_ : mIsQuery l0_0 l1_0 l1_1 = true => okQ h_)
  unfold mFindQ at h
  generalize mIsQuery l0_0 l1_0 l1_1 = b1 at hk1 h HOQ
  generalize mIsQuery l0_0 l2_0 l2_1 = b2 at hk2 h
  have K1 := Aside0.mk hk1
  have K2 := Aside0.mk hk2
  have R0 := Aside0.mk hr0_0
  have R1 := Aside0.mk hr1_0
  have R2 := Aside0.mk hr1_1
  have R3 := Aside0.mk hr2_0
  have R4 := Aside0.mk hr2_1
  have HC := Aside0.mk (show l0_0.length ≤ c0_0 ∧ l1_0.length ≤ c1_0 ∧ l1_1.length ≤ c1_1 ∧ l2_0.length ≤ c2_0 ∧ l2_1.length ≤ c2_1 from ⟨hc0_0, hc1_0, hc1_1, hc2_0, hc2_1⟩)
  have HB := Aside0.mk (Below.refl w.heap.size w)
  have HE := Aside0.mk h
  clear hk1 hk2 hr0_0 hr1_0 hr1_1 hr2_0 hr2_1 hc0_0 hc1_0 hc1_1 hc2_0 hc2_1 z0 z1 z2 z3 z4 zs1 zs2 h
  go_enter Try.func56, Try.ntmps56
  go_wp2_with (first | ((with_reducible refine gate_dst (N := 3) rfl ?_); refine hold ?_))
  unfold Hold
  refine box_event ?hg0 (N := 3) ?hd0 (cs := #[.slice A0_0 l0_0.length c0_0]) (t := 65) ?hr0 ?_
  case hd0 => rfl
  case hg0 => rfl
  case hr0 => first | (go_simp; done) | (go_simp; rfl)
  intro g0 hg w1 hbox hb
  have Bg0 := Aside0.mk hbox
  replace HB := Aside0.mk (below_step HB.out hb)
  clear hbox hb hg
  go_wp2_with (first | ((with_reducible refine gate_dst (N := 4) rfl ?_); refine hold ?_))
  unfold Hold
  refine box_event ?hg1 (N := 4) ?hd1 (cs := #[.slice A1_0 l1_0.length c1_0, .slice A1_1 l1_1.length c1_1]) (t := 46) ?hr1 ?_
  case hd1 => rfl
  case hg1 => rfl
  case hr1 => first | (go_simp; done) | (go_simp; rfl)
  intro g1 hg w2 hbox hb
  have Bg1 := Aside0.mk hbox
  replace Bg0 := Aside0.mk (blk_below Bg0.out hb)
  replace HB := Aside0.mk (below_step HB.out hb)
  clear hbox hb hg
  go_wp2_with (first | ((with_reducible refine gate_dst (N := 5) rfl ?_); refine hold ?_))
  unfold Hold
  refine box_event ?hg2 (N := 5) ?hd2 (cs := #[.slice A2_0 l2_0.length c2_0, .slice A2_1 l2_1.length c2_1]) (t := 46) ?hr2 ?_
  case hd2 => rfl
  case hg2 => rfl
  case hr2 => first | (go_simp; done) | (go_simp; rfl)
  intro g2 hg w3 hbox hb
  have Bg2 := Aside0.mk hbox
  replace Bg0 := Aside0.mk (blk_below Bg0.out hb)
  replace Bg1 := Aside0.mk (blk_below Bg1.out hb)
  replace HB := Aside0.mk (below_step HB.out hb)
  clear hbox hb hg
  have hx0 : w3.cell? ⟨g0, 0, none⟩ = some (.slice A0_0 l0_0.length c0_0) := (blk_cell Bg0.out 0).trans rfl
  have hx1 : w3.cell? ⟨g1, 0, none⟩ = some (.slice A1_0 l1_0.length c1_0) := (blk_cell Bg1.out 0).trans rfl
  have hx2 : w3.cell? ⟨g1, 1, none⟩ = some (.slice A1_1 l1_1.length c1_1) := (blk_cell Bg1.out 1).trans rfl
  go_wp2_with (first | (go_at_call 101; refine hold ?_))
  unfold Hold
  refine (spec_IsQuery.calls k1 _ _ l0_0 _ _ l1_0 _ _ l1_1 b1 _ (Kd.C_below R0.out HB.out) HC.out.1 (Kd.C_below R1.out HB.out) HC.out.2.1 (Kd.C_below R2.out HB.out) HC.out.2.2.1 K1.out).mono ?_
  rintro e w4 ⟨rfl, hb⟩
  replace Bg0 := Aside0.mk (blk_below Bg0.out hb)
  replace Bg1 := Aside0.mk (blk_below Bg1.out hb)
  replace Bg2 := Aside0.mk (blk_below Bg2.out hb)
  replace HB := Aside0.mk (below_step HB.out hb)
  clear hb
  clear hx0 hx1 hx2
  cases b1
  · have EM := Aside0.mk (show r1 = [] ∧ r2 = false from by have h := HE.out; rw [if_neg (by simp)] at h; injection h with h1 h2; exact ⟨h1.symm, h2.symm⟩)
    go_wp2_with (first | ((with_reducible refine gate_dst (N := 20) rfl ?_); refine hold ?_))
    unfold Hold
    refine Kd.R_lit (Kd.int .i64) _ 3 ?hglp (N := 20) ?hdlp (xs := ([] : List Int)) (inner := []) (ok := fun _ => True) (okp := fun _ => True) ?hrlp ?hplp (fun _ hk => hk) trivial (Below.refl _ _) (Nat.le_refl _) (by simp) ?_
    case hdlp => rfl
    case hglp => rfl
    case hrlp => first | (go_simp; done) | (go_simp; rfl)
    case hplp => exact (Reps.none _ _)
    intro vl wl ho hb hg_ hnew_
    clear hg_ hnew_
    have OL := Aside0.mk (Kd.R_lower ho HB.out.size)
    have BL := Aside0.mk (below_step HB.out hb)
    clear ho hb
    go_wp2
    go_ret2
    exact ⟨_, by rw [EM.out.2]; rfl, by rw [EM.out.1]; exact OL.out, BL.out⟩
  have hx0 : w4.cell? ⟨g0, 0, none⟩ = some (.slice A0_0 l0_0.length c0_0) := (blk_cell Bg0.out 0).trans rfl
  have hx1 : w4.cell? ⟨g2, 0, none⟩ = some (.slice A2_0 l2_0.length c2_0) := (blk_cell Bg2.out 0).trans rfl
  have hx2 : w4.cell? ⟨g2, 1, none⟩ = some (.slice A2_1 l2_1.length c2_1) := (blk_cell Bg2.out 1).trans rfl
  go_wp2_with (first | (go_at_call 101; refine hold ?_))
  unfold Hold
  refine (spec_IsQuery.calls k2 _ _ l0_0 _ _ l2_0 _ _ l2_1 b2 _ (Kd.C_below R0.out HB.out) HC.out.1 (Kd.C_below R3.out HB.out) HC.out.2.2.2.1 (Kd.C_below R4.out HB.out) HC.out.2.2.2.2 K2.out).mono ?_
  rintro e w5 ⟨rfl, hb⟩
  replace Bg1 := Aside0.mk (blk_below Bg1.out hb)
  replace Bg2 := Aside0.mk (blk_below Bg2.out hb)
  replace HB := Aside0.mk (below_step HB.out hb)
  clear hb Bg0
  clear hx0 hx1 hx2
  cases b2
  · have EM := Aside0.mk (show r1 = [] ∧ r2 = false from by have h := HE.out; rw [if_neg (by simp)] at h; injection h with h1 h2; exact ⟨h1.symm, h2.symm⟩)
    go_wp2_with (first | ((with_reducible refine gate_dst (N := 20) rfl ?_); refine hold ?_))
    unfold Hold
    refine Kd.R_lit (Kd.int .i64) _ 3 ?hglq (N := 20) ?hdlq (xs := ([] : List Int)) (inner := []) (ok := fun _ => True) (okp := fun _ => True) ?hrlq ?hplq (fun _ hk => hk) trivial (Below.refl _ _) (Nat.le_refl _) (by simp) ?_
    case hdlq => rfl
    case hglq => rfl
    case hrlq => first | (go_simp; done) | (go_simp; rfl)
    case hplq => exact (Reps.none _ _)
    intro vl wl ho hb hg_ hnew_
    clear hg_ hnew_
    have OL := Aside0.mk (Kd.R_lower ho HB.out.size)
    have BL := Aside0.mk (below_step HB.out hb)
    clear ho hb
    go_wp2
    go_ret2
    exact ⟨_, by rw [EM.out.2]; rfl, by rw [EM.out.1]; exact OL.out, BL.out⟩
  have hx0 : w5.cell? ⟨g1, 0, none⟩ = some (.slice A1_0 l1_0.length c1_0) := (blk_cell Bg1.out 0).trans rfl
  have hx1 : w5.cell? ⟨g1, 1, none⟩ = some (.slice A1_1 l1_1.length c1_1) := (blk_cell Bg1.out 1).trans rfl
  have hx2 : w5.cell? ⟨g2, 0, none⟩ = some (.slice A2_0 l2_0.length c2_0) := (blk_cell Bg2.out 0).trans rfl
  have hx3 : w5.cell? ⟨g2, 1, none⟩ = some (.slice A2_1 l2_1.length c2_1) := (blk_cell Bg2.out 1).trans rfl
  have OQ := Aside0.mk (HOQ.out (by trivial))
  have EF := Aside0.mk (show (mFind l1_0 l1_1 l2_0 l2_1).1 = r1 ∧ (mFind l1_0 l1_1 l2_0 l2_1).2 = r2 from by have h := HE.out; rw [if_pos ⟨by trivial, by trivial⟩] at h; rw [h]; exact ⟨rfl, rfl⟩)
  clear HOQ HE
  go_wp2_with (first | (go_at_call 105; refine hold ?_))
  unfold Hold
  refine (l7Find_calls _ _ l1_0 _ _ l1_1 _ _ l2_0 _ _ l2_1 _ (Kd.C_below R1.out HB.out) HC.out.2.1 (Kd.C_below R2.out HB.out) HC.out.2.2.1 (Kd.C_below R3.out HB.out) HC.out.2.2.2.1 (Kd.C_below R4.out HB.out) HC.out.2.2.2.2 ⟨HZ.out.1, HZ.out.2, OQ.out.1, OQ.out.2.1⟩).mono ?_
  rintro e w6 ⟨v0, rfl, ho, hb⟩
  rw [EF.out.1] at ho
  have O := Aside0.mk (Kd.R_lower ho HB.out.size)
  replace HB := Aside0.mk (below_step HB.out hb)
  clear hb ho
  clear hx0 hx1 hx2 hx3
  obtain ⟨A_, c_, rfl⟩ := Kd.R_slice O.out
  rw [EF.out.2]
  go_wp2
  go_ret2
  exact ⟨_, rfl, O.out, HB.out⟩
set_option maxHeartbeats 8000000 in
set_option maxRecDepth 100000 in
theorem impl_FindMapping_calls (A0_0 : Option Addr) (c0_0 : Nat) (l0_0 : List Int) (A1_0 : Option Addr) (c1_0 : Nat) (l1_0 : List Int) (A1_1 : Option Addr) (c1_1 : Nat) (l1_1 : List (S97)) (A2_0 : Option Addr) (c2_0 : Nat) (l2_0 : List Int) (A2_1 : Option Addr) (c2_1 : Nat) (l2_1 : List (S97)) (r1 : List Int) (r2 : Bool) (w : World) (hr0_0 : Kd.C (Kd.int .i64) w A0_0 l0_0.length l0_0) (hc0_0 : l0_0.length ≤ c0_0) (hr1_0 : Kd.C (Kd.int .i64) w A1_0 l1_0.length l1_0) (hc1_0 : l1_0.length ≤ c1_0) (hr1_1 : Kd.C k97 w A1_1 l1_1.length l1_1) (hc1_1 : l1_1.length ≤ c1_1) (hr2_0 : Kd.C (Kd.int .i64) w A2_0 l2_0.length l2_0) (hc2_0 : l2_0.length ≤ c2_0) (hr2_1 : Kd.C k97 w A2_1 l2_1.length l2_1) (hc2_1 : l2_1.length ≤ c2_1) (hz0 : (l0_0.length ≤ 1048576 ∧ l1_0.length ≤ 1048576 ∧ l1_1.length ≤ 1048576 ∧ l2_0.length ≤ 1048576 ∧ l2_1.length ≤ 1048576) ∧ (∀ x ∈ l1_1, x.f1.length ≤ 1048576) ∧ ∀ x ∈ l2_1, x.f1.length ≤ 1048576) (h : mFindQ l0_0 l1_0 l1_1 l2_0 l2_1 = (r1, r2)) :
    Calls Try.prog 57 #[.agg #[.slice A0_0 l0_0.length c0_0], .agg #[.slice A1_0 l1_0.length c1_0, .slice A1_1 l1_1.length c1_1], .agg #[.slice A2_0 l2_0.length c2_0, .slice A2_1 l2_1.length c2_1]] w fun e w' => ∃ v0_ : Value, e = .returned (.tuple #[v0_, .bool r2]) ∧ Kd.R (Kd.int .i64) 3 w' w.heap.size (fun _ => True) v0_ r1 ∧ Below w.heap.size w w' := by
  obtain ⟨⟨z0, z1, z2, z3, z4⟩, zs1, zs2⟩ := hz0
  obtain ⟨k1, hk1⟩ := (implIsQuery_ev l0_0 l1_0 l1_1 z0 z1 z2 zs1).rounds
  obtain ⟨k2, hk2⟩ := (implIsQuery_ev l0_0 l2_0 l2_1 z0 z3 z4 zs2).rounds
  have hu65 := Try.underlying65
  have hu46 := Try.underlying46
  have HZ := Aside0.mk (show (l1_0.length ≤ 1048576 ∧ l1_1.length ≤ 1048576 ∧ l2_1.length ≤ 1048576) ∧ ∀ x ∈ l1_1, x.f1.length ≤ 1048576 from ⟨⟨z1, z2, z4⟩, zs1⟩)
  have HOQ := Aside0.mk (fun h_ : mIsQuery l0_0 l1_0 l1_1 = true => okQ h_)
  unfold mFindQ at h
  generalize mIsQuery l0_0 l1_0 l1_1 = b1 at hk1 h HOQ
  generalize mIsQuery l0_0 l2_0 l2_1 = b2 at hk2 h
  have K1 := Aside0.mk hk1
  have K2 := Aside0.mk hk2
  have R0 := Aside0.mk hr0_0
  have R1 := Aside0.mk hr1_0
  have R2 := Aside0.mk hr1_1
  have R3 := Aside0.mk hr2_0
  have R4 := Aside0.mk hr2_1
  have HC := Aside0.mk (show l0_0.length ≤ c0_0 ∧ l1_0.length ≤ c1_0 ∧ l1_1.length ≤ c1_1 ∧ l2_0.length ≤ c2_0 ∧ l2_1.length ≤ c2_1 from ⟨hc0_0, hc1_0, hc1_1, hc2_0, hc2_1⟩)
  have HB := Aside0.mk (Below.refl w.heap.size w)
  have HE := Aside0.mk h
  clear hk1 hk2 hr0_0 hr1_0 hr1_1 hr2_0 hr2_1 hc0_0 hc1_0 hc1_1 hc2_0 hc2_1 z0 z1 z2 z3 z4 zs1 zs2 h
  go_enter Try.func57, Try.ntmps57
  go_wp2_with (first | ((with_reducible refine gate_dst (N := 3) rfl ?_); refine hold ?_))
  unfold Hold
  refine box_event ?hg0 (N := 3) ?hd0 (cs := #[.slice A0_0 l0_0.length c0_0]) (t := 65) ?hr0 ?_
  case hd0 => rfl
  case hg0 => rfl
  case hr0 => first | (go_simp; done) | (go_simp; rfl)
  intro g0 hg w1 hbox hb
  have Bg0 := Aside0.mk hbox
  replace HB := Aside0.mk (below_step HB.out hb)
  clear hbox hb hg
  go_wp2_with (first | ((with_reducible refine gate_dst (N := 4) rfl ?_); refine hold ?_))
  unfold Hold
  refine box_event ?hg1 (N := 4) ?hd1 (cs := #[.slice A1_0 l1_0.length c1_0, .slice A1_1 l1_1.length c1_1]) (t := 46) ?hr1 ?_
  case hd1 => rfl
  case hg1 => rfl
  case hr1 => first | (go_simp; done) | (go_simp; rfl)
  intro g1 hg w2 hbox hb
  have Bg1 := Aside0.mk hbox
  replace Bg0 := Aside0.mk (blk_below Bg0.out hb)
  replace HB := Aside0.mk (below_step HB.out hb)
  clear hbox hb hg
  go_wp2_with (first | ((with_reducible refine gate_dst (N := 5) rfl ?_); refine hold ?_))
  unfold Hold
  refine box_event ?hg2 (N := 5) ?hd2 (cs := #[.slice A2_0 l2_0.length c2_0, .slice A2_1 l2_1.length c2_1]) (t := 46) ?hr2 ?_
  case hd2 => rfl
  case hg2 => rfl
  case hr2 => first | (go_simp; done) | (go_simp; rfl)
  intro g2 hg w3 hbox hb
  have Bg2 := Aside0.mk hbox
  replace Bg0 := Aside0.mk (blk_below Bg0.out hb)
  replace Bg1 := Aside0.mk (blk_below Bg1.out hb)
  replace HB := Aside0.mk (below_step HB.out hb)
  clear hbox hb hg
  have hx0 : w3.cell? ⟨g0, 0, none⟩ = some (.slice A0_0 l0_0.length c0_0) := (blk_cell Bg0.out 0).trans rfl
  have hx1 : w3.cell? ⟨g1, 0, none⟩ = some (.slice A1_0 l1_0.length c1_0) := (blk_cell Bg1.out 0).trans rfl
  have hx2 : w3.cell? ⟨g1, 1, none⟩ = some (.slice A1_1 l1_1.length c1_1) := (blk_cell Bg1.out 1).trans rfl
  go_wp2_with (first | (go_at_call 103; refine hold ?_))
  unfold Hold
  refine (impl_IsQuery.calls k1 _ _ l0_0 _ _ l1_0 _ _ l1_1 b1 _ (Kd.C_below R0.out HB.out) HC.out.1 (Kd.C_below R1.out HB.out) HC.out.2.1 (Kd.C_below R2.out HB.out) HC.out.2.2.1 K1.out).mono ?_
  rintro e w4 ⟨rfl, hb⟩
  replace Bg0 := Aside0.mk (blk_below Bg0.out hb)
  replace Bg1 := Aside0.mk (blk_below Bg1.out hb)
  replace Bg2 := Aside0.mk (blk_below Bg2.out hb)
  replace HB := Aside0.mk (below_step HB.out hb)
  clear hb
  clear hx0 hx1 hx2
  cases b1
  · have EM := Aside0.mk (show r1 = [] ∧ r2 = false from by have h := HE.out; rw [if_neg (by simp)] at h; injection h with h1 h2; exact ⟨h1.symm, h2.symm⟩)
    go_wp2_with (first | ((with_reducible refine gate_dst (N := 18) rfl ?_); refine hold ?_))
    unfold Hold
    refine Kd.R_lit (Kd.int .i64) _ 3 ?hglp (N := 18) ?hdlp (xs := ([] : List Int)) (inner := []) (ok := fun _ => True) (okp := fun _ => True) ?hrlp ?hplp (fun _ hk => hk) trivial (Below.refl _ _) (Nat.le_refl _) (by simp) ?_
    case hdlp => rfl
    case hglp => rfl
    case hrlp => first | (go_simp; done) | (go_simp; rfl)
    case hplp => exact (Reps.none _ _)
    intro vl wl ho hb hg_ hnew_
    clear hg_ hnew_
    have OL := Aside0.mk (Kd.R_lower ho HB.out.size)
    have BL := Aside0.mk (below_step HB.out hb)
    clear ho hb
    go_wp2
    go_ret2
    exact ⟨_, by rw [EM.out.2]; rfl, by rw [EM.out.1]; exact OL.out, BL.out⟩
  have hx0 : w4.cell? ⟨g0, 0, none⟩ = some (.slice A0_0 l0_0.length c0_0) := (blk_cell Bg0.out 0).trans rfl
  have hx1 : w4.cell? ⟨g2, 0, none⟩ = some (.slice A2_0 l2_0.length c2_0) := (blk_cell Bg2.out 0).trans rfl
  have hx2 : w4.cell? ⟨g2, 1, none⟩ = some (.slice A2_1 l2_1.length c2_1) := (blk_cell Bg2.out 1).trans rfl
  go_wp2_with (first | (go_at_call 103; refine hold ?_))
  unfold Hold
  refine (impl_IsQuery.calls k2 _ _ l0_0 _ _ l2_0 _ _ l2_1 b2 _ (Kd.C_below R0.out HB.out) HC.out.1 (Kd.C_below R3.out HB.out) HC.out.2.2.2.1 (Kd.C_below R4.out HB.out) HC.out.2.2.2.2 K2.out).mono ?_
  rintro e w5 ⟨rfl, hb⟩
  replace Bg1 := Aside0.mk (blk_below Bg1.out hb)
  replace Bg2 := Aside0.mk (blk_below Bg2.out hb)
  replace HB := Aside0.mk (below_step HB.out hb)
  clear hb Bg0
  clear hx0 hx1 hx2
  cases b2
  · have EM := Aside0.mk (show r1 = [] ∧ r2 = false from by have h := HE.out; rw [if_neg (by simp)] at h; injection h with h1 h2; exact ⟨h1.symm, h2.symm⟩)
    go_wp2_with (first | ((with_reducible refine gate_dst (N := 18) rfl ?_); refine hold ?_))
    unfold Hold
    refine Kd.R_lit (Kd.int .i64) _ 3 ?hglq (N := 18) ?hdlq (xs := ([] : List Int)) (inner := []) (ok := fun _ => True) (okp := fun _ => True) ?hrlq ?hplq (fun _ hk => hk) trivial (Below.refl _ _) (Nat.le_refl _) (by simp) ?_
    case hdlq => rfl
    case hglq => rfl
    case hrlq => first | (go_simp; done) | (go_simp; rfl)
    case hplq => exact (Reps.none _ _)
    intro vl wl ho hb hg_ hnew_
    clear hg_ hnew_
    have OL := Aside0.mk (Kd.R_lower ho HB.out.size)
    have BL := Aside0.mk (below_step HB.out hb)
    clear ho hb
    go_wp2
    go_ret2
    exact ⟨_, by rw [EM.out.2]; rfl, by rw [EM.out.1]; exact OL.out, BL.out⟩
  have hx0 : w5.cell? ⟨g1, 0, none⟩ = some (.slice A1_0 l1_0.length c1_0) := (blk_cell Bg1.out 0).trans rfl
  have hx1 : w5.cell? ⟨g1, 1, none⟩ = some (.slice A1_1 l1_1.length c1_1) := (blk_cell Bg1.out 1).trans rfl
  have hx2 : w5.cell? ⟨g2, 0, none⟩ = some (.slice A2_0 l2_0.length c2_0) := (blk_cell Bg2.out 0).trans rfl
  have hx3 : w5.cell? ⟨g2, 1, none⟩ = some (.slice A2_1 l2_1.length c2_1) := (blk_cell Bg2.out 1).trans rfl
  have OQ := Aside0.mk (HOQ.out (by trivial))
  have EF := Aside0.mk (show (mFind l1_0 l1_1 l2_0 l2_1).1 = r1 ∧ (mFind l1_0 l1_1 l2_0 l2_1).2 = r2 from by have h := HE.out; rw [if_pos ⟨by trivial, by trivial⟩] at h; rw [h]; exact ⟨rfl, rfl⟩)
  clear HOQ HE
  go_wp2_with (first | (go_at_call 106; refine hold ?_))
  unfold Hold
  refine (mapping_calls _ _ l1_0 _ _ l1_1 _ _ l2_0 _ _ l2_1 _ (Kd.C_below R1.out HB.out) HC.out.2.1 (Kd.C_below R2.out HB.out) HC.out.2.2.1 (Kd.C_below R3.out HB.out) HC.out.2.2.2.1 (Kd.C_below R4.out HB.out) HC.out.2.2.2.2 ⟨HZ.out.1, HZ.out.2, OQ.out.1, OQ.out.2.1⟩).mono ?_
  rintro e w6 ⟨v0, rfl, ho, hb⟩
  rw [EF.out.1] at ho
  have O := Aside0.mk (Kd.R_lower ho HB.out.size)
  replace HB := Aside0.mk (below_step HB.out hb)
  clear hb ho
  clear hx0 hx1 hx2 hx3
  obtain ⟨A_, c_, rfl⟩ := Kd.R_slice O.out
  rw [EF.out.2]
  go_wp2
  go_ret2
  exact ⟨_, rfl, O.out, HB.out⟩

set_option maxHeartbeats 8000000 in
set_option maxRecDepth 100000 in
theorem spec_IsContained_calls (A0_0 : Option Addr) (c0_0 : Nat) (l0_0 : List Int) (A1_0 : Option Addr) (c1_0 : Nat) (l1_0 : List Int) (A1_1 : Option Addr) (c1_1 : Nat) (l1_1 : List (S97)) (A2_0 : Option Addr) (c2_0 : Nat) (l2_0 : List Int) (A2_1 : Option Addr) (c2_1 : Nat) (l2_1 : List (S97)) (r : Bool) (w : World) (hr0_0 : Kd.C (Kd.int .i64) w A0_0 l0_0.length l0_0) (hc0_0 : l0_0.length ≤ c0_0) (hr1_0 : Kd.C (Kd.int .i64) w A1_0 l1_0.length l1_0) (hc1_0 : l1_0.length ≤ c1_0) (hr1_1 : Kd.C k97 w A1_1 l1_1.length l1_1) (hc1_1 : l1_1.length ≤ c1_1) (hr2_0 : Kd.C (Kd.int .i64) w A2_0 l2_0.length l2_0) (hc2_0 : l2_0.length ≤ c2_0) (hr2_1 : Kd.C k97 w A2_1 l2_1.length l2_1) (hc2_1 : l2_1.length ≤ c2_1) (hz0 : (l0_0.length ≤ 1048576 ∧ l1_0.length ≤ 1048576 ∧ l1_1.length ≤ 1048576 ∧ l2_0.length ≤ 1048576 ∧ l2_1.length ≤ 1048576) ∧ (∀ x ∈ l1_1, x.f1.length ≤ 1048576) ∧ ∀ x ∈ l2_1, x.f1.length ≤ 1048576) (h : (mFindQ l0_0 l2_0 l2_1 l1_0 l1_1).2 = r) :
    Calls Try.prog 52 #[.agg #[.slice A0_0 l0_0.length c0_0], .agg #[.slice A1_0 l1_0.length c1_0, .slice A1_1 l1_1.length c1_1], .agg #[.slice A2_0 l2_0.length c2_0, .slice A2_1 l2_1.length c2_1]] w fun e w' => e = .returned (.bool r) ∧ Below w.heap.size w w' := by
  have hu65 := Try.underlying65
  have hu46 := Try.underlying46
  have HZ := Aside0.mk hz0
  have R0 := Aside0.mk hr0_0
  have R1 := Aside0.mk hr1_0
  have R2 := Aside0.mk hr1_1
  have R3 := Aside0.mk hr2_0
  have R4 := Aside0.mk hr2_1
  have HC := Aside0.mk (show l0_0.length ≤ c0_0 ∧ l1_0.length ≤ c1_0 ∧ l1_1.length ≤ c1_1 ∧ l2_0.length ≤ c2_0 ∧ l2_1.length ≤ c2_1 from ⟨hc0_0, hc1_0, hc1_1, hc2_0, hc2_1⟩)
  have HB := Aside0.mk (Below.refl w.heap.size w)
  have HE := Aside0.mk h
  clear hr0_0 hr1_0 hr1_1 hr2_0 hr2_1 hc0_0 hc1_0 hc1_1 hc2_0 hc2_1 hz0 h
  go_enter Try.func52, Try.ntmps52
  go_wp2_with (first | ((with_reducible refine gate_dst (N := 3) rfl ?_); refine hold ?_))
  unfold Hold
  refine box_event ?hg0 (N := 3) ?hd0 (cs := #[.slice A0_0 l0_0.length c0_0]) (t := 65) ?hr0 ?_
  case hd0 => rfl
  case hg0 => rfl
  case hr0 => first | (go_simp; done) | (go_simp; rfl)
  intro g0 hg w1 hbox hb
  have Bg0 := Aside0.mk hbox
  replace HB := Aside0.mk (below_step HB.out hb)
  clear hbox hb hg
  go_wp2_with (first | ((with_reducible refine gate_dst (N := 4) rfl ?_); refine hold ?_))
  unfold Hold
  refine box_event ?hg1 (N := 4) ?hd1 (cs := #[.slice A1_0 l1_0.length c1_0, .slice A1_1 l1_1.length c1_1]) (t := 46) ?hr1 ?_
  case hd1 => rfl
  case hg1 => rfl
  case hr1 => first | (go_simp; done) | (go_simp; rfl)
  intro g1 hg w2 hbox hb
  have Bg1 := Aside0.mk hbox
  replace Bg0 := Aside0.mk (blk_below Bg0.out hb)
  replace HB := Aside0.mk (below_step HB.out hb)
  clear hbox hb hg
  go_wp2_with (first | ((with_reducible refine gate_dst (N := 5) rfl ?_); refine hold ?_))
  unfold Hold
  refine box_event ?hg2 (N := 5) ?hd2 (cs := #[.slice A2_0 l2_0.length c2_0, .slice A2_1 l2_1.length c2_1]) (t := 46) ?hr2 ?_
  case hd2 => rfl
  case hg2 => rfl
  case hr2 => first | (go_simp; done) | (go_simp; rfl)
  intro g2 hg w3 hbox hb
  have Bg2 := Aside0.mk hbox
  replace Bg0 := Aside0.mk (blk_below Bg0.out hb)
  replace Bg1 := Aside0.mk (blk_below Bg1.out hb)
  replace HB := Aside0.mk (below_step HB.out hb)
  clear hbox hb hg
  have hx0 : w3.cell? ⟨g0, 0, none⟩ = some (.slice A0_0 l0_0.length c0_0) := (blk_cell Bg0.out 0).trans rfl
  have hx1 : w3.cell? ⟨g1, 0, none⟩ = some (.slice A1_0 l1_0.length c1_0) := (blk_cell Bg1.out 0).trans rfl
  have hx2 : w3.cell? ⟨g1, 1, none⟩ = some (.slice A1_1 l1_1.length c1_1) := (blk_cell Bg1.out 1).trans rfl
  have hx3 : w3.cell? ⟨g2, 0, none⟩ = some (.slice A2_0 l2_0.length c2_0) := (blk_cell Bg2.out 0).trans rfl
  have hx4 : w3.cell? ⟨g2, 1, none⟩ = some (.slice A2_1 l2_1.length c2_1) := (blk_cell Bg2.out 1).trans rfl
  go_wp2_with (first | (go_at_call 56; refine hold ?_))
  unfold Hold
  refine (spec_FindMapping_calls _ _ l0_0 _ _ l2_0 _ _ l2_1 _ _ l1_0 _ _ l1_1 (mFindQ l0_0 l2_0 l2_1 l1_0 l1_1).1 (mFindQ l0_0 l2_0 l2_1 l1_0 l1_1).2 _ (Kd.C_below R0.out HB.out) HC.out.1 (Kd.C_below R3.out HB.out) HC.out.2.2.2.1 (Kd.C_below R4.out HB.out) HC.out.2.2.2.2 (Kd.C_below R1.out HB.out) HC.out.2.1 (Kd.C_below R2.out HB.out) HC.out.2.2.1 ⟨⟨HZ.out.1.1, HZ.out.1.2.2.2.1, HZ.out.1.2.2.2.2, HZ.out.1.2.1, HZ.out.1.2.2.1⟩, HZ.out.2.2, HZ.out.2.1⟩ rfl).mono ?_
  rintro e w4 ⟨v0, rfl, ho, hb⟩
  obtain ⟨A_, c_, rfl⟩ := Kd.R_slice ho
  replace HB := Aside0.mk (below_step HB.out hb)
  clear hb ho hx0 hx1 hx2 hx3 hx4
  rw [HE.out]
  generalize (mFindQ l0_0 l2_0 l2_1 l1_0 l1_1).1.length = n_
  go_wp2
  go_ret
  exact ⟨rfl, HB.out⟩
set_option maxHeartbeats 8000000 in
set_option maxRecDepth 100000 in
theorem impl_IsContained_calls (A0_0 : Option Addr) (c0_0 : Nat) (l0_0 : List Int) (A1_0 : Option Addr) (c1_0 : Nat) (l1_0 : List Int) (A1_1 : Option Addr) (c1_1 : Nat) (l1_1 : List (S97)) (A2_0 : Option Addr) (c2_0 : Nat) (l2_0 : List Int) (A2_1 : Option Addr) (c2_1 : Nat) (l2_1 : List (S97)) (r : Bool) (w : World) (hr0_0 : Kd.C (Kd.int .i64) w A0_0 l0_0.length l0_0) (hc0_0 : l0_0.length ≤ c0_0) (hr1_0 : Kd.C (Kd.int .i64) w A1_0 l1_0.length l1_0) (hc1_0 : l1_0.length ≤ c1_0) (hr1_1 : Kd.C k97 w A1_1 l1_1.length l1_1) (hc1_1 : l1_1.length ≤ c1_1) (hr2_0 : Kd.C (Kd.int .i64) w A2_0 l2_0.length l2_0) (hc2_0 : l2_0.length ≤ c2_0) (hr2_1 : Kd.C k97 w A2_1 l2_1.length l2_1) (hc2_1 : l2_1.length ≤ c2_1) (hz0 : (l0_0.length ≤ 1048576 ∧ l1_0.length ≤ 1048576 ∧ l1_1.length ≤ 1048576 ∧ l2_0.length ≤ 1048576 ∧ l2_1.length ≤ 1048576) ∧ (∀ x ∈ l1_1, x.f1.length ≤ 1048576) ∧ ∀ x ∈ l2_1, x.f1.length ≤ 1048576) (h : (mFindQ l0_0 l2_0 l2_1 l1_0 l1_1).2 = r) :
    Calls Try.prog 53 #[.agg #[.slice A0_0 l0_0.length c0_0], .agg #[.slice A1_0 l1_0.length c1_0, .slice A1_1 l1_1.length c1_1], .agg #[.slice A2_0 l2_0.length c2_0, .slice A2_1 l2_1.length c2_1]] w fun e w' => e = .returned (.bool r) ∧ Below w.heap.size w w' := by
  have hu65 := Try.underlying65
  have hu46 := Try.underlying46
  have HZ := Aside0.mk hz0
  have R0 := Aside0.mk hr0_0
  have R1 := Aside0.mk hr1_0
  have R2 := Aside0.mk hr1_1
  have R3 := Aside0.mk hr2_0
  have R4 := Aside0.mk hr2_1
  have HC := Aside0.mk (show l0_0.length ≤ c0_0 ∧ l1_0.length ≤ c1_0 ∧ l1_1.length ≤ c1_1 ∧ l2_0.length ≤ c2_0 ∧ l2_1.length ≤ c2_1 from ⟨hc0_0, hc1_0, hc1_1, hc2_0, hc2_1⟩)
  have HB := Aside0.mk (Below.refl w.heap.size w)
  have HE := Aside0.mk h
  clear hr0_0 hr1_0 hr1_1 hr2_0 hr2_1 hc0_0 hc1_0 hc1_1 hc2_0 hc2_1 hz0 h
  go_enter Try.func53, Try.ntmps53
  go_wp2_with (first | ((with_reducible refine gate_dst (N := 3) rfl ?_); refine hold ?_))
  unfold Hold
  refine box_event ?hg0 (N := 3) ?hd0 (cs := #[.slice A0_0 l0_0.length c0_0]) (t := 65) ?hr0 ?_
  case hd0 => rfl
  case hg0 => rfl
  case hr0 => first | (go_simp; done) | (go_simp; rfl)
  intro g0 hg w1 hbox hb
  have Bg0 := Aside0.mk hbox
  replace HB := Aside0.mk (below_step HB.out hb)
  clear hbox hb hg
  go_wp2_with (first | ((with_reducible refine gate_dst (N := 4) rfl ?_); refine hold ?_))
  unfold Hold
  refine box_event ?hg1 (N := 4) ?hd1 (cs := #[.slice A1_0 l1_0.length c1_0, .slice A1_1 l1_1.length c1_1]) (t := 46) ?hr1 ?_
  case hd1 => rfl
  case hg1 => rfl
  case hr1 => first | (go_simp; done) | (go_simp; rfl)
  intro g1 hg w2 hbox hb
  have Bg1 := Aside0.mk hbox
  replace Bg0 := Aside0.mk (blk_below Bg0.out hb)
  replace HB := Aside0.mk (below_step HB.out hb)
  clear hbox hb hg
  go_wp2_with (first | ((with_reducible refine gate_dst (N := 5) rfl ?_); refine hold ?_))
  unfold Hold
  refine box_event ?hg2 (N := 5) ?hd2 (cs := #[.slice A2_0 l2_0.length c2_0, .slice A2_1 l2_1.length c2_1]) (t := 46) ?hr2 ?_
  case hd2 => rfl
  case hg2 => rfl
  case hr2 => first | (go_simp; done) | (go_simp; rfl)
  intro g2 hg w3 hbox hb
  have Bg2 := Aside0.mk hbox
  replace Bg0 := Aside0.mk (blk_below Bg0.out hb)
  replace Bg1 := Aside0.mk (blk_below Bg1.out hb)
  replace HB := Aside0.mk (below_step HB.out hb)
  clear hbox hb hg
  have hx0 : w3.cell? ⟨g0, 0, none⟩ = some (.slice A0_0 l0_0.length c0_0) := (blk_cell Bg0.out 0).trans rfl
  have hx1 : w3.cell? ⟨g1, 0, none⟩ = some (.slice A1_0 l1_0.length c1_0) := (blk_cell Bg1.out 0).trans rfl
  have hx2 : w3.cell? ⟨g1, 1, none⟩ = some (.slice A1_1 l1_1.length c1_1) := (blk_cell Bg1.out 1).trans rfl
  have hx3 : w3.cell? ⟨g2, 0, none⟩ = some (.slice A2_0 l2_0.length c2_0) := (blk_cell Bg2.out 0).trans rfl
  have hx4 : w3.cell? ⟨g2, 1, none⟩ = some (.slice A2_1 l2_1.length c2_1) := (blk_cell Bg2.out 1).trans rfl
  go_wp2_with (first | (go_at_call 57; refine hold ?_))
  unfold Hold
  refine (impl_FindMapping_calls _ _ l0_0 _ _ l2_0 _ _ l2_1 _ _ l1_0 _ _ l1_1 (mFindQ l0_0 l2_0 l2_1 l1_0 l1_1).1 (mFindQ l0_0 l2_0 l2_1 l1_0 l1_1).2 _ (Kd.C_below R0.out HB.out) HC.out.1 (Kd.C_below R3.out HB.out) HC.out.2.2.2.1 (Kd.C_below R4.out HB.out) HC.out.2.2.2.2 (Kd.C_below R1.out HB.out) HC.out.2.1 (Kd.C_below R2.out HB.out) HC.out.2.2.1 ⟨⟨HZ.out.1.1, HZ.out.1.2.2.2.1, HZ.out.1.2.2.2.2, HZ.out.1.2.1, HZ.out.1.2.2.1⟩, HZ.out.2.2, HZ.out.2.1⟩ rfl).mono ?_
  rintro e w4 ⟨v0, rfl, ho, hb⟩
  obtain ⟨A_, c_, rfl⟩ := Kd.R_slice ho
  replace HB := Aside0.mk (below_step HB.out hb)
  clear hb ho hx0 hx1 hx2 hx3 hx4
  rw [HE.out]
  generalize (mFindQ l0_0 l2_0 l2_1 l1_0 l1_1).1.length = n_
  go_wp2
  go_ret
  exact ⟨rfl, HB.out⟩

set_option maxHeartbeats 8000000 in
set_option maxRecDepth 100000 in
theorem spec_IsEquivalent_calls (A0_0 : Option Addr) (c0_0 : Nat) (l0_0 : List Int) (A1_0 : Option Addr) (c1_0 : Nat) (l1_0 : List Int) (A1_1 : Option Addr) (c1_1 : Nat) (l1_1 : List (S97)) (A2_0 : Option Addr) (c2_0 : Nat) (l2_0 : List Int) (A2_1 : Option Addr) (c2_1 : Nat) (l2_1 : List (S97)) (r : Bool) (w : World) (hr0_0 : Kd.C (Kd.int .i64) w A0_0 l0_0.length l0_0) (hc0_0 : l0_0.length ≤ c0_0) (hr1_0 : Kd.C (Kd.int .i64) w A1_0 l1_0.length l1_0) (hc1_0 : l1_0.length ≤ c1_0) (hr1_1 : Kd.C k97 w A1_1 l1_1.length l1_1) (hc1_1 : l1_1.length ≤ c1_1) (hr2_0 : Kd.C (Kd.int .i64) w A2_0 l2_0.length l2_0) (hc2_0 : l2_0.length ≤ c2_0) (hr2_1 : Kd.C k97 w A2_1 l2_1.length l2_1) (hc2_1 : l2_1.length ≤ c2_1) (hz0 : (l0_0.length ≤ 1048576 ∧ l1_0.length ≤ 1048576 ∧ l1_1.length ≤ 1048576 ∧ l2_0.length ≤ 1048576 ∧ l2_1.length ≤ 1048576) ∧ (∀ x ∈ l1_1, x.f1.length ≤ 1048576) ∧ ∀ x ∈ l2_1, x.f1.length ≤ 1048576) (h : ((mFindQ l0_0 l2_0 l2_1 l1_0 l1_1).2 && (mFindQ l0_0 l1_0 l1_1 l2_0 l2_1).2) = r) :
    Calls Try.prog 54 #[.agg #[.slice A0_0 l0_0.length c0_0], .agg #[.slice A1_0 l1_0.length c1_0, .slice A1_1 l1_1.length c1_1], .agg #[.slice A2_0 l2_0.length c2_0, .slice A2_1 l2_1.length c2_1]] w fun e w' => e = .returned (.bool r) ∧ Below w.heap.size w w' := by
  have hu65 := Try.underlying65
  have hu46 := Try.underlying46
  have HZ := Aside0.mk hz0
  have R0 := Aside0.mk hr0_0
  have R1 := Aside0.mk hr1_0
  have R2 := Aside0.mk hr1_1
  have R3 := Aside0.mk hr2_0
  have R4 := Aside0.mk hr2_1
  have HC := Aside0.mk (show l0_0.length ≤ c0_0 ∧ l1_0.length ≤ c1_0 ∧ l1_1.length ≤ c1_1 ∧ l2_0.length ≤ c2_0 ∧ l2_1.length ≤ c2_1 from ⟨hc0_0, hc1_0, hc1_1, hc2_0, hc2_1⟩)
  have HB := Aside0.mk (Below.refl w.heap.size w)
  have HE := Aside0.mk h
  clear hr0_0 hr1_0 hr1_1 hr2_0 hr2_1 hc0_0 hc1_0 hc1_1 hc2_0 hc2_1 hz0 h
  go_enter Try.func54, Try.ntmps54
  go_wp2_with (first | ((with_reducible refine gate_dst (N := 3) rfl ?_); refine hold ?_))
  unfold Hold
  refine box_event ?hg0 (N := 3) ?hd0 (cs := #[.slice A0_0 l0_0.length c0_0]) (t := 65) ?hr0 ?_
  case hd0 => rfl
  case hg0 => rfl
  case hr0 => first | (go_simp; done) | (go_simp; rfl)
  intro g0 hg w1 hbox hb
  have Bg0 := Aside0.mk hbox
  replace HB := Aside0.mk (below_step HB.out hb)
  clear hbox hb hg
  go_wp2_with (first | ((with_reducible refine gate_dst (N := 4) rfl ?_); refine hold ?_))
  unfold Hold
  refine box_event ?hg1 (N := 4) ?hd1 (cs := #[.slice A1_0 l1_0.length c1_0, .slice A1_1 l1_1.length c1_1]) (t := 46) ?hr1 ?_
  case hd1 => rfl
  case hg1 => rfl
  case hr1 => first | (go_simp; done) | (go_simp; rfl)
  intro g1 hg w2 hbox hb
  have Bg1 := Aside0.mk hbox
  replace Bg0 := Aside0.mk (blk_below Bg0.out hb)
  replace HB := Aside0.mk (below_step HB.out hb)
  clear hbox hb hg
  go_wp2_with (first | ((with_reducible refine gate_dst (N := 5) rfl ?_); refine hold ?_))
  unfold Hold
  refine box_event ?hg2 (N := 5) ?hd2 (cs := #[.slice A2_0 l2_0.length c2_0, .slice A2_1 l2_1.length c2_1]) (t := 46) ?hr2 ?_
  case hd2 => rfl
  case hg2 => rfl
  case hr2 => first | (go_simp; done) | (go_simp; rfl)
  intro g2 hg w3 hbox hb
  have Bg2 := Aside0.mk hbox
  replace Bg0 := Aside0.mk (blk_below Bg0.out hb)
  replace Bg1 := Aside0.mk (blk_below Bg1.out hb)
  replace HB := Aside0.mk (below_step HB.out hb)
  clear hbox hb hg
  have hx0 : w3.cell? ⟨g0, 0, none⟩ = some (.slice A0_0 l0_0.length c0_0) := (blk_cell Bg0.out 0).trans rfl
  have hx1 : w3.cell? ⟨g1, 0, none⟩ = some (.slice A1_0 l1_0.length c1_0) := (blk_cell Bg1.out 0).trans rfl
  have hx2 : w3.cell? ⟨g1, 1, none⟩ = some (.slice A1_1 l1_1.length c1_1) := (blk_cell Bg1.out 1).trans rfl
  have hx3 : w3.cell? ⟨g2, 0, none⟩ = some (.slice A2_0 l2_0.length c2_0) := (blk_cell Bg2.out 0).trans rfl
  have hx4 : w3.cell? ⟨g2, 1, none⟩ = some (.slice A2_1 l2_1.length c2_1) := (blk_cell Bg2.out 1).trans rfl
  go_wp2_with (first | (go_at_call 52; refine hold ?_))
  unfold Hold
  refine (spec_IsContained_calls _ _ l0_0 _ _ l1_0 _ _ l1_1 _ _ l2_0 _ _ l2_1 (mFindQ l0_0 l2_0 l2_1 l1_0 l1_1).2 _ (Kd.C_below R0.out HB.out) HC.out.1 (Kd.C_below R1.out HB.out) HC.out.2.1 (Kd.C_below R2.out HB.out) HC.out.2.2.1 (Kd.C_below R3.out HB.out) HC.out.2.2.2.1 (Kd.C_below R4.out HB.out) HC.out.2.2.2.2 HZ.out rfl).mono ?_
  rintro e w4 ⟨rfl, hb⟩
  replace Bg0 := Aside0.mk (blk_below Bg0.out hb)
  replace Bg1 := Aside0.mk (blk_below Bg1.out hb)
  replace Bg2 := Aside0.mk (blk_below Bg2.out hb)
  replace HB := Aside0.mk (below_step HB.out hb)
  clear hb hx0 hx1 hx2 hx3 hx4
  generalize (mFindQ l0_0 l2_0 l2_1 l1_0 l1_1).2 = b1 at HE ⊢
  cases b1
  · have HX := Aside0.mk (show r = false from by rw [← HE.out]; rfl)
    go_wp2
    go_ret
    exact ⟨by rw [HX.out]; rfl, HB.out⟩
  have hx0 : w4.cell? ⟨g0, 0, none⟩ = some (.slice A0_0 l0_0.length c0_0) := (blk_cell Bg0.out 0).trans rfl
  have hx1 : w4.cell? ⟨g1, 0, none⟩ = some (.slice A1_0 l1_0.length c1_0) := (blk_cell Bg1.out 0).trans rfl
  have hx2 : w4.cell? ⟨g1, 1, none⟩ = some (.slice A1_1 l1_1.length c1_1) := (blk_cell Bg1.out 1).trans rfl
  have hx3 : w4.cell? ⟨g2, 0, none⟩ = some (.slice A2_0 l2_0.length c2_0) := (blk_cell Bg2.out 0).trans rfl
  have hx4 : w4.cell? ⟨g2, 1, none⟩ = some (.slice A2_1 l2_1.length c2_1) := (blk_cell Bg2.out 1).trans rfl
  go_wp2_with (first | (go_at_call 52; refine hold ?_))
  unfold Hold
  refine (spec_IsContained_calls _ _ l0_0 _ _ l2_0 _ _ l2_1 _ _ l1_0 _ _ l1_1 (mFindQ l0_0 l1_0 l1_1 l2_0 l2_1).2 _ (Kd.C_below R0.out HB.out) HC.out.1 (Kd.C_below R3.out HB.out) HC.out.2.2.2.1 (Kd.C_below R4.out HB.out) HC.out.2.2.2.2 (Kd.C_below R1.out HB.out) HC.out.2.1 (Kd.C_below R2.out HB.out) HC.out.2.2.1 ⟨⟨HZ.out.1.1, HZ.out.1.2.2.2.1, HZ.out.1.2.2.2.2, HZ.out.1.2.1, HZ.out.1.2.2.1⟩, HZ.out.2.2, HZ.out.2.1⟩ rfl).mono ?_
  rintro e w5 ⟨rfl, hb⟩
  replace HB := Aside0.mk (below_step HB.out hb)
  clear hb hx0 hx1 hx2 hx3 hx4
  have HX := Aside0.mk (show r = (mFindQ l0_0 l1_0 l1_1 l2_0 l2_1).2 from by rw [← HE.out]; rfl)
  clear HE
  go_wp2
  go_ret
  exact ⟨by rw [HX.out]; rfl, HB.out⟩
set_option maxHeartbeats 8000000 in
set_option maxRecDepth 100000 in
theorem impl_IsEquivalent_calls (A0_0 : Option Addr) (c0_0 : Nat) (l0_0 : List Int) (A1_0 : Option Addr) (c1_0 : Nat) (l1_0 : List Int) (A1_1 : Option Addr) (c1_1 : Nat) (l1_1 : List (S97)) (A2_0 : Option Addr) (c2_0 : Nat) (l2_0 : List Int) (A2_1 : Option Addr) (c2_1 : Nat) (l2_1 : List (S97)) (r : Bool) (w : World) (hr0_0 : Kd.C (Kd.int .i64) w A0_0 l0_0.length l0_0) (hc0_0 : l0_0.length ≤ c0_0) (hr1_0 : Kd.C (Kd.int .i64) w A1_0 l1_0.length l1_0) (hc1_0 : l1_0.length ≤ c1_0) (hr1_1 : Kd.C k97 w A1_1 l1_1.length l1_1) (hc1_1 : l1_1.length ≤ c1_1) (hr2_0 : Kd.C (Kd.int .i64) w A2_0 l2_0.length l2_0) (hc2_0 : l2_0.length ≤ c2_0) (hr2_1 : Kd.C k97 w A2_1 l2_1.length l2_1) (hc2_1 : l2_1.length ≤ c2_1) (hz0 : (l0_0.length ≤ 1048576 ∧ l1_0.length ≤ 1048576 ∧ l1_1.length ≤ 1048576 ∧ l2_0.length ≤ 1048576 ∧ l2_1.length ≤ 1048576) ∧ (∀ x ∈ l1_1, x.f1.length ≤ 1048576) ∧ ∀ x ∈ l2_1, x.f1.length ≤ 1048576) (h : ((mFindQ l0_0 l2_0 l2_1 l1_0 l1_1).2 && (mFindQ l0_0 l1_0 l1_1 l2_0 l2_1).2) = r) :
    Calls Try.prog 55 #[.agg #[.slice A0_0 l0_0.length c0_0], .agg #[.slice A1_0 l1_0.length c1_0, .slice A1_1 l1_1.length c1_1], .agg #[.slice A2_0 l2_0.length c2_0, .slice A2_1 l2_1.length c2_1]] w fun e w' => e = .returned (.bool r) ∧ Below w.heap.size w w' := by
  have hu65 := Try.underlying65
  have hu46 := Try.underlying46
  have HZ := Aside0.mk hz0
  have R0 := Aside0.mk hr0_0
  have R1 := Aside0.mk hr1_0
  have R2 := Aside0.mk hr1_1
  have R3 := Aside0.mk hr2_0
  have R4 := Aside0.mk hr2_1
  have HC := Aside0.mk (show l0_0.length ≤ c0_0 ∧ l1_0.length ≤ c1_0 ∧ l1_1.length ≤ c1_1 ∧ l2_0.length ≤ c2_0 ∧ l2_1.length ≤ c2_1 from ⟨hc0_0, hc1_0, hc1_1, hc2_0, hc2_1⟩)
  have HB := Aside0.mk (Below.refl w.heap.size w)
  have HE := Aside0.mk h
  clear hr0_0 hr1_0 hr1_1 hr2_0 hr2_1 hc0_0 hc1_0 hc1_1 hc2_0 hc2_1 hz0 h
  go_enter Try.func55, Try.ntmps55
  go_wp2_with (first | ((with_reducible refine gate_dst (N := 3) rfl ?_); refine hold ?_))
  unfold Hold
  refine box_event ?hg0 (N := 3) ?hd0 (cs := #[.slice A0_0 l0_0.length c0_0]) (t := 65) ?hr0 ?_
  case hd0 => rfl
  case hg0 => rfl
  case hr0 => first | (go_simp; done) | (go_simp; rfl)
  intro g0 hg w1 hbox hb
  have Bg0 := Aside0.mk hbox
  replace HB := Aside0.mk (below_step HB.out hb)
  clear hbox hb hg
  go_wp2_with (first | ((with_reducible refine gate_dst (N := 4) rfl ?_); refine hold ?_))
  unfold Hold
  refine box_event ?hg1 (N := 4) ?hd1 (cs := #[.slice A1_0 l1_0.length c1_0, .slice A1_1 l1_1.length c1_1]) (t := 46) ?hr1 ?_
  case hd1 => rfl
  case hg1 => rfl
  case hr1 => first | (go_simp; done) | (go_simp; rfl)
  intro g1 hg w2 hbox hb
  have Bg1 := Aside0.mk hbox
  replace Bg0 := Aside0.mk (blk_below Bg0.out hb)
  replace HB := Aside0.mk (below_step HB.out hb)
  clear hbox hb hg
  go_wp2_with (first | ((with_reducible refine gate_dst (N := 5) rfl ?_); refine hold ?_))
  unfold Hold
  refine box_event ?hg2 (N := 5) ?hd2 (cs := #[.slice A2_0 l2_0.length c2_0, .slice A2_1 l2_1.length c2_1]) (t := 46) ?hr2 ?_
  case hd2 => rfl
  case hg2 => rfl
  case hr2 => first | (go_simp; done) | (go_simp; rfl)
  intro g2 hg w3 hbox hb
  have Bg2 := Aside0.mk hbox
  replace Bg0 := Aside0.mk (blk_below Bg0.out hb)
  replace Bg1 := Aside0.mk (blk_below Bg1.out hb)
  replace HB := Aside0.mk (below_step HB.out hb)
  clear hbox hb hg
  have hx0 : w3.cell? ⟨g0, 0, none⟩ = some (.slice A0_0 l0_0.length c0_0) := (blk_cell Bg0.out 0).trans rfl
  have hx1 : w3.cell? ⟨g1, 0, none⟩ = some (.slice A1_0 l1_0.length c1_0) := (blk_cell Bg1.out 0).trans rfl
  have hx2 : w3.cell? ⟨g1, 1, none⟩ = some (.slice A1_1 l1_1.length c1_1) := (blk_cell Bg1.out 1).trans rfl
  have hx3 : w3.cell? ⟨g2, 0, none⟩ = some (.slice A2_0 l2_0.length c2_0) := (blk_cell Bg2.out 0).trans rfl
  have hx4 : w3.cell? ⟨g2, 1, none⟩ = some (.slice A2_1 l2_1.length c2_1) := (blk_cell Bg2.out 1).trans rfl
  go_wp2_with (first | (go_at_call 53; refine hold ?_))
  unfold Hold
  refine (impl_IsContained_calls _ _ l0_0 _ _ l1_0 _ _ l1_1 _ _ l2_0 _ _ l2_1 (mFindQ l0_0 l2_0 l2_1 l1_0 l1_1).2 _ (Kd.C_below R0.out HB.out) HC.out.1 (Kd.C_below R1.out HB.out) HC.out.2.1 (Kd.C_below R2.out HB.out) HC.out.2.2.1 (Kd.C_below R3.out HB.out) HC.out.2.2.2.1 (Kd.C_below R4.out HB.out) HC.out.2.2.2.2 HZ.out rfl).mono ?_
  rintro e w4 ⟨rfl, hb⟩
  replace Bg0 := Aside0.mk (blk_below Bg0.out hb)
  replace Bg1 := Aside0.mk (blk_below Bg1.out hb)
  replace Bg2 := Aside0.mk (blk_below Bg2.out hb)
  replace HB := Aside0.mk (below_step HB.out hb)
  clear hb hx0 hx1 hx2 hx3 hx4
  generalize (mFindQ l0_0 l2_0 l2_1 l1_0 l1_1).2 = b1 at HE ⊢
  cases b1
  · have HX := Aside0.mk (show r = false from by rw [← HE.out]; rfl)
    go_wp2
    go_ret
    exact ⟨by rw [HX.out]; rfl, HB.out⟩
  have hx0 : w4.cell? ⟨g0, 0, none⟩ = some (.slice A0_0 l0_0.length c0_0) := (blk_cell Bg0.out 0).trans rfl
  have hx1 : w4.cell? ⟨g1, 0, none⟩ = some (.slice A1_0 l1_0.length c1_0) := (blk_cell Bg1.out 0).trans rfl
  have hx2 : w4.cell? ⟨g1, 1, none⟩ = some (.slice A1_1 l1_1.length c1_1) := (blk_cell Bg1.out 1).trans rfl
  have hx3 : w4.cell? ⟨g2, 0, none⟩ = some (.slice A2_0 l2_0.length c2_0) := (blk_cell Bg2.out 0).trans rfl
  have hx4 : w4.cell? ⟨g2, 1, none⟩ = some (.slice A2_1 l2_1.length c2_1) := (blk_cell Bg2.out 1).trans rfl
  go_wp2_with (first | (go_at_call 53; refine hold ?_))
  unfold Hold
  refine (impl_IsContained_calls _ _ l0_0 _ _ l2_0 _ _ l2_1 _ _ l1_0 _ _ l1_1 (mFindQ l0_0 l1_0 l1_1 l2_0 l2_1).2 _ (Kd.C_below R0.out HB.out) HC.out.1 (Kd.C_below R3.out HB.out) HC.out.2.2.2.1 (Kd.C_below R4.out HB.out) HC.out.2.2.2.2 (Kd.C_below R1.out HB.out) HC.out.2.1 (Kd.C_below R2.out HB.out) HC.out.2.2.1 ⟨⟨HZ.out.1.1, HZ.out.1.2.2.2.1, HZ.out.1.2.2.2.2, HZ.out.1.2.1, HZ.out.1.2.2.1⟩, HZ.out.2.2, HZ.out.2.1⟩ rfl).mono ?_
  rintro e w5 ⟨rfl, hb⟩
  replace HB := Aside0.mk (below_step HB.out hb)
  clear hb hx0 hx1 hx2 hx3 hx4
  have HX := Aside0.mk (show r = (mFindQ l0_0 l1_0 l1_1 l2_0 l2_1).2 from by rw [← HE.out]; rfl)
  clear HE
  go_wp2
  go_ret
  exact ⟨by rw [HX.out]; rfl, HB.out⟩

-- drop: impl_send
set_option maxHeartbeats 8000000 in
set_option maxRecDepth 100000 in
theorem laws_FnExactIsEquivalent_out0 (A0_0 : Option Addr) (c0_0 : Nat) (l0_0 : List Int) (A1_0 : Option Addr) (c1_0 : Nat) (l1_0 : List Int) (A1_1 : Option Addr) (c1_1 : Nat) (l1_1 : List S124) (A2_0 : Option Addr) (c2_0 : Nat) (l2_0 : List Int) (A2_1 : Option Addr) (c2_1 : Nat) (l2_1 : List S124) (w : World) (hr0_0 : Kd.C (Kd.int .i64) w A0_0 l0_0.length l0_0) (hc0_0 : l0_0.length ≤ c0_0) (hr1_0 : Kd.C (Kd.int .i64) w A1_0 l1_0.length l1_0) (hc1_0 : l1_0.length ≤ c1_0) (hr1_1 : Kd.C k124 w A1_1 l1_1.length l1_1) (hc1_1 : l1_1.length ≤ c1_1) (hr2_0 : Kd.C (Kd.int .i64) w A2_0 l2_0.length l2_0) (hc2_0 : l2_0.length ≤ c2_0) (hr2_1 : Kd.C k124 w A2_1 l2_1.length l2_1) (hc2_1 : l2_1.length ≤ c2_1) (r0_0 : Int)
    (e0 : laws_szSchema.f l0_0 1048576 = some r0_0)
 (ct0 : r0_0 < 0) :
    Calls Try.prog 11 #[.agg #[.slice A0_0 l0_0.length c0_0], .agg #[.slice A1_0 l1_0.length c1_0, .slice A1_1 l1_1.length c1_1], .agg #[.slice A2_0 l2_0.length c2_0, .slice A2_1 l2_1.length c2_1]] w fun e w' => e = .returned (.bool true) ∧ Below w.heap.size w w' := by
  have H0_0 := Aside0.mk hr0_0
  have HC0_0 := Aside0.mk hc0_0
  clear hr0_0 hc0_0
  have H1_0 := Aside0.mk hr1_0
  have HC1_0 := Aside0.mk hc1_0
  clear hr1_0 hc1_0
  have H1_1 := Aside0.mk hr1_1
  have HC1_1 := Aside0.mk hc1_1
  clear hr1_1 hc1_1
  have H2_0 := Aside0.mk hr2_0
  have HC2_0 := Aside0.mk hc2_0
  clear hr2_0 hc2_0
  have H2_1 := Aside0.mk hr2_1
  have HC2_1 := Aside0.mk hc2_1
  clear hr2_1 hc2_1
  have Ee0 := Aside0.mk e0; clear e0
  have ct0b := decide_eq_true (show r0_0 < 0 from ct0)
  clear ct0
  have HB := Aside0.mk (Below.refl w.heap.size w)
  have hu41 := Try.underlying41
  have hu62 := Try.underlying62
  go_enter Try.func11, Try.ntmps11
  go_wp2_with (first | ((with_reducible refine gate_dst (N := 3) rfl ?_); refine hold ?_))
  unfold Hold
  refine box_event ?hg (N := 3) ?hd (cs := #[.slice A0_0 l0_0.length c0_0]) (t := 62) ?hr ?_
  case hd => rfl
  case hg => rfl
  case hr => first | (go_simp; done) | (go_simp; rfl)
  intro g1 hg w1_ hbox hb
  have Bg1 := Aside0.mk hbox
  have Gg1 := Aside0.mk (show w.heap.size ≤ g1 ∧ g1 < w1_.heap.size from ⟨by rw [hg]; exact Nat.le_refl _, blk_lt hbox⟩)
  clear hbox hg
  have Z1_ := Aside0.mk (show w.heap.size ≤ w1_.heap.size from hb.size)
  have n_ := Aside0.mk (below_step HB.out hb); clear HB; have HB := n_; clear n_
  have hxg1_0 : w1_.cell? ⟨g1, 0, none⟩ = some (.slice A0_0 l0_0.length c0_0) := (blk_cell Bg1.out 0).trans rfl
  have hfg1_0 := blk_frozen Bg1.out 0
  clear hb
  go_wp2_with (first | ((with_reducible refine gate_dst (N := 4) rfl ?_); refine hold ?_))
  unfold Hold
  refine box_event ?hg (N := 4) ?hd (cs := #[.slice A1_0 l1_0.length c1_0, .slice A1_1 l1_1.length c1_1]) (t := 41) ?hr ?_
  case hd => rfl
  case hg => rfl
  case hr => first | (go_simp; done) | (go_simp; rfl)
  intro g2 hg w2_ hbox hb
  have Bg2 := Aside0.mk hbox
  have Gg2 := Aside0.mk (show w1_.heap.size ≤ g2 ∧ g2 < w2_.heap.size from ⟨by rw [hg]; exact Nat.le_refl _, blk_lt hbox⟩)
  clear hbox hg
  have Z2_ := Aside0.mk (show w1_.heap.size ≤ w2_.heap.size from hb.size)
  have n_ := Aside0.mk (blk_below Bg1.out hb); clear Bg1; have Bg1 := n_; clear n_
  have n_ := Aside0.mk (below_step HB.out hb); clear HB; have HB := n_; clear n_
  clear hxg1_0
  clear hfg1_0
  have hxg1_0 : w2_.cell? ⟨g1, 0, none⟩ = some (.slice A0_0 l0_0.length c0_0) := (blk_cell Bg1.out 0).trans rfl
  have hfg1_0 := blk_frozen Bg1.out 0
  have hxg2_0 : w2_.cell? ⟨g2, 0, none⟩ = some (.slice A1_0 l1_0.length c1_0) := (blk_cell Bg2.out 0).trans rfl
  have hxg2_1 : w2_.cell? ⟨g2, 1, none⟩ = some (.slice A1_1 l1_1.length c1_1) := (blk_cell Bg2.out 1).trans rfl
  have hfg2_0 := blk_frozen Bg2.out 0
  have hfg2_1 := blk_frozen Bg2.out 1
  clear hb
  go_wp2_with (first | ((with_reducible refine gate_dst (N := 5) rfl ?_); refine hold ?_))
  unfold Hold
  refine box_event ?hg (N := 5) ?hd (cs := #[.slice A2_0 l2_0.length c2_0, .slice A2_1 l2_1.length c2_1]) (t := 41) ?hr ?_
  case hd => rfl
  case hg => rfl
  case hr => first | (go_simp; done) | (go_simp; rfl)
  intro g3 hg w3_ hbox hb
  have Bg3 := Aside0.mk hbox
  have Gg3 := Aside0.mk (show w2_.heap.size ≤ g3 ∧ g3 < w3_.heap.size from ⟨by rw [hg]; exact Nat.le_refl _, blk_lt hbox⟩)
  clear hbox hg
  have Z3_ := Aside0.mk (show w2_.heap.size ≤ w3_.heap.size from hb.size)
  have n_ := Aside0.mk (blk_below Bg1.out hb); clear Bg1; have Bg1 := n_; clear n_
  have n_ := Aside0.mk (blk_below Bg2.out hb); clear Bg2; have Bg2 := n_; clear n_
  have n_ := Aside0.mk (below_step HB.out hb); clear HB; have HB := n_; clear n_
  clear hxg1_0
  clear hfg1_0
  clear hxg2_0
  clear hxg2_1
  clear hfg2_0
  clear hfg2_1
  have hxg1_0 : w3_.cell? ⟨g1, 0, none⟩ = some (.slice A0_0 l0_0.length c0_0) := (blk_cell Bg1.out 0).trans rfl
  have hfg1_0 := blk_frozen Bg1.out 0
  have hxg2_0 : w3_.cell? ⟨g2, 0, none⟩ = some (.slice A1_0 l1_0.length c1_0) := (blk_cell Bg2.out 0).trans rfl
  have hxg2_1 : w3_.cell? ⟨g2, 1, none⟩ = some (.slice A1_1 l1_1.length c1_1) := (blk_cell Bg2.out 1).trans rfl
  have hfg2_0 := blk_frozen Bg2.out 0
  have hfg2_1 := blk_frozen Bg2.out 1
  have hxg3_0 : w3_.cell? ⟨g3, 0, none⟩ = some (.slice A2_0 l2_0.length c2_0) := (blk_cell Bg3.out 0).trans rfl
  have hxg3_1 : w3_.cell? ⟨g3, 1, none⟩ = some (.slice A2_1 l2_1.length c2_1) := (blk_cell Bg3.out 1).trans rfl
  have hfg3_0 := blk_frozen Bg3.out 0
  have hfg3_1 := blk_frozen Bg3.out 1
  clear hb
  go_wp2_with (first | (go_at_call 47; refine hold ?_))
  unfold Hold
  refine (laws_szSchema.calls _ _ l0_0 1048576 r0_0 _ (Kd.C_below H0_0.out HB.out) HC0_0.out Ee0.out).mono ?_
  rintro e w4_ ⟨rfl, hb⟩
  have Z4_ := Aside0.mk (show w3_.heap.size ≤ w4_.heap.size from hb.size)
  have n_ := Aside0.mk (blk_below Bg1.out hb); clear Bg1; have Bg1 := n_; clear n_
  have n_ := Aside0.mk (blk_below Bg2.out hb); clear Bg2; have Bg2 := n_; clear n_
  have n_ := Aside0.mk (blk_below Bg3.out hb); clear Bg3; have Bg3 := n_; clear n_
  have n_ := Aside0.mk (below_step HB.out hb); clear HB; have HB := n_; clear n_
  clear hxg1_0
  clear hfg1_0
  clear hxg2_0
  clear hxg2_1
  clear hfg2_0
  clear hfg2_1
  clear hxg3_0
  clear hxg3_1
  clear hfg3_0
  clear hfg3_1
  have hxg1_0 : w4_.cell? ⟨g1, 0, none⟩ = some (.slice A0_0 l0_0.length c0_0) := (blk_cell Bg1.out 0).trans rfl
  have hfg1_0 := blk_frozen Bg1.out 0
  have hxg2_0 : w4_.cell? ⟨g2, 0, none⟩ = some (.slice A1_0 l1_0.length c1_0) := (blk_cell Bg2.out 0).trans rfl
  have hxg2_1 : w4_.cell? ⟨g2, 1, none⟩ = some (.slice A1_1 l1_1.length c1_1) := (blk_cell Bg2.out 1).trans rfl
  have hfg2_0 := blk_frozen Bg2.out 0
  have hfg2_1 := blk_frozen Bg2.out 1
  have hxg3_0 : w4_.cell? ⟨g3, 0, none⟩ = some (.slice A2_0 l2_0.length c2_0) := (blk_cell Bg3.out 0).trans rfl
  have hxg3_1 : w4_.cell? ⟨g3, 1, none⟩ = some (.slice A2_1 l2_1.length c2_1) := (blk_cell Bg3.out 1).trans rfl
  have hfg3_0 := blk_frozen Bg3.out 0
  have hfg3_1 := blk_frozen Bg3.out 1
  clear hb
  go_wp2
  go_ret
  exact ⟨rfl, HB.out⟩
set_option maxHeartbeats 8000000 in
set_option maxRecDepth 100000 in
theorem laws_FnExactIsEquivalent_out1 (A0_0 : Option Addr) (c0_0 : Nat) (l0_0 : List Int) (A1_0 : Option Addr) (c1_0 : Nat) (l1_0 : List Int) (A1_1 : Option Addr) (c1_1 : Nat) (l1_1 : List S124) (A2_0 : Option Addr) (c2_0 : Nat) (l2_0 : List Int) (A2_1 : Option Addr) (c2_1 : Nat) (l2_1 : List S124) (w : World) (hr0_0 : Kd.C (Kd.int .i64) w A0_0 l0_0.length l0_0) (hc0_0 : l0_0.length ≤ c0_0) (hr1_0 : Kd.C (Kd.int .i64) w A1_0 l1_0.length l1_0) (hc1_0 : l1_0.length ≤ c1_0) (hr1_1 : Kd.C k124 w A1_1 l1_1.length l1_1) (hc1_1 : l1_1.length ≤ c1_1) (hr2_0 : Kd.C (Kd.int .i64) w A2_0 l2_0.length l2_0) (hc2_0 : l2_0.length ≤ c2_0) (hr2_1 : Kd.C k124 w A2_1 l2_1.length l2_1) (hc2_1 : l2_1.length ≤ c2_1) (r0_0 : Int) (r2_0 : Int)
    (e0 : laws_szSchema.f l0_0 1048576 = some r0_0)
 (ct0 : ¬ r0_0 < 0)
 (e2 : ∃ k, laws_szQuery.f k l1_0 l1_1 r0_0 = some r2_0)
 (ct1 : r2_0 < 0) :
    Calls Try.prog 11 #[.agg #[.slice A0_0 l0_0.length c0_0], .agg #[.slice A1_0 l1_0.length c1_0, .slice A1_1 l1_1.length c1_1], .agg #[.slice A2_0 l2_0.length c2_0, .slice A2_1 l2_1.length c2_1]] w fun e w' => e = .returned (.bool true) ∧ Below w.heap.size w w' := by
  have H0_0 := Aside0.mk hr0_0
  have HC0_0 := Aside0.mk hc0_0
  clear hr0_0 hc0_0
  have H1_0 := Aside0.mk hr1_0
  have HC1_0 := Aside0.mk hc1_0
  clear hr1_0 hc1_0
  have H1_1 := Aside0.mk hr1_1
  have HC1_1 := Aside0.mk hc1_1
  clear hr1_1 hc1_1
  have H2_0 := Aside0.mk hr2_0
  have HC2_0 := Aside0.mk hc2_0
  clear hr2_0 hc2_0
  have H2_1 := Aside0.mk hr2_1
  have HC2_1 := Aside0.mk hc2_1
  clear hr2_1 hc2_1
  have Ee0 := Aside0.mk e0; clear e0
  have ct0b := decide_eq_false (show ¬ r0_0 < 0 from ct0)
  clear ct0
  obtain ⟨ke2, q_⟩ := e2; have Ee2 := Aside0.mk q_; clear q_
  have ct1b := decide_eq_true (show r2_0 < 0 from ct1)
  clear ct1
  have HB := Aside0.mk (Below.refl w.heap.size w)
  have hu41 := Try.underlying41
  have hu62 := Try.underlying62
  go_enter Try.func11, Try.ntmps11
  go_wp2_with (first | ((with_reducible refine gate_dst (N := 3) rfl ?_); refine hold ?_))
  unfold Hold
  refine box_event ?hg (N := 3) ?hd (cs := #[.slice A0_0 l0_0.length c0_0]) (t := 62) ?hr ?_
  case hd => rfl
  case hg => rfl
  case hr => first | (go_simp; done) | (go_simp; rfl)
  intro g1 hg w1_ hbox hb
  have Bg1 := Aside0.mk hbox
  have Gg1 := Aside0.mk (show w.heap.size ≤ g1 ∧ g1 < w1_.heap.size from ⟨by rw [hg]; exact Nat.le_refl _, blk_lt hbox⟩)
  clear hbox hg
  have Z1_ := Aside0.mk (show w.heap.size ≤ w1_.heap.size from hb.size)
  have n_ := Aside0.mk (below_step HB.out hb); clear HB; have HB := n_; clear n_
  have hxg1_0 : w1_.cell? ⟨g1, 0, none⟩ = some (.slice A0_0 l0_0.length c0_0) := (blk_cell Bg1.out 0).trans rfl
  have hfg1_0 := blk_frozen Bg1.out 0
  clear hb
  go_wp2_with (first | ((with_reducible refine gate_dst (N := 4) rfl ?_); refine hold ?_))
  unfold Hold
  refine box_event ?hg (N := 4) ?hd (cs := #[.slice A1_0 l1_0.length c1_0, .slice A1_1 l1_1.length c1_1]) (t := 41) ?hr ?_
  case hd => rfl
  case hg => rfl
  case hr => first | (go_simp; done) | (go_simp; rfl)
  intro g2 hg w2_ hbox hb
  have Bg2 := Aside0.mk hbox
  have Gg2 := Aside0.mk (show w1_.heap.size ≤ g2 ∧ g2 < w2_.heap.size from ⟨by rw [hg]; exact Nat.le_refl _, blk_lt hbox⟩)
  clear hbox hg
  have Z2_ := Aside0.mk (show w1_.heap.size ≤ w2_.heap.size from hb.size)
  have n_ := Aside0.mk (blk_below Bg1.out hb); clear Bg1; have Bg1 := n_; clear n_
  have n_ := Aside0.mk (below_step HB.out hb); clear HB; have HB := n_; clear n_
  clear hxg1_0
  clear hfg1_0
  have hxg1_0 : w2_.cell? ⟨g1, 0, none⟩ = some (.slice A0_0 l0_0.length c0_0) := (blk_cell Bg1.out 0).trans rfl
  have hfg1_0 := blk_frozen Bg1.out 0
  have hxg2_0 : w2_.cell? ⟨g2, 0, none⟩ = some (.slice A1_0 l1_0.length c1_0) := (blk_cell Bg2.out 0).trans rfl
  have hxg2_1 : w2_.cell? ⟨g2, 1, none⟩ = some (.slice A1_1 l1_1.length c1_1) := (blk_cell Bg2.out 1).trans rfl
  have hfg2_0 := blk_frozen Bg2.out 0
  have hfg2_1 := blk_frozen Bg2.out 1
  clear hb
  go_wp2_with (first | ((with_reducible refine gate_dst (N := 5) rfl ?_); refine hold ?_))
  unfold Hold
  refine box_event ?hg (N := 5) ?hd (cs := #[.slice A2_0 l2_0.length c2_0, .slice A2_1 l2_1.length c2_1]) (t := 41) ?hr ?_
  case hd => rfl
  case hg => rfl
  case hr => first | (go_simp; done) | (go_simp; rfl)
  intro g3 hg w3_ hbox hb
  have Bg3 := Aside0.mk hbox
  have Gg3 := Aside0.mk (show w2_.heap.size ≤ g3 ∧ g3 < w3_.heap.size from ⟨by rw [hg]; exact Nat.le_refl _, blk_lt hbox⟩)
  clear hbox hg
  have Z3_ := Aside0.mk (show w2_.heap.size ≤ w3_.heap.size from hb.size)
  have n_ := Aside0.mk (blk_below Bg1.out hb); clear Bg1; have Bg1 := n_; clear n_
  have n_ := Aside0.mk (blk_below Bg2.out hb); clear Bg2; have Bg2 := n_; clear n_
  have n_ := Aside0.mk (below_step HB.out hb); clear HB; have HB := n_; clear n_
  clear hxg1_0
  clear hfg1_0
  clear hxg2_0
  clear hxg2_1
  clear hfg2_0
  clear hfg2_1
  have hxg1_0 : w3_.cell? ⟨g1, 0, none⟩ = some (.slice A0_0 l0_0.length c0_0) := (blk_cell Bg1.out 0).trans rfl
  have hfg1_0 := blk_frozen Bg1.out 0
  have hxg2_0 : w3_.cell? ⟨g2, 0, none⟩ = some (.slice A1_0 l1_0.length c1_0) := (blk_cell Bg2.out 0).trans rfl
  have hxg2_1 : w3_.cell? ⟨g2, 1, none⟩ = some (.slice A1_1 l1_1.length c1_1) := (blk_cell Bg2.out 1).trans rfl
  have hfg2_0 := blk_frozen Bg2.out 0
  have hfg2_1 := blk_frozen Bg2.out 1
  have hxg3_0 : w3_.cell? ⟨g3, 0, none⟩ = some (.slice A2_0 l2_0.length c2_0) := (blk_cell Bg3.out 0).trans rfl
  have hxg3_1 : w3_.cell? ⟨g3, 1, none⟩ = some (.slice A2_1 l2_1.length c2_1) := (blk_cell Bg3.out 1).trans rfl
  have hfg3_0 := blk_frozen Bg3.out 0
  have hfg3_1 := blk_frozen Bg3.out 1
  clear hb
  go_wp2_with (first | (go_at_call 47; refine hold ?_))
  unfold Hold
  refine (laws_szSchema.calls _ _ l0_0 1048576 r0_0 _ (Kd.C_below H0_0.out HB.out) HC0_0.out Ee0.out).mono ?_
  rintro e w4_ ⟨rfl, hb⟩
  have Z4_ := Aside0.mk (show w3_.heap.size ≤ w4_.heap.size from hb.size)
  have n_ := Aside0.mk (blk_below Bg1.out hb); clear Bg1; have Bg1 := n_; clear n_
  have n_ := Aside0.mk (blk_below Bg2.out hb); clear Bg2; have Bg2 := n_; clear n_
  have n_ := Aside0.mk (blk_below Bg3.out hb); clear Bg3; have Bg3 := n_; clear n_
  have n_ := Aside0.mk (below_step HB.out hb); clear HB; have HB := n_; clear n_
  clear hxg1_0
  clear hfg1_0
  clear hxg2_0
  clear hxg2_1
  clear hfg2_0
  clear hfg2_1
  clear hxg3_0
  clear hxg3_1
  clear hfg3_0
  clear hfg3_1
  have hxg1_0 : w4_.cell? ⟨g1, 0, none⟩ = some (.slice A0_0 l0_0.length c0_0) := (blk_cell Bg1.out 0).trans rfl
  have hfg1_0 := blk_frozen Bg1.out 0
  have hxg2_0 : w4_.cell? ⟨g2, 0, none⟩ = some (.slice A1_0 l1_0.length c1_0) := (blk_cell Bg2.out 0).trans rfl
  have hxg2_1 : w4_.cell? ⟨g2, 1, none⟩ = some (.slice A1_1 l1_1.length c1_1) := (blk_cell Bg2.out 1).trans rfl
  have hfg2_0 := blk_frozen Bg2.out 0
  have hfg2_1 := blk_frozen Bg2.out 1
  have hxg3_0 : w4_.cell? ⟨g3, 0, none⟩ = some (.slice A2_0 l2_0.length c2_0) := (blk_cell Bg3.out 0).trans rfl
  have hxg3_1 : w4_.cell? ⟨g3, 1, none⟩ = some (.slice A2_1 l2_1.length c2_1) := (blk_cell Bg3.out 1).trans rfl
  have hfg3_0 := blk_frozen Bg3.out 0
  have hfg3_1 := blk_frozen Bg3.out 1
  clear hb
  go_wp2_with (first | (go_at_call 30; refine hold ?_))
  unfold Hold
  refine (laws_szQuery.calls ke2 _ _ l1_0 _ _ l1_1 r0_0 r2_0 _ (Kd.C_below H1_0.out HB.out) HC1_0.out (Kd.C_below H1_1.out HB.out) HC1_1.out Ee2.out).mono ?_
  rintro e w5_ ⟨rfl, hb⟩
  have Z5_ := Aside0.mk (show w4_.heap.size ≤ w5_.heap.size from hb.size)
  have n_ := Aside0.mk (blk_below Bg1.out hb); clear Bg1; have Bg1 := n_; clear n_
  have n_ := Aside0.mk (blk_below Bg2.out hb); clear Bg2; have Bg2 := n_; clear n_
  have n_ := Aside0.mk (blk_below Bg3.out hb); clear Bg3; have Bg3 := n_; clear n_
  have n_ := Aside0.mk (below_step HB.out hb); clear HB; have HB := n_; clear n_
  clear hxg1_0
  clear hfg1_0
  clear hxg2_0
  clear hxg2_1
  clear hfg2_0
  clear hfg2_1
  clear hxg3_0
  clear hxg3_1
  clear hfg3_0
  clear hfg3_1
  have hxg1_0 : w5_.cell? ⟨g1, 0, none⟩ = some (.slice A0_0 l0_0.length c0_0) := (blk_cell Bg1.out 0).trans rfl
  have hfg1_0 := blk_frozen Bg1.out 0
  have hxg2_0 : w5_.cell? ⟨g2, 0, none⟩ = some (.slice A1_0 l1_0.length c1_0) := (blk_cell Bg2.out 0).trans rfl
  have hxg2_1 : w5_.cell? ⟨g2, 1, none⟩ = some (.slice A1_1 l1_1.length c1_1) := (blk_cell Bg2.out 1).trans rfl
  have hfg2_0 := blk_frozen Bg2.out 0
  have hfg2_1 := blk_frozen Bg2.out 1
  have hxg3_0 : w5_.cell? ⟨g3, 0, none⟩ = some (.slice A2_0 l2_0.length c2_0) := (blk_cell Bg3.out 0).trans rfl
  have hxg3_1 : w5_.cell? ⟨g3, 1, none⟩ = some (.slice A2_1 l2_1.length c2_1) := (blk_cell Bg3.out 1).trans rfl
  have hfg3_0 := blk_frozen Bg3.out 0
  have hfg3_1 := blk_frozen Bg3.out 1
  clear hb
  go_wp2
  go_ret
  exact ⟨rfl, HB.out⟩
set_option maxHeartbeats 8000000 in
set_option maxRecDepth 100000 in
theorem laws_FnExactIsEquivalent_out2 (A0_0 : Option Addr) (c0_0 : Nat) (l0_0 : List Int) (A1_0 : Option Addr) (c1_0 : Nat) (l1_0 : List Int) (A1_1 : Option Addr) (c1_1 : Nat) (l1_1 : List S124) (A2_0 : Option Addr) (c2_0 : Nat) (l2_0 : List Int) (A2_1 : Option Addr) (c2_1 : Nat) (l2_1 : List S124) (w : World) (hr0_0 : Kd.C (Kd.int .i64) w A0_0 l0_0.length l0_0) (hc0_0 : l0_0.length ≤ c0_0) (hr1_0 : Kd.C (Kd.int .i64) w A1_0 l1_0.length l1_0) (hc1_0 : l1_0.length ≤ c1_0) (hr1_1 : Kd.C k124 w A1_1 l1_1.length l1_1) (hc1_1 : l1_1.length ≤ c1_1) (hr2_0 : Kd.C (Kd.int .i64) w A2_0 l2_0.length l2_0) (hc2_0 : l2_0.length ≤ c2_0) (hr2_1 : Kd.C k124 w A2_1 l2_1.length l2_1) (hc2_1 : l2_1.length ≤ c2_1) (r0_0 : Int) (r2_0 : Int) (r4_0 : Int)
    (e0 : laws_szSchema.f l0_0 1048576 = some r0_0)
 (ct0 : ¬ r0_0 < 0)
 (e2 : ∃ k, laws_szQuery.f k l1_0 l1_1 r0_0 = some r2_0)
 (ct1 : ¬ r2_0 < 0)
 (e4 : ∃ k, laws_szQuery.f k l2_0 l2_1 r2_0 = some r4_0)
 (ct2 : r4_0 < 0) :
    Calls Try.prog 11 #[.agg #[.slice A0_0 l0_0.length c0_0], .agg #[.slice A1_0 l1_0.length c1_0, .slice A1_1 l1_1.length c1_1], .agg #[.slice A2_0 l2_0.length c2_0, .slice A2_1 l2_1.length c2_1]] w fun e w' => e = .returned (.bool true) ∧ Below w.heap.size w w' := by
  have H0_0 := Aside0.mk hr0_0
  have HC0_0 := Aside0.mk hc0_0
  clear hr0_0 hc0_0
  have H1_0 := Aside0.mk hr1_0
  have HC1_0 := Aside0.mk hc1_0
  clear hr1_0 hc1_0
  have H1_1 := Aside0.mk hr1_1
  have HC1_1 := Aside0.mk hc1_1
  clear hr1_1 hc1_1
  have H2_0 := Aside0.mk hr2_0
  have HC2_0 := Aside0.mk hc2_0
  clear hr2_0 hc2_0
  have H2_1 := Aside0.mk hr2_1
  have HC2_1 := Aside0.mk hc2_1
  clear hr2_1 hc2_1
  have Ee0 := Aside0.mk e0; clear e0
  have ct0b := decide_eq_false (show ¬ r0_0 < 0 from ct0)
  clear ct0
  obtain ⟨ke2, q_⟩ := e2; have Ee2 := Aside0.mk q_; clear q_
  have ct1b := decide_eq_false (show ¬ r2_0 < 0 from ct1)
  clear ct1
  obtain ⟨ke4, q_⟩ := e4; have Ee4 := Aside0.mk q_; clear q_
  have ct2b := decide_eq_true (show r4_0 < 0 from ct2)
  clear ct2
  have HB := Aside0.mk (Below.refl w.heap.size w)
  have hu41 := Try.underlying41
  have hu62 := Try.underlying62
  go_enter Try.func11, Try.ntmps11
  go_wp2_with (first | ((with_reducible refine gate_dst (N := 3) rfl ?_); refine hold ?_))
  unfold Hold
  refine box_event ?hg (N := 3) ?hd (cs := #[.slice A0_0 l0_0.length c0_0]) (t := 62) ?hr ?_
  case hd => rfl
  case hg => rfl
  case hr => first | (go_simp; done) | (go_simp; rfl)
  intro g1 hg w1_ hbox hb
  have Bg1 := Aside0.mk hbox
  have Gg1 := Aside0.mk (show w.heap.size ≤ g1 ∧ g1 < w1_.heap.size from ⟨by rw [hg]; exact Nat.le_refl _, blk_lt hbox⟩)
  clear hbox hg
  have Z1_ := Aside0.mk (show w.heap.size ≤ w1_.heap.size from hb.size)
  have n_ := Aside0.mk (below_step HB.out hb); clear HB; have HB := n_; clear n_
  have hxg1_0 : w1_.cell? ⟨g1, 0, none⟩ = some (.slice A0_0 l0_0.length c0_0) := (blk_cell Bg1.out 0).trans rfl
  have hfg1_0 := blk_frozen Bg1.out 0
  clear hb
  go_wp2_with (first | ((with_reducible refine gate_dst (N := 4) rfl ?_); refine hold ?_))
  unfold Hold
  refine box_event ?hg (N := 4) ?hd (cs := #[.slice A1_0 l1_0.length c1_0, .slice A1_1 l1_1.length c1_1]) (t := 41) ?hr ?_
  case hd => rfl
  case hg => rfl
  case hr => first | (go_simp; done) | (go_simp; rfl)
  intro g2 hg w2_ hbox hb
  have Bg2 := Aside0.mk hbox
  have Gg2 := Aside0.mk (show w1_.heap.size ≤ g2 ∧ g2 < w2_.heap.size from ⟨by rw [hg]; exact Nat.le_refl _, blk_lt hbox⟩)
  clear hbox hg
  have Z2_ := Aside0.mk (show w1_.heap.size ≤ w2_.heap.size from hb.size)
  have n_ := Aside0.mk (blk_below Bg1.out hb); clear Bg1; have Bg1 := n_; clear n_
  have n_ := Aside0.mk (below_step HB.out hb); clear HB; have HB := n_; clear n_
  clear hxg1_0
  clear hfg1_0
  have hxg1_0 : w2_.cell? ⟨g1, 0, none⟩ = some (.slice A0_0 l0_0.length c0_0) := (blk_cell Bg1.out 0).trans rfl
  have hfg1_0 := blk_frozen Bg1.out 0
  have hxg2_0 : w2_.cell? ⟨g2, 0, none⟩ = some (.slice A1_0 l1_0.length c1_0) := (blk_cell Bg2.out 0).trans rfl
  have hxg2_1 : w2_.cell? ⟨g2, 1, none⟩ = some (.slice A1_1 l1_1.length c1_1) := (blk_cell Bg2.out 1).trans rfl
  have hfg2_0 := blk_frozen Bg2.out 0
  have hfg2_1 := blk_frozen Bg2.out 1
  clear hb
  go_wp2_with (first | ((with_reducible refine gate_dst (N := 5) rfl ?_); refine hold ?_))
  unfold Hold
  refine box_event ?hg (N := 5) ?hd (cs := #[.slice A2_0 l2_0.length c2_0, .slice A2_1 l2_1.length c2_1]) (t := 41) ?hr ?_
  case hd => rfl
  case hg => rfl
  case hr => first | (go_simp; done) | (go_simp; rfl)
  intro g3 hg w3_ hbox hb
  have Bg3 := Aside0.mk hbox
  have Gg3 := Aside0.mk (show w2_.heap.size ≤ g3 ∧ g3 < w3_.heap.size from ⟨by rw [hg]; exact Nat.le_refl _, blk_lt hbox⟩)
  clear hbox hg
  have Z3_ := Aside0.mk (show w2_.heap.size ≤ w3_.heap.size from hb.size)
  have n_ := Aside0.mk (blk_below Bg1.out hb); clear Bg1; have Bg1 := n_; clear n_
  have n_ := Aside0.mk (blk_below Bg2.out hb); clear Bg2; have Bg2 := n_; clear n_
  have n_ := Aside0.mk (below_step HB.out hb); clear HB; have HB := n_; clear n_
  clear hxg1_0
  clear hfg1_0
  clear hxg2_0
  clear hxg2_1
  clear hfg2_0
  clear hfg2_1
  have hxg1_0 : w3_.cell? ⟨g1, 0, none⟩ = some (.slice A0_0 l0_0.length c0_0) := (blk_cell Bg1.out 0).trans rfl
  have hfg1_0 := blk_frozen Bg1.out 0
  have hxg2_0 : w3_.cell? ⟨g2, 0, none⟩ = some (.slice A1_0 l1_0.length c1_0) := (blk_cell Bg2.out 0).trans rfl
  have hxg2_1 : w3_.cell? ⟨g2, 1, none⟩ = some (.slice A1_1 l1_1.length c1_1) := (blk_cell Bg2.out 1).trans rfl
  have hfg2_0 := blk_frozen Bg2.out 0
  have hfg2_1 := blk_frozen Bg2.out 1
  have hxg3_0 : w3_.cell? ⟨g3, 0, none⟩ = some (.slice A2_0 l2_0.length c2_0) := (blk_cell Bg3.out 0).trans rfl
  have hxg3_1 : w3_.cell? ⟨g3, 1, none⟩ = some (.slice A2_1 l2_1.length c2_1) := (blk_cell Bg3.out 1).trans rfl
  have hfg3_0 := blk_frozen Bg3.out 0
  have hfg3_1 := blk_frozen Bg3.out 1
  clear hb
  go_wp2_with (first | (go_at_call 47; refine hold ?_))
  unfold Hold
  refine (laws_szSchema.calls _ _ l0_0 1048576 r0_0 _ (Kd.C_below H0_0.out HB.out) HC0_0.out Ee0.out).mono ?_
  rintro e w4_ ⟨rfl, hb⟩
  have Z4_ := Aside0.mk (show w3_.heap.size ≤ w4_.heap.size from hb.size)
  have n_ := Aside0.mk (blk_below Bg1.out hb); clear Bg1; have Bg1 := n_; clear n_
  have n_ := Aside0.mk (blk_below Bg2.out hb); clear Bg2; have Bg2 := n_; clear n_
  have n_ := Aside0.mk (blk_below Bg3.out hb); clear Bg3; have Bg3 := n_; clear n_
  have n_ := Aside0.mk (below_step HB.out hb); clear HB; have HB := n_; clear n_
  clear hxg1_0
  clear hfg1_0
  clear hxg2_0
  clear hxg2_1
  clear hfg2_0
  clear hfg2_1
  clear hxg3_0
  clear hxg3_1
  clear hfg3_0
  clear hfg3_1
  have hxg1_0 : w4_.cell? ⟨g1, 0, none⟩ = some (.slice A0_0 l0_0.length c0_0) := (blk_cell Bg1.out 0).trans rfl
  have hfg1_0 := blk_frozen Bg1.out 0
  have hxg2_0 : w4_.cell? ⟨g2, 0, none⟩ = some (.slice A1_0 l1_0.length c1_0) := (blk_cell Bg2.out 0).trans rfl
  have hxg2_1 : w4_.cell? ⟨g2, 1, none⟩ = some (.slice A1_1 l1_1.length c1_1) := (blk_cell Bg2.out 1).trans rfl
  have hfg2_0 := blk_frozen Bg2.out 0
  have hfg2_1 := blk_frozen Bg2.out 1
  have hxg3_0 : w4_.cell? ⟨g3, 0, none⟩ = some (.slice A2_0 l2_0.length c2_0) := (blk_cell Bg3.out 0).trans rfl
  have hxg3_1 : w4_.cell? ⟨g3, 1, none⟩ = some (.slice A2_1 l2_1.length c2_1) := (blk_cell Bg3.out 1).trans rfl
  have hfg3_0 := blk_frozen Bg3.out 0
  have hfg3_1 := blk_frozen Bg3.out 1
  clear hb
  go_wp2_with (first | (go_at_call 30; refine hold ?_))
  unfold Hold
  refine (laws_szQuery.calls ke2 _ _ l1_0 _ _ l1_1 r0_0 r2_0 _ (Kd.C_below H1_0.out HB.out) HC1_0.out (Kd.C_below H1_1.out HB.out) HC1_1.out Ee2.out).mono ?_
  rintro e w5_ ⟨rfl, hb⟩
  have Z5_ := Aside0.mk (show w4_.heap.size ≤ w5_.heap.size from hb.size)
  have n_ := Aside0.mk (blk_below Bg1.out hb); clear Bg1; have Bg1 := n_; clear n_
  have n_ := Aside0.mk (blk_below Bg2.out hb); clear Bg2; have Bg2 := n_; clear n_
  have n_ := Aside0.mk (blk_below Bg3.out hb); clear Bg3; have Bg3 := n_; clear n_
  have n_ := Aside0.mk (below_step HB.out hb); clear HB; have HB := n_; clear n_
  clear hxg1_0
  clear hfg1_0
  clear hxg2_0
  clear hxg2_1
  clear hfg2_0
  clear hfg2_1
  clear hxg3_0
  clear hxg3_1
  clear hfg3_0
  clear hfg3_1
  have hxg1_0 : w5_.cell? ⟨g1, 0, none⟩ = some (.slice A0_0 l0_0.length c0_0) := (blk_cell Bg1.out 0).trans rfl
  have hfg1_0 := blk_frozen Bg1.out 0
  have hxg2_0 : w5_.cell? ⟨g2, 0, none⟩ = some (.slice A1_0 l1_0.length c1_0) := (blk_cell Bg2.out 0).trans rfl
  have hxg2_1 : w5_.cell? ⟨g2, 1, none⟩ = some (.slice A1_1 l1_1.length c1_1) := (blk_cell Bg2.out 1).trans rfl
  have hfg2_0 := blk_frozen Bg2.out 0
  have hfg2_1 := blk_frozen Bg2.out 1
  have hxg3_0 : w5_.cell? ⟨g3, 0, none⟩ = some (.slice A2_0 l2_0.length c2_0) := (blk_cell Bg3.out 0).trans rfl
  have hxg3_1 : w5_.cell? ⟨g3, 1, none⟩ = some (.slice A2_1 l2_1.length c2_1) := (blk_cell Bg3.out 1).trans rfl
  have hfg3_0 := blk_frozen Bg3.out 0
  have hfg3_1 := blk_frozen Bg3.out 1
  clear hb
  go_wp2_with (first | (go_at_call 30; refine hold ?_))
  unfold Hold
  refine (laws_szQuery.calls ke4 _ _ l2_0 _ _ l2_1 r2_0 r4_0 _ (Kd.C_below H2_0.out HB.out) HC2_0.out (Kd.C_below H2_1.out HB.out) HC2_1.out Ee4.out).mono ?_
  rintro e w6_ ⟨rfl, hb⟩
  have Z6_ := Aside0.mk (show w5_.heap.size ≤ w6_.heap.size from hb.size)
  have n_ := Aside0.mk (blk_below Bg1.out hb); clear Bg1; have Bg1 := n_; clear n_
  have n_ := Aside0.mk (blk_below Bg2.out hb); clear Bg2; have Bg2 := n_; clear n_
  have n_ := Aside0.mk (blk_below Bg3.out hb); clear Bg3; have Bg3 := n_; clear n_
  have n_ := Aside0.mk (below_step HB.out hb); clear HB; have HB := n_; clear n_
  clear hxg1_0
  clear hfg1_0
  clear hxg2_0
  clear hxg2_1
  clear hfg2_0
  clear hfg2_1
  clear hxg3_0
  clear hxg3_1
  clear hfg3_0
  clear hfg3_1
  have hxg1_0 : w6_.cell? ⟨g1, 0, none⟩ = some (.slice A0_0 l0_0.length c0_0) := (blk_cell Bg1.out 0).trans rfl
  have hfg1_0 := blk_frozen Bg1.out 0
  have hxg2_0 : w6_.cell? ⟨g2, 0, none⟩ = some (.slice A1_0 l1_0.length c1_0) := (blk_cell Bg2.out 0).trans rfl
  have hxg2_1 : w6_.cell? ⟨g2, 1, none⟩ = some (.slice A1_1 l1_1.length c1_1) := (blk_cell Bg2.out 1).trans rfl
  have hfg2_0 := blk_frozen Bg2.out 0
  have hfg2_1 := blk_frozen Bg2.out 1
  have hxg3_0 : w6_.cell? ⟨g3, 0, none⟩ = some (.slice A2_0 l2_0.length c2_0) := (blk_cell Bg3.out 0).trans rfl
  have hxg3_1 : w6_.cell? ⟨g3, 1, none⟩ = some (.slice A2_1 l2_1.length c2_1) := (blk_cell Bg3.out 1).trans rfl
  have hfg3_0 := blk_frozen Bg3.out 0
  have hfg3_1 := blk_frozen Bg3.out 1
  clear hb
  go_wp2
  go_ret
  exact ⟨rfl, HB.out⟩
set_option maxHeartbeats 8000000 in
set_option maxRecDepth 100000 in
theorem laws_FnExactIsEquivalent_walk (A0_0 : Option Addr) (c0_0 : Nat) (l0_0 : List Int) (A1_0 : Option Addr) (c1_0 : Nat) (l1_0 : List Int) (A1_1 : Option Addr) (c1_1 : Nat) (l1_1 : List S124) (A2_0 : Option Addr) (c2_0 : Nat) (l2_0 : List Int) (A2_1 : Option Addr) (c2_1 : Nat) (l2_1 : List S124) (w : World) (hr0_0 : Kd.C (Kd.int .i64) w A0_0 l0_0.length l0_0) (hc0_0 : l0_0.length ≤ c0_0) (hr1_0 : Kd.C (Kd.int .i64) w A1_0 l1_0.length l1_0) (hc1_0 : l1_0.length ≤ c1_0) (hr1_1 : Kd.C k124 w A1_1 l1_1.length l1_1) (hc1_1 : l1_1.length ≤ c1_1) (hr2_0 : Kd.C (Kd.int .i64) w A2_0 l2_0.length l2_0) (hc2_0 : l2_0.length ≤ c2_0) (hr2_1 : Kd.C k124 w A2_1 l2_1.length l2_1) (hc2_1 : l2_1.length ≤ c2_1) (r0_0 : Int) (r2_0 : Int) (r4_0 : Int) (r6_0 : List Int) (r7_0 : List Int) (r7_1 : List (S97)) (r8_0 : List Int) (r8_1 : List (S97)) (r9_0 : Bool)
    (e0 : laws_szSchema.f l0_0 1048576 = some r0_0)
 (ct0 : ¬ r0_0 < 0)
 (e2 : ∃ k, laws_szQuery.f k l1_0 l1_1 r0_0 = some r2_0)
 (ct1 : ¬ r2_0 < 0)
 (e4 : ∃ k, laws_szQuery.f k l2_0 l2_1 r2_0 = some r4_0)
 (ct2 : ¬ r4_0 < 0)
 (e6 : ∃ k, laws_toSchema.f k l0_0 = some r6_0)
 (e7 : ∃ k, laws_toQuery.f k l1_0 l1_1 = some (r7_0, r7_1))
 (e8 : ∃ k, laws_toQuery.f k l2_0 l2_1 = some (r8_0, r8_1))
 (e9 : ((mFindQ r6_0 r8_0 r8_1 r7_0 r7_1).2 && (mFindQ r6_0 r7_0 r7_1 r8_0 r8_1).2) = r9_0)
 (e9_hz0_ : (r6_0.length ≤ 1048576 ∧ r7_0.length ≤ 1048576 ∧ r7_1.length ≤ 1048576 ∧ r8_0.length ≤ 1048576 ∧ r8_1.length ≤ 1048576) ∧ (∀ x ∈ r7_1, x.f1.length ≤ 1048576) ∧ ∀ x ∈ r8_1, x.f1.length ≤ 1048576)
 (e10 : ((mFindQ r6_0 r8_0 r8_1 r7_0 r7_1).2 && (mFindQ r6_0 r7_0 r7_1 r8_0 r8_1).2) = r9_0)
 (e10_hz0_ : (r6_0.length ≤ 1048576 ∧ r7_0.length ≤ 1048576 ∧ r7_1.length ≤ 1048576 ∧ r8_0.length ≤ 1048576 ∧ r8_1.length ≤ 1048576) ∧ (∀ x ∈ r7_1, x.f1.length ≤ 1048576) ∧ ∀ x ∈ r8_1, x.f1.length ≤ 1048576)
 (e11 : ∃ k, laws_eqSchema.f k r6_0 r6_0 = some true)
 (e12 : ∃ k, laws_eqQuery.f k r7_0 r7_1 r7_0 r7_1 = some true)
 (e13 : ∃ k, laws_eqQuery.f k r8_0 r8_1 r8_0 r8_1 = some true) :
    Calls Try.prog 11 #[.agg #[.slice A0_0 l0_0.length c0_0], .agg #[.slice A1_0 l1_0.length c1_0, .slice A1_1 l1_1.length c1_1], .agg #[.slice A2_0 l2_0.length c2_0, .slice A2_1 l2_1.length c2_1]] w fun e w' => e = .returned (.bool true) ∧ Below w.heap.size w w' := by
  have H0_0 := Aside0.mk hr0_0
  have HC0_0 := Aside0.mk hc0_0
  clear hr0_0 hc0_0
  have H1_0 := Aside0.mk hr1_0
  have HC1_0 := Aside0.mk hc1_0
  clear hr1_0 hc1_0
  have H1_1 := Aside0.mk hr1_1
  have HC1_1 := Aside0.mk hc1_1
  clear hr1_1 hc1_1
  have H2_0 := Aside0.mk hr2_0
  have HC2_0 := Aside0.mk hc2_0
  clear hr2_0 hc2_0
  have H2_1 := Aside0.mk hr2_1
  have HC2_1 := Aside0.mk hc2_1
  clear hr2_1 hc2_1
  have Ee0 := Aside0.mk e0; clear e0
  have ct0b := decide_eq_false (show ¬ r0_0 < 0 from ct0)
  clear ct0
  obtain ⟨ke2, q_⟩ := e2; have Ee2 := Aside0.mk q_; clear q_
  have ct1b := decide_eq_false (show ¬ r2_0 < 0 from ct1)
  clear ct1
  obtain ⟨ke4, q_⟩ := e4; have Ee4 := Aside0.mk q_; clear q_
  have ct2b := decide_eq_false (show ¬ r4_0 < 0 from ct2)
  clear ct2
  obtain ⟨ke6, q_⟩ := e6; have Ee6 := Aside0.mk q_; clear q_
  obtain ⟨ke7, q_⟩ := e7; have Ee7 := Aside0.mk q_; clear q_
  obtain ⟨ke8, q_⟩ := e8; have Ee8 := Aside0.mk q_; clear q_
  have e9_hz0 := Aside0.mk e9_hz0_; clear e9_hz0_
  have Ee9 := Aside0.mk e9; clear e9
  have e10_hz0 := Aside0.mk e10_hz0_; clear e10_hz0_
  have Ee10 := Aside0.mk e10; clear e10
  obtain ⟨ke11, q_⟩ := e11; have Ee11 := Aside0.mk q_; clear q_
  obtain ⟨ke12, q_⟩ := e12; have Ee12 := Aside0.mk q_; clear q_
  obtain ⟨ke13, q_⟩ := e13; have Ee13 := Aside0.mk q_; clear q_
  have HB := Aside0.mk (Below.refl w.heap.size w)
  have hu65 := Try.underlying65
  have hu46 := Try.underlying46
  have hu41 := Try.underlying41
  have hu62 := Try.underlying62
  go_enter Try.func11, Try.ntmps11
  go_wp2_with (first | ((with_reducible refine gate_dst (N := 3) rfl ?_); refine hold ?_))
  unfold Hold
  refine box_event ?hg (N := 3) ?hd (cs := #[.slice A0_0 l0_0.length c0_0]) (t := 62) ?hr ?_
  case hd => rfl
  case hg => rfl
  case hr => first | (go_simp; done) | (go_simp; rfl)
  intro g1 hg w1_ hbox hb
  have Bg1 := Aside0.mk hbox
  have Gg1 := Aside0.mk (show w.heap.size ≤ g1 ∧ g1 < w1_.heap.size from ⟨by rw [hg]; exact Nat.le_refl _, blk_lt hbox⟩)
  clear hbox hg
  have Z1_ := Aside0.mk (show w.heap.size ≤ w1_.heap.size from hb.size)
  have n_ := Aside0.mk (below_step HB.out hb); clear HB; have HB := n_; clear n_
  have hxg1_0 : w1_.cell? ⟨g1, 0, none⟩ = some (.slice A0_0 l0_0.length c0_0) := (blk_cell Bg1.out 0).trans rfl
  have hfg1_0 := blk_frozen Bg1.out 0
  clear hb
  go_wp2_with (first | ((with_reducible refine gate_dst (N := 4) rfl ?_); refine hold ?_))
  unfold Hold
  refine box_event ?hg (N := 4) ?hd (cs := #[.slice A1_0 l1_0.length c1_0, .slice A1_1 l1_1.length c1_1]) (t := 41) ?hr ?_
  case hd => rfl
  case hg => rfl
  case hr => first | (go_simp; done) | (go_simp; rfl)
  intro g2 hg w2_ hbox hb
  have Bg2 := Aside0.mk hbox
  have Gg2 := Aside0.mk (show w1_.heap.size ≤ g2 ∧ g2 < w2_.heap.size from ⟨by rw [hg]; exact Nat.le_refl _, blk_lt hbox⟩)
  clear hbox hg
  have Z2_ := Aside0.mk (show w1_.heap.size ≤ w2_.heap.size from hb.size)
  have n_ := Aside0.mk (blk_below Bg1.out hb); clear Bg1; have Bg1 := n_; clear n_
  have n_ := Aside0.mk (below_step HB.out hb); clear HB; have HB := n_; clear n_
  clear hxg1_0
  clear hfg1_0
  have hxg1_0 : w2_.cell? ⟨g1, 0, none⟩ = some (.slice A0_0 l0_0.length c0_0) := (blk_cell Bg1.out 0).trans rfl
  have hfg1_0 := blk_frozen Bg1.out 0
  have hxg2_0 : w2_.cell? ⟨g2, 0, none⟩ = some (.slice A1_0 l1_0.length c1_0) := (blk_cell Bg2.out 0).trans rfl
  have hxg2_1 : w2_.cell? ⟨g2, 1, none⟩ = some (.slice A1_1 l1_1.length c1_1) := (blk_cell Bg2.out 1).trans rfl
  have hfg2_0 := blk_frozen Bg2.out 0
  have hfg2_1 := blk_frozen Bg2.out 1
  clear hb
  go_wp2_with (first | ((with_reducible refine gate_dst (N := 5) rfl ?_); refine hold ?_))
  unfold Hold
  refine box_event ?hg (N := 5) ?hd (cs := #[.slice A2_0 l2_0.length c2_0, .slice A2_1 l2_1.length c2_1]) (t := 41) ?hr ?_
  case hd => rfl
  case hg => rfl
  case hr => first | (go_simp; done) | (go_simp; rfl)
  intro g3 hg w3_ hbox hb
  have Bg3 := Aside0.mk hbox
  have Gg3 := Aside0.mk (show w2_.heap.size ≤ g3 ∧ g3 < w3_.heap.size from ⟨by rw [hg]; exact Nat.le_refl _, blk_lt hbox⟩)
  clear hbox hg
  have Z3_ := Aside0.mk (show w2_.heap.size ≤ w3_.heap.size from hb.size)
  have n_ := Aside0.mk (blk_below Bg1.out hb); clear Bg1; have Bg1 := n_; clear n_
  have n_ := Aside0.mk (blk_below Bg2.out hb); clear Bg2; have Bg2 := n_; clear n_
  have n_ := Aside0.mk (below_step HB.out hb); clear HB; have HB := n_; clear n_
  clear hxg1_0
  clear hfg1_0
  clear hxg2_0
  clear hxg2_1
  clear hfg2_0
  clear hfg2_1
  have hxg1_0 : w3_.cell? ⟨g1, 0, none⟩ = some (.slice A0_0 l0_0.length c0_0) := (blk_cell Bg1.out 0).trans rfl
  have hfg1_0 := blk_frozen Bg1.out 0
  have hxg2_0 : w3_.cell? ⟨g2, 0, none⟩ = some (.slice A1_0 l1_0.length c1_0) := (blk_cell Bg2.out 0).trans rfl
  have hxg2_1 : w3_.cell? ⟨g2, 1, none⟩ = some (.slice A1_1 l1_1.length c1_1) := (blk_cell Bg2.out 1).trans rfl
  have hfg2_0 := blk_frozen Bg2.out 0
  have hfg2_1 := blk_frozen Bg2.out 1
  have hxg3_0 : w3_.cell? ⟨g3, 0, none⟩ = some (.slice A2_0 l2_0.length c2_0) := (blk_cell Bg3.out 0).trans rfl
  have hxg3_1 : w3_.cell? ⟨g3, 1, none⟩ = some (.slice A2_1 l2_1.length c2_1) := (blk_cell Bg3.out 1).trans rfl
  have hfg3_0 := blk_frozen Bg3.out 0
  have hfg3_1 := blk_frozen Bg3.out 1
  clear hb
  go_wp2_with (first | (go_at_call 47; refine hold ?_))
  unfold Hold
  refine (laws_szSchema.calls _ _ l0_0 1048576 r0_0 _ (Kd.C_below H0_0.out HB.out) HC0_0.out Ee0.out).mono ?_
  rintro e w4_ ⟨rfl, hb⟩
  have Z4_ := Aside0.mk (show w3_.heap.size ≤ w4_.heap.size from hb.size)
  have n_ := Aside0.mk (blk_below Bg1.out hb); clear Bg1; have Bg1 := n_; clear n_
  have n_ := Aside0.mk (blk_below Bg2.out hb); clear Bg2; have Bg2 := n_; clear n_
  have n_ := Aside0.mk (blk_below Bg3.out hb); clear Bg3; have Bg3 := n_; clear n_
  have n_ := Aside0.mk (below_step HB.out hb); clear HB; have HB := n_; clear n_
  clear hxg1_0
  clear hfg1_0
  clear hxg2_0
  clear hxg2_1
  clear hfg2_0
  clear hfg2_1
  clear hxg3_0
  clear hxg3_1
  clear hfg3_0
  clear hfg3_1
  have hxg1_0 : w4_.cell? ⟨g1, 0, none⟩ = some (.slice A0_0 l0_0.length c0_0) := (blk_cell Bg1.out 0).trans rfl
  have hfg1_0 := blk_frozen Bg1.out 0
  have hxg2_0 : w4_.cell? ⟨g2, 0, none⟩ = some (.slice A1_0 l1_0.length c1_0) := (blk_cell Bg2.out 0).trans rfl
  have hxg2_1 : w4_.cell? ⟨g2, 1, none⟩ = some (.slice A1_1 l1_1.length c1_1) := (blk_cell Bg2.out 1).trans rfl
  have hfg2_0 := blk_frozen Bg2.out 0
  have hfg2_1 := blk_frozen Bg2.out 1
  have hxg3_0 : w4_.cell? ⟨g3, 0, none⟩ = some (.slice A2_0 l2_0.length c2_0) := (blk_cell Bg3.out 0).trans rfl
  have hxg3_1 : w4_.cell? ⟨g3, 1, none⟩ = some (.slice A2_1 l2_1.length c2_1) := (blk_cell Bg3.out 1).trans rfl
  have hfg3_0 := blk_frozen Bg3.out 0
  have hfg3_1 := blk_frozen Bg3.out 1
  clear hb
  go_wp2_with (first | (go_at_call 30; refine hold ?_))
  unfold Hold
  refine (laws_szQuery.calls ke2 _ _ l1_0 _ _ l1_1 r0_0 r2_0 _ (Kd.C_below H1_0.out HB.out) HC1_0.out (Kd.C_below H1_1.out HB.out) HC1_1.out Ee2.out).mono ?_
  rintro e w5_ ⟨rfl, hb⟩
  have Z5_ := Aside0.mk (show w4_.heap.size ≤ w5_.heap.size from hb.size)
  have n_ := Aside0.mk (blk_below Bg1.out hb); clear Bg1; have Bg1 := n_; clear n_
  have n_ := Aside0.mk (blk_below Bg2.out hb); clear Bg2; have Bg2 := n_; clear n_
  have n_ := Aside0.mk (blk_below Bg3.out hb); clear Bg3; have Bg3 := n_; clear n_
  have n_ := Aside0.mk (below_step HB.out hb); clear HB; have HB := n_; clear n_
  clear hxg1_0
  clear hfg1_0
  clear hxg2_0
  clear hxg2_1
  clear hfg2_0
  clear hfg2_1
  clear hxg3_0
  clear hxg3_1
  clear hfg3_0
  clear hfg3_1
  have hxg1_0 : w5_.cell? ⟨g1, 0, none⟩ = some (.slice A0_0 l0_0.length c0_0) := (blk_cell Bg1.out 0).trans rfl
  have hfg1_0 := blk_frozen Bg1.out 0
  have hxg2_0 : w5_.cell? ⟨g2, 0, none⟩ = some (.slice A1_0 l1_0.length c1_0) := (blk_cell Bg2.out 0).trans rfl
  have hxg2_1 : w5_.cell? ⟨g2, 1, none⟩ = some (.slice A1_1 l1_1.length c1_1) := (blk_cell Bg2.out 1).trans rfl
  have hfg2_0 := blk_frozen Bg2.out 0
  have hfg2_1 := blk_frozen Bg2.out 1
  have hxg3_0 : w5_.cell? ⟨g3, 0, none⟩ = some (.slice A2_0 l2_0.length c2_0) := (blk_cell Bg3.out 0).trans rfl
  have hxg3_1 : w5_.cell? ⟨g3, 1, none⟩ = some (.slice A2_1 l2_1.length c2_1) := (blk_cell Bg3.out 1).trans rfl
  have hfg3_0 := blk_frozen Bg3.out 0
  have hfg3_1 := blk_frozen Bg3.out 1
  clear hb
  go_wp2_with (first | (go_at_call 30; refine hold ?_))
  unfold Hold
  refine (laws_szQuery.calls ke4 _ _ l2_0 _ _ l2_1 r2_0 r4_0 _ (Kd.C_below H2_0.out HB.out) HC2_0.out (Kd.C_below H2_1.out HB.out) HC2_1.out Ee4.out).mono ?_
  rintro e w6_ ⟨rfl, hb⟩
  have Z6_ := Aside0.mk (show w5_.heap.size ≤ w6_.heap.size from hb.size)
  have n_ := Aside0.mk (blk_below Bg1.out hb); clear Bg1; have Bg1 := n_; clear n_
  have n_ := Aside0.mk (blk_below Bg2.out hb); clear Bg2; have Bg2 := n_; clear n_
  have n_ := Aside0.mk (blk_below Bg3.out hb); clear Bg3; have Bg3 := n_; clear n_
  have n_ := Aside0.mk (below_step HB.out hb); clear HB; have HB := n_; clear n_
  clear hxg1_0
  clear hfg1_0
  clear hxg2_0
  clear hxg2_1
  clear hfg2_0
  clear hfg2_1
  clear hxg3_0
  clear hxg3_1
  clear hfg3_0
  clear hfg3_1
  have hxg1_0 : w6_.cell? ⟨g1, 0, none⟩ = some (.slice A0_0 l0_0.length c0_0) := (blk_cell Bg1.out 0).trans rfl
  have hfg1_0 := blk_frozen Bg1.out 0
  have hxg2_0 : w6_.cell? ⟨g2, 0, none⟩ = some (.slice A1_0 l1_0.length c1_0) := (blk_cell Bg2.out 0).trans rfl
  have hxg2_1 : w6_.cell? ⟨g2, 1, none⟩ = some (.slice A1_1 l1_1.length c1_1) := (blk_cell Bg2.out 1).trans rfl
  have hfg2_0 := blk_frozen Bg2.out 0
  have hfg2_1 := blk_frozen Bg2.out 1
  have hxg3_0 : w6_.cell? ⟨g3, 0, none⟩ = some (.slice A2_0 l2_0.length c2_0) := (blk_cell Bg3.out 0).trans rfl
  have hxg3_1 : w6_.cell? ⟨g3, 1, none⟩ = some (.slice A2_1 l2_1.length c2_1) := (blk_cell Bg3.out 1).trans rfl
  have hfg3_0 := blk_frozen Bg3.out 0
  have hfg3_1 := blk_frozen Bg3.out 1
  clear hb
  try go_wp2_with fail
  have n_ := Aside0.mk (blk_drew Bg1.out); clear Bg1; have Bg1 := n_; clear n_
  have n_ := Aside0.mk (blk_drew Bg2.out); clear Bg2; have Bg2 := n_; clear n_
  have n_ := Aside0.mk (blk_drew Bg3.out); clear Bg3; have Bg3 := n_; clear n_
  have n_ := Aside0.mk (below_drew1 HB.out); clear HB; have HB := n_; clear n_
  clear hxg1_0
  clear hfg1_0
  clear hxg2_0
  clear hxg2_1
  clear hfg2_0
  clear hfg2_1
  clear hxg3_0
  clear hxg3_1
  clear hfg3_0
  clear hfg3_1
  have hz := Aside0.mk (show w6_.heap.size ≤ w6_.drew.heap.size from Nat.le_refl _)
  refine start_ (n := 8) (S := fun w' => w'.cell? ⟨g1, 0, none⟩ = some (.slice A0_0 l0_0.length c0_0) ∧ w'.cell? ⟨g2, 0, none⟩ = some (.slice A1_0 l1_0.length c1_0) ∧ w'.cell? ⟨g2, 1, none⟩ = some (.slice A1_1 l1_1.length c1_1) ∧ w'.cell? ⟨g3, 0, none⟩ = some (.slice A2_0 l2_0.length c2_0) ∧ w'.cell? ⟨g3, 1, none⟩ = some (.slice A2_1 l2_1.length c2_1)) (ds := []) #[false,false,false,false,false,false,false,false] (by kernel_rfl) rfl rfl ⟨(blk_cell Bg1.out 0).trans rfl, (blk_cell Bg2.out 0).trans rfl, (blk_cell Bg2.out 1).trans rfl, (blk_cell Bg3.out 0).trans rfl, (blk_cell Bg3.out 1).trans rfl⟩ (fun hHeld => ?_)
  generalize w6_.drew = w7_ at Bg1 Bg2 Bg3 HB hz hHeld ⊢
  have Z7_ := hz; clear hz
  refine take_ (i := 0) (N := some 28) (v := ?_) (a' := ?_) #[true,false,false,false,false,false,false,false] rfl rfl (by kernel_rfl) (fun _ _ _ h => h) (Or.inl ⟨by rfl, ?_⟩) hHeld ?_ ?_
  rotate_left
  · rintro w' ⟨s0, s1, s2, s3, s4⟩; go_simp; with_reducible rfl
  rotate_left
  · simp only [Act.put, List.setIfInBounds_toArray, List.set_cons_zero, List.set_cons_succ, i64_w, i32_w]; rfl
  refine take_ (i := 2) (N := some 30) (v := ?_) (a' := ?_) #[true,false,true,false,false,false,false,false] rfl rfl (by kernel_rfl) (fun _ _ _ h => h) (Or.inl ⟨by rfl, ?_⟩) hHeld ?_ ?_
  rotate_left
  · rintro w' ⟨s0, s1, s2, s3, s4⟩; go_simp; with_reducible rfl
  rotate_left
  · simp only [Act.put, List.setIfInBounds_toArray, List.set_cons_zero, List.set_cons_succ, i64_w, i32_w]; rfl
  refine take_ (i := 4) (N := some 32) (v := ?_) (a' := ?_) #[true,false,true,false,true,false,false,false] rfl rfl (by kernel_rfl) (fun _ _ _ h => h) (Or.inl ⟨by rfl, ?_⟩) hHeld ?_ ?_
  rotate_left
  · rintro w' ⟨s0, s1, s2, s3, s4⟩; go_simp; with_reducible rfl
  rotate_left
  · simp only [Act.put, List.setIfInBounds_toArray, List.set_cons_zero, List.set_cons_succ, i64_w, i32_w]; rfl
  refine one_ (i := 1) (N := some 29) #[true,true,true,false,true,false,false,false] rfl rfl (by kernel_rfl) (by decide) (fun K hK => ?_)
  refine goes_ Try.func49 (by kernel_rfl) rfl #[.agg #[.slice A0_0 l0_0.length c0_0]] (by rfl) rfl rfl (by (try simp only [List.map_toArray, List.map_cons, List.map_nil]); first | done | rfl) ?_
  with_reducible refine (laws_toSchema.calls ke6 _ _ l0_0 r6_0 _ (Kd.C_below H0_0.out HB.out) HC0_0.out Ee6.out).mono ?_
  rintro e w8_ ⟨v8_0_, rfl, ho0, hb⟩
  refine ⟨_, rfl, ?_⟩
  have O8_0 := Aside0.mk (newR ho0 HB.out.size)
  have Z8_ := Aside0.mk (show w7_.heap.size ≤ w8_.heap.size from hb.size)
  have n_ := Aside0.mk (blk_below Bg1.out hb); clear Bg1; have Bg1 := n_; clear n_
  have n_ := Aside0.mk (blk_below Bg2.out hb); clear Bg2; have Bg2 := n_; clear n_
  have n_ := Aside0.mk (blk_below Bg3.out hb); clear Bg3; have Bg3 := n_; clear n_
  have n_ := Aside0.mk (below_step HB.out hb); clear HB; have HB := n_; clear n_
  have hxg1_0 : w8_.cell? ⟨g1, 0, none⟩ = some (.slice A0_0 l0_0.length c0_0) := (blk_cell Bg1.out 0).trans rfl
  have hfg1_0 := blk_frozen Bg1.out 0
  have hxg2_0 : w8_.cell? ⟨g2, 0, none⟩ = some (.slice A1_0 l1_0.length c1_0) := (blk_cell Bg2.out 0).trans rfl
  have hxg2_1 : w8_.cell? ⟨g2, 1, none⟩ = some (.slice A1_1 l1_1.length c1_1) := (blk_cell Bg2.out 1).trans rfl
  have hfg2_0 := blk_frozen Bg2.out 0
  have hfg2_1 := blk_frozen Bg2.out 1
  have hxg3_0 : w8_.cell? ⟨g3, 0, none⟩ = some (.slice A2_0 l2_0.length c2_0) := (blk_cell Bg3.out 0).trans rfl
  have hxg3_1 : w8_.cell? ⟨g3, 1, none⟩ = some (.slice A2_1 l2_1.length c2_1) := (blk_cell Bg3.out 1).trans rfl
  have hfg3_0 := blk_frozen Bg3.out 0
  have hfg3_1 := blk_frozen Bg3.out 1
  clear hb ho0
  obtain ⟨A8_0_, c8_0_, eq_⟩ := Kd.R_slice O8_0.out
  subst eq_
  clear hxg1_0
  clear hfg1_0
  clear hxg2_0
  clear hxg2_1
  clear hfg2_0
  clear hfg2_1
  clear hxg3_0
  clear hxg3_1
  clear hfg3_0
  clear hfg3_1
  refine hK.out _ _ ⟨(blk_cell Bg1.out 0).trans rfl, (blk_cell Bg2.out 0).trans rfl, (blk_cell Bg2.out 1).trans rfl, (blk_cell Bg3.out 0).trans rfl, (blk_cell Bg3.out 1).trans rfl⟩ (fun hHeld => ?_)
  clear hK K
  refine norm_ (a' := ?_) ?_ ?_
  rotate_left
  · show Act.put _ (some 29) _ = _; simp only [Act.put, List.setIfInBounds_toArray, List.set_cons_zero, List.set_cons_succ, i64_w, i32_w]; rfl
  refine one_ (i := 3) (N := some 31) #[true,true,true,true,true,false,false,false] rfl rfl (by kernel_rfl) (by decide) (fun K hK => ?_)
  refine goes_ Try.func32 (by kernel_rfl) rfl #[.agg #[.slice A1_0 l1_0.length c1_0, .slice A1_1 l1_1.length c1_1]] (by rfl) rfl rfl (by (try simp only [List.map_toArray, List.map_cons, List.map_nil]); first | done | rfl) ?_
  with_reducible refine (laws_toQuery.calls ke7 _ _ l1_0 _ _ l1_1 r7_0 r7_1 _ (Kd.C_below H1_0.out HB.out) HC1_0.out (Kd.C_below H1_1.out HB.out) HC1_1.out Ee7.out).mono ?_
  rintro e w9_ ⟨v9_0_, v9_1_, rfl, ho0, ho1, hb⟩
  refine ⟨_, rfl, ?_⟩
  have O9_0 := Aside0.mk (newR ho0 HB.out.size)
  have O9_1 := Aside0.mk (newS ho1 HB.out.size)
  have Z9_ := Aside0.mk (show w8_.heap.size ≤ w9_.heap.size from hb.size)
  have n_ := Aside0.mk (Kd.R_below O8_0.out hb); clear O8_0; have O8_0 := n_; clear n_
  have n_ := Aside0.mk (blk_below Bg1.out hb); clear Bg1; have Bg1 := n_; clear n_
  have n_ := Aside0.mk (blk_below Bg2.out hb); clear Bg2; have Bg2 := n_; clear n_
  have n_ := Aside0.mk (blk_below Bg3.out hb); clear Bg3; have Bg3 := n_; clear n_
  have n_ := Aside0.mk (below_step HB.out hb); clear HB; have HB := n_; clear n_
  have hxg1_0 : w9_.cell? ⟨g1, 0, none⟩ = some (.slice A0_0 l0_0.length c0_0) := (blk_cell Bg1.out 0).trans rfl
  have hfg1_0 := blk_frozen Bg1.out 0
  have hxg2_0 : w9_.cell? ⟨g2, 0, none⟩ = some (.slice A1_0 l1_0.length c1_0) := (blk_cell Bg2.out 0).trans rfl
  have hxg2_1 : w9_.cell? ⟨g2, 1, none⟩ = some (.slice A1_1 l1_1.length c1_1) := (blk_cell Bg2.out 1).trans rfl
  have hfg2_0 := blk_frozen Bg2.out 0
  have hfg2_1 := blk_frozen Bg2.out 1
  have hxg3_0 : w9_.cell? ⟨g3, 0, none⟩ = some (.slice A2_0 l2_0.length c2_0) := (blk_cell Bg3.out 0).trans rfl
  have hxg3_1 : w9_.cell? ⟨g3, 1, none⟩ = some (.slice A2_1 l2_1.length c2_1) := (blk_cell Bg3.out 1).trans rfl
  have hfg3_0 := blk_frozen Bg3.out 0
  have hfg3_1 := blk_frozen Bg3.out 1
  clear hb ho0 ho1
  obtain ⟨A9_0_, c9_0_, eq_⟩ := Kd.R_slice O9_0.out
  subst eq_
  obtain ⟨A9_1_, c9_1_, eq_⟩ := Kd.S_slice O9_1.out
  subst eq_
  clear hxg1_0
  clear hfg1_0
  clear hxg2_0
  clear hxg2_1
  clear hfg2_0
  clear hfg2_1
  clear hxg3_0
  clear hxg3_1
  clear hfg3_0
  clear hfg3_1
  refine hK.out _ _ ⟨(blk_cell Bg1.out 0).trans rfl, (blk_cell Bg2.out 0).trans rfl, (blk_cell Bg2.out 1).trans rfl, (blk_cell Bg3.out 0).trans rfl, (blk_cell Bg3.out 1).trans rfl⟩ (fun hHeld => ?_)
  clear hK K
  refine norm_ (a' := ?_) ?_ ?_
  rotate_left
  · show Act.put _ (some 31) _ = _; simp only [Act.put, List.setIfInBounds_toArray, List.set_cons_zero, List.set_cons_succ, i64_w, i32_w]; rfl
  refine one_ (i := 5) (N := some 33) #[true,true,true,true,true,true,false,false] rfl rfl (by kernel_rfl) (by decide) (fun K hK => ?_)
  refine goes_ Try.func32 (by kernel_rfl) rfl #[.agg #[.slice A2_0 l2_0.length c2_0, .slice A2_1 l2_1.length c2_1]] (by rfl) rfl rfl (by (try simp only [List.map_toArray, List.map_cons, List.map_nil]); first | done | rfl) ?_
  with_reducible refine (laws_toQuery.calls ke8 _ _ l2_0 _ _ l2_1 r8_0 r8_1 _ (Kd.C_below H2_0.out HB.out) HC2_0.out (Kd.C_below H2_1.out HB.out) HC2_1.out Ee8.out).mono ?_
  rintro e w10_ ⟨v10_0_, v10_1_, rfl, ho0, ho1, hb⟩
  refine ⟨_, rfl, ?_⟩
  have O10_0 := Aside0.mk (newR ho0 HB.out.size)
  have O10_1 := Aside0.mk (newS ho1 HB.out.size)
  have Z10_ := Aside0.mk (show w9_.heap.size ≤ w10_.heap.size from hb.size)
  have n_ := Aside0.mk (Kd.R_below O8_0.out hb); clear O8_0; have O8_0 := n_; clear n_
  have n_ := Aside0.mk (Kd.R_below O9_0.out hb); clear O9_0; have O9_0 := n_; clear n_
  have n_ := Aside0.mk (Kd.S_below O9_1.out hb); clear O9_1; have O9_1 := n_; clear n_
  have n_ := Aside0.mk (blk_below Bg1.out hb); clear Bg1; have Bg1 := n_; clear n_
  have n_ := Aside0.mk (blk_below Bg2.out hb); clear Bg2; have Bg2 := n_; clear n_
  have n_ := Aside0.mk (blk_below Bg3.out hb); clear Bg3; have Bg3 := n_; clear n_
  have n_ := Aside0.mk (below_step HB.out hb); clear HB; have HB := n_; clear n_
  have hxg1_0 : w10_.cell? ⟨g1, 0, none⟩ = some (.slice A0_0 l0_0.length c0_0) := (blk_cell Bg1.out 0).trans rfl
  have hfg1_0 := blk_frozen Bg1.out 0
  have hxg2_0 : w10_.cell? ⟨g2, 0, none⟩ = some (.slice A1_0 l1_0.length c1_0) := (blk_cell Bg2.out 0).trans rfl
  have hxg2_1 : w10_.cell? ⟨g2, 1, none⟩ = some (.slice A1_1 l1_1.length c1_1) := (blk_cell Bg2.out 1).trans rfl
  have hfg2_0 := blk_frozen Bg2.out 0
  have hfg2_1 := blk_frozen Bg2.out 1
  have hxg3_0 : w10_.cell? ⟨g3, 0, none⟩ = some (.slice A2_0 l2_0.length c2_0) := (blk_cell Bg3.out 0).trans rfl
  have hxg3_1 : w10_.cell? ⟨g3, 1, none⟩ = some (.slice A2_1 l2_1.length c2_1) := (blk_cell Bg3.out 1).trans rfl
  have hfg3_0 := blk_frozen Bg3.out 0
  have hfg3_1 := blk_frozen Bg3.out 1
  clear hb ho0 ho1
  obtain ⟨A10_0_, c10_0_, eq_⟩ := Kd.R_slice O10_0.out
  subst eq_
  obtain ⟨A10_1_, c10_1_, eq_⟩ := Kd.S_slice O10_1.out
  subst eq_
  clear hxg1_0
  clear hfg1_0
  clear hxg2_0
  clear hxg2_1
  clear hfg2_0
  clear hfg2_1
  clear hxg3_0
  clear hxg3_1
  clear hfg3_0
  clear hfg3_1
  refine hK.out _ _ ⟨(blk_cell Bg1.out 0).trans rfl, (blk_cell Bg2.out 0).trans rfl, (blk_cell Bg2.out 1).trans rfl, (blk_cell Bg3.out 0).trans rfl, (blk_cell Bg3.out 1).trans rfl⟩ (fun hHeld => ?_)
  clear hK K
  refine norm_ (a' := ?_) ?_ ?_
  rotate_left
  · show Act.put _ (some 33) _ = _; simp only [Act.put, List.setIfInBounds_toArray, List.set_cons_zero, List.set_cons_succ, i64_w, i32_w]; rfl
  refine one_ (i := 6) (N := some 34) #[true,true,true,true,true,true,true,false] rfl rfl (by kernel_rfl) (by decide) (fun K hK => ?_)
  refine goes_ Try.func54 (by kernel_rfl) rfl #[.agg #[.slice A8_0_ r6_0.length c8_0_], .agg #[.slice A9_0_ r7_0.length c9_0_, .slice A9_1_ r7_1.length c9_1_], .agg #[.slice A10_0_ r8_0.length c10_0_, .slice A10_1_ r8_1.length c10_1_]] (by rfl) rfl rfl (by (try simp only [List.map_toArray, List.map_cons, List.map_nil]); first | done | rfl) ?_
  with_reducible refine (spec_IsEquivalent_calls _ _ r6_0 _ _ r7_0 _ _ r7_1 _ _ r8_0 _ _ r8_1 r9_0 _ (Kd.R_reads' O8_0.out).2.2 (Kd.R_reads' O8_0.out).2.1 (Kd.R_reads' O9_0.out).2.2 (Kd.R_reads' O9_0.out).2.1 (Kd.S_reads' O9_1.out).2.2 (Kd.S_reads' O9_1.out).2.1 (Kd.R_reads' O10_0.out).2.2 (Kd.R_reads' O10_0.out).2.1 (Kd.S_reads' O10_1.out).2.2 (Kd.S_reads' O10_1.out).2.1 e9_hz0.out Ee9.out).mono ?_
  rintro e w11_ ⟨rfl, hb⟩
  refine ⟨_, rfl, ?_⟩
  have Z11_ := Aside0.mk (show w10_.heap.size ≤ w11_.heap.size from hb.size)
  have n_ := Aside0.mk (Kd.R_below O8_0.out hb); clear O8_0; have O8_0 := n_; clear n_
  have n_ := Aside0.mk (Kd.R_below O9_0.out hb); clear O9_0; have O9_0 := n_; clear n_
  have n_ := Aside0.mk (Kd.S_below O9_1.out hb); clear O9_1; have O9_1 := n_; clear n_
  have n_ := Aside0.mk (Kd.R_below O10_0.out hb); clear O10_0; have O10_0 := n_; clear n_
  have n_ := Aside0.mk (Kd.S_below O10_1.out hb); clear O10_1; have O10_1 := n_; clear n_
  have n_ := Aside0.mk (blk_below Bg1.out hb); clear Bg1; have Bg1 := n_; clear n_
  have n_ := Aside0.mk (blk_below Bg2.out hb); clear Bg2; have Bg2 := n_; clear n_
  have n_ := Aside0.mk (blk_below Bg3.out hb); clear Bg3; have Bg3 := n_; clear n_
  have n_ := Aside0.mk (below_step HB.out hb); clear HB; have HB := n_; clear n_
  have hxg1_0 : w11_.cell? ⟨g1, 0, none⟩ = some (.slice A0_0 l0_0.length c0_0) := (blk_cell Bg1.out 0).trans rfl
  have hfg1_0 := blk_frozen Bg1.out 0
  have hxg2_0 : w11_.cell? ⟨g2, 0, none⟩ = some (.slice A1_0 l1_0.length c1_0) := (blk_cell Bg2.out 0).trans rfl
  have hxg2_1 : w11_.cell? ⟨g2, 1, none⟩ = some (.slice A1_1 l1_1.length c1_1) := (blk_cell Bg2.out 1).trans rfl
  have hfg2_0 := blk_frozen Bg2.out 0
  have hfg2_1 := blk_frozen Bg2.out 1
  have hxg3_0 : w11_.cell? ⟨g3, 0, none⟩ = some (.slice A2_0 l2_0.length c2_0) := (blk_cell Bg3.out 0).trans rfl
  have hxg3_1 : w11_.cell? ⟨g3, 1, none⟩ = some (.slice A2_1 l2_1.length c2_1) := (blk_cell Bg3.out 1).trans rfl
  have hfg3_0 := blk_frozen Bg3.out 0
  have hfg3_1 := blk_frozen Bg3.out 1
  clear hb
  clear hxg1_0
  clear hfg1_0
  clear hxg2_0
  clear hxg2_1
  clear hfg2_0
  clear hfg2_1
  clear hxg3_0
  clear hxg3_1
  clear hfg3_0
  clear hfg3_1
  refine hK.out _ _ ⟨(blk_cell Bg1.out 0).trans rfl, (blk_cell Bg2.out 0).trans rfl, (blk_cell Bg2.out 1).trans rfl, (blk_cell Bg3.out 0).trans rfl, (blk_cell Bg3.out 1).trans rfl⟩ (fun hHeld => ?_)
  clear hK K
  refine norm_ (a' := ?_) ?_ ?_
  rotate_left
  · show Act.put _ (some 34) _ = _; simp only [Act.put, List.setIfInBounds_toArray, List.set_cons_zero, List.set_cons_succ, i64_w, i32_w]; rfl
  refine pure_ (i := 7) (N := some 8) (v := ?_) (a' := ?_) #[true,true,true,true,true,true,true,true] rfl rfl (by kernel_rfl) (fun _ _ _ h => h) (Or.inl ⟨by rfl, ?_⟩) ?_ ?_
  rotate_left
  · intro w'; go_simp; with_reducible rfl
  rotate_left
  · simp only [Act.put, List.setIfInBounds_toArray, List.set_cons_zero, List.set_cons_succ, i64_w, i32_w]; rfl
  refine done_ (by kernel_rfl) ?_
  have hxg1_0 : w11_.cell? ⟨g1, 0, none⟩ = some (.slice A0_0 l0_0.length c0_0) := (blk_cell Bg1.out 0).trans rfl
  have hfg1_0 := blk_frozen Bg1.out 0
  have hxg2_0 : w11_.cell? ⟨g2, 0, none⟩ = some (.slice A1_0 l1_0.length c1_0) := (blk_cell Bg2.out 0).trans rfl
  have hxg2_1 : w11_.cell? ⟨g2, 1, none⟩ = some (.slice A1_1 l1_1.length c1_1) := (blk_cell Bg2.out 1).trans rfl
  have hfg2_0 := blk_frozen Bg2.out 0
  have hfg2_1 := blk_frozen Bg2.out 1
  have hxg3_0 : w11_.cell? ⟨g3, 0, none⟩ = some (.slice A2_0 l2_0.length c2_0) := (blk_cell Bg3.out 0).trans rfl
  have hxg3_1 : w11_.cell? ⟨g3, 1, none⟩ = some (.slice A2_1 l2_1.length c2_1) := (blk_cell Bg3.out 1).trans rfl
  have hfg3_0 := blk_frozen Bg3.out 0
  have hfg3_1 := blk_frozen Bg3.out 1
  go_wp2_with (first | (go_at_call 49; refine hold ?_))
  unfold Hold
  refine (laws_toSchema.calls ke6 _ _ l0_0 r6_0 _ (Kd.C_below H0_0.out HB.out) HC0_0.out Ee6.out).mono ?_
  rintro e w12_ ⟨v12_0_, rfl, ho0, hb⟩
  have O12_0 := Aside0.mk (newR ho0 HB.out.size)
  have Z12_ := Aside0.mk (show w11_.heap.size ≤ w12_.heap.size from hb.size)
  have n_ := Aside0.mk (Kd.R_below O8_0.out hb); clear O8_0; have O8_0 := n_; clear n_
  have n_ := Aside0.mk (Kd.R_below O9_0.out hb); clear O9_0; have O9_0 := n_; clear n_
  have n_ := Aside0.mk (Kd.S_below O9_1.out hb); clear O9_1; have O9_1 := n_; clear n_
  have n_ := Aside0.mk (Kd.R_below O10_0.out hb); clear O10_0; have O10_0 := n_; clear n_
  have n_ := Aside0.mk (Kd.S_below O10_1.out hb); clear O10_1; have O10_1 := n_; clear n_
  have n_ := Aside0.mk (blk_below Bg1.out hb); clear Bg1; have Bg1 := n_; clear n_
  have n_ := Aside0.mk (blk_below Bg2.out hb); clear Bg2; have Bg2 := n_; clear n_
  have n_ := Aside0.mk (blk_below Bg3.out hb); clear Bg3; have Bg3 := n_; clear n_
  have n_ := Aside0.mk (below_step HB.out hb); clear HB; have HB := n_; clear n_
  clear hxg1_0
  clear hfg1_0
  clear hxg2_0
  clear hxg2_1
  clear hfg2_0
  clear hfg2_1
  clear hxg3_0
  clear hxg3_1
  clear hfg3_0
  clear hfg3_1
  have hxg1_0 : w12_.cell? ⟨g1, 0, none⟩ = some (.slice A0_0 l0_0.length c0_0) := (blk_cell Bg1.out 0).trans rfl
  have hfg1_0 := blk_frozen Bg1.out 0
  have hxg2_0 : w12_.cell? ⟨g2, 0, none⟩ = some (.slice A1_0 l1_0.length c1_0) := (blk_cell Bg2.out 0).trans rfl
  have hxg2_1 : w12_.cell? ⟨g2, 1, none⟩ = some (.slice A1_1 l1_1.length c1_1) := (blk_cell Bg2.out 1).trans rfl
  have hfg2_0 := blk_frozen Bg2.out 0
  have hfg2_1 := blk_frozen Bg2.out 1
  have hxg3_0 : w12_.cell? ⟨g3, 0, none⟩ = some (.slice A2_0 l2_0.length c2_0) := (blk_cell Bg3.out 0).trans rfl
  have hxg3_1 : w12_.cell? ⟨g3, 1, none⟩ = some (.slice A2_1 l2_1.length c2_1) := (blk_cell Bg3.out 1).trans rfl
  have hfg3_0 := blk_frozen Bg3.out 0
  have hfg3_1 := blk_frozen Bg3.out 1
  clear hb ho0
  obtain ⟨A12_0_, c12_0_, eq_⟩ := Kd.R_slice O12_0.out
  subst eq_
  go_wp2_with (first | ((with_reducible refine gate_dst (N := 9) rfl ?_); refine hold ?_))
  unfold Hold
  refine box_event ?hg (N := 9) ?hd (cs := #[.slice none 0 0]) (t := 65) ?hr ?_
  case hd => rfl
  case hg => rfl
  case hr => first | (go_simp; done) | (go_simp; rfl)
  intro g11 hg w13_ hbox hb
  have Bg11 := Aside0.mk hbox
  have Gg11 := Aside0.mk (show w12_.heap.size ≤ g11 ∧ g11 < w13_.heap.size from ⟨by rw [hg]; exact Nat.le_refl _, blk_lt hbox⟩)
  clear hbox hg
  have Z13_ := Aside0.mk (show w12_.heap.size ≤ w13_.heap.size from hb.size)
  have n_ := Aside0.mk (Kd.R_below O8_0.out hb); clear O8_0; have O8_0 := n_; clear n_
  have n_ := Aside0.mk (Kd.R_below O9_0.out hb); clear O9_0; have O9_0 := n_; clear n_
  have n_ := Aside0.mk (Kd.S_below O9_1.out hb); clear O9_1; have O9_1 := n_; clear n_
  have n_ := Aside0.mk (Kd.R_below O10_0.out hb); clear O10_0; have O10_0 := n_; clear n_
  have n_ := Aside0.mk (Kd.S_below O10_1.out hb); clear O10_1; have O10_1 := n_; clear n_
  have n_ := Aside0.mk (Kd.R_below O12_0.out hb); clear O12_0; have O12_0 := n_; clear n_
  have n_ := Aside0.mk (blk_below Bg1.out hb); clear Bg1; have Bg1 := n_; clear n_
  have n_ := Aside0.mk (blk_below Bg2.out hb); clear Bg2; have Bg2 := n_; clear n_
  have n_ := Aside0.mk (blk_below Bg3.out hb); clear Bg3; have Bg3 := n_; clear n_
  have n_ := Aside0.mk (below_step HB.out hb); clear HB; have HB := n_; clear n_
  clear hxg1_0
  clear hfg1_0
  clear hxg2_0
  clear hxg2_1
  clear hfg2_0
  clear hfg2_1
  clear hxg3_0
  clear hxg3_1
  clear hfg3_0
  clear hfg3_1
  have hxg1_0 : w13_.cell? ⟨g1, 0, none⟩ = some (.slice A0_0 l0_0.length c0_0) := (blk_cell Bg1.out 0).trans rfl
  have hfg1_0 := blk_frozen Bg1.out 0
  have hxg2_0 : w13_.cell? ⟨g2, 0, none⟩ = some (.slice A1_0 l1_0.length c1_0) := (blk_cell Bg2.out 0).trans rfl
  have hxg2_1 : w13_.cell? ⟨g2, 1, none⟩ = some (.slice A1_1 l1_1.length c1_1) := (blk_cell Bg2.out 1).trans rfl
  have hfg2_0 := blk_frozen Bg2.out 0
  have hfg2_1 := blk_frozen Bg2.out 1
  have hxg3_0 : w13_.cell? ⟨g3, 0, none⟩ = some (.slice A2_0 l2_0.length c2_0) := (blk_cell Bg3.out 0).trans rfl
  have hxg3_1 : w13_.cell? ⟨g3, 1, none⟩ = some (.slice A2_1 l2_1.length c2_1) := (blk_cell Bg3.out 1).trans rfl
  have hfg3_0 := blk_frozen Bg3.out 0
  have hfg3_1 := blk_frozen Bg3.out 1
  have hxg11_0 : w13_.cell? ⟨g11, 0, none⟩ = some (.slice none 0 0) := (blk_cell Bg11.out 0).trans rfl
  have hfg11_0 := blk_frozen Bg11.out 0
  clear hb
  go_wp2_with (first | ((with_reducible refine gate_store (t := 65) (p := 9) rfl ?_); refine hold ?_))
  unfold Hold
  refine store_event (t := 65) (p := 9) (v := ?vo13) (w1 := (w13_.setCell ⟨g11, 0, none⟩ (.slice A12_0_ r6_0.length c12_0_))) ?hg ?ho ?hn ?hr ?_
  case ho => rfl
  case hg => rfl
  case hn => rfl
  case hr => first | (go_simp; done) | (go_simp; rfl)
  intro w14_ hw
  have hk : Kept w13_ w14_ (fun k => k = g11) := by rw [hw]; exact kept_one _
  have hb0 : Below w.heap.size w w14_ := by rw [hw]; exact (below_set HB.out (Nat.le_trans (by have z1_ := Z1_.out; have z2_ := Z2_.out; have z3_ := Z3_.out; have z4_ := Z4_.out; have z5_ := Z5_.out; have z6_ := Z6_.out; have z7_ := Z7_.out; have z8_ := Z8_.out; have z9_ := Z9_.out; have z10_ := Z10_.out; have z11_ := Z11_.out; have z12_ := Z12_.out; omega) Gg11.out.1))
  have n_ := Aside0.mk (show w14_.heap[g11]? = some (.cells #[.slice A12_0_ r6_0.length c12_0_] 65 (0, 0)) by rw [hw]; exact (blk_put (cs := #[.slice none 0 0]) (cs' := #[.slice A12_0_ r6_0.length c12_0_]) Bg11.out 0 _ rfl))
  clear Bg11; have Bg11 := n_; clear n_ hw
  have Z14_ := Aside0.mk (show w13_.heap.size ≤ w14_.heap.size from hk.1)
  have n_ := Aside0.mk (Kd.R_kept O8_0.out hk (fun k_ hk1 hk2 => by obtain ⟨a1_, a2_⟩ := hk1.1; have e_ : k_ = g11 := hk2; obtain ⟨b1_, b2_⟩ := Gg11.out; have z9_ := Z9_.out; have z10_ := Z10_.out; have z11_ := Z11_.out; have z12_ := Z12_.out; omega)); clear O8_0; have O8_0 := n_; clear n_
  have n_ := Aside0.mk (Kd.R_kept O9_0.out hk (fun k_ hk1 hk2 => by obtain ⟨a1_, a2_⟩ := hk1.1; have e_ : k_ = g11 := hk2; obtain ⟨b1_, b2_⟩ := Gg11.out; have z10_ := Z10_.out; have z11_ := Z11_.out; have z12_ := Z12_.out; omega)); clear O9_0; have O9_0 := n_; clear n_
  have n_ := Aside0.mk (Kd.S_kept O9_1.out hk (fun k_ hk1 hk2 => by obtain ⟨a1_, a2_⟩ := hk1.1; have e_ : k_ = g11 := hk2; obtain ⟨b1_, b2_⟩ := Gg11.out; have z10_ := Z10_.out; have z11_ := Z11_.out; have z12_ := Z12_.out; omega)); clear O9_1; have O9_1 := n_; clear n_
  have n_ := Aside0.mk (Kd.R_kept O10_0.out hk (fun k_ hk1 hk2 => by obtain ⟨a1_, a2_⟩ := hk1.1; have e_ : k_ = g11 := hk2; obtain ⟨b1_, b2_⟩ := Gg11.out; have z11_ := Z11_.out; have z12_ := Z12_.out; omega)); clear O10_0; have O10_0 := n_; clear n_
  have n_ := Aside0.mk (Kd.S_kept O10_1.out hk (fun k_ hk1 hk2 => by obtain ⟨a1_, a2_⟩ := hk1.1; have e_ : k_ = g11 := hk2; obtain ⟨b1_, b2_⟩ := Gg11.out; have z11_ := Z11_.out; have z12_ := Z12_.out; omega)); clear O10_1; have O10_1 := n_; clear n_
  have n_ := Aside0.mk (Kd.R_kept O12_0.out hk (fun k_ hk1 hk2 => by obtain ⟨a1_, a2_⟩ := hk1.1; have e_ : k_ = g11 := hk2; obtain ⟨b1_, b2_⟩ := Gg11.out; omega)); clear O12_0; have O12_0 := n_; clear n_
  have n_ := Aside0.mk (blk_kept Bg1.out hk (fun hk2 => by obtain ⟨a1_, a2_⟩ := Gg1.out; have e_ : g1 = g11 := hk2; obtain ⟨b1_, b2_⟩ := Gg11.out; have z2_ := Z2_.out; have z3_ := Z3_.out; have z4_ := Z4_.out; have z5_ := Z5_.out; have z6_ := Z6_.out; have z7_ := Z7_.out; have z8_ := Z8_.out; have z9_ := Z9_.out; have z10_ := Z10_.out; have z11_ := Z11_.out; have z12_ := Z12_.out; omega)); clear Bg1; have Bg1 := n_; clear n_
  have n_ := Aside0.mk (blk_kept Bg2.out hk (fun hk2 => by obtain ⟨a1_, a2_⟩ := Gg2.out; have e_ : g2 = g11 := hk2; obtain ⟨b1_, b2_⟩ := Gg11.out; have z3_ := Z3_.out; have z4_ := Z4_.out; have z5_ := Z5_.out; have z6_ := Z6_.out; have z7_ := Z7_.out; have z8_ := Z8_.out; have z9_ := Z9_.out; have z10_ := Z10_.out; have z11_ := Z11_.out; have z12_ := Z12_.out; omega)); clear Bg2; have Bg2 := n_; clear n_
  have n_ := Aside0.mk (blk_kept Bg3.out hk (fun hk2 => by obtain ⟨a1_, a2_⟩ := Gg3.out; have e_ : g3 = g11 := hk2; obtain ⟨b1_, b2_⟩ := Gg11.out; have z4_ := Z4_.out; have z5_ := Z5_.out; have z6_ := Z6_.out; have z7_ := Z7_.out; have z8_ := Z8_.out; have z9_ := Z9_.out; have z10_ := Z10_.out; have z11_ := Z11_.out; have z12_ := Z12_.out; omega)); clear Bg3; have Bg3 := n_; clear n_
  clear HB; have HB := Aside0.mk hb0
  clear hxg1_0
  clear hfg1_0
  clear hxg2_0
  clear hxg2_1
  clear hfg2_0
  clear hfg2_1
  clear hxg3_0
  clear hxg3_1
  clear hfg3_0
  clear hfg3_1
  clear hxg11_0
  clear hfg11_0
  have hxg1_0 : w14_.cell? ⟨g1, 0, none⟩ = some (.slice A0_0 l0_0.length c0_0) := (blk_cell Bg1.out 0).trans rfl
  have hfg1_0 := blk_frozen Bg1.out 0
  have hxg2_0 : w14_.cell? ⟨g2, 0, none⟩ = some (.slice A1_0 l1_0.length c1_0) := (blk_cell Bg2.out 0).trans rfl
  have hxg2_1 : w14_.cell? ⟨g2, 1, none⟩ = some (.slice A1_1 l1_1.length c1_1) := (blk_cell Bg2.out 1).trans rfl
  have hfg2_0 := blk_frozen Bg2.out 0
  have hfg2_1 := blk_frozen Bg2.out 1
  have hxg3_0 : w14_.cell? ⟨g3, 0, none⟩ = some (.slice A2_0 l2_0.length c2_0) := (blk_cell Bg3.out 0).trans rfl
  have hxg3_1 : w14_.cell? ⟨g3, 1, none⟩ = some (.slice A2_1 l2_1.length c2_1) := (blk_cell Bg3.out 1).trans rfl
  have hfg3_0 := blk_frozen Bg3.out 0
  have hfg3_1 := blk_frozen Bg3.out 1
  have hxg11_0 : w14_.cell? ⟨g11, 0, none⟩ = some (.slice A12_0_ r6_0.length c12_0_) := (blk_cell Bg11.out 0).trans rfl
  have hfg11_0 := blk_frozen Bg11.out 0
  clear hk hb0
  go_wp2_with (first | (go_at_call 32; refine hold ?_))
  unfold Hold
  refine (laws_toQuery.calls ke7 _ _ l1_0 _ _ l1_1 r7_0 r7_1 _ (Kd.C_below H1_0.out HB.out) HC1_0.out (Kd.C_below H1_1.out HB.out) HC1_1.out Ee7.out).mono ?_
  rintro e w15_ ⟨v15_0_, v15_1_, rfl, ho0, ho1, hb⟩
  have O15_0 := Aside0.mk (newR ho0 HB.out.size)
  have O15_1 := Aside0.mk (newS ho1 HB.out.size)
  have Z15_ := Aside0.mk (show w14_.heap.size ≤ w15_.heap.size from hb.size)
  have n_ := Aside0.mk (Kd.R_below O8_0.out hb); clear O8_0; have O8_0 := n_; clear n_
  have n_ := Aside0.mk (Kd.R_below O9_0.out hb); clear O9_0; have O9_0 := n_; clear n_
  have n_ := Aside0.mk (Kd.S_below O9_1.out hb); clear O9_1; have O9_1 := n_; clear n_
  have n_ := Aside0.mk (Kd.R_below O10_0.out hb); clear O10_0; have O10_0 := n_; clear n_
  have n_ := Aside0.mk (Kd.S_below O10_1.out hb); clear O10_1; have O10_1 := n_; clear n_
  have n_ := Aside0.mk (Kd.R_below O12_0.out hb); clear O12_0; have O12_0 := n_; clear n_
  have n_ := Aside0.mk (blk_below Bg1.out hb); clear Bg1; have Bg1 := n_; clear n_
  have n_ := Aside0.mk (blk_below Bg2.out hb); clear Bg2; have Bg2 := n_; clear n_
  have n_ := Aside0.mk (blk_below Bg3.out hb); clear Bg3; have Bg3 := n_; clear n_
  have n_ := Aside0.mk (blk_below Bg11.out hb); clear Bg11; have Bg11 := n_; clear n_
  have n_ := Aside0.mk (below_step HB.out hb); clear HB; have HB := n_; clear n_
  clear hxg1_0
  clear hfg1_0
  clear hxg2_0
  clear hxg2_1
  clear hfg2_0
  clear hfg2_1
  clear hxg3_0
  clear hxg3_1
  clear hfg3_0
  clear hfg3_1
  clear hxg11_0
  clear hfg11_0
  have hxg1_0 : w15_.cell? ⟨g1, 0, none⟩ = some (.slice A0_0 l0_0.length c0_0) := (blk_cell Bg1.out 0).trans rfl
  have hfg1_0 := blk_frozen Bg1.out 0
  have hxg2_0 : w15_.cell? ⟨g2, 0, none⟩ = some (.slice A1_0 l1_0.length c1_0) := (blk_cell Bg2.out 0).trans rfl
  have hxg2_1 : w15_.cell? ⟨g2, 1, none⟩ = some (.slice A1_1 l1_1.length c1_1) := (blk_cell Bg2.out 1).trans rfl
  have hfg2_0 := blk_frozen Bg2.out 0
  have hfg2_1 := blk_frozen Bg2.out 1
  have hxg3_0 : w15_.cell? ⟨g3, 0, none⟩ = some (.slice A2_0 l2_0.length c2_0) := (blk_cell Bg3.out 0).trans rfl
  have hxg3_1 : w15_.cell? ⟨g3, 1, none⟩ = some (.slice A2_1 l2_1.length c2_1) := (blk_cell Bg3.out 1).trans rfl
  have hfg3_0 := blk_frozen Bg3.out 0
  have hfg3_1 := blk_frozen Bg3.out 1
  have hxg11_0 : w15_.cell? ⟨g11, 0, none⟩ = some (.slice A12_0_ r6_0.length c12_0_) := (blk_cell Bg11.out 0).trans rfl
  have hfg11_0 := blk_frozen Bg11.out 0
  clear hb ho0 ho1
  obtain ⟨A15_0_, c15_0_, eq_⟩ := Kd.R_slice O15_0.out
  subst eq_
  obtain ⟨A15_1_, c15_1_, eq_⟩ := Kd.S_slice O15_1.out
  subst eq_
  go_wp2_with (first | ((with_reducible refine gate_dst (N := 10) rfl ?_); refine hold ?_))
  unfold Hold
  refine box_event ?hg (N := 10) ?hd (cs := #[.slice none 0 0, .slice none 0 0]) (t := 46) ?hr ?_
  case hd => rfl
  case hg => rfl
  case hr => first | (go_simp; done) | (go_simp; rfl)
  intro g12 hg w16_ hbox hb
  have Bg12 := Aside0.mk hbox
  have Gg12 := Aside0.mk (show w15_.heap.size ≤ g12 ∧ g12 < w16_.heap.size from ⟨by rw [hg]; exact Nat.le_refl _, blk_lt hbox⟩)
  clear hbox hg
  have Z16_ := Aside0.mk (show w15_.heap.size ≤ w16_.heap.size from hb.size)
  have n_ := Aside0.mk (Kd.R_below O8_0.out hb); clear O8_0; have O8_0 := n_; clear n_
  have n_ := Aside0.mk (Kd.R_below O9_0.out hb); clear O9_0; have O9_0 := n_; clear n_
  have n_ := Aside0.mk (Kd.S_below O9_1.out hb); clear O9_1; have O9_1 := n_; clear n_
  have n_ := Aside0.mk (Kd.R_below O10_0.out hb); clear O10_0; have O10_0 := n_; clear n_
  have n_ := Aside0.mk (Kd.S_below O10_1.out hb); clear O10_1; have O10_1 := n_; clear n_
  have n_ := Aside0.mk (Kd.R_below O12_0.out hb); clear O12_0; have O12_0 := n_; clear n_
  have n_ := Aside0.mk (Kd.R_below O15_0.out hb); clear O15_0; have O15_0 := n_; clear n_
  have n_ := Aside0.mk (Kd.S_below O15_1.out hb); clear O15_1; have O15_1 := n_; clear n_
  have n_ := Aside0.mk (blk_below Bg1.out hb); clear Bg1; have Bg1 := n_; clear n_
  have n_ := Aside0.mk (blk_below Bg2.out hb); clear Bg2; have Bg2 := n_; clear n_
  have n_ := Aside0.mk (blk_below Bg3.out hb); clear Bg3; have Bg3 := n_; clear n_
  have n_ := Aside0.mk (blk_below Bg11.out hb); clear Bg11; have Bg11 := n_; clear n_
  have n_ := Aside0.mk (below_step HB.out hb); clear HB; have HB := n_; clear n_
  clear hxg1_0
  clear hfg1_0
  clear hxg2_0
  clear hxg2_1
  clear hfg2_0
  clear hfg2_1
  clear hxg3_0
  clear hxg3_1
  clear hfg3_0
  clear hfg3_1
  clear hxg11_0
  clear hfg11_0
  have hxg1_0 : w16_.cell? ⟨g1, 0, none⟩ = some (.slice A0_0 l0_0.length c0_0) := (blk_cell Bg1.out 0).trans rfl
  have hfg1_0 := blk_frozen Bg1.out 0
  have hxg2_0 : w16_.cell? ⟨g2, 0, none⟩ = some (.slice A1_0 l1_0.length c1_0) := (blk_cell Bg2.out 0).trans rfl
  have hxg2_1 : w16_.cell? ⟨g2, 1, none⟩ = some (.slice A1_1 l1_1.length c1_1) := (blk_cell Bg2.out 1).trans rfl
  have hfg2_0 := blk_frozen Bg2.out 0
  have hfg2_1 := blk_frozen Bg2.out 1
  have hxg3_0 : w16_.cell? ⟨g3, 0, none⟩ = some (.slice A2_0 l2_0.length c2_0) := (blk_cell Bg3.out 0).trans rfl
  have hxg3_1 : w16_.cell? ⟨g3, 1, none⟩ = some (.slice A2_1 l2_1.length c2_1) := (blk_cell Bg3.out 1).trans rfl
  have hfg3_0 := blk_frozen Bg3.out 0
  have hfg3_1 := blk_frozen Bg3.out 1
  have hxg11_0 : w16_.cell? ⟨g11, 0, none⟩ = some (.slice A12_0_ r6_0.length c12_0_) := (blk_cell Bg11.out 0).trans rfl
  have hfg11_0 := blk_frozen Bg11.out 0
  have hxg12_0 : w16_.cell? ⟨g12, 0, none⟩ = some (.slice none 0 0) := (blk_cell Bg12.out 0).trans rfl
  have hxg12_1 : w16_.cell? ⟨g12, 1, none⟩ = some (.slice none 0 0) := (blk_cell Bg12.out 1).trans rfl
  have hfg12_0 := blk_frozen Bg12.out 0
  have hfg12_1 := blk_frozen Bg12.out 1
  clear hb
  go_wp2_with (first | ((with_reducible refine gate_store (t := 46) (p := 10) rfl ?_); refine hold ?_))
  unfold Hold
  refine store_event (t := 46) (p := 10) (v := ?vo16) (w1 := ((w16_.setCell ⟨g12, 0, none⟩ (.slice A15_0_ r7_0.length c15_0_)).setCell ⟨g12, 1, none⟩ (.slice A15_1_ r7_1.length c15_1_))) ?hg ?ho ?hn ?hr ?_
  case ho => rfl
  case hg => rfl
  case hn => rfl
  case hr => first | (go_simp; done) | (go_simp; rfl)
  intro w17_ hw
  have hk : Kept w16_ w17_ (fun k => k = g12) := by rw [hw]; exact kept_two _ _
  have hb0 : Below w.heap.size w w17_ := by rw [hw]; exact (below_set (below_set HB.out (Nat.le_trans (by have z1_ := Z1_.out; have z2_ := Z2_.out; have z3_ := Z3_.out; have z4_ := Z4_.out; have z5_ := Z5_.out; have z6_ := Z6_.out; have z7_ := Z7_.out; have z8_ := Z8_.out; have z9_ := Z9_.out; have z10_ := Z10_.out; have z11_ := Z11_.out; have z12_ := Z12_.out; have z13_ := Z13_.out; have z14_ := Z14_.out; have z15_ := Z15_.out; omega) Gg12.out.1)) (Nat.le_trans (by have z1_ := Z1_.out; have z2_ := Z2_.out; have z3_ := Z3_.out; have z4_ := Z4_.out; have z5_ := Z5_.out; have z6_ := Z6_.out; have z7_ := Z7_.out; have z8_ := Z8_.out; have z9_ := Z9_.out; have z10_ := Z10_.out; have z11_ := Z11_.out; have z12_ := Z12_.out; have z13_ := Z13_.out; have z14_ := Z14_.out; have z15_ := Z15_.out; omega) Gg12.out.1))
  have n_ := Aside0.mk (show w17_.heap[g12]? = some (.cells #[.slice A15_0_ r7_0.length c15_0_, .slice A15_1_ r7_1.length c15_1_] 46 (0, 0)) by rw [hw]; exact (blk_put (cs := #[.slice A15_0_ r7_0.length c15_0_, .slice none 0 0]) (cs' := #[.slice A15_0_ r7_0.length c15_0_, .slice A15_1_ r7_1.length c15_1_]) (blk_put (cs := #[.slice none 0 0, .slice none 0 0]) (cs' := #[.slice A15_0_ r7_0.length c15_0_, .slice none 0 0]) Bg12.out 0 _ rfl) 1 _ rfl))
  clear Bg12; have Bg12 := n_; clear n_ hw
  have Z17_ := Aside0.mk (show w16_.heap.size ≤ w17_.heap.size from hk.1)
  have n_ := Aside0.mk (Kd.R_kept O8_0.out hk (fun k_ hk1 hk2 => by obtain ⟨a1_, a2_⟩ := hk1.1; have e_ : k_ = g12 := hk2; obtain ⟨b1_, b2_⟩ := Gg12.out; have z9_ := Z9_.out; have z10_ := Z10_.out; have z11_ := Z11_.out; have z12_ := Z12_.out; have z13_ := Z13_.out; have z14_ := Z14_.out; have z15_ := Z15_.out; omega)); clear O8_0; have O8_0 := n_; clear n_
  have n_ := Aside0.mk (Kd.R_kept O9_0.out hk (fun k_ hk1 hk2 => by obtain ⟨a1_, a2_⟩ := hk1.1; have e_ : k_ = g12 := hk2; obtain ⟨b1_, b2_⟩ := Gg12.out; have z10_ := Z10_.out; have z11_ := Z11_.out; have z12_ := Z12_.out; have z13_ := Z13_.out; have z14_ := Z14_.out; have z15_ := Z15_.out; omega)); clear O9_0; have O9_0 := n_; clear n_
  have n_ := Aside0.mk (Kd.S_kept O9_1.out hk (fun k_ hk1 hk2 => by obtain ⟨a1_, a2_⟩ := hk1.1; have e_ : k_ = g12 := hk2; obtain ⟨b1_, b2_⟩ := Gg12.out; have z10_ := Z10_.out; have z11_ := Z11_.out; have z12_ := Z12_.out; have z13_ := Z13_.out; have z14_ := Z14_.out; have z15_ := Z15_.out; omega)); clear O9_1; have O9_1 := n_; clear n_
  have n_ := Aside0.mk (Kd.R_kept O10_0.out hk (fun k_ hk1 hk2 => by obtain ⟨a1_, a2_⟩ := hk1.1; have e_ : k_ = g12 := hk2; obtain ⟨b1_, b2_⟩ := Gg12.out; have z11_ := Z11_.out; have z12_ := Z12_.out; have z13_ := Z13_.out; have z14_ := Z14_.out; have z15_ := Z15_.out; omega)); clear O10_0; have O10_0 := n_; clear n_
  have n_ := Aside0.mk (Kd.S_kept O10_1.out hk (fun k_ hk1 hk2 => by obtain ⟨a1_, a2_⟩ := hk1.1; have e_ : k_ = g12 := hk2; obtain ⟨b1_, b2_⟩ := Gg12.out; have z11_ := Z11_.out; have z12_ := Z12_.out; have z13_ := Z13_.out; have z14_ := Z14_.out; have z15_ := Z15_.out; omega)); clear O10_1; have O10_1 := n_; clear n_
  have n_ := Aside0.mk (Kd.R_kept O12_0.out hk (fun k_ hk1 hk2 => by obtain ⟨a1_, a2_⟩ := hk1.1; have e_ : k_ = g12 := hk2; obtain ⟨b1_, b2_⟩ := Gg12.out; have z13_ := Z13_.out; have z14_ := Z14_.out; have z15_ := Z15_.out; omega)); clear O12_0; have O12_0 := n_; clear n_
  have n_ := Aside0.mk (Kd.R_kept O15_0.out hk (fun k_ hk1 hk2 => by obtain ⟨a1_, a2_⟩ := hk1.1; have e_ : k_ = g12 := hk2; obtain ⟨b1_, b2_⟩ := Gg12.out; omega)); clear O15_0; have O15_0 := n_; clear n_
  have n_ := Aside0.mk (Kd.S_kept O15_1.out hk (fun k_ hk1 hk2 => by obtain ⟨a1_, a2_⟩ := hk1.1; have e_ : k_ = g12 := hk2; obtain ⟨b1_, b2_⟩ := Gg12.out; omega)); clear O15_1; have O15_1 := n_; clear n_
  have n_ := Aside0.mk (blk_kept Bg1.out hk (fun hk2 => by obtain ⟨a1_, a2_⟩ := Gg1.out; have e_ : g1 = g12 := hk2; obtain ⟨b1_, b2_⟩ := Gg12.out; have z2_ := Z2_.out; have z3_ := Z3_.out; have z4_ := Z4_.out; have z5_ := Z5_.out; have z6_ := Z6_.out; have z7_ := Z7_.out; have z8_ := Z8_.out; have z9_ := Z9_.out; have z10_ := Z10_.out; have z11_ := Z11_.out; have z12_ := Z12_.out; have z13_ := Z13_.out; have z14_ := Z14_.out; have z15_ := Z15_.out; omega)); clear Bg1; have Bg1 := n_; clear n_
  have n_ := Aside0.mk (blk_kept Bg2.out hk (fun hk2 => by obtain ⟨a1_, a2_⟩ := Gg2.out; have e_ : g2 = g12 := hk2; obtain ⟨b1_, b2_⟩ := Gg12.out; have z3_ := Z3_.out; have z4_ := Z4_.out; have z5_ := Z5_.out; have z6_ := Z6_.out; have z7_ := Z7_.out; have z8_ := Z8_.out; have z9_ := Z9_.out; have z10_ := Z10_.out; have z11_ := Z11_.out; have z12_ := Z12_.out; have z13_ := Z13_.out; have z14_ := Z14_.out; have z15_ := Z15_.out; omega)); clear Bg2; have Bg2 := n_; clear n_
  have n_ := Aside0.mk (blk_kept Bg3.out hk (fun hk2 => by obtain ⟨a1_, a2_⟩ := Gg3.out; have e_ : g3 = g12 := hk2; obtain ⟨b1_, b2_⟩ := Gg12.out; have z4_ := Z4_.out; have z5_ := Z5_.out; have z6_ := Z6_.out; have z7_ := Z7_.out; have z8_ := Z8_.out; have z9_ := Z9_.out; have z10_ := Z10_.out; have z11_ := Z11_.out; have z12_ := Z12_.out; have z13_ := Z13_.out; have z14_ := Z14_.out; have z15_ := Z15_.out; omega)); clear Bg3; have Bg3 := n_; clear n_
  have n_ := Aside0.mk (blk_kept Bg11.out hk (fun hk2 => by obtain ⟨a1_, a2_⟩ := Gg11.out; have e_ : g11 = g12 := hk2; obtain ⟨b1_, b2_⟩ := Gg12.out; have z14_ := Z14_.out; have z15_ := Z15_.out; omega)); clear Bg11; have Bg11 := n_; clear n_
  clear HB; have HB := Aside0.mk hb0
  clear hxg1_0
  clear hfg1_0
  clear hxg2_0
  clear hxg2_1
  clear hfg2_0
  clear hfg2_1
  clear hxg3_0
  clear hxg3_1
  clear hfg3_0
  clear hfg3_1
  clear hxg11_0
  clear hfg11_0
  clear hxg12_0
  clear hxg12_1
  clear hfg12_0
  clear hfg12_1
  have hxg1_0 : w17_.cell? ⟨g1, 0, none⟩ = some (.slice A0_0 l0_0.length c0_0) := (blk_cell Bg1.out 0).trans rfl
  have hfg1_0 := blk_frozen Bg1.out 0
  have hxg2_0 : w17_.cell? ⟨g2, 0, none⟩ = some (.slice A1_0 l1_0.length c1_0) := (blk_cell Bg2.out 0).trans rfl
  have hxg2_1 : w17_.cell? ⟨g2, 1, none⟩ = some (.slice A1_1 l1_1.length c1_1) := (blk_cell Bg2.out 1).trans rfl
  have hfg2_0 := blk_frozen Bg2.out 0
  have hfg2_1 := blk_frozen Bg2.out 1
  have hxg3_0 : w17_.cell? ⟨g3, 0, none⟩ = some (.slice A2_0 l2_0.length c2_0) := (blk_cell Bg3.out 0).trans rfl
  have hxg3_1 : w17_.cell? ⟨g3, 1, none⟩ = some (.slice A2_1 l2_1.length c2_1) := (blk_cell Bg3.out 1).trans rfl
  have hfg3_0 := blk_frozen Bg3.out 0
  have hfg3_1 := blk_frozen Bg3.out 1
  have hxg11_0 : w17_.cell? ⟨g11, 0, none⟩ = some (.slice A12_0_ r6_0.length c12_0_) := (blk_cell Bg11.out 0).trans rfl
  have hfg11_0 := blk_frozen Bg11.out 0
  have hxg12_0 : w17_.cell? ⟨g12, 0, none⟩ = some (.slice A15_0_ r7_0.length c15_0_) := (blk_cell Bg12.out 0).trans rfl
  have hxg12_1 : w17_.cell? ⟨g12, 1, none⟩ = some (.slice A15_1_ r7_1.length c15_1_) := (blk_cell Bg12.out 1).trans rfl
  have hfg12_0 := blk_frozen Bg12.out 0
  have hfg12_1 := blk_frozen Bg12.out 1
  clear hk hb0
  go_wp2_with (first | (go_at_call 32; refine hold ?_))
  unfold Hold
  refine (laws_toQuery.calls ke8 _ _ l2_0 _ _ l2_1 r8_0 r8_1 _ (Kd.C_below H2_0.out HB.out) HC2_0.out (Kd.C_below H2_1.out HB.out) HC2_1.out Ee8.out).mono ?_
  rintro e w18_ ⟨v18_0_, v18_1_, rfl, ho0, ho1, hb⟩
  have O18_0 := Aside0.mk (newR ho0 HB.out.size)
  have O18_1 := Aside0.mk (newS ho1 HB.out.size)
  have Z18_ := Aside0.mk (show w17_.heap.size ≤ w18_.heap.size from hb.size)
  have n_ := Aside0.mk (Kd.R_below O8_0.out hb); clear O8_0; have O8_0 := n_; clear n_
  have n_ := Aside0.mk (Kd.R_below O9_0.out hb); clear O9_0; have O9_0 := n_; clear n_
  have n_ := Aside0.mk (Kd.S_below O9_1.out hb); clear O9_1; have O9_1 := n_; clear n_
  have n_ := Aside0.mk (Kd.R_below O10_0.out hb); clear O10_0; have O10_0 := n_; clear n_
  have n_ := Aside0.mk (Kd.S_below O10_1.out hb); clear O10_1; have O10_1 := n_; clear n_
  have n_ := Aside0.mk (Kd.R_below O12_0.out hb); clear O12_0; have O12_0 := n_; clear n_
  have n_ := Aside0.mk (Kd.R_below O15_0.out hb); clear O15_0; have O15_0 := n_; clear n_
  have n_ := Aside0.mk (Kd.S_below O15_1.out hb); clear O15_1; have O15_1 := n_; clear n_
  have n_ := Aside0.mk (blk_below Bg1.out hb); clear Bg1; have Bg1 := n_; clear n_
  have n_ := Aside0.mk (blk_below Bg2.out hb); clear Bg2; have Bg2 := n_; clear n_
  have n_ := Aside0.mk (blk_below Bg3.out hb); clear Bg3; have Bg3 := n_; clear n_
  have n_ := Aside0.mk (blk_below Bg11.out hb); clear Bg11; have Bg11 := n_; clear n_
  have n_ := Aside0.mk (blk_below Bg12.out hb); clear Bg12; have Bg12 := n_; clear n_
  have n_ := Aside0.mk (below_step HB.out hb); clear HB; have HB := n_; clear n_
  clear hxg1_0
  clear hfg1_0
  clear hxg2_0
  clear hxg2_1
  clear hfg2_0
  clear hfg2_1
  clear hxg3_0
  clear hxg3_1
  clear hfg3_0
  clear hfg3_1
  clear hxg11_0
  clear hfg11_0
  clear hxg12_0
  clear hxg12_1
  clear hfg12_0
  clear hfg12_1
  have hxg1_0 : w18_.cell? ⟨g1, 0, none⟩ = some (.slice A0_0 l0_0.length c0_0) := (blk_cell Bg1.out 0).trans rfl
  have hfg1_0 := blk_frozen Bg1.out 0
  have hxg2_0 : w18_.cell? ⟨g2, 0, none⟩ = some (.slice A1_0 l1_0.length c1_0) := (blk_cell Bg2.out 0).trans rfl
  have hxg2_1 : w18_.cell? ⟨g2, 1, none⟩ = some (.slice A1_1 l1_1.length c1_1) := (blk_cell Bg2.out 1).trans rfl
  have hfg2_0 := blk_frozen Bg2.out 0
  have hfg2_1 := blk_frozen Bg2.out 1
  have hxg3_0 : w18_.cell? ⟨g3, 0, none⟩ = some (.slice A2_0 l2_0.length c2_0) := (blk_cell Bg3.out 0).trans rfl
  have hxg3_1 : w18_.cell? ⟨g3, 1, none⟩ = some (.slice A2_1 l2_1.length c2_1) := (blk_cell Bg3.out 1).trans rfl
  have hfg3_0 := blk_frozen Bg3.out 0
  have hfg3_1 := blk_frozen Bg3.out 1
  have hxg11_0 : w18_.cell? ⟨g11, 0, none⟩ = some (.slice A12_0_ r6_0.length c12_0_) := (blk_cell Bg11.out 0).trans rfl
  have hfg11_0 := blk_frozen Bg11.out 0
  have hxg12_0 : w18_.cell? ⟨g12, 0, none⟩ = some (.slice A15_0_ r7_0.length c15_0_) := (blk_cell Bg12.out 0).trans rfl
  have hxg12_1 : w18_.cell? ⟨g12, 1, none⟩ = some (.slice A15_1_ r7_1.length c15_1_) := (blk_cell Bg12.out 1).trans rfl
  have hfg12_0 := blk_frozen Bg12.out 0
  have hfg12_1 := blk_frozen Bg12.out 1
  clear hb ho0 ho1
  obtain ⟨A18_0_, c18_0_, eq_⟩ := Kd.R_slice O18_0.out
  subst eq_
  obtain ⟨A18_1_, c18_1_, eq_⟩ := Kd.S_slice O18_1.out
  subst eq_
  go_wp2_with (first | ((with_reducible refine gate_dst (N := 11) rfl ?_); refine hold ?_))
  unfold Hold
  refine box_event ?hg (N := 11) ?hd (cs := #[.slice none 0 0, .slice none 0 0]) (t := 46) ?hr ?_
  case hd => rfl
  case hg => rfl
  case hr => first | (go_simp; done) | (go_simp; rfl)
  intro g13 hg w19_ hbox hb
  have Bg13 := Aside0.mk hbox
  have Gg13 := Aside0.mk (show w18_.heap.size ≤ g13 ∧ g13 < w19_.heap.size from ⟨by rw [hg]; exact Nat.le_refl _, blk_lt hbox⟩)
  clear hbox hg
  have Z19_ := Aside0.mk (show w18_.heap.size ≤ w19_.heap.size from hb.size)
  have n_ := Aside0.mk (Kd.R_below O8_0.out hb); clear O8_0; have O8_0 := n_; clear n_
  have n_ := Aside0.mk (Kd.R_below O9_0.out hb); clear O9_0; have O9_0 := n_; clear n_
  have n_ := Aside0.mk (Kd.S_below O9_1.out hb); clear O9_1; have O9_1 := n_; clear n_
  have n_ := Aside0.mk (Kd.R_below O10_0.out hb); clear O10_0; have O10_0 := n_; clear n_
  have n_ := Aside0.mk (Kd.S_below O10_1.out hb); clear O10_1; have O10_1 := n_; clear n_
  have n_ := Aside0.mk (Kd.R_below O12_0.out hb); clear O12_0; have O12_0 := n_; clear n_
  have n_ := Aside0.mk (Kd.R_below O15_0.out hb); clear O15_0; have O15_0 := n_; clear n_
  have n_ := Aside0.mk (Kd.S_below O15_1.out hb); clear O15_1; have O15_1 := n_; clear n_
  have n_ := Aside0.mk (Kd.R_below O18_0.out hb); clear O18_0; have O18_0 := n_; clear n_
  have n_ := Aside0.mk (Kd.S_below O18_1.out hb); clear O18_1; have O18_1 := n_; clear n_
  have n_ := Aside0.mk (blk_below Bg1.out hb); clear Bg1; have Bg1 := n_; clear n_
  have n_ := Aside0.mk (blk_below Bg2.out hb); clear Bg2; have Bg2 := n_; clear n_
  have n_ := Aside0.mk (blk_below Bg3.out hb); clear Bg3; have Bg3 := n_; clear n_
  have n_ := Aside0.mk (blk_below Bg11.out hb); clear Bg11; have Bg11 := n_; clear n_
  have n_ := Aside0.mk (blk_below Bg12.out hb); clear Bg12; have Bg12 := n_; clear n_
  have n_ := Aside0.mk (below_step HB.out hb); clear HB; have HB := n_; clear n_
  clear hxg1_0
  clear hfg1_0
  clear hxg2_0
  clear hxg2_1
  clear hfg2_0
  clear hfg2_1
  clear hxg3_0
  clear hxg3_1
  clear hfg3_0
  clear hfg3_1
  clear hxg11_0
  clear hfg11_0
  clear hxg12_0
  clear hxg12_1
  clear hfg12_0
  clear hfg12_1
  have hxg1_0 : w19_.cell? ⟨g1, 0, none⟩ = some (.slice A0_0 l0_0.length c0_0) := (blk_cell Bg1.out 0).trans rfl
  have hfg1_0 := blk_frozen Bg1.out 0
  have hxg2_0 : w19_.cell? ⟨g2, 0, none⟩ = some (.slice A1_0 l1_0.length c1_0) := (blk_cell Bg2.out 0).trans rfl
  have hxg2_1 : w19_.cell? ⟨g2, 1, none⟩ = some (.slice A1_1 l1_1.length c1_1) := (blk_cell Bg2.out 1).trans rfl
  have hfg2_0 := blk_frozen Bg2.out 0
  have hfg2_1 := blk_frozen Bg2.out 1
  have hxg3_0 : w19_.cell? ⟨g3, 0, none⟩ = some (.slice A2_0 l2_0.length c2_0) := (blk_cell Bg3.out 0).trans rfl
  have hxg3_1 : w19_.cell? ⟨g3, 1, none⟩ = some (.slice A2_1 l2_1.length c2_1) := (blk_cell Bg3.out 1).trans rfl
  have hfg3_0 := blk_frozen Bg3.out 0
  have hfg3_1 := blk_frozen Bg3.out 1
  have hxg11_0 : w19_.cell? ⟨g11, 0, none⟩ = some (.slice A12_0_ r6_0.length c12_0_) := (blk_cell Bg11.out 0).trans rfl
  have hfg11_0 := blk_frozen Bg11.out 0
  have hxg12_0 : w19_.cell? ⟨g12, 0, none⟩ = some (.slice A15_0_ r7_0.length c15_0_) := (blk_cell Bg12.out 0).trans rfl
  have hxg12_1 : w19_.cell? ⟨g12, 1, none⟩ = some (.slice A15_1_ r7_1.length c15_1_) := (blk_cell Bg12.out 1).trans rfl
  have hfg12_0 := blk_frozen Bg12.out 0
  have hfg12_1 := blk_frozen Bg12.out 1
  have hxg13_0 : w19_.cell? ⟨g13, 0, none⟩ = some (.slice none 0 0) := (blk_cell Bg13.out 0).trans rfl
  have hxg13_1 : w19_.cell? ⟨g13, 1, none⟩ = some (.slice none 0 0) := (blk_cell Bg13.out 1).trans rfl
  have hfg13_0 := blk_frozen Bg13.out 0
  have hfg13_1 := blk_frozen Bg13.out 1
  clear hb
  go_wp2_with (first | ((with_reducible refine gate_store (t := 46) (p := 11) rfl ?_); refine hold ?_))
  unfold Hold
  refine store_event (t := 46) (p := 11) (v := ?vo19) (w1 := ((w19_.setCell ⟨g13, 0, none⟩ (.slice A18_0_ r8_0.length c18_0_)).setCell ⟨g13, 1, none⟩ (.slice A18_1_ r8_1.length c18_1_))) ?hg ?ho ?hn ?hr ?_
  case ho => rfl
  case hg => rfl
  case hn => rfl
  case hr => first | (go_simp; done) | (go_simp; rfl)
  intro w20_ hw
  have hk : Kept w19_ w20_ (fun k => k = g13) := by rw [hw]; exact kept_two _ _
  have hb0 : Below w.heap.size w w20_ := by rw [hw]; exact (below_set (below_set HB.out (Nat.le_trans (by have z1_ := Z1_.out; have z2_ := Z2_.out; have z3_ := Z3_.out; have z4_ := Z4_.out; have z5_ := Z5_.out; have z6_ := Z6_.out; have z7_ := Z7_.out; have z8_ := Z8_.out; have z9_ := Z9_.out; have z10_ := Z10_.out; have z11_ := Z11_.out; have z12_ := Z12_.out; have z13_ := Z13_.out; have z14_ := Z14_.out; have z15_ := Z15_.out; have z16_ := Z16_.out; have z17_ := Z17_.out; have z18_ := Z18_.out; omega) Gg13.out.1)) (Nat.le_trans (by have z1_ := Z1_.out; have z2_ := Z2_.out; have z3_ := Z3_.out; have z4_ := Z4_.out; have z5_ := Z5_.out; have z6_ := Z6_.out; have z7_ := Z7_.out; have z8_ := Z8_.out; have z9_ := Z9_.out; have z10_ := Z10_.out; have z11_ := Z11_.out; have z12_ := Z12_.out; have z13_ := Z13_.out; have z14_ := Z14_.out; have z15_ := Z15_.out; have z16_ := Z16_.out; have z17_ := Z17_.out; have z18_ := Z18_.out; omega) Gg13.out.1))
  have n_ := Aside0.mk (show w20_.heap[g13]? = some (.cells #[.slice A18_0_ r8_0.length c18_0_, .slice A18_1_ r8_1.length c18_1_] 46 (0, 0)) by rw [hw]; exact (blk_put (cs := #[.slice A18_0_ r8_0.length c18_0_, .slice none 0 0]) (cs' := #[.slice A18_0_ r8_0.length c18_0_, .slice A18_1_ r8_1.length c18_1_]) (blk_put (cs := #[.slice none 0 0, .slice none 0 0]) (cs' := #[.slice A18_0_ r8_0.length c18_0_, .slice none 0 0]) Bg13.out 0 _ rfl) 1 _ rfl))
  clear Bg13; have Bg13 := n_; clear n_ hw
  have Z20_ := Aside0.mk (show w19_.heap.size ≤ w20_.heap.size from hk.1)
  have n_ := Aside0.mk (Kd.R_kept O8_0.out hk (fun k_ hk1 hk2 => by obtain ⟨a1_, a2_⟩ := hk1.1; have e_ : k_ = g13 := hk2; obtain ⟨b1_, b2_⟩ := Gg13.out; have z9_ := Z9_.out; have z10_ := Z10_.out; have z11_ := Z11_.out; have z12_ := Z12_.out; have z13_ := Z13_.out; have z14_ := Z14_.out; have z15_ := Z15_.out; have z16_ := Z16_.out; have z17_ := Z17_.out; have z18_ := Z18_.out; omega)); clear O8_0; have O8_0 := n_; clear n_
  have n_ := Aside0.mk (Kd.R_kept O9_0.out hk (fun k_ hk1 hk2 => by obtain ⟨a1_, a2_⟩ := hk1.1; have e_ : k_ = g13 := hk2; obtain ⟨b1_, b2_⟩ := Gg13.out; have z10_ := Z10_.out; have z11_ := Z11_.out; have z12_ := Z12_.out; have z13_ := Z13_.out; have z14_ := Z14_.out; have z15_ := Z15_.out; have z16_ := Z16_.out; have z17_ := Z17_.out; have z18_ := Z18_.out; omega)); clear O9_0; have O9_0 := n_; clear n_
  have n_ := Aside0.mk (Kd.S_kept O9_1.out hk (fun k_ hk1 hk2 => by obtain ⟨a1_, a2_⟩ := hk1.1; have e_ : k_ = g13 := hk2; obtain ⟨b1_, b2_⟩ := Gg13.out; have z10_ := Z10_.out; have z11_ := Z11_.out; have z12_ := Z12_.out; have z13_ := Z13_.out; have z14_ := Z14_.out; have z15_ := Z15_.out; have z16_ := Z16_.out; have z17_ := Z17_.out; have z18_ := Z18_.out; omega)); clear O9_1; have O9_1 := n_; clear n_
  have n_ := Aside0.mk (Kd.R_kept O10_0.out hk (fun k_ hk1 hk2 => by obtain ⟨a1_, a2_⟩ := hk1.1; have e_ : k_ = g13 := hk2; obtain ⟨b1_, b2_⟩ := Gg13.out; have z11_ := Z11_.out; have z12_ := Z12_.out; have z13_ := Z13_.out; have z14_ := Z14_.out; have z15_ := Z15_.out; have z16_ := Z16_.out; have z17_ := Z17_.out; have z18_ := Z18_.out; omega)); clear O10_0; have O10_0 := n_; clear n_
  have n_ := Aside0.mk (Kd.S_kept O10_1.out hk (fun k_ hk1 hk2 => by obtain ⟨a1_, a2_⟩ := hk1.1; have e_ : k_ = g13 := hk2; obtain ⟨b1_, b2_⟩ := Gg13.out; have z11_ := Z11_.out; have z12_ := Z12_.out; have z13_ := Z13_.out; have z14_ := Z14_.out; have z15_ := Z15_.out; have z16_ := Z16_.out; have z17_ := Z17_.out; have z18_ := Z18_.out; omega)); clear O10_1; have O10_1 := n_; clear n_
  have n_ := Aside0.mk (Kd.R_kept O12_0.out hk (fun k_ hk1 hk2 => by obtain ⟨a1_, a2_⟩ := hk1.1; have e_ : k_ = g13 := hk2; obtain ⟨b1_, b2_⟩ := Gg13.out; have z13_ := Z13_.out; have z14_ := Z14_.out; have z15_ := Z15_.out; have z16_ := Z16_.out; have z17_ := Z17_.out; have z18_ := Z18_.out; omega)); clear O12_0; have O12_0 := n_; clear n_
  have n_ := Aside0.mk (Kd.R_kept O15_0.out hk (fun k_ hk1 hk2 => by obtain ⟨a1_, a2_⟩ := hk1.1; have e_ : k_ = g13 := hk2; obtain ⟨b1_, b2_⟩ := Gg13.out; have z16_ := Z16_.out; have z17_ := Z17_.out; have z18_ := Z18_.out; omega)); clear O15_0; have O15_0 := n_; clear n_
  have n_ := Aside0.mk (Kd.S_kept O15_1.out hk (fun k_ hk1 hk2 => by obtain ⟨a1_, a2_⟩ := hk1.1; have e_ : k_ = g13 := hk2; obtain ⟨b1_, b2_⟩ := Gg13.out; have z16_ := Z16_.out; have z17_ := Z17_.out; have z18_ := Z18_.out; omega)); clear O15_1; have O15_1 := n_; clear n_
  have n_ := Aside0.mk (Kd.R_kept O18_0.out hk (fun k_ hk1 hk2 => by obtain ⟨a1_, a2_⟩ := hk1.1; have e_ : k_ = g13 := hk2; obtain ⟨b1_, b2_⟩ := Gg13.out; omega)); clear O18_0; have O18_0 := n_; clear n_
  have n_ := Aside0.mk (Kd.S_kept O18_1.out hk (fun k_ hk1 hk2 => by obtain ⟨a1_, a2_⟩ := hk1.1; have e_ : k_ = g13 := hk2; obtain ⟨b1_, b2_⟩ := Gg13.out; omega)); clear O18_1; have O18_1 := n_; clear n_
  have n_ := Aside0.mk (blk_kept Bg1.out hk (fun hk2 => by obtain ⟨a1_, a2_⟩ := Gg1.out; have e_ : g1 = g13 := hk2; obtain ⟨b1_, b2_⟩ := Gg13.out; have z2_ := Z2_.out; have z3_ := Z3_.out; have z4_ := Z4_.out; have z5_ := Z5_.out; have z6_ := Z6_.out; have z7_ := Z7_.out; have z8_ := Z8_.out; have z9_ := Z9_.out; have z10_ := Z10_.out; have z11_ := Z11_.out; have z12_ := Z12_.out; have z13_ := Z13_.out; have z14_ := Z14_.out; have z15_ := Z15_.out; have z16_ := Z16_.out; have z17_ := Z17_.out; have z18_ := Z18_.out; omega)); clear Bg1; have Bg1 := n_; clear n_
  have n_ := Aside0.mk (blk_kept Bg2.out hk (fun hk2 => by obtain ⟨a1_, a2_⟩ := Gg2.out; have e_ : g2 = g13 := hk2; obtain ⟨b1_, b2_⟩ := Gg13.out; have z3_ := Z3_.out; have z4_ := Z4_.out; have z5_ := Z5_.out; have z6_ := Z6_.out; have z7_ := Z7_.out; have z8_ := Z8_.out; have z9_ := Z9_.out; have z10_ := Z10_.out; have z11_ := Z11_.out; have z12_ := Z12_.out; have z13_ := Z13_.out; have z14_ := Z14_.out; have z15_ := Z15_.out; have z16_ := Z16_.out; have z17_ := Z17_.out; have z18_ := Z18_.out; omega)); clear Bg2; have Bg2 := n_; clear n_
  have n_ := Aside0.mk (blk_kept Bg3.out hk (fun hk2 => by obtain ⟨a1_, a2_⟩ := Gg3.out; have e_ : g3 = g13 := hk2; obtain ⟨b1_, b2_⟩ := Gg13.out; have z4_ := Z4_.out; have z5_ := Z5_.out; have z6_ := Z6_.out; have z7_ := Z7_.out; have z8_ := Z8_.out; have z9_ := Z9_.out; have z10_ := Z10_.out; have z11_ := Z11_.out; have z12_ := Z12_.out; have z13_ := Z13_.out; have z14_ := Z14_.out; have z15_ := Z15_.out; have z16_ := Z16_.out; have z17_ := Z17_.out; have z18_ := Z18_.out; omega)); clear Bg3; have Bg3 := n_; clear n_
  have n_ := Aside0.mk (blk_kept Bg11.out hk (fun hk2 => by obtain ⟨a1_, a2_⟩ := Gg11.out; have e_ : g11 = g13 := hk2; obtain ⟨b1_, b2_⟩ := Gg13.out; have z14_ := Z14_.out; have z15_ := Z15_.out; have z16_ := Z16_.out; have z17_ := Z17_.out; have z18_ := Z18_.out; omega)); clear Bg11; have Bg11 := n_; clear n_
  have n_ := Aside0.mk (blk_kept Bg12.out hk (fun hk2 => by obtain ⟨a1_, a2_⟩ := Gg12.out; have e_ : g12 = g13 := hk2; obtain ⟨b1_, b2_⟩ := Gg13.out; have z17_ := Z17_.out; have z18_ := Z18_.out; omega)); clear Bg12; have Bg12 := n_; clear n_
  clear HB; have HB := Aside0.mk hb0
  clear hxg1_0
  clear hfg1_0
  clear hxg2_0
  clear hxg2_1
  clear hfg2_0
  clear hfg2_1
  clear hxg3_0
  clear hxg3_1
  clear hfg3_0
  clear hfg3_1
  clear hxg11_0
  clear hfg11_0
  clear hxg12_0
  clear hxg12_1
  clear hfg12_0
  clear hfg12_1
  clear hxg13_0
  clear hxg13_1
  clear hfg13_0
  clear hfg13_1
  have hxg1_0 : w20_.cell? ⟨g1, 0, none⟩ = some (.slice A0_0 l0_0.length c0_0) := (blk_cell Bg1.out 0).trans rfl
  have hfg1_0 := blk_frozen Bg1.out 0
  have hxg2_0 : w20_.cell? ⟨g2, 0, none⟩ = some (.slice A1_0 l1_0.length c1_0) := (blk_cell Bg2.out 0).trans rfl
  have hxg2_1 : w20_.cell? ⟨g2, 1, none⟩ = some (.slice A1_1 l1_1.length c1_1) := (blk_cell Bg2.out 1).trans rfl
  have hfg2_0 := blk_frozen Bg2.out 0
  have hfg2_1 := blk_frozen Bg2.out 1
  have hxg3_0 : w20_.cell? ⟨g3, 0, none⟩ = some (.slice A2_0 l2_0.length c2_0) := (blk_cell Bg3.out 0).trans rfl
  have hxg3_1 : w20_.cell? ⟨g3, 1, none⟩ = some (.slice A2_1 l2_1.length c2_1) := (blk_cell Bg3.out 1).trans rfl
  have hfg3_0 := blk_frozen Bg3.out 0
  have hfg3_1 := blk_frozen Bg3.out 1
  have hxg11_0 : w20_.cell? ⟨g11, 0, none⟩ = some (.slice A12_0_ r6_0.length c12_0_) := (blk_cell Bg11.out 0).trans rfl
  have hfg11_0 := blk_frozen Bg11.out 0
  have hxg12_0 : w20_.cell? ⟨g12, 0, none⟩ = some (.slice A15_0_ r7_0.length c15_0_) := (blk_cell Bg12.out 0).trans rfl
  have hxg12_1 : w20_.cell? ⟨g12, 1, none⟩ = some (.slice A15_1_ r7_1.length c15_1_) := (blk_cell Bg12.out 1).trans rfl
  have hfg12_0 := blk_frozen Bg12.out 0
  have hfg12_1 := blk_frozen Bg12.out 1
  have hxg13_0 : w20_.cell? ⟨g13, 0, none⟩ = some (.slice A18_0_ r8_0.length c18_0_) := (blk_cell Bg13.out 0).trans rfl
  have hxg13_1 : w20_.cell? ⟨g13, 1, none⟩ = some (.slice A18_1_ r8_1.length c18_1_) := (blk_cell Bg13.out 1).trans rfl
  have hfg13_0 := blk_frozen Bg13.out 0
  have hfg13_1 := blk_frozen Bg13.out 1
  clear hk hb0
  go_wp2_with (first | (go_at_call 55; refine hold ?_))
  unfold Hold
  refine (impl_IsEquivalent_calls _ _ r6_0 _ _ r7_0 _ _ r7_1 _ _ r8_0 _ _ r8_1 r9_0 _ (Kd.R_reads' O12_0.out).2.2 (Kd.R_reads' O12_0.out).2.1 (Kd.R_reads' O15_0.out).2.2 (Kd.R_reads' O15_0.out).2.1 (Kd.S_reads' O15_1.out).2.2 (Kd.S_reads' O15_1.out).2.1 (Kd.R_reads' O18_0.out).2.2 (Kd.R_reads' O18_0.out).2.1 (Kd.S_reads' O18_1.out).2.2 (Kd.S_reads' O18_1.out).2.1 e10_hz0.out Ee10.out).mono ?_
  rintro e w21_ ⟨rfl, hb⟩
  have Z21_ := Aside0.mk (show w20_.heap.size ≤ w21_.heap.size from hb.size)
  have n_ := Aside0.mk (Kd.R_below O8_0.out hb); clear O8_0; have O8_0 := n_; clear n_
  have n_ := Aside0.mk (Kd.R_below O9_0.out hb); clear O9_0; have O9_0 := n_; clear n_
  have n_ := Aside0.mk (Kd.S_below O9_1.out hb); clear O9_1; have O9_1 := n_; clear n_
  have n_ := Aside0.mk (Kd.R_below O10_0.out hb); clear O10_0; have O10_0 := n_; clear n_
  have n_ := Aside0.mk (Kd.S_below O10_1.out hb); clear O10_1; have O10_1 := n_; clear n_
  have n_ := Aside0.mk (Kd.R_below O12_0.out hb); clear O12_0; have O12_0 := n_; clear n_
  have n_ := Aside0.mk (Kd.R_below O15_0.out hb); clear O15_0; have O15_0 := n_; clear n_
  have n_ := Aside0.mk (Kd.S_below O15_1.out hb); clear O15_1; have O15_1 := n_; clear n_
  have n_ := Aside0.mk (Kd.R_below O18_0.out hb); clear O18_0; have O18_0 := n_; clear n_
  have n_ := Aside0.mk (Kd.S_below O18_1.out hb); clear O18_1; have O18_1 := n_; clear n_
  have n_ := Aside0.mk (blk_below Bg1.out hb); clear Bg1; have Bg1 := n_; clear n_
  have n_ := Aside0.mk (blk_below Bg2.out hb); clear Bg2; have Bg2 := n_; clear n_
  have n_ := Aside0.mk (blk_below Bg3.out hb); clear Bg3; have Bg3 := n_; clear n_
  have n_ := Aside0.mk (blk_below Bg11.out hb); clear Bg11; have Bg11 := n_; clear n_
  have n_ := Aside0.mk (blk_below Bg12.out hb); clear Bg12; have Bg12 := n_; clear n_
  have n_ := Aside0.mk (blk_below Bg13.out hb); clear Bg13; have Bg13 := n_; clear n_
  have n_ := Aside0.mk (below_step HB.out hb); clear HB; have HB := n_; clear n_
  clear hxg1_0
  clear hfg1_0
  clear hxg2_0
  clear hxg2_1
  clear hfg2_0
  clear hfg2_1
  clear hxg3_0
  clear hxg3_1
  clear hfg3_0
  clear hfg3_1
  clear hxg11_0
  clear hfg11_0
  clear hxg12_0
  clear hxg12_1
  clear hfg12_0
  clear hfg12_1
  clear hxg13_0
  clear hxg13_1
  clear hfg13_0
  clear hfg13_1
  have hxg1_0 : w21_.cell? ⟨g1, 0, none⟩ = some (.slice A0_0 l0_0.length c0_0) := (blk_cell Bg1.out 0).trans rfl
  have hfg1_0 := blk_frozen Bg1.out 0
  have hxg2_0 : w21_.cell? ⟨g2, 0, none⟩ = some (.slice A1_0 l1_0.length c1_0) := (blk_cell Bg2.out 0).trans rfl
  have hxg2_1 : w21_.cell? ⟨g2, 1, none⟩ = some (.slice A1_1 l1_1.length c1_1) := (blk_cell Bg2.out 1).trans rfl
  have hfg2_0 := blk_frozen Bg2.out 0
  have hfg2_1 := blk_frozen Bg2.out 1
  have hxg3_0 : w21_.cell? ⟨g3, 0, none⟩ = some (.slice A2_0 l2_0.length c2_0) := (blk_cell Bg3.out 0).trans rfl
  have hxg3_1 : w21_.cell? ⟨g3, 1, none⟩ = some (.slice A2_1 l2_1.length c2_1) := (blk_cell Bg3.out 1).trans rfl
  have hfg3_0 := blk_frozen Bg3.out 0
  have hfg3_1 := blk_frozen Bg3.out 1
  have hxg11_0 : w21_.cell? ⟨g11, 0, none⟩ = some (.slice A12_0_ r6_0.length c12_0_) := (blk_cell Bg11.out 0).trans rfl
  have hfg11_0 := blk_frozen Bg11.out 0
  have hxg12_0 : w21_.cell? ⟨g12, 0, none⟩ = some (.slice A15_0_ r7_0.length c15_0_) := (blk_cell Bg12.out 0).trans rfl
  have hxg12_1 : w21_.cell? ⟨g12, 1, none⟩ = some (.slice A15_1_ r7_1.length c15_1_) := (blk_cell Bg12.out 1).trans rfl
  have hfg12_0 := blk_frozen Bg12.out 0
  have hfg12_1 := blk_frozen Bg12.out 1
  have hxg13_0 : w21_.cell? ⟨g13, 0, none⟩ = some (.slice A18_0_ r8_0.length c18_0_) := (blk_cell Bg13.out 0).trans rfl
  have hxg13_1 : w21_.cell? ⟨g13, 1, none⟩ = some (.slice A18_1_ r8_1.length c18_1_) := (blk_cell Bg13.out 1).trans rfl
  have hfg13_0 := blk_frozen Bg13.out 0
  have hfg13_1 := blk_frozen Bg13.out 1
  clear hb
  try go_wp2_with fail
  have n_ := Aside0.mk (Kd.R_drew O8_0.out); clear O8_0; have O8_0 := n_; clear n_
  have n_ := Aside0.mk (Kd.R_drew O9_0.out); clear O9_0; have O9_0 := n_; clear n_
  have n_ := Aside0.mk (Kd.S_drew O9_1.out); clear O9_1; have O9_1 := n_; clear n_
  have n_ := Aside0.mk (Kd.R_drew O10_0.out); clear O10_0; have O10_0 := n_; clear n_
  have n_ := Aside0.mk (Kd.S_drew O10_1.out); clear O10_1; have O10_1 := n_; clear n_
  have n_ := Aside0.mk (Kd.R_drew O12_0.out); clear O12_0; have O12_0 := n_; clear n_
  have n_ := Aside0.mk (Kd.R_drew O15_0.out); clear O15_0; have O15_0 := n_; clear n_
  have n_ := Aside0.mk (Kd.S_drew O15_1.out); clear O15_1; have O15_1 := n_; clear n_
  have n_ := Aside0.mk (Kd.R_drew O18_0.out); clear O18_0; have O18_0 := n_; clear n_
  have n_ := Aside0.mk (Kd.S_drew O18_1.out); clear O18_1; have O18_1 := n_; clear n_
  have n_ := Aside0.mk (blk_drew Bg1.out); clear Bg1; have Bg1 := n_; clear n_
  have n_ := Aside0.mk (blk_drew Bg2.out); clear Bg2; have Bg2 := n_; clear n_
  have n_ := Aside0.mk (blk_drew Bg3.out); clear Bg3; have Bg3 := n_; clear n_
  have n_ := Aside0.mk (blk_drew Bg11.out); clear Bg11; have Bg11 := n_; clear n_
  have n_ := Aside0.mk (blk_drew Bg12.out); clear Bg12; have Bg12 := n_; clear n_
  have n_ := Aside0.mk (blk_drew Bg13.out); clear Bg13; have Bg13 := n_; clear n_
  have n_ := Aside0.mk (below_drew1 HB.out); clear HB; have HB := n_; clear n_
  clear hxg1_0
  clear hfg1_0
  clear hxg2_0
  clear hxg2_1
  clear hfg2_0
  clear hfg2_1
  clear hxg3_0
  clear hxg3_1
  clear hfg3_0
  clear hfg3_1
  clear hxg11_0
  clear hfg11_0
  clear hxg12_0
  clear hxg12_1
  clear hfg12_0
  clear hfg12_1
  clear hxg13_0
  clear hxg13_1
  clear hfg13_0
  clear hfg13_1
  have hz := Aside0.mk (show w21_.heap.size ≤ w21_.drew.heap.size from Nat.le_refl _)
  refine start_ (n := 5) (S := fun w' => w'.cell? ⟨g11, 0, none⟩ = some (.slice A12_0_ r6_0.length c12_0_) ∧ w'.cell? ⟨g1, 0, none⟩ = some (.slice A0_0 l0_0.length c0_0)) (ds := []) #[false,false,false,false,false] (by kernel_rfl) rfl rfl ⟨(blk_cell Bg11.out 0).trans rfl, (blk_cell Bg1.out 0).trans rfl⟩ (fun hHeld => ?_)
  generalize w21_.drew = w22_ at O8_0 O9_0 O9_1 O10_0 O10_1 O12_0 O15_0 O15_1 O18_0 O18_1 Bg1 Bg2 Bg3 Bg11 Bg12 Bg13 HB hz hHeld ⊢
  have Z22_ := hz; clear hz
  refine take_ (i := 0) (N := some 48) (v := ?_) (a' := ?_) #[true,false,false,false,false] rfl rfl (by kernel_rfl) (fun _ _ _ h => h) (Or.inl ⟨by rfl, ?_⟩) hHeld ?_ ?_
  rotate_left
  · rintro w' ⟨s0, s1⟩; go_simp; with_reducible rfl
  rotate_left
  · simp only [Act.put, List.setIfInBounds_toArray, List.set_cons_zero, List.set_cons_succ, i64_w, i32_w]; rfl
  refine take_ (i := 1) (N := some 49) (v := ?_) (a' := ?_) #[true,true,false,false,false] rfl rfl (by kernel_rfl) (fun _ _ _ h => h) (Or.inl ⟨by rfl, ?_⟩) hHeld ?_ ?_
  rotate_left
  · rintro w' ⟨s0, s1⟩; go_simp; with_reducible rfl
  rotate_left
  · simp only [Act.put, List.setIfInBounds_toArray, List.set_cons_zero, List.set_cons_succ, i64_w, i32_w]; rfl
  refine one_ (i := 2) (N := some 50) #[true,true,true,false,false] rfl rfl (by kernel_rfl) (by decide) (fun K hK => ?_)
  refine goes_ Try.func49 (by kernel_rfl) rfl #[.agg #[.slice A0_0 l0_0.length c0_0]] (by rfl) rfl rfl (by (try simp only [List.map_toArray, List.map_cons, List.map_nil]); first | done | rfl) ?_
  with_reducible refine (laws_toSchema.calls ke6 _ _ l0_0 r6_0 _ (Kd.C_below H0_0.out HB.out) HC0_0.out Ee6.out).mono ?_
  rintro e w23_ ⟨v23_0_, rfl, ho0, hb⟩
  refine ⟨_, rfl, ?_⟩
  have O23_0 := Aside0.mk (newR ho0 HB.out.size)
  have Z23_ := Aside0.mk (show w22_.heap.size ≤ w23_.heap.size from hb.size)
  have n_ := Aside0.mk (Kd.R_below O8_0.out hb); clear O8_0; have O8_0 := n_; clear n_
  have n_ := Aside0.mk (Kd.R_below O9_0.out hb); clear O9_0; have O9_0 := n_; clear n_
  have n_ := Aside0.mk (Kd.S_below O9_1.out hb); clear O9_1; have O9_1 := n_; clear n_
  have n_ := Aside0.mk (Kd.R_below O10_0.out hb); clear O10_0; have O10_0 := n_; clear n_
  have n_ := Aside0.mk (Kd.S_below O10_1.out hb); clear O10_1; have O10_1 := n_; clear n_
  have n_ := Aside0.mk (Kd.R_below O12_0.out hb); clear O12_0; have O12_0 := n_; clear n_
  have n_ := Aside0.mk (Kd.R_below O15_0.out hb); clear O15_0; have O15_0 := n_; clear n_
  have n_ := Aside0.mk (Kd.S_below O15_1.out hb); clear O15_1; have O15_1 := n_; clear n_
  have n_ := Aside0.mk (Kd.R_below O18_0.out hb); clear O18_0; have O18_0 := n_; clear n_
  have n_ := Aside0.mk (Kd.S_below O18_1.out hb); clear O18_1; have O18_1 := n_; clear n_
  have n_ := Aside0.mk (blk_below Bg1.out hb); clear Bg1; have Bg1 := n_; clear n_
  have n_ := Aside0.mk (blk_below Bg2.out hb); clear Bg2; have Bg2 := n_; clear n_
  have n_ := Aside0.mk (blk_below Bg3.out hb); clear Bg3; have Bg3 := n_; clear n_
  have n_ := Aside0.mk (blk_below Bg11.out hb); clear Bg11; have Bg11 := n_; clear n_
  have n_ := Aside0.mk (blk_below Bg12.out hb); clear Bg12; have Bg12 := n_; clear n_
  have n_ := Aside0.mk (blk_below Bg13.out hb); clear Bg13; have Bg13 := n_; clear n_
  have n_ := Aside0.mk (below_step HB.out hb); clear HB; have HB := n_; clear n_
  have hxg1_0 : w23_.cell? ⟨g1, 0, none⟩ = some (.slice A0_0 l0_0.length c0_0) := (blk_cell Bg1.out 0).trans rfl
  have hfg1_0 := blk_frozen Bg1.out 0
  have hxg2_0 : w23_.cell? ⟨g2, 0, none⟩ = some (.slice A1_0 l1_0.length c1_0) := (blk_cell Bg2.out 0).trans rfl
  have hxg2_1 : w23_.cell? ⟨g2, 1, none⟩ = some (.slice A1_1 l1_1.length c1_1) := (blk_cell Bg2.out 1).trans rfl
  have hfg2_0 := blk_frozen Bg2.out 0
  have hfg2_1 := blk_frozen Bg2.out 1
  have hxg3_0 : w23_.cell? ⟨g3, 0, none⟩ = some (.slice A2_0 l2_0.length c2_0) := (blk_cell Bg3.out 0).trans rfl
  have hxg3_1 : w23_.cell? ⟨g3, 1, none⟩ = some (.slice A2_1 l2_1.length c2_1) := (blk_cell Bg3.out 1).trans rfl
  have hfg3_0 := blk_frozen Bg3.out 0
  have hfg3_1 := blk_frozen Bg3.out 1
  have hxg11_0 : w23_.cell? ⟨g11, 0, none⟩ = some (.slice A12_0_ r6_0.length c12_0_) := (blk_cell Bg11.out 0).trans rfl
  have hfg11_0 := blk_frozen Bg11.out 0
  have hxg12_0 : w23_.cell? ⟨g12, 0, none⟩ = some (.slice A15_0_ r7_0.length c15_0_) := (blk_cell Bg12.out 0).trans rfl
  have hxg12_1 : w23_.cell? ⟨g12, 1, none⟩ = some (.slice A15_1_ r7_1.length c15_1_) := (blk_cell Bg12.out 1).trans rfl
  have hfg12_0 := blk_frozen Bg12.out 0
  have hfg12_1 := blk_frozen Bg12.out 1
  have hxg13_0 : w23_.cell? ⟨g13, 0, none⟩ = some (.slice A18_0_ r8_0.length c18_0_) := (blk_cell Bg13.out 0).trans rfl
  have hxg13_1 : w23_.cell? ⟨g13, 1, none⟩ = some (.slice A18_1_ r8_1.length c18_1_) := (blk_cell Bg13.out 1).trans rfl
  have hfg13_0 := blk_frozen Bg13.out 0
  have hfg13_1 := blk_frozen Bg13.out 1
  clear hb ho0
  obtain ⟨A23_0_, c23_0_, eq_⟩ := Kd.R_slice O23_0.out
  subst eq_
  clear hxg1_0
  clear hfg1_0
  clear hxg2_0
  clear hxg2_1
  clear hfg2_0
  clear hfg2_1
  clear hxg3_0
  clear hxg3_1
  clear hfg3_0
  clear hfg3_1
  clear hxg11_0
  clear hfg11_0
  clear hxg12_0
  clear hxg12_1
  clear hfg12_0
  clear hfg12_1
  clear hxg13_0
  clear hxg13_1
  clear hfg13_0
  clear hfg13_1
  refine hK.out _ _ ⟨(blk_cell Bg11.out 0).trans rfl, (blk_cell Bg1.out 0).trans rfl⟩ (fun hHeld => ?_)
  clear hK K
  refine norm_ (a' := ?_) ?_ ?_
  rotate_left
  · show Act.put _ (some 50) _ = _; simp only [Act.put, List.setIfInBounds_toArray, List.set_cons_zero, List.set_cons_succ, i64_w, i32_w]; rfl
  refine one_ (i := 3) (N := some 51) #[true,true,true,true,false] rfl rfl (by kernel_rfl) (by decide) (fun K hK => ?_)
  refine goes_ Try.func51 (by kernel_rfl) rfl #[.agg #[.slice A12_0_ r6_0.length c12_0_], .agg #[.slice A23_0_ r6_0.length c23_0_]] (by rfl) rfl rfl (by (try simp only [List.map_toArray, List.map_cons, List.map_nil]); first | done | rfl) ?_
  with_reducible refine (laws_eqSchema.calls ke11 _ _ r6_0 _ _ r6_0 true _ (Kd.R_reads' O12_0.out).2.2 (Kd.R_reads' O12_0.out).2.1 (Kd.R_reads' O23_0.out).2.2 (Kd.R_reads' O23_0.out).2.1 Ee11.out).mono ?_
  rintro e w24_ ⟨rfl, hb⟩
  refine ⟨_, rfl, ?_⟩
  have Z24_ := Aside0.mk (show w23_.heap.size ≤ w24_.heap.size from hb.size)
  have n_ := Aside0.mk (Kd.R_below O8_0.out hb); clear O8_0; have O8_0 := n_; clear n_
  have n_ := Aside0.mk (Kd.R_below O9_0.out hb); clear O9_0; have O9_0 := n_; clear n_
  have n_ := Aside0.mk (Kd.S_below O9_1.out hb); clear O9_1; have O9_1 := n_; clear n_
  have n_ := Aside0.mk (Kd.R_below O10_0.out hb); clear O10_0; have O10_0 := n_; clear n_
  have n_ := Aside0.mk (Kd.S_below O10_1.out hb); clear O10_1; have O10_1 := n_; clear n_
  have n_ := Aside0.mk (Kd.R_below O12_0.out hb); clear O12_0; have O12_0 := n_; clear n_
  have n_ := Aside0.mk (Kd.R_below O15_0.out hb); clear O15_0; have O15_0 := n_; clear n_
  have n_ := Aside0.mk (Kd.S_below O15_1.out hb); clear O15_1; have O15_1 := n_; clear n_
  have n_ := Aside0.mk (Kd.R_below O18_0.out hb); clear O18_0; have O18_0 := n_; clear n_
  have n_ := Aside0.mk (Kd.S_below O18_1.out hb); clear O18_1; have O18_1 := n_; clear n_
  have n_ := Aside0.mk (Kd.R_below O23_0.out hb); clear O23_0; have O23_0 := n_; clear n_
  have n_ := Aside0.mk (blk_below Bg1.out hb); clear Bg1; have Bg1 := n_; clear n_
  have n_ := Aside0.mk (blk_below Bg2.out hb); clear Bg2; have Bg2 := n_; clear n_
  have n_ := Aside0.mk (blk_below Bg3.out hb); clear Bg3; have Bg3 := n_; clear n_
  have n_ := Aside0.mk (blk_below Bg11.out hb); clear Bg11; have Bg11 := n_; clear n_
  have n_ := Aside0.mk (blk_below Bg12.out hb); clear Bg12; have Bg12 := n_; clear n_
  have n_ := Aside0.mk (blk_below Bg13.out hb); clear Bg13; have Bg13 := n_; clear n_
  have n_ := Aside0.mk (below_step HB.out hb); clear HB; have HB := n_; clear n_
  have hxg1_0 : w24_.cell? ⟨g1, 0, none⟩ = some (.slice A0_0 l0_0.length c0_0) := (blk_cell Bg1.out 0).trans rfl
  have hfg1_0 := blk_frozen Bg1.out 0
  have hxg2_0 : w24_.cell? ⟨g2, 0, none⟩ = some (.slice A1_0 l1_0.length c1_0) := (blk_cell Bg2.out 0).trans rfl
  have hxg2_1 : w24_.cell? ⟨g2, 1, none⟩ = some (.slice A1_1 l1_1.length c1_1) := (blk_cell Bg2.out 1).trans rfl
  have hfg2_0 := blk_frozen Bg2.out 0
  have hfg2_1 := blk_frozen Bg2.out 1
  have hxg3_0 : w24_.cell? ⟨g3, 0, none⟩ = some (.slice A2_0 l2_0.length c2_0) := (blk_cell Bg3.out 0).trans rfl
  have hxg3_1 : w24_.cell? ⟨g3, 1, none⟩ = some (.slice A2_1 l2_1.length c2_1) := (blk_cell Bg3.out 1).trans rfl
  have hfg3_0 := blk_frozen Bg3.out 0
  have hfg3_1 := blk_frozen Bg3.out 1
  have hxg11_0 : w24_.cell? ⟨g11, 0, none⟩ = some (.slice A12_0_ r6_0.length c12_0_) := (blk_cell Bg11.out 0).trans rfl
  have hfg11_0 := blk_frozen Bg11.out 0
  have hxg12_0 : w24_.cell? ⟨g12, 0, none⟩ = some (.slice A15_0_ r7_0.length c15_0_) := (blk_cell Bg12.out 0).trans rfl
  have hxg12_1 : w24_.cell? ⟨g12, 1, none⟩ = some (.slice A15_1_ r7_1.length c15_1_) := (blk_cell Bg12.out 1).trans rfl
  have hfg12_0 := blk_frozen Bg12.out 0
  have hfg12_1 := blk_frozen Bg12.out 1
  have hxg13_0 : w24_.cell? ⟨g13, 0, none⟩ = some (.slice A18_0_ r8_0.length c18_0_) := (blk_cell Bg13.out 0).trans rfl
  have hxg13_1 : w24_.cell? ⟨g13, 1, none⟩ = some (.slice A18_1_ r8_1.length c18_1_) := (blk_cell Bg13.out 1).trans rfl
  have hfg13_0 := blk_frozen Bg13.out 0
  have hfg13_1 := blk_frozen Bg13.out 1
  clear hb
  clear hxg1_0
  clear hfg1_0
  clear hxg2_0
  clear hxg2_1
  clear hfg2_0
  clear hfg2_1
  clear hxg3_0
  clear hxg3_1
  clear hfg3_0
  clear hfg3_1
  clear hxg11_0
  clear hfg11_0
  clear hxg12_0
  clear hxg12_1
  clear hfg12_0
  clear hfg12_1
  clear hxg13_0
  clear hxg13_1
  clear hfg13_0
  clear hfg13_1
  refine hK.out _ _ ⟨(blk_cell Bg11.out 0).trans rfl, (blk_cell Bg1.out 0).trans rfl⟩ (fun hHeld => ?_)
  clear hK K
  refine norm_ (a' := ?_) ?_ ?_
  rotate_left
  · show Act.put _ (some 51) _ = _; simp only [Act.put, List.setIfInBounds_toArray, List.set_cons_zero, List.set_cons_succ, i64_w, i32_w]; rfl
  refine pure_ (i := 4) (N := some 52) (v := ?_) (a' := ?_) #[true,true,true,true,true] rfl rfl (by kernel_rfl) (fun _ _ _ h => h) (Or.inl ⟨by rfl, ?_⟩) ?_ ?_
  rotate_left
  · intro w'; go_simp; with_reducible rfl
  rotate_left
  · simp only [Act.put, List.setIfInBounds_toArray, List.set_cons_zero, List.set_cons_succ, i64_w, i32_w]; rfl
  refine done_ (by kernel_rfl) ?_
  have hxg1_0 : w24_.cell? ⟨g1, 0, none⟩ = some (.slice A0_0 l0_0.length c0_0) := (blk_cell Bg1.out 0).trans rfl
  have hfg1_0 := blk_frozen Bg1.out 0
  have hxg2_0 : w24_.cell? ⟨g2, 0, none⟩ = some (.slice A1_0 l1_0.length c1_0) := (blk_cell Bg2.out 0).trans rfl
  have hxg2_1 : w24_.cell? ⟨g2, 1, none⟩ = some (.slice A1_1 l1_1.length c1_1) := (blk_cell Bg2.out 1).trans rfl
  have hfg2_0 := blk_frozen Bg2.out 0
  have hfg2_1 := blk_frozen Bg2.out 1
  have hxg3_0 : w24_.cell? ⟨g3, 0, none⟩ = some (.slice A2_0 l2_0.length c2_0) := (blk_cell Bg3.out 0).trans rfl
  have hxg3_1 : w24_.cell? ⟨g3, 1, none⟩ = some (.slice A2_1 l2_1.length c2_1) := (blk_cell Bg3.out 1).trans rfl
  have hfg3_0 := blk_frozen Bg3.out 0
  have hfg3_1 := blk_frozen Bg3.out 1
  have hxg11_0 : w24_.cell? ⟨g11, 0, none⟩ = some (.slice A12_0_ r6_0.length c12_0_) := (blk_cell Bg11.out 0).trans rfl
  have hfg11_0 := blk_frozen Bg11.out 0
  have hxg12_0 : w24_.cell? ⟨g12, 0, none⟩ = some (.slice A15_0_ r7_0.length c15_0_) := (blk_cell Bg12.out 0).trans rfl
  have hxg12_1 : w24_.cell? ⟨g12, 1, none⟩ = some (.slice A15_1_ r7_1.length c15_1_) := (blk_cell Bg12.out 1).trans rfl
  have hfg12_0 := blk_frozen Bg12.out 0
  have hfg12_1 := blk_frozen Bg12.out 1
  have hxg13_0 : w24_.cell? ⟨g13, 0, none⟩ = some (.slice A18_0_ r8_0.length c18_0_) := (blk_cell Bg13.out 0).trans rfl
  have hxg13_1 : w24_.cell? ⟨g13, 1, none⟩ = some (.slice A18_1_ r8_1.length c18_1_) := (blk_cell Bg13.out 1).trans rfl
  have hfg13_0 := blk_frozen Bg13.out 0
  have hfg13_1 := blk_frozen Bg13.out 1
  try go_wp2_with fail
  have n_ := Aside0.mk (Kd.R_drew O8_0.out); clear O8_0; have O8_0 := n_; clear n_
  have n_ := Aside0.mk (Kd.R_drew O9_0.out); clear O9_0; have O9_0 := n_; clear n_
  have n_ := Aside0.mk (Kd.S_drew O9_1.out); clear O9_1; have O9_1 := n_; clear n_
  have n_ := Aside0.mk (Kd.R_drew O10_0.out); clear O10_0; have O10_0 := n_; clear n_
  have n_ := Aside0.mk (Kd.S_drew O10_1.out); clear O10_1; have O10_1 := n_; clear n_
  have n_ := Aside0.mk (Kd.R_drew O12_0.out); clear O12_0; have O12_0 := n_; clear n_
  have n_ := Aside0.mk (Kd.R_drew O15_0.out); clear O15_0; have O15_0 := n_; clear n_
  have n_ := Aside0.mk (Kd.S_drew O15_1.out); clear O15_1; have O15_1 := n_; clear n_
  have n_ := Aside0.mk (Kd.R_drew O18_0.out); clear O18_0; have O18_0 := n_; clear n_
  have n_ := Aside0.mk (Kd.S_drew O18_1.out); clear O18_1; have O18_1 := n_; clear n_
  have n_ := Aside0.mk (Kd.R_drew O23_0.out); clear O23_0; have O23_0 := n_; clear n_
  have n_ := Aside0.mk (blk_drew Bg1.out); clear Bg1; have Bg1 := n_; clear n_
  have n_ := Aside0.mk (blk_drew Bg2.out); clear Bg2; have Bg2 := n_; clear n_
  have n_ := Aside0.mk (blk_drew Bg3.out); clear Bg3; have Bg3 := n_; clear n_
  have n_ := Aside0.mk (blk_drew Bg11.out); clear Bg11; have Bg11 := n_; clear n_
  have n_ := Aside0.mk (blk_drew Bg12.out); clear Bg12; have Bg12 := n_; clear n_
  have n_ := Aside0.mk (blk_drew Bg13.out); clear Bg13; have Bg13 := n_; clear n_
  have n_ := Aside0.mk (below_drew1 HB.out); clear HB; have HB := n_; clear n_
  clear hxg1_0
  clear hfg1_0
  clear hxg2_0
  clear hxg2_1
  clear hfg2_0
  clear hfg2_1
  clear hxg3_0
  clear hxg3_1
  clear hfg3_0
  clear hfg3_1
  clear hxg11_0
  clear hfg11_0
  clear hxg12_0
  clear hxg12_1
  clear hfg12_0
  clear hfg12_1
  clear hxg13_0
  clear hxg13_1
  clear hfg13_0
  clear hfg13_1
  have hz := Aside0.mk (show w24_.heap.size ≤ w24_.drew.heap.size from Nat.le_refl _)
  refine start_ (n := 5) (S := fun w' => w'.cell? ⟨g12, 0, none⟩ = some (.slice A15_0_ r7_0.length c15_0_) ∧ w'.cell? ⟨g12, 1, none⟩ = some (.slice A15_1_ r7_1.length c15_1_) ∧ w'.cell? ⟨g2, 0, none⟩ = some (.slice A1_0 l1_0.length c1_0) ∧ w'.cell? ⟨g2, 1, none⟩ = some (.slice A1_1 l1_1.length c1_1)) (ds := []) #[false,false,false,false,false] (by kernel_rfl) rfl rfl ⟨(blk_cell Bg12.out 0).trans rfl, (blk_cell Bg12.out 1).trans rfl, (blk_cell Bg2.out 0).trans rfl, (blk_cell Bg2.out 1).trans rfl⟩ (fun hHeld => ?_)
  generalize w24_.drew = w25_ at O8_0 O9_0 O9_1 O10_0 O10_1 O12_0 O15_0 O15_1 O18_0 O18_1 O23_0 Bg1 Bg2 Bg3 Bg11 Bg12 Bg13 HB hz hHeld ⊢
  have Z25_ := hz; clear hz
  refine take_ (i := 0) (N := some 53) (v := ?_) (a' := ?_) #[true,false,false,false,false] rfl rfl (by kernel_rfl) (fun _ _ _ h => h) (Or.inl ⟨by rfl, ?_⟩) hHeld ?_ ?_
  rotate_left
  · rintro w' ⟨s0, s1, s2, s3⟩; go_simp; with_reducible rfl
  rotate_left
  · simp only [Act.put, List.setIfInBounds_toArray, List.set_cons_zero, List.set_cons_succ, i64_w, i32_w]; rfl
  refine take_ (i := 1) (N := some 54) (v := ?_) (a' := ?_) #[true,true,false,false,false] rfl rfl (by kernel_rfl) (fun _ _ _ h => h) (Or.inl ⟨by rfl, ?_⟩) hHeld ?_ ?_
  rotate_left
  · rintro w' ⟨s0, s1, s2, s3⟩; go_simp; with_reducible rfl
  rotate_left
  · simp only [Act.put, List.setIfInBounds_toArray, List.set_cons_zero, List.set_cons_succ, i64_w, i32_w]; rfl
  refine one_ (i := 2) (N := some 55) #[true,true,true,false,false] rfl rfl (by kernel_rfl) (by decide) (fun K hK => ?_)
  refine goes_ Try.func32 (by kernel_rfl) rfl #[.agg #[.slice A1_0 l1_0.length c1_0, .slice A1_1 l1_1.length c1_1]] (by rfl) rfl rfl (by (try simp only [List.map_toArray, List.map_cons, List.map_nil]); first | done | rfl) ?_
  with_reducible refine (laws_toQuery.calls ke7 _ _ l1_0 _ _ l1_1 r7_0 r7_1 _ (Kd.C_below H1_0.out HB.out) HC1_0.out (Kd.C_below H1_1.out HB.out) HC1_1.out Ee7.out).mono ?_
  rintro e w26_ ⟨v26_0_, v26_1_, rfl, ho0, ho1, hb⟩
  refine ⟨_, rfl, ?_⟩
  have O26_0 := Aside0.mk (newR ho0 HB.out.size)
  have O26_1 := Aside0.mk (newS ho1 HB.out.size)
  have Z26_ := Aside0.mk (show w25_.heap.size ≤ w26_.heap.size from hb.size)
  have n_ := Aside0.mk (Kd.R_below O8_0.out hb); clear O8_0; have O8_0 := n_; clear n_
  have n_ := Aside0.mk (Kd.R_below O9_0.out hb); clear O9_0; have O9_0 := n_; clear n_
  have n_ := Aside0.mk (Kd.S_below O9_1.out hb); clear O9_1; have O9_1 := n_; clear n_
  have n_ := Aside0.mk (Kd.R_below O10_0.out hb); clear O10_0; have O10_0 := n_; clear n_
  have n_ := Aside0.mk (Kd.S_below O10_1.out hb); clear O10_1; have O10_1 := n_; clear n_
  have n_ := Aside0.mk (Kd.R_below O12_0.out hb); clear O12_0; have O12_0 := n_; clear n_
  have n_ := Aside0.mk (Kd.R_below O15_0.out hb); clear O15_0; have O15_0 := n_; clear n_
  have n_ := Aside0.mk (Kd.S_below O15_1.out hb); clear O15_1; have O15_1 := n_; clear n_
  have n_ := Aside0.mk (Kd.R_below O18_0.out hb); clear O18_0; have O18_0 := n_; clear n_
  have n_ := Aside0.mk (Kd.S_below O18_1.out hb); clear O18_1; have O18_1 := n_; clear n_
  have n_ := Aside0.mk (Kd.R_below O23_0.out hb); clear O23_0; have O23_0 := n_; clear n_
  have n_ := Aside0.mk (blk_below Bg1.out hb); clear Bg1; have Bg1 := n_; clear n_
  have n_ := Aside0.mk (blk_below Bg2.out hb); clear Bg2; have Bg2 := n_; clear n_
  have n_ := Aside0.mk (blk_below Bg3.out hb); clear Bg3; have Bg3 := n_; clear n_
  have n_ := Aside0.mk (blk_below Bg11.out hb); clear Bg11; have Bg11 := n_; clear n_
  have n_ := Aside0.mk (blk_below Bg12.out hb); clear Bg12; have Bg12 := n_; clear n_
  have n_ := Aside0.mk (blk_below Bg13.out hb); clear Bg13; have Bg13 := n_; clear n_
  have n_ := Aside0.mk (below_step HB.out hb); clear HB; have HB := n_; clear n_
  have hxg1_0 : w26_.cell? ⟨g1, 0, none⟩ = some (.slice A0_0 l0_0.length c0_0) := (blk_cell Bg1.out 0).trans rfl
  have hfg1_0 := blk_frozen Bg1.out 0
  have hxg2_0 : w26_.cell? ⟨g2, 0, none⟩ = some (.slice A1_0 l1_0.length c1_0) := (blk_cell Bg2.out 0).trans rfl
  have hxg2_1 : w26_.cell? ⟨g2, 1, none⟩ = some (.slice A1_1 l1_1.length c1_1) := (blk_cell Bg2.out 1).trans rfl
  have hfg2_0 := blk_frozen Bg2.out 0
  have hfg2_1 := blk_frozen Bg2.out 1
  have hxg3_0 : w26_.cell? ⟨g3, 0, none⟩ = some (.slice A2_0 l2_0.length c2_0) := (blk_cell Bg3.out 0).trans rfl
  have hxg3_1 : w26_.cell? ⟨g3, 1, none⟩ = some (.slice A2_1 l2_1.length c2_1) := (blk_cell Bg3.out 1).trans rfl
  have hfg3_0 := blk_frozen Bg3.out 0
  have hfg3_1 := blk_frozen Bg3.out 1
  have hxg11_0 : w26_.cell? ⟨g11, 0, none⟩ = some (.slice A12_0_ r6_0.length c12_0_) := (blk_cell Bg11.out 0).trans rfl
  have hfg11_0 := blk_frozen Bg11.out 0
  have hxg12_0 : w26_.cell? ⟨g12, 0, none⟩ = some (.slice A15_0_ r7_0.length c15_0_) := (blk_cell Bg12.out 0).trans rfl
  have hxg12_1 : w26_.cell? ⟨g12, 1, none⟩ = some (.slice A15_1_ r7_1.length c15_1_) := (blk_cell Bg12.out 1).trans rfl
  have hfg12_0 := blk_frozen Bg12.out 0
  have hfg12_1 := blk_frozen Bg12.out 1
  have hxg13_0 : w26_.cell? ⟨g13, 0, none⟩ = some (.slice A18_0_ r8_0.length c18_0_) := (blk_cell Bg13.out 0).trans rfl
  have hxg13_1 : w26_.cell? ⟨g13, 1, none⟩ = some (.slice A18_1_ r8_1.length c18_1_) := (blk_cell Bg13.out 1).trans rfl
  have hfg13_0 := blk_frozen Bg13.out 0
  have hfg13_1 := blk_frozen Bg13.out 1
  clear hb ho0 ho1
  obtain ⟨A26_0_, c26_0_, eq_⟩ := Kd.R_slice O26_0.out
  subst eq_
  obtain ⟨A26_1_, c26_1_, eq_⟩ := Kd.S_slice O26_1.out
  subst eq_
  clear hxg1_0
  clear hfg1_0
  clear hxg2_0
  clear hxg2_1
  clear hfg2_0
  clear hfg2_1
  clear hxg3_0
  clear hxg3_1
  clear hfg3_0
  clear hfg3_1
  clear hxg11_0
  clear hfg11_0
  clear hxg12_0
  clear hxg12_1
  clear hfg12_0
  clear hfg12_1
  clear hxg13_0
  clear hxg13_1
  clear hfg13_0
  clear hfg13_1
  refine hK.out _ _ ⟨(blk_cell Bg12.out 0).trans rfl, (blk_cell Bg12.out 1).trans rfl, (blk_cell Bg2.out 0).trans rfl, (blk_cell Bg2.out 1).trans rfl⟩ (fun hHeld => ?_)
  clear hK K
  refine norm_ (a' := ?_) ?_ ?_
  rotate_left
  · show Act.put _ (some 55) _ = _; simp only [Act.put, List.setIfInBounds_toArray, List.set_cons_zero, List.set_cons_succ, i64_w, i32_w]; rfl
  refine one_ (i := 3) (N := some 56) #[true,true,true,true,false] rfl rfl (by kernel_rfl) (by decide) (fun K hK => ?_)
  refine goes_ Try.func34 (by kernel_rfl) rfl #[.agg #[.slice A15_0_ r7_0.length c15_0_, .slice A15_1_ r7_1.length c15_1_], .agg #[.slice A26_0_ r7_0.length c26_0_, .slice A26_1_ r7_1.length c26_1_]] (by rfl) rfl rfl (by (try simp only [List.map_toArray, List.map_cons, List.map_nil]); first | done | rfl) ?_
  with_reducible refine (laws_eqQuery.calls ke12 _ _ r7_0 _ _ r7_1 _ _ r7_0 _ _ r7_1 true _ (Kd.R_reads' O15_0.out).2.2 (Kd.R_reads' O15_0.out).2.1 (Kd.S_reads' O15_1.out).2.2 (Kd.S_reads' O15_1.out).2.1 (Kd.R_reads' O26_0.out).2.2 (Kd.R_reads' O26_0.out).2.1 (Kd.S_reads' O26_1.out).2.2 (Kd.S_reads' O26_1.out).2.1 Ee12.out).mono ?_
  rintro e w27_ ⟨rfl, hb⟩
  refine ⟨_, rfl, ?_⟩
  have Z27_ := Aside0.mk (show w26_.heap.size ≤ w27_.heap.size from hb.size)
  have n_ := Aside0.mk (Kd.R_below O8_0.out hb); clear O8_0; have O8_0 := n_; clear n_
  have n_ := Aside0.mk (Kd.R_below O9_0.out hb); clear O9_0; have O9_0 := n_; clear n_
  have n_ := Aside0.mk (Kd.S_below O9_1.out hb); clear O9_1; have O9_1 := n_; clear n_
  have n_ := Aside0.mk (Kd.R_below O10_0.out hb); clear O10_0; have O10_0 := n_; clear n_
  have n_ := Aside0.mk (Kd.S_below O10_1.out hb); clear O10_1; have O10_1 := n_; clear n_
  have n_ := Aside0.mk (Kd.R_below O12_0.out hb); clear O12_0; have O12_0 := n_; clear n_
  have n_ := Aside0.mk (Kd.R_below O15_0.out hb); clear O15_0; have O15_0 := n_; clear n_
  have n_ := Aside0.mk (Kd.S_below O15_1.out hb); clear O15_1; have O15_1 := n_; clear n_
  have n_ := Aside0.mk (Kd.R_below O18_0.out hb); clear O18_0; have O18_0 := n_; clear n_
  have n_ := Aside0.mk (Kd.S_below O18_1.out hb); clear O18_1; have O18_1 := n_; clear n_
  have n_ := Aside0.mk (Kd.R_below O23_0.out hb); clear O23_0; have O23_0 := n_; clear n_
  have n_ := Aside0.mk (Kd.R_below O26_0.out hb); clear O26_0; have O26_0 := n_; clear n_
  have n_ := Aside0.mk (Kd.S_below O26_1.out hb); clear O26_1; have O26_1 := n_; clear n_
  have n_ := Aside0.mk (blk_below Bg1.out hb); clear Bg1; have Bg1 := n_; clear n_
  have n_ := Aside0.mk (blk_below Bg2.out hb); clear Bg2; have Bg2 := n_; clear n_
  have n_ := Aside0.mk (blk_below Bg3.out hb); clear Bg3; have Bg3 := n_; clear n_
  have n_ := Aside0.mk (blk_below Bg11.out hb); clear Bg11; have Bg11 := n_; clear n_
  have n_ := Aside0.mk (blk_below Bg12.out hb); clear Bg12; have Bg12 := n_; clear n_
  have n_ := Aside0.mk (blk_below Bg13.out hb); clear Bg13; have Bg13 := n_; clear n_
  have n_ := Aside0.mk (below_step HB.out hb); clear HB; have HB := n_; clear n_
  have hxg1_0 : w27_.cell? ⟨g1, 0, none⟩ = some (.slice A0_0 l0_0.length c0_0) := (blk_cell Bg1.out 0).trans rfl
  have hfg1_0 := blk_frozen Bg1.out 0
  have hxg2_0 : w27_.cell? ⟨g2, 0, none⟩ = some (.slice A1_0 l1_0.length c1_0) := (blk_cell Bg2.out 0).trans rfl
  have hxg2_1 : w27_.cell? ⟨g2, 1, none⟩ = some (.slice A1_1 l1_1.length c1_1) := (blk_cell Bg2.out 1).trans rfl
  have hfg2_0 := blk_frozen Bg2.out 0
  have hfg2_1 := blk_frozen Bg2.out 1
  have hxg3_0 : w27_.cell? ⟨g3, 0, none⟩ = some (.slice A2_0 l2_0.length c2_0) := (blk_cell Bg3.out 0).trans rfl
  have hxg3_1 : w27_.cell? ⟨g3, 1, none⟩ = some (.slice A2_1 l2_1.length c2_1) := (blk_cell Bg3.out 1).trans rfl
  have hfg3_0 := blk_frozen Bg3.out 0
  have hfg3_1 := blk_frozen Bg3.out 1
  have hxg11_0 : w27_.cell? ⟨g11, 0, none⟩ = some (.slice A12_0_ r6_0.length c12_0_) := (blk_cell Bg11.out 0).trans rfl
  have hfg11_0 := blk_frozen Bg11.out 0
  have hxg12_0 : w27_.cell? ⟨g12, 0, none⟩ = some (.slice A15_0_ r7_0.length c15_0_) := (blk_cell Bg12.out 0).trans rfl
  have hxg12_1 : w27_.cell? ⟨g12, 1, none⟩ = some (.slice A15_1_ r7_1.length c15_1_) := (blk_cell Bg12.out 1).trans rfl
  have hfg12_0 := blk_frozen Bg12.out 0
  have hfg12_1 := blk_frozen Bg12.out 1
  have hxg13_0 : w27_.cell? ⟨g13, 0, none⟩ = some (.slice A18_0_ r8_0.length c18_0_) := (blk_cell Bg13.out 0).trans rfl
  have hxg13_1 : w27_.cell? ⟨g13, 1, none⟩ = some (.slice A18_1_ r8_1.length c18_1_) := (blk_cell Bg13.out 1).trans rfl
  have hfg13_0 := blk_frozen Bg13.out 0
  have hfg13_1 := blk_frozen Bg13.out 1
  clear hb
  clear hxg1_0
  clear hfg1_0
  clear hxg2_0
  clear hxg2_1
  clear hfg2_0
  clear hfg2_1
  clear hxg3_0
  clear hxg3_1
  clear hfg3_0
  clear hfg3_1
  clear hxg11_0
  clear hfg11_0
  clear hxg12_0
  clear hxg12_1
  clear hfg12_0
  clear hfg12_1
  clear hxg13_0
  clear hxg13_1
  clear hfg13_0
  clear hfg13_1
  refine hK.out _ _ ⟨(blk_cell Bg12.out 0).trans rfl, (blk_cell Bg12.out 1).trans rfl, (blk_cell Bg2.out 0).trans rfl, (blk_cell Bg2.out 1).trans rfl⟩ (fun hHeld => ?_)
  clear hK K
  refine norm_ (a' := ?_) ?_ ?_
  rotate_left
  · show Act.put _ (some 56) _ = _; simp only [Act.put, List.setIfInBounds_toArray, List.set_cons_zero, List.set_cons_succ, i64_w, i32_w]; rfl
  refine pure_ (i := 4) (N := some 57) (v := ?_) (a' := ?_) #[true,true,true,true,true] rfl rfl (by kernel_rfl) (fun _ _ _ h => h) (Or.inl ⟨by rfl, ?_⟩) ?_ ?_
  rotate_left
  · intro w'; go_simp; with_reducible rfl
  rotate_left
  · simp only [Act.put, List.setIfInBounds_toArray, List.set_cons_zero, List.set_cons_succ, i64_w, i32_w]; rfl
  refine done_ (by kernel_rfl) ?_
  have hxg1_0 : w27_.cell? ⟨g1, 0, none⟩ = some (.slice A0_0 l0_0.length c0_0) := (blk_cell Bg1.out 0).trans rfl
  have hfg1_0 := blk_frozen Bg1.out 0
  have hxg2_0 : w27_.cell? ⟨g2, 0, none⟩ = some (.slice A1_0 l1_0.length c1_0) := (blk_cell Bg2.out 0).trans rfl
  have hxg2_1 : w27_.cell? ⟨g2, 1, none⟩ = some (.slice A1_1 l1_1.length c1_1) := (blk_cell Bg2.out 1).trans rfl
  have hfg2_0 := blk_frozen Bg2.out 0
  have hfg2_1 := blk_frozen Bg2.out 1
  have hxg3_0 : w27_.cell? ⟨g3, 0, none⟩ = some (.slice A2_0 l2_0.length c2_0) := (blk_cell Bg3.out 0).trans rfl
  have hxg3_1 : w27_.cell? ⟨g3, 1, none⟩ = some (.slice A2_1 l2_1.length c2_1) := (blk_cell Bg3.out 1).trans rfl
  have hfg3_0 := blk_frozen Bg3.out 0
  have hfg3_1 := blk_frozen Bg3.out 1
  have hxg11_0 : w27_.cell? ⟨g11, 0, none⟩ = some (.slice A12_0_ r6_0.length c12_0_) := (blk_cell Bg11.out 0).trans rfl
  have hfg11_0 := blk_frozen Bg11.out 0
  have hxg12_0 : w27_.cell? ⟨g12, 0, none⟩ = some (.slice A15_0_ r7_0.length c15_0_) := (blk_cell Bg12.out 0).trans rfl
  have hxg12_1 : w27_.cell? ⟨g12, 1, none⟩ = some (.slice A15_1_ r7_1.length c15_1_) := (blk_cell Bg12.out 1).trans rfl
  have hfg12_0 := blk_frozen Bg12.out 0
  have hfg12_1 := blk_frozen Bg12.out 1
  have hxg13_0 : w27_.cell? ⟨g13, 0, none⟩ = some (.slice A18_0_ r8_0.length c18_0_) := (blk_cell Bg13.out 0).trans rfl
  have hxg13_1 : w27_.cell? ⟨g13, 1, none⟩ = some (.slice A18_1_ r8_1.length c18_1_) := (blk_cell Bg13.out 1).trans rfl
  have hfg13_0 := blk_frozen Bg13.out 0
  have hfg13_1 := blk_frozen Bg13.out 1
  try go_wp2_with fail
  have n_ := Aside0.mk (Kd.R_drew O8_0.out); clear O8_0; have O8_0 := n_; clear n_
  have n_ := Aside0.mk (Kd.R_drew O9_0.out); clear O9_0; have O9_0 := n_; clear n_
  have n_ := Aside0.mk (Kd.S_drew O9_1.out); clear O9_1; have O9_1 := n_; clear n_
  have n_ := Aside0.mk (Kd.R_drew O10_0.out); clear O10_0; have O10_0 := n_; clear n_
  have n_ := Aside0.mk (Kd.S_drew O10_1.out); clear O10_1; have O10_1 := n_; clear n_
  have n_ := Aside0.mk (Kd.R_drew O12_0.out); clear O12_0; have O12_0 := n_; clear n_
  have n_ := Aside0.mk (Kd.R_drew O15_0.out); clear O15_0; have O15_0 := n_; clear n_
  have n_ := Aside0.mk (Kd.S_drew O15_1.out); clear O15_1; have O15_1 := n_; clear n_
  have n_ := Aside0.mk (Kd.R_drew O18_0.out); clear O18_0; have O18_0 := n_; clear n_
  have n_ := Aside0.mk (Kd.S_drew O18_1.out); clear O18_1; have O18_1 := n_; clear n_
  have n_ := Aside0.mk (Kd.R_drew O23_0.out); clear O23_0; have O23_0 := n_; clear n_
  have n_ := Aside0.mk (Kd.R_drew O26_0.out); clear O26_0; have O26_0 := n_; clear n_
  have n_ := Aside0.mk (Kd.S_drew O26_1.out); clear O26_1; have O26_1 := n_; clear n_
  have n_ := Aside0.mk (blk_drew Bg1.out); clear Bg1; have Bg1 := n_; clear n_
  have n_ := Aside0.mk (blk_drew Bg2.out); clear Bg2; have Bg2 := n_; clear n_
  have n_ := Aside0.mk (blk_drew Bg3.out); clear Bg3; have Bg3 := n_; clear n_
  have n_ := Aside0.mk (blk_drew Bg11.out); clear Bg11; have Bg11 := n_; clear n_
  have n_ := Aside0.mk (blk_drew Bg12.out); clear Bg12; have Bg12 := n_; clear n_
  have n_ := Aside0.mk (blk_drew Bg13.out); clear Bg13; have Bg13 := n_; clear n_
  have n_ := Aside0.mk (below_drew1 HB.out); clear HB; have HB := n_; clear n_
  clear hxg1_0
  clear hfg1_0
  clear hxg2_0
  clear hxg2_1
  clear hfg2_0
  clear hfg2_1
  clear hxg3_0
  clear hxg3_1
  clear hfg3_0
  clear hfg3_1
  clear hxg11_0
  clear hfg11_0
  clear hxg12_0
  clear hxg12_1
  clear hfg12_0
  clear hfg12_1
  clear hxg13_0
  clear hxg13_1
  clear hfg13_0
  clear hfg13_1
  have hz := Aside0.mk (show w27_.heap.size ≤ w27_.drew.heap.size from Nat.le_refl _)
  refine start_ (n := 5) (S := fun w' => w'.cell? ⟨g13, 0, none⟩ = some (.slice A18_0_ r8_0.length c18_0_) ∧ w'.cell? ⟨g13, 1, none⟩ = some (.slice A18_1_ r8_1.length c18_1_) ∧ w'.cell? ⟨g3, 0, none⟩ = some (.slice A2_0 l2_0.length c2_0) ∧ w'.cell? ⟨g3, 1, none⟩ = some (.slice A2_1 l2_1.length c2_1)) (ds := []) #[false,false,false,false,false] (by kernel_rfl) rfl rfl ⟨(blk_cell Bg13.out 0).trans rfl, (blk_cell Bg13.out 1).trans rfl, (blk_cell Bg3.out 0).trans rfl, (blk_cell Bg3.out 1).trans rfl⟩ (fun hHeld => ?_)
  generalize w27_.drew = w28_ at O8_0 O9_0 O9_1 O10_0 O10_1 O12_0 O15_0 O15_1 O18_0 O18_1 O23_0 O26_0 O26_1 Bg1 Bg2 Bg3 Bg11 Bg12 Bg13 HB hz hHeld ⊢
  have Z28_ := hz; clear hz
  refine take_ (i := 0) (N := some 58) (v := ?_) (a' := ?_) #[true,false,false,false,false] rfl rfl (by kernel_rfl) (fun _ _ _ h => h) (Or.inl ⟨by rfl, ?_⟩) hHeld ?_ ?_
  rotate_left
  · rintro w' ⟨s0, s1, s2, s3⟩; go_simp; with_reducible rfl
  rotate_left
  · simp only [Act.put, List.setIfInBounds_toArray, List.set_cons_zero, List.set_cons_succ, i64_w, i32_w]; rfl
  refine take_ (i := 1) (N := some 59) (v := ?_) (a' := ?_) #[true,true,false,false,false] rfl rfl (by kernel_rfl) (fun _ _ _ h => h) (Or.inl ⟨by rfl, ?_⟩) hHeld ?_ ?_
  rotate_left
  · rintro w' ⟨s0, s1, s2, s3⟩; go_simp; with_reducible rfl
  rotate_left
  · simp only [Act.put, List.setIfInBounds_toArray, List.set_cons_zero, List.set_cons_succ, i64_w, i32_w]; rfl
  refine one_ (i := 2) (N := some 60) #[true,true,true,false,false] rfl rfl (by kernel_rfl) (by decide) (fun K hK => ?_)
  refine goes_ Try.func32 (by kernel_rfl) rfl #[.agg #[.slice A2_0 l2_0.length c2_0, .slice A2_1 l2_1.length c2_1]] (by rfl) rfl rfl (by (try simp only [List.map_toArray, List.map_cons, List.map_nil]); first | done | rfl) ?_
  with_reducible refine (laws_toQuery.calls ke8 _ _ l2_0 _ _ l2_1 r8_0 r8_1 _ (Kd.C_below H2_0.out HB.out) HC2_0.out (Kd.C_below H2_1.out HB.out) HC2_1.out Ee8.out).mono ?_
  rintro e w29_ ⟨v29_0_, v29_1_, rfl, ho0, ho1, hb⟩
  refine ⟨_, rfl, ?_⟩
  have O29_0 := Aside0.mk (newR ho0 HB.out.size)
  have O29_1 := Aside0.mk (newS ho1 HB.out.size)
  have Z29_ := Aside0.mk (show w28_.heap.size ≤ w29_.heap.size from hb.size)
  have n_ := Aside0.mk (Kd.R_below O8_0.out hb); clear O8_0; have O8_0 := n_; clear n_
  have n_ := Aside0.mk (Kd.R_below O9_0.out hb); clear O9_0; have O9_0 := n_; clear n_
  have n_ := Aside0.mk (Kd.S_below O9_1.out hb); clear O9_1; have O9_1 := n_; clear n_
  have n_ := Aside0.mk (Kd.R_below O10_0.out hb); clear O10_0; have O10_0 := n_; clear n_
  have n_ := Aside0.mk (Kd.S_below O10_1.out hb); clear O10_1; have O10_1 := n_; clear n_
  have n_ := Aside0.mk (Kd.R_below O12_0.out hb); clear O12_0; have O12_0 := n_; clear n_
  have n_ := Aside0.mk (Kd.R_below O15_0.out hb); clear O15_0; have O15_0 := n_; clear n_
  have n_ := Aside0.mk (Kd.S_below O15_1.out hb); clear O15_1; have O15_1 := n_; clear n_
  have n_ := Aside0.mk (Kd.R_below O18_0.out hb); clear O18_0; have O18_0 := n_; clear n_
  have n_ := Aside0.mk (Kd.S_below O18_1.out hb); clear O18_1; have O18_1 := n_; clear n_
  have n_ := Aside0.mk (Kd.R_below O23_0.out hb); clear O23_0; have O23_0 := n_; clear n_
  have n_ := Aside0.mk (Kd.R_below O26_0.out hb); clear O26_0; have O26_0 := n_; clear n_
  have n_ := Aside0.mk (Kd.S_below O26_1.out hb); clear O26_1; have O26_1 := n_; clear n_
  have n_ := Aside0.mk (blk_below Bg1.out hb); clear Bg1; have Bg1 := n_; clear n_
  have n_ := Aside0.mk (blk_below Bg2.out hb); clear Bg2; have Bg2 := n_; clear n_
  have n_ := Aside0.mk (blk_below Bg3.out hb); clear Bg3; have Bg3 := n_; clear n_
  have n_ := Aside0.mk (blk_below Bg11.out hb); clear Bg11; have Bg11 := n_; clear n_
  have n_ := Aside0.mk (blk_below Bg12.out hb); clear Bg12; have Bg12 := n_; clear n_
  have n_ := Aside0.mk (blk_below Bg13.out hb); clear Bg13; have Bg13 := n_; clear n_
  have n_ := Aside0.mk (below_step HB.out hb); clear HB; have HB := n_; clear n_
  have hxg1_0 : w29_.cell? ⟨g1, 0, none⟩ = some (.slice A0_0 l0_0.length c0_0) := (blk_cell Bg1.out 0).trans rfl
  have hfg1_0 := blk_frozen Bg1.out 0
  have hxg2_0 : w29_.cell? ⟨g2, 0, none⟩ = some (.slice A1_0 l1_0.length c1_0) := (blk_cell Bg2.out 0).trans rfl
  have hxg2_1 : w29_.cell? ⟨g2, 1, none⟩ = some (.slice A1_1 l1_1.length c1_1) := (blk_cell Bg2.out 1).trans rfl
  have hfg2_0 := blk_frozen Bg2.out 0
  have hfg2_1 := blk_frozen Bg2.out 1
  have hxg3_0 : w29_.cell? ⟨g3, 0, none⟩ = some (.slice A2_0 l2_0.length c2_0) := (blk_cell Bg3.out 0).trans rfl
  have hxg3_1 : w29_.cell? ⟨g3, 1, none⟩ = some (.slice A2_1 l2_1.length c2_1) := (blk_cell Bg3.out 1).trans rfl
  have hfg3_0 := blk_frozen Bg3.out 0
  have hfg3_1 := blk_frozen Bg3.out 1
  have hxg11_0 : w29_.cell? ⟨g11, 0, none⟩ = some (.slice A12_0_ r6_0.length c12_0_) := (blk_cell Bg11.out 0).trans rfl
  have hfg11_0 := blk_frozen Bg11.out 0
  have hxg12_0 : w29_.cell? ⟨g12, 0, none⟩ = some (.slice A15_0_ r7_0.length c15_0_) := (blk_cell Bg12.out 0).trans rfl
  have hxg12_1 : w29_.cell? ⟨g12, 1, none⟩ = some (.slice A15_1_ r7_1.length c15_1_) := (blk_cell Bg12.out 1).trans rfl
  have hfg12_0 := blk_frozen Bg12.out 0
  have hfg12_1 := blk_frozen Bg12.out 1
  have hxg13_0 : w29_.cell? ⟨g13, 0, none⟩ = some (.slice A18_0_ r8_0.length c18_0_) := (blk_cell Bg13.out 0).trans rfl
  have hxg13_1 : w29_.cell? ⟨g13, 1, none⟩ = some (.slice A18_1_ r8_1.length c18_1_) := (blk_cell Bg13.out 1).trans rfl
  have hfg13_0 := blk_frozen Bg13.out 0
  have hfg13_1 := blk_frozen Bg13.out 1
  clear hb ho0 ho1
  obtain ⟨A29_0_, c29_0_, eq_⟩ := Kd.R_slice O29_0.out
  subst eq_
  obtain ⟨A29_1_, c29_1_, eq_⟩ := Kd.S_slice O29_1.out
  subst eq_
  clear hxg1_0
  clear hfg1_0
  clear hxg2_0
  clear hxg2_1
  clear hfg2_0
  clear hfg2_1
  clear hxg3_0
  clear hxg3_1
  clear hfg3_0
  clear hfg3_1
  clear hxg11_0
  clear hfg11_0
  clear hxg12_0
  clear hxg12_1
  clear hfg12_0
  clear hfg12_1
  clear hxg13_0
  clear hxg13_1
  clear hfg13_0
  clear hfg13_1
  refine hK.out _ _ ⟨(blk_cell Bg13.out 0).trans rfl, (blk_cell Bg13.out 1).trans rfl, (blk_cell Bg3.out 0).trans rfl, (blk_cell Bg3.out 1).trans rfl⟩ (fun hHeld => ?_)
  clear hK K
  refine norm_ (a' := ?_) ?_ ?_
  rotate_left
  · show Act.put _ (some 60) _ = _; simp only [Act.put, List.setIfInBounds_toArray, List.set_cons_zero, List.set_cons_succ, i64_w, i32_w]; rfl
  refine one_ (i := 3) (N := some 61) #[true,true,true,true,false] rfl rfl (by kernel_rfl) (by decide) (fun K hK => ?_)
  refine goes_ Try.func34 (by kernel_rfl) rfl #[.agg #[.slice A18_0_ r8_0.length c18_0_, .slice A18_1_ r8_1.length c18_1_], .agg #[.slice A29_0_ r8_0.length c29_0_, .slice A29_1_ r8_1.length c29_1_]] (by rfl) rfl rfl (by (try simp only [List.map_toArray, List.map_cons, List.map_nil]); first | done | rfl) ?_
  with_reducible refine (laws_eqQuery.calls ke13 _ _ r8_0 _ _ r8_1 _ _ r8_0 _ _ r8_1 true _ (Kd.R_reads' O18_0.out).2.2 (Kd.R_reads' O18_0.out).2.1 (Kd.S_reads' O18_1.out).2.2 (Kd.S_reads' O18_1.out).2.1 (Kd.R_reads' O29_0.out).2.2 (Kd.R_reads' O29_0.out).2.1 (Kd.S_reads' O29_1.out).2.2 (Kd.S_reads' O29_1.out).2.1 Ee13.out).mono ?_
  rintro e w30_ ⟨rfl, hb⟩
  refine ⟨_, rfl, ?_⟩
  have Z30_ := Aside0.mk (show w29_.heap.size ≤ w30_.heap.size from hb.size)
  have n_ := Aside0.mk (Kd.R_below O8_0.out hb); clear O8_0; have O8_0 := n_; clear n_
  have n_ := Aside0.mk (Kd.R_below O9_0.out hb); clear O9_0; have O9_0 := n_; clear n_
  have n_ := Aside0.mk (Kd.S_below O9_1.out hb); clear O9_1; have O9_1 := n_; clear n_
  have n_ := Aside0.mk (Kd.R_below O10_0.out hb); clear O10_0; have O10_0 := n_; clear n_
  have n_ := Aside0.mk (Kd.S_below O10_1.out hb); clear O10_1; have O10_1 := n_; clear n_
  have n_ := Aside0.mk (Kd.R_below O12_0.out hb); clear O12_0; have O12_0 := n_; clear n_
  have n_ := Aside0.mk (Kd.R_below O15_0.out hb); clear O15_0; have O15_0 := n_; clear n_
  have n_ := Aside0.mk (Kd.S_below O15_1.out hb); clear O15_1; have O15_1 := n_; clear n_
  have n_ := Aside0.mk (Kd.R_below O18_0.out hb); clear O18_0; have O18_0 := n_; clear n_
  have n_ := Aside0.mk (Kd.S_below O18_1.out hb); clear O18_1; have O18_1 := n_; clear n_
  have n_ := Aside0.mk (Kd.R_below O23_0.out hb); clear O23_0; have O23_0 := n_; clear n_
  have n_ := Aside0.mk (Kd.R_below O26_0.out hb); clear O26_0; have O26_0 := n_; clear n_
  have n_ := Aside0.mk (Kd.S_below O26_1.out hb); clear O26_1; have O26_1 := n_; clear n_
  have n_ := Aside0.mk (Kd.R_below O29_0.out hb); clear O29_0; have O29_0 := n_; clear n_
  have n_ := Aside0.mk (Kd.S_below O29_1.out hb); clear O29_1; have O29_1 := n_; clear n_
  have n_ := Aside0.mk (blk_below Bg1.out hb); clear Bg1; have Bg1 := n_; clear n_
  have n_ := Aside0.mk (blk_below Bg2.out hb); clear Bg2; have Bg2 := n_; clear n_
  have n_ := Aside0.mk (blk_below Bg3.out hb); clear Bg3; have Bg3 := n_; clear n_
  have n_ := Aside0.mk (blk_below Bg11.out hb); clear Bg11; have Bg11 := n_; clear n_
  have n_ := Aside0.mk (blk_below Bg12.out hb); clear Bg12; have Bg12 := n_; clear n_
  have n_ := Aside0.mk (blk_below Bg13.out hb); clear Bg13; have Bg13 := n_; clear n_
  have n_ := Aside0.mk (below_step HB.out hb); clear HB; have HB := n_; clear n_
  have hxg1_0 : w30_.cell? ⟨g1, 0, none⟩ = some (.slice A0_0 l0_0.length c0_0) := (blk_cell Bg1.out 0).trans rfl
  have hfg1_0 := blk_frozen Bg1.out 0
  have hxg2_0 : w30_.cell? ⟨g2, 0, none⟩ = some (.slice A1_0 l1_0.length c1_0) := (blk_cell Bg2.out 0).trans rfl
  have hxg2_1 : w30_.cell? ⟨g2, 1, none⟩ = some (.slice A1_1 l1_1.length c1_1) := (blk_cell Bg2.out 1).trans rfl
  have hfg2_0 := blk_frozen Bg2.out 0
  have hfg2_1 := blk_frozen Bg2.out 1
  have hxg3_0 : w30_.cell? ⟨g3, 0, none⟩ = some (.slice A2_0 l2_0.length c2_0) := (blk_cell Bg3.out 0).trans rfl
  have hxg3_1 : w30_.cell? ⟨g3, 1, none⟩ = some (.slice A2_1 l2_1.length c2_1) := (blk_cell Bg3.out 1).trans rfl
  have hfg3_0 := blk_frozen Bg3.out 0
  have hfg3_1 := blk_frozen Bg3.out 1
  have hxg11_0 : w30_.cell? ⟨g11, 0, none⟩ = some (.slice A12_0_ r6_0.length c12_0_) := (blk_cell Bg11.out 0).trans rfl
  have hfg11_0 := blk_frozen Bg11.out 0
  have hxg12_0 : w30_.cell? ⟨g12, 0, none⟩ = some (.slice A15_0_ r7_0.length c15_0_) := (blk_cell Bg12.out 0).trans rfl
  have hxg12_1 : w30_.cell? ⟨g12, 1, none⟩ = some (.slice A15_1_ r7_1.length c15_1_) := (blk_cell Bg12.out 1).trans rfl
  have hfg12_0 := blk_frozen Bg12.out 0
  have hfg12_1 := blk_frozen Bg12.out 1
  have hxg13_0 : w30_.cell? ⟨g13, 0, none⟩ = some (.slice A18_0_ r8_0.length c18_0_) := (blk_cell Bg13.out 0).trans rfl
  have hxg13_1 : w30_.cell? ⟨g13, 1, none⟩ = some (.slice A18_1_ r8_1.length c18_1_) := (blk_cell Bg13.out 1).trans rfl
  have hfg13_0 := blk_frozen Bg13.out 0
  have hfg13_1 := blk_frozen Bg13.out 1
  clear hb
  clear hxg1_0
  clear hfg1_0
  clear hxg2_0
  clear hxg2_1
  clear hfg2_0
  clear hfg2_1
  clear hxg3_0
  clear hxg3_1
  clear hfg3_0
  clear hfg3_1
  clear hxg11_0
  clear hfg11_0
  clear hxg12_0
  clear hxg12_1
  clear hfg12_0
  clear hfg12_1
  clear hxg13_0
  clear hxg13_1
  clear hfg13_0
  clear hfg13_1
  refine hK.out _ _ ⟨(blk_cell Bg13.out 0).trans rfl, (blk_cell Bg13.out 1).trans rfl, (blk_cell Bg3.out 0).trans rfl, (blk_cell Bg3.out 1).trans rfl⟩ (fun hHeld => ?_)
  clear hK K
  refine norm_ (a' := ?_) ?_ ?_
  rotate_left
  · show Act.put _ (some 61) _ = _; simp only [Act.put, List.setIfInBounds_toArray, List.set_cons_zero, List.set_cons_succ, i64_w, i32_w]; rfl
  refine pure_ (i := 4) (N := some 62) (v := ?_) (a' := ?_) #[true,true,true,true,true] rfl rfl (by kernel_rfl) (fun _ _ _ h => h) (Or.inl ⟨by rfl, ?_⟩) ?_ ?_
  rotate_left
  · intro w'; go_simp; with_reducible rfl
  rotate_left
  · simp only [Act.put, List.setIfInBounds_toArray, List.set_cons_zero, List.set_cons_succ, i64_w, i32_w]; rfl
  refine done_ (by kernel_rfl) ?_
  have hxg1_0 : w30_.cell? ⟨g1, 0, none⟩ = some (.slice A0_0 l0_0.length c0_0) := (blk_cell Bg1.out 0).trans rfl
  have hfg1_0 := blk_frozen Bg1.out 0
  have hxg2_0 : w30_.cell? ⟨g2, 0, none⟩ = some (.slice A1_0 l1_0.length c1_0) := (blk_cell Bg2.out 0).trans rfl
  have hxg2_1 : w30_.cell? ⟨g2, 1, none⟩ = some (.slice A1_1 l1_1.length c1_1) := (blk_cell Bg2.out 1).trans rfl
  have hfg2_0 := blk_frozen Bg2.out 0
  have hfg2_1 := blk_frozen Bg2.out 1
  have hxg3_0 : w30_.cell? ⟨g3, 0, none⟩ = some (.slice A2_0 l2_0.length c2_0) := (blk_cell Bg3.out 0).trans rfl
  have hxg3_1 : w30_.cell? ⟨g3, 1, none⟩ = some (.slice A2_1 l2_1.length c2_1) := (blk_cell Bg3.out 1).trans rfl
  have hfg3_0 := blk_frozen Bg3.out 0
  have hfg3_1 := blk_frozen Bg3.out 1
  have hxg11_0 : w30_.cell? ⟨g11, 0, none⟩ = some (.slice A12_0_ r6_0.length c12_0_) := (blk_cell Bg11.out 0).trans rfl
  have hfg11_0 := blk_frozen Bg11.out 0
  have hxg12_0 : w30_.cell? ⟨g12, 0, none⟩ = some (.slice A15_0_ r7_0.length c15_0_) := (blk_cell Bg12.out 0).trans rfl
  have hxg12_1 : w30_.cell? ⟨g12, 1, none⟩ = some (.slice A15_1_ r7_1.length c15_1_) := (blk_cell Bg12.out 1).trans rfl
  have hfg12_0 := blk_frozen Bg12.out 0
  have hfg12_1 := blk_frozen Bg12.out 1
  have hxg13_0 : w30_.cell? ⟨g13, 0, none⟩ = some (.slice A18_0_ r8_0.length c18_0_) := (blk_cell Bg13.out 0).trans rfl
  have hxg13_1 : w30_.cell? ⟨g13, 1, none⟩ = some (.slice A18_1_ r8_1.length c18_1_) := (blk_cell Bg13.out 1).trans rfl
  have hfg13_0 := blk_frozen Bg13.out 0
  have hfg13_1 := blk_frozen Bg13.out 1
  go_wp2
  go_ret
  exact ⟨rfl, HB.out⟩
theorem FnExactIsEquivalent_calls (A0_0 : Option Addr) (c0_0 : Nat) (l0_0 : List Int) (A1_0 : Option Addr) (c1_0 : Nat) (l1_0 : List Int) (A1_1 : Option Addr) (c1_1 : Nat) (l1_1 : List S124) (A2_0 : Option Addr) (c2_0 : Nat) (l2_0 : List Int) (A2_1 : Option Addr) (c2_1 : Nat) (l2_1 : List S124) (w : World) (hr0_0 : Kd.C (Kd.int .i64) w A0_0 l0_0.length l0_0) (hc0_0 : l0_0.length ≤ c0_0) (hr1_0 : Kd.C (Kd.int .i64) w A1_0 l1_0.length l1_0) (hc1_0 : l1_0.length ≤ c1_0) (hr1_1 : Kd.C k124 w A1_1 l1_1.length l1_1) (hc1_1 : l1_1.length ≤ c1_1) (hr2_0 : Kd.C (Kd.int .i64) w A2_0 l2_0.length l2_0) (hc2_0 : l2_0.length ≤ c2_0) (hr2_1 : Kd.C k124 w A2_1 l2_1.length l2_1) (hc2_1 : l2_1.length ≤ c2_1)
    (w0 : (WfL WfI) l0_0) (w1 : (WfL WfI) l1_0 ∧ (WfL (fun x : S124 => WfI x.f0 ∧ (WfL WfI) x.f1)) l1_1) (w2 : (WfL WfI) l2_0 ∧ (WfL (fun x : S124 => WfI x.f0 ∧ (WfL WfI) x.f1)) l2_1) :
    Calls Try.prog 11 #[.agg #[.slice A0_0 l0_0.length c0_0], .agg #[.slice A1_0 l1_0.length c1_0, .slice A1_1 l1_1.length c1_1], .agg #[.slice A2_0 l2_0.length c2_0, .slice A2_1 l2_1.length c2_1]] w fun e w' => e = .returned (.bool true) ∧ Below w.heap.size w w' := by
  obtain ⟨t0, z0, c0⟩ := szSchema_ok l0_0 1048576 w0 (by omega) (by omega)
  obtain ⟨_, z0⟩ := z0.rounds
  rcases c0 with c0 | ⟨p0, q0, hs0⟩
  · exact laws_FnExactIsEquivalent_out0 _ _ _ _ _ _ _ _ _ _ _ _ _ _ _ w hr0_0 hc0_0 hr1_0 hc1_0 hr1_1 hc1_1 hr2_0 hc2_0 hr2_1 hc2_1 _ z0 c0
  obtain ⟨t1, z1, c1⟩ := szQuery_ok l1_0 l1_1 t0 w1 (by omega) (by omega)
  rcases c1 with c1 | ⟨p1, q1, hs1⟩
  · exact laws_FnExactIsEquivalent_out1 _ _ _ _ _ _ _ _ _ _ _ _ _ _ _ w hr0_0 hc0_0 hr1_0 hc1_0 hr1_1 hc1_1 hr2_0 hc2_0 hr2_1 hc2_1 _ _ z0 (by omega) z1.rounds c1
  obtain ⟨t2, z2, c2⟩ := szQuery_ok l2_0 l2_1 t1 w2 (by omega) (by omega)
  rcases c2 with c2 | ⟨p2, q2, hs2⟩
  · exact laws_FnExactIsEquivalent_out2 _ _ _ _ _ _ _ _ _ _ _ _ _ _ _ w hr0_0 hc0_0 hr1_0 hc1_0 hr1_1 hc1_1 hr2_0 hc2_0 hr2_1 hc2_1 _ _ _ z0 (by omega) z1.rounds (by omega) z2.rounds c2
  have d1 : (l1_1.map cvA).length ≤ 1048576 := by simpa using hs1.2.1
  have s1 := cvA_small hs1.2.2
  have d2 : (l2_1.map cvA).length ≤ 1048576 := by simpa using hs2.2.1
  have s2 := cvA_small hs2.2.2
  exact laws_FnExactIsEquivalent_walk _ _ _ _ _ _ _ _ _ _ _ _ _ _ _ w hr0_0 hc0_0 hr1_0 hc1_0 hr1_1 hc1_1 hr2_0 hc2_0 hr2_1 hc2_1 _ _ _ _ _ _ _ _ ((mFindQ l0_0 l2_0 (l2_1.map cvA) l1_0 (l1_1.map cvA)).2 && (mFindQ l0_0 l1_0 (l1_1.map cvA) l2_0 (l2_1.map cvA)).2) z0 (by omega) z1.rounds (by omega) z2.rounds (by omega)
    (toSchema_ev l0_0 (by omega)).rounds (toQuery_ev l1_0 l1_1 hs1.1 hs1.2.1 hs1.2.2).rounds (toQuery_ev l2_0 l2_1 hs2.1 hs2.2.1 hs2.2.2).rounds
    rfl ⟨⟨by omega, hs1.1, d1, hs2.1, d2⟩, s1, s2⟩ rfl ⟨⟨by omega, hs1.1, d1, hs2.1, d2⟩, s1, s2⟩
    (by have e := eqSchema_ev l0_0 l0_0 (by omega); rw [decide_eq_true rfl] at e; exact e.rounds) (eqQuery_ev _ _ hs1.1 d1 s1).rounds (eqQuery_ev _ _ hs2.1 d2 s2).rounds


end Go.Proofs.Ytanbgnjfllpkgaa.Hand
