/- Walks through the Go functions that FnExactAnswers reaches: each call returns what the Lean function beside it says, within the bounds that the theorem names. -/
import Derived.Test.YtfelabhakgcifaaGreatQFnExactAnswersx0
import Derived.Test.YtfelabhakgcifaaGreatQFnExactAnswersx12
namespace Go.Proofs.YtfelabhakgcifaaGreat.QFnExactAnswers
open Go.RowKit Go.Proofs.YtfelabhakgcifaaGreatW.PrintWords Go.Proofs.YtfelabhakgcifaaGreatW.PrintLast Go.Proofs.YtfelabhakgcifaaGreatW.PrintMore
attribute [local go_sem] max2_int min2_int max_two min_two max_three min_three max_four min_four   -- for this text's walks alone
set_option linter.unusedVariables false
set_option linter.unusedSimpArgs false


/-! ### impl_Query_occurs: function 80 -/
def impl_Query_occurs.l0 : Nat → Int → List (S81) → Int → Int → Option (Bool)
 | 0, _, _, _, _ => none
 | k + 1, x1, x8, x9, x10 => if x10 < x9 then (if 0 ≤ x10 then (if x10 < (x8.length : Int) then ((slices_Contains_int_int.f k ((rd_T81 x8 x10).f1) x1).bind fun t340 => (if t340 = true then (some true) else (impl_Query_occurs.l0 k x1 x8 x9 (wrap64 (x10 + 1))))) else (none)) else (none)) else (some false)
def impl_Query_occurs.f (k : Nat) (l0_0 : List Int) (l0_1 : List (S81)) (a1 : Int) : Option (Bool) := impl_Query_occurs.l0 k a1 l0_1 (l0_1.length : Int) 0
set_option maxHeartbeats 8000000 in
set_option maxRecDepth 100000 in
theorem impl_Query_occurs.calls (k : Nat) (A0_0 : Option Addr) (c0_0 : Nat) (l0_0 : List Int) (A0_1 : Option Addr) (c0_1 : Nat) (l0_1 : List (S81)) (a1 : Int) (r : Bool) (w : World) (hr0_0 : Kd.C (Kd.int .i64) w A0_0 l0_0.length l0_0) (hc0_0 : l0_0.length ≤ c0_0) (hr0_1 : Kd.C k81 w A0_1 l0_1.length l0_1) (hc0_1 : l0_1.length ≤ c0_1) (h : impl_Query_occurs.f k l0_0 l0_1 a1 = some r) :
  Calls Tryz.prog 80 #[.agg #[.slice A0_0 l0_0.length c0_0, .slice A0_1 l0_1.length c0_1], .int .i64 a1] w fun e w' => e = .returned (.bool r) ∧ Below w.heap.size w w' := by
 have hu38:=Tryz.underlying38;have hu81:=Tryz.underlying81;have HR0_0:=zA hr0_0;have HC0_0:=zA hc0_0;clear hr0_0 hc0_0;have HR0_1:=zA hr0_1;have HC0_1:=zA hc0_1;clear hr0_1 hc0_1;have HB:=zA (Below.refl w.heap.size w)
 have H : (impl_Query_occurs.l0 k a1 l0_1 (l0_1.length : Int) 0) = some r:=h
 clear h
 have H':=zA H
 clear H
 go_enter Tryz.func80,Tryz.ntmps80
 go_wp2_with (first|((with_reducible refine gate_dst (N:=2) rfl ?_);refine box_event ?hg (N:=2) ?hd (cs:=#[.slice A0_0 l0_0.length c0_0,.slice A0_1 l0_1.length c0_1]) (t:=38) ?hr ?_;(case hd => rfl);(case hg => rfl);(case hr => first|(go_simp;done)|(go_simp;rfl));intro gb337 hg w3 hbox hb;have BK337:=zA (hbox);have GW337:=zA ((by rw [hg];exact (zT (zz HB)) : w.heap.size ≤ gb337));have GE337:=zA ((by rw [hg];exact (zT (zz HB)) : w.heap.size ≤ gb337));replace HB:=zA (zJb (zz HB) hb);clear hb hbox hg;have hcz4_0:=zc (.slice A0_0 l0_0.length c0_0) BK337 0 rfl;have hcz4_1:=zc (.slice A0_1 l0_1.length c0_1) BK337 1 rfl;have hfz4_0:=blk_frozen BK337.out 0;have hfz4_1:=blk_frozen BK337.out 1))
 go_loopg [10] k (fun kq v10 w' => ∃ (x10_1 : Int),v10 = .int .i64 x10_1 ∧ Aside0 (impl_Query_occurs.l0 kq a1 l0_1 (l0_1.length : Int) x10_1 = some r) ∧ Aside0 (kq ≤ k) ∧ Aside0 (w'.heap[gb337]? = some (.cells #[(.slice A0_0 l0_0.length c0_0),(.slice A0_1 l0_1.length c0_1)] 38 (0,0))) ∧ Aside0 (Below w.heap.size w w'))
 case atStart => exact ⟨(0),za,H',⟨Nat.le_refl _⟩,⟨zx BK337⟩,⟨zz HB⟩⟩
 case round =>
  clear H';(try clear p2);(try clear hcz4_0);(try clear hcz4_1);(try clear hfz4_0);(try clear hfz4_1);obtain ⟨x10_1,rfl,HA,HK1,BK337,HB⟩:=hrel
  cases gk with
  | zero => exact absurd HA.out (by simp [impl_Query_occurs.l0])
  | succ k1 =>
   have H:=HA.out;clear HA;simp only [impl_Query_occurs.l0] at H
   by_cases c5 : x10_1 < (l0_1.length : Int)
   ·
    rw [if_pos c5] at H;have c5b0:=decide_eq_true c5;clear c5
    by_cases c6 : 0 ≤ x10_1
    ·
     rw [if_pos c6] at H;have c6b0:=decide_eq_true c6;clear c6
     by_cases c7 : x10_1 < (l0_1.length : Int)
     ·
      rw [if_pos c7] at H;have c7b0:=decide_eq_true c7;clear c7;replace H:=Option.bind_eq_some_iff.mp H;obtain ⟨t340,A80,H⟩:=H;(try dsimp only at H);have A8:=zA A80;clear A80
      by_cases c9 : t340 = true
      ·
       subst c9
       rw [if_pos rfl] at H
       obtain rfl:=Option.some.inj H
       have p338 : 0 ≤ (x10_1 : Int):=zXb ze;have q338 : x10_1 < (l0_1.length : Int):=zXb ze;obtain ⟨ad338,A338_1,c338_1,e338,hx338_0,hx338_1,hl338_1,hi338_1⟩:=at_T81 HR0_1.out x10_1 p338 q338
       cases e338
       replace hx338_0:=(HB.out.cell (World.block_lt_of_cell? w _ hx338_0)).trans hx338_0;replace hx338_1:=(HB.out.cell (World.block_lt_of_cell? w _ hx338_1)).trans hx338_1;have HR338_1:=zA hi338_1;have HC338_1:=zA hl338_1;clear hi338_1 hl338_1;replace p338:=eq_true p338;replace q338:=eq_true q338
       go_wp2_with (first|((with_reducible refine gate_dst (N:=6) rfl ?_);refine box_event ?hg (N:=6) ?hd (cs:=#[.int .i64 0,.slice none 0 0]) (t:=81) ?hr ?_;(case hd => rfl);(case hg => rfl);(case hr => first|(go_simp;done)|(go_simp;rfl));intro gb339 hg w10 hbox hb;have BK339:=zA (hbox);have GW339:=zA ((by rw [hg];exact (zT (zz HB)) : w.heap.size ≤ gb339));have GE339:=zA ((by rw [hg];exact (zT (zz HB)) : w.heap.size ≤ gb339));replace HB:=zA (zJb (zz HB) hb);have NB337_339:=zA ((by rw [hg];exact Nat.ne_of_lt (blk_lt (g:=gb337) (o:=.cells #[.slice A0_0 l0_0.length c0_0,.slice (some ad338) l0_1.length c0_1] 38 (0,0)) (zx BK337)) : gb337 ≠ gb339));have NB339_337:=zA ((by rw [hg];exact Nat.ne_of_gt (blk_lt (g:=gb337) (o:=.cells #[.slice A0_0 l0_0.length c0_0,.slice (some ad338) l0_1.length c0_1] 38 (0,0)) (zx BK337)) : gb339 ≠ gb337));replace BK337:=zA (zQ (g:=gb337) (o:=.cells #[.slice A0_0 l0_0.length c0_0,.slice (some ad338) l0_1.length c0_1] 38 (0,0)) (zx BK337) hb);clear hb hbox hg;have hnb11:=NB339_337.out;have hnc11:=NB337_339.out;have hcz12_0:=zc (.int .i64 0) BK339 0 rfl;have hcz12_1:=zc (.slice none 0 0) BK339 1 rfl;have hfz12_0:=blk_frozen BK339.out 0;have hfz12_1:=blk_frozen BK339.out 1)|((with_reducible refine gate_callee (f:=94) rfl ?_);refine goesL_ (some 17) rfl rfl Tryz.func94 (by kernel_rfl) rfl #[.slice A338_1 ((rd_T81 l0_1 x10_1).f1).length c338_1,.int .i64 a1] rfl (by (try simp only [zCb,zMb,zNb]);first|done|rfl|(simp only [zLb,zDb];rfl)) ?_;(with_reducible refine (slices_Contains_int_int.calls k1 _ _ ((rd_T81 l0_1 x10_1).f1) a1 true _ ?side1 ?side2 A8.out).mono ?_);(case side1 => exact zKb HR338_1.out (zz HB));(case side2 => exact HC338_1.out);rintro e w' ⟨rfl,⟨nd,rfl⟩⟩;refine ⟨_,rfl,?_⟩))
       go_ret
       exact ⟨by first|rfl|(simp [errW_none,errW_some] <;> rfl)|(simp [*,errW_none,errW_some] <;> rfl),zz HB⟩
      ·
       replace c9:=Bool.eq_false_iff.mpr c9
       subst c9
       have H1 : (impl_Query_occurs.l0 k1 a1 l0_1 (l0_1.length : Int) (wrap64 (x10_1 + 1))) = some r:=by rw [if_neg (show ¬ (false = true) by decide)] at H;exact H
       clear H;have H:=H1;clear H1
       have H':=zA H
       clear H;have p338 : 0 ≤ (x10_1 : Int):=zXb ze;have q338 : x10_1 < (l0_1.length : Int):=zXb ze;obtain ⟨ad338,A338_1,c338_1,e338,hx338_0,hx338_1,hl338_1,hi338_1⟩:=at_T81 HR0_1.out x10_1 p338 q338
       cases e338
       replace hx338_0:=(HB.out.cell (World.block_lt_of_cell? w _ hx338_0)).trans hx338_0;replace hx338_1:=(HB.out.cell (World.block_lt_of_cell? w _ hx338_1)).trans hx338_1;have HR338_1:=zA hi338_1;have HC338_1:=zA hl338_1;clear hi338_1 hl338_1;replace p338:=eq_true p338;replace q338:=eq_true q338
       go_wp2_with (first|((with_reducible refine gate_dst (N:=6) rfl ?_);refine box_event ?hg (N:=6) ?hd (cs:=#[.int .i64 0,.slice none 0 0]) (t:=81) ?hr ?_;(case hd => rfl);(case hg => rfl);(case hr => first|(go_simp;done)|(go_simp;rfl));intro gb339 hg w13 hbox hb;have BK339:=zA (hbox);have GW339:=zA ((by rw [hg];exact (zT (zz HB)) : w.heap.size ≤ gb339));have GE339:=zA ((by rw [hg];exact (zT (zz HB)) : w.heap.size ≤ gb339));replace HB:=zA (zJb (zz HB) hb);have NB337_339:=zA ((by rw [hg];exact Nat.ne_of_lt (blk_lt (g:=gb337) (o:=.cells #[.slice A0_0 l0_0.length c0_0,.slice (some ad338) l0_1.length c0_1] 38 (0,0)) (zx BK337)) : gb337 ≠ gb339));have NB339_337:=zA ((by rw [hg];exact Nat.ne_of_gt (blk_lt (g:=gb337) (o:=.cells #[.slice A0_0 l0_0.length c0_0,.slice (some ad338) l0_1.length c0_1] 38 (0,0)) (zx BK337)) : gb339 ≠ gb337));replace BK337:=zA (zQ (g:=gb337) (o:=.cells #[.slice A0_0 l0_0.length c0_0,.slice (some ad338) l0_1.length c0_1] 38 (0,0)) (zx BK337) hb);clear hb hbox hg;have hnb14:=NB339_337.out;have hnc14:=NB337_339.out;have hcz15_0:=zc (.int .i64 0) BK339 0 rfl;have hcz15_1:=zc (.slice none 0 0) BK339 1 rfl;have hfz15_0:=blk_frozen BK339.out 0;have hfz15_1:=blk_frozen BK339.out 1)|((with_reducible refine gate_callee (f:=94) rfl ?_);refine goesL_ (some 17) rfl rfl Tryz.func94 (by kernel_rfl) rfl #[.slice A338_1 ((rd_T81 l0_1 x10_1).f1).length c338_1,.int .i64 a1] rfl (by (try simp only [zCb,zMb,zNb]);first|done|rfl|(simp only [zLb,zDb];rfl)) ?_;(with_reducible refine (slices_Contains_int_int.calls k1 _ _ ((rd_T81 l0_1 x10_1).f1) a1 false _ ?side1 ?side2 A8.out).mono ?_);(case side1 => exact zKb HR338_1.out (zz HB));(case side2 => exact HC338_1.out);rintro e w' ⟨rfl,⟨nd,rfl⟩⟩;refine ⟨_,rfl,?_⟩))
       go_roundg k1
       case measure => have:=HK1.out;omega
       case rel => exact ⟨(wrap64 (x10_1 + 1)),za,H',⟨by have:=HK1.out;omega⟩,⟨by (with_reducible repeat (first|refine zF ?_ _|refine zI ?_|refine zG ?_ _));refine zUb ?_ NB337_339.out _;(with_reducible repeat (first|refine zF ?_ _|refine zI ?_|refine zG ?_ _));refine zUb ?_ NB337_339.out _;(with_reducible repeat (first|refine zF ?_ _|refine zI ?_|refine zG ?_ _));exact BK337.out⟩,⟨zz HB⟩⟩
     ·
      rw [if_neg c7] at H
      exact absurd H (by simp)
    ·
     rw [if_neg c6] at H
     exact absurd H (by simp)
   ·
    rw [if_neg c5] at H;have c5b0:=decide_eq_false c5;clear c5
    obtain rfl:=Option.some.inj H
    go_wp2
    go_ret
    exact ⟨by first|rfl|(simp [errW_none,errW_some] <;> rfl)|(simp [*,errW_none,errW_some] <;> rfl),zz HB⟩

/-! ### impl_Query_isSafe: function 60 -/
def impl_Query_isSafe.l0 : Nat → List Int → Int → Int → List Int → List (S81) → Option (Bool)
 | 0, _, _, _, _, _ => none
 | k + 1, x6, x7, x8, x342000, x342001 => if x8 < x7 then (if 0 ≤ x8 then (if x8 < (x6.length : Int) then ((impl_IsVar.f (rd x6 x8)).bind fun t343 => (if t343 = true then ((impl_Query_occurs.f k x342000 x342001 (rd x6 x8)).bind fun t344 => (if t344 = true then (impl_Query_isSafe.l0 k x6 x7 (wrap64 (x8 + 1)) x342000 x342001) else (some false))) else (impl_Query_isSafe.l0 k x6 x7 (wrap64 (x8 + 1)) x342000 x342001))) else (none)) else (none)) else (some true)
def impl_Query_isSafe.f (k : Nat) (l0_0 : List Int) (l0_1 : List (S81)) : Option (Bool) := impl_Query_isSafe.l0 k l0_0 (l0_0.length : Int) 0 l0_0 l0_1
set_option maxHeartbeats 8000000 in
set_option maxRecDepth 100000 in
theorem impl_Query_isSafe.calls (k : Nat) (A0_0 : Option Addr) (c0_0 : Nat) (l0_0 : List Int) (A0_1 : Option Addr) (c0_1 : Nat) (l0_1 : List (S81)) (r : Bool) (w : World) (hr0_0 : Kd.C (Kd.int .i64) w A0_0 l0_0.length l0_0) (hc0_0 : l0_0.length ≤ c0_0) (hr0_1 : Kd.C k81 w A0_1 l0_1.length l0_1) (hc0_1 : l0_1.length ≤ c0_1) (h : impl_Query_isSafe.f k l0_0 l0_1 = some r) :
  Calls Tryz.prog 60 #[.agg #[.slice A0_0 l0_0.length c0_0, .slice A0_1 l0_1.length c0_1]] w fun e w' => e = .returned (.bool r) ∧ Below w.heap.size w w' := by
 have hu38:=Tryz.underlying38;have HR0_0:=zA hr0_0;have HC0_0:=zA hc0_0;clear hr0_0 hc0_0;have HR0_1:=zA hr0_1;have HC0_1:=zA hc0_1;clear hr0_1 hc0_1;have HB:=zA (Below.refl w.heap.size w)
 have H : (impl_Query_isSafe.l0 k l0_0 (l0_0.length : Int) 0 l0_0 l0_1) = some r:=h
 clear h
 have H':=zA H
 clear H
 go_enter Tryz.func60,Tryz.ntmps60
 go_wp2_with (first|((with_reducible refine gate_dst (N:=1) rfl ?_);refine box_event ?hg (N:=1) ?hd (cs:=#[.slice A0_0 l0_0.length c0_0,.slice A0_1 l0_1.length c0_1]) (t:=38) ?hr ?_;(case hd => rfl);(case hg => rfl);(case hr => first|(go_simp;done)|(go_simp;rfl));intro gb341 hg w2 hbox hb;have BK341:=zA (hbox);have GW341:=zA ((by rw [hg];exact (zT (zz HB)) : w.heap.size ≤ gb341));have GE341:=zA ((by rw [hg];exact (zT (zz HB)) : w.heap.size ≤ gb341));replace HB:=zA (zJb (zz HB) hb);clear hb hbox hg;have hcz3_0:=zc (.slice A0_0 l0_0.length c0_0) BK341 0 rfl;have hcz3_1:=zc (.slice A0_1 l0_1.length c0_1) BK341 1 rfl;have hfz3_0:=blk_frozen BK341.out 0;have hfz3_1:=blk_frozen BK341.out 1))
 go_loopg [8] k (fun kq v8 w' => ∃ (x8_1 : Int),v8 = .int .i64 x8_1 ∧ Aside0 (impl_Query_isSafe.l0 kq l0_0 (l0_0.length : Int) x8_1 l0_0 l0_1 = some r) ∧ Aside0 (kq ≤ k) ∧ Aside0 (w'.heap[gb341]? = some (.cells #[(.slice A0_0 l0_0.length c0_0),(.slice A0_1 l0_1.length c0_1)] 38 (0,0))) ∧ Aside0 (Below w.heap.size w w'))
 case atStart => exact ⟨(0),za,H',⟨Nat.le_refl _⟩,⟨zx BK341⟩,⟨zz HB⟩⟩
 case round =>
  clear H';(try clear p2);(try clear hcz3_0);(try clear hcz3_1);(try clear hfz3_0);(try clear hfz3_1);obtain ⟨x8_1,rfl,HA,HK1,BK341,HB⟩:=hrel
  cases gk with
  | zero => exact absurd HA.out (by simp [impl_Query_isSafe.l0])
  | succ k1 =>
   have H:=HA.out;clear HA;simp only [impl_Query_isSafe.l0] at H
   by_cases c4 : x8_1 < (l0_0.length : Int)
   ·
    rw [if_pos c4] at H;have c4b0:=decide_eq_true c4;clear c4
    by_cases c5 : 0 ≤ x8_1
    ·
     rw [if_pos c5] at H;have c5b0:=decide_eq_true c5;clear c5
     by_cases c6 : x8_1 < (l0_0.length : Int)
     ·
      rw [if_pos c6] at H;have c6b0:=decide_eq_true c6;clear c6;replace H:=Option.bind_eq_some_iff.mp H;obtain ⟨t343,A70,H⟩:=H;(try dsimp only at H);have A7:=zA A70;clear A70
      by_cases c8 : t343 = true
      ·
       subst c8
       rw [if_pos rfl] at H;replace H:=Option.bind_eq_some_iff.mp H;obtain ⟨t344,A90,H⟩:=H;(try dsimp only at H);have A9:=zA A90;clear A90
       by_cases c10 : t344 = true
       ·
        subst c10
        rw [if_pos rfl] at H
        have H':=zA H
        clear H;have p342 : 0 ≤ (x8_1 : Int):=zXb ze;have q342 : x8_1 < (l0_0.length : Int):=zXb ze;obtain ⟨ad342,e342,hx342_0⟩:=Kd.at_int HR0_0.out x8_1 p342 q342
        cases e342
        replace hx342_0:=(HB.out.cell (World.block_lt_of_cell? w _ hx342_0)).trans hx342_0;replace p342:=eq_true p342;replace q342:=eq_true q342
        go_wp2_with (first|((with_reducible refine gate_callee (f:=79) rfl ?_);refine goesL_ (some 13) rfl rfl Tryz.func79 (by kernel_rfl) rfl #[.int .i64 (rd l0_0 x8_1)] rfl (by (try simp only [zCb,zMb,zNb]);first|done|rfl|(simp only [zLb,zDb];rfl)) ?_;(with_reducible refine (impl_IsVar.calls (rd l0_0 x8_1) true _ A7.out).mono ?_);rintro e w' ⟨rfl,⟨nd,rfl⟩⟩;refine ⟨_,rfl,?_⟩;have hcz11_0:=zc (.slice (some ad342) l0_0.length c0_0) BK341 0 rfl;have hcz11_1:=zc (.slice A0_1 l0_1.length c0_1) BK341 1 rfl;have hfz11_0:=blk_frozen BK341.out 0;have hfz11_1:=blk_frozen BK341.out 1)|(go_at_call 80;(with_reducible refine (impl_Query_occurs.calls k1 _ _ l0_0 _ _ l0_1 (rd l0_0 x8_1) true _ ?side1 ?side2 ?side3 ?side4 A9.out).mono ?_);(case side1 => repeat (first|exact (zKb HR0_0.out (zz HB))|(with_reducible refine zBb ?_ _)|(with_reducible refine zAb ?_ _)|(with_reducible refine zX ?_)));(case side2 => exact HC0_0.out);(case side3 => repeat (first|exact (zKb HR0_1.out (zz HB))|(with_reducible refine zBb ?_ _)|(with_reducible refine zAb ?_ _)|(with_reducible refine zX ?_)));(case side4 => exact HC0_1.out);rintro e w12 ⟨rfl,hb⟩;replace BK341:=zA (zQ (g:=gb341) (o:=.cells #[.slice (some ad342) l0_0.length c0_0,.slice A0_1 l0_1.length c0_1] 38 (0,0)) (zx BK341) hb);replace HB:=zA (zJb (zz HB) hb);(try clear hb);(try clear hb2);(try clear hk);(try clear hi)))
        go_roundg k1
        case measure => have:=HK1.out;omega
        case rel => exact ⟨(wrap64 (x8_1 + 1)),za,H',⟨by have:=HK1.out;omega⟩,⟨zx BK341⟩,⟨zz HB⟩⟩
       ·
        replace c10:=Bool.eq_false_iff.mpr c10
        subst c10
        have H1 : (some false) = some r:=by rw [if_neg (show ¬ (false = true) by decide)] at H;exact H
        clear H;have H:=H1;clear H1
        obtain rfl:=Option.some.inj H
        have p342 : 0 ≤ (x8_1 : Int):=zXb ze;have q342 : x8_1 < (l0_0.length : Int):=zXb ze;obtain ⟨ad342,e342,hx342_0⟩:=Kd.at_int HR0_0.out x8_1 p342 q342
        cases e342
        replace hx342_0:=(HB.out.cell (World.block_lt_of_cell? w _ hx342_0)).trans hx342_0;replace p342:=eq_true p342;replace q342:=eq_true q342
        go_wp2_with (first|((with_reducible refine gate_callee (f:=79) rfl ?_);refine goesL_ (some 13) rfl rfl Tryz.func79 (by kernel_rfl) rfl #[.int .i64 (rd l0_0 x8_1)] rfl (by (try simp only [zCb,zMb,zNb]);first|done|rfl|(simp only [zLb,zDb];rfl)) ?_;(with_reducible refine (impl_IsVar.calls (rd l0_0 x8_1) true _ A7.out).mono ?_);rintro e w' ⟨rfl,⟨nd,rfl⟩⟩;refine ⟨_,rfl,?_⟩;have hcz13_0:=zc (.slice (some ad342) l0_0.length c0_0) BK341 0 rfl;have hcz13_1:=zc (.slice A0_1 l0_1.length c0_1) BK341 1 rfl;have hfz13_0:=blk_frozen BK341.out 0;have hfz13_1:=blk_frozen BK341.out 1)|(go_at_call 80;(with_reducible refine (impl_Query_occurs.calls k1 _ _ l0_0 _ _ l0_1 (rd l0_0 x8_1) false _ ?side1 ?side2 ?side3 ?side4 A9.out).mono ?_);(case side1 => repeat (first|exact (zKb HR0_0.out (zz HB))|(with_reducible refine zBb ?_ _)|(with_reducible refine zAb ?_ _)|(with_reducible refine zX ?_)));(case side2 => exact HC0_0.out);(case side3 => repeat (first|exact (zKb HR0_1.out (zz HB))|(with_reducible refine zBb ?_ _)|(with_reducible refine zAb ?_ _)|(with_reducible refine zX ?_)));(case side4 => exact HC0_1.out);rintro e w14 ⟨rfl,hb⟩;replace BK341:=zA (zQ (g:=gb341) (o:=.cells #[.slice (some ad342) l0_0.length c0_0,.slice A0_1 l0_1.length c0_1] 38 (0,0)) (zx BK341) hb);replace HB:=zA (zJb (zz HB) hb);(try clear hb);(try clear hb2);(try clear hk);(try clear hi)))
        go_ret
        exact ⟨by first|rfl|(simp [errW_none,errW_some] <;> rfl)|(simp [*,errW_none,errW_some] <;> rfl),zz HB⟩
      ·
       replace c8:=Bool.eq_false_iff.mpr c8
       subst c8
       have H1 : (impl_Query_isSafe.l0 k1 l0_0 (l0_0.length : Int) (wrap64 (x8_1 + 1)) l0_0 l0_1) = some r:=by rw [if_neg (show ¬ (false = true) by decide)] at H;exact H
       clear H;have H:=H1;clear H1
       have H':=zA H
       clear H;have p342 : 0 ≤ (x8_1 : Int):=zXb ze;have q342 : x8_1 < (l0_0.length : Int):=zXb ze;obtain ⟨ad342,e342,hx342_0⟩:=Kd.at_int HR0_0.out x8_1 p342 q342
       cases e342
       replace hx342_0:=(HB.out.cell (World.block_lt_of_cell? w _ hx342_0)).trans hx342_0;replace p342:=eq_true p342;replace q342:=eq_true q342
       go_wp2_with (first|((with_reducible refine gate_callee (f:=79) rfl ?_);refine goesL_ (some 13) rfl rfl Tryz.func79 (by kernel_rfl) rfl #[.int .i64 (rd l0_0 x8_1)] rfl (by (try simp only [zCb,zMb,zNb]);first|done|rfl|(simp only [zLb,zDb];rfl)) ?_;(with_reducible refine (impl_IsVar.calls (rd l0_0 x8_1) false _ A7.out).mono ?_);rintro e w' ⟨rfl,⟨nd,rfl⟩⟩;refine ⟨_,rfl,?_⟩))
       go_roundg k1
       case measure => have:=HK1.out;omega
       case rel => exact ⟨(wrap64 (x8_1 + 1)),za,H',⟨by have:=HK1.out;omega⟩,⟨zx BK341⟩,⟨zz HB⟩⟩
     ·
      rw [if_neg c6] at H
      exact absurd H (by simp)
    ·
     rw [if_neg c5] at H
     exact absurd H (by simp)
   ·
    rw [if_neg c4] at H;have c4b0:=decide_eq_false c4;clear c4
    obtain rfl:=Option.some.inj H
    go_wp2
    go_ret
    exact ⟨by first|rfl|(simp [errW_none,errW_some] <;> rfl)|(simp [*,errW_none,errW_some] <;> rfl),zz HB⟩

/-! ### impl_IsQuery: function 36 -/
mutual
def impl_IsQuery.j0 : Nat → Bool → List Int → List Int → List (S81) → Option (Bool)
 | 0, _, _, _, _ => none
 | k + 1, x28, x346000, x347000, x347001 => if x28 = true then (some false) else (impl_IsQuery.l0 k x347001 (x347001.length : Int) 0 x346000 x347000 x347001)
def impl_IsQuery.l0 : Nat → List (S81) → Int → Int → List Int → List Int → List (S81) → Option (Bool)
 | 0, _, _, _, _, _, _ => none
 | k + 1, x30, x31, x32, x346000, x347000, x347001 => if x32 < x31 then (if 0 ≤ x32 then (if x32 < (x30.length : Int) then ((impl_IsAtom.f k x346000 ((rd_T81 x30 x32).f0) ((rd_T81 x30 x32).f1)).bind fun t352 => (if t352 = true then (impl_IsQuery.l0 k x30 x31 (wrap64 (x32 + 1)) x346000 x347000 x347001) else (some false))) else (none)) else (none)) else ((impl_Query_isSafe.f k x347000 x347001).bind fun t353 => (some t353))
end
def impl_IsQuery.f (k : Nat) (l0_0 : List Int) (l1_0 : List Int) (l1_1 : List (S81)) : Option (Bool) := (impl_IsSchema.f k l0_0).bind fun t347 => (if t347 = true then (if (l1_0.length : Int) > 3 then (impl_IsQuery.j0 k true l0_0 l1_0 l1_1) else ((impl_areTerms.f k l1_0).bind fun t348 => (if t348 = true then ((impl_within.f (l1_1.length : Int) 1 4).bind fun t349 => (impl_IsQuery.j0 k (!t349) l0_0 l1_0 l1_1)) else (impl_IsQuery.j0 k true l0_0 l1_0 l1_1)))) else (impl_IsQuery.j0 k true l0_0 l1_0 l1_1))
set_option maxHeartbeats 8000000 in
set_option maxRecDepth 100000 in
theorem impl_IsQuery.calls (k : Nat) (A0_0 : Option Addr) (c0_0 : Nat) (l0_0 : List Int) (A1_0 : Option Addr) (c1_0 : Nat) (l1_0 : List Int) (A1_1 : Option Addr) (c1_1 : Nat) (l1_1 : List (S81)) (r : Bool) (w : World) (hr0_0 : Kd.C (Kd.int .i64) w A0_0 l0_0.length l0_0) (hc0_0 : l0_0.length ≤ c0_0) (hr1_0 : Kd.C (Kd.int .i64) w A1_0 l1_0.length l1_0) (hc1_0 : l1_0.length ≤ c1_0) (hr1_1 : Kd.C k81 w A1_1 l1_1.length l1_1) (hc1_1 : l1_1.length ≤ c1_1) (h : impl_IsQuery.f k l0_0 l1_0 l1_1 = some r) :
  Calls Tryz.prog 36 #[.agg #[.slice A0_0 l0_0.length c0_0], .agg #[.slice A1_0 l1_0.length c1_0, .slice A1_1 l1_1.length c1_1]] w fun e w' => e = .returned (.bool r) ∧ Below w.heap.size w w' := by
 have hu34:=Tryz.underlying34;have hu38:=Tryz.underlying38;have hu81:=Tryz.underlying81;have HR0_0:=zA hr0_0;have HC0_0:=zA hc0_0;clear hr0_0 hc0_0;have HR1_0:=zA hr1_0;have HC1_0:=zA hc1_0;clear hr1_0 hc1_0;have HR1_1:=zA hr1_1;have HC1_1:=zA hc1_1;clear hr1_1 hc1_1;have HB:=zA (Below.refl w.heap.size w)
 have H : ((impl_IsSchema.f k l0_0).bind fun t347 => (if t347 = true then (if (l1_0.length : Int) > 3 then (impl_IsQuery.j0 k true l0_0 l1_0 l1_1) else ((impl_areTerms.f k l1_0).bind fun t348 => (if t348 = true then ((impl_within.f (l1_1.length : Int) 1 4).bind fun t349 => (impl_IsQuery.j0 k (!t349) l0_0 l1_0 l1_1)) else (impl_IsQuery.j0 k true l0_0 l1_0 l1_1)))) else (impl_IsQuery.j0 k true l0_0 l1_0 l1_1))) = some r:=h
 clear h;have HC3:=zA H;clear H
 go_enter Tryz.func36,Tryz.ntmps36
 go_upto_region 1 with (first|((with_reducible refine gate_dst (N:=2) rfl ?_);(try (refine gate_guard (by rfl) ?_;dsimp only));refine box_event ?hg (N:=2) ?hd (cs:=#[.slice A0_0 l0_0.length c0_0]) (t:=34) ?hr ?_;(case hd => rfl);(case hg => rfl);(case hr => first|(go_simp;done)|(go_simp;rfl));intro gb345 hg w4 hbox hb;have BK345:=zA (hbox);have GW345:=zA ((by rw [hg];exact (zT (zz HB)) : w.heap.size ≤ gb345));have GE345:=zA ((by rw [hg];exact (zT (zz HB)) : w.heap.size ≤ gb345));replace HB:=zA (zJb (zz HB) hb);clear hb hbox hg)|((with_reducible refine gate_dst (N:=3) rfl ?_);(try (refine gate_guard (by rfl) ?_;dsimp only));refine box_event ?hg (N:=3) ?hd (cs:=#[.slice A1_0 l1_0.length c1_0,.slice A1_1 l1_1.length c1_1]) (t:=38) ?hr ?_;(case hd => rfl);(case hg => rfl);(case hr => first|(go_simp;done)|(go_simp;rfl));intro gb346 hg w5 hbox hb;have BK346:=zA (hbox);have GW346:=zA ((by rw [hg];exact (zT (zz HB)) : w.heap.size ≤ gb346));have GE346:=zA ((by rw [hg];exact (zT (zz HB)) : w.heap.size ≤ gb346));replace HB:=zA (zJb (zz HB) hb);have NB345_346:=zA ((by rw [hg];exact Nat.ne_of_lt (blk_lt (g:=gb345) (o:=.cells #[.slice A0_0 l0_0.length c0_0] 34 (0,0)) (zx BK345)) : gb345 ≠ gb346));have NB346_345:=zA ((by rw [hg];exact Nat.ne_of_gt (blk_lt (g:=gb345) (o:=.cells #[.slice A0_0 l0_0.length c0_0] 34 (0,0)) (zx BK345)) : gb346 ≠ gb345));replace BK345:=zA (zQ (g:=gb345) (o:=.cells #[.slice A0_0 l0_0.length c0_0] 34 (0,0)) (zx BK345) hb);clear hb hbox hg))
 (try simp only [Act.put,zO,zEb,zFb])
 go_cut [28] (fun v28 wc => ∃ (kq : Nat) (x28_2 : Bool),v28 = .bool x28_2 ∧ Aside0 (impl_IsQuery.j0 kq x28_2 l0_0 l1_0 l1_1 = some r) ∧ Aside0 (kq ≤ k) ∧ Aside0 (wc.heap[gb345]? = some (.cells #[(.slice A0_0 l0_0.length c0_0)] 34 (0,0))) ∧ Aside0 (wc.heap[gb346]? = some (.cells #[(.slice A1_0 l1_0.length c1_0),(.slice A1_1 l1_1.length c1_1)] 38 (0,0))) ∧ Aside0 (Below w.heap.size w wc))
 case first =>
  have H:=HC3.out;clear HC3;replace H:=Option.bind_eq_some_iff.mp H;obtain ⟨t347,A60,H⟩:=H;(try dsimp only at H);have A6:=zA A60;clear A60
  by_cases c7 : t347 = true
  ·
   subst c7
   rw [if_pos rfl] at H
   by_cases c8 : (l1_0.length : Int) > 3
   ·
    rw [if_pos c8] at H
    have c8b0 : decide (3 < (l1_0.length : Int)) = true:=decide_eq_true c8
    have c8b1 : decide (3 < l1_0.length) = true:=decide_eq_true (by omega)
    clear c8
    (first|rw [c8b0]|(simp only [i64_w,i32_w];rw [c8b0])|skip)
    have H':=zA H
    clear H;have hnb9:=NB345_346.out;have hnc9:=NB346_345.out;have hcz10_0:=zc (.slice A0_0 l0_0.length c0_0) BK345 0 rfl;have hfz10_0:=blk_frozen BK345.out 0
    go_wp2_with (first|((with_reducible refine gate_callee (f:=56) rfl ?_);refine goesL_ (some 8) rfl rfl Tryz.func56 (by kernel_rfl) rfl #[.agg #[.slice A0_0 l0_0.length c0_0]] rfl (by (try simp only [zCb,zMb,zNb]);first|done|rfl|(simp only [zLb,zDb];rfl)) ?_;(with_reducible refine (impl_IsSchema.calls k _ _ l0_0 true _ ?side1 ?side2 A6.out).mono ?_);(case side1 => exact zsd HR0_0 HB);(case side2 => exact HC0_0.out);rintro e w11 ⟨rfl,hb⟩;refine ⟨_,rfl,?_⟩;replace BK345:=zA (zQ (g:=gb345) (o:=.cells #[.slice A0_0 l0_0.length c0_0] 34 (0,0)) (zx BK345) hb);replace BK346:=zA (zQ (g:=gb346) (o:=.cells #[.slice A1_0 l1_0.length c1_0,.slice A1_1 l1_1.length c1_1] 38 (0,0)) (zx BK346) hb);replace HB:=zA (zJb (zz HB) hb);(try clear hb);(try clear hb2);(try clear hk);(try clear hi);have hcz12_0:=zc (.slice A1_0 l1_0.length c1_0) BK346 0 rfl;have hcz12_1:=zc (.slice A1_1 l1_1.length c1_1) BK346 1 rfl;have hfz12_0:=blk_frozen BK346.out 0;have hfz12_1:=blk_frozen BK346.out 1))
    go_meet
    case rel => exact ⟨_,(true),za,H',⟨by first|omega|exact Nat.le_refl _⟩,⟨zx BK345⟩,⟨zx BK346⟩,⟨zz HB⟩⟩
   ·
    rw [if_neg c8] at H
    have c8b0 : decide (3 < (l1_0.length : Int)) = false:=decide_eq_false c8
    have c8b1 : decide (3 < l1_0.length) = false:=decide_eq_false (by omega)
    clear c8
    (first|rw [c8b0]|(simp only [i64_w,i32_w];rw [c8b0])|skip)
    replace H:=Option.bind_eq_some_iff.mp H;obtain ⟨t348,A130,H⟩:=H;(try dsimp only at H);have A13:=zA A130;clear A130
    by_cases c14 : t348 = true
    ·
     subst c14
     rw [if_pos rfl] at H;replace H:=Option.bind_eq_some_iff.mp H;obtain ⟨t349,A150,H⟩:=H;(try dsimp only at H);have A15:=zA A150;clear A150
     have H':=zA H
     clear H;have hnb16:=NB345_346.out;have hnc16:=NB346_345.out;have hcz17_0:=zc (.slice A0_0 l0_0.length c0_0) BK345 0 rfl;have hfz17_0:=blk_frozen BK345.out 0
     go_wp2_with (first|((with_reducible refine gate_callee (f:=56) rfl ?_);refine goesL_ (some 8) rfl rfl Tryz.func56 (by kernel_rfl) rfl #[.agg #[.slice A0_0 l0_0.length c0_0]] rfl (by (try simp only [zCb,zMb,zNb]);first|done|rfl|(simp only [zLb,zDb];rfl)) ?_;(with_reducible refine (impl_IsSchema.calls k _ _ l0_0 true _ ?side1 ?side2 A6.out).mono ?_);(case side1 => exact zsd HR0_0 HB);(case side2 => exact HC0_0.out);rintro e w18 ⟨rfl,hb⟩;refine ⟨_,rfl,?_⟩;replace BK345:=zA (zQ (g:=gb345) (o:=.cells #[.slice A0_0 l0_0.length c0_0] 34 (0,0)) (zx BK345) hb);replace BK346:=zA (zQ (g:=gb346) (o:=.cells #[.slice A1_0 l1_0.length c1_0,.slice A1_1 l1_1.length c1_1] 38 (0,0)) (zx BK346) hb);replace HB:=zA (zJb (zz HB) hb);(try clear hb);(try clear hb2);(try clear hk);(try clear hi);have hcz19_0:=zc (.slice A1_0 l1_0.length c1_0) BK346 0 rfl;have hcz19_1:=zc (.slice A1_1 l1_1.length c1_1) BK346 1 rfl;have hfz19_0:=blk_frozen BK346.out 0;have hfz19_1:=blk_frozen BK346.out 1)|(go_at_call 57;(with_reducible refine (impl_areTerms.calls k _ _ l1_0 true _ ?side1 ?side2 A13.out).mono ?_);(case side1 => exact zsd HR1_0 HB);(case side2 => exact HC1_0.out);rintro e w' ⟨rfl,⟨nd,rfl⟩⟩)|(go_at_call 58;(with_reducible refine (impl_within.calls (l1_1.length : Int) 1 4 t349 _ A15.out).mono ?_);rintro e w' ⟨rfl,⟨nd,rfl⟩⟩))
     go_meet
     case rel => exact ⟨_,(!t349),za,H',⟨by first|omega|exact Nat.le_refl _⟩,⟨zx BK345⟩,⟨zx BK346⟩,⟨zz HB⟩⟩
    ·
     replace c14:=Bool.eq_false_iff.mpr c14
     subst c14
     have H1 : (impl_IsQuery.j0 k true l0_0 l1_0 l1_1) = some r:=by rw [if_neg (show ¬ (false = true) by decide)] at H;exact H
     clear H;have H:=H1;clear H1
     have H':=zA H
     clear H;have hnb20:=NB345_346.out;have hnc20:=NB346_345.out;have hcz21_0:=zc (.slice A0_0 l0_0.length c0_0) BK345 0 rfl;have hfz21_0:=blk_frozen BK345.out 0
     go_wp2_with (first|((with_reducible refine gate_callee (f:=56) rfl ?_);refine goesL_ (some 8) rfl rfl Tryz.func56 (by kernel_rfl) rfl #[.agg #[.slice A0_0 l0_0.length c0_0]] rfl (by (try simp only [zCb,zMb,zNb]);first|done|rfl|(simp only [zLb,zDb];rfl)) ?_;(with_reducible refine (impl_IsSchema.calls k _ _ l0_0 true _ ?side1 ?side2 A6.out).mono ?_);(case side1 => exact zsd HR0_0 HB);(case side2 => exact HC0_0.out);rintro e w22 ⟨rfl,hb⟩;refine ⟨_,rfl,?_⟩;replace BK345:=zA (zQ (g:=gb345) (o:=.cells #[.slice A0_0 l0_0.length c0_0] 34 (0,0)) (zx BK345) hb);replace BK346:=zA (zQ (g:=gb346) (o:=.cells #[.slice A1_0 l1_0.length c1_0,.slice A1_1 l1_1.length c1_1] 38 (0,0)) (zx BK346) hb);replace HB:=zA (zJb (zz HB) hb);(try clear hb);(try clear hb2);(try clear hk);(try clear hi);have hcz23_0:=zc (.slice A1_0 l1_0.length c1_0) BK346 0 rfl;have hcz23_1:=zc (.slice A1_1 l1_1.length c1_1) BK346 1 rfl;have hfz23_0:=blk_frozen BK346.out 0;have hfz23_1:=blk_frozen BK346.out 1)|(go_at_call 57;(with_reducible refine (impl_areTerms.calls k _ _ l1_0 false _ ?side1 ?side2 A13.out).mono ?_);(case side1 => exact zsd HR1_0 HB);(case side2 => exact HC1_0.out);rintro e w' ⟨rfl,⟨nd,rfl⟩⟩))
     go_meet
     case rel => exact ⟨_,(true),za,H',⟨by first|omega|exact Nat.le_refl _⟩,⟨zx BK345⟩,⟨zx BK346⟩,⟨zz HB⟩⟩
  ·
   replace c7:=Bool.eq_false_iff.mpr c7
   subst c7
   have H1 : (impl_IsQuery.j0 k true l0_0 l1_0 l1_1) = some r:=by rw [if_neg (show ¬ (false = true) by decide)] at H;exact H
   clear H;have H:=H1;clear H1
   have H':=zA H
   clear H;have hnb24:=NB345_346.out;have hnc24:=NB346_345.out;have hcz25_0:=zc (.slice A0_0 l0_0.length c0_0) BK345 0 rfl;have hfz25_0:=blk_frozen BK345.out 0
   go_wp2_with (first|((with_reducible refine gate_callee (f:=56) rfl ?_);refine goesL_ (some 8) rfl rfl Tryz.func56 (by kernel_rfl) rfl #[.agg #[.slice A0_0 l0_0.length c0_0]] rfl (by (try simp only [zCb,zMb,zNb]);first|done|rfl|(simp only [zLb,zDb];rfl)) ?_;(with_reducible refine (impl_IsSchema.calls k _ _ l0_0 false _ ?side1 ?side2 A6.out).mono ?_);(case side1 => exact zsd HR0_0 HB);(case side2 => exact HC0_0.out);rintro e w26 ⟨rfl,hb⟩;refine ⟨_,rfl,?_⟩;replace BK345:=zA (zQ (g:=gb345) (o:=.cells #[.slice A0_0 l0_0.length c0_0] 34 (0,0)) (zx BK345) hb);replace BK346:=zA (zQ (g:=gb346) (o:=.cells #[.slice A1_0 l1_0.length c1_0,.slice A1_1 l1_1.length c1_1] 38 (0,0)) (zx BK346) hb);replace HB:=zA (zJb (zz HB) hb);(try clear hb);(try clear hb2);(try clear hk);(try clear hi)))
   go_meet
   case rel => exact ⟨_,(true),za,H',⟨by first|omega|exact Nat.le_refl _⟩,⟨zx BK345⟩,⟨zx BK346⟩,⟨zz HB⟩⟩
 case rest =>
  clear HC3;(try clear c1);(try clear c2);(try clear p2);(try clear c3);(try clear c5);(try clear c7);(try clear c8);(try clear c8b0);(try clear c8b1);(try clear c9);(try clear c14);(try clear c16);(try clear c20);(try clear c24);(try clear hcz10_0);(try clear hcz12_0);(try clear hcz12_1);(try clear hcz17_0);(try clear hcz19_0);(try clear hcz19_1);(try clear hcz21_0);(try clear hcz23_0);(try clear hcz23_1);(try clear hcz25_0);(try clear hfz10_0);(try clear hfz12_0);(try clear hfz12_1);(try clear hfz17_0);(try clear hfz19_0);(try clear hfz19_1);(try clear hfz21_0);(try clear hfz23_0);(try clear hfz23_1);(try clear hfz25_0);obtain ⟨kq,x28_2,rfl,HA,HJ2,BK345,BK346,HB⟩:=hcut
  cases kq with
  | zero => exact absurd HA.out (by simp [impl_IsQuery.j0])
  | succ kj2 =>
   have H:=HA.out;clear HA;simp only [impl_IsQuery.j0] at H
   by_cases c27 : x28_2 = true
   ·
    subst c27
    rw [if_pos rfl] at H
    obtain rfl:=Option.some.inj H
    go_wp2
    go_ret
    exact ⟨by first|rfl|(simp [errW_none,errW_some] <;> rfl)|(simp [*,errW_none,errW_some] <;> rfl),zz HB⟩
   ·
    replace c27:=Bool.eq_false_iff.mpr c27
    subst c27
    have H1 : (impl_IsQuery.l0 kj2 l1_1 (l1_1.length : Int) 0 l0_0 l1_0 l1_1) = some r:=by rw [if_neg (show ¬ (false = true) by decide)] at H;exact H
    clear H;have H:=H1;clear H1
    have H':=zA H
    clear H;have hnb28:=NB346_345.out;have hnc28:=NB345_346.out;have hcz29_0:=zc (.slice A1_0 l1_0.length c1_0) BK346 0 rfl;have hcz29_1:=zc (.slice A1_1 l1_1.length c1_1) BK346 1 rfl;have hfz29_0:=blk_frozen BK346.out 0;have hfz29_1:=blk_frozen BK346.out 1
    go_wp2
    go_loopg [32] kj2 (fun kq v32 w' => ∃ (x32_2 : Int),v32 = .int .i64 x32_2 ∧ Aside0 (impl_IsQuery.l0 kq l1_1 (l1_1.length : Int) x32_2 l0_0 l1_0 l1_1 = some r) ∧ Aside0 (kq ≤ kj2) ∧ Aside0 (w'.heap[gb345]? = some (.cells #[(.slice A0_0 l0_0.length c0_0)] 34 (0,0))) ∧ Aside0 (w'.heap[gb346]? = some (.cells #[(.slice A1_0 l1_0.length c1_0),(.slice A1_1 l1_1.length c1_1)] 38 (0,0))) ∧ Aside0 (Below w.heap.size w w'))
    case atStart => exact ⟨(0),za,H',⟨Nat.le_refl _⟩,⟨zx BK345⟩,⟨zx BK346⟩,⟨zz HB⟩⟩
    case round =>
     clear H';(try clear c1);(try clear c2);(try clear p2);(try clear c3);(try clear c5);(try clear c7);(try clear c8);(try clear c8b0);(try clear c8b1);(try clear c9);(try clear c14);(try clear c16);(try clear c20);(try clear c24);(try clear c27);(try clear c28);(try clear hcz10_0);(try clear hcz12_0);(try clear hcz12_1);(try clear hcz17_0);(try clear hcz19_0);(try clear hcz19_1);(try clear hcz21_0);(try clear hcz23_0);(try clear hcz23_1);(try clear hcz25_0);(try clear hcz29_0);(try clear hcz29_1);(try clear hfz10_0);(try clear hfz12_0);(try clear hfz12_1);(try clear hfz17_0);(try clear hfz19_0);(try clear hfz19_1);(try clear hfz21_0);(try clear hfz23_0);(try clear hfz23_1);(try clear hfz25_0);(try clear hfz29_0);(try clear hfz29_1);(try clear p2);obtain ⟨x32_2,rfl,HA,HK2,BK345,BK346,HB⟩:=hrel
     cases gk with
     | zero => exact absurd HA.out (by simp [impl_IsQuery.l0])
     | succ k2 =>
      have H:=HA.out;clear HA;simp only [impl_IsQuery.l0] at H
      by_cases c30 : x32_2 < (l1_1.length : Int)
      ·
       rw [if_pos c30] at H;have c30b0:=decide_eq_true c30;clear c30
       by_cases c31 : 0 ≤ x32_2
       ·
        rw [if_pos c31] at H;have c31b0:=decide_eq_true c31;clear c31
        by_cases c32 : x32_2 < (l1_1.length : Int)
        ·
         rw [if_pos c32] at H;have c32b0:=decide_eq_true c32;clear c32;replace H:=Option.bind_eq_some_iff.mp H;obtain ⟨t352,A330,H⟩:=H;(try dsimp only at H);have A33:=zA A330;clear A330
         by_cases c34 : t352 = true
         ·
          subst c34
          rw [if_pos rfl] at H
          have H':=zA H
          clear H;have p350 : 0 ≤ (x32_2 : Int):=zXb ze;have q350 : x32_2 < (l1_1.length : Int):=zXb ze;obtain ⟨ad350,A350_1,c350_1,e350,hx350_0,hx350_1,hl350_1,hi350_1⟩:=at_T81 HR1_1.out x32_2 p350 q350
          cases e350
          replace hx350_0:=(HB.out.cell (World.block_lt_of_cell? w _ hx350_0)).trans hx350_0;replace hx350_1:=(HB.out.cell (World.block_lt_of_cell? w _ hx350_1)).trans hx350_1;have HR350_1:=zA hi350_1;have HC350_1:=zA hl350_1;clear hi350_1 hl350_1;replace p350:=eq_true p350;replace q350:=eq_true q350
          go_wp2_with (first|((with_reducible refine gate_dst (N:=6) rfl ?_);(try (refine gate_guard (by rfl) ?_;dsimp only));refine box_event ?hg (N:=6) ?hd (cs:=#[.int .i64 0,.slice none 0 0]) (t:=81) ?hr ?_;(case hd => rfl);(case hg => rfl);(case hr => first|(go_simp;done)|(go_simp;rfl));intro gb351 hg w35 hbox hb;have BK351:=zA (hbox);have GW351:=zA ((by rw [hg];exact (zT (zz HB)) : w.heap.size ≤ gb351));have GE351:=zA ((by rw [hg];exact (zT (zz HB)) : w.heap.size ≤ gb351));replace HB:=zA (zJb (zz HB) hb);have NB345_351:=zA ((by rw [hg];exact Nat.ne_of_lt (blk_lt (g:=gb345) (o:=.cells #[.slice A0_0 l0_0.length c0_0] 34 (0,0)) (zx BK345)) : gb345 ≠ gb351));have NB351_345:=zA ((by rw [hg];exact Nat.ne_of_gt (blk_lt (g:=gb345) (o:=.cells #[.slice A0_0 l0_0.length c0_0] 34 (0,0)) (zx BK345)) : gb351 ≠ gb345));replace BK345:=zA (zQ (g:=gb345) (o:=.cells #[.slice A0_0 l0_0.length c0_0] 34 (0,0)) (zx BK345) hb);have NB346_351:=zA ((by rw [hg];exact Nat.ne_of_lt (blk_lt (g:=gb346) (o:=.cells #[.slice A1_0 l1_0.length c1_0,.slice (some ad350) l1_1.length c1_1] 38 (0,0)) (zx BK346)) : gb346 ≠ gb351));have NB351_346:=zA ((by rw [hg];exact Nat.ne_of_gt (blk_lt (g:=gb346) (o:=.cells #[.slice A1_0 l1_0.length c1_0,.slice (some ad350) l1_1.length c1_1] 38 (0,0)) (zx BK346)) : gb351 ≠ gb346));replace BK346:=zA (zQ (g:=gb346) (o:=.cells #[.slice A1_0 l1_0.length c1_0,.slice (some ad350) l1_1.length c1_1] 38 (0,0)) (zx BK346) hb);clear hb hbox hg;have hnb36:=NB351_345.out;have hnc36:=NB345_351.out;have hnb37:=NB351_346.out;have hnc37:=NB346_351.out;have hcz38_0:=zc (.int .i64 0) BK351 0 rfl;have hcz38_1:=zc (.slice none 0 0) BK351 1 rfl;have hfz38_0:=blk_frozen BK351.out 0;have hfz38_1:=blk_frozen BK351.out 1;have hnb39:=NB345_346.out;have hnc39:=NB346_345.out;have hcz40_0:=zc (.slice A0_0 l0_0.length c0_0) BK345 0 rfl;have hfz40_0:=blk_frozen BK345.out 0)|((with_reducible refine gate_callee (f:=59) rfl ?_);refine goesL_ (some 38) rfl rfl Tryz.func59 (by kernel_rfl) rfl #[.agg #[.slice A0_0 l0_0.length c0_0],.agg #[.int .i64 ((rd_T81 l1_1 x32_2).f0),.slice A350_1 ((rd_T81 l1_1 x32_2).f1).length c350_1]] rfl (by (try simp only [zCb,zMb,zNb]);first|done|rfl|(simp only [zLb,zDb];rfl)) ?_;(with_reducible refine (impl_IsAtom.calls k2 _ _ l0_0 ((rd_T81 l1_1 x32_2).f0) _ _ ((rd_T81 l1_1 x32_2).f1) true _ ?side1 ?side2 ?side3 ?side4 A33.out).mono ?_);(case side1 => exact zKb HR0_0.out (zz HB));(case side2 => exact HC0_0.out);(case side3 => exact zKb HR350_1.out (zz HB));(case side4 => exact HC350_1.out);rintro e w41 ⟨rfl,hb⟩;refine ⟨_,rfl,?_⟩;replace BK345:=zA (zQ (g:=gb345) (o:=.cells #[.slice A0_0 l0_0.length c0_0] 34 (0,0)) (by (with_reducible repeat (first|refine zF ?_ _|refine zI ?_|refine zG ?_ _));refine zUb ?_ NB345_351.out _;(with_reducible repeat (first|refine zF ?_ _|refine zI ?_|refine zG ?_ _));refine zUb ?_ NB345_351.out _;(with_reducible repeat (first|refine zF ?_ _|refine zI ?_|refine zG ?_ _));exact BK345.out) hb);replace BK346:=zA (zQ (g:=gb346) (o:=.cells #[.slice A1_0 l1_0.length c1_0,.slice (some ad350) l1_1.length c1_1] 38 (0,0)) (by (with_reducible repeat (first|refine zF ?_ _|refine zI ?_|refine zG ?_ _));refine zUb ?_ NB346_351.out _;(with_reducible repeat (first|refine zF ?_ _|refine zI ?_|refine zG ?_ _));refine zUb ?_ NB346_351.out _;(with_reducible repeat (first|refine zF ?_ _|refine zI ?_|refine zG ?_ _));exact BK346.out) hb);replace BK351:=zA (zQ (g:=gb351) (o:=.cells #[.int .i64 ((rd_T81 l1_1 x32_2).f0),.slice A350_1 ((rd_T81 l1_1 x32_2).f1).length c350_1] 81 (0,0)) (by (with_reducible repeat (first|refine zF ?_ _|refine zI ?_|refine zG ?_ _));refine blk_put (cs:=#[.int .i64 ((rd_T81 l1_1 x32_2).f0),.slice none 0 0]) ?_ 1 _ rfl;(with_reducible repeat (first|refine zF ?_ _|refine zI ?_|refine zG ?_ _));refine blk_put (cs:=#[.int .i64 0,.slice none 0 0]) ?_ 0 _ rfl;(with_reducible repeat (first|refine zF ?_ _|refine zI ?_|refine zG ?_ _));exact BK351.out) hb);replace HB:=zA (zJb (zz HB) hb);(try clear hb);(try clear hb2);(try clear hk);(try clear hi)))
          go_roundg k2
          case measure => have:=HJ2.out;have:=HK2.out;omega
          case rel => exact ⟨(wrap64 (x32_2 + 1)),za,H',⟨by have:=HJ2.out;have:=HK2.out;omega⟩,⟨zx BK345⟩,⟨zx BK346⟩,⟨zz HB⟩⟩
         ·
          replace c34:=Bool.eq_false_iff.mpr c34
          subst c34
          have H1 : (some false) = some r:=by rw [if_neg (show ¬ (false = true) by decide)] at H;exact H
          clear H;have H:=H1;clear H1
          obtain rfl:=Option.some.inj H
          have p350 : 0 ≤ (x32_2 : Int):=zXb ze;have q350 : x32_2 < (l1_1.length : Int):=zXb ze;obtain ⟨ad350,A350_1,c350_1,e350,hx350_0,hx350_1,hl350_1,hi350_1⟩:=at_T81 HR1_1.out x32_2 p350 q350
          cases e350
          replace hx350_0:=(HB.out.cell (World.block_lt_of_cell? w _ hx350_0)).trans hx350_0;replace hx350_1:=(HB.out.cell (World.block_lt_of_cell? w _ hx350_1)).trans hx350_1;have HR350_1:=zA hi350_1;have HC350_1:=zA hl350_1;clear hi350_1 hl350_1;replace p350:=eq_true p350;replace q350:=eq_true q350
          go_wp2_with (first|((with_reducible refine gate_dst (N:=6) rfl ?_);(try (refine gate_guard (by rfl) ?_;dsimp only));refine box_event ?hg (N:=6) ?hd (cs:=#[.int .i64 0,.slice none 0 0]) (t:=81) ?hr ?_;(case hd => rfl);(case hg => rfl);(case hr => first|(go_simp;done)|(go_simp;rfl));intro gb351 hg w42 hbox hb;have BK351:=zA (hbox);have GW351:=zA ((by rw [hg];exact (zT (zz HB)) : w.heap.size ≤ gb351));have GE351:=zA ((by rw [hg];exact (zT (zz HB)) : w.heap.size ≤ gb351));replace HB:=zA (zJb (zz HB) hb);have NB345_351:=zA ((by rw [hg];exact Nat.ne_of_lt (blk_lt (g:=gb345) (o:=.cells #[.slice A0_0 l0_0.length c0_0] 34 (0,0)) (zx BK345)) : gb345 ≠ gb351));have NB351_345:=zA ((by rw [hg];exact Nat.ne_of_gt (blk_lt (g:=gb345) (o:=.cells #[.slice A0_0 l0_0.length c0_0] 34 (0,0)) (zx BK345)) : gb351 ≠ gb345));replace BK345:=zA (zQ (g:=gb345) (o:=.cells #[.slice A0_0 l0_0.length c0_0] 34 (0,0)) (zx BK345) hb);have NB346_351:=zA ((by rw [hg];exact Nat.ne_of_lt (blk_lt (g:=gb346) (o:=.cells #[.slice A1_0 l1_0.length c1_0,.slice (some ad350) l1_1.length c1_1] 38 (0,0)) (zx BK346)) : gb346 ≠ gb351));have NB351_346:=zA ((by rw [hg];exact Nat.ne_of_gt (blk_lt (g:=gb346) (o:=.cells #[.slice A1_0 l1_0.length c1_0,.slice (some ad350) l1_1.length c1_1] 38 (0,0)) (zx BK346)) : gb351 ≠ gb346));replace BK346:=zA (zQ (g:=gb346) (o:=.cells #[.slice A1_0 l1_0.length c1_0,.slice (some ad350) l1_1.length c1_1] 38 (0,0)) (zx BK346) hb);clear hb hbox hg;have hnb43:=NB351_345.out;have hnc43:=NB345_351.out;have hnb44:=NB351_346.out;have hnc44:=NB346_351.out;have hcz45_0:=zc (.int .i64 0) BK351 0 rfl;have hcz45_1:=zc (.slice none 0 0) BK351 1 rfl;have hfz45_0:=blk_frozen BK351.out 0;have hfz45_1:=blk_frozen BK351.out 1;have hnb46:=NB345_346.out;have hnc46:=NB346_345.out;have hcz47_0:=zc (.slice A0_0 l0_0.length c0_0) BK345 0 rfl;have hfz47_0:=blk_frozen BK345.out 0)|((with_reducible refine gate_callee (f:=59) rfl ?_);refine goesL_ (some 38) rfl rfl Tryz.func59 (by kernel_rfl) rfl #[.agg #[.slice A0_0 l0_0.length c0_0],.agg #[.int .i64 ((rd_T81 l1_1 x32_2).f0),.slice A350_1 ((rd_T81 l1_1 x32_2).f1).length c350_1]] rfl (by (try simp only [zCb,zMb,zNb]);first|done|rfl|(simp only [zLb,zDb];rfl)) ?_;(with_reducible refine (impl_IsAtom.calls k2 _ _ l0_0 ((rd_T81 l1_1 x32_2).f0) _ _ ((rd_T81 l1_1 x32_2).f1) false _ ?side1 ?side2 ?side3 ?side4 A33.out).mono ?_);(case side1 => exact zKb HR0_0.out (zz HB));(case side2 => exact HC0_0.out);(case side3 => exact zKb HR350_1.out (zz HB));(case side4 => exact HC350_1.out);rintro e w48 ⟨rfl,hb⟩;refine ⟨_,rfl,?_⟩;replace BK345:=zA (zQ (g:=gb345) (o:=.cells #[.slice A0_0 l0_0.length c0_0] 34 (0,0)) (by (with_reducible repeat (first|refine zF ?_ _|refine zI ?_|refine zG ?_ _));refine zUb ?_ NB345_351.out _;(with_reducible repeat (first|refine zF ?_ _|refine zI ?_|refine zG ?_ _));refine zUb ?_ NB345_351.out _;(with_reducible repeat (first|refine zF ?_ _|refine zI ?_|refine zG ?_ _));exact BK345.out) hb);replace BK346:=zA (zQ (g:=gb346) (o:=.cells #[.slice A1_0 l1_0.length c1_0,.slice (some ad350) l1_1.length c1_1] 38 (0,0)) (by (with_reducible repeat (first|refine zF ?_ _|refine zI ?_|refine zG ?_ _));refine zUb ?_ NB346_351.out _;(with_reducible repeat (first|refine zF ?_ _|refine zI ?_|refine zG ?_ _));refine zUb ?_ NB346_351.out _;(with_reducible repeat (first|refine zF ?_ _|refine zI ?_|refine zG ?_ _));exact BK346.out) hb);replace BK351:=zA (zQ (g:=gb351) (o:=.cells #[.int .i64 ((rd_T81 l1_1 x32_2).f0),.slice A350_1 ((rd_T81 l1_1 x32_2).f1).length c350_1] 81 (0,0)) (by (with_reducible repeat (first|refine zF ?_ _|refine zI ?_|refine zG ?_ _));refine blk_put (cs:=#[.int .i64 ((rd_T81 l1_1 x32_2).f0),.slice none 0 0]) ?_ 1 _ rfl;(with_reducible repeat (first|refine zF ?_ _|refine zI ?_|refine zG ?_ _));refine blk_put (cs:=#[.int .i64 0,.slice none 0 0]) ?_ 0 _ rfl;(with_reducible repeat (first|refine zF ?_ _|refine zI ?_|refine zG ?_ _));exact BK351.out) hb);replace HB:=zA (zJb (zz HB) hb);(try clear hb);(try clear hb2);(try clear hk);(try clear hi)))
          go_ret
          exact ⟨by first|rfl|(simp [errW_none,errW_some] <;> rfl)|(simp [*,errW_none,errW_some] <;> rfl),zz HB⟩
        ·
         rw [if_neg c32] at H
         exact absurd H (by simp)
       ·
        rw [if_neg c31] at H
        exact absurd H (by simp)
      ·
       rw [if_neg c30] at H;have c30b0:=decide_eq_false c30;clear c30;replace H:=Option.bind_eq_some_iff.mp H;obtain ⟨t353,A490,H⟩:=H;(try dsimp only at H);have A49:=zA A490;clear A490
       obtain rfl:=Option.some.inj H
       have hnb50:=NB346_345.out;have hnc50:=NB345_346.out;have hcz51_0:=zc (.slice A1_0 l1_0.length c1_0) BK346 0 rfl;have hcz51_1:=zc (.slice A1_1 l1_1.length c1_1) BK346 1 rfl;have hfz51_0:=blk_frozen BK346.out 0;have hfz51_1:=blk_frozen BK346.out 1
       go_wp2_with (first|((with_reducible refine gate_callee (f:=60) rfl ?_);refine goesL_ (some 42) rfl rfl Tryz.func60 (by kernel_rfl) rfl #[.agg #[.slice A1_0 l1_0.length c1_0,.slice A1_1 l1_1.length c1_1]] rfl (by (try simp only [zCb,zMb,zNb]);first|done|rfl|(simp only [zLb,zDb];rfl)) ?_;(with_reducible refine (impl_Query_isSafe.calls k2 _ _ l1_0 _ _ l1_1 t353 _ ?side1 ?side2 ?side3 ?side4 A49.out).mono ?_);(case side1 => exact zsd HR1_0 HB);(case side2 => exact HC1_0.out);(case side3 => exact zsd HR1_1 HB);(case side4 => exact HC1_1.out);rintro e w52 ⟨rfl,hb⟩;refine ⟨_,rfl,?_⟩;replace BK345:=zA (zQ (g:=gb345) (o:=.cells #[.slice A0_0 l0_0.length c0_0] 34 (0,0)) (zx BK345) hb);replace BK346:=zA (zQ (g:=gb346) (o:=.cells #[.slice A1_0 l1_0.length c1_0,.slice A1_1 l1_1.length c1_1] 38 (0,0)) (zx BK346) hb);replace HB:=zA (zJb (zz HB) hb);(try clear hb);(try clear hb2);(try clear hk);(try clear hi)))
       go_ret
       exact ⟨by first|rfl|(simp [errW_none,errW_some] <;> rfl)|(simp [*,errW_none,errW_some] <;> rfl),zz HB⟩

/-! ### impl_areValues: function 81 -/
def impl_areValues.l0 : Nat → List Int → Int → Int → Option (Bool)
 | 0, _, _, _ => none
 | k + 1, x5, x6, x7 => if x7 < x6 then (if 0 ≤ x7 then (if x7 < (x5.length : Int) then ((impl_within.f (rd x5 x7) 0 99).bind fun t355 => (if t355 = true then (impl_areValues.l0 k x5 x6 (wrap64 (x7 + 1))) else (some false))) else (none)) else (none)) else (some true)
def impl_areValues.f (k : Nat) (l0 : List Int) : Option (Bool) := impl_areValues.l0 k l0 (l0.length : Int) 0
set_option maxHeartbeats 8000000 in
set_option maxRecDepth 100000 in
theorem impl_areValues.calls (k : Nat) (A0 : Option Addr) (c0 : Nat) (l0 : List Int) (r : Bool) (w : World) (hr0 : Kd.C (Kd.int .i64) w A0 l0.length l0) (hc0 : l0.length ≤ c0) (h : impl_areValues.f k l0 = some r) :
  Calls Tryz.prog 81 #[.slice A0 l0.length c0] w fun e w' => e = .returned (.bool r) ∧ Drawn0 w w' := by
 have HR0:=zA hr0;have HC0:=zA hc0;clear hr0 hc0
 have H : (impl_areValues.l0 k l0 (l0.length : Int) 0) = some r:=h
 clear h
 have H':=zA H
 clear H
 go_enter Tryz.func81,Tryz.ntmps81
 go_wp2
 go_loopg [7] k (fun kq v7 w' => ∃ (x7_1 : Int),v7 = .int .i64 x7_1 ∧ Aside0 (impl_areValues.l0 kq l0 (l0.length : Int) x7_1 = some r) ∧ Aside0 (kq ≤ k) ∧ Drawn0 w w')
 case atStart => exact ⟨(0),za,H',⟨Nat.le_refl _⟩,by repeat (first|exact Drawn0.refl _|apply Drawn0.step)⟩
 case round =>
  clear H';obtain ⟨x7_1,rfl,HA,HK1,⟨m1,rfl⟩⟩:=hrel
  cases gk with
  | zero => exact absurd HA.out (by simp [impl_areValues.l0])
  | succ k1 =>
   have H:=HA.out;clear HA;simp only [impl_areValues.l0] at H
   by_cases c2 : x7_1 < (l0.length : Int)
   ·
    rw [if_pos c2] at H;have c2b0:=decide_eq_true c2;clear c2
    by_cases c3 : 0 ≤ x7_1
    ·
     rw [if_pos c3] at H;have c3b0:=decide_eq_true c3;clear c3
     by_cases c4 : x7_1 < (l0.length : Int)
     ·
      rw [if_pos c4] at H;have c4b0:=decide_eq_true c4;clear c4;replace H:=Option.bind_eq_some_iff.mp H;obtain ⟨t355,A50,H⟩:=H;(try dsimp only at H);have A5:=zA A50;clear A50
      by_cases c6 : t355 = true
      ·
       subst c6
       rw [if_pos rfl] at H
       have H':=zA H
       clear H;have p354 : 0 ≤ (x7_1 : Int):=zXb ze;have q354 : x7_1 < (l0.length : Int):=zXb ze;obtain ⟨ad354,e354,hx354_0⟩:=Kd.at_int HR0.out x7_1 p354 q354
       cases e354
       replace p354:=eq_true p354;replace q354:=eq_true q354
       go_wp2_with (first|((with_reducible refine gate_callee (f:=58) rfl ?_);refine goesL_ (some 12) rfl rfl Tryz.func58 (by kernel_rfl) rfl #[.int .i64 (rd l0 x7_1),.int .i64 0,.int .i64 99] rfl (by (try simp only [zCb,zMb,zNb]);first|done|rfl|(simp only [zLb,zDb];rfl)) ?_;(with_reducible refine (impl_within.calls (rd l0 x7_1) 0 99 true _ A5.out).mono ?_);rintro e w' ⟨rfl,⟨nd,rfl⟩⟩;refine ⟨_,rfl,?_⟩))
       go_roundg k1
       case measure => have:=HK1.out;omega
       case rel => exact ⟨(wrap64 (x7_1 + 1)),za,H',⟨by have:=HK1.out;omega⟩,by repeat (first|exact Drawn0.refl _|apply Drawn0.step)⟩
      ·
       replace c6:=Bool.eq_false_iff.mpr c6
       subst c6
       have H1 : (some false) = some r:=by rw [if_neg (show ¬ (false = true) by decide)] at H;exact H
       clear H;have H:=H1;clear H1
       obtain rfl:=Option.some.inj H
       have p354 : 0 ≤ (x7_1 : Int):=zXb ze;have q354 : x7_1 < (l0.length : Int):=zXb ze;obtain ⟨ad354,e354,hx354_0⟩:=Kd.at_int HR0.out x7_1 p354 q354
       cases e354
       replace p354:=eq_true p354;replace q354:=eq_true q354
       go_wp2_with (first|((with_reducible refine gate_callee (f:=58) rfl ?_);refine goesL_ (some 12) rfl rfl Tryz.func58 (by kernel_rfl) rfl #[.int .i64 (rd l0 x7_1),.int .i64 0,.int .i64 99] rfl (by (try simp only [zCb,zMb,zNb]);first|done|rfl|(simp only [zLb,zDb];rfl)) ?_;(with_reducible refine (impl_within.calls (rd l0 x7_1) 0 99 false _ A5.out).mono ?_);rintro e w' ⟨rfl,⟨nd,rfl⟩⟩;refine ⟨_,rfl,?_⟩))
       go_ret
       exact ⟨by first|rfl|(simp;done)|(simp [*];done),by repeat (first|exact Drawn0.refl _|apply Drawn0.step)⟩
     ·
      rw [if_neg c4] at H
      exact absurd H (by simp)
    ·
     rw [if_neg c3] at H
     exact absurd H (by simp)
   ·
    rw [if_neg c2] at H;have c2b0:=decide_eq_false c2;clear c2
    obtain rfl:=Option.some.inj H
    go_wp2
    go_ret
    exact ⟨by first|rfl|(simp;done)|(simp [*];done),by repeat (first|exact Drawn0.refl _|apply Drawn0.step)⟩

/-! ### impl_IsFact: function 61 -/
def impl_IsFact.f (k : Nat) (l0_0 : List Int) (a1_0 : Int) (l1_1 : List Int) : Option (Bool) := (impl_Schema_takes.f k l0_0 a1_0 (l1_1.length : Int)).bind fun t358 => (if t358 = true then ((impl_areValues.f k l1_1).bind fun t359 => (some t359)) else (some false))
set_option maxHeartbeats 8000000 in
set_option maxRecDepth 100000 in
theorem impl_IsFact.calls (k : Nat) (A0_0 : Option Addr) (c0_0 : Nat) (l0_0 : List Int) (a1_0 : Int) (A1_1 : Option Addr) (c1_1 : Nat) (l1_1 : List Int) (r : Bool) (w : World) (hr0_0 : Kd.C (Kd.int .i64) w A0_0 l0_0.length l0_0) (hc0_0 : l0_0.length ≤ c0_0) (hr1_1 : Kd.C (Kd.int .i64) w A1_1 l1_1.length l1_1) (hc1_1 : l1_1.length ≤ c1_1) (h : impl_IsFact.f k l0_0 a1_0 l1_1 = some r) :
  Calls Tryz.prog 61 #[.agg #[.slice A0_0 l0_0.length c0_0], .agg #[.int .i64 a1_0, .slice A1_1 l1_1.length c1_1]] w fun e w' => e = .returned (.bool r) ∧ Below w.heap.size w w' := by
 have hu34:=Tryz.underlying34;have hu64:=Tryz.underlying64;have HR0_0:=zA hr0_0;have HC0_0:=zA hc0_0;clear hr0_0 hc0_0;have HR1_1:=zA hr1_1;have HC1_1:=zA hc1_1;clear hr1_1 hc1_1;have HB:=zA (Below.refl w.heap.size w)
 have H : ((impl_Schema_takes.f k l0_0 a1_0 (l1_1.length : Int)).bind fun t358 => (if t358 = true then ((impl_areValues.f k l1_1).bind fun t359 => (some t359)) else (some false))) = some r:=h
 clear h;replace H:=Option.bind_eq_some_iff.mp H;obtain ⟨t358,A30,H⟩:=H;(try dsimp only at H);have A3:=zA A30;clear A30
 by_cases c4 : t358 = true
 ·
  subst c4
  rw [if_pos rfl] at H;replace H:=Option.bind_eq_some_iff.mp H;obtain ⟨t359,A50,H⟩:=H;(try dsimp only at H);have A5:=zA A50;clear A50
  obtain rfl:=Option.some.inj H
  go_enter Tryz.func61,Tryz.ntmps61
  go_wp2_with (first|((with_reducible refine gate_dst (N:=2) rfl ?_);refine box_event ?hg (N:=2) ?hd (cs:=#[.slice A0_0 l0_0.length c0_0]) (t:=34) ?hr ?_;(case hd => rfl);(case hg => rfl);(case hr => first|(go_simp;done)|(go_simp;rfl));intro gb356 hg w6 hbox hb;have BK356:=zA (hbox);have GW356:=zA ((by rw [hg];exact (zT (zz HB)) : w.heap.size ≤ gb356));have GE356:=zA ((by rw [hg];exact (zT (zz HB)) : w.heap.size ≤ gb356));replace HB:=zA (zJb (zz HB) hb);clear hb hbox hg)|((with_reducible refine gate_dst (N:=3) rfl ?_);refine box_event ?hg (N:=3) ?hd (cs:=#[.int .i64 a1_0,.slice A1_1 l1_1.length c1_1]) (t:=64) ?hr ?_;(case hd => rfl);(case hg => rfl);(case hr => first|(go_simp;done)|(go_simp;rfl));intro gb357 hg w7 hbox hb;have BK357:=zA (hbox);have GW357:=zA ((by rw [hg];exact (zT (zz HB)) : w.heap.size ≤ gb357));have GE357:=zA ((by rw [hg];exact (zT (zz HB)) : w.heap.size ≤ gb357));replace HB:=zA (zJb (zz HB) hb);have NB356_357:=zA ((by rw [hg];exact Nat.ne_of_lt (blk_lt (g:=gb356) (o:=.cells #[.slice A0_0 l0_0.length c0_0] 34 (0,0)) (zx BK356)) : gb356 ≠ gb357));have NB357_356:=zA ((by rw [hg];exact Nat.ne_of_gt (blk_lt (g:=gb356) (o:=.cells #[.slice A0_0 l0_0.length c0_0] 34 (0,0)) (zx BK356)) : gb357 ≠ gb356));replace BK356:=zA (zQ (g:=gb356) (o:=.cells #[.slice A0_0 l0_0.length c0_0] 34 (0,0)) (zx BK356) hb);clear hb hbox hg;have hnb8:=NB356_357.out;have hnc8:=NB357_356.out;have hcz9_0:=zc (.slice A0_0 l0_0.length c0_0) BK356 0 rfl;have hfz9_0:=blk_frozen BK356.out 0;have hcz10_0:=zc (.int .i64 a1_0) BK357 0 rfl;have hcz10_1:=zc (.slice A1_1 l1_1.length c1_1) BK357 1 rfl;have hfz10_0:=blk_frozen BK357.out 0;have hfz10_1:=blk_frozen BK357.out 1)|((with_reducible refine gate_callee (f:=78) rfl ?_);refine goesL_ (some 11) rfl rfl Tryz.func78 (by kernel_rfl) rfl #[.agg #[.slice A0_0 l0_0.length c0_0],.int .i64 a1_0,.int .i64 (l1_1.length : Int)] rfl (by (try simp only [zCb,zMb,zNb]);first|done|rfl|(simp only [zLb,zDb];rfl)) ?_;(with_reducible refine (impl_Schema_takes.calls k _ _ l0_0 a1_0 (l1_1.length : Int) true _ ?side1 ?side2 A3.out).mono ?_);(case side1 => exact zsd HR0_0 HB);(case side2 => exact HC0_0.out);rintro e w11 ⟨rfl,hb⟩;refine ⟨_,rfl,?_⟩;replace BK356:=zA (zQ (g:=gb356) (o:=.cells #[.slice A0_0 l0_0.length c0_0] 34 (0,0)) (zx BK356) hb);replace BK357:=zA (zQ (g:=gb357) (o:=.cells #[.int .i64 a1_0,.slice A1_1 l1_1.length c1_1] 64 (0,0)) (zx BK357) hb);replace HB:=zA (zJb (zz HB) hb);(try clear hb);(try clear hb2);(try clear hk);(try clear hi);have hcz12_0:=zc (.int .i64 a1_0) BK357 0 rfl;have hcz12_1:=zc (.slice A1_1 l1_1.length c1_1) BK357 1 rfl;have hfz12_0:=blk_frozen BK357.out 0;have hfz12_1:=blk_frozen BK357.out 1)|(go_at_call 81;(with_reducible refine (impl_areValues.calls k _ _ l1_1 t359 _ ?side1 ?side2 A5.out).mono ?_);(case side1 => exact zsd HR1_1 HB);(case side2 => exact HC1_1.out);rintro e w' ⟨rfl,⟨nd,rfl⟩⟩))
  go_ret
  exact ⟨by first|rfl|(simp [errW_none,errW_some] <;> rfl)|(simp [*,errW_none,errW_some] <;> rfl),zz HB⟩
 ·
  replace c4:=Bool.eq_false_iff.mpr c4
  subst c4
  have H1 : (some false) = some r:=by rw [if_neg (show ¬ (false = true) by decide)] at H;exact H
  clear H;have H:=H1;clear H1
  obtain rfl:=Option.some.inj H
  go_enter Tryz.func61,Tryz.ntmps61
  go_wp2_with (first|((with_reducible refine gate_dst (N:=2) rfl ?_);refine box_event ?hg (N:=2) ?hd (cs:=#[.slice A0_0 l0_0.length c0_0]) (t:=34) ?hr ?_;(case hd => rfl);(case hg => rfl);(case hr => first|(go_simp;done)|(go_simp;rfl));intro gb356 hg w13 hbox hb;have BK356:=zA (hbox);have GW356:=zA ((by rw [hg];exact (zT (zz HB)) : w.heap.size ≤ gb356));have GE356:=zA ((by rw [hg];exact (zT (zz HB)) : w.heap.size ≤ gb356));replace HB:=zA (zJb (zz HB) hb);clear hb hbox hg)|((with_reducible refine gate_dst (N:=3) rfl ?_);refine box_event ?hg (N:=3) ?hd (cs:=#[.int .i64 a1_0,.slice A1_1 l1_1.length c1_1]) (t:=64) ?hr ?_;(case hd => rfl);(case hg => rfl);(case hr => first|(go_simp;done)|(go_simp;rfl));intro gb357 hg w14 hbox hb;have BK357:=zA (hbox);have GW357:=zA ((by rw [hg];exact (zT (zz HB)) : w.heap.size ≤ gb357));have GE357:=zA ((by rw [hg];exact (zT (zz HB)) : w.heap.size ≤ gb357));replace HB:=zA (zJb (zz HB) hb);have NB356_357:=zA ((by rw [hg];exact Nat.ne_of_lt (blk_lt (g:=gb356) (o:=.cells #[.slice A0_0 l0_0.length c0_0] 34 (0,0)) (zx BK356)) : gb356 ≠ gb357));have NB357_356:=zA ((by rw [hg];exact Nat.ne_of_gt (blk_lt (g:=gb356) (o:=.cells #[.slice A0_0 l0_0.length c0_0] 34 (0,0)) (zx BK356)) : gb357 ≠ gb356));replace BK356:=zA (zQ (g:=gb356) (o:=.cells #[.slice A0_0 l0_0.length c0_0] 34 (0,0)) (zx BK356) hb);clear hb hbox hg;have hnb15:=NB356_357.out;have hnc15:=NB357_356.out;have hcz16_0:=zc (.slice A0_0 l0_0.length c0_0) BK356 0 rfl;have hfz16_0:=blk_frozen BK356.out 0;have hcz17_0:=zc (.int .i64 a1_0) BK357 0 rfl;have hcz17_1:=zc (.slice A1_1 l1_1.length c1_1) BK357 1 rfl;have hfz17_0:=blk_frozen BK357.out 0;have hfz17_1:=blk_frozen BK357.out 1)|((with_reducible refine gate_callee (f:=78) rfl ?_);refine goesL_ (some 11) rfl rfl Tryz.func78 (by kernel_rfl) rfl #[.agg #[.slice A0_0 l0_0.length c0_0],.int .i64 a1_0,.int .i64 (l1_1.length : Int)] rfl (by (try simp only [zCb,zMb,zNb]);first|done|rfl|(simp only [zLb,zDb];rfl)) ?_;(with_reducible refine (impl_Schema_takes.calls k _ _ l0_0 a1_0 (l1_1.length : Int) false _ ?side1 ?side2 A3.out).mono ?_);(case side1 => exact zsd HR0_0 HB);(case side2 => exact HC0_0.out);rintro e w18 ⟨rfl,hb⟩;refine ⟨_,rfl,?_⟩;replace BK356:=zA (zQ (g:=gb356) (o:=.cells #[.slice A0_0 l0_0.length c0_0] 34 (0,0)) (zx BK356) hb);replace BK357:=zA (zQ (g:=gb357) (o:=.cells #[.int .i64 a1_0,.slice A1_1 l1_1.length c1_1] 64 (0,0)) (zx BK357) hb);replace HB:=zA (zJb (zz HB) hb);(try clear hb);(try clear hb2);(try clear hk);(try clear hi)))
  go_ret
  exact ⟨by first|rfl|(simp [errW_none,errW_some] <;> rfl)|(simp [*,errW_none,errW_some] <;> rfl),zz HB⟩

end Go.Proofs.YtfelabhakgcifaaGreat.QFnExactAnswers
