/- Walks through the Go functions that FnExactCountAnswers reaches: each call returns what the Lean function beside it says, within the bounds that the theorem names. -/
import Derived.Test.YtfelabhakgcifaaGreatQFnExactCountAnswersx0
import Derived.Test.YtfelabhakgcifaaGreatQFnExactCountAnswersx14
namespace Go.Proofs.YtfelabhakgcifaaGreat.QFnExactCountAnswers
open Go.RowKit Go.Proofs.YtfelabhakgcifaaGreatW.PrintWords Go.Proofs.YtfelabhakgcifaaGreatW.PrintLast Go.Proofs.YtfelabhakgcifaaGreatW.PrintMore
attribute [local go_sem] max2_int min2_int max_two min_two max_three min_three max_four min_four   -- for this text's walks alone
set_option linter.unusedVariables false
set_option linter.unusedSimpArgs false


/-! ### impl_IsAtom: function 59 -/
def impl_IsAtom.f (k : Nat) (l0_0 : List Int) (a1_0 : Int) (l1_1 : List Int) : Option (Bool) := (impl_Schema_takes.f k l0_0 a1_0 (l1_1.length : Int)).bind fun t360 => (if t360 = true then ((impl_areTerms.f k l1_1).bind fun t361 => (some t361)) else (some false))
set_option maxHeartbeats 8000000 in
set_option maxRecDepth 100000 in
theorem impl_IsAtom.calls (k : Nat) (A0_0 : Option Addr) (c0_0 : Nat) (l0_0 : List Int) (a1_0 : Int) (A1_1 : Option Addr) (c1_1 : Nat) (l1_1 : List Int) (r : Bool) (w : World) (hr0_0 : Kd.C (Kd.int .i64) w A0_0 l0_0.length l0_0) (hc0_0 : l0_0.length ≤ c0_0) (hr1_1 : Kd.C (Kd.int .i64) w A1_1 l1_1.length l1_1) (hc1_1 : l1_1.length ≤ c1_1) (h : impl_IsAtom.f k l0_0 a1_0 l1_1 = some r) :
  Calls Tryz.prog 59 #[.agg #[.slice A0_0 l0_0.length c0_0], .agg #[.int .i64 a1_0, .slice A1_1 l1_1.length c1_1]] w fun e w' => e = .returned (.bool r) ∧ Below w.heap.size w w' := by
 have hu34:=Tryz.underlying34;have hu81:=Tryz.underlying81;have HR0_0:=zA hr0_0;have HC0_0:=zA hc0_0;clear hr0_0 hc0_0;have HR1_1:=zA hr1_1;have HC1_1:=zA hc1_1;clear hr1_1 hc1_1;have HB:=zA (Below.refl w.heap.size w)
 have H : ((impl_Schema_takes.f k l0_0 a1_0 (l1_1.length : Int)).bind fun t360 => (if t360 = true then ((impl_areTerms.f k l1_1).bind fun t361 => (some t361)) else (some false))) = some r:=h
 clear h;replace H:=Option.bind_eq_some_iff.mp H;obtain ⟨t360,A30,H⟩:=H;(try dsimp only at H);have A3:=zA A30;clear A30
 by_cases c4 : t360 = true
 ·
  subst c4
  rw [if_pos rfl] at H;replace H:=Option.bind_eq_some_iff.mp H;obtain ⟨t361,A50,H⟩:=H;(try dsimp only at H);have A5:=zA A50;clear A50
  obtain rfl:=Option.some.inj H
  go_enter Tryz.func59,Tryz.ntmps59
  go_wp2_with (first|((with_reducible refine gate_dst (N:=2) rfl ?_);refine box_event ?hg (N:=2) ?hd (cs:=#[.slice A0_0 l0_0.length c0_0]) (t:=34) ?hr ?_;(case hd => rfl);(case hg => rfl);(case hr => first|(go_simp;done)|(go_simp;rfl));intro gb358 hg w6 hbox hb;have BK358:=zA (hbox);have GW358:=zA ((by rw [hg];exact (zT (zz HB)) : w.heap.size ≤ gb358));have GE358:=zA ((by rw [hg];exact (zT (zz HB)) : w.heap.size ≤ gb358));replace HB:=zA (zJb (zz HB) hb);clear hb hbox hg)|((with_reducible refine gate_dst (N:=3) rfl ?_);refine box_event ?hg (N:=3) ?hd (cs:=#[.int .i64 a1_0,.slice A1_1 l1_1.length c1_1]) (t:=81) ?hr ?_;(case hd => rfl);(case hg => rfl);(case hr => first|(go_simp;done)|(go_simp;rfl));intro gb359 hg w7 hbox hb;have BK359:=zA (hbox);have GW359:=zA ((by rw [hg];exact (zT (zz HB)) : w.heap.size ≤ gb359));have GE359:=zA ((by rw [hg];exact (zT (zz HB)) : w.heap.size ≤ gb359));replace HB:=zA (zJb (zz HB) hb);have NB358_359:=zA ((by rw [hg];exact Nat.ne_of_lt (blk_lt (g:=gb358) (o:=.cells #[.slice A0_0 l0_0.length c0_0] 34 (0,0)) (zx BK358)) : gb358 ≠ gb359));have NB359_358:=zA ((by rw [hg];exact Nat.ne_of_gt (blk_lt (g:=gb358) (o:=.cells #[.slice A0_0 l0_0.length c0_0] 34 (0,0)) (zx BK358)) : gb359 ≠ gb358));replace BK358:=zA (zQ (g:=gb358) (o:=.cells #[.slice A0_0 l0_0.length c0_0] 34 (0,0)) (zx BK358) hb);clear hb hbox hg;have hnb8:=NB358_359.out;have hnc8:=NB359_358.out;have hcz9_0:=zc (.slice A0_0 l0_0.length c0_0) BK358 0 rfl;have hfz9_0:=blk_frozen BK358.out 0;have hcz10_0:=zc (.int .i64 a1_0) BK359 0 rfl;have hcz10_1:=zc (.slice A1_1 l1_1.length c1_1) BK359 1 rfl;have hfz10_0:=blk_frozen BK359.out 0;have hfz10_1:=blk_frozen BK359.out 1)|((with_reducible refine gate_callee (f:=78) rfl ?_);refine goesL_ (some 11) rfl rfl Tryz.func78 (by kernel_rfl) rfl #[.agg #[.slice A0_0 l0_0.length c0_0],.int .i64 a1_0,.int .i64 (l1_1.length : Int)] rfl (by (try simp only [zCb,zMb,zNb]);first|done|rfl|(simp only [zLb,zDb];rfl)) ?_;(with_reducible refine (impl_Schema_takes.calls k _ _ l0_0 a1_0 (l1_1.length : Int) true _ ?side1 ?side2 A3.out).mono ?_);(case side1 => exact zsd HR0_0 HB);(case side2 => exact HC0_0.out);rintro e w11 ⟨rfl,hb⟩;refine ⟨_,rfl,?_⟩;replace BK358:=zA (zQ (g:=gb358) (o:=.cells #[.slice A0_0 l0_0.length c0_0] 34 (0,0)) (zx BK358) hb);replace BK359:=zA (zQ (g:=gb359) (o:=.cells #[.int .i64 a1_0,.slice A1_1 l1_1.length c1_1] 81 (0,0)) (zx BK359) hb);replace HB:=zA (zJb (zz HB) hb);(try clear hb);(try clear hb2);(try clear hk);(try clear hi);have hcz12_0:=zc (.int .i64 a1_0) BK359 0 rfl;have hcz12_1:=zc (.slice A1_1 l1_1.length c1_1) BK359 1 rfl;have hfz12_0:=blk_frozen BK359.out 0;have hfz12_1:=blk_frozen BK359.out 1)|(go_at_call 57;(with_reducible refine (impl_areTerms.calls k _ _ l1_1 t361 _ ?side1 ?side2 A5.out).mono ?_);(case side1 => exact zsd HR1_1 HB);(case side2 => exact HC1_1.out);rintro e w' ⟨rfl,⟨nd,rfl⟩⟩))
  go_ret
  exact ⟨by first|rfl|(simp [errW_none,errW_some] <;> rfl)|(simp [*,errW_none,errW_some] <;> rfl),zz HB⟩
 ·
  replace c4:=Bool.eq_false_iff.mpr c4
  subst c4
  have H1 : (some false) = some r:=by rw [if_neg (show ¬ (false = true) by decide)] at H;exact H
  clear H;have H:=H1;clear H1
  obtain rfl:=Option.some.inj H
  go_enter Tryz.func59,Tryz.ntmps59
  go_wp2_with (first|((with_reducible refine gate_dst (N:=2) rfl ?_);refine box_event ?hg (N:=2) ?hd (cs:=#[.slice A0_0 l0_0.length c0_0]) (t:=34) ?hr ?_;(case hd => rfl);(case hg => rfl);(case hr => first|(go_simp;done)|(go_simp;rfl));intro gb358 hg w13 hbox hb;have BK358:=zA (hbox);have GW358:=zA ((by rw [hg];exact (zT (zz HB)) : w.heap.size ≤ gb358));have GE358:=zA ((by rw [hg];exact (zT (zz HB)) : w.heap.size ≤ gb358));replace HB:=zA (zJb (zz HB) hb);clear hb hbox hg)|((with_reducible refine gate_dst (N:=3) rfl ?_);refine box_event ?hg (N:=3) ?hd (cs:=#[.int .i64 a1_0,.slice A1_1 l1_1.length c1_1]) (t:=81) ?hr ?_;(case hd => rfl);(case hg => rfl);(case hr => first|(go_simp;done)|(go_simp;rfl));intro gb359 hg w14 hbox hb;have BK359:=zA (hbox);have GW359:=zA ((by rw [hg];exact (zT (zz HB)) : w.heap.size ≤ gb359));have GE359:=zA ((by rw [hg];exact (zT (zz HB)) : w.heap.size ≤ gb359));replace HB:=zA (zJb (zz HB) hb);have NB358_359:=zA ((by rw [hg];exact Nat.ne_of_lt (blk_lt (g:=gb358) (o:=.cells #[.slice A0_0 l0_0.length c0_0] 34 (0,0)) (zx BK358)) : gb358 ≠ gb359));have NB359_358:=zA ((by rw [hg];exact Nat.ne_of_gt (blk_lt (g:=gb358) (o:=.cells #[.slice A0_0 l0_0.length c0_0] 34 (0,0)) (zx BK358)) : gb359 ≠ gb358));replace BK358:=zA (zQ (g:=gb358) (o:=.cells #[.slice A0_0 l0_0.length c0_0] 34 (0,0)) (zx BK358) hb);clear hb hbox hg;have hnb15:=NB358_359.out;have hnc15:=NB359_358.out;have hcz16_0:=zc (.slice A0_0 l0_0.length c0_0) BK358 0 rfl;have hfz16_0:=blk_frozen BK358.out 0;have hcz17_0:=zc (.int .i64 a1_0) BK359 0 rfl;have hcz17_1:=zc (.slice A1_1 l1_1.length c1_1) BK359 1 rfl;have hfz17_0:=blk_frozen BK359.out 0;have hfz17_1:=blk_frozen BK359.out 1)|((with_reducible refine gate_callee (f:=78) rfl ?_);refine goesL_ (some 11) rfl rfl Tryz.func78 (by kernel_rfl) rfl #[.agg #[.slice A0_0 l0_0.length c0_0],.int .i64 a1_0,.int .i64 (l1_1.length : Int)] rfl (by (try simp only [zCb,zMb,zNb]);first|done|rfl|(simp only [zLb,zDb];rfl)) ?_;(with_reducible refine (impl_Schema_takes.calls k _ _ l0_0 a1_0 (l1_1.length : Int) false _ ?side1 ?side2 A3.out).mono ?_);(case side1 => exact zsd HR0_0 HB);(case side2 => exact HC0_0.out);rintro e w18 ⟨rfl,hb⟩;refine ⟨_,rfl,?_⟩;replace BK358:=zA (zQ (g:=gb358) (o:=.cells #[.slice A0_0 l0_0.length c0_0] 34 (0,0)) (zx BK358) hb);replace BK359:=zA (zQ (g:=gb359) (o:=.cells #[.int .i64 a1_0,.slice A1_1 l1_1.length c1_1] 81 (0,0)) (zx BK359) hb);replace HB:=zA (zJb (zz HB) hb);(try clear hb);(try clear hb2);(try clear hk);(try clear hi)))
  go_ret
  exact ⟨by first|rfl|(simp [errW_none,errW_some] <;> rfl)|(simp [*,errW_none,errW_some] <;> rfl),zz HB⟩

/-! ### impl_IsVar: function 79 -/
def impl_IsVar.f (a0 : Int) : Option (Bool) := (impl_within.f a0 0 19).bind fun t362 => (some t362)
set_option maxHeartbeats 8000000 in
set_option maxRecDepth 100000 in
theorem impl_IsVar.calls (a0 : Int) (r : Bool) (w : World) (h : impl_IsVar.f a0 = some r) :
  Calls Tryz.prog 79 #[.int .i64 a0] w fun e w' => e = .returned (.bool r) ∧ Drawn0 w w' := by
 have H : ((impl_within.f a0 0 19).bind fun t362 => (some t362)) = some r:=h
 clear h;replace H:=Option.bind_eq_some_iff.mp H;obtain ⟨t362,A20,H⟩:=H;(try dsimp only at H);have A2:=zA A20;clear A20
 obtain rfl:=Option.some.inj H
 go_enter Tryz.func79,Tryz.ntmps79
 go_wp2_with (first|((with_reducible refine gate_callee (f:=58) rfl ?_);refine goesL_ (some 4) rfl rfl Tryz.func58 (by kernel_rfl) rfl #[.int .i64 a0,.int .i64 0,.int .i64 19] rfl (by (try simp only [zCb,zMb,zNb]);first|done|rfl|(simp only [zLb,zDb];rfl)) ?_;(with_reducible refine (impl_within.calls a0 0 19 t362 _ A2.out).mono ?_);rintro e w' ⟨rfl,⟨nd,rfl⟩⟩;refine ⟨_,rfl,?_⟩))
 go_ret
 exact ⟨by first|rfl|(simp;done)|(simp [*];done),by repeat (first|exact Drawn0.refl _|apply Drawn0.step)⟩

/-! ### slices_Index_int_int: function 108 -/
def slices_Index_int_int.l0 : Nat → List Int → Int → Int → Int → Option (Int)
 | 0, _, _, _, _ => none
 | k + 1, x0, x1, x7, x8 => if x8 < x7 then (if 0 ≤ x8 then (if x8 < (x0.length : Int) then (if x1 = (rd x0 x8) then (some x8) else (slices_Index_int_int.l0 k x0 x1 x7 (wrap64 (x8 + 1)))) else (none)) else (none)) else (some (-1))
def slices_Index_int_int.f (k : Nat) (l0 : List Int) (a1 : Int) : Option (Int) := slices_Index_int_int.l0 k l0 a1 (l0.length : Int) 0
set_option maxHeartbeats 8000000 in
set_option maxRecDepth 100000 in
theorem slices_Index_int_int.calls (k : Nat) (A0 : Option Addr) (c0 : Nat) (l0 : List Int) (a1 : Int) (r : Int) (w : World) (hr0 : Kd.C (Kd.int .i64) w A0 l0.length l0) (hc0 : l0.length ≤ c0) (h : slices_Index_int_int.f k l0 a1 = some r) :
  Calls Tryz.prog 108 #[.slice A0 l0.length c0, .int .i64 a1] w fun e w' => e = .returned (.int .i64 r) ∧ Drawn0 w w' := by
 have HR0:=zA hr0;have HC0:=zA hc0;clear hr0 hc0
 have H : (slices_Index_int_int.l0 k l0 a1 (l0.length : Int) 0) = some r:=h
 clear h
 have H':=zA H
 clear H
 go_enter Tryz.func108,Tryz.ntmps108
 go_wp2
 go_loopg [8] k (fun kq v8 w' => ∃ (x8_1 : Int),v8 = .int .i64 x8_1 ∧ Aside0 (slices_Index_int_int.l0 kq l0 a1 (l0.length : Int) x8_1 = some r) ∧ Aside0 (kq ≤ k) ∧ Drawn0 w w')
 case atStart => exact ⟨(0),za,H',⟨Nat.le_refl _⟩,by repeat (first|exact Drawn0.refl _|apply Drawn0.step)⟩
 case round =>
  clear H';(try clear c1);(try clear p2);obtain ⟨x8_1,rfl,HA,HK1,⟨m1,rfl⟩⟩:=hrel
  cases gk with
  | zero => exact absurd HA.out (by simp [slices_Index_int_int.l0])
  | succ k1 =>
   have H:=HA.out;clear HA;simp only [slices_Index_int_int.l0] at H
   by_cases c3 : x8_1 < (l0.length : Int)
   ·
    rw [if_pos c3] at H;have c3b0:=decide_eq_true c3;clear c3
    by_cases c4 : 0 ≤ x8_1
    ·
     rw [if_pos c4] at H;have c4b0:=decide_eq_true c4;clear c4
     by_cases c5 : x8_1 < (l0.length : Int)
     ·
      rw [if_pos c5] at H;have c5b0:=decide_eq_true c5;clear c5
      by_cases c6 : a1 = (rd l0 x8_1)
      ·
       rw [if_pos c6] at H;have c6b0:=beq_iff_eq.mpr c6;have c6b1:=bne_eq_false_iff_eq.mpr c6;clear c6
       obtain rfl:=Option.some.inj H
       have p363 : 0 ≤ (x8_1 : Int):=zXb ze;have q363 : x8_1 < (l0.length : Int):=zXb ze;obtain ⟨ad363,e363,hx363_0⟩:=Kd.at_int HR0.out x8_1 p363 q363
       cases e363
       replace p363:=eq_true p363;replace q363:=eq_true q363
       go_wp2
       go_ret
       exact ⟨by first|rfl|(simp;done)|(simp [*];done),by repeat (first|exact Drawn0.refl _|apply Drawn0.step)⟩
      ·
       rw [if_neg c6] at H;have c6b0:=beq_eq_false_iff_ne.mpr c6;have c6b1:=bne_iff_ne.mpr c6
       have H':=zA H
       clear H;have p363 : 0 ≤ (x8_1 : Int):=zXb ze;have q363 : x8_1 < (l0.length : Int):=zXb ze;obtain ⟨ad363,e363,hx363_0⟩:=Kd.at_int HR0.out x8_1 p363 q363
       cases e363
       replace p363:=eq_true p363;replace q363:=eq_true q363
       go_wp2
       go_roundg k1
       case measure => have:=HK1.out;omega
       case rel => exact ⟨(wrap64 (x8_1 + 1)),za,H',⟨by have:=HK1.out;omega⟩,by repeat (first|exact Drawn0.refl _|apply Drawn0.step)⟩
     ·
      rw [if_neg c5] at H
      exact absurd H (by simp)
    ·
     rw [if_neg c4] at H
     exact absurd H (by simp)
   ·
    rw [if_neg c3] at H;have c3b0:=decide_eq_false c3;clear c3
    obtain rfl:=Option.some.inj H
    go_wp2
    go_ret
    exact ⟨by first|rfl|(simp;done)|(simp [*];done),by repeat (first|exact Drawn0.refl _|apply Drawn0.step)⟩

/-! ### slices_Contains_int_int: function 94 -/
def slices_Contains_int_int.f (k : Nat) (l0 : List Int) (a1 : Int) : Option (Bool) := (slices_Index_int_int.f k l0 a1).bind fun t364 => (some (decide (t364 ≥ 0)))
set_option maxHeartbeats 8000000 in
set_option maxRecDepth 100000 in
theorem slices_Contains_int_int.calls (k : Nat) (A0 : Option Addr) (c0 : Nat) (l0 : List Int) (a1 : Int) (r : Bool) (w : World) (hr0 : Kd.C (Kd.int .i64) w A0 l0.length l0) (hc0 : l0.length ≤ c0) (h : slices_Contains_int_int.f k l0 a1 = some r) :
  Calls Tryz.prog 94 #[.slice A0 l0.length c0, .int .i64 a1] w fun e w' => e = .returned (.bool r) ∧ Drawn0 w w' := by
 have HR0:=zA hr0;have HC0:=zA hc0;clear hr0 hc0
 have H : ((slices_Index_int_int.f k l0 a1).bind fun t364 => (some (decide (t364 ≥ 0)))) = some r:=h
 clear h;replace H:=Option.bind_eq_some_iff.mp H;obtain ⟨t364,A30,H⟩:=H;(try dsimp only at H);have A3:=zA A30;clear A30
 obtain rfl:=Option.some.inj H
 go_enter Tryz.func94,Tryz.ntmps94
 go_wp2_with (first|((with_reducible refine gate_callee (f:=108) rfl ?_);refine goesL_ (some 7) rfl rfl Tryz.func108 (by kernel_rfl) rfl #[.slice A0 l0.length c0,.int .i64 a1] rfl (by (try simp only [zCb,zMb,zNb]);first|done|rfl|(simp only [zLb,zDb];rfl)) ?_;(with_reducible refine (slices_Index_int_int.calls k _ _ l0 a1 t364 _ ?side1 ?side2 A3.out).mono ?_);(case side1 => repeat (first|exact HR0.out|(with_reducible refine zBb ?_ _)|(with_reducible refine zAb ?_ _)|(with_reducible refine zX ?_)));(case side2 => exact HC0.out);rintro e w' ⟨rfl,⟨nd,rfl⟩⟩;refine ⟨_,rfl,?_⟩))
 go_ret
 exact ⟨by first|rfl|(simp;done)|(simp [*];done),by repeat (first|exact Drawn0.refl _|apply Drawn0.step)⟩

/-! ### impl_Query_occurs: function 80 -/
def impl_Query_occurs.l0 : Nat → Int → List (S81) → Int → Int → Option (Bool)
 | 0, _, _, _, _ => none
 | k + 1, x1, x8, x9, x10 => if x10 < x9 then (if 0 ≤ x10 then (if x10 < (x8.length : Int) then ((slices_Contains_int_int.f k ((rd_T81 x8 x10).f1) x1).bind fun t368 => (if t368 = true then (some true) else (impl_Query_occurs.l0 k x1 x8 x9 (wrap64 (x10 + 1))))) else (none)) else (none)) else (some false)
def impl_Query_occurs.f (k : Nat) (l0_0 : List Int) (l0_1 : List (S81)) (a1 : Int) : Option (Bool) := impl_Query_occurs.l0 k a1 l0_1 (l0_1.length : Int) 0
set_option maxHeartbeats 8000000 in
set_option maxRecDepth 100000 in
theorem impl_Query_occurs.calls (k : Nat) (A0_0 : Option Addr) (c0_0 : Nat) (l0_0 : List Int) (A0_1 : Option Addr) (c0_1 : Nat) (l0_1 : List (S81)) (a1 : Int) (r : Bool) (w : World) (hr0_0 : Kd.C (Kd.int .i64) w A0_0 l0_0.length l0_0) (hc0_0 : l0_0.length ≤ c0_0) (hr0_1 : Kd.C k81 w A0_1 l0_1.length l0_1) (hc0_1 : l0_1.length ≤ c0_1) (h : impl_Query_occurs.f k l0_0 l0_1 a1 = some r) :
  Calls Tryz.prog 80 #[.agg #[.slice A0_0 l0_0.length c0_0, .slice A0_1 l0_1.length c0_1], .int .i64 a1] w fun e w' => e = .returned (.bool r) ∧ Below w.heap.size w w' := by
 have hu38:=Tryz.underlying38;have hu81:=Tryz.underlying81;have HR0_0:=zA hr0_0;have HC0_0:=zA hc0_0;clear hr0_0 hc0_0;have HR0_1:=zA hr0_1;have HC0_1:=zA hc0_1;clear hr0_1 hc0_1;have HB:=zA (Below.refl w.heap.size w)
 have H : (impl_Query_occurs.l0 k a1 l0_1 (l0_1.length : Int) 0) = some r:=h
 clear h
 have H':=zA H
 clear H
 go_enter Tryz.func80,Tryz.ntmps80
 go_wp2_with (first|((with_reducible refine gate_dst (N:=2) rfl ?_);refine box_event ?hg (N:=2) ?hd (cs:=#[.slice A0_0 l0_0.length c0_0,.slice A0_1 l0_1.length c0_1]) (t:=38) ?hr ?_;(case hd => rfl);(case hg => rfl);(case hr => first|(go_simp;done)|(go_simp;rfl));intro gb365 hg w3 hbox hb;have BK365:=zA (hbox);have GW365:=zA ((by rw [hg];exact (zT (zz HB)) : w.heap.size ≤ gb365));have GE365:=zA ((by rw [hg];exact (zT (zz HB)) : w.heap.size ≤ gb365));replace HB:=zA (zJb (zz HB) hb);clear hb hbox hg;have hcz4_0:=zc (.slice A0_0 l0_0.length c0_0) BK365 0 rfl;have hcz4_1:=zc (.slice A0_1 l0_1.length c0_1) BK365 1 rfl;have hfz4_0:=blk_frozen BK365.out 0;have hfz4_1:=blk_frozen BK365.out 1))
 go_loopg [10] k (fun kq v10 w' => ∃ (x10_1 : Int),v10 = .int .i64 x10_1 ∧ Aside0 (impl_Query_occurs.l0 kq a1 l0_1 (l0_1.length : Int) x10_1 = some r) ∧ Aside0 (kq ≤ k) ∧ Aside0 (w'.heap[gb365]? = some (.cells #[(.slice A0_0 l0_0.length c0_0),(.slice A0_1 l0_1.length c0_1)] 38 (0,0))) ∧ Aside0 (Below w.heap.size w w'))
 case atStart => exact ⟨(0),za,H',⟨Nat.le_refl _⟩,⟨zx BK365⟩,⟨zz HB⟩⟩
 case round =>
  clear H';(try clear p2);(try clear hcz4_0);(try clear hcz4_1);(try clear hfz4_0);(try clear hfz4_1);obtain ⟨x10_1,rfl,HA,HK1,BK365,HB⟩:=hrel
  cases gk with
  | zero => exact absurd HA.out (by simp [impl_Query_occurs.l0])
  | succ k1 =>
   have H:=HA.out;clear HA;simp only [impl_Query_occurs.l0] at H
   by_cases c5 : x10_1 < (l0_1.length : Int)
   ·
    rw [if_pos c5] at H;have c5b0:=decide_eq_true c5;clear c5
    by_cases c6 : 0 ≤ x10_1
    ·
     rw [if_pos c6] at H;have c6b0:=decide_eq_true c6;clear c6
     by_cases c7 : x10_1 < (l0_1.length : Int)
     ·
      rw [if_pos c7] at H;have c7b0:=decide_eq_true c7;clear c7;replace H:=Option.bind_eq_some_iff.mp H;obtain ⟨t368,A80,H⟩:=H;(try dsimp only at H);have A8:=zA A80;clear A80
      by_cases c9 : t368 = true
      ·
       subst c9
       rw [if_pos rfl] at H
       obtain rfl:=Option.some.inj H
       have p366 : 0 ≤ (x10_1 : Int):=zXb ze;have q366 : x10_1 < (l0_1.length : Int):=zXb ze;obtain ⟨ad366,A366_1,c366_1,e366,hx366_0,hx366_1,hl366_1,hi366_1⟩:=at_T81 HR0_1.out x10_1 p366 q366
       cases e366
       replace hx366_0:=(HB.out.cell (World.block_lt_of_cell? w _ hx366_0)).trans hx366_0;replace hx366_1:=(HB.out.cell (World.block_lt_of_cell? w _ hx366_1)).trans hx366_1;have HR366_1:=zA hi366_1;have HC366_1:=zA hl366_1;clear hi366_1 hl366_1;replace p366:=eq_true p366;replace q366:=eq_true q366
       go_wp2_with (first|((with_reducible refine gate_dst (N:=6) rfl ?_);refine box_event ?hg (N:=6) ?hd (cs:=#[.int .i64 0,.slice none 0 0]) (t:=81) ?hr ?_;(case hd => rfl);(case hg => rfl);(case hr => first|(go_simp;done)|(go_simp;rfl));intro gb367 hg w10 hbox hb;have BK367:=zA (hbox);have GW367:=zA ((by rw [hg];exact (zT (zz HB)) : w.heap.size ≤ gb367));have GE367:=zA ((by rw [hg];exact (zT (zz HB)) : w.heap.size ≤ gb367));replace HB:=zA (zJb (zz HB) hb);have NB365_367:=zA ((by rw [hg];exact Nat.ne_of_lt (blk_lt (g:=gb365) (o:=.cells #[.slice A0_0 l0_0.length c0_0,.slice (some ad366) l0_1.length c0_1] 38 (0,0)) (zx BK365)) : gb365 ≠ gb367));have NB367_365:=zA ((by rw [hg];exact Nat.ne_of_gt (blk_lt (g:=gb365) (o:=.cells #[.slice A0_0 l0_0.length c0_0,.slice (some ad366) l0_1.length c0_1] 38 (0,0)) (zx BK365)) : gb367 ≠ gb365));replace BK365:=zA (zQ (g:=gb365) (o:=.cells #[.slice A0_0 l0_0.length c0_0,.slice (some ad366) l0_1.length c0_1] 38 (0,0)) (zx BK365) hb);clear hb hbox hg;have hnb11:=NB367_365.out;have hnc11:=NB365_367.out;have hcz12_0:=zc (.int .i64 0) BK367 0 rfl;have hcz12_1:=zc (.slice none 0 0) BK367 1 rfl;have hfz12_0:=blk_frozen BK367.out 0;have hfz12_1:=blk_frozen BK367.out 1)|((with_reducible refine gate_callee (f:=94) rfl ?_);refine goesL_ (some 17) rfl rfl Tryz.func94 (by kernel_rfl) rfl #[.slice A366_1 ((rd_T81 l0_1 x10_1).f1).length c366_1,.int .i64 a1] rfl (by (try simp only [zCb,zMb,zNb]);first|done|rfl|(simp only [zLb,zDb];rfl)) ?_;(with_reducible refine (slices_Contains_int_int.calls k1 _ _ ((rd_T81 l0_1 x10_1).f1) a1 true _ ?side1 ?side2 A8.out).mono ?_);(case side1 => exact zKb HR366_1.out (zz HB));(case side2 => exact HC366_1.out);rintro e w' ⟨rfl,⟨nd,rfl⟩⟩;refine ⟨_,rfl,?_⟩))
       go_ret
       exact ⟨by first|rfl|(simp [errW_none,errW_some] <;> rfl)|(simp [*,errW_none,errW_some] <;> rfl),zz HB⟩
      ·
       replace c9:=Bool.eq_false_iff.mpr c9
       subst c9
       have H1 : (impl_Query_occurs.l0 k1 a1 l0_1 (l0_1.length : Int) (wrap64 (x10_1 + 1))) = some r:=by rw [if_neg (show ¬ (false = true) by decide)] at H;exact H
       clear H;have H:=H1;clear H1
       have H':=zA H
       clear H;have p366 : 0 ≤ (x10_1 : Int):=zXb ze;have q366 : x10_1 < (l0_1.length : Int):=zXb ze;obtain ⟨ad366,A366_1,c366_1,e366,hx366_0,hx366_1,hl366_1,hi366_1⟩:=at_T81 HR0_1.out x10_1 p366 q366
       cases e366
       replace hx366_0:=(HB.out.cell (World.block_lt_of_cell? w _ hx366_0)).trans hx366_0;replace hx366_1:=(HB.out.cell (World.block_lt_of_cell? w _ hx366_1)).trans hx366_1;have HR366_1:=zA hi366_1;have HC366_1:=zA hl366_1;clear hi366_1 hl366_1;replace p366:=eq_true p366;replace q366:=eq_true q366
       go_wp2_with (first|((with_reducible refine gate_dst (N:=6) rfl ?_);refine box_event ?hg (N:=6) ?hd (cs:=#[.int .i64 0,.slice none 0 0]) (t:=81) ?hr ?_;(case hd => rfl);(case hg => rfl);(case hr => first|(go_simp;done)|(go_simp;rfl));intro gb367 hg w13 hbox hb;have BK367:=zA (hbox);have GW367:=zA ((by rw [hg];exact (zT (zz HB)) : w.heap.size ≤ gb367));have GE367:=zA ((by rw [hg];exact (zT (zz HB)) : w.heap.size ≤ gb367));replace HB:=zA (zJb (zz HB) hb);have NB365_367:=zA ((by rw [hg];exact Nat.ne_of_lt (blk_lt (g:=gb365) (o:=.cells #[.slice A0_0 l0_0.length c0_0,.slice (some ad366) l0_1.length c0_1] 38 (0,0)) (zx BK365)) : gb365 ≠ gb367));have NB367_365:=zA ((by rw [hg];exact Nat.ne_of_gt (blk_lt (g:=gb365) (o:=.cells #[.slice A0_0 l0_0.length c0_0,.slice (some ad366) l0_1.length c0_1] 38 (0,0)) (zx BK365)) : gb367 ≠ gb365));replace BK365:=zA (zQ (g:=gb365) (o:=.cells #[.slice A0_0 l0_0.length c0_0,.slice (some ad366) l0_1.length c0_1] 38 (0,0)) (zx BK365) hb);clear hb hbox hg;have hnb14:=NB367_365.out;have hnc14:=NB365_367.out;have hcz15_0:=zc (.int .i64 0) BK367 0 rfl;have hcz15_1:=zc (.slice none 0 0) BK367 1 rfl;have hfz15_0:=blk_frozen BK367.out 0;have hfz15_1:=blk_frozen BK367.out 1)|((with_reducible refine gate_callee (f:=94) rfl ?_);refine goesL_ (some 17) rfl rfl Tryz.func94 (by kernel_rfl) rfl #[.slice A366_1 ((rd_T81 l0_1 x10_1).f1).length c366_1,.int .i64 a1] rfl (by (try simp only [zCb,zMb,zNb]);first|done|rfl|(simp only [zLb,zDb];rfl)) ?_;(with_reducible refine (slices_Contains_int_int.calls k1 _ _ ((rd_T81 l0_1 x10_1).f1) a1 false _ ?side1 ?side2 A8.out).mono ?_);(case side1 => exact zKb HR366_1.out (zz HB));(case side2 => exact HC366_1.out);rintro e w' ⟨rfl,⟨nd,rfl⟩⟩;refine ⟨_,rfl,?_⟩))
       go_roundg k1
       case measure => have:=HK1.out;omega
       case rel => exact ⟨(wrap64 (x10_1 + 1)),za,H',⟨by have:=HK1.out;omega⟩,⟨by (with_reducible repeat (first|refine zF ?_ _|refine zI ?_|refine zG ?_ _));refine zUb ?_ NB365_367.out _;(with_reducible repeat (first|refine zF ?_ _|refine zI ?_|refine zG ?_ _));refine zUb ?_ NB365_367.out _;(with_reducible repeat (first|refine zF ?_ _|refine zI ?_|refine zG ?_ _));exact BK365.out⟩,⟨zz HB⟩⟩
     ·
      rw [if_neg c7] at H
      exact absurd H (by simp)
    ·
     rw [if_neg c6] at H
     exact absurd H (by simp)
   ·
    rw [if_neg c5] at H;have c5b0:=decide_eq_false c5;clear c5
    obtain rfl:=Option.some.inj H
    go_wp2
    go_ret
    exact ⟨by first|rfl|(simp [errW_none,errW_some] <;> rfl)|(simp [*,errW_none,errW_some] <;> rfl),zz HB⟩

/-! ### impl_Query_isSafe: function 60 -/
def impl_Query_isSafe.l0 : Nat → List Int → Int → Int → List Int → List (S81) → Option (Bool)
 | 0, _, _, _, _, _ => none
 | k + 1, x6, x7, x8, x370000, x370001 => if x8 < x7 then (if 0 ≤ x8 then (if x8 < (x6.length : Int) then ((impl_IsVar.f (rd x6 x8)).bind fun t371 => (if t371 = true then ((impl_Query_occurs.f k x370000 x370001 (rd x6 x8)).bind fun t372 => (if t372 = true then (impl_Query_isSafe.l0 k x6 x7 (wrap64 (x8 + 1)) x370000 x370001) else (some false))) else (impl_Query_isSafe.l0 k x6 x7 (wrap64 (x8 + 1)) x370000 x370001))) else (none)) else (none)) else (some true)
def impl_Query_isSafe.f (k : Nat) (l0_0 : List Int) (l0_1 : List (S81)) : Option (Bool) := impl_Query_isSafe.l0 k l0_0 (l0_0.length : Int) 0 l0_0 l0_1
set_option maxHeartbeats 8000000 in
set_option maxRecDepth 100000 in
theorem impl_Query_isSafe.calls (k : Nat) (A0_0 : Option Addr) (c0_0 : Nat) (l0_0 : List Int) (A0_1 : Option Addr) (c0_1 : Nat) (l0_1 : List (S81)) (r : Bool) (w : World) (hr0_0 : Kd.C (Kd.int .i64) w A0_0 l0_0.length l0_0) (hc0_0 : l0_0.length ≤ c0_0) (hr0_1 : Kd.C k81 w A0_1 l0_1.length l0_1) (hc0_1 : l0_1.length ≤ c0_1) (h : impl_Query_isSafe.f k l0_0 l0_1 = some r) :
  Calls Tryz.prog 60 #[.agg #[.slice A0_0 l0_0.length c0_0, .slice A0_1 l0_1.length c0_1]] w fun e w' => e = .returned (.bool r) ∧ Below w.heap.size w w' := by
 have hu38:=Tryz.underlying38;have HR0_0:=zA hr0_0;have HC0_0:=zA hc0_0;clear hr0_0 hc0_0;have HR0_1:=zA hr0_1;have HC0_1:=zA hc0_1;clear hr0_1 hc0_1;have HB:=zA (Below.refl w.heap.size w)
 have H : (impl_Query_isSafe.l0 k l0_0 (l0_0.length : Int) 0 l0_0 l0_1) = some r:=h
 clear h
 have H':=zA H
 clear H
 go_enter Tryz.func60,Tryz.ntmps60
 go_wp2_with (first|((with_reducible refine gate_dst (N:=1) rfl ?_);refine box_event ?hg (N:=1) ?hd (cs:=#[.slice A0_0 l0_0.length c0_0,.slice A0_1 l0_1.length c0_1]) (t:=38) ?hr ?_;(case hd => rfl);(case hg => rfl);(case hr => first|(go_simp;done)|(go_simp;rfl));intro gb369 hg w2 hbox hb;have BK369:=zA (hbox);have GW369:=zA ((by rw [hg];exact (zT (zz HB)) : w.heap.size ≤ gb369));have GE369:=zA ((by rw [hg];exact (zT (zz HB)) : w.heap.size ≤ gb369));replace HB:=zA (zJb (zz HB) hb);clear hb hbox hg;have hcz3_0:=zc (.slice A0_0 l0_0.length c0_0) BK369 0 rfl;have hcz3_1:=zc (.slice A0_1 l0_1.length c0_1) BK369 1 rfl;have hfz3_0:=blk_frozen BK369.out 0;have hfz3_1:=blk_frozen BK369.out 1))
 go_loopg [8] k (fun kq v8 w' => ∃ (x8_1 : Int),v8 = .int .i64 x8_1 ∧ Aside0 (impl_Query_isSafe.l0 kq l0_0 (l0_0.length : Int) x8_1 l0_0 l0_1 = some r) ∧ Aside0 (kq ≤ k) ∧ Aside0 (w'.heap[gb369]? = some (.cells #[(.slice A0_0 l0_0.length c0_0),(.slice A0_1 l0_1.length c0_1)] 38 (0,0))) ∧ Aside0 (Below w.heap.size w w'))
 case atStart => exact ⟨(0),za,H',⟨Nat.le_refl _⟩,⟨zx BK369⟩,⟨zz HB⟩⟩
 case round =>
  clear H';(try clear p2);(try clear hcz3_0);(try clear hcz3_1);(try clear hfz3_0);(try clear hfz3_1);obtain ⟨x8_1,rfl,HA,HK1,BK369,HB⟩:=hrel
  cases gk with
  | zero => exact absurd HA.out (by simp [impl_Query_isSafe.l0])
  | succ k1 =>
   have H:=HA.out;clear HA;simp only [impl_Query_isSafe.l0] at H
   by_cases c4 : x8_1 < (l0_0.length : Int)
   ·
    rw [if_pos c4] at H;have c4b0:=decide_eq_true c4;clear c4
    by_cases c5 : 0 ≤ x8_1
    ·
     rw [if_pos c5] at H;have c5b0:=decide_eq_true c5;clear c5
     by_cases c6 : x8_1 < (l0_0.length : Int)
     ·
      rw [if_pos c6] at H;have c6b0:=decide_eq_true c6;clear c6;replace H:=Option.bind_eq_some_iff.mp H;obtain ⟨t371,A70,H⟩:=H;(try dsimp only at H);have A7:=zA A70;clear A70
      by_cases c8 : t371 = true
      ·
       subst c8
       rw [if_pos rfl] at H;replace H:=Option.bind_eq_some_iff.mp H;obtain ⟨t372,A90,H⟩:=H;(try dsimp only at H);have A9:=zA A90;clear A90
       by_cases c10 : t372 = true
       ·
        subst c10
        rw [if_pos rfl] at H
        have H':=zA H
        clear H;have p370 : 0 ≤ (x8_1 : Int):=zXb ze;have q370 : x8_1 < (l0_0.length : Int):=zXb ze;obtain ⟨ad370,e370,hx370_0⟩:=Kd.at_int HR0_0.out x8_1 p370 q370
        cases e370
        replace hx370_0:=(HB.out.cell (World.block_lt_of_cell? w _ hx370_0)).trans hx370_0;replace p370:=eq_true p370;replace q370:=eq_true q370
        go_wp2_with (first|((with_reducible refine gate_callee (f:=79) rfl ?_);refine goesL_ (some 13) rfl rfl Tryz.func79 (by kernel_rfl) rfl #[.int .i64 (rd l0_0 x8_1)] rfl (by (try simp only [zCb,zMb,zNb]);first|done|rfl|(simp only [zLb,zDb];rfl)) ?_;(with_reducible refine (impl_IsVar.calls (rd l0_0 x8_1) true _ A7.out).mono ?_);rintro e w' ⟨rfl,⟨nd,rfl⟩⟩;refine ⟨_,rfl,?_⟩;have hcz11_0:=zc (.slice (some ad370) l0_0.length c0_0) BK369 0 rfl;have hcz11_1:=zc (.slice A0_1 l0_1.length c0_1) BK369 1 rfl;have hfz11_0:=blk_frozen BK369.out 0;have hfz11_1:=blk_frozen BK369.out 1)|(go_at_call 80;(with_reducible refine (impl_Query_occurs.calls k1 _ _ l0_0 _ _ l0_1 (rd l0_0 x8_1) true _ ?side1 ?side2 ?side3 ?side4 A9.out).mono ?_);(case side1 => repeat (first|exact (zKb HR0_0.out (zz HB))|(with_reducible refine zBb ?_ _)|(with_reducible refine zAb ?_ _)|(with_reducible refine zX ?_)));(case side2 => exact HC0_0.out);(case side3 => repeat (first|exact (zKb HR0_1.out (zz HB))|(with_reducible refine zBb ?_ _)|(with_reducible refine zAb ?_ _)|(with_reducible refine zX ?_)));(case side4 => exact HC0_1.out);rintro e w12 ⟨rfl,hb⟩;replace BK369:=zA (zQ (g:=gb369) (o:=.cells #[.slice (some ad370) l0_0.length c0_0,.slice A0_1 l0_1.length c0_1] 38 (0,0)) (zx BK369) hb);replace HB:=zA (zJb (zz HB) hb);(try clear hb);(try clear hb2);(try clear hk);(try clear hi)))
        go_roundg k1
        case measure => have:=HK1.out;omega
        case rel => exact ⟨(wrap64 (x8_1 + 1)),za,H',⟨by have:=HK1.out;omega⟩,⟨zx BK369⟩,⟨zz HB⟩⟩
       ·
        replace c10:=Bool.eq_false_iff.mpr c10
        subst c10
        have H1 : (some false) = some r:=by rw [if_neg (show ¬ (false = true) by decide)] at H;exact H
        clear H;have H:=H1;clear H1
        obtain rfl:=Option.some.inj H
        have p370 : 0 ≤ (x8_1 : Int):=zXb ze;have q370 : x8_1 < (l0_0.length : Int):=zXb ze;obtain ⟨ad370,e370,hx370_0⟩:=Kd.at_int HR0_0.out x8_1 p370 q370
        cases e370
        replace hx370_0:=(HB.out.cell (World.block_lt_of_cell? w _ hx370_0)).trans hx370_0;replace p370:=eq_true p370;replace q370:=eq_true q370
        go_wp2_with (first|((with_reducible refine gate_callee (f:=79) rfl ?_);refine goesL_ (some 13) rfl rfl Tryz.func79 (by kernel_rfl) rfl #[.int .i64 (rd l0_0 x8_1)] rfl (by (try simp only [zCb,zMb,zNb]);first|done|rfl|(simp only [zLb,zDb];rfl)) ?_;(with_reducible refine (impl_IsVar.calls (rd l0_0 x8_1) true _ A7.out).mono ?_);rintro e w' ⟨rfl,⟨nd,rfl⟩⟩;refine ⟨_,rfl,?_⟩;have hcz13_0:=zc (.slice (some ad370) l0_0.length c0_0) BK369 0 rfl;have hcz13_1:=zc (.slice A0_1 l0_1.length c0_1) BK369 1 rfl;have hfz13_0:=blk_frozen BK369.out 0;have hfz13_1:=blk_frozen BK369.out 1)|(go_at_call 80;(with_reducible refine (impl_Query_occurs.calls k1 _ _ l0_0 _ _ l0_1 (rd l0_0 x8_1) false _ ?side1 ?side2 ?side3 ?side4 A9.out).mono ?_);(case side1 => repeat (first|exact (zKb HR0_0.out (zz HB))|(with_reducible refine zBb ?_ _)|(with_reducible refine zAb ?_ _)|(with_reducible refine zX ?_)));(case side2 => exact HC0_0.out);(case side3 => repeat (first|exact (zKb HR0_1.out (zz HB))|(with_reducible refine zBb ?_ _)|(with_reducible refine zAb ?_ _)|(with_reducible refine zX ?_)));(case side4 => exact HC0_1.out);rintro e w14 ⟨rfl,hb⟩;replace BK369:=zA (zQ (g:=gb369) (o:=.cells #[.slice (some ad370) l0_0.length c0_0,.slice A0_1 l0_1.length c0_1] 38 (0,0)) (zx BK369) hb);replace HB:=zA (zJb (zz HB) hb);(try clear hb);(try clear hb2);(try clear hk);(try clear hi)))
        go_ret
        exact ⟨by first|rfl|(simp [errW_none,errW_some] <;> rfl)|(simp [*,errW_none,errW_some] <;> rfl),zz HB⟩
      ·
       replace c8:=Bool.eq_false_iff.mpr c8
       subst c8
       have H1 : (impl_Query_isSafe.l0 k1 l0_0 (l0_0.length : Int) (wrap64 (x8_1 + 1)) l0_0 l0_1) = some r:=by rw [if_neg (show ¬ (false = true) by decide)] at H;exact H
       clear H;have H:=H1;clear H1
       have H':=zA H
       clear H;have p370 : 0 ≤ (x8_1 : Int):=zXb ze;have q370 : x8_1 < (l0_0.length : Int):=zXb ze;obtain ⟨ad370,e370,hx370_0⟩:=Kd.at_int HR0_0.out x8_1 p370 q370
       cases e370
       replace hx370_0:=(HB.out.cell (World.block_lt_of_cell? w _ hx370_0)).trans hx370_0;replace p370:=eq_true p370;replace q370:=eq_true q370
       go_wp2_with (first|((with_reducible refine gate_callee (f:=79) rfl ?_);refine goesL_ (some 13) rfl rfl Tryz.func79 (by kernel_rfl) rfl #[.int .i64 (rd l0_0 x8_1)] rfl (by (try simp only [zCb,zMb,zNb]);first|done|rfl|(simp only [zLb,zDb];rfl)) ?_;(with_reducible refine (impl_IsVar.calls (rd l0_0 x8_1) false _ A7.out).mono ?_);rintro e w' ⟨rfl,⟨nd,rfl⟩⟩;refine ⟨_,rfl,?_⟩))
       go_roundg k1
       case measure => have:=HK1.out;omega
       case rel => exact ⟨(wrap64 (x8_1 + 1)),za,H',⟨by have:=HK1.out;omega⟩,⟨zx BK369⟩,⟨zz HB⟩⟩
     ·
      rw [if_neg c6] at H
      exact absurd H (by simp)
    ·
     rw [if_neg c5] at H
     exact absurd H (by simp)
   ·
    rw [if_neg c4] at H;have c4b0:=decide_eq_false c4;clear c4
    obtain rfl:=Option.some.inj H
    go_wp2
    go_ret
    exact ⟨by first|rfl|(simp [errW_none,errW_some] <;> rfl)|(simp [*,errW_none,errW_some] <;> rfl),zz HB⟩

end Go.Proofs.YtfelabhakgcifaaGreat.QFnExactCountAnswers
