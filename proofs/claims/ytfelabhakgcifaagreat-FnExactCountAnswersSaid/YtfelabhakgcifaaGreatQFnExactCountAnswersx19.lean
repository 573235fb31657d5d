/- Walks through the Go functions that FnExactCountAnswers reaches: each call returns what the Lean function beside it says, within the bounds that the theorem names. -/
import Derived.Test.YtfelabhakgcifaaGreatQFnExactCountAnswersx0
import Derived.Test.YtfelabhakgcifaaGreatQFnExactCountAnswersx2
import Derived.Test.YtfelabhakgcifaaGreatQFnExactCountAnswersx14
import Derived.Test.YtfelabhakgcifaaGreatQFnExactCountAnswersx15
namespace Go.Proofs.YtfelabhakgcifaaGreat.QFnExactCountAnswers
open Go.RowKit Go.Proofs.YtfelabhakgcifaaGreatW.PrintWords Go.Proofs.YtfelabhakgcifaaGreatW.PrintLast Go.Proofs.YtfelabhakgcifaaGreatW.PrintMore
attribute [local go_sem] max2_int min2_int max_two min_two max_three min_three max_four min_four   -- for this text's walks alone
set_option linter.unusedVariables false
set_option linter.unusedSimpArgs false


/-! ### impl_ConstOf: function 106 -/
def impl_ConstOf.f (a0 : Int) : Option (Int) := (impl_IsTerm.f a0).bind fun t403 => (if t403 = true then ((impl_IsVar.f a0).bind fun t404 => (if t404 = true then (some (-1)) else (some (wrap64 ((-1) - a0))))) else (some (-1)))
set_option maxHeartbeats 8000000 in
set_option maxRecDepth 100000 in
theorem impl_ConstOf.calls (a0 : Int) (r : Int) (w : World) (h : impl_ConstOf.f a0 = some r) :
  Calls Tryz.prog 106 #[.int .i64 a0] w fun e w' => e = .returned (.int .i64 r) ∧ Drawn0 w w' := by
 have H : ((impl_IsTerm.f a0).bind fun t403 => (if t403 = true then ((impl_IsVar.f a0).bind fun t404 => (if t404 = true then (some (-1)) else (some (wrap64 ((-1) - a0))))) else (some (-1)))) = some r:=h
 clear h;replace H:=Option.bind_eq_some_iff.mp H;obtain ⟨t403,A20,H⟩:=H;(try dsimp only at H);have A2:=zA A20;clear A20
 by_cases c3 : t403 = true
 ·
  subst c3
  rw [if_pos rfl] at H;replace H:=Option.bind_eq_some_iff.mp H;obtain ⟨t404,A40,H⟩:=H;(try dsimp only at H);have A4:=zA A40;clear A40
  by_cases c5 : t404 = true
  ·
   subst c5
   rw [if_pos rfl] at H
   obtain rfl:=Option.some.inj H
   go_enter Tryz.func106,Tryz.ntmps106
   go_wp2_with (first|((with_reducible refine gate_callee (f:=77) rfl ?_);refine goesL_ (some 4) rfl rfl Tryz.func77 (by kernel_rfl) rfl #[.int .i64 a0] rfl (by (try simp only [zCb,zMb,zNb]);first|done|rfl|(simp only [zLb,zDb];rfl)) ?_;(with_reducible refine (impl_IsTerm.calls a0 true _ A2.out).mono ?_);rintro e w' ⟨rfl,⟨nd,rfl⟩⟩;refine ⟨_,rfl,?_⟩)|(go_at_call 79;(with_reducible refine (impl_IsVar.calls a0 true _ A4.out).mono ?_);rintro e w' ⟨rfl,⟨nd,rfl⟩⟩))
   go_ret
   exact ⟨by first|rfl|(simp;done)|(simp [*];done),by repeat (first|exact Drawn0.refl _|apply Drawn0.step)⟩
  ·
   replace c5:=Bool.eq_false_iff.mpr c5
   subst c5
   have H1 : (some (wrap64 ((-1) - a0))) = some r:=by rw [if_neg (show ¬ (false = true) by decide)] at H;exact H
   clear H;have H:=H1;clear H1
   obtain rfl:=Option.some.inj H
   go_enter Tryz.func106,Tryz.ntmps106
   go_wp2_with (first|((with_reducible refine gate_callee (f:=77) rfl ?_);refine goesL_ (some 4) rfl rfl Tryz.func77 (by kernel_rfl) rfl #[.int .i64 a0] rfl (by (try simp only [zCb,zMb,zNb]);first|done|rfl|(simp only [zLb,zDb];rfl)) ?_;(with_reducible refine (impl_IsTerm.calls a0 true _ A2.out).mono ?_);rintro e w' ⟨rfl,⟨nd,rfl⟩⟩;refine ⟨_,rfl,?_⟩)|(go_at_call 79;(with_reducible refine (impl_IsVar.calls a0 false _ A4.out).mono ?_);rintro e w' ⟨rfl,⟨nd,rfl⟩⟩))
   go_ret
   exact ⟨by first|rfl|(simp;done)|(simp [*];done),by repeat (first|exact Drawn0.refl _|apply Drawn0.step)⟩
 ·
  replace c3:=Bool.eq_false_iff.mpr c3
  subst c3
  have H1 : (some (-1)) = some r:=by rw [if_neg (show ¬ (false = true) by decide)] at H;exact H
  clear H;have H:=H1;clear H1
  obtain rfl:=Option.some.inj H
  go_enter Tryz.func106,Tryz.ntmps106
  go_wp2_with (first|((with_reducible refine gate_callee (f:=77) rfl ?_);refine goesL_ (some 4) rfl rfl Tryz.func77 (by kernel_rfl) rfl #[.int .i64 a0] rfl (by (try simp only [zCb,zMb,zNb]);first|done|rfl|(simp only [zLb,zDb];rfl)) ?_;(with_reducible refine (impl_IsTerm.calls a0 false _ A2.out).mono ?_);rintro e w' ⟨rfl,⟨nd,rfl⟩⟩;refine ⟨_,rfl,?_⟩))
  go_ret
  exact ⟨by first|rfl|(simp;done)|(simp [*];done),by repeat (first|exact Drawn0.refl _|apply Drawn0.step)⟩

-- NOT PRINTED: function 86 (impl_binding_valueOf)

-- NOT PRINTED: function 85 (impl_binding_match)

-- NOT PRINTED: function 67 (impl_visit)

-- NOT PRINTED: function 69 (impl_binding_tuple)

-- NOT PRINTED: function 39 (impl_heads)

-- NOT PRINTED: function 63 (slices_SortFunc_int_int)

/-! ### slices_Equal_int_int: function 66 -/
def slices_Equal_int_int.l0 : Nat → List Int → List Int → Int → Int → Option (Bool)
 | 0, _, _, _, _ => none
 | k + 1, x0, x1, x12, x13 => if x13 < x12 then (if 0 ≤ x13 then (if x13 < (x0.length : Int) then (if x13 < (x1.length : Int) then (if (rd x0 x13) = (rd x1 x13) then (slices_Equal_int_int.l0 k x0 x1 x12 (wrap64 (x13 + 1))) else (some false)) else (none)) else (none)) else (none)) else (some true)
def slices_Equal_int_int.f (k : Nat) (l0 : List Int) (l1 : List Int) : Option (Bool) := if (l0.length : Int) = (l1.length : Int) then (slices_Equal_int_int.l0 k l0 l1 (l0.length : Int) 0) else (some false)
set_option maxHeartbeats 8000000 in
set_option maxRecDepth 100000 in
theorem slices_Equal_int_int.calls (k : Nat) (A0 : Option Addr) (c0 : Nat) (l0 : List Int) (A1 : Option Addr) (c1 : Nat) (l1 : List Int) (r : Bool) (w : World) (hr0 : Kd.C (Kd.int .i64) w A0 l0.length l0) (hc0 : l0.length ≤ c0) (hr1 : Kd.C (Kd.int .i64) w A1 l1.length l1) (hc1 : l1.length ≤ c1) (h : slices_Equal_int_int.f k l0 l1 = some r) :
  Calls Tryz.prog 66 #[.slice A0 l0.length c0, .slice A1 l1.length c1] w fun e w' => e = .returned (.bool r) ∧ Drawn0 w w' := by
 have HR0:=zA hr0;have HC0:=zA hc0;clear hr0 hc0;have HR1:=zA hr1;have HC1:=zA hc1;clear hr1 hc1
 have H : (if (l0.length : Int) = (l1.length : Int) then (slices_Equal_int_int.l0 k l0 l1 (l0.length : Int) 0) else (some false)) = some r:=h
 clear h
 by_cases c3 : (l0.length : Int) = (l1.length : Int)
 ·
  rw [if_pos c3] at H;have c3b0:=beq_iff_eq.mpr c3;have c3b1:=bne_eq_false_iff_eq.mpr c3
  have c3b2 : (l0.length == l1.length) = true:=by first|simpa using c3|(simp at c3 ⊢;omega)
  clear c3
  have H':=zA H
  clear H
  go_enter Tryz.func66,Tryz.ntmps66
  go_wp2
  repeat (go_quiet (fail);try go_wp2)
  go_loopg [13] k (fun kq v13 w' => ∃ (x13_1 : Int),v13 = .int .i64 x13_1 ∧ Aside0 (slices_Equal_int_int.l0 kq l0 l1 (l0.length : Int) x13_1 = some r) ∧ Aside0 (kq ≤ k) ∧ Drawn0 w w')
  case atStart => exact ⟨(0),za,H',⟨Nat.le_refl _⟩,by repeat (first|exact Drawn0.refl _|apply Drawn0.step)⟩
  case round =>
   clear H';(try clear c1);(try clear p2);(try clear c3);(try clear c3b0);(try clear c3b1);(try clear c3b2);obtain ⟨x13_1,rfl,HA,HK1,⟨m1,rfl⟩⟩:=hrel
   cases gk with
   | zero => exact absurd HA.out (by simp [slices_Equal_int_int.l0])
   | succ k1 =>
    have H:=HA.out;clear HA;simp only [slices_Equal_int_int.l0] at H
    by_cases c4 : x13_1 < (l0.length : Int)
    ·
     rw [if_pos c4] at H;have c4b0:=decide_eq_true c4;clear c4
     by_cases c5 : 0 ≤ x13_1
     ·
      rw [if_pos c5] at H;have c5b0:=decide_eq_true c5;clear c5
      by_cases c6 : x13_1 < (l0.length : Int)
      ·
       rw [if_pos c6] at H;have c6b0:=decide_eq_true c6;clear c6
       by_cases c7 : x13_1 < (l1.length : Int)
       ·
        rw [if_pos c7] at H;have c7b0:=decide_eq_true c7;clear c7
        by_cases c8 : (rd l0 x13_1) = (rd l1 x13_1)
        ·
         rw [if_pos c8] at H;have c8b0:=beq_iff_eq.mpr c8;have c8b1:=bne_eq_false_iff_eq.mpr c8;clear c8
         have H':=zA H
         clear H;have p409 : 0 ≤ (x13_1 : Int):=zXb ze;have q409 : x13_1 < (l0.length : Int):=zXb ze;obtain ⟨ad409,e409,hx409_0⟩:=Kd.at_int HR0.out x13_1 p409 q409
         cases e409
         replace p409:=eq_true p409;replace q409:=eq_true q409;have p410 : 0 ≤ (x13_1 : Int):=zXb ze;have q410 : x13_1 < (l1.length : Int):=zXb ze;obtain ⟨ad410,e410,hx410_0⟩:=Kd.at_int HR1.out x13_1 p410 q410
         cases e410
         replace p410:=eq_true p410;replace q410:=eq_true q410
         go_wp2
         repeat (go_quiet (fail);try go_wp2)
         go_roundg k1
         case measure => have:=HK1.out;omega
         case rel => exact ⟨(wrap64 (x13_1 + 1)),za,H',⟨by have:=HK1.out;omega⟩,by repeat (first|exact Drawn0.refl _|apply Drawn0.step)⟩
        ·
         rw [if_neg c8] at H;have c8b0:=beq_eq_false_iff_ne.mpr c8;have c8b1:=bne_iff_ne.mpr c8
         obtain rfl:=Option.some.inj H
         have p409 : 0 ≤ (x13_1 : Int):=zXb ze;have q409 : x13_1 < (l0.length : Int):=zXb ze;obtain ⟨ad409,e409,hx409_0⟩:=Kd.at_int HR0.out x13_1 p409 q409
         cases e409
         replace p409:=eq_true p409;replace q409:=eq_true q409;have p410 : 0 ≤ (x13_1 : Int):=zXb ze;have q410 : x13_1 < (l1.length : Int):=zXb ze;obtain ⟨ad410,e410,hx410_0⟩:=Kd.at_int HR1.out x13_1 p410 q410
         cases e410
         replace p410:=eq_true p410;replace q410:=eq_true q410
         go_wp2
         repeat (go_quiet (fail);try go_wp2)
         go_ret
         exact ⟨by first|rfl|(simp;done)|(simp [*];done),by repeat (first|exact Drawn0.refl _|apply Drawn0.step)⟩
       ·
        rw [if_neg c7] at H
        exact absurd H (by simp)
      ·
       rw [if_neg c6] at H
       exact absurd H (by simp)
     ·
      rw [if_neg c5] at H
      exact absurd H (by simp)
    ·
     rw [if_neg c4] at H;have c4b0:=decide_eq_false c4;clear c4
     obtain rfl:=Option.some.inj H
     go_wp2
     repeat (go_quiet (fail);try go_wp2)
     go_ret
     exact ⟨by first|rfl|(simp;done)|(simp [*];done),by repeat (first|exact Drawn0.refl _|apply Drawn0.step)⟩
 ·
  rw [if_neg c3] at H;have c3b0:=beq_eq_false_iff_ne.mpr c3;have c3b1:=bne_iff_ne.mpr c3
  have c3b2 : (l0.length == l1.length) = false:=by first|simpa using c3|(simp at c3 ⊢;omega)
  obtain rfl:=Option.some.inj H
  go_enter Tryz.func66,Tryz.ntmps66
  go_wp2
  repeat (go_quiet (fail);try go_wp2)
  go_ret
  exact ⟨by first|rfl|(simp;done)|(simp [*];done),by repeat (first|exact Drawn0.refl _|apply Drawn0.step)⟩

-- NOT PRINTED: function 47 (impl_counted)

-- NOT PRINTED: function 23 (impl_CountAnswers)

/-! ### laws_eqCounted: function 48 -/
def laws_eqCounted.f (k : Nat) (l0_0 : List Int) (a0_1 : Int) (l1_0 : List Int) (a1_1 : Int) : Option (Bool) := (laws_eqIntS.f k l0_0 l1_0).bind fun t423 => (if t423 = true then (if a0_1 = a1_1 then (some true) else (some false)) else (some false))
set_option maxHeartbeats 8000000 in
set_option maxRecDepth 100000 in
theorem laws_eqCounted.calls (k : Nat) (A0_0 : Option Addr) (c0_0 : Nat) (l0_0 : List Int) (a0_1 : Int) (A1_0 : Option Addr) (c1_0 : Nat) (l1_0 : List Int) (a1_1 : Int) (r : Bool) (w : World) (hr0_0 : Kd.C (Kd.int .i64) w A0_0 l0_0.length l0_0) (hc0_0 : l0_0.length ≤ c0_0) (hr1_0 : Kd.C (Kd.int .i64) w A1_0 l1_0.length l1_0) (hc1_0 : l1_0.length ≤ c1_0) (h : laws_eqCounted.f k l0_0 a0_1 l1_0 a1_1 = some r) :
  Calls Tryz.prog 48 #[.agg #[.slice A0_0 l0_0.length c0_0, .int .i64 a0_1], .agg #[.slice A1_0 l1_0.length c1_0, .int .i64 a1_1]] w fun e w' => e = .returned (.bool r) ∧ Below w.heap.size w w' := by
 have hu75:=Tryz.underlying75;have HR0_0:=zA hr0_0;have HC0_0:=zA hc0_0;clear hr0_0 hc0_0;have HR1_0:=zA hr1_0;have HC1_0:=zA hc1_0;clear hr1_0 hc1_0;have HB:=zA (Below.refl w.heap.size w)
 have H : ((laws_eqIntS.f k l0_0 l1_0).bind fun t423 => (if t423 = true then (if a0_1 = a1_1 then (some true) else (some false)) else (some false))) = some r:=h
 clear h;replace H:=Option.bind_eq_some_iff.mp H;obtain ⟨t423,A30,H⟩:=H;(try dsimp only at H);have A3:=zA A30;clear A30
 by_cases c4 : t423 = true
 ·
  subst c4
  rw [if_pos rfl] at H
  by_cases c5 : a0_1 = a1_1
  ·
   rw [if_pos c5] at H;have c5b0:=beq_iff_eq.mpr c5;have c5b1:=bne_eq_false_iff_eq.mpr c5;clear c5
   obtain rfl:=Option.some.inj H
   go_enter Tryz.func48,Tryz.ntmps48
   go_wp2_with (first|((with_reducible refine gate_dst (N:=2) rfl ?_);refine box_event ?hg (N:=2) ?hd (cs:=#[.slice A0_0 l0_0.length c0_0,.int .i64 a0_1]) (t:=75) ?hr ?_;(case hd => rfl);(case hg => rfl);(case hr => first|(go_simp;done)|(go_simp;rfl));intro gb421 hg w6 hbox hb;have BK421:=zA (hbox);have GW421:=zA ((by rw [hg];exact (zT (zz HB)) : w.heap.size ≤ gb421));have GE421:=zA ((by rw [hg];exact (zT (zz HB)) : w.heap.size ≤ gb421));replace HB:=zA (zJb (zz HB) hb);clear hb hbox hg)|((with_reducible refine gate_dst (N:=3) rfl ?_);refine box_event ?hg (N:=3) ?hd (cs:=#[.slice A1_0 l1_0.length c1_0,.int .i64 a1_1]) (t:=75) ?hr ?_;(case hd => rfl);(case hg => rfl);(case hr => first|(go_simp;done)|(go_simp;rfl));intro gb422 hg w7 hbox hb;have BK422:=zA (hbox);have GW422:=zA ((by rw [hg];exact (zT (zz HB)) : w.heap.size ≤ gb422));have GE422:=zA ((by rw [hg];exact (zT (zz HB)) : w.heap.size ≤ gb422));replace HB:=zA (zJb (zz HB) hb);have NB421_422:=zA ((by rw [hg];exact Nat.ne_of_lt (blk_lt (g:=gb421) (o:=.cells #[.slice A0_0 l0_0.length c0_0,.int .i64 a0_1] 75 (0,0)) (zx BK421)) : gb421 ≠ gb422));have NB422_421:=zA ((by rw [hg];exact Nat.ne_of_gt (blk_lt (g:=gb421) (o:=.cells #[.slice A0_0 l0_0.length c0_0,.int .i64 a0_1] 75 (0,0)) (zx BK421)) : gb422 ≠ gb421));replace BK421:=zA (zQ (g:=gb421) (o:=.cells #[.slice A0_0 l0_0.length c0_0,.int .i64 a0_1] 75 (0,0)) (zx BK421) hb);clear hb hbox hg;have hnb8:=NB421_422.out;have hnc8:=NB422_421.out;have hcz9_0:=zc (.slice A0_0 l0_0.length c0_0) BK421 0 rfl;have hcz9_1:=zc (.int .i64 a0_1) BK421 1 rfl;have hfz9_0:=blk_frozen BK421.out 0;have hfz9_1:=blk_frozen BK421.out 1;have hcz10_0:=zc (.slice A1_0 l1_0.length c1_0) BK422 0 rfl;have hcz10_1:=zc (.int .i64 a1_1) BK422 1 rfl;have hfz10_0:=blk_frozen BK422.out 0;have hfz10_1:=blk_frozen BK422.out 1)|((with_reducible refine gate_callee (f:=40) rfl ?_);refine goesL_ (some 9) rfl rfl Tryz.func40 (by kernel_rfl) rfl #[.slice A0_0 l0_0.length c0_0,.slice A1_0 l1_0.length c1_0] rfl (by (try simp only [zCb,zMb,zNb]);first|done|rfl|(simp only [zLb,zDb];rfl)) ?_;(with_reducible refine (laws_eqIntS.calls k _ _ l0_0 _ _ l1_0 true _ ?side1 ?side2 ?side3 ?side4 A3.out).mono ?_);(case side1 => exact zsd HR0_0 HB);(case side2 => exact HC0_0.out);(case side3 => exact zsd HR1_0 HB);(case side4 => exact HC1_0.out);rintro e w' ⟨rfl,⟨nd,rfl⟩⟩;refine ⟨_,rfl,?_⟩))
   go_ret
   exact ⟨by first|rfl|(simp [errW_none,errW_some] <;> rfl)|(simp [*,errW_none,errW_some] <;> rfl),zz HB⟩
  ·
   rw [if_neg c5] at H;have c5b0:=beq_eq_false_iff_ne.mpr c5;have c5b1:=bne_iff_ne.mpr c5
   obtain rfl:=Option.some.inj H
   go_enter Tryz.func48,Tryz.ntmps48
   go_wp2_with (first|((with_reducible refine gate_dst (N:=2) rfl ?_);refine box_event ?hg (N:=2) ?hd (cs:=#[.slice A0_0 l0_0.length c0_0,.int .i64 a0_1]) (t:=75) ?hr ?_;(case hd => rfl);(case hg => rfl);(case hr => first|(go_simp;done)|(go_simp;rfl));intro gb421 hg w11 hbox hb;have BK421:=zA (hbox);have GW421:=zA ((by rw [hg];exact (zT (zz HB)) : w.heap.size ≤ gb421));have GE421:=zA ((by rw [hg];exact (zT (zz HB)) : w.heap.size ≤ gb421));replace HB:=zA (zJb (zz HB) hb);clear hb hbox hg)|((with_reducible refine gate_dst (N:=3) rfl ?_);refine box_event ?hg (N:=3) ?hd (cs:=#[.slice A1_0 l1_0.length c1_0,.int .i64 a1_1]) (t:=75) ?hr ?_;(case hd => rfl);(case hg => rfl);(case hr => first|(go_simp;done)|(go_simp;rfl));intro gb422 hg w12 hbox hb;have BK422:=zA (hbox);have GW422:=zA ((by rw [hg];exact (zT (zz HB)) : w.heap.size ≤ gb422));have GE422:=zA ((by rw [hg];exact (zT (zz HB)) : w.heap.size ≤ gb422));replace HB:=zA (zJb (zz HB) hb);have NB421_422:=zA ((by rw [hg];exact Nat.ne_of_lt (blk_lt (g:=gb421) (o:=.cells #[.slice A0_0 l0_0.length c0_0,.int .i64 a0_1] 75 (0,0)) (zx BK421)) : gb421 ≠ gb422));have NB422_421:=zA ((by rw [hg];exact Nat.ne_of_gt (blk_lt (g:=gb421) (o:=.cells #[.slice A0_0 l0_0.length c0_0,.int .i64 a0_1] 75 (0,0)) (zx BK421)) : gb422 ≠ gb421));replace BK421:=zA (zQ (g:=gb421) (o:=.cells #[.slice A0_0 l0_0.length c0_0,.int .i64 a0_1] 75 (0,0)) (zx BK421) hb);clear hb hbox hg;have hnb13:=NB421_422.out;have hnc13:=NB422_421.out;have hcz14_0:=zc (.slice A0_0 l0_0.length c0_0) BK421 0 rfl;have hcz14_1:=zc (.int .i64 a0_1) BK421 1 rfl;have hfz14_0:=blk_frozen BK421.out 0;have hfz14_1:=blk_frozen BK421.out 1;have hcz15_0:=zc (.slice A1_0 l1_0.length c1_0) BK422 0 rfl;have hcz15_1:=zc (.int .i64 a1_1) BK422 1 rfl;have hfz15_0:=blk_frozen BK422.out 0;have hfz15_1:=blk_frozen BK422.out 1)|((with_reducible refine gate_callee (f:=40) rfl ?_);refine goesL_ (some 9) rfl rfl Tryz.func40 (by kernel_rfl) rfl #[.slice A0_0 l0_0.length c0_0,.slice A1_0 l1_0.length c1_0] rfl (by (try simp only [zCb,zMb,zNb]);first|done|rfl|(simp only [zLb,zDb];rfl)) ?_;(with_reducible refine (laws_eqIntS.calls k _ _ l0_0 _ _ l1_0 true _ ?side1 ?side2 ?side3 ?side4 A3.out).mono ?_);(case side1 => exact zsd HR0_0 HB);(case side2 => exact HC0_0.out);(case side3 => exact zsd HR1_0 HB);(case side4 => exact HC1_0.out);rintro e w' ⟨rfl,⟨nd,rfl⟩⟩;refine ⟨_,rfl,?_⟩))
   go_ret
   exact ⟨by first|rfl|(simp [errW_none,errW_some] <;> rfl)|(simp [*,errW_none,errW_some] <;> rfl),zz HB⟩
 ·
  replace c4:=Bool.eq_false_iff.mpr c4
  subst c4
  have H1 : (some false) = some r:=by rw [if_neg (show ¬ (false = true) by decide)] at H;exact H
  clear H;have H:=H1;clear H1
  obtain rfl:=Option.some.inj H
  go_enter Tryz.func48,Tryz.ntmps48
  go_wp2_with (first|((with_reducible refine gate_dst (N:=2) rfl ?_);refine box_event ?hg (N:=2) ?hd (cs:=#[.slice A0_0 l0_0.length c0_0,.int .i64 a0_1]) (t:=75) ?hr ?_;(case hd => rfl);(case hg => rfl);(case hr => first|(go_simp;done)|(go_simp;rfl));intro gb421 hg w16 hbox hb;have BK421:=zA (hbox);have GW421:=zA ((by rw [hg];exact (zT (zz HB)) : w.heap.size ≤ gb421));have GE421:=zA ((by rw [hg];exact (zT (zz HB)) : w.heap.size ≤ gb421));replace HB:=zA (zJb (zz HB) hb);clear hb hbox hg)|((with_reducible refine gate_dst (N:=3) rfl ?_);refine box_event ?hg (N:=3) ?hd (cs:=#[.slice A1_0 l1_0.length c1_0,.int .i64 a1_1]) (t:=75) ?hr ?_;(case hd => rfl);(case hg => rfl);(case hr => first|(go_simp;done)|(go_simp;rfl));intro gb422 hg w17 hbox hb;have BK422:=zA (hbox);have GW422:=zA ((by rw [hg];exact (zT (zz HB)) : w.heap.size ≤ gb422));have GE422:=zA ((by rw [hg];exact (zT (zz HB)) : w.heap.size ≤ gb422));replace HB:=zA (zJb (zz HB) hb);have NB421_422:=zA ((by rw [hg];exact Nat.ne_of_lt (blk_lt (g:=gb421) (o:=.cells #[.slice A0_0 l0_0.length c0_0,.int .i64 a0_1] 75 (0,0)) (zx BK421)) : gb421 ≠ gb422));have NB422_421:=zA ((by rw [hg];exact Nat.ne_of_gt (blk_lt (g:=gb421) (o:=.cells #[.slice A0_0 l0_0.length c0_0,.int .i64 a0_1] 75 (0,0)) (zx BK421)) : gb422 ≠ gb421));replace BK421:=zA (zQ (g:=gb421) (o:=.cells #[.slice A0_0 l0_0.length c0_0,.int .i64 a0_1] 75 (0,0)) (zx BK421) hb);clear hb hbox hg;have hnb18:=NB421_422.out;have hnc18:=NB422_421.out;have hcz19_0:=zc (.slice A0_0 l0_0.length c0_0) BK421 0 rfl;have hcz19_1:=zc (.int .i64 a0_1) BK421 1 rfl;have hfz19_0:=blk_frozen BK421.out 0;have hfz19_1:=blk_frozen BK421.out 1;have hcz20_0:=zc (.slice A1_0 l1_0.length c1_0) BK422 0 rfl;have hcz20_1:=zc (.int .i64 a1_1) BK422 1 rfl;have hfz20_0:=blk_frozen BK422.out 0;have hfz20_1:=blk_frozen BK422.out 1)|((with_reducible refine gate_callee (f:=40) rfl ?_);refine goesL_ (some 9) rfl rfl Tryz.func40 (by kernel_rfl) rfl #[.slice A0_0 l0_0.length c0_0,.slice A1_0 l1_0.length c1_0] rfl (by (try simp only [zCb,zMb,zNb]);first|done|rfl|(simp only [zLb,zDb];rfl)) ?_;(with_reducible refine (laws_eqIntS.calls k _ _ l0_0 _ _ l1_0 false _ ?side1 ?side2 ?side3 ?side4 A3.out).mono ?_);(case side1 => exact zsd HR0_0 HB);(case side2 => exact HC0_0.out);(case side3 => exact zsd HR1_0 HB);(case side4 => exact HC1_0.out);rintro e w' ⟨rfl,⟨nd,rfl⟩⟩;refine ⟨_,rfl,?_⟩))
  go_ret
  exact ⟨by first|rfl|(simp [errW_none,errW_some] <;> rfl)|(simp [*,errW_none,errW_some] <;> rfl),zz HB⟩

/-! ### laws_eqCountedS: function 24 -/
def laws_eqCountedS.l0 : Nat → List (S75) → List (S75) → Int → Option (Bool)
 | 0, _, _, _ => none
 | k + 1, x0, x1, x5 => if x5 < (x0.length : Int) then (if 0 ≤ x5 then (if x5 < (x1.length : Int) then ((laws_eqCounted.f k ((rd_T75 x0 x5).f0) ((rd_T75 x0 x5).f1) ((rd_T75 x1 x5).f0) ((rd_T75 x1 x5).f1)).bind fun t426 => (if t426 = true then (laws_eqCountedS.l0 k x0 x1 (wrap64 (x5 + 1))) else (some false))) else (none)) else (none)) else (some true)
def laws_eqCountedS.f (k : Nat) (l0 : List (S75)) (l1 : List (S75)) : Option (Bool) := if (l0.length : Int) = (l1.length : Int) then (laws_eqCountedS.l0 k l0 l1 0) else (some false)
def laws_eqCountedS.T6 : Bool × List (List Nat × List Nat) := (true, [([], []), ([], []), ([0, 1], [0, 1]), ([2], [2]), ([], []), ([], []), ([4, 5], [4, 5]), ([6], [6]), ([3, 7], [3, 7]), ([8], [8])])
def laws_eqCountedS.B6 : List Nat := [0, 0, 3, 7, 0, 0, 48, 112, 255, 511]
theorem laws_eqCountedS.tab6 : rtab .any (opsOf Tryz.f24 6) = laws_eqCountedS.T6 := by kernel_rfl
theorem laws_eqCountedS.bits6 : waitsOk laws_eqCountedS.T6.2 laws_eqCountedS.B6 = true := by kernel_rfl
set_option maxHeartbeats 8000000 in
set_option maxRecDepth 100000 in
theorem laws_eqCountedS.calls (k : Nat) (A0 : Option Addr) (c0 : Nat) (l0 : List (S75)) (A1 : Option Addr) (c1 : Nat) (l1 : List (S75)) (r : Bool) (w : World) (hr0 : Kd.C k75 w A0 l0.length l0) (hc0 : l0.length ≤ c0) (hr1 : Kd.C k75 w A1 l1.length l1) (hc1 : l1.length ≤ c1) (h : laws_eqCountedS.f k l0 l1 = some r) :
  Calls Tryz.prog 24 #[.slice A0 l0.length c0, .slice A1 l1.length c1] w fun e w' => e = .returned (.bool r) ∧ Below w.heap.size w w' := by
 have hu75:=Tryz.underlying75;have HR0:=zA hr0;have HC0:=zA hc0;clear hr0 hc0;have HR1:=zA hr1;have HC1:=zA hc1;clear hr1 hc1;have HB:=zA (Below.refl w.heap.size w)
 have H : (if (l0.length : Int) = (l1.length : Int) then (laws_eqCountedS.l0 k l0 l1 0) else (some false)) = some r:=h
 clear h
 by_cases c3 : (l0.length : Int) = (l1.length : Int)
 ·
  rw [if_pos c3] at H;have c3b0:=beq_iff_eq.mpr c3;have c3b1:=bne_eq_false_iff_eq.mpr c3
  have c3b2 : (l0.length == l1.length) = true:=by first|simpa using c3|(simp at c3 ⊢;omega)
  clear c3
  have H':=zA H
  clear H
  go_enter Tryz.func24,Tryz.ntmps24
  go_wp2
  go_loopg [5] k (fun kq v5 w' => ∃ (x5_1 : Int),v5 = .int .i64 x5_1 ∧ Aside0 (laws_eqCountedS.l0 kq l0 l1 x5_1 = some r) ∧ Aside0 (kq ≤ k) ∧ Aside0 (Below w.heap.size w w'))
  case atStart => exact ⟨(0),za,H',⟨Nat.le_refl _⟩,⟨zz HB⟩⟩
  case round =>
   clear H';(try clear c1);(try clear c2);(try clear p2);(try clear c3);(try clear c3b0);(try clear c3b1);(try clear c3b2);obtain ⟨x5_1,rfl,HA,HK1,HB⟩:=hrel
   cases gk with
   | zero => exact absurd HA.out (by simp [laws_eqCountedS.l0])
   | succ k1 =>
    have H:=HA.out;clear HA;simp only [laws_eqCountedS.l0] at H
    by_cases c4 : x5_1 < (l0.length : Int)
    ·
     rw [if_pos c4] at H;have c4b0:=decide_eq_true c4;clear c4
     by_cases c5 : 0 ≤ x5_1
     ·
      rw [if_pos c5] at H;have c5b0:=decide_eq_true c5;clear c5
      by_cases c6 : x5_1 < (l1.length : Int)
      ·
       rw [if_pos c6] at H;have c6b0:=decide_eq_true c6;clear c6;replace H:=Option.bind_eq_some_iff.mp H;obtain ⟨t426,A70,H⟩:=H;(try dsimp only at H);have A7:=zA A70;clear A70
       by_cases c8 : t426 = true
       ·
        subst c8
        rw [if_pos rfl] at H
        have H':=zA H
        clear H
        try go_wp2
        have n0_:=zA (zJ HB.out);clear HB;have HB:=n0_;clear n0_;have p424 : 0 ≤ (x5_1 : Int):=zXb ze;have q424 : x5_1 < (l0.length : Int):=zXb ze;obtain ⟨ad424,A424_0,c424_0,e424,hx424_0,hx424_1,hl424_0,hi424_0⟩:=at_T75 HR0.out x5_1 p424 q424;have hw424_1:=hx424_1;have hw424_0:=hx424_0
        cases e424
        replace hx424_0:=(HB.out.cell (World.block_lt_of_cell? w _ hx424_0)).trans hx424_0;replace hx424_1:=(HB.out.cell (World.block_lt_of_cell? w _ hx424_1)).trans hx424_1;have HR424_0:=zA hi424_0;have HC424_0:=zA hl424_0;clear hi424_0 hl424_0;replace p424:=eq_true p424;replace q424:=eq_true q424;have p425 : 0 ≤ (x5_1 : Int):=zXb ze;have q425 : x5_1 < (l1.length : Int):=zXb ze;obtain ⟨ad425,A425_0,c425_0,e425,hx425_0,hx425_1,hl425_0,hi425_0⟩:=at_T75 HR1.out x5_1 p425 q425;have hw425_1:=hx425_1;have hw425_0:=hx425_0
        cases e425
        replace hx425_0:=(HB.out.cell (World.block_lt_of_cell? w _ hx425_0)).trans hx425_0;replace hx425_1:=(HB.out.cell (World.block_lt_of_cell? w _ hx425_1)).trans hx425_1;have HR425_0:=zA hi425_0;have HC425_0:=zA hl425_0;clear hi425_0 hl425_0;replace p425:=eq_true p425;replace q425:=eq_true q425
        refine start_ (n:=10) (S:=fun w' => w'.cell? (ad424.add ((x5_1).toNat * 2)) = some (.slice A424_0 ((rd_T75 l0 x5_1).f0).length c424_0) ∧ w'.cell? ⟨(ad424.add ((x5_1).toNat * 2)).block,(ad424.add ((x5_1).toNat * 2)).off + 1,none⟩ = some (.int .i64 ((rd_T75 l0 x5_1).f1)) ∧ w'.cell? (ad425.add ((x5_1).toNat * 2)) = some (.slice A425_0 ((rd_T75 l1 x5_1).f0).length c425_0) ∧ w'.cell? ⟨(ad425.add ((x5_1).toNat * 2)).block,(ad425.add ((x5_1).toNat * 2)).off + 1,none⟩ = some (.int .i64 ((rd_T75 l1 x5_1).f1))) (ds:=[]) #[false,false,false,false,false,false,false,false,false,false] (by kernel_rfl) rfl rfl ⟨((HB.out.cell (World.block_lt_of_cell? w _ hw424_0)).trans hw424_0),((HB.out.cell (World.block_lt_of_cell? w _ hw424_1)).trans hw424_1),((HB.out.cell (World.block_lt_of_cell? w _ hw425_0)).trans hw425_0),((HB.out.cell (World.block_lt_of_cell? w _ hw425_1)).trans hw425_1)⟩ (fun hHeld => ?_);refine with_tabW laws_eqCountedS.tab6 laws_eqCountedS.bits6 (fun HT_ HW_ => ?_)
        generalize wr.drew = w9 at HB HR424_0 HR425_0 hx424_0 hx424_1 hx425_0 hx425_1 hHeld ⊢
        refine zut 0 17 HT_ ?_;refine zut 1 18 HT_ ?_;refine zut 2 19 HT_ ?_;refine zut 4 21 HT_ ?_;refine zut 5 22 HT_ ?_;refine zut 6 23 HT_ ?_;refine zwt 3 20 HT_ HW_ hHeld ?_;refine zwt 7 24 HT_ HW_ hHeld ?_
        refine one_ (i:=8) (N:=some 25) #[true,true,true,true,true,true,true,true,true,false] rfl rfl (one_of HT_.out (by kernel_rfl)) (by decide) (fun K hK => ?_)
        refine goes_ Tryz.func48 (by kernel_rfl) rfl #[.agg #[.slice A424_0 ((rd_T75 l0 x5_1).f0).length c424_0,.int .i64 ((rd_T75 l0 x5_1).f1)],.agg #[.slice A425_0 ((rd_T75 l1 x5_1).f0).length c425_0,.int .i64 ((rd_T75 l1 x5_1).f1)]] (by rfl) rfl rfl (by (try simp only [zCb,zMb,zNb]);first|done|rfl|(simp only [zLb,zDb];rfl)) ?_
        with_reducible refine (laws_eqCounted.calls k1 _ _ ((rd_T75 l0 x5_1).f0) ((rd_T75 l0 x5_1).f1) _ _ ((rd_T75 l1 x5_1).f0) ((rd_T75 l1 x5_1).f1) true _ ?side1 ?side2 ?side3 ?side4 A7.out).mono ?_
        (case side1 => exact zsd HR424_0 HB)
        (case side2 => exact HC424_0.out)
        (case side3 => exact zsd HR425_0 HB)
        (case side4 => exact HC425_0.out)
        rintro e w10 ⟨rfl,hb⟩
        refine ⟨_,rfl,?_⟩
        have n0_:=zA (zJb (zz HB) hb);clear HB;have HB:=n0_;clear n0_;(try clear hb);(try clear hb2);(try clear hk);(try clear hi)
        refine hK.out _ _ ⟨((HB.out.cell (World.block_lt_of_cell? w _ hw424_0)).trans hw424_0),((HB.out.cell (World.block_lt_of_cell? w _ hw424_1)).trans hw424_1),((HB.out.cell (World.block_lt_of_cell? w _ hw425_0)).trans hw425_0),((HB.out.cell (World.block_lt_of_cell? w _ hw425_1)).trans hw425_1)⟩ (fun hHeld => ?_)
        clear hK K
        refine norm_ (a':=?_) ?_ ?_
        rotate_left
        ·
         show Act.put _ (some 25) _ = _
         simp only [Act.put,zO,zEb,zFb,i64_w,i32_w]
         rfl
        refine zut 9 26 HT_ ?_
        refine done_ (done_of HT_.out (by kernel_rfl)) ?_
        try go_wp2
        go_roundg k1
        case measure => have:=HK1.out;omega
        case rel => exact ⟨(wrap64 (x5_1 + 1)),za,H',⟨by have:=HK1.out;omega⟩,⟨zz HB⟩⟩
       ·
        replace c8:=Bool.eq_false_iff.mpr c8
        subst c8
        have H1 : (some false) = some r:=by rw [if_neg (show ¬ (false = true) by decide)] at H;exact H
        clear H;have H:=H1;clear H1
        obtain rfl:=Option.some.inj H
        try go_wp2
        have n0_:=zA (zJ HB.out);clear HB;have HB:=n0_;clear n0_;have p424 : 0 ≤ (x5_1 : Int):=zXb ze;have q424 : x5_1 < (l0.length : Int):=zXb ze;obtain ⟨ad424,A424_0,c424_0,e424,hx424_0,hx424_1,hl424_0,hi424_0⟩:=at_T75 HR0.out x5_1 p424 q424;have hw424_1:=hx424_1;have hw424_0:=hx424_0
        cases e424
        replace hx424_0:=(HB.out.cell (World.block_lt_of_cell? w _ hx424_0)).trans hx424_0;replace hx424_1:=(HB.out.cell (World.block_lt_of_cell? w _ hx424_1)).trans hx424_1;have HR424_0:=zA hi424_0;have HC424_0:=zA hl424_0;clear hi424_0 hl424_0;replace p424:=eq_true p424;replace q424:=eq_true q424;have p425 : 0 ≤ (x5_1 : Int):=zXb ze;have q425 : x5_1 < (l1.length : Int):=zXb ze;obtain ⟨ad425,A425_0,c425_0,e425,hx425_0,hx425_1,hl425_0,hi425_0⟩:=at_T75 HR1.out x5_1 p425 q425;have hw425_1:=hx425_1;have hw425_0:=hx425_0
        cases e425
        replace hx425_0:=(HB.out.cell (World.block_lt_of_cell? w _ hx425_0)).trans hx425_0;replace hx425_1:=(HB.out.cell (World.block_lt_of_cell? w _ hx425_1)).trans hx425_1;have HR425_0:=zA hi425_0;have HC425_0:=zA hl425_0;clear hi425_0 hl425_0;replace p425:=eq_true p425;replace q425:=eq_true q425
        refine start_ (n:=10) (S:=fun w' => w'.cell? (ad424.add ((x5_1).toNat * 2)) = some (.slice A424_0 ((rd_T75 l0 x5_1).f0).length c424_0) ∧ w'.cell? ⟨(ad424.add ((x5_1).toNat * 2)).block,(ad424.add ((x5_1).toNat * 2)).off + 1,none⟩ = some (.int .i64 ((rd_T75 l0 x5_1).f1)) ∧ w'.cell? (ad425.add ((x5_1).toNat * 2)) = some (.slice A425_0 ((rd_T75 l1 x5_1).f0).length c425_0) ∧ w'.cell? ⟨(ad425.add ((x5_1).toNat * 2)).block,(ad425.add ((x5_1).toNat * 2)).off + 1,none⟩ = some (.int .i64 ((rd_T75 l1 x5_1).f1))) (ds:=[]) #[false,false,false,false,false,false,false,false,false,false] (by kernel_rfl) rfl rfl ⟨((HB.out.cell (World.block_lt_of_cell? w _ hw424_0)).trans hw424_0),((HB.out.cell (World.block_lt_of_cell? w _ hw424_1)).trans hw424_1),((HB.out.cell (World.block_lt_of_cell? w _ hw425_0)).trans hw425_0),((HB.out.cell (World.block_lt_of_cell? w _ hw425_1)).trans hw425_1)⟩ (fun hHeld => ?_);refine with_tabW laws_eqCountedS.tab6 laws_eqCountedS.bits6 (fun HT_ HW_ => ?_)
        generalize wr.drew = w11 at HB HR424_0 HR425_0 hx424_0 hx424_1 hx425_0 hx425_1 hHeld ⊢
        refine zut 0 17 HT_ ?_;refine zut 1 18 HT_ ?_;refine zut 2 19 HT_ ?_;refine zut 4 21 HT_ ?_;refine zut 5 22 HT_ ?_;refine zut 6 23 HT_ ?_;refine zwt 3 20 HT_ HW_ hHeld ?_;refine zwt 7 24 HT_ HW_ hHeld ?_
        refine one_ (i:=8) (N:=some 25) #[true,true,true,true,true,true,true,true,true,false] rfl rfl (one_of HT_.out (by kernel_rfl)) (by decide) (fun K hK => ?_)
        refine goes_ Tryz.func48 (by kernel_rfl) rfl #[.agg #[.slice A424_0 ((rd_T75 l0 x5_1).f0).length c424_0,.int .i64 ((rd_T75 l0 x5_1).f1)],.agg #[.slice A425_0 ((rd_T75 l1 x5_1).f0).length c425_0,.int .i64 ((rd_T75 l1 x5_1).f1)]] (by rfl) rfl rfl (by (try simp only [zCb,zMb,zNb]);first|done|rfl|(simp only [zLb,zDb];rfl)) ?_
        with_reducible refine (laws_eqCounted.calls k1 _ _ ((rd_T75 l0 x5_1).f0) ((rd_T75 l0 x5_1).f1) _ _ ((rd_T75 l1 x5_1).f0) ((rd_T75 l1 x5_1).f1) false _ ?side1 ?side2 ?side3 ?side4 A7.out).mono ?_
        (case side1 => exact zsd HR424_0 HB)
        (case side2 => exact HC424_0.out)
        (case side3 => exact zsd HR425_0 HB)
        (case side4 => exact HC425_0.out)
        rintro e w12 ⟨rfl,hb⟩
        refine ⟨_,rfl,?_⟩
        have n0_:=zA (zJb (zz HB) hb);clear HB;have HB:=n0_;clear n0_;(try clear hb);(try clear hb2);(try clear hk);(try clear hi)
        refine hK.out _ _ ⟨((HB.out.cell (World.block_lt_of_cell? w _ hw424_0)).trans hw424_0),((HB.out.cell (World.block_lt_of_cell? w _ hw424_1)).trans hw424_1),((HB.out.cell (World.block_lt_of_cell? w _ hw425_0)).trans hw425_0),((HB.out.cell (World.block_lt_of_cell? w _ hw425_1)).trans hw425_1)⟩ (fun hHeld => ?_)
        clear hK K
        refine norm_ (a':=?_) ?_ ?_
        rotate_left
        ·
         show Act.put _ (some 25) _ = _
         simp only [Act.put,zO,zEb,zFb,i64_w,i32_w]
         rfl
        refine zut 9 26 HT_ ?_
        refine done_ (done_of HT_.out (by kernel_rfl)) ?_
        try go_wp2
        go_ret
        exact ⟨by first|rfl|(simp [errW_none,errW_some] <;> rfl)|(simp [*,errW_none,errW_some] <;> rfl),zz HB⟩
      ·
       rw [if_neg c6] at H
       exact absurd H (by simp)
     ·
      rw [if_neg c5] at H
      exact absurd H (by simp)
    ·
     rw [if_neg c4] at H;have c4b0:=decide_eq_false c4;clear c4
     obtain rfl:=Option.some.inj H
     go_wp2
     go_ret
     exact ⟨by first|rfl|(simp [errW_none,errW_some] <;> rfl)|(simp [*,errW_none,errW_some] <;> rfl),zz HB⟩
 ·
  rw [if_neg c3] at H;have c3b0:=beq_eq_false_iff_ne.mpr c3;have c3b1:=bne_iff_ne.mpr c3
  have c3b2 : (l0.length == l1.length) = false:=by first|simpa using c3|(simp at c3 ⊢;omega)
  obtain rfl:=Option.some.inj H
  go_enter Tryz.func24,Tryz.ntmps24
  go_wp2
  go_ret
  exact ⟨by first|rfl|(simp [errW_none,errW_some] <;> rfl)|(simp [*,errW_none,errW_some] <;> rfl),zz HB⟩

-- NOT PRINTED: function 25 (laws_markCountedS)

/-! ### laws_heldIntS: function 45 -/
def laws_heldIntS.l0 : Nat → List Int → Int → Int → Option (Int)
 | 0, _, _, _ => none
 | k + 1, x0, x1, x5 => if x5 < (x0.length : Int) then (if 0 ≤ x5 then (if (rd x0 x5) = x1 then (laws_heldIntS.l0 k x0 (wrap64 (x1 + 1)) (wrap64 (x5 + 1))) else (some (-1))) else (none)) else (some x1)
def laws_heldIntS.f (k : Nat) (l0 : List Int) (a1 : Int) : Option (Int) := laws_heldIntS.l0 k l0 a1 0
set_option maxHeartbeats 8000000 in
set_option maxRecDepth 100000 in
theorem laws_heldIntS.calls (k : Nat) (A0 : Option Addr) (c0 : Nat) (l0 : List Int) (a1 : Int) (r : Int) (w : World) (hr0 : Kd.C (Kd.int .i64) w A0 l0.length l0) (hc0 : l0.length ≤ c0) (h : laws_heldIntS.f k l0 a1 = some r) :
  Calls Tryz.prog 45 #[.slice A0 l0.length c0, .int .i64 a1] w fun e w' => e = .returned (.int .i64 r) ∧ Drawn0 w w' := by
 have HR0:=zA hr0;have HC0:=zA hc0;clear hr0 hc0
 have H : (laws_heldIntS.l0 k l0 a1 0) = some r:=h
 clear h
 have H':=zA H
 clear H
 go_enter Tryz.func45,Tryz.ntmps45
 go_wp2
 go_loopg [1,5] k (fun kq v1 v5 w' => ∃ (x1_1 : Int) (x5_1 : Int),v1 = .int .i64 x1_1 ∧ v5 = .int .i64 x5_1 ∧ Aside0 (laws_heldIntS.l0 kq l0 x1_1 x5_1 = some r) ∧ Aside0 (kq ≤ k) ∧ Drawn0 w w')
 case atStart => exact ⟨(a1),(0),za,za,H',⟨Nat.le_refl _⟩,by repeat (first|exact Drawn0.refl _|apply Drawn0.step)⟩
 case round =>
  clear H';(try clear p2);obtain ⟨x1_1,x5_1,rfl,rfl,HA,HK1,⟨m1,rfl⟩⟩:=hrel
  cases gk with
  | zero => exact absurd HA.out (by simp [laws_heldIntS.l0])
  | succ k1 =>
   have H:=HA.out;clear HA;simp only [laws_heldIntS.l0] at H
   by_cases c3 : x5_1 < (l0.length : Int)
   ·
    rw [if_pos c3] at H;have c3b0:=decide_eq_true c3;clear c3
    by_cases c4 : 0 ≤ x5_1
    ·
     rw [if_pos c4] at H;have c4b0:=decide_eq_true c4;clear c4
     by_cases c5 : (rd l0 x5_1) = x1_1
     ·
      rw [if_pos c5] at H;have c5b0:=beq_iff_eq.mpr c5;have c5b1:=bne_eq_false_iff_eq.mpr c5;clear c5
      have H':=zA H
      clear H;have p428 : 0 ≤ (x5_1 : Int):=zXb ze;have q428 : x5_1 < (l0.length : Int):=zXb ze;obtain ⟨ad428,e428,hx428_0⟩:=Kd.at_int HR0.out x5_1 p428 q428
      cases e428
      replace p428:=eq_true p428;replace q428:=eq_true q428
      go_wp2
      go_roundg k1
      case measure => have:=HK1.out;omega
      case rel => exact ⟨(wrap64 (x1_1 + 1)),(wrap64 (x5_1 + 1)),za,za,H',⟨by have:=HK1.out;omega⟩,by repeat (first|exact Drawn0.refl _|apply Drawn0.step)⟩
     ·
      rw [if_neg c5] at H;have c5b0:=beq_eq_false_iff_ne.mpr c5;have c5b1:=bne_iff_ne.mpr c5
      obtain rfl:=Option.some.inj H
      have p428 : 0 ≤ (x5_1 : Int):=zXb ze;have q428 : x5_1 < (l0.length : Int):=zXb ze;obtain ⟨ad428,e428,hx428_0⟩:=Kd.at_int HR0.out x5_1 p428 q428
      cases e428
      replace p428:=eq_true p428;replace q428:=eq_true q428
      go_wp2
      go_ret
      exact ⟨by first|rfl|(simp;done)|(simp [*];done),by repeat (first|exact Drawn0.refl _|apply Drawn0.step)⟩
    ·
     rw [if_neg c4] at H
     exact absurd H (by simp)
   ·
    rw [if_neg c3] at H;have c3b0:=decide_eq_false c3;clear c3
    obtain rfl:=Option.some.inj H
    go_wp2
    go_ret
    exact ⟨by first|rfl|(simp;done)|(simp [*];done),by repeat (first|exact Drawn0.refl _|apply Drawn0.step)⟩

end Go.Proofs.YtfelabhakgcifaaGreat.QFnExactCountAnswers
