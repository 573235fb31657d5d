/- Walks through the Go functions that FnMappings reaches: each call returns what the Lean function beside it says, within the bounds that the theorem names. -/
import Derived.Test.YtanbgnjfllpkgaaQFnMappingsx0
namespace Go.Proofs.Ytanbgnjfllpkgaa.QFnMappings
open Go.RowKit Go.Proofs.YtanbgnjfllpkgaaW.PrintWords Go.Proofs.YtanbgnjfllpkgaaW.PrintLast Go.Proofs.YtanbgnjfllpkgaaW.PrintMore
attribute [local go_sem] max2_int min2_int max_two min_two max_three min_three max_four min_four   -- for this text's walks alone
set_option linter.unusedVariables false
set_option linter.unusedSimpArgs false


/-! ### laws_big: function 18 -/
def laws_big.f (l0 : List Int) : Option (Bool) := some (decide ((l0.length : Int) > 1048576))
set_option maxHeartbeats 8000000 in
set_option maxRecDepth 100000 in
theorem laws_big.calls (A0 : Option Addr) (c0 : Nat) (l0 : List Int) (r : Bool) (w : World) (hr0 : Kd.C (Kd.int .u8) w A0 l0.length l0) (hc0 : l0.length ≤ c0) (h : laws_big.f l0 = some r) :
  Calls Try.prog 18 #[.slice A0 l0.length c0] w fun e w' => e = .returned (.bool r) ∧ Drawn0 w w' := by
 have HR0:=zA hr0;have HC0:=zA hc0;clear hr0 hc0
 have H : (some (decide ((l0.length : Int) > 1048576))) = some r:=h
 clear h
 obtain rfl:=Option.some.inj H
 go_enter Try.func18,Try.ntmps18
 go_wp2
 go_ret
 exact ⟨za,zdr⟩

/-! ### spec_l1In: function 80 -/
def spec_l1In.f (a0 : Int) (a1 : Int) (a2 : Int) : Option (Bool) := if a0 ≥ a1 then (some (decide (a0 ≤ a2))) else (some false)
set_option maxHeartbeats 8000000 in
set_option maxRecDepth 100000 in
theorem spec_l1In.calls (a0 : Int) (a1 : Int) (a2 : Int) (r : Bool) (w : World) (h : spec_l1In.f a0 a1 a2 = some r) :
  Calls Try.prog 80 #[.int .i64 a0, .int .i64 a1, .int .i64 a2] w fun e w' => e = .returned (.bool r) ∧ Drawn0 w w' := by
 have H : (if a0 ≥ a1 then (some (decide (a0 ≤ a2))) else (some false)) = some r:=h
 clear h
 by_cases c4 : a0 ≥ a1
 ·
  rw [if_pos c4] at H
  have c4b0 : decide (a1 ≤ a0) = true:=decide_eq_true c4
  clear c4
  obtain rfl:=Option.some.inj H
  go_enter Try.func80,Try.ntmps80
  go_wp2
  go_ret
  exact ⟨za,zdr⟩
 ·
  rw [if_neg c4] at H
  have c4b0 : decide (a1 ≤ a0) = false:=decide_eq_false c4
  clear c4
  obtain rfl:=Option.some.inj H
  go_enter Try.func80,Try.ntmps80
  go_wp2
  go_ret
  exact ⟨za,zdr⟩

/-! ### spec_IsVar: function 117 -/
def spec_IsVar.f (a0 : Int) : Option (Bool) := (spec_l1In.f a0 0 19).bind fun t101 => (some t101)
set_option maxHeartbeats 8000000 in
set_option maxRecDepth 100000 in
theorem spec_IsVar.calls (a0 : Int) (r : Bool) (w : World) (h : spec_IsVar.f a0 = some r) :
  Calls Try.prog 117 #[.int .i64 a0] w fun e w' => e = .returned (.bool r) ∧ Drawn0 w w' := by
 have H : ((spec_l1In.f a0 0 19).bind fun t101 => (some t101)) = some r:=h
 clear h;obtain ⟨t101,A20,H⟩:=zYb.mp H;(try dsimp only at H);have A2:=zA A20;clear A20
 obtain rfl:=Option.some.inj H
 go_enter Try.func117,Try.ntmps117
 go_wp2_with (first|((with_reducible refine gate_callee (f:=80) rfl ?_);refine zgo (some 4) Try.func80 #[.int .i64 a0,.int .i64 0,.int .i64 19] ?_;(with_reducible refine (spec_l1In.calls a0 0 19 t101 _ A2.out).mono ?_);rintro e w' ⟨rfl,⟨nd,rfl⟩⟩;refine ⟨_,rfl,?_⟩))
 go_ret
 exact ⟨za,zdr⟩

/-! ### spec_IsSchema: function 148 -/
def spec_IsSchema.l0 : Nat → Int → List Int → Option (Bool)
 | 0, _, _ => none
 | k + 1, x3, x103000 => if x3 < (x103000.length : Int) then (if 0 ≤ x3 then ((spec_l1In.f (rd x103000 x3) 1 3).bind fun t104 => (if t104 = true then (spec_IsSchema.l0 k (wrap64 (x3 + 1)) x103000) else (some false))) else (none)) else ((spec_l1In.f (x103000.length : Int) 1 4).bind fun t105 => (some t105))
def spec_IsSchema.f (k : Nat) (l0_0 : List Int) : Option (Bool) := spec_IsSchema.l0 k 0 l0_0
set_option maxHeartbeats 8000000 in
set_option maxRecDepth 100000 in
theorem spec_IsSchema.calls (k : Nat) (A0_0 : Option Addr) (c0_0 : Nat) (l0_0 : List Int) (r : Bool) (w : World) (hr0_0 : Kd.C (Kd.int .i64) w A0_0 l0_0.length l0_0) (hc0_0 : l0_0.length ≤ c0_0) (h : spec_IsSchema.f k l0_0 = some r) :
  Calls Try.prog 148 #[.agg #[.slice A0_0 l0_0.length c0_0]] w fun e w' => e = .returned (.bool r) ∧ Below w.heap.size w w' := by
 have hu65:=Try.underlying65;have HR0_0:=zA hr0_0;have HC0_0:=zA hc0_0;clear hr0_0 hc0_0;have HB:=zA (Below.refl w.heap.size w)
 have H : (spec_IsSchema.l0 k 0 l0_0) = some r:=h
 clear h
 have H':=zA H
 clear H
 go_enter Try.func148,Try.ntmps148
 go_wp2_with (first|((with_reducible refine gate_dst (N:=1) rfl ?_);refine zbx 1 #[.slice A0_0 l0_0.length c0_0] 65 ?_;intro gb102 hg w2 hbox hb;have BK102:=zA (hbox);have GW102:=zgw hg HB;have GE102:=zgw hg HB;replace HB:=zA (zJb (zz HB) hb);clear hb hbox hg))
 go_loopg [3] k (fun kq v3 w' => ∃ (x3_1 : Int),v3 = .int .i64 x3_1 ∧ Aside0 (spec_IsSchema.l0 kq x3_1 l0_0 = some r) ∧ Aside0 (kq ≤ k) ∧ Aside0 (w'.heap[gb102]? = some (.cells #[(.slice A0_0 l0_0.length c0_0)] 65 (0,0))) ∧ Aside0 (Below w.heap.size w w'))
 case atStart => exact ⟨(0),za,H',⟨Nat.le_refl _⟩,⟨zx BK102⟩,⟨zz HB⟩⟩
 case round =>
  clear H';(try clear c1);(try clear p2);obtain ⟨x3_1,rfl,HA,HK1,BK102,HB⟩:=hrel
  cases gk with
  | zero => exact absurd HA.out (by simp [spec_IsSchema.l0])
  | succ k1 =>
   have H:=HA.out;clear HA;simp only [spec_IsSchema.l0] at H
   by_cases c3 : x3_1 < (l0_0.length : Int)
   ·
    rw [if_pos c3] at H;have c3b0:=decide_eq_true c3;clear c3
    by_cases c4 : 0 ≤ x3_1
    ·
     rw [if_pos c4] at H;have c4b0:=decide_eq_true c4;clear c4;obtain ⟨t104,A50,H⟩:=zYb.mp H;(try dsimp only at H);have A5:=zA A50;clear A50
     by_cases c6 : t104 = true
     ·
      subst c6
      rw [if_pos rfl] at H
      have H':=zA H
      clear H;have hcz7_0:=zc (.slice A0_0 l0_0.length c0_0) BK102 0 rfl;have hfz7_0:=blk_frozen BK102.out 0;have p103 : 0 ≤ (x3_1 : Int):=zXb ze;have q103 : x3_1 < (l0_0.length : Int):=zXb ze;obtain ⟨ad103,e103,hx103_0⟩:=Kd.at_int HR0_0.out x3_1 p103 q103
      cases e103
      replace hx103_0:=zhx HB hx103_0;replace p103:=eq_true p103;replace q103:=eq_true q103
      go_wp2_with (first|((with_reducible refine gate_callee (f:=80) rfl ?_);refine zgo (some 16) Try.func80 #[.int .i64 (rd l0_0 x3_1),.int .i64 1,.int .i64 3] ?_;(with_reducible refine (spec_l1In.calls (rd l0_0 x3_1) 1 3 true _ A5.out).mono ?_);rintro e w' ⟨rfl,⟨nd,rfl⟩⟩;refine ⟨_,rfl,?_⟩))
      go_roundg k1
      case measure => have:=HK1.out;omega
      case rel => exact ⟨(wrap64 (x3_1 + 1)),za,H',⟨by have:=HK1.out;omega⟩,⟨zx BK102⟩,⟨zz HB⟩⟩
     ·
      replace c6:=Bool.eq_false_iff.mpr c6
      subst c6
      have H1 : (some false) = some r:=by rw [if_neg (show ¬ (false = true) by decide)] at H;exact H
      clear H;have H:=H1;clear H1
      obtain rfl:=Option.some.inj H
      have hcz8_0:=zc (.slice A0_0 l0_0.length c0_0) BK102 0 rfl;have hfz8_0:=blk_frozen BK102.out 0;have p103 : 0 ≤ (x3_1 : Int):=zXb ze;have q103 : x3_1 < (l0_0.length : Int):=zXb ze;obtain ⟨ad103,e103,hx103_0⟩:=Kd.at_int HR0_0.out x3_1 p103 q103
      cases e103
      replace hx103_0:=zhx HB hx103_0;replace p103:=eq_true p103;replace q103:=eq_true q103
      go_wp2_with (first|((with_reducible refine gate_callee (f:=80) rfl ?_);refine zgo (some 16) Try.func80 #[.int .i64 (rd l0_0 x3_1),.int .i64 1,.int .i64 3] ?_;(with_reducible refine (spec_l1In.calls (rd l0_0 x3_1) 1 3 false _ A5.out).mono ?_);rintro e w' ⟨rfl,⟨nd,rfl⟩⟩;refine ⟨_,rfl,?_⟩))
      go_ret
      exact ⟨zrr,zz HB⟩
    ·
     rw [if_neg c4] at H
     exact absurd H (by simp)
   ·
    rw [if_neg c3] at H;have c3b0:=decide_eq_false c3;clear c3;obtain ⟨t105,A90,H⟩:=zYb.mp H;(try dsimp only at H);have A9:=zA A90;clear A90
    obtain rfl:=Option.some.inj H
    have hcz10_0:=zc (.slice A0_0 l0_0.length c0_0) BK102 0 rfl;have hfz10_0:=blk_frozen BK102.out 0
    go_wp2_with (first|((with_reducible refine gate_callee (f:=80) rfl ?_);refine zgo (some 21) Try.func80 #[.int .i64 (l0_0.length : Int),.int .i64 1,.int .i64 4] ?_;(with_reducible refine (spec_l1In.calls (l0_0.length : Int) 1 4 t105 _ A9.out).mono ?_);rintro e w' ⟨rfl,⟨nd,rfl⟩⟩;refine ⟨_,rfl,?_⟩))
    go_ret
    exact ⟨zrr,zz HB⟩

/-! ### spec_ConstOf: function 146 -/
def spec_ConstOf.f (a0 : Int) : Option (Int) := (spec_l1In.f a0 (-80) (-1)).bind fun t106 => (if t106 = true then (some (wrap64 ((-1) - a0))) else (some (-1)))
set_option maxHeartbeats 8000000 in
set_option maxRecDepth 100000 in
theorem spec_ConstOf.calls (a0 : Int) (r : Int) (w : World) (h : spec_ConstOf.f a0 = some r) :
  Calls Try.prog 146 #[.int .i64 a0] w fun e w' => e = .returned (.int .i64 r) ∧ Drawn0 w w' := by
 have H : ((spec_l1In.f a0 (-80) (-1)).bind fun t106 => (if t106 = true then (some (wrap64 ((-1) - a0))) else (some (-1)))) = some r:=h
 clear h;obtain ⟨t106,A20,H⟩:=zYb.mp H;(try dsimp only at H);have A2:=zA A20;clear A20
 by_cases c3 : t106 = true
 ·
  subst c3
  rw [if_pos rfl] at H
  obtain rfl:=Option.some.inj H
  go_enter Try.func146,Try.ntmps146
  go_wp2_with (first|((with_reducible refine gate_callee (f:=80) rfl ?_);refine zgo (some 4) Try.func80 #[.int .i64 a0,.int .i64 (-80),.int .i64 (-1)] ?_;(with_reducible refine (spec_l1In.calls a0 (-80) (-1) true _ A2.out).mono ?_);rintro e w' ⟨rfl,⟨nd,rfl⟩⟩;refine ⟨_,rfl,?_⟩))
  go_ret
  exact ⟨za,zdr⟩
 ·
  replace c3:=Bool.eq_false_iff.mpr c3
  subst c3
  have H1 : (some (-1)) = some r:=by rw [if_neg (show ¬ (false = true) by decide)] at H;exact H
  clear H;have H:=H1;clear H1
  obtain rfl:=Option.some.inj H
  go_enter Try.func146,Try.ntmps146
  go_wp2_with (first|((with_reducible refine gate_callee (f:=80) rfl ?_);refine zgo (some 4) Try.func80 #[.int .i64 a0,.int .i64 (-80),.int .i64 (-1)] ?_;(with_reducible refine (spec_l1In.calls a0 (-80) (-1) false _ A2.out).mono ?_);rintro e w' ⟨rfl,⟨nd,rfl⟩⟩;refine ⟨_,rfl,?_⟩))
  go_ret
  exact ⟨za,zdr⟩

/-! ### spec_IsTerm: function 116 -/
def spec_IsTerm.f (a0 : Int) : Option (Bool) := (spec_IsVar.f a0).bind fun t107 => (if t107 = true then (some true) else ((spec_ConstOf.f a0).bind fun t108 => (some (decide (t108 ≥ 0)))))
set_option maxHeartbeats 8000000 in
set_option maxRecDepth 100000 in
theorem spec_IsTerm.calls (a0 : Int) (r : Bool) (w : World) (h : spec_IsTerm.f a0 = some r) :
  Calls Try.prog 116 #[.int .i64 a0] w fun e w' => e = .returned (.bool r) ∧ Drawn0 w w' := by
 have H : ((spec_IsVar.f a0).bind fun t107 => (if t107 = true then (some true) else ((spec_ConstOf.f a0).bind fun t108 => (some (decide (t108 ≥ 0)))))) = some r:=h
 clear h;obtain ⟨t107,A20,H⟩:=zYb.mp H;(try dsimp only at H);have A2:=zA A20;clear A20
 by_cases c3 : t107 = true
 ·
  subst c3
  rw [if_pos rfl] at H
  obtain rfl:=Option.some.inj H
  go_enter Try.func116,Try.ntmps116
  go_wp2_with (first|((with_reducible refine gate_callee (f:=117) rfl ?_);refine zgo (some 4) Try.func117 #[.int .i64 a0] ?_;(with_reducible refine (spec_IsVar.calls a0 true _ A2.out).mono ?_);rintro e w' ⟨rfl,⟨nd,rfl⟩⟩;refine ⟨_,rfl,?_⟩))
  go_ret
  exact ⟨za,zdr⟩
 ·
  replace c3:=Bool.eq_false_iff.mpr c3
  subst c3
  have H1 : ((spec_ConstOf.f a0).bind fun t108 => (some (decide (t108 ≥ 0)))) = some r:=by rw [if_neg (show ¬ (false = true) by decide)] at H;exact H
  clear H;have H:=H1;clear H1;obtain ⟨t108,A40,H⟩:=zYb.mp H;(try dsimp only at H);have A4:=zA A40;clear A40
  obtain rfl:=Option.some.inj H
  go_enter Try.func116,Try.ntmps116
  go_wp2_with (first|((with_reducible refine gate_callee (f:=117) rfl ?_);refine zgo (some 4) Try.func117 #[.int .i64 a0] ?_;(with_reducible refine (spec_IsVar.calls a0 false _ A2.out).mono ?_);rintro e w' ⟨rfl,⟨nd,rfl⟩⟩;refine ⟨_,rfl,?_⟩)|(go_at_call 146;(with_reducible refine (spec_ConstOf.calls a0 t108 _ A4.out).mono ?_);rintro e w' ⟨rfl,⟨nd,rfl⟩⟩))
  go_ret
  exact ⟨za,zdr⟩

/-! ### spec_l3Terms: function 149 -/
def spec_l3Terms.l0 : Nat → List Int → Int → Option (Bool)
 | 0, _, _ => none
 | k + 1, x0, x3 => if x3 < (x0.length : Int) then (if 0 ≤ x3 then ((spec_IsTerm.f (rd x0 x3)).bind fun t110 => (if t110 = true then (spec_l3Terms.l0 k x0 (wrap64 (x3 + 1))) else (some false))) else (none)) else (some (decide ((x0.length : Int) ≤ 3)))
def spec_l3Terms.f (k : Nat) (l0 : List Int) : Option (Bool) := spec_l3Terms.l0 k l0 0
set_option maxHeartbeats 8000000 in
set_option maxRecDepth 100000 in
theorem spec_l3Terms.calls (k : Nat) (A0 : Option Addr) (c0 : Nat) (l0 : List Int) (r : Bool) (w : World) (hr0 : Kd.C (Kd.int .i64) w A0 l0.length l0) (hc0 : l0.length ≤ c0) (h : spec_l3Terms.f k l0 = some r) :
  Calls Try.prog 149 #[.slice A0 l0.length c0] w fun e w' => e = .returned (.bool r) ∧ Drawn0 w w' := by
 have HR0:=zA hr0;have HC0:=zA hc0;clear hr0 hc0
 have H : (spec_l3Terms.l0 k l0 0) = some r:=h
 clear h
 have H':=zA H
 clear H
 go_enter Try.func149,Try.ntmps149
 go_wp2
 go_loopg [3] k (fun kq v3 w' => ∃ (x3_1 : Int),v3 = .int .i64 x3_1 ∧ Aside0 (spec_l3Terms.l0 kq l0 x3_1 = some r) ∧ Aside0 (kq ≤ k) ∧ Drawn0 w w')
 case atStart => exact ⟨(0),za,H',⟨Nat.le_refl _⟩,zdr⟩
 case round =>
  clear H';(try clear c1);obtain ⟨x3_1,rfl,HA,HK1,⟨m1,rfl⟩⟩:=hrel
  cases gk with
  | zero => exact absurd HA.out (by simp [spec_l3Terms.l0])
  | succ k1 =>
   have H:=HA.out;clear HA;simp only [spec_l3Terms.l0] at H
   by_cases c2 : x3_1 < (l0.length : Int)
   ·
    rw [if_pos c2] at H;have c2b0:=decide_eq_true c2;clear c2
    by_cases c3 : 0 ≤ x3_1
    ·
     rw [if_pos c3] at H;have c3b0:=decide_eq_true c3;clear c3;obtain ⟨t110,A40,H⟩:=zYb.mp H;(try dsimp only at H);have A4:=zA A40;clear A40
     by_cases c5 : t110 = true
     ·
      subst c5
      rw [if_pos rfl] at H
      have H':=zA H
      clear H;have p109 : 0 ≤ (x3_1 : Int):=zXb ze;have q109 : x3_1 < (l0.length : Int):=zXb ze;obtain ⟨ad109,e109,hx109_0⟩:=Kd.at_int HR0.out x3_1 p109 q109
      cases e109
      replace p109:=eq_true p109;replace q109:=eq_true q109
      go_wp2_with (first|((with_reducible refine gate_callee (f:=116) rfl ?_);refine zgo (some 14) Try.func116 #[.int .i64 (rd l0 x3_1)] ?_;(with_reducible refine (spec_IsTerm.calls (rd l0 x3_1) true _ A4.out).mono ?_);rintro e w' ⟨rfl,⟨nd,rfl⟩⟩;refine ⟨_,rfl,?_⟩))
      go_roundg k1
      case measure => have:=HK1.out;omega
      case rel => exact ⟨(wrap64 (x3_1 + 1)),za,H',⟨by have:=HK1.out;omega⟩,zdr⟩
     ·
      replace c5:=Bool.eq_false_iff.mpr c5
      subst c5
      have H1 : (some false) = some r:=by rw [if_neg (show ¬ (false = true) by decide)] at H;exact H
      clear H;have H:=H1;clear H1
      obtain rfl:=Option.some.inj H
      have p109 : 0 ≤ (x3_1 : Int):=zXb ze;have q109 : x3_1 < (l0.length : Int):=zXb ze;obtain ⟨ad109,e109,hx109_0⟩:=Kd.at_int HR0.out x3_1 p109 q109
      cases e109
      replace p109:=eq_true p109;replace q109:=eq_true q109
      go_wp2_with (first|((with_reducible refine gate_callee (f:=116) rfl ?_);refine zgo (some 14) Try.func116 #[.int .i64 (rd l0 x3_1)] ?_;(with_reducible refine (spec_IsTerm.calls (rd l0 x3_1) false _ A4.out).mono ?_);rintro e w' ⟨rfl,⟨nd,rfl⟩⟩;refine ⟨_,rfl,?_⟩))
      go_ret
      exact ⟨za,zdr⟩
    ·
     rw [if_neg c3] at H
     exact absurd H (by simp)
   ·
    rw [if_neg c2] at H;have c2b0:=decide_eq_false c2;clear c2
    obtain rfl:=Option.some.inj H
    go_wp2
    go_ret
    exact ⟨za,zdr⟩

end Go.Proofs.Ytanbgnjfllpkgaa.QFnMappings
