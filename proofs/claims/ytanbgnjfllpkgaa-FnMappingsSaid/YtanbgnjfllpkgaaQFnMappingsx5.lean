/- Walks through the Go functions that FnMappings reaches: each call returns what the Lean function beside it says, within the bounds that the theorem names. -/
import Derived.Test.YtanbgnjfllpkgaaQFnMappingsx0
import Derived.Test.YtanbgnjfllpkgaaQFnMappingsx1
import Derived.Test.YtanbgnjfllpkgaaQFnMappingsx4
namespace Go.Proofs.Ytanbgnjfllpkgaa.QFnMappings
open Go.RowKit Go.Proofs.YtanbgnjfllpkgaaW.PrintWords Go.Proofs.YtanbgnjfllpkgaaW.PrintLast Go.Proofs.YtanbgnjfllpkgaaW.PrintMore
attribute [local go_sem] max2_int min2_int max_two min_two max_three min_three max_four min_four   -- for this text's walks alone
set_option linter.unusedVariables false
set_option linter.unusedSimpArgs false


/-! ### spec_IsQuery: function 101 -/
def spec_IsQuery.f (k : Nat) (l0_0 : List Int) (l1_0 : List Int) (l1_1 : List (S97)) : Option (Bool) := (spec_l4Fine.f k l0_0 l1_0 l1_1 4).bind fun t145 => (some t145)
set_option maxHeartbeats 8000000 in
set_option maxRecDepth 100000 in
theorem spec_IsQuery.calls (k : Nat) (A0_0 : Option Addr) (c0_0 : Nat) (l0_0 : List Int) (A1_0 : Option Addr) (c1_0 : Nat) (l1_0 : List Int) (A1_1 : Option Addr) (c1_1 : Nat) (l1_1 : List (S97)) (r : Bool) (w : World) (hr0_0 : Kd.C (Kd.int .i64) w A0_0 l0_0.length l0_0) (hc0_0 : l0_0.length ≤ c0_0) (hr1_0 : Kd.C (Kd.int .i64) w A1_0 l1_0.length l1_0) (hc1_0 : l1_0.length ≤ c1_0) (hr1_1 : Kd.C k97 w A1_1 l1_1.length l1_1) (hc1_1 : l1_1.length ≤ c1_1) (h : spec_IsQuery.f k l0_0 l1_0 l1_1 = some r) :
  Calls Try.prog 101 #[.agg #[.slice A0_0 l0_0.length c0_0], .agg #[.slice A1_0 l1_0.length c1_0, .slice A1_1 l1_1.length c1_1]] w fun e w' => e = .returned (.bool r) ∧ Below w.heap.size w w' := by
 have hu65:=Try.underlying65;have hu46:=Try.underlying46;have HR0_0:=zA hr0_0;have HC0_0:=zA hc0_0;clear hr0_0 hc0_0;have HR1_0:=zA hr1_0;have HC1_0:=zA hc1_0;clear hr1_0 hc1_0;have HR1_1:=zA hr1_1;have HC1_1:=zA hc1_1;clear hr1_1 hc1_1;have HB:=zA (Below.refl w.heap.size w)
 have H : ((spec_l4Fine.f k l0_0 l1_0 l1_1 4).bind fun t145 => (some t145)) = some r:=h
 clear h;obtain ⟨t145,A30,H⟩:=zYb.mp H;(try dsimp only at H);have A3:=zA A30;clear A30
 obtain rfl:=Option.some.inj H
 go_enter Try.func101,Try.ntmps101
 go_wp2_with (first|((with_reducible refine gate_dst (N:=2) rfl ?_);refine zbx 2 #[.slice A0_0 l0_0.length c0_0] 65 ?_;intro gb143 hg w4 hbox hb;have BK143:=zA (hbox);have GW143:=zgw hg HB;have GE143:=zgw hg HB;replace HB:=zA (zJb (zz HB) hb);clear hb hbox hg)|((with_reducible refine gate_dst (N:=3) rfl ?_);refine zbx 3 #[.slice A1_0 l1_0.length c1_0,.slice A1_1 l1_1.length c1_1] 46 ?_;intro gb144 hg w5 hbox hb;have BK144:=zA (hbox);have GW144:=zgw hg HB;have GE144:=zgw hg HB;replace HB:=zA (zJb (zz HB) hb);have NB143_144:=znb hg BK143;have NB144_143:=znc hg BK143;replace BK143:=zbk BK143 hb;clear hb hbox hg;have hnb6:=NB143_144.out;have hnc6:=NB144_143.out;have hcz7_0:=zc (.slice A0_0 l0_0.length c0_0) BK143 0 rfl;have hfz7_0:=blk_frozen BK143.out 0;have hcz8_0:=zc (.slice A1_0 l1_0.length c1_0) BK144 0 rfl;have hcz8_1:=zc (.slice A1_1 l1_1.length c1_1) BK144 1 rfl;have hfz8_0:=blk_frozen BK144.out 0;have hfz8_1:=blk_frozen BK144.out 1)|((with_reducible refine gate_callee (f:=126) rfl ?_);refine zgo (some 7) Try.func126 #[.agg #[.slice A0_0 l0_0.length c0_0],.agg #[.slice A1_0 l1_0.length c1_0,.slice A1_1 l1_1.length c1_1],.int .i64 4] ?_;(with_reducible refine (spec_l4Fine.calls k _ _ l0_0 _ _ l1_0 _ _ l1_1 4 t145 _ ?side1 ?side2 ?side3 ?side4 ?side5 ?side6 A3.out).mono ?_);(case side1 => exact zsd HR0_0 HB);(case side2 => exact HC0_0.out);(case side3 => exact zsd HR1_0 HB);(case side4 => exact HC1_0.out);(case side5 => exact zsd HR1_1 HB);(case side6 => exact HC1_1.out);rintro e w9 ⟨rfl,hb⟩;refine ⟨_,rfl,?_⟩;replace BK143:=zbk BK143 hb;replace BK144:=zbk BK144 hb;replace HB:=zA (zJb (zz HB) hb);(try clear hb);(try clear hb2);(try clear hk);(try clear hi)))
 go_ret
 exact ⟨zrr,zz HB⟩

/-! ### spec_l2Ints: function 83 -/
def spec_l2Ints.l0 : Nat → List Int → List Int → Int → Option (Bool)
 | 0, _, _, _ => none
 | k + 1, x0, x1, x5 => if x5 < (x0.length : Int) then (if 0 ≤ x5 then (if x5 < (x1.length : Int) then (if (rd x0 x5) = (rd x1 x5) then (spec_l2Ints.l0 k x0 x1 (wrap64 (x5 + 1))) else (some false)) else (none)) else (none)) else (some true)
def spec_l2Ints.f (k : Nat) (l0 : List Int) (l1 : List Int) : Option (Bool) := if (l0.length : Int) = (l1.length : Int) then (spec_l2Ints.l0 k l0 l1 0) else (some false)
set_option maxHeartbeats 8000000 in
set_option maxRecDepth 100000 in
theorem spec_l2Ints.calls (k : Nat) (A0 : Option Addr) (c0 : Nat) (l0 : List Int) (A1 : Option Addr) (c1 : Nat) (l1 : List Int) (r : Bool) (w : World) (hr0 : Kd.C (Kd.int .i64) w A0 l0.length l0) (hc0 : l0.length ≤ c0) (hr1 : Kd.C (Kd.int .i64) w A1 l1.length l1) (hc1 : l1.length ≤ c1) (h : spec_l2Ints.f k l0 l1 = some r) :
  Calls Try.prog 83 #[.slice A0 l0.length c0, .slice A1 l1.length c1] w fun e w' => e = .returned (.bool r) ∧ Drawn0 w w' := by
 have HR0:=zA hr0;have HC0:=zA hc0;clear hr0 hc0;have HR1:=zA hr1;have HC1:=zA hc1;clear hr1 hc1
 have H : (if (l0.length : Int) = (l1.length : Int) then (spec_l2Ints.l0 k l0 l1 0) else (some false)) = some r:=h
 clear h
 by_cases c3 : (l0.length : Int) = (l1.length : Int)
 ·
  rw [if_pos c3] at H;have c3b0:=beq_iff_eq.mpr c3;have c3b1:=bne_eq_false_iff_eq.mpr c3
  have c3b2 : (l0.length == l1.length) = true:=by first|simpa using c3|(simp at c3 ⊢;omega)
  clear c3
  have H':=zA H
  clear H
  go_enter Try.func83,Try.ntmps83
  go_wp2
  repeat (go_quiet (fail);try go_wp2)
  go_loopg [5] k (fun kq v5 w' => ∃ (x5_1 : Int),v5 = .int .i64 x5_1 ∧ Aside0 (spec_l2Ints.l0 kq l0 l1 x5_1 = some r) ∧ Aside0 (kq ≤ k) ∧ Drawn0 w w')
  case atStart => exact ⟨(0),za,H',⟨Nat.le_refl _⟩,zdr⟩
  case round =>
   clear H';(try clear c1);(try clear p2);(try clear c3);(try clear c3b0);(try clear c3b1);(try clear c3b2);obtain ⟨x5_1,rfl,HA,HK1,⟨m1,rfl⟩⟩:=hrel
   cases gk with
   | zero => exact absurd HA.out (by simp [spec_l2Ints.l0])
   | succ k1 =>
    have H:=HA.out;clear HA;simp only [spec_l2Ints.l0] at H
    by_cases c4 : x5_1 < (l0.length : Int)
    ·
     rw [if_pos c4] at H;have c4b0:=decide_eq_true c4;clear c4
     by_cases c5 : 0 ≤ x5_1
     ·
      rw [if_pos c5] at H;have c5b0:=decide_eq_true c5;clear c5
      by_cases c6 : x5_1 < (l1.length : Int)
      ·
       rw [if_pos c6] at H;have c6b0:=decide_eq_true c6;clear c6
       by_cases c7 : (rd l0 x5_1) = (rd l1 x5_1)
       ·
        rw [if_pos c7] at H;have c7b0:=beq_iff_eq.mpr c7;have c7b1:=bne_eq_false_iff_eq.mpr c7;clear c7
        have H':=zA H
        clear H;have p146 : 0 ≤ (x5_1 : Int):=zXb ze;have q146 : x5_1 < (l0.length : Int):=zXb ze;obtain ⟨ad146,e146,hx146_0⟩:=Kd.at_int HR0.out x5_1 p146 q146
        cases e146
        replace p146:=eq_true p146;replace q146:=eq_true q146;have p147 : 0 ≤ (x5_1 : Int):=zXb ze;have q147 : x5_1 < (l1.length : Int):=zXb ze;obtain ⟨ad147,e147,hx147_0⟩:=Kd.at_int HR1.out x5_1 p147 q147
        cases e147
        replace p147:=eq_true p147;replace q147:=eq_true q147
        go_wp2
        repeat (go_quiet (fail);try go_wp2)
        go_roundg k1
        case measure => have:=HK1.out;omega
        case rel => exact ⟨(wrap64 (x5_1 + 1)),za,H',⟨by have:=HK1.out;omega⟩,zdr⟩
       ·
        rw [if_neg c7] at H;have c7b0:=beq_eq_false_iff_ne.mpr c7;have c7b1:=bne_iff_ne.mpr c7
        obtain rfl:=Option.some.inj H
        have p146 : 0 ≤ (x5_1 : Int):=zXb ze;have q146 : x5_1 < (l0.length : Int):=zXb ze;obtain ⟨ad146,e146,hx146_0⟩:=Kd.at_int HR0.out x5_1 p146 q146
        cases e146
        replace p146:=eq_true p146;replace q146:=eq_true q146;have p147 : 0 ≤ (x5_1 : Int):=zXb ze;have q147 : x5_1 < (l1.length : Int):=zXb ze;obtain ⟨ad147,e147,hx147_0⟩:=Kd.at_int HR1.out x5_1 p147 q147
        cases e147
        replace p147:=eq_true p147;replace q147:=eq_true q147
        go_wp2
        repeat (go_quiet (fail);try go_wp2)
        go_ret
        exact ⟨za,zdr⟩
      ·
       rw [if_neg c6] at H
       exact absurd H (by simp)
     ·
      rw [if_neg c5] at H
      exact absurd H (by simp)
    ·
     rw [if_neg c4] at H;have c4b0:=decide_eq_false c4;clear c4
     obtain rfl:=Option.some.inj H
     go_wp2
     repeat (go_quiet (fail);try go_wp2)
     go_ret
     exact ⟨za,zdr⟩
 ·
  rw [if_neg c3] at H;have c3b0:=beq_eq_false_iff_ne.mpr c3;have c3b1:=bne_iff_ne.mpr c3
  have c3b2 : (l0.length == l1.length) = false:=by first|simpa using c3|(simp at c3 ⊢;omega)
  obtain rfl:=Option.some.inj H
  go_enter Try.func83,Try.ntmps83
  go_wp2
  repeat (go_quiet (fail);try go_wp2)
  go_ret
  exact ⟨za,zdr⟩

/-! ### spec_EqualAtoms: function 84 -/
def spec_EqualAtoms.f (k : Nat) (a0_0 : Int) (l0_1 : List Int) (a1_0 : Int) (l1_1 : List Int) : Option (Bool) := if a0_0 = a1_0 then ((spec_l2Ints.f k l0_1 l1_1).bind fun t150 => (some t150)) else (some false)
set_option maxHeartbeats 8000000 in
set_option maxRecDepth 100000 in
theorem spec_EqualAtoms.calls (k : Nat) (a0_0 : Int) (A0_1 : Option Addr) (c0_1 : Nat) (l0_1 : List Int) (a1_0 : Int) (A1_1 : Option Addr) (c1_1 : Nat) (l1_1 : List Int) (r : Bool) (w : World) (hr0_1 : Kd.C (Kd.int .i64) w A0_1 l0_1.length l0_1) (hc0_1 : l0_1.length ≤ c0_1) (hr1_1 : Kd.C (Kd.int .i64) w A1_1 l1_1.length l1_1) (hc1_1 : l1_1.length ≤ c1_1) (h : spec_EqualAtoms.f k a0_0 l0_1 a1_0 l1_1 = some r) :
  Calls Try.prog 84 #[.agg #[.int .i64 a0_0, .slice A0_1 l0_1.length c0_1], .agg #[.int .i64 a1_0, .slice A1_1 l1_1.length c1_1]] w fun e w' => e = .returned (.bool r) ∧ Below w.heap.size w w' := by
 have hu97:=Try.underlying97;have HR0_1:=zA hr0_1;have HC0_1:=zA hc0_1;clear hr0_1 hc0_1;have HR1_1:=zA hr1_1;have HC1_1:=zA hc1_1;clear hr1_1 hc1_1;have HB:=zA (Below.refl w.heap.size w)
 have H : (if a0_0 = a1_0 then ((spec_l2Ints.f k l0_1 l1_1).bind fun t150 => (some t150)) else (some false)) = some r:=h
 clear h
 by_cases c3 : a0_0 = a1_0
 ·
  rw [if_pos c3] at H;have c3b0:=beq_iff_eq.mpr c3;have c3b1:=bne_eq_false_iff_eq.mpr c3;clear c3;obtain ⟨t150,A40,H⟩:=zYb.mp H;(try dsimp only at H);have A4:=zA A40;clear A40
  obtain rfl:=Option.some.inj H
  go_enter Try.func84,Try.ntmps84
  go_wp2_with (first|((with_reducible refine gate_dst (N:=2) rfl ?_);refine zbx 2 #[.int .i64 a0_0,.slice A0_1 l0_1.length c0_1] 97 ?_;intro gb148 hg w5 hbox hb;have BK148:=zA (hbox);have GW148:=zgw hg HB;have GE148:=zgw hg HB;replace HB:=zA (zJb (zz HB) hb);clear hb hbox hg)|((with_reducible refine gate_dst (N:=3) rfl ?_);refine zbx 3 #[.int .i64 a1_0,.slice A1_1 l1_1.length c1_1] 97 ?_;intro gb149 hg w6 hbox hb;have BK149:=zA (hbox);have GW149:=zgw hg HB;have GE149:=zgw hg HB;replace HB:=zA (zJb (zz HB) hb);have NB148_149:=znb hg BK148;have NB149_148:=znc hg BK148;replace BK148:=zbk BK148 hb;clear hb hbox hg;have hnb7:=NB148_149.out;have hnc7:=NB149_148.out;have hcz8_0:=zc (.int .i64 a0_0) BK148 0 rfl;have hcz8_1:=zc (.slice A0_1 l0_1.length c0_1) BK148 1 rfl;have hfz8_0:=blk_frozen BK148.out 0;have hfz8_1:=blk_frozen BK148.out 1;have hcz9_0:=zc (.int .i64 a1_0) BK149 0 rfl;have hcz9_1:=zc (.slice A1_1 l1_1.length c1_1) BK149 1 rfl;have hfz9_0:=blk_frozen BK149.out 0;have hfz9_1:=blk_frozen BK149.out 1)|(go_at_call 83;(with_reducible refine (spec_l2Ints.calls k _ _ l0_1 _ _ l1_1 t150 _ ?side1 ?side2 ?side3 ?side4 A4.out).mono ?_);(case side1 => exact zsd HR0_1 HB);(case side2 => exact HC0_1.out);(case side3 => exact zsd HR1_1 HB);(case side4 => exact HC1_1.out);rintro e w' ⟨rfl,⟨nd,rfl⟩⟩))
  go_ret
  exact ⟨zrr,zz HB⟩
 ·
  rw [if_neg c3] at H;have c3b0:=beq_eq_false_iff_ne.mpr c3;have c3b1:=bne_iff_ne.mpr c3
  obtain rfl:=Option.some.inj H
  go_enter Try.func84,Try.ntmps84
  go_wp2_with (first|((with_reducible refine gate_dst (N:=2) rfl ?_);refine zbx 2 #[.int .i64 a0_0,.slice A0_1 l0_1.length c0_1] 97 ?_;intro gb148 hg w10 hbox hb;have BK148:=zA (hbox);have GW148:=zgw hg HB;have GE148:=zgw hg HB;replace HB:=zA (zJb (zz HB) hb);clear hb hbox hg)|((with_reducible refine gate_dst (N:=3) rfl ?_);refine zbx 3 #[.int .i64 a1_0,.slice A1_1 l1_1.length c1_1] 97 ?_;intro gb149 hg w11 hbox hb;have BK149:=zA (hbox);have GW149:=zgw hg HB;have GE149:=zgw hg HB;replace HB:=zA (zJb (zz HB) hb);have NB148_149:=znb hg BK148;have NB149_148:=znc hg BK148;replace BK148:=zbk BK148 hb;clear hb hbox hg;have hnb12:=NB148_149.out;have hnc12:=NB149_148.out;have hcz13_0:=zc (.int .i64 a0_0) BK148 0 rfl;have hcz13_1:=zc (.slice A0_1 l0_1.length c0_1) BK148 1 rfl;have hfz13_0:=blk_frozen BK148.out 0;have hfz13_1:=blk_frozen BK148.out 1;have hcz14_0:=zc (.int .i64 a1_0) BK149 0 rfl;have hcz14_1:=zc (.slice A1_1 l1_1.length c1_1) BK149 1 rfl;have hfz14_0:=blk_frozen BK149.out 0;have hfz14_1:=blk_frozen BK149.out 1))
  go_ret
  exact ⟨zrr,zz HB⟩

/-! ### spec_ApplyMapping: function 68 -/
def spec_ApplyMapping.f (l0 : List Int) (a1 : Int) : Option (Int) := (spec_l1In.f a1 0 (wrap64 ((l0.length : Int) - 1))).bind fun t151 => (if t151 = true then (if 0 ≤ a1 then (if a1 < (l0.length : Int) then (if (rd l0 a1) = (-1000) then (some a1) else (some (rd l0 a1))) else (none)) else (none)) else (some a1))
set_option maxHeartbeats 8000000 in
set_option maxRecDepth 100000 in
theorem spec_ApplyMapping.calls (A0 : Option Addr) (c0 : Nat) (l0 : List Int) (a1 : Int) (r : Int) (w : World) (hr0 : Kd.C (Kd.int .i64) w A0 l0.length l0) (hc0 : l0.length ≤ c0) (h : spec_ApplyMapping.f l0 a1 = some r) :
  Calls Try.prog 68 #[.slice A0 l0.length c0, .int .i64 a1] w fun e w' => e = .returned (.int .i64 r) ∧ Drawn0 w w' := by
 have HR0:=zA hr0;have HC0:=zA hc0;clear hr0 hc0
 have H : ((spec_l1In.f a1 0 (wrap64 ((l0.length : Int) - 1))).bind fun t151 => (if t151 = true then (if 0 ≤ a1 then (if a1 < (l0.length : Int) then (if (rd l0 a1) = (-1000) then (some a1) else (some (rd l0 a1))) else (none)) else (none)) else (some a1))) = some r:=h
 clear h;obtain ⟨t151,A30,H⟩:=zYb.mp H;(try dsimp only at H);have A3:=zA A30;clear A30
 by_cases c4 : t151 = true
 ·
  subst c4
  rw [if_pos rfl] at H
  by_cases c5 : 0 ≤ a1
  ·
   rw [if_pos c5] at H;have c5b0:=decide_eq_true c5;clear c5
   by_cases c6 : a1 < (l0.length : Int)
   ·
    rw [if_pos c6] at H;have c6b0:=decide_eq_true c6;clear c6
    by_cases c7 : (rd l0 a1) = (-1000)
    ·
     rw [if_pos c7] at H;have c7b0:=beq_iff_eq.mpr c7;have c7b1:=bne_eq_false_iff_eq.mpr c7;clear c7
     obtain rfl:=Option.some.inj H
     go_enter Try.func68,Try.ntmps68
     go_wp2_with (first|((with_reducible refine gate_callee (f:=80) rfl ?_);refine zgo (some 9) Try.func80 #[.int .i64 a1,.int .i64 0,.int .i64 (wrap64 ((l0.length : Int) - 1))] ?_;(with_reducible refine (spec_l1In.calls a1 0 (wrap64 ((l0.length : Int) - 1)) true _ A3.out).mono ?_);rintro e w' ⟨rfl,⟨nd,rfl⟩⟩;refine ⟨_,rfl,?_⟩;have p152 : 0 ≤ (a1 : Int):=zXb ze;have q152 : a1 < (l0.length : Int):=zXb ze;obtain ⟨ad152,e152,hx152_0⟩:=Kd.at_int HR0.out a1 p152 q152;cases e152;replace p152:=eq_true p152;replace q152:=eq_true q152))
     go_ret
     exact ⟨za,zdr⟩
    ·
     rw [if_neg c7] at H;have c7b0:=beq_eq_false_iff_ne.mpr c7;have c7b1:=bne_iff_ne.mpr c7
     obtain rfl:=Option.some.inj H
     go_enter Try.func68,Try.ntmps68
     go_wp2_with (first|((with_reducible refine gate_callee (f:=80) rfl ?_);refine zgo (some 9) Try.func80 #[.int .i64 a1,.int .i64 0,.int .i64 (wrap64 ((l0.length : Int) - 1))] ?_;(with_reducible refine (spec_l1In.calls a1 0 (wrap64 ((l0.length : Int) - 1)) true _ A3.out).mono ?_);rintro e w' ⟨rfl,⟨nd,rfl⟩⟩;refine ⟨_,rfl,?_⟩;have p152 : 0 ≤ (a1 : Int):=zXb ze;have q152 : a1 < (l0.length : Int):=zXb ze;obtain ⟨ad152,e152,hx152_0⟩:=Kd.at_int HR0.out a1 p152 q152;cases e152;replace p152:=eq_true p152;replace q152:=eq_true q152;have p153 : 0 ≤ (a1 : Int):=zXb ze;have q153 : a1 < (l0.length : Int):=zXb ze;obtain ⟨ad153,e153,hx153_0⟩:=Kd.at_int HR0.out a1 p153 q153;obtain rfl : ad152 = ad153:=(by injection e153);replace p153:=eq_true p153;replace q153:=eq_true q153))
     go_ret
     exact ⟨za,zdr⟩
   ·
    rw [if_neg c6] at H
    exact absurd H (by simp)
  ·
   rw [if_neg c5] at H
   exact absurd H (by simp)
 ·
  replace c4:=Bool.eq_false_iff.mpr c4
  subst c4
  have H1 : (some a1) = some r:=by rw [if_neg (show ¬ (false = true) by decide)] at H;exact H
  clear H;have H:=H1;clear H1
  obtain rfl:=Option.some.inj H
  go_enter Try.func68,Try.ntmps68
  go_wp2_with (first|((with_reducible refine gate_callee (f:=80) rfl ?_);refine zgo (some 9) Try.func80 #[.int .i64 a1,.int .i64 0,.int .i64 (wrap64 ((l0.length : Int) - 1))] ?_;(with_reducible refine (spec_l1In.calls a1 0 (wrap64 ((l0.length : Int) - 1)) false _ A3.out).mono ?_);rintro e w' ⟨rfl,⟨nd,rfl⟩⟩;refine ⟨_,rfl,?_⟩))
  go_ret
  exact ⟨za,zdr⟩

/-! ### spec_l7List: function 127 -/
def spec_l7List.l0 : Nat → List Int → List Int → List Int → Int → Option (List Int)
 | 0, _, _, _, _ => none
 | k + 1, x0, x1, x5, x6 => if x6 < (x1.length : Int) then (if 0 ≤ x6 then ((spec_ApplyMapping.f x0 (rd x1 x6)).bind fun t158 => (if x5.length < 17592186044416 then (spec_l7List.l0 k x0 x1 (x5 ++ [t158]) (wrap64 (x6 + 1))) else (none))) else (none)) else (some x5)
def spec_l7List.f (k : Nat) (l0 : List Int) (l1 : List Int) : Option (List Int) := spec_l7List.l0 k l0 l1 (([] : List Int)) 0
set_option maxHeartbeats 8000000 in
set_option maxRecDepth 100000 in
theorem spec_l7List.calls (k : Nat) (A0 : Option Addr) (c0 : Nat) (l0 : List Int) (A1 : Option Addr) (c1 : Nat) (l1 : List Int) (r : List Int) (w : World) (hr0 : Kd.C (Kd.int .i64) w A0 l0.length l0) (hc0 : l0.length ≤ c0) (hr1 : Kd.C (Kd.int .i64) w A1 l1.length l1) (hc1 : l1.length ≤ c1) (h : spec_l7List.f k l0 l1 = some r) :
  Calls Try.prog 127 #[.slice A0 l0.length c0, .slice A1 l1.length c1] w fun e w' => ∃ v0_ : Value, e = .returned (v0_) ∧ Kd.R (Kd.int .i64) 3 w' w.heap.size (fun _ => True) v0_ r ∧ Below w.heap.size w w' := by
 have HR0:=zA hr0;have HC0:=zA hc0;clear hr0 hc0;have HR1:=zA hr1;have HC1:=zA hc1;clear hr1 hc1;have HB:=zA (Below.refl w.heap.size w)
 have H : (spec_l7List.l0 k l0 l1 (([] : List Int)) 0) = some r:=h
 clear h;obtain ⟨y154,hy154⟩ : ∃ y_ : List Int,y_ = (([] : List Int)):=⟨_,rfl⟩
 replace H : (spec_l7List.l0 k l0 l1 y154 0) = some r:=by first|(rw [hy154];with_reducible exact H)|(have H2_:=(Option.bind_some _ _).symm.trans H;rw [hy154];with_reducible exact H2_)|(have H2_:=(Option.bind_some _ _).symm.trans H;with_reducible exact H2_)|with_reducible exact H|(rw [hy154];exact H)|exact H
 have Ny154:=zA hy154;clear hy154
 have H':=zA H
 clear H
 go_enter Try.func127,Try.ntmps127
 go_wp2_with (first|((with_reducible refine gate_dst (N:=7) rfl ?_);refine Kd.R_lit (Kd.int .i64) _ 3 ?hg (N:=7) ?hd (xs:=([] : List Int)) (inner:=[]) (ok:=fun _ => True) (okp:=fun _ => True) ?hr ?hp (fun _ hk => hk) trivial (Below.refl _ _) (Nat.le_refl _) (by simp) ?_;(case hd => rfl);(case hg => rfl);(case hr => first|(go_simp;done)|(go_simp;rfl));(case hp => exact (Reps.none _ _));intro v155 w3 ho4 hb hg_ hnew_;clear hg_ hnew_;(first|rw [← Ny154.out] at ho4|(simp only [Int.reduceToNat] at ho4;rw [← Ny154.out] at ho4));have HO156:=zA (zHb ho4 (zT (zz HB)));replace HB:=zA (zJb (zz HB) hb);clear hb ho4))
 go_loopg [5,6] k (fun kq v5 v6 w' => ∃ (x5_1 : List Int) (x6_1 : Int),v6 = .int .i64 x6_1 ∧ Aside0 (spec_l7List.l0 kq l0 l1 x5_1 x6_1 = some r) ∧ Aside0 (kq ≤ k) ∧ Aside0 (Kd.R (Kd.int .i64) 3 w' w.heap.size (fun _ => True) v5 x5_1) ∧ Aside0 (Below w.heap.size w w'))
 case atStart => exact ⟨(y154),(0),za,H',⟨Nat.le_refl _⟩,⟨zq HO156⟩,⟨zz HB⟩⟩
 case round =>
  clear H';(try clear c1);(try clear p2);obtain ⟨x5_1,x6_1,rfl,HA,HK1,HO_5,HB⟩:=hrel
  cases gk with
  | zero => exact absurd HA.out (by simp [spec_l7List.l0])
  | succ k1 =>
   have H:=HA.out;clear HA;simp only [spec_l7List.l0] at H
   by_cases c5 : x6_1 < (l1.length : Int)
   ·
    rw [if_pos c5] at H;have c5b0:=decide_eq_true c5;clear c5
    by_cases c6 : 0 ≤ x6_1
    ·
     rw [if_pos c6] at H;have c6b0:=decide_eq_true c6;clear c6;obtain ⟨t158,A70,H⟩:=zYb.mp H;(try dsimp only at H);have A7:=zA A70;clear A70
     by_cases c8 : x5_1.length < 17592186044416
     ·
      rw [if_pos c8] at H;have LMc8:=zA c8;clear c8;obtain ⟨y159,hy159⟩ : ∃ y_ : List Int,y_ = (x5_1 ++ [t158]):=⟨_,rfl⟩
      replace H : (spec_l7List.l0 k1 l0 l1 y159 (wrap64 (x6_1 + 1))) = some r:=by first|(rw [hy159];with_reducible exact H)|(have H2_:=(Option.bind_some _ _).symm.trans H;rw [hy159];with_reducible exact H2_)|(have H2_:=(Option.bind_some _ _).symm.trans H;with_reducible exact H2_)|with_reducible exact H|(rw [hy159];exact H)|exact H
      have Ny159:=zA hy159;clear hy159
      have H':=zA H
      clear H;have p157 : 0 ≤ (x6_1 : Int):=zXb ze;have q157 : x6_1 < (l1.length : Int):=zXb ze;obtain ⟨ad157,e157,hx157_0⟩:=Kd.at_int HR1.out x6_1 p157 q157
      cases e157
      replace hx157_0:=zhx HB hx157_0;replace p157:=eq_true p157;replace q157:=eq_true q157
      go_wp2_with (first|((with_reducible refine gate_callee (f:=68) rfl ?_);refine zgo (some 20) Try.func68 #[.slice A0 l0.length c0,.int .i64 (rd l1 x6_1)] ?_;(with_reducible refine (spec_ApplyMapping.calls _ _ l0 (rd l1 x6_1) t158 _ ?side1 ?side2 A7.out).mono ?_);(case side1 => exact zsd HR0 HB);(case side2 => exact HC0.out);rintro e w' ⟨rfl,⟨nd,rfl⟩⟩;refine ⟨_,rfl,?_⟩)|((with_reducible refine gate_builtin (b:=.append) (xs:=#[.tmp 14,.tmp 21]) rfl ?_);at_builtin;refine Kd.R_append (Kd.int .i64) (w0:=w) w.heap.size rfl (.tmp 14) (.tmp 21) 38 3 (.int .i64 0) 8 rfl Try.underlying38 info3 rfl (by decide) (by omega) u5 x5_1 t158 [.int .i64 t158] (fun _ => True) (fun _ => False) rfl rfl ?aP (fun _ hk => hk.elim) ?aF ?aO ?aB ?aS ?aL ?_;(case aP => exact rfl);(case aB => exact (zz HB));(case aF => exact (fun _ _ => trivial));(case aO => exact (zq HO_5));(case aS => exact (zT (zz HB)));(case aL => have:=LMc8.out;omega);intro v160 w9 ho hb hg hat;rw [← Ny159.out] at ho;replace HB:=zA (hb);have HO161:=zA (ho);clear HO_5;clear ho hb hg hat))
      go_roundg k1
      case measure => have:=HK1.out;omega
      case rel => exact ⟨(y159),(wrap64 (x6_1 + 1)),za,H',⟨by have:=HK1.out;omega⟩,⟨zq HO161⟩,⟨zz HB⟩⟩
     ·
      rw [if_neg c8] at H
      exact absurd H (by simp)
    ·
     rw [if_neg c6] at H
     exact absurd H (by simp)
   ·
    rw [if_neg c5] at H;have c5b0:=decide_eq_false c5;clear c5
    obtain rfl:=Option.some.inj H
    go_wp2
    go_ret
    exact ⟨_,zrr,zq HO_5,zz HB⟩

end Go.Proofs.Ytanbgnjfllpkgaa.QFnMappings
