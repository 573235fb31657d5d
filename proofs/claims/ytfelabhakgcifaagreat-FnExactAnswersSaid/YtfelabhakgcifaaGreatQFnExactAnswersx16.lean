/- Walks through the Go functions that FnExactAnswers reaches: each call returns what the Lean function beside it says, within the bounds that the theorem names. -/
import Derived.Test.YtfelabhakgcifaaGreatQFnExactAnswersx0
import Derived.Test.YtfelabhakgcifaaGreatQFnExactAnswersx12
namespace Go.Proofs.YtfelabhakgcifaaGreat.QFnExactAnswers
open Go.RowKit Go.Proofs.YtfelabhakgcifaaGreatW.PrintWords Go.Proofs.YtfelabhakgcifaaGreatW.PrintLast Go.Proofs.YtfelabhakgcifaaGreatW.PrintMore
attribute [local go_sem] max2_int min2_int max_two min_two max_three min_three max_four min_four   -- for this text's walks alone
set_option linter.unusedVariables false
set_option linter.unusedSimpArgs false


-- NOT PRINTED: function 63 (slices_SortFunc_int_int)

-- NOT PRINTED: function 65 (slices_CompactFunc_int_int)

/-! ### slices_Equal_int_int: function 66 -/
def slices_Equal_int_int.l0 : Nat → List Int → List Int → Int → Int → Option (Bool)
 | 0, _, _, _, _ => none
 | k + 1, x0, x1, x12, x13 => if x13 < x12 then (if 0 ≤ x13 then (if x13 < (x0.length : Int) then (if x13 < (x1.length : Int) then (if (rd x0 x13) = (rd x1 x13) then (slices_Equal_int_int.l0 k x0 x1 x12 (wrap64 (x13 + 1))) else (some false)) else (none)) else (none)) else (none)) else (some true)
def slices_Equal_int_int.f (k : Nat) (l0 : List Int) (l1 : List Int) : Option (Bool) := if (l0.length : Int) = (l1.length : Int) then (slices_Equal_int_int.l0 k l0 l1 (l0.length : Int) 0) else (some false)
set_option maxHeartbeats 8000000 in
set_option maxRecDepth 100000 in
theorem slices_Equal_int_int.calls (k : Nat) (A0 : Option Addr) (c0 : Nat) (l0 : List Int) (A1 : Option Addr) (c1 : Nat) (l1 : List Int) (r : Bool) (w : World) (hr0 : Kd.C (Kd.int .i64) w A0 l0.length l0) (hc0 : l0.length ≤ c0) (hr1 : Kd.C (Kd.int .i64) w A1 l1.length l1) (hc1 : l1.length ≤ c1) (h : slices_Equal_int_int.f k l0 l1 = some r) :
  Calls Tryz.prog 66 #[.slice A0 l0.length c0, .slice A1 l1.length c1] w fun e w' => e = .returned (.bool r) ∧ Drawn0 w w' := by
 have HR0:=zA hr0;have HC0:=zA hc0;clear hr0 hc0;have HR1:=zA hr1;have HC1:=zA hc1;clear hr1 hc1
 have H : (if (l0.length : Int) = (l1.length : Int) then (slices_Equal_int_int.l0 k l0 l1 (l0.length : Int) 0) else (some false)) = some r:=h
 clear h
 by_cases c3 : (l0.length : Int) = (l1.length : Int)
 ·
  rw [if_pos c3] at H;have c3b0:=beq_iff_eq.mpr c3;have c3b1:=bne_eq_false_iff_eq.mpr c3
  have c3b2 : (l0.length == l1.length) = true:=by first|simpa using c3|(simp at c3 ⊢;omega)
  clear c3
  have H':=zA H
  clear H
  go_enter Tryz.func66,Tryz.ntmps66
  go_wp2
  repeat (go_quiet (fail);try go_wp2)
  go_loopg [13] k (fun kq v13 w' => ∃ (x13_1 : Int),v13 = .int .i64 x13_1 ∧ Aside0 (slices_Equal_int_int.l0 kq l0 l1 (l0.length : Int) x13_1 = some r) ∧ Aside0 (kq ≤ k) ∧ Drawn0 w w')
  case atStart => exact ⟨(0),za,H',⟨Nat.le_refl _⟩,by repeat (first|exact Drawn0.refl _|apply Drawn0.step)⟩
  case round =>
   clear H';(try clear c1);(try clear p2);(try clear c3);(try clear c3b0);(try clear c3b1);(try clear c3b2);obtain ⟨x13_1,rfl,HA,HK1,⟨m1,rfl⟩⟩:=hrel
   cases gk with
   | zero => exact absurd HA.out (by simp [slices_Equal_int_int.l0])
   | succ k1 =>
    have H:=HA.out;clear HA;simp only [slices_Equal_int_int.l0] at H
    by_cases c4 : x13_1 < (l0.length : Int)
    ·
     rw [if_pos c4] at H;have c4b0:=decide_eq_true c4;clear c4
     by_cases c5 : 0 ≤ x13_1
     ·
      rw [if_pos c5] at H;have c5b0:=decide_eq_true c5;clear c5
      by_cases c6 : x13_1 < (l0.length : Int)
      ·
       rw [if_pos c6] at H;have c6b0:=decide_eq_true c6;clear c6
       by_cases c7 : x13_1 < (l1.length : Int)
       ·
        rw [if_pos c7] at H;have c7b0:=decide_eq_true c7;clear c7
        by_cases c8 : (rd l0 x13_1) = (rd l1 x13_1)
        ·
         rw [if_pos c8] at H;have c8b0:=beq_iff_eq.mpr c8;have c8b1:=bne_eq_false_iff_eq.mpr c8;clear c8
         have H':=zA H
         clear H;have p377 : 0 ≤ (x13_1 : Int):=zXb ze;have q377 : x13_1 < (l0.length : Int):=zXb ze;obtain ⟨ad377,e377,hx377_0⟩:=Kd.at_int HR0.out x13_1 p377 q377
         cases e377
         replace p377:=eq_true p377;replace q377:=eq_true q377;have p378 : 0 ≤ (x13_1 : Int):=zXb ze;have q378 : x13_1 < (l1.length : Int):=zXb ze;obtain ⟨ad378,e378,hx378_0⟩:=Kd.at_int HR1.out x13_1 p378 q378
         cases e378
         replace p378:=eq_true p378;replace q378:=eq_true q378
         go_wp2
         repeat (go_quiet (fail);try go_wp2)
         go_roundg k1
         case measure => have:=HK1.out;omega
         case rel => exact ⟨(wrap64 (x13_1 + 1)),za,H',⟨by have:=HK1.out;omega⟩,by repeat (first|exact Drawn0.refl _|apply Drawn0.step)⟩
        ·
         rw [if_neg c8] at H;have c8b0:=beq_eq_false_iff_ne.mpr c8;have c8b1:=bne_iff_ne.mpr c8
         obtain rfl:=Option.some.inj H
         have p377 : 0 ≤ (x13_1 : Int):=zXb ze;have q377 : x13_1 < (l0.length : Int):=zXb ze;obtain ⟨ad377,e377,hx377_0⟩:=Kd.at_int HR0.out x13_1 p377 q377
         cases e377
         replace p377:=eq_true p377;replace q377:=eq_true q377;have p378 : 0 ≤ (x13_1 : Int):=zXb ze;have q378 : x13_1 < (l1.length : Int):=zXb ze;obtain ⟨ad378,e378,hx378_0⟩:=Kd.at_int HR1.out x13_1 p378 q378
         cases e378
         replace p378:=eq_true p378;replace q378:=eq_true q378
         go_wp2
         repeat (go_quiet (fail);try go_wp2)
         go_ret
         exact ⟨by first|rfl|(simp;done)|(simp [*];done),by repeat (first|exact Drawn0.refl _|apply Drawn0.step)⟩
       ·
        rw [if_neg c7] at H
        exact absurd H (by simp)
      ·
       rw [if_neg c6] at H
       exact absurd H (by simp)
     ·
      rw [if_neg c5] at H
      exact absurd H (by simp)
    ·
     rw [if_neg c4] at H;have c4b0:=decide_eq_false c4;clear c4
     obtain rfl:=Option.some.inj H
     go_wp2
     repeat (go_quiet (fail);try go_wp2)
     go_ret
     exact ⟨by first|rfl|(simp;done)|(simp [*];done),by repeat (first|exact Drawn0.refl _|apply Drawn0.step)⟩
 ·
  rw [if_neg c3] at H;have c3b0:=beq_eq_false_iff_ne.mpr c3;have c3b1:=bne_iff_ne.mpr c3
  have c3b2 : (l0.length == l1.length) = false:=by first|simpa using c3|(simp at c3 ⊢;omega)
  obtain rfl:=Option.some.inj H
  go_enter Tryz.func66,Tryz.ntmps66
  go_wp2
  repeat (go_quiet (fail);try go_wp2)
  go_ret
  exact ⟨by first|rfl|(simp;done)|(simp [*];done),by repeat (first|exact Drawn0.refl _|apply Drawn0.step)⟩

-- NOT PRINTED: function 38 (impl_different)

/-! ### impl_ConstOf: function 106 -/
def impl_ConstOf.f (a0 : Int) : Option (Int) := (impl_IsTerm.f a0).bind fun t379 => (if t379 = true then ((impl_IsVar.f a0).bind fun t380 => (if t380 = true then (some (-1)) else (some (wrap64 ((-1) - a0))))) else (some (-1)))
set_option maxHeartbeats 8000000 in
set_option maxRecDepth 100000 in
theorem impl_ConstOf.calls (a0 : Int) (r : Int) (w : World) (h : impl_ConstOf.f a0 = some r) :
  Calls Tryz.prog 106 #[.int .i64 a0] w fun e w' => e = .returned (.int .i64 r) ∧ Drawn0 w w' := by
 have H : ((impl_IsTerm.f a0).bind fun t379 => (if t379 = true then ((impl_IsVar.f a0).bind fun t380 => (if t380 = true then (some (-1)) else (some (wrap64 ((-1) - a0))))) else (some (-1)))) = some r:=h
 clear h;replace H:=Option.bind_eq_some_iff.mp H;obtain ⟨t379,A20,H⟩:=H;(try dsimp only at H);have A2:=zA A20;clear A20
 by_cases c3 : t379 = true
 ·
  subst c3
  rw [if_pos rfl] at H;replace H:=Option.bind_eq_some_iff.mp H;obtain ⟨t380,A40,H⟩:=H;(try dsimp only at H);have A4:=zA A40;clear A40
  by_cases c5 : t380 = true
  ·
   subst c5
   rw [if_pos rfl] at H
   obtain rfl:=Option.some.inj H
   go_enter Tryz.func106,Tryz.ntmps106
   go_wp2_with (first|((with_reducible refine gate_callee (f:=77) rfl ?_);refine goesL_ (some 4) rfl rfl Tryz.func77 (by kernel_rfl) rfl #[.int .i64 a0] rfl (by (try simp only [zCb,zMb,zNb]);first|done|rfl|(simp only [zLb,zDb];rfl)) ?_;(with_reducible refine (impl_IsTerm.calls a0 true _ A2.out).mono ?_);rintro e w' ⟨rfl,⟨nd,rfl⟩⟩;refine ⟨_,rfl,?_⟩)|(go_at_call 79;(with_reducible refine (impl_IsVar.calls a0 true _ A4.out).mono ?_);rintro e w' ⟨rfl,⟨nd,rfl⟩⟩))
   go_ret
   exact ⟨by first|rfl|(simp;done)|(simp [*];done),by repeat (first|exact Drawn0.refl _|apply Drawn0.step)⟩
  ·
   replace c5:=Bool.eq_false_iff.mpr c5
   subst c5
   have H1 : (some (wrap64 ((-1) - a0))) = some r:=by rw [if_neg (show ¬ (false = true) by decide)] at H;exact H
   clear H;have H:=H1;clear H1
   obtain rfl:=Option.some.inj H
   go_enter Tryz.func106,Tryz.ntmps106
   go_wp2_with (first|((with_reducible refine gate_callee (f:=77) rfl ?_);refine goesL_ (some 4) rfl rfl Tryz.func77 (by kernel_rfl) rfl #[.int .i64 a0] rfl (by (try simp only [zCb,zMb,zNb]);first|done|rfl|(simp only [zLb,zDb];rfl)) ?_;(with_reducible refine (impl_IsTerm.calls a0 true _ A2.out).mono ?_);rintro e w' ⟨rfl,⟨nd,rfl⟩⟩;refine ⟨_,rfl,?_⟩)|(go_at_call 79;(with_reducible refine (impl_IsVar.calls a0 false _ A4.out).mono ?_);rintro e w' ⟨rfl,⟨nd,rfl⟩⟩))
   go_ret
   exact ⟨by first|rfl|(simp;done)|(simp [*];done),by repeat (first|exact Drawn0.refl _|apply Drawn0.step)⟩
 ·
  replace c3:=Bool.eq_false_iff.mpr c3
  subst c3
  have H1 : (some (-1)) = some r:=by rw [if_neg (show ¬ (false = true) by decide)] at H;exact H
  clear H;have H:=H1;clear H1
  obtain rfl:=Option.some.inj H
  go_enter Tryz.func106,Tryz.ntmps106
  go_wp2_with (first|((with_reducible refine gate_callee (f:=77) rfl ?_);refine goesL_ (some 4) rfl rfl Tryz.func77 (by kernel_rfl) rfl #[.int .i64 a0] rfl (by (try simp only [zCb,zMb,zNb]);first|done|rfl|(simp only [zLb,zDb];rfl)) ?_;(with_reducible refine (impl_IsTerm.calls a0 false _ A2.out).mono ?_);rintro e w' ⟨rfl,⟨nd,rfl⟩⟩;refine ⟨_,rfl,?_⟩))
  go_ret
  exact ⟨by first|rfl|(simp;done)|(simp [*];done),by repeat (first|exact Drawn0.refl _|apply Drawn0.step)⟩

-- NOT PRINTED: function 86 (impl_binding_valueOf)

-- NOT PRINTED: function 85 (impl_binding_match)

-- NOT PRINTED: function 67 (impl_visit)

-- NOT PRINTED: function 69 (impl_binding_tuple)

-- NOT PRINTED: function 39 (impl_heads)

-- NOT PRINTED: function 12 (impl_Answers)

/-! ### laws_eqIntS: function 40 -/
def laws_eqIntS.l0 : Nat → List Int → List Int → Int → Option (Bool)
 | 0, _, _, _ => none
 | k + 1, x0, x1, x5 => if x5 < (x0.length : Int) then (if 0 ≤ x5 then (if x5 < (x1.length : Int) then (if (rd x0 x5) = (rd x1 x5) then (laws_eqIntS.l0 k x0 x1 (wrap64 (x5 + 1))) else (some false)) else (none)) else (none)) else (some true)
def laws_eqIntS.f (k : Nat) (l0 : List Int) (l1 : List Int) : Option (Bool) := if (l0.length : Int) = (l1.length : Int) then (laws_eqIntS.l0 k l0 l1 0) else (some false)
set_option maxHeartbeats 8000000 in
set_option maxRecDepth 100000 in
theorem laws_eqIntS.calls (k : Nat) (A0 : Option Addr) (c0 : Nat) (l0 : List Int) (A1 : Option Addr) (c1 : Nat) (l1 : List Int) (r : Bool) (w : World) (hr0 : Kd.C (Kd.int .i64) w A0 l0.length l0) (hc0 : l0.length ≤ c0) (hr1 : Kd.C (Kd.int .i64) w A1 l1.length l1) (hc1 : l1.length ≤ c1) (h : laws_eqIntS.f k l0 l1 = some r) :
  Calls Tryz.prog 40 #[.slice A0 l0.length c0, .slice A1 l1.length c1] w fun e w' => e = .returned (.bool r) ∧ Drawn0 w w' := by
 have HR0:=zA hr0;have HC0:=zA hc0;clear hr0 hc0;have HR1:=zA hr1;have HC1:=zA hc1;clear hr1 hc1
 have H : (if (l0.length : Int) = (l1.length : Int) then (laws_eqIntS.l0 k l0 l1 0) else (some false)) = some r:=h
 clear h
 by_cases c3 : (l0.length : Int) = (l1.length : Int)
 ·
  rw [if_pos c3] at H;have c3b0:=beq_iff_eq.mpr c3;have c3b1:=bne_eq_false_iff_eq.mpr c3
  have c3b2 : (l0.length == l1.length) = true:=by first|simpa using c3|(simp at c3 ⊢;omega)
  clear c3
  have H':=zA H
  clear H
  go_enter Tryz.func40,Tryz.ntmps40
  go_wp2
  repeat (go_quiet (fail);try go_wp2)
  go_loopg [5] k (fun kq v5 w' => ∃ (x5_1 : Int),v5 = .int .i64 x5_1 ∧ Aside0 (laws_eqIntS.l0 kq l0 l1 x5_1 = some r) ∧ Aside0 (kq ≤ k) ∧ Drawn0 w w')
  case atStart => exact ⟨(0),za,H',⟨Nat.le_refl _⟩,by repeat (first|exact Drawn0.refl _|apply Drawn0.step)⟩
  case round =>
   clear H';(try clear c1);(try clear p2);(try clear c3);(try clear c3b0);(try clear c3b1);(try clear c3b2);obtain ⟨x5_1,rfl,HA,HK1,⟨m1,rfl⟩⟩:=hrel
   cases gk with
   | zero => exact absurd HA.out (by simp [laws_eqIntS.l0])
   | succ k1 =>
    have H:=HA.out;clear HA;simp only [laws_eqIntS.l0] at H
    by_cases c4 : x5_1 < (l0.length : Int)
    ·
     rw [if_pos c4] at H;have c4b0:=decide_eq_true c4;clear c4
     by_cases c5 : 0 ≤ x5_1
     ·
      rw [if_pos c5] at H;have c5b0:=decide_eq_true c5;clear c5
      by_cases c6 : x5_1 < (l1.length : Int)
      ·
       rw [if_pos c6] at H;have c6b0:=decide_eq_true c6;clear c6
       by_cases c7 : (rd l0 x5_1) = (rd l1 x5_1)
       ·
        rw [if_pos c7] at H;have c7b0:=beq_iff_eq.mpr c7;have c7b1:=bne_eq_false_iff_eq.mpr c7;clear c7
        have H':=zA H
        clear H;have p392 : 0 ≤ (x5_1 : Int):=zXb ze;have q392 : x5_1 < (l0.length : Int):=zXb ze;obtain ⟨ad392,e392,hx392_0⟩:=Kd.at_int HR0.out x5_1 p392 q392
        cases e392
        replace p392:=eq_true p392;replace q392:=eq_true q392;have p393 : 0 ≤ (x5_1 : Int):=zXb ze;have q393 : x5_1 < (l1.length : Int):=zXb ze;obtain ⟨ad393,e393,hx393_0⟩:=Kd.at_int HR1.out x5_1 p393 q393
        cases e393
        replace p393:=eq_true p393;replace q393:=eq_true q393
        go_wp2
        repeat (go_quiet (fail);try go_wp2)
        go_roundg k1
        case measure => have:=HK1.out;omega
        case rel => exact ⟨(wrap64 (x5_1 + 1)),za,H',⟨by have:=HK1.out;omega⟩,by repeat (first|exact Drawn0.refl _|apply Drawn0.step)⟩
       ·
        rw [if_neg c7] at H;have c7b0:=beq_eq_false_iff_ne.mpr c7;have c7b1:=bne_iff_ne.mpr c7
        obtain rfl:=Option.some.inj H
        have p392 : 0 ≤ (x5_1 : Int):=zXb ze;have q392 : x5_1 < (l0.length : Int):=zXb ze;obtain ⟨ad392,e392,hx392_0⟩:=Kd.at_int HR0.out x5_1 p392 q392
        cases e392
        replace p392:=eq_true p392;replace q392:=eq_true q392;have p393 : 0 ≤ (x5_1 : Int):=zXb ze;have q393 : x5_1 < (l1.length : Int):=zXb ze;obtain ⟨ad393,e393,hx393_0⟩:=Kd.at_int HR1.out x5_1 p393 q393
        cases e393
        replace p393:=eq_true p393;replace q393:=eq_true q393
        go_wp2
        repeat (go_quiet (fail);try go_wp2)
        go_ret
        exact ⟨by first|rfl|(simp;done)|(simp [*];done),by repeat (first|exact Drawn0.refl _|apply Drawn0.step)⟩
      ·
       rw [if_neg c6] at H
       exact absurd H (by simp)
     ·
      rw [if_neg c5] at H
      exact absurd H (by simp)
    ·
     rw [if_neg c4] at H;have c4b0:=decide_eq_false c4;clear c4
     obtain rfl:=Option.some.inj H
     go_wp2
     repeat (go_quiet (fail);try go_wp2)
     go_ret
     exact ⟨by first|rfl|(simp;done)|(simp [*];done),by repeat (first|exact Drawn0.refl _|apply Drawn0.step)⟩
 ·
  rw [if_neg c3] at H;have c3b0:=beq_eq_false_iff_ne.mpr c3;have c3b1:=bne_iff_ne.mpr c3
  have c3b2 : (l0.length == l1.length) = false:=by first|simpa using c3|(simp at c3 ⊢;omega)
  obtain rfl:=Option.some.inj H
  go_enter Tryz.func40,Tryz.ntmps40
  go_wp2
  repeat (go_quiet (fail);try go_wp2)
  go_ret
  exact ⟨by first|rfl|(simp;done)|(simp [*];done),by repeat (first|exact Drawn0.refl _|apply Drawn0.step)⟩

/-! ### laws_eqIntSS: function 13 -/
def laws_eqIntSS.l0 : Nat → List (List Int) → List (List Int) → Int → Option (Bool)
 | 0, _, _, _ => none
 | k + 1, x0, x1, x5 => if x5 < (x0.length : Int) then (if 0 ≤ x5 then (if x5 < (x1.length : Int) then ((laws_eqIntS.f k (rd_L1 x0 x5) (rd_L1 x1 x5)).bind fun t396 => (if t396 = true then (laws_eqIntSS.l0 k x0 x1 (wrap64 (x5 + 1))) else (some false))) else (none)) else (none)) else (some true)
def laws_eqIntSS.f (k : Nat) (l0 : List (List Int)) (l1 : List (List Int)) : Option (Bool) := if (l0.length : Int) = (l1.length : Int) then (laws_eqIntSS.l0 k l0 l1 0) else (some false)
set_option maxHeartbeats 8000000 in
set_option maxRecDepth 100000 in
theorem laws_eqIntSS.calls (k : Nat) (A0 : Option Addr) (c0 : Nat) (l0 : List (List Int)) (A1 : Option Addr) (c1 : Nat) (l1 : List (List Int)) (r : Bool) (w : World) (hr0 : Kd.C (Kd.slice 3 (Kd.int .i64)) w A0 l0.length l0) (hc0 : l0.length ≤ c0) (hr1 : Kd.C (Kd.slice 3 (Kd.int .i64)) w A1 l1.length l1) (hc1 : l1.length ≤ c1) (h : laws_eqIntSS.f k l0 l1 = some r) :
  Calls Tryz.prog 13 #[.slice A0 l0.length c0, .slice A1 l1.length c1] w fun e w' => e = .returned (.bool r) ∧ Drawn0 w w' := by
 have HR0:=zA hr0;have HC0:=zA hc0;clear hr0 hc0;have HR1:=zA hr1;have HC1:=zA hc1;clear hr1 hc1
 have H : (if (l0.length : Int) = (l1.length : Int) then (laws_eqIntSS.l0 k l0 l1 0) else (some false)) = some r:=h
 clear h
 by_cases c3 : (l0.length : Int) = (l1.length : Int)
 ·
  rw [if_pos c3] at H;have c3b0:=beq_iff_eq.mpr c3;have c3b1:=bne_eq_false_iff_eq.mpr c3
  have c3b2 : (l0.length == l1.length) = true:=by first|simpa using c3|(simp at c3 ⊢;omega)
  clear c3
  have H':=zA H
  clear H
  go_enter Tryz.func13,Tryz.ntmps13
  go_wp2
  repeat (go_quiet (fail);try go_wp2)
  go_loopg [5] k (fun kq v5 w' => ∃ (x5_1 : Int),v5 = .int .i64 x5_1 ∧ Aside0 (laws_eqIntSS.l0 kq l0 l1 x5_1 = some r) ∧ Aside0 (kq ≤ k) ∧ Drawn0 w w')
  case atStart => exact ⟨(0),za,H',⟨Nat.le_refl _⟩,by repeat (first|exact Drawn0.refl _|apply Drawn0.step)⟩
  case round =>
   clear H';(try clear c1);(try clear p2);(try clear c3);(try clear c3b0);(try clear c3b1);(try clear c3b2);obtain ⟨x5_1,rfl,HA,HK1,⟨m1,rfl⟩⟩:=hrel
   cases gk with
   | zero => exact absurd HA.out (by simp [laws_eqIntSS.l0])
   | succ k1 =>
    have H:=HA.out;clear HA;simp only [laws_eqIntSS.l0] at H
    by_cases c4 : x5_1 < (l0.length : Int)
    ·
     rw [if_pos c4] at H;have c4b0:=decide_eq_true c4;clear c4
     by_cases c5 : 0 ≤ x5_1
     ·
      rw [if_pos c5] at H;have c5b0:=decide_eq_true c5;clear c5
      by_cases c6 : x5_1 < (l1.length : Int)
      ·
       rw [if_pos c6] at H;have c6b0:=decide_eq_true c6;clear c6;replace H:=Option.bind_eq_some_iff.mp H;obtain ⟨t396,A70,H⟩:=H;(try dsimp only at H);have A7:=zA A70;clear A70
       by_cases c8 : t396 = true
       ·
        subst c8
        rw [if_pos rfl] at H
        have H':=zA H
        clear H;have p394 : 0 ≤ (x5_1 : Int):=zXb ze;have q394 : x5_1 < (l0.length : Int):=zXb ze;obtain ⟨ad394,A394_0,c394_0,e394,hx394_0,hl394_0,hi394_0⟩:=at_L1 HR0.out x5_1 p394 q394
        cases e394
        have HR394_0:=zA hi394_0;have HC394_0:=zA hl394_0;clear hi394_0 hl394_0;replace p394:=eq_true p394;replace q394:=eq_true q394;have p395 : 0 ≤ (x5_1 : Int):=zXb ze;have q395 : x5_1 < (l1.length : Int):=zXb ze;obtain ⟨ad395,A395_0,c395_0,e395,hx395_0,hl395_0,hi395_0⟩:=at_L1 HR1.out x5_1 p395 q395
        cases e395
        have HR395_0:=zA hi395_0;have HC395_0:=zA hl395_0;clear hi395_0 hl395_0;replace p395:=eq_true p395;replace q395:=eq_true q395
        go_wp2_with (first|(go_at_call 40;(with_reducible refine (laws_eqIntS.calls k1 _ _ (rd_L1 l0 x5_1) _ _ (rd_L1 l1 x5_1) true _ ?side1 ?side2 ?side3 ?side4 A7.out).mono ?_);(case side1 => repeat (first|exact HR394_0.out|(with_reducible refine zBb ?_ _)|(with_reducible refine zAb ?_ _)|(with_reducible refine zX ?_)));(case side2 => exact HC394_0.out);(case side3 => repeat (first|exact HR395_0.out|(with_reducible refine zBb ?_ _)|(with_reducible refine zAb ?_ _)|(with_reducible refine zX ?_)));(case side4 => exact HC395_0.out);rintro e w' ⟨rfl,⟨nd,rfl⟩⟩;(try first|exact ⟨rfl,_,World.drewN_drewN _ _ _⟩|exact ⟨rfl,_,Eq.trans (World.drewN_drewN _ _ _) (congrArg (World.drewN _) (Nat.add_assoc _ _ _))⟩)))
        repeat (go_quiet (first|(go_at_call 40;(with_reducible refine (laws_eqIntS.calls k1 _ _ (rd_L1 l0 x5_1) _ _ (rd_L1 l1 x5_1) true _ ?side1 ?side2 ?side3 ?side4 A7.out).mono ?_);(case side1 => repeat (first|exact HR394_0.out|(with_reducible refine zBb ?_ _)|(with_reducible refine zAb ?_ _)|(with_reducible refine zX ?_)));(case side2 => exact HC394_0.out);(case side3 => repeat (first|exact HR395_0.out|(with_reducible refine zBb ?_ _)|(with_reducible refine zAb ?_ _)|(with_reducible refine zX ?_)));(case side4 => exact HC395_0.out);rintro e w' ⟨rfl,⟨nd,rfl⟩⟩;(try first|exact ⟨rfl,_,World.drewN_drewN _ _ _⟩|exact ⟨rfl,_,Eq.trans (World.drewN_drewN _ _ _) (congrArg (World.drewN _) (Nat.add_assoc _ _ _))⟩)));try go_wp2_with (first|(go_at_call 40;(with_reducible refine (laws_eqIntS.calls k1 _ _ (rd_L1 l0 x5_1) _ _ (rd_L1 l1 x5_1) true _ ?side1 ?side2 ?side3 ?side4 A7.out).mono ?_);(case side1 => repeat (first|exact HR394_0.out|(with_reducible refine zBb ?_ _)|(with_reducible refine zAb ?_ _)|(with_reducible refine zX ?_)));(case side2 => exact HC394_0.out);(case side3 => repeat (first|exact HR395_0.out|(with_reducible refine zBb ?_ _)|(with_reducible refine zAb ?_ _)|(with_reducible refine zX ?_)));(case side4 => exact HC395_0.out);rintro e w' ⟨rfl,⟨nd,rfl⟩⟩;(try first|exact ⟨rfl,_,World.drewN_drewN _ _ _⟩|exact ⟨rfl,_,Eq.trans (World.drewN_drewN _ _ _) (congrArg (World.drewN _) (Nat.add_assoc _ _ _))⟩))))
        go_roundg k1
        case measure => have:=HK1.out;omega
        case rel => exact ⟨(wrap64 (x5_1 + 1)),za,H',⟨by have:=HK1.out;omega⟩,by repeat (first|exact Drawn0.refl _|apply Drawn0.step)⟩
       ·
        replace c8:=Bool.eq_false_iff.mpr c8
        subst c8
        have H1 : (some false) = some r:=by rw [if_neg (show ¬ (false = true) by decide)] at H;exact H
        clear H;have H:=H1;clear H1
        obtain rfl:=Option.some.inj H
        have p394 : 0 ≤ (x5_1 : Int):=zXb ze;have q394 : x5_1 < (l0.length : Int):=zXb ze;obtain ⟨ad394,A394_0,c394_0,e394,hx394_0,hl394_0,hi394_0⟩:=at_L1 HR0.out x5_1 p394 q394
        cases e394
        have HR394_0:=zA hi394_0;have HC394_0:=zA hl394_0;clear hi394_0 hl394_0;replace p394:=eq_true p394;replace q394:=eq_true q394;have p395 : 0 ≤ (x5_1 : Int):=zXb ze;have q395 : x5_1 < (l1.length : Int):=zXb ze;obtain ⟨ad395,A395_0,c395_0,e395,hx395_0,hl395_0,hi395_0⟩:=at_L1 HR1.out x5_1 p395 q395
        cases e395
        have HR395_0:=zA hi395_0;have HC395_0:=zA hl395_0;clear hi395_0 hl395_0;replace p395:=eq_true p395;replace q395:=eq_true q395
        go_wp2_with (first|(go_at_call 40;(with_reducible refine (laws_eqIntS.calls k1 _ _ (rd_L1 l0 x5_1) _ _ (rd_L1 l1 x5_1) false _ ?side1 ?side2 ?side3 ?side4 A7.out).mono ?_);(case side1 => repeat (first|exact HR394_0.out|(with_reducible refine zBb ?_ _)|(with_reducible refine zAb ?_ _)|(with_reducible refine zX ?_)));(case side2 => exact HC394_0.out);(case side3 => repeat (first|exact HR395_0.out|(with_reducible refine zBb ?_ _)|(with_reducible refine zAb ?_ _)|(with_reducible refine zX ?_)));(case side4 => exact HC395_0.out);rintro e w' ⟨rfl,⟨nd,rfl⟩⟩;(try first|exact ⟨rfl,_,World.drewN_drewN _ _ _⟩|exact ⟨rfl,_,Eq.trans (World.drewN_drewN _ _ _) (congrArg (World.drewN _) (Nat.add_assoc _ _ _))⟩)))
        repeat (go_quiet (first|(go_at_call 40;(with_reducible refine (laws_eqIntS.calls k1 _ _ (rd_L1 l0 x5_1) _ _ (rd_L1 l1 x5_1) false _ ?side1 ?side2 ?side3 ?side4 A7.out).mono ?_);(case side1 => repeat (first|exact HR394_0.out|(with_reducible refine zBb ?_ _)|(with_reducible refine zAb ?_ _)|(with_reducible refine zX ?_)));(case side2 => exact HC394_0.out);(case side3 => repeat (first|exact HR395_0.out|(with_reducible refine zBb ?_ _)|(with_reducible refine zAb ?_ _)|(with_reducible refine zX ?_)));(case side4 => exact HC395_0.out);rintro e w' ⟨rfl,⟨nd,rfl⟩⟩;(try first|exact ⟨rfl,_,World.drewN_drewN _ _ _⟩|exact ⟨rfl,_,Eq.trans (World.drewN_drewN _ _ _) (congrArg (World.drewN _) (Nat.add_assoc _ _ _))⟩)));try go_wp2_with (first|(go_at_call 40;(with_reducible refine (laws_eqIntS.calls k1 _ _ (rd_L1 l0 x5_1) _ _ (rd_L1 l1 x5_1) false _ ?side1 ?side2 ?side3 ?side4 A7.out).mono ?_);(case side1 => repeat (first|exact HR394_0.out|(with_reducible refine zBb ?_ _)|(with_reducible refine zAb ?_ _)|(with_reducible refine zX ?_)));(case side2 => exact HC394_0.out);(case side3 => repeat (first|exact HR395_0.out|(with_reducible refine zBb ?_ _)|(with_reducible refine zAb ?_ _)|(with_reducible refine zX ?_)));(case side4 => exact HC395_0.out);rintro e w' ⟨rfl,⟨nd,rfl⟩⟩;(try first|exact ⟨rfl,_,World.drewN_drewN _ _ _⟩|exact ⟨rfl,_,Eq.trans (World.drewN_drewN _ _ _) (congrArg (World.drewN _) (Nat.add_assoc _ _ _))⟩))))
        go_ret
        exact ⟨by first|rfl|(simp;done)|(simp [*];done),by repeat (first|exact Drawn0.refl _|apply Drawn0.step)⟩
      ·
       rw [if_neg c6] at H
       exact absurd H (by simp)
     ·
      rw [if_neg c5] at H
      exact absurd H (by simp)
    ·
     rw [if_neg c4] at H;have c4b0:=decide_eq_false c4;clear c4
     obtain rfl:=Option.some.inj H
     go_wp2
     repeat (go_quiet (fail);try go_wp2)
     go_ret
     exact ⟨by first|rfl|(simp;done)|(simp [*];done),by repeat (first|exact Drawn0.refl _|apply Drawn0.step)⟩
 ·
  rw [if_neg c3] at H;have c3b0:=beq_eq_false_iff_ne.mpr c3;have c3b1:=bne_iff_ne.mpr c3
  have c3b2 : (l0.length == l1.length) = false:=by first|simpa using c3|(simp at c3 ⊢;omega)
  obtain rfl:=Option.some.inj H
  go_enter Tryz.func13,Tryz.ntmps13
  go_wp2
  repeat (go_quiet (fail);try go_wp2)
  go_ret
  exact ⟨by first|rfl|(simp;done)|(simp [*];done),by repeat (first|exact Drawn0.refl _|apply Drawn0.step)⟩

/-! ### laws_eqSchema: function 14 -/
def laws_eqSchema.f (k : Nat) (l0_0 : List Int) (l1_0 : List Int) : Option (Bool) := (laws_eqIntS.f k l0_0 l1_0).bind fun t399 => (if t399 = true then (some true) else (some false))
set_option maxHeartbeats 8000000 in
set_option maxRecDepth 100000 in
theorem laws_eqSchema.calls (k : Nat) (A0_0 : Option Addr) (c0_0 : Nat) (l0_0 : List Int) (A1_0 : Option Addr) (c1_0 : Nat) (l1_0 : List Int) (r : Bool) (w : World) (hr0_0 : Kd.C (Kd.int .i64) w A0_0 l0_0.length l0_0) (hc0_0 : l0_0.length ≤ c0_0) (hr1_0 : Kd.C (Kd.int .i64) w A1_0 l1_0.length l1_0) (hc1_0 : l1_0.length ≤ c1_0) (h : laws_eqSchema.f k l0_0 l1_0 = some r) :
  Calls Tryz.prog 14 #[.agg #[.slice A0_0 l0_0.length c0_0], .agg #[.slice A1_0 l1_0.length c1_0]] w fun e w' => e = .returned (.bool r) ∧ Below w.heap.size w w' := by
 have hu34:=Tryz.underlying34;have HR0_0:=zA hr0_0;have HC0_0:=zA hc0_0;clear hr0_0 hc0_0;have HR1_0:=zA hr1_0;have HC1_0:=zA hc1_0;clear hr1_0 hc1_0;have HB:=zA (Below.refl w.heap.size w)
 have H : ((laws_eqIntS.f k l0_0 l1_0).bind fun t399 => (if t399 = true then (some true) else (some false))) = some r:=h
 clear h;replace H:=Option.bind_eq_some_iff.mp H;obtain ⟨t399,A30,H⟩:=H;(try dsimp only at H);have A3:=zA A30;clear A30
 by_cases c4 : t399 = true
 ·
  subst c4
  rw [if_pos rfl] at H
  obtain rfl:=Option.some.inj H
  go_enter Tryz.func14,Tryz.ntmps14
  go_wp2_with (first|((with_reducible refine gate_dst (N:=2) rfl ?_);refine box_event ?hg (N:=2) ?hd (cs:=#[.slice A0_0 l0_0.length c0_0]) (t:=34) ?hr ?_;(case hd => rfl);(case hg => rfl);(case hr => first|(go_simp;done)|(go_simp;rfl));intro gb397 hg w5 hbox hb;have BK397:=zA (hbox);have GW397:=zA ((by rw [hg];exact (zT (zz HB)) : w.heap.size ≤ gb397));have GE397:=zA ((by rw [hg];exact (zT (zz HB)) : w.heap.size ≤ gb397));replace HB:=zA (zJb (zz HB) hb);clear hb hbox hg)|((with_reducible refine gate_dst (N:=3) rfl ?_);refine box_event ?hg (N:=3) ?hd (cs:=#[.slice A1_0 l1_0.length c1_0]) (t:=34) ?hr ?_;(case hd => rfl);(case hg => rfl);(case hr => first|(go_simp;done)|(go_simp;rfl));intro gb398 hg w6 hbox hb;have BK398:=zA (hbox);have GW398:=zA ((by rw [hg];exact (zT (zz HB)) : w.heap.size ≤ gb398));have GE398:=zA ((by rw [hg];exact (zT (zz HB)) : w.heap.size ≤ gb398));replace HB:=zA (zJb (zz HB) hb);have NB397_398:=zA ((by rw [hg];exact Nat.ne_of_lt (blk_lt (g:=gb397) (o:=.cells #[.slice A0_0 l0_0.length c0_0] 34 (0,0)) (zx BK397)) : gb397 ≠ gb398));have NB398_397:=zA ((by rw [hg];exact Nat.ne_of_gt (blk_lt (g:=gb397) (o:=.cells #[.slice A0_0 l0_0.length c0_0] 34 (0,0)) (zx BK397)) : gb398 ≠ gb397));replace BK397:=zA (zQ (g:=gb397) (o:=.cells #[.slice A0_0 l0_0.length c0_0] 34 (0,0)) (zx BK397) hb);clear hb hbox hg;have hnb7:=NB397_398.out;have hnc7:=NB398_397.out;have hcz8_0:=zc (.slice A0_0 l0_0.length c0_0) BK397 0 rfl;have hfz8_0:=blk_frozen BK397.out 0;have hcz9_0:=zc (.slice A1_0 l1_0.length c1_0) BK398 0 rfl;have hfz9_0:=blk_frozen BK398.out 0)|((with_reducible refine gate_callee (f:=40) rfl ?_);refine goesL_ (some 9) rfl rfl Tryz.func40 (by kernel_rfl) rfl #[.slice A0_0 l0_0.length c0_0,.slice A1_0 l1_0.length c1_0] rfl (by (try simp only [zCb,zMb,zNb]);first|done|rfl|(simp only [zLb,zDb];rfl)) ?_;(with_reducible refine (laws_eqIntS.calls k _ _ l0_0 _ _ l1_0 true _ ?side1 ?side2 ?side3 ?side4 A3.out).mono ?_);(case side1 => exact zsd HR0_0 HB);(case side2 => exact HC0_0.out);(case side3 => exact zsd HR1_0 HB);(case side4 => exact HC1_0.out);rintro e w' ⟨rfl,⟨nd,rfl⟩⟩;refine ⟨_,rfl,?_⟩))
  go_ret
  exact ⟨by first|rfl|(simp [errW_none,errW_some] <;> rfl)|(simp [*,errW_none,errW_some] <;> rfl),zz HB⟩
 ·
  replace c4:=Bool.eq_false_iff.mpr c4
  subst c4
  have H1 : (some false) = some r:=by rw [if_neg (show ¬ (false = true) by decide)] at H;exact H
  clear H;have H:=H1;clear H1
  obtain rfl:=Option.some.inj H
  go_enter Tryz.func14,Tryz.ntmps14
  go_wp2_with (first|((with_reducible refine gate_dst (N:=2) rfl ?_);refine box_event ?hg (N:=2) ?hd (cs:=#[.slice A0_0 l0_0.length c0_0]) (t:=34) ?hr ?_;(case hd => rfl);(case hg => rfl);(case hr => first|(go_simp;done)|(go_simp;rfl));intro gb397 hg w10 hbox hb;have BK397:=zA (hbox);have GW397:=zA ((by rw [hg];exact (zT (zz HB)) : w.heap.size ≤ gb397));have GE397:=zA ((by rw [hg];exact (zT (zz HB)) : w.heap.size ≤ gb397));replace HB:=zA (zJb (zz HB) hb);clear hb hbox hg)|((with_reducible refine gate_dst (N:=3) rfl ?_);refine box_event ?hg (N:=3) ?hd (cs:=#[.slice A1_0 l1_0.length c1_0]) (t:=34) ?hr ?_;(case hd => rfl);(case hg => rfl);(case hr => first|(go_simp;done)|(go_simp;rfl));intro gb398 hg w11 hbox hb;have BK398:=zA (hbox);have GW398:=zA ((by rw [hg];exact (zT (zz HB)) : w.heap.size ≤ gb398));have GE398:=zA ((by rw [hg];exact (zT (zz HB)) : w.heap.size ≤ gb398));replace HB:=zA (zJb (zz HB) hb);have NB397_398:=zA ((by rw [hg];exact Nat.ne_of_lt (blk_lt (g:=gb397) (o:=.cells #[.slice A0_0 l0_0.length c0_0] 34 (0,0)) (zx BK397)) : gb397 ≠ gb398));have NB398_397:=zA ((by rw [hg];exact Nat.ne_of_gt (blk_lt (g:=gb397) (o:=.cells #[.slice A0_0 l0_0.length c0_0] 34 (0,0)) (zx BK397)) : gb398 ≠ gb397));replace BK397:=zA (zQ (g:=gb397) (o:=.cells #[.slice A0_0 l0_0.length c0_0] 34 (0,0)) (zx BK397) hb);clear hb hbox hg;have hnb12:=NB397_398.out;have hnc12:=NB398_397.out;have hcz13_0:=zc (.slice A0_0 l0_0.length c0_0) BK397 0 rfl;have hfz13_0:=blk_frozen BK397.out 0;have hcz14_0:=zc (.slice A1_0 l1_0.length c1_0) BK398 0 rfl;have hfz14_0:=blk_frozen BK398.out 0)|((with_reducible refine gate_callee (f:=40) rfl ?_);refine goesL_ (some 9) rfl rfl Tryz.func40 (by kernel_rfl) rfl #[.slice A0_0 l0_0.length c0_0,.slice A1_0 l1_0.length c1_0] rfl (by (try simp only [zCb,zMb,zNb]);first|done|rfl|(simp only [zLb,zDb];rfl)) ?_;(with_reducible refine (laws_eqIntS.calls k _ _ l0_0 _ _ l1_0 false _ ?side1 ?side2 ?side3 ?side4 A3.out).mono ?_);(case side1 => exact zsd HR0_0 HB);(case side2 => exact HC0_0.out);(case side3 => exact zsd HR1_0 HB);(case side4 => exact HC1_0.out);rintro e w' ⟨rfl,⟨nd,rfl⟩⟩;refine ⟨_,rfl,?_⟩))
  go_ret
  exact ⟨by first|rfl|(simp [errW_none,errW_some] <;> rfl)|(simp [*,errW_none,errW_some] <;> rfl),zz HB⟩

/-! ### laws_eqAtom: function 70 -/
def laws_eqAtom.f (k : Nat) (a0_0 : Int) (l0_1 : List Int) (a1_0 : Int) (l1_1 : List Int) : Option (Bool) := if a0_0 = a1_0 then ((laws_eqIntS.f k l0_1 l1_1).bind fun t402 => (if t402 = true then (some true) else (some false))) else (some false)
set_option maxHeartbeats 8000000 in
set_option maxRecDepth 100000 in
theorem laws_eqAtom.calls (k : Nat) (a0_0 : Int) (A0_1 : Option Addr) (c0_1 : Nat) (l0_1 : List Int) (a1_0 : Int) (A1_1 : Option Addr) (c1_1 : Nat) (l1_1 : List Int) (r : Bool) (w : World) (hr0_1 : Kd.C (Kd.int .i64) w A0_1 l0_1.length l0_1) (hc0_1 : l0_1.length ≤ c0_1) (hr1_1 : Kd.C (Kd.int .i64) w A1_1 l1_1.length l1_1) (hc1_1 : l1_1.length ≤ c1_1) (h : laws_eqAtom.f k a0_0 l0_1 a1_0 l1_1 = some r) :
  Calls Tryz.prog 70 #[.agg #[.int .i64 a0_0, .slice A0_1 l0_1.length c0_1], .agg #[.int .i64 a1_0, .slice A1_1 l1_1.length c1_1]] w fun e w' => e = .returned (.bool r) ∧ Below w.heap.size w w' := by
 have hu81:=Tryz.underlying81;have HR0_1:=zA hr0_1;have HC0_1:=zA hc0_1;clear hr0_1 hc0_1;have HR1_1:=zA hr1_1;have HC1_1:=zA hc1_1;clear hr1_1 hc1_1;have HB:=zA (Below.refl w.heap.size w)
 have H : (if a0_0 = a1_0 then ((laws_eqIntS.f k l0_1 l1_1).bind fun t402 => (if t402 = true then (some true) else (some false))) else (some false)) = some r:=h
 clear h
 by_cases c3 : a0_0 = a1_0
 ·
  rw [if_pos c3] at H;have c3b0:=beq_iff_eq.mpr c3;have c3b1:=bne_eq_false_iff_eq.mpr c3;clear c3;replace H:=Option.bind_eq_some_iff.mp H;obtain ⟨t402,A40,H⟩:=H;(try dsimp only at H);have A4:=zA A40;clear A40
  by_cases c5 : t402 = true
  ·
   subst c5
   rw [if_pos rfl] at H
   obtain rfl:=Option.some.inj H
   go_enter Tryz.func70,Tryz.ntmps70
   go_wp2_with (first|((with_reducible refine gate_dst (N:=2) rfl ?_);refine box_event ?hg (N:=2) ?hd (cs:=#[.int .i64 a0_0,.slice A0_1 l0_1.length c0_1]) (t:=81) ?hr ?_;(case hd => rfl);(case hg => rfl);(case hr => first|(go_simp;done)|(go_simp;rfl));intro gb400 hg w6 hbox hb;have BK400:=zA (hbox);have GW400:=zA ((by rw [hg];exact (zT (zz HB)) : w.heap.size ≤ gb400));have GE400:=zA ((by rw [hg];exact (zT (zz HB)) : w.heap.size ≤ gb400));replace HB:=zA (zJb (zz HB) hb);clear hb hbox hg)|((with_reducible refine gate_dst (N:=3) rfl ?_);refine box_event ?hg (N:=3) ?hd (cs:=#[.int .i64 a1_0,.slice A1_1 l1_1.length c1_1]) (t:=81) ?hr ?_;(case hd => rfl);(case hg => rfl);(case hr => first|(go_simp;done)|(go_simp;rfl));intro gb401 hg w7 hbox hb;have BK401:=zA (hbox);have GW401:=zA ((by rw [hg];exact (zT (zz HB)) : w.heap.size ≤ gb401));have GE401:=zA ((by rw [hg];exact (zT (zz HB)) : w.heap.size ≤ gb401));replace HB:=zA (zJb (zz HB) hb);have NB400_401:=zA ((by rw [hg];exact Nat.ne_of_lt (blk_lt (g:=gb400) (o:=.cells #[.int .i64 a0_0,.slice A0_1 l0_1.length c0_1] 81 (0,0)) (zx BK400)) : gb400 ≠ gb401));have NB401_400:=zA ((by rw [hg];exact Nat.ne_of_gt (blk_lt (g:=gb400) (o:=.cells #[.int .i64 a0_0,.slice A0_1 l0_1.length c0_1] 81 (0,0)) (zx BK400)) : gb401 ≠ gb400));replace BK400:=zA (zQ (g:=gb400) (o:=.cells #[.int .i64 a0_0,.slice A0_1 l0_1.length c0_1] 81 (0,0)) (zx BK400) hb);clear hb hbox hg;have hnb8:=NB400_401.out;have hnc8:=NB401_400.out;have hcz9_0:=zc (.int .i64 a0_0) BK400 0 rfl;have hcz9_1:=zc (.slice A0_1 l0_1.length c0_1) BK400 1 rfl;have hfz9_0:=blk_frozen BK400.out 0;have hfz9_1:=blk_frozen BK400.out 1;have hcz10_0:=zc (.int .i64 a1_0) BK401 0 rfl;have hcz10_1:=zc (.slice A1_1 l1_1.length c1_1) BK401 1 rfl;have hfz10_0:=blk_frozen BK401.out 0;have hfz10_1:=blk_frozen BK401.out 1)|((with_reducible refine gate_callee (f:=40) rfl ?_);refine goesL_ (some 14) rfl rfl Tryz.func40 (by kernel_rfl) rfl #[.slice A0_1 l0_1.length c0_1,.slice A1_1 l1_1.length c1_1] rfl (by (try simp only [zCb,zMb,zNb]);first|done|rfl|(simp only [zLb,zDb];rfl)) ?_;(with_reducible refine (laws_eqIntS.calls k _ _ l0_1 _ _ l1_1 true _ ?side1 ?side2 ?side3 ?side4 A4.out).mono ?_);(case side1 => exact zsd HR0_1 HB);(case side2 => exact HC0_1.out);(case side3 => exact zsd HR1_1 HB);(case side4 => exact HC1_1.out);rintro e w' ⟨rfl,⟨nd,rfl⟩⟩;refine ⟨_,rfl,?_⟩))
   go_ret
   exact ⟨by first|rfl|(simp [errW_none,errW_some] <;> rfl)|(simp [*,errW_none,errW_some] <;> rfl),zz HB⟩
  ·
   replace c5:=Bool.eq_false_iff.mpr c5
   subst c5
   have H1 : (some false) = some r:=by rw [if_neg (show ¬ (false = true) by decide)] at H;exact H
   clear H;have H:=H1;clear H1
   obtain rfl:=Option.some.inj H
   go_enter Tryz.func70,Tryz.ntmps70
   go_wp2_with (first|((with_reducible refine gate_dst (N:=2) rfl ?_);refine box_event ?hg (N:=2) ?hd (cs:=#[.int .i64 a0_0,.slice A0_1 l0_1.length c0_1]) (t:=81) ?hr ?_;(case hd => rfl);(case hg => rfl);(case hr => first|(go_simp;done)|(go_simp;rfl));intro gb400 hg w11 hbox hb;have BK400:=zA (hbox);have GW400:=zA ((by rw [hg];exact (zT (zz HB)) : w.heap.size ≤ gb400));have GE400:=zA ((by rw [hg];exact (zT (zz HB)) : w.heap.size ≤ gb400));replace HB:=zA (zJb (zz HB) hb);clear hb hbox hg)|((with_reducible refine gate_dst (N:=3) rfl ?_);refine box_event ?hg (N:=3) ?hd (cs:=#[.int .i64 a1_0,.slice A1_1 l1_1.length c1_1]) (t:=81) ?hr ?_;(case hd => rfl);(case hg => rfl);(case hr => first|(go_simp;done)|(go_simp;rfl));intro gb401 hg w12 hbox hb;have BK401:=zA (hbox);have GW401:=zA ((by rw [hg];exact (zT (zz HB)) : w.heap.size ≤ gb401));have GE401:=zA ((by rw [hg];exact (zT (zz HB)) : w.heap.size ≤ gb401));replace HB:=zA (zJb (zz HB) hb);have NB400_401:=zA ((by rw [hg];exact Nat.ne_of_lt (blk_lt (g:=gb400) (o:=.cells #[.int .i64 a0_0,.slice A0_1 l0_1.length c0_1] 81 (0,0)) (zx BK400)) : gb400 ≠ gb401));have NB401_400:=zA ((by rw [hg];exact Nat.ne_of_gt (blk_lt (g:=gb400) (o:=.cells #[.int .i64 a0_0,.slice A0_1 l0_1.length c0_1] 81 (0,0)) (zx BK400)) : gb401 ≠ gb400));replace BK400:=zA (zQ (g:=gb400) (o:=.cells #[.int .i64 a0_0,.slice A0_1 l0_1.length c0_1] 81 (0,0)) (zx BK400) hb);clear hb hbox hg;have hnb13:=NB400_401.out;have hnc13:=NB401_400.out;have hcz14_0:=zc (.int .i64 a0_0) BK400 0 rfl;have hcz14_1:=zc (.slice A0_1 l0_1.length c0_1) BK400 1 rfl;have hfz14_0:=blk_frozen BK400.out 0;have hfz14_1:=blk_frozen BK400.out 1;have hcz15_0:=zc (.int .i64 a1_0) BK401 0 rfl;have hcz15_1:=zc (.slice A1_1 l1_1.length c1_1) BK401 1 rfl;have hfz15_0:=blk_frozen BK401.out 0;have hfz15_1:=blk_frozen BK401.out 1)|((with_reducible refine gate_callee (f:=40) rfl ?_);refine goesL_ (some 14) rfl rfl Tryz.func40 (by kernel_rfl) rfl #[.slice A0_1 l0_1.length c0_1,.slice A1_1 l1_1.length c1_1] rfl (by (try simp only [zCb,zMb,zNb]);first|done|rfl|(simp only [zLb,zDb];rfl)) ?_;(with_reducible refine (laws_eqIntS.calls k _ _ l0_1 _ _ l1_1 false _ ?side1 ?side2 ?side3 ?side4 A4.out).mono ?_);(case side1 => exact zsd HR0_1 HB);(case side2 => exact HC0_1.out);(case side3 => exact zsd HR1_1 HB);(case side4 => exact HC1_1.out);rintro e w' ⟨rfl,⟨nd,rfl⟩⟩;refine ⟨_,rfl,?_⟩))
   go_ret
   exact ⟨by first|rfl|(simp [errW_none,errW_some] <;> rfl)|(simp [*,errW_none,errW_some] <;> rfl),zz HB⟩
 ·
  rw [if_neg c3] at H;have c3b0:=beq_eq_false_iff_ne.mpr c3;have c3b1:=bne_iff_ne.mpr c3
  obtain rfl:=Option.some.inj H
  go_enter Tryz.func70,Tryz.ntmps70
  go_wp2_with (first|((with_reducible refine gate_dst (N:=2) rfl ?_);refine box_event ?hg (N:=2) ?hd (cs:=#[.int .i64 a0_0,.slice A0_1 l0_1.length c0_1]) (t:=81) ?hr ?_;(case hd => rfl);(case hg => rfl);(case hr => first|(go_simp;done)|(go_simp;rfl));intro gb400 hg w16 hbox hb;have BK400:=zA (hbox);have GW400:=zA ((by rw [hg];exact (zT (zz HB)) : w.heap.size ≤ gb400));have GE400:=zA ((by rw [hg];exact (zT (zz HB)) : w.heap.size ≤ gb400));replace HB:=zA (zJb (zz HB) hb);clear hb hbox hg)|((with_reducible refine gate_dst (N:=3) rfl ?_);refine box_event ?hg (N:=3) ?hd (cs:=#[.int .i64 a1_0,.slice A1_1 l1_1.length c1_1]) (t:=81) ?hr ?_;(case hd => rfl);(case hg => rfl);(case hr => first|(go_simp;done)|(go_simp;rfl));intro gb401 hg w17 hbox hb;have BK401:=zA (hbox);have GW401:=zA ((by rw [hg];exact (zT (zz HB)) : w.heap.size ≤ gb401));have GE401:=zA ((by rw [hg];exact (zT (zz HB)) : w.heap.size ≤ gb401));replace HB:=zA (zJb (zz HB) hb);have NB400_401:=zA ((by rw [hg];exact Nat.ne_of_lt (blk_lt (g:=gb400) (o:=.cells #[.int .i64 a0_0,.slice A0_1 l0_1.length c0_1] 81 (0,0)) (zx BK400)) : gb400 ≠ gb401));have NB401_400:=zA ((by rw [hg];exact Nat.ne_of_gt (blk_lt (g:=gb400) (o:=.cells #[.int .i64 a0_0,.slice A0_1 l0_1.length c0_1] 81 (0,0)) (zx BK400)) : gb401 ≠ gb400));replace BK400:=zA (zQ (g:=gb400) (o:=.cells #[.int .i64 a0_0,.slice A0_1 l0_1.length c0_1] 81 (0,0)) (zx BK400) hb);clear hb hbox hg;have hnb18:=NB400_401.out;have hnc18:=NB401_400.out;have hcz19_0:=zc (.int .i64 a0_0) BK400 0 rfl;have hcz19_1:=zc (.slice A0_1 l0_1.length c0_1) BK400 1 rfl;have hfz19_0:=blk_frozen BK400.out 0;have hfz19_1:=blk_frozen BK400.out 1;have hcz20_0:=zc (.int .i64 a1_0) BK401 0 rfl;have hcz20_1:=zc (.slice A1_1 l1_1.length c1_1) BK401 1 rfl;have hfz20_0:=blk_frozen BK401.out 0;have hfz20_1:=blk_frozen BK401.out 1))
  go_ret
  exact ⟨by first|rfl|(simp [errW_none,errW_some] <;> rfl)|(simp [*,errW_none,errW_some] <;> rfl),zz HB⟩

end Go.Proofs.YtfelabhakgcifaaGreat.QFnExactAnswers
