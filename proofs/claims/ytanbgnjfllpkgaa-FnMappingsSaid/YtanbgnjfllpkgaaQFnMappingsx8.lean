/- Walks through the Go functions that FnMappings reaches: each call returns what the Lean function beside it says, within the bounds that the theorem names. -/
import Derived.Test.YtanbgnjfllpkgaaQFnMappingsx0
import Derived.Test.YtanbgnjfllpkgaaQFnMappingsx7
namespace Go.Proofs.Ytanbgnjfllpkgaa.QFnMappings
open Go.RowKit Go.Proofs.YtanbgnjfllpkgaaW.PrintWords Go.Proofs.YtanbgnjfllpkgaaW.PrintLast Go.Proofs.YtanbgnjfllpkgaaW.PrintMore
attribute [local go_sem] max2_int min2_int max_two min_two max_three min_three max_four min_four   -- for this text's walks alone
set_option linter.unusedVariables false
set_option linter.unusedSimpArgs false


/-! ### impl_Query_isSafe: function 131 -/
def impl_Query_isSafe.l0 : Nat → List Int → Int → Int → List Int → List (S97) → Option (Bool)
 | 0, _, _, _, _, _ => none
 | k + 1, x6, x7, x8, x205000, x205001 => if x8 < x7 then (if 0 ≤ x8 then (if x8 < (x6.length : Int) then ((impl_IsVar.f (rd x6 x8)).bind fun t206 => (if t206 = true then ((impl_Query_occurs.f k x205000 x205001 (rd x6 x8)).bind fun t207 => (if t207 = true then (impl_Query_isSafe.l0 k x6 x7 (wrap64 (x8 + 1)) x205000 x205001) else (some false))) else (impl_Query_isSafe.l0 k x6 x7 (wrap64 (x8 + 1)) x205000 x205001))) else (none)) else (none)) else (some true)
def impl_Query_isSafe.f (k : Nat) (l0_0 : List Int) (l0_1 : List (S97)) : Option (Bool) := impl_Query_isSafe.l0 k l0_0 (l0_0.length : Int) 0 l0_0 l0_1
set_option maxHeartbeats 8000000 in
set_option maxRecDepth 100000 in
theorem impl_Query_isSafe.calls (k : Nat) (A0_0 : Option Addr) (c0_0 : Nat) (l0_0 : List Int) (A0_1 : Option Addr) (c0_1 : Nat) (l0_1 : List (S97)) (r : Bool) (w : World) (hr0_0 : Kd.C (Kd.int .i64) w A0_0 l0_0.length l0_0) (hc0_0 : l0_0.length ≤ c0_0) (hr0_1 : Kd.C k97 w A0_1 l0_1.length l0_1) (hc0_1 : l0_1.length ≤ c0_1) (h : impl_Query_isSafe.f k l0_0 l0_1 = some r) :
  Calls Try.prog 131 #[.agg #[.slice A0_0 l0_0.length c0_0, .slice A0_1 l0_1.length c0_1]] w fun e w' => e = .returned (.bool r) ∧ Below w.heap.size w w' := by
 have hu46:=Try.underlying46;have HR0_0:=zA hr0_0;have HC0_0:=zA hc0_0;clear hr0_0 hc0_0;have HR0_1:=zA hr0_1;have HC0_1:=zA hc0_1;clear hr0_1 hc0_1;have HB:=zA (Below.refl w.heap.size w)
 have H : (impl_Query_isSafe.l0 k l0_0 (l0_0.length : Int) 0 l0_0 l0_1) = some r:=h
 clear h
 have H':=zA H
 clear H
 go_enter Try.func131,Try.ntmps131
 go_wp2_with (first|((with_reducible refine gate_dst (N:=1) rfl ?_);refine zbx 1 #[.slice A0_0 l0_0.length c0_0,.slice A0_1 l0_1.length c0_1] 46 ?_;intro gb204 hg w2 hbox hb;have BK204:=zA (hbox);have GW204:=zgw hg HB;have GE204:=zgw hg HB;replace HB:=zA (zJb (zz HB) hb);clear hb hbox hg;have hcz3_0:=zc (.slice A0_0 l0_0.length c0_0) BK204 0 rfl;have hcz3_1:=zc (.slice A0_1 l0_1.length c0_1) BK204 1 rfl;have hfz3_0:=blk_frozen BK204.out 0;have hfz3_1:=blk_frozen BK204.out 1))
 go_loopg [8] k (fun kq v8 w' => ∃ (x8_1 : Int),v8 = .int .i64 x8_1 ∧ Aside0 (impl_Query_isSafe.l0 kq l0_0 (l0_0.length : Int) x8_1 l0_0 l0_1 = some r) ∧ Aside0 (kq ≤ k) ∧ Aside0 (w'.heap[gb204]? = some (.cells #[(.slice A0_0 l0_0.length c0_0),(.slice A0_1 l0_1.length c0_1)] 46 (0,0))) ∧ Aside0 (Below w.heap.size w w'))
 case atStart => exact ⟨(0),za,H',⟨Nat.le_refl _⟩,⟨zx BK204⟩,⟨zz HB⟩⟩
 case round =>
  clear H';(try clear c1);(try clear p2);(try clear hcz3_0);(try clear hcz3_1);(try clear hfz3_0);(try clear hfz3_1);obtain ⟨x8_1,rfl,HA,HK1,BK204,HB⟩:=hrel
  cases gk with
  | zero => exact absurd HA.out (by simp [impl_Query_isSafe.l0])
  | succ k1 =>
   have H:=HA.out;clear HA;simp only [impl_Query_isSafe.l0] at H
   by_cases c4 : x8_1 < (l0_0.length : Int)
   ·
    rw [if_pos c4] at H;have c4b0:=decide_eq_true c4;clear c4
    by_cases c5 : 0 ≤ x8_1
    ·
     rw [if_pos c5] at H;have c5b0:=decide_eq_true c5;clear c5
     by_cases c6 : x8_1 < (l0_0.length : Int)
     ·
      rw [if_pos c6] at H;have c6b0:=decide_eq_true c6;clear c6;obtain ⟨t206,A70,H⟩:=zYb.mp H;(try dsimp only at H);have A7:=zA A70;clear A70
      by_cases c8 : t206 = true
      ·
       subst c8
       rw [if_pos rfl] at H;obtain ⟨t207,A90,H⟩:=zYb.mp H;(try dsimp only at H);have A9:=zA A90;clear A90
       by_cases c10 : t207 = true
       ·
        subst c10
        rw [if_pos rfl] at H
        have H':=zA H
        clear H;have p205 : 0 ≤ (x8_1 : Int):=zXb ze;have q205 : x8_1 < (l0_0.length : Int):=zXb ze;obtain ⟨ad205,e205,hx205_0⟩:=Kd.at_int HR0_0.out x8_1 p205 q205
        cases e205
        replace hx205_0:=zhx HB hx205_0;replace p205:=eq_true p205;replace q205:=eq_true q205
        go_wp2_with (first|((with_reducible refine gate_callee (f:=112) rfl ?_);refine zgo (some 13) Try.func112 #[.int .i64 (rd l0_0 x8_1)] ?_;(with_reducible refine (impl_IsVar.calls (rd l0_0 x8_1) true _ A7.out).mono ?_);rintro e w' ⟨rfl,⟨nd,rfl⟩⟩;refine ⟨_,rfl,?_⟩;have hcz11_0:=zc (.slice (some ad205) l0_0.length c0_0) BK204 0 rfl;have hcz11_1:=zc (.slice A0_1 l0_1.length c0_1) BK204 1 rfl;have hfz11_0:=blk_frozen BK204.out 0;have hfz11_1:=blk_frozen BK204.out 1)|(go_at_call 154;(with_reducible refine (impl_Query_occurs.calls k1 _ _ l0_0 _ _ l0_1 (rd l0_0 x8_1) true _ ?side1 ?side2 ?side3 ?side4 A9.out).mono ?_);(case side1 => repeat (first|exact (zKb HR0_0.out (zz HB))|(with_reducible refine zBb ?_ _)|(with_reducible refine zAb ?_ _)|(with_reducible refine zX ?_)));(case side2 => exact HC0_0.out);(case side3 => repeat (first|exact (zKb HR0_1.out (zz HB))|(with_reducible refine zBb ?_ _)|(with_reducible refine zAb ?_ _)|(with_reducible refine zX ?_)));(case side4 => exact HC0_1.out);rintro e w12 ⟨rfl,hb⟩;replace BK204:=zbk BK204 hb;replace HB:=zA (zJb (zz HB) hb);(try clear hb);(try clear hb2);(try clear hk);(try clear hi)))
        go_roundg k1
        case measure => have:=HK1.out;omega
        case rel => exact ⟨(wrap64 (x8_1 + 1)),za,H',⟨by have:=HK1.out;omega⟩,⟨zx BK204⟩,⟨zz HB⟩⟩
       ·
        replace c10:=Bool.eq_false_iff.mpr c10
        subst c10
        have H1 : (some false) = some r:=by rw [if_neg (show ¬ (false = true) by decide)] at H;exact H
        clear H;have H:=H1;clear H1
        obtain rfl:=Option.some.inj H
        have p205 : 0 ≤ (x8_1 : Int):=zXb ze;have q205 : x8_1 < (l0_0.length : Int):=zXb ze;obtain ⟨ad205,e205,hx205_0⟩:=Kd.at_int HR0_0.out x8_1 p205 q205
        cases e205
        replace hx205_0:=zhx HB hx205_0;replace p205:=eq_true p205;replace q205:=eq_true q205
        go_wp2_with (first|((with_reducible refine gate_callee (f:=112) rfl ?_);refine zgo (some 13) Try.func112 #[.int .i64 (rd l0_0 x8_1)] ?_;(with_reducible refine (impl_IsVar.calls (rd l0_0 x8_1) true _ A7.out).mono ?_);rintro e w' ⟨rfl,⟨nd,rfl⟩⟩;refine ⟨_,rfl,?_⟩;have hcz13_0:=zc (.slice (some ad205) l0_0.length c0_0) BK204 0 rfl;have hcz13_1:=zc (.slice A0_1 l0_1.length c0_1) BK204 1 rfl;have hfz13_0:=blk_frozen BK204.out 0;have hfz13_1:=blk_frozen BK204.out 1)|(go_at_call 154;(with_reducible refine (impl_Query_occurs.calls k1 _ _ l0_0 _ _ l0_1 (rd l0_0 x8_1) false _ ?side1 ?side2 ?side3 ?side4 A9.out).mono ?_);(case side1 => repeat (first|exact (zKb HR0_0.out (zz HB))|(with_reducible refine zBb ?_ _)|(with_reducible refine zAb ?_ _)|(with_reducible refine zX ?_)));(case side2 => exact HC0_0.out);(case side3 => repeat (first|exact (zKb HR0_1.out (zz HB))|(with_reducible refine zBb ?_ _)|(with_reducible refine zAb ?_ _)|(with_reducible refine zX ?_)));(case side4 => exact HC0_1.out);rintro e w14 ⟨rfl,hb⟩;replace BK204:=zbk BK204 hb;replace HB:=zA (zJb (zz HB) hb);(try clear hb);(try clear hb2);(try clear hk);(try clear hi)))
        go_ret
        exact ⟨zrr,zz HB⟩
      ·
       replace c8:=Bool.eq_false_iff.mpr c8
       subst c8
       have H1 : (impl_Query_isSafe.l0 k1 l0_0 (l0_0.length : Int) (wrap64 (x8_1 + 1)) l0_0 l0_1) = some r:=by rw [if_neg (show ¬ (false = true) by decide)] at H;exact H
       clear H;have H:=H1;clear H1
       have H':=zA H
       clear H;have p205 : 0 ≤ (x8_1 : Int):=zXb ze;have q205 : x8_1 < (l0_0.length : Int):=zXb ze;obtain ⟨ad205,e205,hx205_0⟩:=Kd.at_int HR0_0.out x8_1 p205 q205
       cases e205
       replace hx205_0:=zhx HB hx205_0;replace p205:=eq_true p205;replace q205:=eq_true q205
       go_wp2_with (first|((with_reducible refine gate_callee (f:=112) rfl ?_);refine zgo (some 13) Try.func112 #[.int .i64 (rd l0_0 x8_1)] ?_;(with_reducible refine (impl_IsVar.calls (rd l0_0 x8_1) false _ A7.out).mono ?_);rintro e w' ⟨rfl,⟨nd,rfl⟩⟩;refine ⟨_,rfl,?_⟩))
       go_roundg k1
       case measure => have:=HK1.out;omega
       case rel => exact ⟨(wrap64 (x8_1 + 1)),za,H',⟨by have:=HK1.out;omega⟩,⟨zx BK204⟩,⟨zz HB⟩⟩
     ·
      rw [if_neg c6] at H
      exact absurd H (by simp)
    ·
     rw [if_neg c5] at H
     exact absurd H (by simp)
   ·
    rw [if_neg c4] at H;have c4b0:=decide_eq_false c4;clear c4
    obtain rfl:=Option.some.inj H
    go_wp2
    go_ret
    exact ⟨zrr,zz HB⟩

/-! ### impl_IsQuery: function 103 -/
mutual
def impl_IsQuery.j0 : Nat → Bool → List Int → List Int → List (S97) → Option (Bool)
 | 0, _, _, _, _ => none
 | k + 1, x28, x209000, x210000, x210001 => if x28 = true then (some false) else (impl_IsQuery.l0 k x210001 (x210001.length : Int) 0 x209000 x210000 x210001)
def impl_IsQuery.l0 : Nat → List (S97) → Int → Int → List Int → List Int → List (S97) → Option (Bool)
 | 0, _, _, _, _, _, _ => none
 | k + 1, x30, x31, x32, x209000, x210000, x210001 => if x32 < x31 then (if 0 ≤ x32 then (if x32 < (x30.length : Int) then ((impl_IsAtom.f k x209000 ((rd_T97 x30 x32).f0) ((rd_T97 x30 x32).f1)).bind fun t215 => (if t215 = true then (impl_IsQuery.l0 k x30 x31 (wrap64 (x32 + 1)) x209000 x210000 x210001) else (some false))) else (none)) else (none)) else ((impl_Query_isSafe.f k x210000 x210001).bind fun t216 => (some t216))
end
def impl_IsQuery.f (k : Nat) (l0_0 : List Int) (l1_0 : List Int) (l1_1 : List (S97)) : Option (Bool) := (impl_IsSchema.f k l0_0).bind fun t210 => (if t210 = true then (if (l1_0.length : Int) > 3 then (impl_IsQuery.j0 k true l0_0 l1_0 l1_1) else ((impl_areTerms.f k l1_0).bind fun t211 => (if t211 = true then ((impl_within.f (l1_1.length : Int) 1 4).bind fun t212 => (impl_IsQuery.j0 k (!t212) l0_0 l1_0 l1_1)) else (impl_IsQuery.j0 k true l0_0 l1_0 l1_1)))) else (impl_IsQuery.j0 k true l0_0 l1_0 l1_1))
set_option maxHeartbeats 8000000 in
set_option maxRecDepth 100000 in
theorem impl_IsQuery.calls (k : Nat) (A0_0 : Option Addr) (c0_0 : Nat) (l0_0 : List Int) (A1_0 : Option Addr) (c1_0 : Nat) (l1_0 : List Int) (A1_1 : Option Addr) (c1_1 : Nat) (l1_1 : List (S97)) (r : Bool) (w : World) (hr0_0 : Kd.C (Kd.int .i64) w A0_0 l0_0.length l0_0) (hc0_0 : l0_0.length ≤ c0_0) (hr1_0 : Kd.C (Kd.int .i64) w A1_0 l1_0.length l1_0) (hc1_0 : l1_0.length ≤ c1_0) (hr1_1 : Kd.C k97 w A1_1 l1_1.length l1_1) (hc1_1 : l1_1.length ≤ c1_1) (h : impl_IsQuery.f k l0_0 l1_0 l1_1 = some r) :
  Calls Try.prog 103 #[.agg #[.slice A0_0 l0_0.length c0_0], .agg #[.slice A1_0 l1_0.length c1_0, .slice A1_1 l1_1.length c1_1]] w fun e w' => e = .returned (.bool r) ∧ Below w.heap.size w w' := by
 have hu65:=Try.underlying65;have hu46:=Try.underlying46;have hu97:=Try.underlying97;have HR0_0:=zA hr0_0;have HC0_0:=zA hc0_0;clear hr0_0 hc0_0;have HR1_0:=zA hr1_0;have HC1_0:=zA hc1_0;clear hr1_0 hc1_0;have HR1_1:=zA hr1_1;have HC1_1:=zA hc1_1;clear hr1_1 hc1_1;have HB:=zA (Below.refl w.heap.size w)
 have H : ((impl_IsSchema.f k l0_0).bind fun t210 => (if t210 = true then (if (l1_0.length : Int) > 3 then (impl_IsQuery.j0 k true l0_0 l1_0 l1_1) else ((impl_areTerms.f k l1_0).bind fun t211 => (if t211 = true then ((impl_within.f (l1_1.length : Int) 1 4).bind fun t212 => (impl_IsQuery.j0 k (!t212) l0_0 l1_0 l1_1)) else (impl_IsQuery.j0 k true l0_0 l1_0 l1_1)))) else (impl_IsQuery.j0 k true l0_0 l1_0 l1_1))) = some r:=h
 clear h;have HC3:=zA H;clear H
 go_enter Try.func103,Try.ntmps103
 go_upto_region 1 with (first|((with_reducible refine gate_dst (N:=2) rfl ?_);(try (refine gate_guard (by rfl) ?_;dsimp only));refine zbx 2 #[.slice A0_0 l0_0.length c0_0] 65 ?_;intro gb208 hg w4 hbox hb;have BK208:=zA (hbox);have GW208:=zgw hg HB;have GE208:=zgw hg HB;replace HB:=zA (zJb (zz HB) hb);clear hb hbox hg)|((with_reducible refine gate_dst (N:=3) rfl ?_);(try (refine gate_guard (by rfl) ?_;dsimp only));refine zbx 3 #[.slice A1_0 l1_0.length c1_0,.slice A1_1 l1_1.length c1_1] 46 ?_;intro gb209 hg w5 hbox hb;have BK209:=zA (hbox);have GW209:=zgw hg HB;have GE209:=zgw hg HB;replace HB:=zA (zJb (zz HB) hb);have NB208_209:=znb hg BK208;have NB209_208:=znc hg BK208;replace BK208:=zbk BK208 hb;clear hb hbox hg))
 (try simp only [Act.put,zO,zEb,zFb])
 go_cut [28] (fun v28 wc => ∃ (kq : Nat) (x28_2 : Bool),v28 = .bool x28_2 ∧ Aside0 (impl_IsQuery.j0 kq x28_2 l0_0 l1_0 l1_1 = some r) ∧ Aside0 (kq ≤ k) ∧ Aside0 (wc.heap[gb208]? = some (.cells #[(.slice A0_0 l0_0.length c0_0)] 65 (0,0))) ∧ Aside0 (wc.heap[gb209]? = some (.cells #[(.slice A1_0 l1_0.length c1_0),(.slice A1_1 l1_1.length c1_1)] 46 (0,0))) ∧ Aside0 (Below w.heap.size w wc))
 case first =>
  have H:=HC3.out;clear HC3;obtain ⟨t210,A60,H⟩:=zYb.mp H;(try dsimp only at H);have A6:=zA A60;clear A60
  by_cases c7 : t210 = true
  ·
   subst c7
   rw [if_pos rfl] at H
   by_cases c8 : (l1_0.length : Int) > 3
   ·
    rw [if_pos c8] at H
    have c8b0 : decide (3 < (l1_0.length : Int)) = true:=decide_eq_true c8
    have c8b1 : decide (3 < l1_0.length) = true:=decide_eq_true (by omega)
    clear c8
    (first|rw [c8b0]|(simp only [i64_w,i32_w];rw [c8b0])|skip)
    have H':=zA H
    clear H;have hnb9:=NB208_209.out;have hnc9:=NB209_208.out;have hcz10_0:=zc (.slice A0_0 l0_0.length c0_0) BK208 0 rfl;have hfz10_0:=blk_frozen BK208.out 0
    go_wp2_with (first|((with_reducible refine gate_callee (f:=128) rfl ?_);refine zgo (some 8) Try.func128 #[.agg #[.slice A0_0 l0_0.length c0_0]] ?_;(with_reducible refine (impl_IsSchema.calls k _ _ l0_0 true _ ?side1 ?side2 A6.out).mono ?_);(case side1 => exact zsd HR0_0 HB);(case side2 => exact HC0_0.out);rintro e w11 ⟨rfl,hb⟩;refine ⟨_,rfl,?_⟩;replace BK208:=zbk BK208 hb;replace BK209:=zbk BK209 hb;replace HB:=zA (zJb (zz HB) hb);(try clear hb);(try clear hb2);(try clear hk);(try clear hi);have hcz12_0:=zc (.slice A1_0 l1_0.length c1_0) BK209 0 rfl;have hcz12_1:=zc (.slice A1_1 l1_1.length c1_1) BK209 1 rfl;have hfz12_0:=blk_frozen BK209.out 0;have hfz12_1:=blk_frozen BK209.out 1))
    go_meet
    case rel => exact ⟨_,(true),za,H',⟨by first|omega|exact Nat.le_refl _⟩,⟨zx BK208⟩,⟨zx BK209⟩,⟨zz HB⟩⟩
   ·
    rw [if_neg c8] at H
    have c8b0 : decide (3 < (l1_0.length : Int)) = false:=decide_eq_false c8
    have c8b1 : decide (3 < l1_0.length) = false:=decide_eq_false (by omega)
    clear c8
    (first|rw [c8b0]|(simp only [i64_w,i32_w];rw [c8b0])|skip)
    obtain ⟨t211,A130,H⟩:=zYb.mp H;(try dsimp only at H);have A13:=zA A130;clear A130
    by_cases c14 : t211 = true
    ·
     subst c14
     rw [if_pos rfl] at H;obtain ⟨t212,A150,H⟩:=zYb.mp H;(try dsimp only at H);have A15:=zA A150;clear A150
     have H':=zA H
     clear H;have hnb16:=NB208_209.out;have hnc16:=NB209_208.out;have hcz17_0:=zc (.slice A0_0 l0_0.length c0_0) BK208 0 rfl;have hfz17_0:=blk_frozen BK208.out 0
     go_wp2_with (first|((with_reducible refine gate_callee (f:=128) rfl ?_);refine zgo (some 8) Try.func128 #[.agg #[.slice A0_0 l0_0.length c0_0]] ?_;(with_reducible refine (impl_IsSchema.calls k _ _ l0_0 true _ ?side1 ?side2 A6.out).mono ?_);(case side1 => exact zsd HR0_0 HB);(case side2 => exact HC0_0.out);rintro e w18 ⟨rfl,hb⟩;refine ⟨_,rfl,?_⟩;replace BK208:=zbk BK208 hb;replace BK209:=zbk BK209 hb;replace HB:=zA (zJb (zz HB) hb);(try clear hb);(try clear hb2);(try clear hk);(try clear hi);have hcz19_0:=zc (.slice A1_0 l1_0.length c1_0) BK209 0 rfl;have hcz19_1:=zc (.slice A1_1 l1_1.length c1_1) BK209 1 rfl;have hfz19_0:=blk_frozen BK209.out 0;have hfz19_1:=blk_frozen BK209.out 1)|(go_at_call 129;(with_reducible refine (impl_areTerms.calls k _ _ l1_0 true _ ?side1 ?side2 A13.out).mono ?_);(case side1 => exact zsd HR1_0 HB);(case side2 => exact HC1_0.out);rintro e w' ⟨rfl,⟨nd,rfl⟩⟩)|(go_at_call 78;(with_reducible refine (impl_within.calls (l1_1.length : Int) 1 4 t212 _ A15.out).mono ?_);rintro e w' ⟨rfl,⟨nd,rfl⟩⟩))
     go_meet
     case rel => exact ⟨_,(!t212),za,H',⟨by first|omega|exact Nat.le_refl _⟩,⟨zx BK208⟩,⟨zx BK209⟩,⟨zz HB⟩⟩
    ·
     replace c14:=Bool.eq_false_iff.mpr c14
     subst c14
     have H1 : (impl_IsQuery.j0 k true l0_0 l1_0 l1_1) = some r:=by rw [if_neg (show ¬ (false = true) by decide)] at H;exact H
     clear H;have H:=H1;clear H1
     have H':=zA H
     clear H;have hnb20:=NB208_209.out;have hnc20:=NB209_208.out;have hcz21_0:=zc (.slice A0_0 l0_0.length c0_0) BK208 0 rfl;have hfz21_0:=blk_frozen BK208.out 0
     go_wp2_with (first|((with_reducible refine gate_callee (f:=128) rfl ?_);refine zgo (some 8) Try.func128 #[.agg #[.slice A0_0 l0_0.length c0_0]] ?_;(with_reducible refine (impl_IsSchema.calls k _ _ l0_0 true _ ?side1 ?side2 A6.out).mono ?_);(case side1 => exact zsd HR0_0 HB);(case side2 => exact HC0_0.out);rintro e w22 ⟨rfl,hb⟩;refine ⟨_,rfl,?_⟩;replace BK208:=zbk BK208 hb;replace BK209:=zbk BK209 hb;replace HB:=zA (zJb (zz HB) hb);(try clear hb);(try clear hb2);(try clear hk);(try clear hi);have hcz23_0:=zc (.slice A1_0 l1_0.length c1_0) BK209 0 rfl;have hcz23_1:=zc (.slice A1_1 l1_1.length c1_1) BK209 1 rfl;have hfz23_0:=blk_frozen BK209.out 0;have hfz23_1:=blk_frozen BK209.out 1)|(go_at_call 129;(with_reducible refine (impl_areTerms.calls k _ _ l1_0 false _ ?side1 ?side2 A13.out).mono ?_);(case side1 => exact zsd HR1_0 HB);(case side2 => exact HC1_0.out);rintro e w' ⟨rfl,⟨nd,rfl⟩⟩))
     go_meet
     case rel => exact ⟨_,(true),za,H',⟨by first|omega|exact Nat.le_refl _⟩,⟨zx BK208⟩,⟨zx BK209⟩,⟨zz HB⟩⟩
  ·
   replace c7:=Bool.eq_false_iff.mpr c7
   subst c7
   have H1 : (impl_IsQuery.j0 k true l0_0 l1_0 l1_1) = some r:=by rw [if_neg (show ¬ (false = true) by decide)] at H;exact H
   clear H;have H:=H1;clear H1
   have H':=zA H
   clear H;have hnb24:=NB208_209.out;have hnc24:=NB209_208.out;have hcz25_0:=zc (.slice A0_0 l0_0.length c0_0) BK208 0 rfl;have hfz25_0:=blk_frozen BK208.out 0
   go_wp2_with (first|((with_reducible refine gate_callee (f:=128) rfl ?_);refine zgo (some 8) Try.func128 #[.agg #[.slice A0_0 l0_0.length c0_0]] ?_;(with_reducible refine (impl_IsSchema.calls k _ _ l0_0 false _ ?side1 ?side2 A6.out).mono ?_);(case side1 => exact zsd HR0_0 HB);(case side2 => exact HC0_0.out);rintro e w26 ⟨rfl,hb⟩;refine ⟨_,rfl,?_⟩;replace BK208:=zbk BK208 hb;replace BK209:=zbk BK209 hb;replace HB:=zA (zJb (zz HB) hb);(try clear hb);(try clear hb2);(try clear hk);(try clear hi)))
   go_meet
   case rel => exact ⟨_,(true),za,H',⟨by first|omega|exact Nat.le_refl _⟩,⟨zx BK208⟩,⟨zx BK209⟩,⟨zz HB⟩⟩
 case rest =>
  clear HC3;(try clear c1);(try clear c2);(try clear p2);(try clear c7);(try clear c8);(try clear c8b0);(try clear c8b1);(try clear c9);(try clear c10);(try clear c12);(try clear c14);(try clear c16);(try clear c20);(try clear c24);(try clear hcz10_0);(try clear hcz12_0);(try clear hcz12_1);(try clear hcz17_0);(try clear hcz19_0);(try clear hcz19_1);(try clear hcz21_0);(try clear hcz23_0);(try clear hcz23_1);(try clear hcz25_0);(try clear hfz10_0);(try clear hfz12_0);(try clear hfz12_1);(try clear hfz17_0);(try clear hfz19_0);(try clear hfz19_1);(try clear hfz21_0);(try clear hfz23_0);(try clear hfz23_1);(try clear hfz25_0);obtain ⟨kq,x28_2,rfl,HA,HJ2,BK208,BK209,HB⟩:=hcut
  cases kq with
  | zero => exact absurd HA.out (by simp [impl_IsQuery.j0])
  | succ kj2 =>
   have H:=HA.out;clear HA;simp only [impl_IsQuery.j0] at H
   by_cases c27 : x28_2 = true
   ·
    subst c27
    rw [if_pos rfl] at H
    obtain rfl:=Option.some.inj H
    go_wp2
    go_ret
    exact ⟨zrr,zz HB⟩
   ·
    replace c27:=Bool.eq_false_iff.mpr c27
    subst c27
    have H1 : (impl_IsQuery.l0 kj2 l1_1 (l1_1.length : Int) 0 l0_0 l1_0 l1_1) = some r:=by rw [if_neg (show ¬ (false = true) by decide)] at H;exact H
    clear H;have H:=H1;clear H1
    have H':=zA H
    clear H;have hnb28:=NB209_208.out;have hnc28:=NB208_209.out;have hcz29_0:=zc (.slice A1_0 l1_0.length c1_0) BK209 0 rfl;have hcz29_1:=zc (.slice A1_1 l1_1.length c1_1) BK209 1 rfl;have hfz29_0:=blk_frozen BK209.out 0;have hfz29_1:=blk_frozen BK209.out 1
    go_wp2
    go_loopg [32] kj2 (fun kq v32 w' => ∃ (x32_2 : Int),v32 = .int .i64 x32_2 ∧ Aside0 (impl_IsQuery.l0 kq l1_1 (l1_1.length : Int) x32_2 l0_0 l1_0 l1_1 = some r) ∧ Aside0 (kq ≤ kj2) ∧ Aside0 (w'.heap[gb208]? = some (.cells #[(.slice A0_0 l0_0.length c0_0)] 65 (0,0))) ∧ Aside0 (w'.heap[gb209]? = some (.cells #[(.slice A1_0 l1_0.length c1_0),(.slice A1_1 l1_1.length c1_1)] 46 (0,0))) ∧ Aside0 (Below w.heap.size w w'))
    case atStart => exact ⟨(0),za,H',⟨Nat.le_refl _⟩,⟨zx BK208⟩,⟨zx BK209⟩,⟨zz HB⟩⟩
    case round =>
     clear H';(try clear c1);(try clear c2);(try clear p2);(try clear c7);(try clear c8);(try clear c8b0);(try clear c8b1);(try clear c9);(try clear c10);(try clear c12);(try clear c14);(try clear c16);(try clear c20);(try clear c24);(try clear c27);(try clear c28);(try clear hcz10_0);(try clear hcz12_0);(try clear hcz12_1);(try clear hcz17_0);(try clear hcz19_0);(try clear hcz19_1);(try clear hcz21_0);(try clear hcz23_0);(try clear hcz23_1);(try clear hcz25_0);(try clear hcz29_0);(try clear hcz29_1);(try clear hfz10_0);(try clear hfz12_0);(try clear hfz12_1);(try clear hfz17_0);(try clear hfz19_0);(try clear hfz19_1);(try clear hfz21_0);(try clear hfz23_0);(try clear hfz23_1);(try clear hfz25_0);(try clear hfz29_0);(try clear hfz29_1);(try clear p2);obtain ⟨x32_2,rfl,HA,HK2,BK208,BK209,HB⟩:=hrel
     cases gk with
     | zero => exact absurd HA.out (by simp [impl_IsQuery.l0])
     | succ k2 =>
      have H:=HA.out;clear HA;simp only [impl_IsQuery.l0] at H
      by_cases c30 : x32_2 < (l1_1.length : Int)
      ·
       rw [if_pos c30] at H;have c30b0:=decide_eq_true c30;clear c30
       by_cases c31 : 0 ≤ x32_2
       ·
        rw [if_pos c31] at H;have c31b0:=decide_eq_true c31;clear c31
        by_cases c32 : x32_2 < (l1_1.length : Int)
        ·
         rw [if_pos c32] at H;have c32b0:=decide_eq_true c32;clear c32;obtain ⟨t215,A330,H⟩:=zYb.mp H;(try dsimp only at H);have A33:=zA A330;clear A330
         by_cases c34 : t215 = true
         ·
          subst c34
          rw [if_pos rfl] at H
          have H':=zA H
          clear H;have p213 : 0 ≤ (x32_2 : Int):=zXb ze;have q213 : x32_2 < (l1_1.length : Int):=zXb ze;obtain ⟨ad213,A213_1,c213_1,e213,hx213_0,hx213_1,hl213_1,hi213_1⟩:=at_T97 HR1_1.out x32_2 p213 q213
          cases e213
          replace hx213_0:=zhx HB hx213_0;replace hx213_1:=zhx HB hx213_1;have HR213_1:=zA hi213_1;have HC213_1:=zA hl213_1;clear hi213_1 hl213_1;replace p213:=eq_true p213;replace q213:=eq_true q213
          go_wp2_with (first|((with_reducible refine gate_dst (N:=6) rfl ?_);(try (refine gate_guard (by rfl) ?_;dsimp only));refine zbx 6 #[.int .i64 0,.slice none 0 0] 97 ?_;intro gb214 hg w35 hbox hb;have BK214:=zA (hbox);have GW214:=zgw hg HB;have GE214:=zgw hg HB;replace HB:=zA (zJb (zz HB) hb);have NB208_214:=znb hg BK208;have NB214_208:=znc hg BK208;replace BK208:=zbk BK208 hb;have NB209_214:=znb hg BK209;have NB214_209:=znc hg BK209;replace BK209:=zbk BK209 hb;clear hb hbox hg;have hnb36:=NB214_208.out;have hnc36:=NB208_214.out;have hnb37:=NB214_209.out;have hnc37:=NB209_214.out;have hcz38_0:=zc (.int .i64 0) BK214 0 rfl;have hcz38_1:=zc (.slice none 0 0) BK214 1 rfl;have hfz38_0:=blk_frozen BK214.out 0;have hfz38_1:=blk_frozen BK214.out 1;have hnb39:=NB208_209.out;have hnc39:=NB209_208.out;have hcz40_0:=zc (.slice A0_0 l0_0.length c0_0) BK208 0 rfl;have hfz40_0:=blk_frozen BK208.out 0)|((with_reducible refine gate_callee (f:=130) rfl ?_);refine zgo (some 38) Try.func130 #[.agg #[.slice A0_0 l0_0.length c0_0],.agg #[.int .i64 ((rd_T97 l1_1 x32_2).f0),.slice A213_1 ((rd_T97 l1_1 x32_2).f1).length c213_1]] ?_;(with_reducible refine (impl_IsAtom.calls k2 _ _ l0_0 ((rd_T97 l1_1 x32_2).f0) _ _ ((rd_T97 l1_1 x32_2).f1) true _ ?side1 ?side2 ?side3 ?side4 A33.out).mono ?_);(case side1 => exact zKb HR0_0.out (zz HB));(case side2 => exact HC0_0.out);(case side3 => exact zKb HR213_1.out (zz HB));(case side4 => exact HC213_1.out);rintro e w41 ⟨rfl,hb⟩;refine ⟨_,rfl,?_⟩;replace BK208:=zA (zQ (g:=gb208) (o:=.cells #[.slice A0_0 l0_0.length c0_0] 65 (0,0)) (by (with_reducible repeat (first|refine zF ?_ _|refine zI ?_|refine zG ?_ _));refine zUb ?_ NB208_214.out _;(with_reducible repeat (first|refine zF ?_ _|refine zI ?_|refine zG ?_ _));refine zUb ?_ NB208_214.out _;(with_reducible repeat (first|refine zF ?_ _|refine zI ?_|refine zG ?_ _));exact BK208.out) hb);replace BK209:=zA (zQ (g:=gb209) (o:=.cells #[.slice A1_0 l1_0.length c1_0,.slice (some ad213) l1_1.length c1_1] 46 (0,0)) (by (with_reducible repeat (first|refine zF ?_ _|refine zI ?_|refine zG ?_ _));refine zUb ?_ NB209_214.out _;(with_reducible repeat (first|refine zF ?_ _|refine zI ?_|refine zG ?_ _));refine zUb ?_ NB209_214.out _;(with_reducible repeat (first|refine zF ?_ _|refine zI ?_|refine zG ?_ _));exact BK209.out) hb);replace BK214:=zA (zQ (g:=gb214) (o:=.cells #[.int .i64 ((rd_T97 l1_1 x32_2).f0),.slice A213_1 ((rd_T97 l1_1 x32_2).f1).length c213_1] 97 (0,0)) (by (with_reducible repeat (first|refine zF ?_ _|refine zI ?_|refine zG ?_ _));refine blk_put (cs:=#[.int .i64 ((rd_T97 l1_1 x32_2).f0),.slice none 0 0]) ?_ 1 _ rfl;(with_reducible repeat (first|refine zF ?_ _|refine zI ?_|refine zG ?_ _));refine blk_put (cs:=#[.int .i64 0,.slice none 0 0]) ?_ 0 _ rfl;(with_reducible repeat (first|refine zF ?_ _|refine zI ?_|refine zG ?_ _));exact BK214.out) hb);replace HB:=zA (zJb (zz HB) hb);(try clear hb);(try clear hb2);(try clear hk);(try clear hi)))
          go_roundg k2
          case measure => have:=HJ2.out;have:=HK2.out;omega
          case rel => exact ⟨(wrap64 (x32_2 + 1)),za,H',⟨by have:=HJ2.out;have:=HK2.out;omega⟩,⟨zx BK208⟩,⟨zx BK209⟩,⟨zz HB⟩⟩
         ·
          replace c34:=Bool.eq_false_iff.mpr c34
          subst c34
          have H1 : (some false) = some r:=by rw [if_neg (show ¬ (false = true) by decide)] at H;exact H
          clear H;have H:=H1;clear H1
          obtain rfl:=Option.some.inj H
          have p213 : 0 ≤ (x32_2 : Int):=zXb ze;have q213 : x32_2 < (l1_1.length : Int):=zXb ze;obtain ⟨ad213,A213_1,c213_1,e213,hx213_0,hx213_1,hl213_1,hi213_1⟩:=at_T97 HR1_1.out x32_2 p213 q213
          cases e213
          replace hx213_0:=zhx HB hx213_0;replace hx213_1:=zhx HB hx213_1;have HR213_1:=zA hi213_1;have HC213_1:=zA hl213_1;clear hi213_1 hl213_1;replace p213:=eq_true p213;replace q213:=eq_true q213
          go_wp2_with (first|((with_reducible refine gate_dst (N:=6) rfl ?_);(try (refine gate_guard (by rfl) ?_;dsimp only));refine zbx 6 #[.int .i64 0,.slice none 0 0] 97 ?_;intro gb214 hg w42 hbox hb;have BK214:=zA (hbox);have GW214:=zgw hg HB;have GE214:=zgw hg HB;replace HB:=zA (zJb (zz HB) hb);have NB208_214:=znb hg BK208;have NB214_208:=znc hg BK208;replace BK208:=zbk BK208 hb;have NB209_214:=znb hg BK209;have NB214_209:=znc hg BK209;replace BK209:=zbk BK209 hb;clear hb hbox hg;have hnb43:=NB214_208.out;have hnc43:=NB208_214.out;have hnb44:=NB214_209.out;have hnc44:=NB209_214.out;have hcz45_0:=zc (.int .i64 0) BK214 0 rfl;have hcz45_1:=zc (.slice none 0 0) BK214 1 rfl;have hfz45_0:=blk_frozen BK214.out 0;have hfz45_1:=blk_frozen BK214.out 1;have hnb46:=NB208_209.out;have hnc46:=NB209_208.out;have hcz47_0:=zc (.slice A0_0 l0_0.length c0_0) BK208 0 rfl;have hfz47_0:=blk_frozen BK208.out 0)|((with_reducible refine gate_callee (f:=130) rfl ?_);refine zgo (some 38) Try.func130 #[.agg #[.slice A0_0 l0_0.length c0_0],.agg #[.int .i64 ((rd_T97 l1_1 x32_2).f0),.slice A213_1 ((rd_T97 l1_1 x32_2).f1).length c213_1]] ?_;(with_reducible refine (impl_IsAtom.calls k2 _ _ l0_0 ((rd_T97 l1_1 x32_2).f0) _ _ ((rd_T97 l1_1 x32_2).f1) false _ ?side1 ?side2 ?side3 ?side4 A33.out).mono ?_);(case side1 => exact zKb HR0_0.out (zz HB));(case side2 => exact HC0_0.out);(case side3 => exact zKb HR213_1.out (zz HB));(case side4 => exact HC213_1.out);rintro e w48 ⟨rfl,hb⟩;refine ⟨_,rfl,?_⟩;replace BK208:=zA (zQ (g:=gb208) (o:=.cells #[.slice A0_0 l0_0.length c0_0] 65 (0,0)) (by (with_reducible repeat (first|refine zF ?_ _|refine zI ?_|refine zG ?_ _));refine zUb ?_ NB208_214.out _;(with_reducible repeat (first|refine zF ?_ _|refine zI ?_|refine zG ?_ _));refine zUb ?_ NB208_214.out _;(with_reducible repeat (first|refine zF ?_ _|refine zI ?_|refine zG ?_ _));exact BK208.out) hb);replace BK209:=zA (zQ (g:=gb209) (o:=.cells #[.slice A1_0 l1_0.length c1_0,.slice (some ad213) l1_1.length c1_1] 46 (0,0)) (by (with_reducible repeat (first|refine zF ?_ _|refine zI ?_|refine zG ?_ _));refine zUb ?_ NB209_214.out _;(with_reducible repeat (first|refine zF ?_ _|refine zI ?_|refine zG ?_ _));refine zUb ?_ NB209_214.out _;(with_reducible repeat (first|refine zF ?_ _|refine zI ?_|refine zG ?_ _));exact BK209.out) hb);replace BK214:=zA (zQ (g:=gb214) (o:=.cells #[.int .i64 ((rd_T97 l1_1 x32_2).f0),.slice A213_1 ((rd_T97 l1_1 x32_2).f1).length c213_1] 97 (0,0)) (by (with_reducible repeat (first|refine zF ?_ _|refine zI ?_|refine zG ?_ _));refine blk_put (cs:=#[.int .i64 ((rd_T97 l1_1 x32_2).f0),.slice none 0 0]) ?_ 1 _ rfl;(with_reducible repeat (first|refine zF ?_ _|refine zI ?_|refine zG ?_ _));refine blk_put (cs:=#[.int .i64 0,.slice none 0 0]) ?_ 0 _ rfl;(with_reducible repeat (first|refine zF ?_ _|refine zI ?_|refine zG ?_ _));exact BK214.out) hb);replace HB:=zA (zJb (zz HB) hb);(try clear hb);(try clear hb2);(try clear hk);(try clear hi)))
          go_ret
          exact ⟨zrr,zz HB⟩
        ·
         rw [if_neg c32] at H
         exact absurd H (by simp)
       ·
        rw [if_neg c31] at H
        exact absurd H (by simp)
      ·
       rw [if_neg c30] at H;have c30b0:=decide_eq_false c30;clear c30;obtain ⟨t216,A490,H⟩:=zYb.mp H;(try dsimp only at H);have A49:=zA A490;clear A490
       obtain rfl:=Option.some.inj H
       have hnb50:=NB209_208.out;have hnc50:=NB208_209.out;have hcz51_0:=zc (.slice A1_0 l1_0.length c1_0) BK209 0 rfl;have hcz51_1:=zc (.slice A1_1 l1_1.length c1_1) BK209 1 rfl;have hfz51_0:=blk_frozen BK209.out 0;have hfz51_1:=blk_frozen BK209.out 1
       go_wp2_with (first|((with_reducible refine gate_callee (f:=131) rfl ?_);refine zgo (some 42) Try.func131 #[.agg #[.slice A1_0 l1_0.length c1_0,.slice A1_1 l1_1.length c1_1]] ?_;(with_reducible refine (impl_Query_isSafe.calls k2 _ _ l1_0 _ _ l1_1 t216 _ ?side1 ?side2 ?side3 ?side4 A49.out).mono ?_);(case side1 => exact zsd HR1_0 HB);(case side2 => exact HC1_0.out);(case side3 => exact zsd HR1_1 HB);(case side4 => exact HC1_1.out);rintro e w52 ⟨rfl,hb⟩;refine ⟨_,rfl,?_⟩;replace BK208:=zbk BK208 hb;replace BK209:=zbk BK209 hb;replace HB:=zA (zJb (zz HB) hb);(try clear hb);(try clear hb2);(try clear hk);(try clear hi)))
       go_ret
       exact ⟨zrr,zz HB⟩

/-! ### impl_ApplyMapping: function 67 -/
def impl_ApplyMapping.f (l0 : List Int) (a1 : Int) : Option (Int) := (impl_within.f a1 0 (wrap64 ((l0.length : Int) - 1))).bind fun t217 => (if t217 = true then (if 0 ≤ a1 then (if a1 < (l0.length : Int) then (if (rd l0 a1) = (-1000) then (some a1) else (some (rd l0 a1))) else (none)) else (none)) else (some a1))
set_option maxHeartbeats 8000000 in
set_option maxRecDepth 100000 in
theorem impl_ApplyMapping.calls (A0 : Option Addr) (c0 : Nat) (l0 : List Int) (a1 : Int) (r : Int) (w : World) (hr0 : Kd.C (Kd.int .i64) w A0 l0.length l0) (hc0 : l0.length ≤ c0) (h : impl_ApplyMapping.f l0 a1 = some r) :
  Calls Try.prog 67 #[.slice A0 l0.length c0, .int .i64 a1] w fun e w' => e = .returned (.int .i64 r) ∧ Drawn0 w w' := by
 have HR0:=zA hr0;have HC0:=zA hc0;clear hr0 hc0
 have H : ((impl_within.f a1 0 (wrap64 ((l0.length : Int) - 1))).bind fun t217 => (if t217 = true then (if 0 ≤ a1 then (if a1 < (l0.length : Int) then (if (rd l0 a1) = (-1000) then (some a1) else (some (rd l0 a1))) else (none)) else (none)) else (some a1))) = some r:=h
 clear h;obtain ⟨t217,A30,H⟩:=zYb.mp H;(try dsimp only at H);have A3:=zA A30;clear A30
 by_cases c4 : t217 = true
 ·
  subst c4
  rw [if_pos rfl] at H
  by_cases c5 : 0 ≤ a1
  ·
   rw [if_pos c5] at H;have c5b0:=decide_eq_true c5;clear c5
   by_cases c6 : a1 < (l0.length : Int)
   ·
    rw [if_pos c6] at H;have c6b0:=decide_eq_true c6;clear c6
    by_cases c7 : (rd l0 a1) = (-1000)
    ·
     rw [if_pos c7] at H;have c7b0:=beq_iff_eq.mpr c7;have c7b1:=bne_eq_false_iff_eq.mpr c7;clear c7
     obtain rfl:=Option.some.inj H
     go_enter Try.func67,Try.ntmps67
     go_wp2_with (first|((with_reducible refine gate_callee (f:=78) rfl ?_);refine zgo (some 9) Try.func78 #[.int .i64 a1,.int .i64 0,.int .i64 (wrap64 ((l0.length : Int) - 1))] ?_;(with_reducible refine (impl_within.calls a1 0 (wrap64 ((l0.length : Int) - 1)) true _ A3.out).mono ?_);rintro e w' ⟨rfl,⟨nd,rfl⟩⟩;refine ⟨_,rfl,?_⟩;have p218 : 0 ≤ (a1 : Int):=zXb ze;have q218 : a1 < (l0.length : Int):=zXb ze;obtain ⟨ad218,e218,hx218_0⟩:=Kd.at_int HR0.out a1 p218 q218;cases e218;replace p218:=eq_true p218;replace q218:=eq_true q218))
     go_ret
     exact ⟨za,zdr⟩
    ·
     rw [if_neg c7] at H;have c7b0:=beq_eq_false_iff_ne.mpr c7;have c7b1:=bne_iff_ne.mpr c7
     obtain rfl:=Option.some.inj H
     go_enter Try.func67,Try.ntmps67
     go_wp2_with (first|((with_reducible refine gate_callee (f:=78) rfl ?_);refine zgo (some 9) Try.func78 #[.int .i64 a1,.int .i64 0,.int .i64 (wrap64 ((l0.length : Int) - 1))] ?_;(with_reducible refine (impl_within.calls a1 0 (wrap64 ((l0.length : Int) - 1)) true _ A3.out).mono ?_);rintro e w' ⟨rfl,⟨nd,rfl⟩⟩;refine ⟨_,rfl,?_⟩;have p218 : 0 ≤ (a1 : Int):=zXb ze;have q218 : a1 < (l0.length : Int):=zXb ze;obtain ⟨ad218,e218,hx218_0⟩:=Kd.at_int HR0.out a1 p218 q218;cases e218;replace p218:=eq_true p218;replace q218:=eq_true q218;have p219 : 0 ≤ (a1 : Int):=zXb ze;have q219 : a1 < (l0.length : Int):=zXb ze;obtain ⟨ad219,e219,hx219_0⟩:=Kd.at_int HR0.out a1 p219 q219;obtain rfl : ad218 = ad219:=(by injection e219);replace p219:=eq_true p219;replace q219:=eq_true q219))
     go_ret
     exact ⟨za,zdr⟩
   ·
    rw [if_neg c6] at H
    exact absurd H (by simp)
  ·
   rw [if_neg c5] at H
   exact absurd H (by simp)
 ·
  replace c4:=Bool.eq_false_iff.mpr c4
  subst c4
  have H1 : (some a1) = some r:=by rw [if_neg (show ¬ (false = true) by decide)] at H;exact H
  clear H;have H:=H1;clear H1
  obtain rfl:=Option.some.inj H
  go_enter Try.func67,Try.ntmps67
  go_wp2_with (first|((with_reducible refine gate_callee (f:=78) rfl ?_);refine zgo (some 9) Try.func78 #[.int .i64 a1,.int .i64 0,.int .i64 (wrap64 ((l0.length : Int) - 1))] ?_;(with_reducible refine (impl_within.calls a1 0 (wrap64 ((l0.length : Int) - 1)) false _ A3.out).mono ?_);rintro e w' ⟨rfl,⟨nd,rfl⟩⟩;refine ⟨_,rfl,?_⟩))
  go_ret
  exact ⟨za,zdr⟩

/-! ### slices_Equal_int_int: function 86 -/
def slices_Equal_int_int.l0 : Nat → List Int → List Int → Int → Int → Option (Bool)
 | 0, _, _, _, _ => none
 | k + 1, x0, x1, x12, x13 => if x13 < x12 then (if 0 ≤ x13 then (if x13 < (x0.length : Int) then (if x13 < (x1.length : Int) then (if (rd x0 x13) = (rd x1 x13) then (slices_Equal_int_int.l0 k x0 x1 x12 (wrap64 (x13 + 1))) else (some false)) else (none)) else (none)) else (none)) else (some true)
def slices_Equal_int_int.f (k : Nat) (l0 : List Int) (l1 : List Int) : Option (Bool) := if (l0.length : Int) = (l1.length : Int) then (slices_Equal_int_int.l0 k l0 l1 (l0.length : Int) 0) else (some false)
set_option maxHeartbeats 8000000 in
set_option maxRecDepth 100000 in
theorem slices_Equal_int_int.calls (k : Nat) (A0 : Option Addr) (c0 : Nat) (l0 : List Int) (A1 : Option Addr) (c1 : Nat) (l1 : List Int) (r : Bool) (w : World) (hr0 : Kd.C (Kd.int .i64) w A0 l0.length l0) (hc0 : l0.length ≤ c0) (hr1 : Kd.C (Kd.int .i64) w A1 l1.length l1) (hc1 : l1.length ≤ c1) (h : slices_Equal_int_int.f k l0 l1 = some r) :
  Calls Try.prog 86 #[.slice A0 l0.length c0, .slice A1 l1.length c1] w fun e w' => e = .returned (.bool r) ∧ Drawn0 w w' := by
 have HR0:=zA hr0;have HC0:=zA hc0;clear hr0 hc0;have HR1:=zA hr1;have HC1:=zA hc1;clear hr1 hc1
 have H : (if (l0.length : Int) = (l1.length : Int) then (slices_Equal_int_int.l0 k l0 l1 (l0.length : Int) 0) else (some false)) = some r:=h
 clear h
 by_cases c3 : (l0.length : Int) = (l1.length : Int)
 ·
  rw [if_pos c3] at H;have c3b0:=beq_iff_eq.mpr c3;have c3b1:=bne_eq_false_iff_eq.mpr c3
  have c3b2 : (l0.length == l1.length) = true:=by first|simpa using c3|(simp at c3 ⊢;omega)
  clear c3
  have H':=zA H
  clear H
  go_enter Try.func86,Try.ntmps86
  go_wp2
  repeat (go_quiet (fail);try go_wp2)
  go_loopg [13] k (fun kq v13 w' => ∃ (x13_1 : Int),v13 = .int .i64 x13_1 ∧ Aside0 (slices_Equal_int_int.l0 kq l0 l1 (l0.length : Int) x13_1 = some r) ∧ Aside0 (kq ≤ k) ∧ Drawn0 w w')
  case atStart => exact ⟨(0),za,H',⟨Nat.le_refl _⟩,zdr⟩
  case round =>
   clear H';(try clear c1);(try clear p2);(try clear c3);(try clear c3b0);(try clear c3b1);(try clear c3b2);obtain ⟨x13_1,rfl,HA,HK1,⟨m1,rfl⟩⟩:=hrel
   cases gk with
   | zero => exact absurd HA.out (by simp [slices_Equal_int_int.l0])
   | succ k1 =>
    have H:=HA.out;clear HA;simp only [slices_Equal_int_int.l0] at H
    by_cases c4 : x13_1 < (l0.length : Int)
    ·
     rw [if_pos c4] at H;have c4b0:=decide_eq_true c4;clear c4
     by_cases c5 : 0 ≤ x13_1
     ·
      rw [if_pos c5] at H;have c5b0:=decide_eq_true c5;clear c5
      by_cases c6 : x13_1 < (l0.length : Int)
      ·
       rw [if_pos c6] at H;have c6b0:=decide_eq_true c6;clear c6
       by_cases c7 : x13_1 < (l1.length : Int)
       ·
        rw [if_pos c7] at H;have c7b0:=decide_eq_true c7;clear c7
        by_cases c8 : (rd l0 x13_1) = (rd l1 x13_1)
        ·
         rw [if_pos c8] at H;have c8b0:=beq_iff_eq.mpr c8;have c8b1:=bne_eq_false_iff_eq.mpr c8;clear c8
         have H':=zA H
         clear H;have p220 : 0 ≤ (x13_1 : Int):=zXb ze;have q220 : x13_1 < (l0.length : Int):=zXb ze;obtain ⟨ad220,e220,hx220_0⟩:=Kd.at_int HR0.out x13_1 p220 q220
         cases e220
         replace p220:=eq_true p220;replace q220:=eq_true q220;have p221 : 0 ≤ (x13_1 : Int):=zXb ze;have q221 : x13_1 < (l1.length : Int):=zXb ze;obtain ⟨ad221,e221,hx221_0⟩:=Kd.at_int HR1.out x13_1 p221 q221
         cases e221
         replace p221:=eq_true p221;replace q221:=eq_true q221
         go_wp2
         repeat (go_quiet (fail);try go_wp2)
         go_roundg k1
         case measure => have:=HK1.out;omega
         case rel => exact ⟨(wrap64 (x13_1 + 1)),za,H',⟨by have:=HK1.out;omega⟩,zdr⟩
        ·
         rw [if_neg c8] at H;have c8b0:=beq_eq_false_iff_ne.mpr c8;have c8b1:=bne_iff_ne.mpr c8
         obtain rfl:=Option.some.inj H
         have p220 : 0 ≤ (x13_1 : Int):=zXb ze;have q220 : x13_1 < (l0.length : Int):=zXb ze;obtain ⟨ad220,e220,hx220_0⟩:=Kd.at_int HR0.out x13_1 p220 q220
         cases e220
         replace p220:=eq_true p220;replace q220:=eq_true q220;have p221 : 0 ≤ (x13_1 : Int):=zXb ze;have q221 : x13_1 < (l1.length : Int):=zXb ze;obtain ⟨ad221,e221,hx221_0⟩:=Kd.at_int HR1.out x13_1 p221 q221
         cases e221
         replace p221:=eq_true p221;replace q221:=eq_true q221
         go_wp2
         repeat (go_quiet (fail);try go_wp2)
         go_ret
         exact ⟨za,zdr⟩
       ·
        rw [if_neg c7] at H
        exact absurd H (by simp)
      ·
       rw [if_neg c6] at H
       exact absurd H (by simp)
     ·
      rw [if_neg c5] at H
      exact absurd H (by simp)
    ·
     rw [if_neg c4] at H;have c4b0:=decide_eq_false c4;clear c4
     obtain rfl:=Option.some.inj H
     go_wp2
     repeat (go_quiet (fail);try go_wp2)
     go_ret
     exact ⟨za,zdr⟩
 ·
  rw [if_neg c3] at H;have c3b0:=beq_eq_false_iff_ne.mpr c3;have c3b1:=bne_iff_ne.mpr c3
  have c3b2 : (l0.length == l1.length) = false:=by first|simpa using c3|(simp at c3 ⊢;omega)
  obtain rfl:=Option.some.inj H
  go_enter Try.func86,Try.ntmps86
  go_wp2
  repeat (go_quiet (fail);try go_wp2)
  go_ret
  exact ⟨za,zdr⟩

/-! ### impl_EqualAtoms: function 88 -/
def impl_EqualAtoms.f (k : Nat) (a0_0 : Int) (l0_1 : List Int) (a1_0 : Int) (l1_1 : List Int) : Option (Bool) := if a0_0 = a1_0 then ((slices_Equal_int_int.f k l0_1 l1_1).bind fun t224 => (some t224)) else (some false)
set_option maxHeartbeats 8000000 in
set_option maxRecDepth 100000 in
theorem impl_EqualAtoms.calls (k : Nat) (a0_0 : Int) (A0_1 : Option Addr) (c0_1 : Nat) (l0_1 : List Int) (a1_0 : Int) (A1_1 : Option Addr) (c1_1 : Nat) (l1_1 : List Int) (r : Bool) (w : World) (hr0_1 : Kd.C (Kd.int .i64) w A0_1 l0_1.length l0_1) (hc0_1 : l0_1.length ≤ c0_1) (hr1_1 : Kd.C (Kd.int .i64) w A1_1 l1_1.length l1_1) (hc1_1 : l1_1.length ≤ c1_1) (h : impl_EqualAtoms.f k a0_0 l0_1 a1_0 l1_1 = some r) :
  Calls Try.prog 88 #[.agg #[.int .i64 a0_0, .slice A0_1 l0_1.length c0_1], .agg #[.int .i64 a1_0, .slice A1_1 l1_1.length c1_1]] w fun e w' => e = .returned (.bool r) ∧ Below w.heap.size w w' := by
 have hu97:=Try.underlying97;have HR0_1:=zA hr0_1;have HC0_1:=zA hc0_1;clear hr0_1 hc0_1;have HR1_1:=zA hr1_1;have HC1_1:=zA hc1_1;clear hr1_1 hc1_1;have HB:=zA (Below.refl w.heap.size w)
 have H : (if a0_0 = a1_0 then ((slices_Equal_int_int.f k l0_1 l1_1).bind fun t224 => (some t224)) else (some false)) = some r:=h
 clear h
 by_cases c3 : a0_0 = a1_0
 ·
  rw [if_pos c3] at H;have c3b0:=beq_iff_eq.mpr c3;have c3b1:=bne_eq_false_iff_eq.mpr c3;clear c3;obtain ⟨t224,A40,H⟩:=zYb.mp H;(try dsimp only at H);have A4:=zA A40;clear A40
  obtain rfl:=Option.some.inj H
  go_enter Try.func88,Try.ntmps88
  go_wp2_with (first|((with_reducible refine gate_dst (N:=2) rfl ?_);refine zbx 2 #[.int .i64 a0_0,.slice A0_1 l0_1.length c0_1] 97 ?_;intro gb222 hg w5 hbox hb;have BK222:=zA (hbox);have GW222:=zgw hg HB;have GE222:=zgw hg HB;replace HB:=zA (zJb (zz HB) hb);clear hb hbox hg)|((with_reducible refine gate_dst (N:=3) rfl ?_);refine zbx 3 #[.int .i64 a1_0,.slice A1_1 l1_1.length c1_1] 97 ?_;intro gb223 hg w6 hbox hb;have BK223:=zA (hbox);have GW223:=zgw hg HB;have GE223:=zgw hg HB;replace HB:=zA (zJb (zz HB) hb);have NB222_223:=znb hg BK222;have NB223_222:=znc hg BK222;replace BK222:=zbk BK222 hb;clear hb hbox hg;have hnb7:=NB222_223.out;have hnc7:=NB223_222.out;have hcz8_0:=zc (.int .i64 a0_0) BK222 0 rfl;have hcz8_1:=zc (.slice A0_1 l0_1.length c0_1) BK222 1 rfl;have hfz8_0:=blk_frozen BK222.out 0;have hfz8_1:=blk_frozen BK222.out 1;have hcz9_0:=zc (.int .i64 a1_0) BK223 0 rfl;have hcz9_1:=zc (.slice A1_1 l1_1.length c1_1) BK223 1 rfl;have hfz9_0:=blk_frozen BK223.out 0;have hfz9_1:=blk_frozen BK223.out 1)|(go_at_call 86;(with_reducible refine (slices_Equal_int_int.calls k _ _ l0_1 _ _ l1_1 t224 _ ?side1 ?side2 ?side3 ?side4 A4.out).mono ?_);(case side1 => exact zsd HR0_1 HB);(case side2 => exact HC0_1.out);(case side3 => exact zsd HR1_1 HB);(case side4 => exact HC1_1.out);rintro e w' ⟨rfl,⟨nd,rfl⟩⟩))
  go_ret
  exact ⟨zrr,zz HB⟩
 ·
  rw [if_neg c3] at H;have c3b0:=beq_eq_false_iff_ne.mpr c3;have c3b1:=bne_iff_ne.mpr c3
  obtain rfl:=Option.some.inj H
  go_enter Try.func88,Try.ntmps88
  go_wp2_with (first|((with_reducible refine gate_dst (N:=2) rfl ?_);refine zbx 2 #[.int .i64 a0_0,.slice A0_1 l0_1.length c0_1] 97 ?_;intro gb222 hg w10 hbox hb;have BK222:=zA (hbox);have GW222:=zgw hg HB;have GE222:=zgw hg HB;replace HB:=zA (zJb (zz HB) hb);clear hb hbox hg)|((with_reducible refine gate_dst (N:=3) rfl ?_);refine zbx 3 #[.int .i64 a1_0,.slice A1_1 l1_1.length c1_1] 97 ?_;intro gb223 hg w11 hbox hb;have BK223:=zA (hbox);have GW223:=zgw hg HB;have GE223:=zgw hg HB;replace HB:=zA (zJb (zz HB) hb);have NB222_223:=znb hg BK222;have NB223_222:=znc hg BK222;replace BK222:=zbk BK222 hb;clear hb hbox hg;have hnb12:=NB222_223.out;have hnc12:=NB223_222.out;have hcz13_0:=zc (.int .i64 a0_0) BK222 0 rfl;have hcz13_1:=zc (.slice A0_1 l0_1.length c0_1) BK222 1 rfl;have hfz13_0:=blk_frozen BK222.out 0;have hfz13_1:=blk_frozen BK222.out 1;have hcz14_0:=zc (.int .i64 a1_0) BK223 0 rfl;have hcz14_1:=zc (.slice A1_1 l1_1.length c1_1) BK223 1 rfl;have hfz14_0:=blk_frozen BK223.out 0;have hfz14_1:=blk_frozen BK223.out 1))
  go_ret
  exact ⟨zrr,zz HB⟩

/-! ### impl_copyInts: function 139 -/
def impl_copyInts.f (l0 : List Int) : Option (List Int) := (some (([] : List Int) : List Int)).bind fun y225 => (if y225.length + l0.length < 17592186044416 then (some (y225 ++ l0)) else (none))
set_option maxHeartbeats 8000000 in
set_option maxRecDepth 100000 in
theorem impl_copyInts.calls (A0 : Option Addr) (c0 : Nat) (l0 : List Int) (r : List Int) (w : World) (hr0 : Kd.C (Kd.int .i64) w A0 l0.length l0) (hc0 : l0.length ≤ c0) (h : impl_copyInts.f l0 = some r) :
  Calls Try.prog 139 #[.slice A0 l0.length c0] w fun e w' => ∃ v0_ : Value, e = .returned (v0_) ∧ Kd.R (Kd.int .i64) 3 w' w.heap.size (fun _ => True) v0_ r ∧ Below w.heap.size w w' := by
 have HR0:=zA hr0;have HC0:=zA hc0;clear hr0 hc0;have HB:=zA (Below.refl w.heap.size w)
 have H : ((some (([] : List Int) : List Int)).bind fun y225 => (if y225.length + l0.length < 17592186044416 then (some (y225 ++ l0)) else (none))) = some r:=h
 clear h;obtain ⟨y225,hy225⟩ : ∃ y_ : List Int,y_ = (([] : List Int)):=⟨_,rfl⟩
 replace H : (if y225.length + l0.length < 17592186044416 then (some (y225 ++ l0)) else (none)) = some r:=by first|(rw [hy225];with_reducible exact H)|(have H2_:=(Option.bind_some _ _).symm.trans H;rw [hy225];with_reducible exact H2_)|(have H2_:=(Option.bind_some _ _).symm.trans H;with_reducible exact H2_)|with_reducible exact H|(rw [hy225];exact H)|exact H
 have Ny225:=zA hy225;clear hy225
 by_cases c2 : y225.length + l0.length < 17592186044416
 ·
  rw [if_pos c2] at H;have LMc2:=zA c2;clear c2;obtain ⟨y228,hy228⟩ : ∃ y_ : List Int,y_ = (y225 ++ l0):=⟨_,rfl⟩
  replace H : (some y228) = some r:=by first|(rw [hy228];with_reducible exact H)|(have H2_:=(Option.bind_some _ _).symm.trans H;rw [hy228];with_reducible exact H2_)|(have H2_:=(Option.bind_some _ _).symm.trans H;with_reducible exact H2_)|with_reducible exact H|(rw [hy228];exact H)|exact H
  have Ny228:=zA hy228;clear hy228
  obtain rfl:=Option.some.inj H
  go_enter Try.func139,Try.ntmps139
  go_wp2_with (first|((with_reducible refine gate_dst (N:=3) rfl ?_);refine Kd.R_lit (Kd.int .i64) _ 3 ?hg (N:=3) ?hd (xs:=([] : List Int)) (inner:=[]) (ok:=fun _ => True) (okp:=fun _ => True) ?hr ?hp (fun _ hk => hk) trivial (Below.refl _ _) (Nat.le_refl _) (by simp) ?_;(case hd => rfl);(case hg => rfl);(case hr => first|(go_simp;done)|(go_simp;rfl));(case hp => exact (Reps.none _ _));intro v226 w3 ho4 hb hg_ hnew_;clear hg_ hnew_;(first|rw [← Ny225.out] at ho4|(simp only [Int.reduceToNat] at ho4;rw [← Ny225.out] at ho4));have HO227:=zA (zHb ho4 (zT (zz HB)));replace HB:=zA (zJb (zz HB) hb);clear hb ho4)|((with_reducible refine gate_builtin (b:=.append) (xs:=#[.tmp 3,.tmp 4]) rfl ?_);at_builtin;refine Kd.R_append_rows (Kd.int .i64) (w0:=w) w.heap.size rfl (.tmp 3) (.tmp 4) 38 3 (.int .i64 0) 8 rfl Try.underlying38 info3 rfl (by decide) (by omega) v226 y225 l0 _ _ _ (fun _ => True) (fun _ => False) rfl rfl ?aO ?aR (fun _ _ h => h) (fun _ h => h.elim) ?aF ?aB ?aS ?aL ?_;(case aR => exact zsd HR0 HB);(case aB => exact (zz HB));(case aF => exact (fun _ _ => trivial));(case aO => exact (zq HO227));(case aS => exact (zT (zz HB)));(case aL => have:=LMc2.out;omega);intro v229 w5 ho hb hg hat;rw [← Ny228.out] at ho;replace HB:=zA (hb);have HO230:=zA (ho);clear HO227;clear ho hb hg hat))
  go_ret
  exact ⟨_,zrr,zq HO230,zz HB⟩
 ·
  rw [if_neg c2] at H
  exact absurd H (by simp)

end Go.Proofs.Ytanbgnjfllpkgaa.QFnMappings
