/- Walks through the Go functions that FnMappings reaches: each call returns what the Lean function beside it says, within the bounds that the theorem names. -/
import Derived.Test.YtanbgnjfllpkgaaQFnMappingsx0
namespace Go.Proofs.Ytanbgnjfllpkgaa.QFnMappings
open Go.RowKit Go.Proofs.YtanbgnjfllpkgaaW.PrintWords Go.Proofs.YtanbgnjfllpkgaaW.PrintLast Go.Proofs.YtanbgnjfllpkgaaW.PrintMore
attribute [local go_sem] max2_int min2_int max_two min_two max_three min_three max_four min_four   -- for this text's walks alone
set_option linter.unusedVariables false
set_option linter.unusedSimpArgs false


/-! ### spec_l2Has: function 151 -/
def spec_l2Has.l0 : Nat → List Int → Int → Int → Option (Bool)
 | 0, _, _, _ => none
 | k + 1, x0, x1, x5 => if x5 < (x0.length : Int) then (if 0 ≤ x5 then (if (rd x0 x5) = x1 then (some true) else (spec_l2Has.l0 k x0 x1 (wrap64 (x5 + 1)))) else (none)) else (some false)
def spec_l2Has.f (k : Nat) (l0 : List Int) (a1 : Int) : Option (Bool) := spec_l2Has.l0 k l0 a1 0
set_option maxHeartbeats 8000000 in
set_option maxRecDepth 100000 in
theorem spec_l2Has.calls (k : Nat) (A0 : Option Addr) (c0 : Nat) (l0 : List Int) (a1 : Int) (r : Bool) (w : World) (hr0 : Kd.C (Kd.int .i64) w A0 l0.length l0) (hc0 : l0.length ≤ c0) (h : spec_l2Has.f k l0 a1 = some r) :
  Calls Try.prog 151 #[.slice A0 l0.length c0, .int .i64 a1] w fun e w' => e = .returned (.bool r) ∧ Drawn0 w w' := by
 have HR0:=zA hr0;have HC0:=zA hc0;clear hr0 hc0
 have H : (spec_l2Has.l0 k l0 a1 0) = some r:=h
 clear h
 have H':=zA H
 clear H
 go_enter Try.func151,Try.ntmps151
 go_wp2
 go_loopg [5] k (fun kq v5 w' => ∃ (x5_1 : Int),v5 = .int .i64 x5_1 ∧ Aside0 (spec_l2Has.l0 kq l0 a1 x5_1 = some r) ∧ Aside0 (kq ≤ k) ∧ Drawn0 w w')
 case atStart => exact ⟨(0),za,H',⟨Nat.le_refl _⟩,zdr⟩
 case round =>
  clear H';(try clear c1);(try clear p2);obtain ⟨x5_1,rfl,HA,HK1,⟨m1,rfl⟩⟩:=hrel
  cases gk with
  | zero => exact absurd HA.out (by simp [spec_l2Has.l0])
  | succ k1 =>
   have H:=HA.out;clear HA;simp only [spec_l2Has.l0] at H
   by_cases c3 : x5_1 < (l0.length : Int)
   ·
    rw [if_pos c3] at H;have c3b0:=decide_eq_true c3;clear c3
    by_cases c4 : 0 ≤ x5_1
    ·
     rw [if_pos c4] at H;have c4b0:=decide_eq_true c4;clear c4
     by_cases c5 : (rd l0 x5_1) = a1
     ·
      rw [if_pos c5] at H;have c5b0:=beq_iff_eq.mpr c5;have c5b1:=bne_eq_false_iff_eq.mpr c5;clear c5
      obtain rfl:=Option.some.inj H
      have p117 : 0 ≤ (x5_1 : Int):=zXb ze;have q117 : x5_1 < (l0.length : Int):=zXb ze;obtain ⟨ad117,e117,hx117_0⟩:=Kd.at_int HR0.out x5_1 p117 q117
      cases e117
      replace p117:=eq_true p117;replace q117:=eq_true q117
      go_wp2
      go_ret
      exact ⟨za,zdr⟩
     ·
      rw [if_neg c5] at H;have c5b0:=beq_eq_false_iff_ne.mpr c5;have c5b1:=bne_iff_ne.mpr c5
      have H':=zA H
      clear H;have p117 : 0 ≤ (x5_1 : Int):=zXb ze;have q117 : x5_1 < (l0.length : Int):=zXb ze;obtain ⟨ad117,e117,hx117_0⟩:=Kd.at_int HR0.out x5_1 p117 q117
      cases e117
      replace p117:=eq_true p117;replace q117:=eq_true q117
      go_wp2
      go_roundg k1
      case measure => have:=HK1.out;omega
      case rel => exact ⟨(wrap64 (x5_1 + 1)),za,H',⟨by have:=HK1.out;omega⟩,zdr⟩
    ·
     rw [if_neg c4] at H
     exact absurd H (by simp)
   ·
    rw [if_neg c3] at H;have c3b0:=decide_eq_false c3;clear c3
    obtain rfl:=Option.some.inj H
    go_wp2
    go_ret
    exact ⟨za,zdr⟩

/-! ### spec_l4BodyVars: function 152 -/
mutual
def spec_l4BodyVars.l0 : Nat → List Int → Int → List Int → List (S97) → Option (List Int)
 | 0, _, _, _, _ => none
 | k + 1, x3, x4, x119000, x119001 => if x4 < (x119001.length : Int) then (spec_l4BodyVars.l1 k x3 x4 0 x119000 x119001) else (some x3)
def spec_l4BodyVars.l1 : Nat → List Int → Int → Int → List Int → List (S97) → Option (List Int)
 | 0, _, _, _, _, _ => none
 | k + 1, x3, x4, x5, x119000, x119001 => if 0 ≤ x4 then (if x4 < (x119001.length : Int) then (if x5 < (((rd_T97 x119001 x4).f1).length : Int) then (if 0 ≤ x5 then (if (rd ((rd_T97 x119001 x4).f1) x5) ≥ 0 then ((spec_l2Has.f k x3 (rd ((rd_T97 x119001 x4).f1) x5)).bind fun t125 => (if t125 = true then (spec_l4BodyVars.l1 k x3 x4 (wrap64 (x5 + 1)) x119000 x119001) else (if x3.length < 17592186044416 then (spec_l4BodyVars.l1 k (x3 ++ [rd ((rd_T97 x119001 x4).f1) x5]) x4 (wrap64 (x5 + 1)) x119000 x119001) else (none)))) else (spec_l4BodyVars.l1 k x3 x4 (wrap64 (x5 + 1)) x119000 x119001)) else (none)) else (spec_l4BodyVars.l0 k x3 (wrap64 (x4 + 1)) x119000 x119001)) else (none)) else (none)
end
def spec_l4BodyVars.f (k : Nat) (l0_0 : List Int) (l0_1 : List (S97)) : Option (List Int) := spec_l4BodyVars.l0 k (([] : List Int)) 0 l0_0 l0_1
set_option maxHeartbeats 8000000 in
set_option maxRecDepth 100000 in
theorem spec_l4BodyVars.calls (k : Nat) (A0_0 : Option Addr) (c0_0 : Nat) (l0_0 : List Int) (A0_1 : Option Addr) (c0_1 : Nat) (l0_1 : List (S97)) (r : List Int) (w : World) (hr0_0 : Kd.C (Kd.int .i64) w A0_0 l0_0.length l0_0) (hc0_0 : l0_0.length ≤ c0_0) (hr0_1 : Kd.C k97 w A0_1 l0_1.length l0_1) (hc0_1 : l0_1.length ≤ c0_1) (h : spec_l4BodyVars.f k l0_0 l0_1 = some r) :
  Calls Try.prog 152 #[.agg #[.slice A0_0 l0_0.length c0_0, .slice A0_1 l0_1.length c0_1]] w fun e w' => ∃ v0_ : Value, e = .returned (v0_) ∧ Kd.R (Kd.int .i64) 3 w' w.heap.size (fun _ => True) v0_ r ∧ Below w.heap.size w w' := by
 have hu46:=Try.underlying46;have HR0_0:=zA hr0_0;have HC0_0:=zA hc0_0;clear hr0_0 hc0_0;have HR0_1:=zA hr0_1;have HC0_1:=zA hc0_1;clear hr0_1 hc0_1;have HB:=zA (Below.refl w.heap.size w)
 have H : (spec_l4BodyVars.l0 k (([] : List Int)) 0 l0_0 l0_1) = some r:=h
 clear h;obtain ⟨y119,hy119⟩ : ∃ y_ : List Int,y_ = (([] : List Int)):=⟨_,rfl⟩
 replace H : (spec_l4BodyVars.l0 k y119 0 l0_0 l0_1) = some r:=by first|(rw [hy119];with_reducible exact H)|(have H2_:=(Option.bind_some _ _).symm.trans H;rw [hy119];with_reducible exact H2_)|(have H2_:=(Option.bind_some _ _).symm.trans H;with_reducible exact H2_)|with_reducible exact H|(rw [hy119];exact H)|exact H
 have Ny119:=zA hy119;clear hy119
 have H':=zA H
 clear H
 go_enter Try.func152,Try.ntmps152
 go_wp2_with (first|((with_reducible refine gate_dst (N:=1) rfl ?_);refine zbx 1 #[.slice A0_0 l0_0.length c0_0,.slice A0_1 l0_1.length c0_1] 46 ?_;intro gb118 hg w2 hbox hb;have BK118:=zA (hbox);have GW118:=zgw hg HB;have GE118:=zgw hg HB;replace HB:=zA (zJb (zz HB) hb);clear hb hbox hg)|((with_reducible refine gate_dst (N:=7) rfl ?_);refine Kd.R_lit (Kd.int .i64) _ 3 ?hg (N:=7) ?hd (xs:=([] : List Int)) (inner:=[]) (ok:=fun _ => True) (okp:=fun _ => True) ?hr ?hp (fun _ hk => hk) trivial (Below.refl _ _) (Nat.le_refl _) (by simp) ?_;(case hd => rfl);(case hg => rfl);(case hr => first|(go_simp;done)|(go_simp;rfl));(case hp => exact (Reps.none _ _));intro v120 w3 ho4 hb hg_ hnew_;clear hg_ hnew_;(first|rw [← Ny119.out] at ho4|(simp only [Int.reduceToNat] at ho4;rw [← Ny119.out] at ho4));have HO121:=zA (zHb ho4 (zT (zz HB)));replace BK118:=zbk BK118 hb;replace HB:=zA (zJb (zz HB) hb);clear hb ho4))
 go_loopg [3,4] k (fun kq v3 v4 w' => ∃ (x3_1 : List Int) (x4_1 : Int),v4 = .int .i64 x4_1 ∧ Aside0 (spec_l4BodyVars.l0 kq x3_1 x4_1 l0_0 l0_1 = some r) ∧ Aside0 (kq ≤ k) ∧ Aside0 (Kd.R (Kd.int .i64) 3 w' w.heap.size (fun _ => True) v3 x3_1) ∧ Aside0 (w'.heap[gb118]? = some (.cells #[(.slice A0_0 l0_0.length c0_0),(.slice A0_1 l0_1.length c0_1)] 46 (0,0))) ∧ Aside0 (Below w.heap.size w w'))
 case atStart => exact ⟨(y119),(0),za,H',⟨Nat.le_refl _⟩,⟨zq HO121⟩,⟨zx BK118⟩,⟨zz HB⟩⟩
 case round =>
  clear H';(try clear c1);(try clear p2);obtain ⟨x3_1,x4_1,rfl,HA,HK1,HO_3,BK118,HB⟩:=hrel
  cases gk with
  | zero => exact absurd HA.out (by simp [spec_l4BodyVars.l0])
  | succ k1 =>
   have H:=HA.out;clear HA;simp only [spec_l4BodyVars.l0] at H
   by_cases c5 : x4_1 < (l0_1.length : Int)
   ·
    rw [if_pos c5] at H;have c5b0:=decide_eq_true c5;clear c5
    have H':=zA H
    clear H;have hcz6_0:=zc (.slice A0_0 l0_0.length c0_0) BK118 0 rfl;have hcz6_1:=zc (.slice A0_1 l0_1.length c0_1) BK118 1 rfl;have hfz6_0:=blk_frozen BK118.out 0;have hfz6_1:=blk_frozen BK118.out 1
    go_wp2
    go_loopg [3,5] k1 (fun kq v3 v5 w' => ∃ (x3_2 : List Int) (x5_2 : Int),v5 = .int .i64 x5_2 ∧ Aside0 (spec_l4BodyVars.l1 kq x3_2 x4_1 x5_2 l0_0 l0_1 = some r) ∧ Aside0 (kq ≤ k1) ∧ Aside0 (Kd.R (Kd.int .i64) 3 w' w.heap.size (fun _ => True) v3 x3_2) ∧ Aside0 (w'.heap[gb118]? = some (.cells #[(.slice A0_0 l0_0.length c0_0),(.slice A0_1 l0_1.length c0_1)] 46 (0,0))) ∧ Aside0 (Below w.heap.size w w'))
    case atStart => exact ⟨(x3_1),(0),za,H',⟨Nat.le_refl _⟩,⟨zq HO_3⟩,⟨zx BK118⟩,⟨zz HB⟩⟩
    case round =>
     clear H';(try clear c1);(try clear p2);(try clear c5);(try clear c5b0);(try clear hcz6_0);(try clear hcz6_1);(try clear hfz6_0);(try clear hfz6_1);(try clear p2);obtain ⟨x3_2,x5_2,rfl,HA,HK2,HO_3,BK118,HB⟩:=hrel
     cases gk with
     | zero => exact absurd HA.out (by simp [spec_l4BodyVars.l1])
     | succ k2 =>
      have H:=HA.out;clear HA;simp only [spec_l4BodyVars.l1] at H
      by_cases c7 : 0 ≤ x4_1
      ·
       rw [if_pos c7] at H;have c7b0:=decide_eq_true c7;clear c7
       by_cases c8 : x4_1 < (l0_1.length : Int)
       ·
        rw [if_pos c8] at H;have c8b0:=decide_eq_true c8;clear c8
        by_cases c9 : x5_2 < (((rd_T97 l0_1 x4_1).f1).length : Int)
        ·
         rw [if_pos c9] at H;have c9b0:=decide_eq_true c9;clear c9
         by_cases c10 : 0 ≤ x5_2
         ·
          rw [if_pos c10] at H;have c10b0:=decide_eq_true c10;clear c10
          by_cases c11 : (rd ((rd_T97 l0_1 x4_1).f1) x5_2) ≥ 0
          ·
           rw [if_pos c11] at H
           have c11b0 : decide (0 ≤ (rd ((rd_T97 l0_1 x4_1).f1) x5_2)) = true:=decide_eq_true c11
           clear c11;obtain ⟨t125,A120,H⟩:=zYb.mp H;(try dsimp only at H);have A12:=zA A120;clear A120
           by_cases c13 : t125 = true
           ·
            subst c13
            rw [if_pos rfl] at H
            have H':=zA H
            clear H;have hcz14_0:=zc (.slice A0_0 l0_0.length c0_0) BK118 0 rfl;have hcz14_1:=zc (.slice A0_1 l0_1.length c0_1) BK118 1 rfl;have hfz14_0:=blk_frozen BK118.out 0;have hfz14_1:=blk_frozen BK118.out 1;have p122 : 0 ≤ (x4_1 : Int):=zXb ze;have q122 : x4_1 < (l0_1.length : Int):=zXb ze;obtain ⟨ad122,A122_1,c122_1,e122,hx122_0,hx122_1,hl122_1,hi122_1⟩:=at_T97 HR0_1.out x4_1 p122 q122
            cases e122
            replace hx122_0:=zhx HB hx122_0;replace hx122_1:=zhx HB hx122_1;have HR122_1:=zA hi122_1;have HC122_1:=zA hl122_1;clear hi122_1 hl122_1;replace p122:=eq_true p122;replace q122:=eq_true q122;have p123 : 0 ≤ (x4_1 : Int):=zXb ze;have q123 : x4_1 < (l0_1.length : Int):=zXb ze;obtain ⟨ad123,A123_1,c123_1,e123,hx123_0,hx123_1,hl123_1,hi123_1⟩:=at_T97 HR0_1.out x4_1 p123 q123
            obtain rfl : ad122 = ad123:=(by injection e123)
            replace hx123_0:=zhx HB hx123_0;replace hx123_1:=zhx HB hx123_1;have HR123_1:=zA hi123_1;have HC123_1:=zA hl123_1;clear hi123_1 hl123_1;replace p123:=eq_true p123;replace q123:=eq_true q123;have ea_:=Option.some.inj (hx122_1.symm.trans hx123_1)
            injection ea_ with ea_ en_ ec_
            subst ea_
            subst ec_
            clear en_;have p124 : 0 ≤ (x5_2 : Int):=zXb ze;have q124 : x5_2 < (((rd_T97 l0_1 x4_1).f1).length : Int):=zXb ze;obtain ⟨ad124,e124,hx124_0⟩:=Kd.at_int HR123_1.out x5_2 p124 q124
            cases e124
            replace hx124_0:=zhx HB hx124_0;replace p124:=eq_true p124;replace q124:=eq_true q124;obtain ⟨Ao15,co15,eo15⟩:=Kd.R_slice HO_3.out
            subst eo15
            go_wp2_with (first|(go_at_call 151;(with_reducible refine (spec_l2Has.calls k2 _ _ x3_2 (rd ((rd_T97 l0_1 x4_1).f1) x5_2) true _ ?side1 ?side2 A12.out).mono ?_);(case side1 => repeat (first|exact (Kd.R_reads' HO_3.out).2.2|(with_reducible refine zBb ?_ _)|(with_reducible refine zAb ?_ _)|(with_reducible refine zX ?_)));(case side2 => exact (Kd.R_reads' HO_3.out).2.1);rintro e w' ⟨rfl,⟨nd,rfl⟩⟩))
            go_roundg k2
            case measure => have:=HK1.out;have:=HK2.out;omega
            case rel => exact ⟨(x3_2),(wrap64 (x5_2 + 1)),za,H',⟨by have:=HK1.out;have:=HK2.out;omega⟩,⟨zq HO_3⟩,⟨zx BK118⟩,⟨zz HB⟩⟩
           ·
            replace c13:=Bool.eq_false_iff.mpr c13
            subst c13
            have H1 : (if x3_2.length < 17592186044416 then (spec_l4BodyVars.l1 k2 (x3_2 ++ [rd ((rd_T97 l0_1 x4_1).f1) x5_2]) x4_1 (wrap64 (x5_2 + 1)) l0_0 l0_1) else (none)) = some r:=by rw [if_neg (show ¬ (false = true) by decide)] at H;exact H
            clear H;have H:=H1;clear H1
            by_cases c16 : x3_2.length < 17592186044416
            ·
             rw [if_pos c16] at H;have LMc16:=zA c16;clear c16;obtain ⟨y126,hy126⟩ : ∃ y_ : List Int,y_ = (x3_2 ++ [rd ((rd_T97 l0_1 x4_1).f1) x5_2]):=⟨_,rfl⟩
             replace H : (spec_l4BodyVars.l1 k2 y126 x4_1 (wrap64 (x5_2 + 1)) l0_0 l0_1) = some r:=by first|(rw [hy126];with_reducible exact H)|(have H2_:=(Option.bind_some _ _).symm.trans H;rw [hy126];with_reducible exact H2_)|(have H2_:=(Option.bind_some _ _).symm.trans H;with_reducible exact H2_)|with_reducible exact H|(rw [hy126];exact H)|exact H
             have Ny126:=zA hy126;clear hy126
             have H':=zA H
             clear H;have hcz17_0:=zc (.slice A0_0 l0_0.length c0_0) BK118 0 rfl;have hcz17_1:=zc (.slice A0_1 l0_1.length c0_1) BK118 1 rfl;have hfz17_0:=blk_frozen BK118.out 0;have hfz17_1:=blk_frozen BK118.out 1;have p122 : 0 ≤ (x4_1 : Int):=zXb ze;have q122 : x4_1 < (l0_1.length : Int):=zXb ze;obtain ⟨ad122,A122_1,c122_1,e122,hx122_0,hx122_1,hl122_1,hi122_1⟩:=at_T97 HR0_1.out x4_1 p122 q122
             cases e122
             replace hx122_0:=zhx HB hx122_0;replace hx122_1:=zhx HB hx122_1;have HR122_1:=zA hi122_1;have HC122_1:=zA hl122_1;clear hi122_1 hl122_1;replace p122:=eq_true p122;replace q122:=eq_true q122;have p123 : 0 ≤ (x4_1 : Int):=zXb ze;have q123 : x4_1 < (l0_1.length : Int):=zXb ze;obtain ⟨ad123,A123_1,c123_1,e123,hx123_0,hx123_1,hl123_1,hi123_1⟩:=at_T97 HR0_1.out x4_1 p123 q123
             obtain rfl : ad122 = ad123:=(by injection e123)
             replace hx123_0:=zhx HB hx123_0;replace hx123_1:=zhx HB hx123_1;have HR123_1:=zA hi123_1;have HC123_1:=zA hl123_1;clear hi123_1 hl123_1;replace p123:=eq_true p123;replace q123:=eq_true q123;have ea_:=Option.some.inj (hx122_1.symm.trans hx123_1)
             injection ea_ with ea_ en_ ec_
             subst ea_
             subst ec_
             clear en_;have p124 : 0 ≤ (x5_2 : Int):=zXb ze;have q124 : x5_2 < (((rd_T97 l0_1 x4_1).f1).length : Int):=zXb ze;obtain ⟨ad124,e124,hx124_0⟩:=Kd.at_int HR123_1.out x5_2 p124 q124
             cases e124
             replace hx124_0:=zhx HB hx124_0;replace p124:=eq_true p124;replace q124:=eq_true q124;obtain ⟨Ao18,co18,eo18⟩:=Kd.R_slice HO_3.out
             subst eo18
             go_wp2_with (first|(go_at_call 151;(with_reducible refine (spec_l2Has.calls k2 _ _ x3_2 (rd ((rd_T97 l0_1 x4_1).f1) x5_2) false _ ?side1 ?side2 A12.out).mono ?_);(case side1 => repeat (first|exact (Kd.R_reads' HO_3.out).2.2|(with_reducible refine zBb ?_ _)|(with_reducible refine zAb ?_ _)|(with_reducible refine zX ?_)));(case side2 => exact (Kd.R_reads' HO_3.out).2.1);rintro e w' ⟨rfl,⟨nd,rfl⟩⟩)|((with_reducible refine gate_builtin (b:=.append) (xs:=#[.tmp 43,.tmp 45]) rfl ?_);at_builtin;refine Kd.R_append (Kd.int .i64) (w0:=w) w.heap.size rfl (.tmp 43) (.tmp 45) 38 3 (.int .i64 0) 8 rfl Try.underlying38 info3 rfl (by decide) (by omega) (.slice Ao18 x3_2.length co18) x3_2 (rd ((rd_T97 l0_1 x4_1).f1) x5_2) [.int .i64 (rd ((rd_T97 l0_1 x4_1).f1) x5_2)] (fun _ => True) (fun _ => False) rfl rfl ?aP (fun _ hk => hk.elim) ?aF ?aO ?aB ?aS ?aL ?_;(case aP => exact rfl);(case aB => exact (zz HB));(case aF => exact (fun _ _ => trivial));(case aO => exact (zq HO_3));(case aS => exact (zT (zz HB)));(case aL => have:=LMc16.out;omega);intro v127 w19 ho hb hg hat;rw [← Ny126.out] at ho;replace BK118:=zA (blk_grown (g:=gb118) (o:=.cells #[.slice A0_0 l0_0.length c0_0,.slice (some ad122) l0_1.length c0_1] 46 (0,0)) (zx BK118) hg (Kd.R_ne HO_3.out BK118.out (by decide)));replace HB:=zA (hb);have HO128:=zA (ho);clear HO_3;clear ho hb hg hat))
             go_roundg k2
             case measure => have:=HK1.out;have:=HK2.out;omega
             case rel => exact ⟨(y126),(wrap64 (x5_2 + 1)),za,H',⟨by have:=HK1.out;have:=HK2.out;omega⟩,⟨zq HO128⟩,⟨zx BK118⟩,⟨zz HB⟩⟩
            ·
             rw [if_neg c16] at H
             exact absurd H (by simp)
          ·
           rw [if_neg c11] at H
           have c11b0 : decide (0 ≤ (rd ((rd_T97 l0_1 x4_1).f1) x5_2)) = false:=decide_eq_false c11
           clear c11
           have H':=zA H
           clear H;have hcz20_0:=zc (.slice A0_0 l0_0.length c0_0) BK118 0 rfl;have hcz20_1:=zc (.slice A0_1 l0_1.length c0_1) BK118 1 rfl;have hfz20_0:=blk_frozen BK118.out 0;have hfz20_1:=blk_frozen BK118.out 1;have p122 : 0 ≤ (x4_1 : Int):=zXb ze;have q122 : x4_1 < (l0_1.length : Int):=zXb ze;obtain ⟨ad122,A122_1,c122_1,e122,hx122_0,hx122_1,hl122_1,hi122_1⟩:=at_T97 HR0_1.out x4_1 p122 q122
           cases e122
           replace hx122_0:=zhx HB hx122_0;replace hx122_1:=zhx HB hx122_1;have HR122_1:=zA hi122_1;have HC122_1:=zA hl122_1;clear hi122_1 hl122_1;replace p122:=eq_true p122;replace q122:=eq_true q122;have p123 : 0 ≤ (x4_1 : Int):=zXb ze;have q123 : x4_1 < (l0_1.length : Int):=zXb ze;obtain ⟨ad123,A123_1,c123_1,e123,hx123_0,hx123_1,hl123_1,hi123_1⟩:=at_T97 HR0_1.out x4_1 p123 q123
           obtain rfl : ad122 = ad123:=(by injection e123)
           replace hx123_0:=zhx HB hx123_0;replace hx123_1:=zhx HB hx123_1;have HR123_1:=zA hi123_1;have HC123_1:=zA hl123_1;clear hi123_1 hl123_1;replace p123:=eq_true p123;replace q123:=eq_true q123;have ea_:=Option.some.inj (hx122_1.symm.trans hx123_1)
           injection ea_ with ea_ en_ ec_
           subst ea_
           subst ec_
           clear en_;have p124 : 0 ≤ (x5_2 : Int):=zXb ze;have q124 : x5_2 < (((rd_T97 l0_1 x4_1).f1).length : Int):=zXb ze;obtain ⟨ad124,e124,hx124_0⟩:=Kd.at_int HR123_1.out x5_2 p124 q124
           cases e124
           replace hx124_0:=zhx HB hx124_0;replace p124:=eq_true p124;replace q124:=eq_true q124
           go_wp2
           go_roundg k2
           case measure => have:=HK1.out;have:=HK2.out;omega
           case rel => exact ⟨(x3_2),(wrap64 (x5_2 + 1)),za,H',⟨by have:=HK1.out;have:=HK2.out;omega⟩,⟨zq HO_3⟩,⟨zx BK118⟩,⟨zz HB⟩⟩
         ·
          rw [if_neg c10] at H
          exact absurd H (by simp)
        ·
         rw [if_neg c9] at H;have c9b0:=decide_eq_false c9;clear c9
         have H':=zA H
         clear H;have hcz21_0:=zc (.slice A0_0 l0_0.length c0_0) BK118 0 rfl;have hcz21_1:=zc (.slice A0_1 l0_1.length c0_1) BK118 1 rfl;have hfz21_0:=blk_frozen BK118.out 0;have hfz21_1:=blk_frozen BK118.out 1;have p122 : 0 ≤ (x4_1 : Int):=zXb ze;have q122 : x4_1 < (l0_1.length : Int):=zXb ze;obtain ⟨ad122,A122_1,c122_1,e122,hx122_0,hx122_1,hl122_1,hi122_1⟩:=at_T97 HR0_1.out x4_1 p122 q122
         cases e122
         replace hx122_0:=zhx HB hx122_0;replace hx122_1:=zhx HB hx122_1;have HR122_1:=zA hi122_1;have HC122_1:=zA hl122_1;clear hi122_1 hl122_1;replace p122:=eq_true p122;replace q122:=eq_true q122
         go_wp2
         go_roundg k2
         case measure => have:=HK1.out;have:=HK2.out;omega
         case rel => exact ⟨(x3_2),(wrap64 (x4_1 + 1)),za,H',⟨by have:=HK1.out;have:=HK2.out;omega⟩,⟨zq HO_3⟩,⟨zx BK118⟩,⟨zz HB⟩⟩
       ·
        rw [if_neg c8] at H
        exact absurd H (by simp)
      ·
       rw [if_neg c7] at H
       exact absurd H (by simp)
   ·
    rw [if_neg c5] at H;have c5b0:=decide_eq_false c5;clear c5
    obtain rfl:=Option.some.inj H
    have hcz22_0:=zc (.slice A0_0 l0_0.length c0_0) BK118 0 rfl;have hcz22_1:=zc (.slice A0_1 l0_1.length c0_1) BK118 1 rfl;have hfz22_0:=blk_frozen BK118.out 0;have hfz22_1:=blk_frozen BK118.out 1
    go_wp2
    go_ret
    exact ⟨_,zrr,zq HO_3,zz HB⟩

end Go.Proofs.Ytanbgnjfllpkgaa.QFnMappings
