/- Walks through the Go functions that FnMappings reaches: each call returns what the Lean function beside it says, within the bounds that the theorem names. -/
import Derived.Test.YtanbgnjfllpkgaaQFnMappingsx0
import Derived.Test.YtanbgnjfllpkgaaQFnMappingsx1
import Derived.Test.YtanbgnjfllpkgaaQFnMappingsx2
import Derived.Test.YtanbgnjfllpkgaaQFnMappingsx3
namespace Go.Proofs.Ytanbgnjfllpkgaa.QFnMappings
open Go.RowKit Go.Proofs.YtanbgnjfllpkgaaW.PrintWords Go.Proofs.YtanbgnjfllpkgaaW.PrintLast Go.Proofs.YtanbgnjfllpkgaaW.PrintMore
attribute [local go_sem] max2_int min2_int max_two min_two max_three min_three max_four min_four   -- for this text's walks alone
set_option linter.unusedVariables false
set_option linter.unusedSimpArgs false


/-! ### spec_l4Fine: function 126 -/
mutual
def spec_l4Fine.j0 : Nat → Bool → List Int → List Int → List (S97) → Option (Bool)
 | 0, _, _, _, _ => none
 | k + 1, x25, x130000, x131000, x131001 => if x25 = true then (some false) else (spec_l4Fine.l0 k 0 x130000 x131000 x131001)
def spec_l4Fine.l0 : Nat → Int → List Int → List Int → List (S97) → Option (Bool)
 | 0, _, _, _, _ => none
 | k + 1, x7, x130000, x131000, x131001 => if x7 < (x131001.length : Int) then (if 0 ≤ x7 then ((spec_IsAtom.f k x130000 ((rd_T97 x131001 x7).f0) ((rd_T97 x131001 x7).f1)).bind fun t135 => (if t135 = true then (spec_l4Fine.l0 k (wrap64 (x7 + 1)) x130000 x131000 x131001) else (some false))) else (none)) else (spec_l4Fine.l1 k 0 x131000 x131001)
def spec_l4Fine.l1 : Nat → Int → List Int → List (S97) → Option (Bool)
 | 0, _, _, _ => none
 | k + 1, x8, x131000, x131001 => if x8 < (x131000.length : Int) then (if 0 ≤ x8 then ((spec_IsVar.f (rd x131000 x8)).bind fun t137 => (if t137 = true then ((spec_l4BodyVars.f k x131000 x131001).bind fun t138 => ((spec_l2Has.f k t138 (rd x131000 x8)).bind fun t142 => (if t142 = true then (spec_l4Fine.l1 k (wrap64 (x8 + 1)) x131000 x131001) else (some false)))) else (spec_l4Fine.l1 k (wrap64 (x8 + 1)) x131000 x131001))) else (none)) else (some true)
end
def spec_l4Fine.f (k : Nat) (l0_0 : List Int) (l1_0 : List Int) (l1_1 : List (S97)) (a2 : Int) : Option (Bool) := (spec_IsSchema.f k l0_0).bind fun t131 => (if t131 = true then ((spec_l3Terms.f k l1_0).bind fun t132 => (if t132 = true then ((spec_l1In.f (l1_1.length : Int) 1 a2).bind fun t133 => (spec_l4Fine.j0 k (!t133) l0_0 l1_0 l1_1)) else (spec_l4Fine.j0 k true l0_0 l1_0 l1_1))) else (spec_l4Fine.j0 k true l0_0 l1_0 l1_1))
def spec_l4Fine.T6 : Bool × List (List Nat × List Nat) := (true, [([], []), ([], []), ([1], [1]), ([], []), ([2, 3], [2, 3]), ([4], [4]), ([0, 5], [0, 5]), ([6], [6])])
def spec_l4Fine.B6 : List Nat := [0, 0, 2, 0, 14, 30, 63, 127]
theorem spec_l4Fine.tab6 : rtab .any (opsOf Try.f126 6) = spec_l4Fine.T6 := by kernel_rfl
theorem spec_l4Fine.bits6 : waitsOk spec_l4Fine.T6.2 spec_l4Fine.B6 = true := by kernel_rfl
def spec_l4Fine.T11 : Bool × List (List Nat × List Nat) := (true, [([], []), ([0], [0]), ([], []), ([1, 2], [1, 2]), ([3], [3]), ([4], [4]), ([5, 5], [5]), ([6], [6]), ([7, 6, 6], [6, 7]), ([6], [6]), ([9, 6], [6, 9]), ([6], [6]), ([10, 11, 6], [6, 10, 11]), ([12, 6], [6, 12]), ([8, 13, 8, 6], [6, 8, 13]), ([14, 6], [6, 14]), ([6, 15], [6, 15])])
def spec_l4Fine.B11 : List Nat := [0, 1, 0, 7, 15, 31, 63, 127, 255, 127, 639, 127, 3711, 7807, 16383, 32767, 65535]
theorem spec_l4Fine.tab11 : rtab .any (opsOf Try.f126 11) = spec_l4Fine.T11 := by kernel_rfl
theorem spec_l4Fine.bits11 : waitsOk spec_l4Fine.T11.2 spec_l4Fine.B11 = true := by kernel_rfl
set_option maxHeartbeats 8000000 in
set_option maxRecDepth 100000 in
theorem spec_l4Fine.calls (k : Nat) (A0_0 : Option Addr) (c0_0 : Nat) (l0_0 : List Int) (A1_0 : Option Addr) (c1_0 : Nat) (l1_0 : List Int) (A1_1 : Option Addr) (c1_1 : Nat) (l1_1 : List (S97)) (a2 : Int) (r : Bool) (w : World) (hr0_0 : Kd.C (Kd.int .i64) w A0_0 l0_0.length l0_0) (hc0_0 : l0_0.length ≤ c0_0) (hr1_0 : Kd.C (Kd.int .i64) w A1_0 l1_0.length l1_0) (hc1_0 : l1_0.length ≤ c1_0) (hr1_1 : Kd.C k97 w A1_1 l1_1.length l1_1) (hc1_1 : l1_1.length ≤ c1_1) (h : spec_l4Fine.f k l0_0 l1_0 l1_1 a2 = some r) :
  Calls Try.prog 126 #[.agg #[.slice A0_0 l0_0.length c0_0], .agg #[.slice A1_0 l1_0.length c1_0, .slice A1_1 l1_1.length c1_1], .int .i64 a2] w fun e w' => e = .returned (.bool r) ∧ Below w.heap.size w w' := by
 have hu65:=Try.underlying65;have hu46:=Try.underlying46;have hu97:=Try.underlying97;have HR0_0:=zA hr0_0;have HC0_0:=zA hc0_0;clear hr0_0 hc0_0;have HR1_0:=zA hr1_0;have HC1_0:=zA hc1_0;clear hr1_0 hc1_0;have HR1_1:=zA hr1_1;have HC1_1:=zA hc1_1;clear hr1_1 hc1_1;have HB:=zA (Below.refl w.heap.size w)
 have H : ((spec_IsSchema.f k l0_0).bind fun t131 => (if t131 = true then ((spec_l3Terms.f k l1_0).bind fun t132 => (if t132 = true then ((spec_l1In.f (l1_1.length : Int) 1 a2).bind fun t133 => (spec_l4Fine.j0 k (!t133) l0_0 l1_0 l1_1)) else (spec_l4Fine.j0 k true l0_0 l1_0 l1_1))) else (spec_l4Fine.j0 k true l0_0 l1_0 l1_1))) = some r:=h
 clear h;have HC4:=zA H;clear H
 go_enter Try.func126,Try.ntmps126
 go_upto_region 1 with (first|((with_reducible refine gate_dst (N:=3) rfl ?_);(try (refine gate_guard (by rfl) ?_;dsimp only));refine zbx 3 #[.slice A0_0 l0_0.length c0_0] 65 ?_;intro gb129 hg w5 hbox hb;have BK129:=zA (hbox);have GW129:=zgw hg HB;have GE129:=zgw hg HB;replace HB:=zA (zJb (zz HB) hb);clear hb hbox hg)|((with_reducible refine gate_dst (N:=4) rfl ?_);(try (refine gate_guard (by rfl) ?_;dsimp only));refine zbx 4 #[.slice A1_0 l1_0.length c1_0,.slice A1_1 l1_1.length c1_1] 46 ?_;intro gb130 hg w6 hbox hb;have BK130:=zA (hbox);have GW130:=zgw hg HB;have GE130:=zgw hg HB;replace HB:=zA (zJb (zz HB) hb);have NB129_130:=znb hg BK129;have NB130_129:=znc hg BK129;replace BK129:=zbk BK129 hb;clear hb hbox hg))
 (try simp only [Act.put,zO,zEb,zFb])
 go_cut [25] (fun v25 wc => ∃ (kq : Nat) (x25_3 : Bool),v25 = .bool x25_3 ∧ Aside0 (spec_l4Fine.j0 kq x25_3 l0_0 l1_0 l1_1 = some r) ∧ Aside0 (kq ≤ k) ∧ Aside0 (wc.heap[gb129]? = some (.cells #[(.slice A0_0 l0_0.length c0_0)] 65 (0,0))) ∧ Aside0 (wc.heap[gb130]? = some (.cells #[(.slice A1_0 l1_0.length c1_0),(.slice A1_1 l1_1.length c1_1)] 46 (0,0))) ∧ Aside0 (Below w.heap.size w wc))
 case first =>
  have H:=HC4.out;clear HC4;obtain ⟨t131,A70,H⟩:=zYb.mp H;(try dsimp only at H);have A7:=zA A70;clear A70
  by_cases c8 : t131 = true
  ·
   subst c8
   rw [if_pos rfl] at H;obtain ⟨t132,A90,H⟩:=zYb.mp H;(try dsimp only at H);have A9:=zA A90;clear A90
   by_cases c10 : t132 = true
   ·
    subst c10
    rw [if_pos rfl] at H;obtain ⟨t133,A110,H⟩:=zYb.mp H;(try dsimp only at H);have A11:=zA A110;clear A110
    have H':=zA H
    clear H;have hnb12:=NB129_130.out;have hnc12:=NB130_129.out;have hcz13_0:=zc (.slice A0_0 l0_0.length c0_0) BK129 0 rfl;have hfz13_0:=blk_frozen BK129.out 0
    go_wp2_with (first|((with_reducible refine gate_callee (f:=148) rfl ?_);refine zgo (some 10) Try.func148 #[.agg #[.slice A0_0 l0_0.length c0_0]] ?_;(with_reducible refine (spec_IsSchema.calls k _ _ l0_0 true _ ?side1 ?side2 A7.out).mono ?_);(case side1 => exact zsd HR0_0 HB);(case side2 => exact HC0_0.out);rintro e w14 ⟨rfl,hb⟩;refine ⟨_,rfl,?_⟩;replace BK129:=zbk BK129 hb;replace BK130:=zbk BK130 hb;replace HB:=zA (zJb (zz HB) hb);(try clear hb);(try clear hb2);(try clear hk);(try clear hi);have hcz15_0:=zc (.slice A1_0 l1_0.length c1_0) BK130 0 rfl;have hcz15_1:=zc (.slice A1_1 l1_1.length c1_1) BK130 1 rfl;have hfz15_0:=blk_frozen BK130.out 0;have hfz15_1:=blk_frozen BK130.out 1)|(go_at_call 149;(with_reducible refine (spec_l3Terms.calls k _ _ l1_0 true _ ?side1 ?side2 A9.out).mono ?_);(case side1 => exact zsd HR1_0 HB);(case side2 => exact HC1_0.out);rintro e w' ⟨rfl,⟨nd,rfl⟩⟩)|(go_at_call 80;(with_reducible refine (spec_l1In.calls (l1_1.length : Int) 1 a2 t133 _ A11.out).mono ?_);rintro e w' ⟨rfl,⟨nd,rfl⟩⟩))
    go_meet
    case rel => exact ⟨_,(!t133),za,H',⟨by first|omega|exact Nat.le_refl _⟩,⟨zx BK129⟩,⟨zx BK130⟩,⟨zz HB⟩⟩
   ·
    replace c10:=Bool.eq_false_iff.mpr c10
    subst c10
    have H1 : (spec_l4Fine.j0 k true l0_0 l1_0 l1_1) = some r:=by rw [if_neg (show ¬ (false = true) by decide)] at H;exact H
    clear H;have H:=H1;clear H1
    have H':=zA H
    clear H;have hnb16:=NB129_130.out;have hnc16:=NB130_129.out;have hcz17_0:=zc (.slice A0_0 l0_0.length c0_0) BK129 0 rfl;have hfz17_0:=blk_frozen BK129.out 0
    go_wp2_with (first|((with_reducible refine gate_callee (f:=148) rfl ?_);refine zgo (some 10) Try.func148 #[.agg #[.slice A0_0 l0_0.length c0_0]] ?_;(with_reducible refine (spec_IsSchema.calls k _ _ l0_0 true _ ?side1 ?side2 A7.out).mono ?_);(case side1 => exact zsd HR0_0 HB);(case side2 => exact HC0_0.out);rintro e w18 ⟨rfl,hb⟩;refine ⟨_,rfl,?_⟩;replace BK129:=zbk BK129 hb;replace BK130:=zbk BK130 hb;replace HB:=zA (zJb (zz HB) hb);(try clear hb);(try clear hb2);(try clear hk);(try clear hi);have hcz19_0:=zc (.slice A1_0 l1_0.length c1_0) BK130 0 rfl;have hcz19_1:=zc (.slice A1_1 l1_1.length c1_1) BK130 1 rfl;have hfz19_0:=blk_frozen BK130.out 0;have hfz19_1:=blk_frozen BK130.out 1)|(go_at_call 149;(with_reducible refine (spec_l3Terms.calls k _ _ l1_0 false _ ?side1 ?side2 A9.out).mono ?_);(case side1 => exact zsd HR1_0 HB);(case side2 => exact HC1_0.out);rintro e w' ⟨rfl,⟨nd,rfl⟩⟩))
    go_meet
    case rel => exact ⟨_,(true),za,H',⟨by first|omega|exact Nat.le_refl _⟩,⟨zx BK129⟩,⟨zx BK130⟩,⟨zz HB⟩⟩
  ·
   replace c8:=Bool.eq_false_iff.mpr c8
   subst c8
   have H1 : (spec_l4Fine.j0 k true l0_0 l1_0 l1_1) = some r:=by rw [if_neg (show ¬ (false = true) by decide)] at H;exact H
   clear H;have H:=H1;clear H1
   have H':=zA H
   clear H;have hnb20:=NB129_130.out;have hnc20:=NB130_129.out;have hcz21_0:=zc (.slice A0_0 l0_0.length c0_0) BK129 0 rfl;have hfz21_0:=blk_frozen BK129.out 0
   go_wp2_with (first|((with_reducible refine gate_callee (f:=148) rfl ?_);refine zgo (some 10) Try.func148 #[.agg #[.slice A0_0 l0_0.length c0_0]] ?_;(with_reducible refine (spec_IsSchema.calls k _ _ l0_0 false _ ?side1 ?side2 A7.out).mono ?_);(case side1 => exact zsd HR0_0 HB);(case side2 => exact HC0_0.out);rintro e w22 ⟨rfl,hb⟩;refine ⟨_,rfl,?_⟩;replace BK129:=zbk BK129 hb;replace BK130:=zbk BK130 hb;replace HB:=zA (zJb (zz HB) hb);(try clear hb);(try clear hb2);(try clear hk);(try clear hi)))
   go_meet
   case rel => exact ⟨_,(true),za,H',⟨by first|omega|exact Nat.le_refl _⟩,⟨zx BK129⟩,⟨zx BK130⟩,⟨zz HB⟩⟩
 case rest =>
  clear HC4;(try clear c1);(try clear c2);(try clear p2);(try clear c8);(try clear c10);(try clear c12);(try clear c14);(try clear c16);(try clear c20);(try clear hcz13_0);(try clear hcz15_0);(try clear hcz15_1);(try clear hcz17_0);(try clear hcz19_0);(try clear hcz19_1);(try clear hcz21_0);(try clear hfz13_0);(try clear hfz15_0);(try clear hfz15_1);(try clear hfz17_0);(try clear hfz19_0);(try clear hfz19_1);(try clear hfz21_0);obtain ⟨kq,x25_3,rfl,HA,HJ3,BK129,BK130,HB⟩:=hcut
  cases kq with
  | zero => exact absurd HA.out (by simp [spec_l4Fine.j0])
  | succ kj3 =>
   have H:=HA.out;clear HA;simp only [spec_l4Fine.j0] at H
   by_cases c23 : x25_3 = true
   ·
    subst c23
    rw [if_pos rfl] at H
    obtain rfl:=Option.some.inj H
    go_wp2
    go_ret
    exact ⟨zrr,zz HB⟩
   ·
    replace c23:=Bool.eq_false_iff.mpr c23
    subst c23
    have H1 : (spec_l4Fine.l0 kj3 0 l0_0 l1_0 l1_1) = some r:=by rw [if_neg (show ¬ (false = true) by decide)] at H;exact H
    clear H;have H:=H1;clear H1
    have H':=zA H
    clear H
    go_wp2
    go_loopg [7] kj3 (fun kq v7 w' => ∃ (x7_2 : Int),v7 = .int .i64 x7_2 ∧ Aside0 (spec_l4Fine.l0 kq x7_2 l0_0 l1_0 l1_1 = some r) ∧ Aside0 (kq ≤ kj3) ∧ Aside0 (w'.heap[gb129]? = some (.cells #[(.slice A0_0 l0_0.length c0_0)] 65 (0,0))) ∧ Aside0 (w'.heap[gb130]? = some (.cells #[(.slice A1_0 l1_0.length c1_0),(.slice A1_1 l1_1.length c1_1)] 46 (0,0))) ∧ Aside0 (Below w.heap.size w w'))
    case atStart => exact ⟨(0),za,H',⟨Nat.le_refl _⟩,⟨zx BK129⟩,⟨zx BK130⟩,⟨zz HB⟩⟩
    case round =>
     clear H';(try clear c1);(try clear c2);(try clear p2);(try clear c8);(try clear c10);(try clear c12);(try clear c14);(try clear c16);(try clear c20);(try clear c23);(try clear hcz13_0);(try clear hcz15_0);(try clear hcz15_1);(try clear hcz17_0);(try clear hcz19_0);(try clear hcz19_1);(try clear hcz21_0);(try clear hfz13_0);(try clear hfz15_0);(try clear hfz15_1);(try clear hfz17_0);(try clear hfz19_0);(try clear hfz19_1);(try clear hfz21_0);(try clear p2);obtain ⟨x7_2,rfl,HA,HK2,BK129,BK130,HB⟩:=hrel
     cases gk with
     | zero => exact absurd HA.out (by simp [spec_l4Fine.l0])
     | succ k2 =>
      have H:=HA.out;clear HA;simp only [spec_l4Fine.l0] at H
      by_cases c24 : x7_2 < (l1_1.length : Int)
      ·
       rw [if_pos c24] at H;have c24b0:=decide_eq_true c24;clear c24
       by_cases c25 : 0 ≤ x7_2
       ·
        rw [if_pos c25] at H;have c25b0:=decide_eq_true c25;clear c25;obtain ⟨t135,A260,H⟩:=zYb.mp H;(try dsimp only at H);have A26:=zA A260;clear A260
        by_cases c27 : t135 = true
        ·
         subst c27
         rw [if_pos rfl] at H
         have H':=zA H
         clear H;have hnb28:=NB130_129.out;have hnc28:=NB129_130.out;have hcz29_0:=zc (.slice A1_0 l1_0.length c1_0) BK130 0 rfl;have hcz29_1:=zc (.slice A1_1 l1_1.length c1_1) BK130 1 rfl;have hfz29_0:=blk_frozen BK130.out 0;have hfz29_1:=blk_frozen BK130.out 1
         try go_wp2
         have n0_:=zA (zI BK129.out);have n1_:=zA (zI BK130.out);have n2_:=zA (zJ HB.out);clear BK129;clear BK130;clear HB;have BK129:=n0_;have BK130:=n1_;have HB:=n2_;clear n0_ n1_ n2_;have p134 : 0 ≤ (x7_2 : Int):=zXb ze;have q134 : x7_2 < (l1_1.length : Int):=zXb ze;obtain ⟨ad134,A134_1,c134_1,e134,hx134_0,hx134_1,hl134_1,hi134_1⟩:=at_T97 HR1_1.out x7_2 p134 q134;have hw134_1:=hx134_1;have hw134_0:=hx134_0
         cases e134
         replace hx134_0:=zhx HB hx134_0;replace hx134_1:=zhx HB hx134_1;have HR134_1:=zA hi134_1;have HC134_1:=zA hl134_1;clear hi134_1 hl134_1;replace p134:=eq_true p134;replace q134:=eq_true q134
         refine start_ (n:=8) (S:=fun w' => w'.cell? ⟨gb129,0,none⟩ = some (.slice A0_0 l0_0.length c0_0) ∧ w'.cell? ⟨gb130,0,none⟩ = some (.slice A1_0 l1_0.length c1_0) ∧ w'.cell? ⟨gb130,1,none⟩ = some (.slice (some ad134) l1_1.length c1_1) ∧ w'.cell? (ad134.add ((x7_2).toNat * 2)) = some (.int .i64 ((rd_T97 l1_1 x7_2).f0)) ∧ w'.cell? ⟨(ad134.add ((x7_2).toNat * 2)).block,(ad134.add ((x7_2).toNat * 2)).off + 1,none⟩ = some (.slice A134_1 ((rd_T97 l1_1 x7_2).f1).length c134_1)) (ds:=[]) #[false,false,false,false,false,false,false,false] (by kernel_rfl) rfl rfl ⟨(zP BK129.out 0).trans rfl,(zP BK130.out 0).trans rfl,(zP BK130.out 1).trans rfl,((HB.out.cell (World.block_lt_of_cell? w _ hw134_0)).trans hw134_0),((HB.out.cell (World.block_lt_of_cell? w _ hw134_1)).trans hw134_1)⟩ (fun hHeld => ?_);refine with_tabW spec_l4Fine.tab6 spec_l4Fine.bits6 (fun HT_ HW_ => ?_)
         generalize wr.drew = w30 at BK129 BK130 HB HR134_1 hx134_0 hx134_1 hHeld ⊢
         refine zut 1 34 HT_ ?_;refine zut 3 36 HT_ ?_;refine zwt 0 33 HT_ HW_ hHeld ?_;refine zwt 2 35 HT_ HW_ hHeld ?_;refine zut 4 37 HT_ ?_;refine zwt 5 38 HT_ HW_ hHeld ?_
         refine one_ (i:=6) (N:=some 39) #[true,true,true,true,true,true,true,false] rfl rfl (one_of HT_.out (by kernel_rfl)) (by decide) (fun K hK => ?_)
         refine goes_ Try.func150 (by kernel_rfl) rfl #[.agg #[.slice A0_0 l0_0.length c0_0],.agg #[.int .i64 ((rd_T97 l1_1 x7_2).f0),.slice A134_1 ((rd_T97 l1_1 x7_2).f1).length c134_1]] (by rfl) rfl rfl (by (try simp only [zCb,zMb,zNb]);first|done|rfl|(simp only [zLb,zDb];rfl)) ?_
         with_reducible refine (spec_IsAtom.calls k2 _ _ l0_0 ((rd_T97 l1_1 x7_2).f0) _ _ ((rd_T97 l1_1 x7_2).f1) true _ ?side1 ?side2 ?side3 ?side4 A26.out).mono ?_
         (case side1 => exact zsd HR0_0 HB)
         (case side2 => exact HC0_0.out)
         (case side3 => exact zsd HR134_1 HB)
         (case side4 => exact HC134_1.out)
         rintro e w31 ⟨rfl,hb⟩
         refine ⟨_,rfl,?_⟩
         have n0_:=zbk BK129 hb;have n1_:=zbk BK130 hb;have n2_:=zA (zJb (zz HB) hb);clear BK129;clear BK130;clear HB;have BK129:=n0_;have BK130:=n1_;have HB:=n2_;clear n0_ n1_ n2_;(try clear hb);(try clear hb2);(try clear hk);(try clear hi)
         refine hK.out _ _ ⟨(zP BK129.out 0).trans rfl,(zP BK130.out 0).trans rfl,(zP BK130.out 1).trans rfl,((HB.out.cell (World.block_lt_of_cell? w _ hw134_0)).trans hw134_0),((HB.out.cell (World.block_lt_of_cell? w _ hw134_1)).trans hw134_1)⟩ (fun hHeld => ?_)
         clear hK K
         refine norm_ (a':=?_) ?_ ?_
         rotate_left
         ·
          show Act.put _ (some 39) _ = _
          simp only [Act.put,zO,zEb,zFb,i64_w,i32_w]
          rfl
         refine zut 7 40 HT_ ?_
         refine done_ (done_of HT_.out (by kernel_rfl)) ?_
         try go_wp2
         go_roundg k2
         case measure => have:=HJ3.out;have:=HK2.out;omega
         case rel => exact ⟨(wrap64 (x7_2 + 1)),za,H',⟨by have:=HJ3.out;have:=HK2.out;omega⟩,⟨zx BK129⟩,⟨zx BK130⟩,⟨zz HB⟩⟩
        ·
         replace c27:=Bool.eq_false_iff.mpr c27
         subst c27
         have H1 : (some false) = some r:=by rw [if_neg (show ¬ (false = true) by decide)] at H;exact H
         clear H;have H:=H1;clear H1
         obtain rfl:=Option.some.inj H
         have hnb32:=NB130_129.out;have hnc32:=NB129_130.out;have hcz33_0:=zc (.slice A1_0 l1_0.length c1_0) BK130 0 rfl;have hcz33_1:=zc (.slice A1_1 l1_1.length c1_1) BK130 1 rfl;have hfz33_0:=blk_frozen BK130.out 0;have hfz33_1:=blk_frozen BK130.out 1
         try go_wp2
         have n0_:=zA (zI BK129.out);have n1_:=zA (zI BK130.out);have n2_:=zA (zJ HB.out);clear BK129;clear BK130;clear HB;have BK129:=n0_;have BK130:=n1_;have HB:=n2_;clear n0_ n1_ n2_;have p134 : 0 ≤ (x7_2 : Int):=zXb ze;have q134 : x7_2 < (l1_1.length : Int):=zXb ze;obtain ⟨ad134,A134_1,c134_1,e134,hx134_0,hx134_1,hl134_1,hi134_1⟩:=at_T97 HR1_1.out x7_2 p134 q134;have hw134_1:=hx134_1;have hw134_0:=hx134_0
         cases e134
         replace hx134_0:=zhx HB hx134_0;replace hx134_1:=zhx HB hx134_1;have HR134_1:=zA hi134_1;have HC134_1:=zA hl134_1;clear hi134_1 hl134_1;replace p134:=eq_true p134;replace q134:=eq_true q134
         refine start_ (n:=8) (S:=fun w' => w'.cell? ⟨gb129,0,none⟩ = some (.slice A0_0 l0_0.length c0_0) ∧ w'.cell? ⟨gb130,0,none⟩ = some (.slice A1_0 l1_0.length c1_0) ∧ w'.cell? ⟨gb130,1,none⟩ = some (.slice (some ad134) l1_1.length c1_1) ∧ w'.cell? (ad134.add ((x7_2).toNat * 2)) = some (.int .i64 ((rd_T97 l1_1 x7_2).f0)) ∧ w'.cell? ⟨(ad134.add ((x7_2).toNat * 2)).block,(ad134.add ((x7_2).toNat * 2)).off + 1,none⟩ = some (.slice A134_1 ((rd_T97 l1_1 x7_2).f1).length c134_1)) (ds:=[]) #[false,false,false,false,false,false,false,false] (by kernel_rfl) rfl rfl ⟨(zP BK129.out 0).trans rfl,(zP BK130.out 0).trans rfl,(zP BK130.out 1).trans rfl,((HB.out.cell (World.block_lt_of_cell? w _ hw134_0)).trans hw134_0),((HB.out.cell (World.block_lt_of_cell? w _ hw134_1)).trans hw134_1)⟩ (fun hHeld => ?_);refine with_tabW spec_l4Fine.tab6 spec_l4Fine.bits6 (fun HT_ HW_ => ?_)
         generalize wr.drew = w34 at BK129 BK130 HB HR134_1 hx134_0 hx134_1 hHeld ⊢
         refine zut 1 34 HT_ ?_;refine zut 3 36 HT_ ?_;refine zwt 0 33 HT_ HW_ hHeld ?_;refine zwt 2 35 HT_ HW_ hHeld ?_;refine zut 4 37 HT_ ?_;refine zwt 5 38 HT_ HW_ hHeld ?_
         refine one_ (i:=6) (N:=some 39) #[true,true,true,true,true,true,true,false] rfl rfl (one_of HT_.out (by kernel_rfl)) (by decide) (fun K hK => ?_)
         refine goes_ Try.func150 (by kernel_rfl) rfl #[.agg #[.slice A0_0 l0_0.length c0_0],.agg #[.int .i64 ((rd_T97 l1_1 x7_2).f0),.slice A134_1 ((rd_T97 l1_1 x7_2).f1).length c134_1]] (by rfl) rfl rfl (by (try simp only [zCb,zMb,zNb]);first|done|rfl|(simp only [zLb,zDb];rfl)) ?_
         with_reducible refine (spec_IsAtom.calls k2 _ _ l0_0 ((rd_T97 l1_1 x7_2).f0) _ _ ((rd_T97 l1_1 x7_2).f1) false _ ?side1 ?side2 ?side3 ?side4 A26.out).mono ?_
         (case side1 => exact zsd HR0_0 HB)
         (case side2 => exact HC0_0.out)
         (case side3 => exact zsd HR134_1 HB)
         (case side4 => exact HC134_1.out)
         rintro e w35 ⟨rfl,hb⟩
         refine ⟨_,rfl,?_⟩
         have n0_:=zbk BK129 hb;have n1_:=zbk BK130 hb;have n2_:=zA (zJb (zz HB) hb);clear BK129;clear BK130;clear HB;have BK129:=n0_;have BK130:=n1_;have HB:=n2_;clear n0_ n1_ n2_;(try clear hb);(try clear hb2);(try clear hk);(try clear hi)
         refine hK.out _ _ ⟨(zP BK129.out 0).trans rfl,(zP BK130.out 0).trans rfl,(zP BK130.out 1).trans rfl,((HB.out.cell (World.block_lt_of_cell? w _ hw134_0)).trans hw134_0),((HB.out.cell (World.block_lt_of_cell? w _ hw134_1)).trans hw134_1)⟩ (fun hHeld => ?_)
         clear hK K
         refine norm_ (a':=?_) ?_ ?_
         rotate_left
         ·
          show Act.put _ (some 39) _ = _
          simp only [Act.put,zO,zEb,zFb,i64_w,i32_w]
          rfl
         refine zut 7 40 HT_ ?_
         refine done_ (done_of HT_.out (by kernel_rfl)) ?_
         try go_wp2
         go_ret
         exact ⟨zrr,zz HB⟩
       ·
        rw [if_neg c25] at H
        exact absurd H (by simp)
      ·
       rw [if_neg c24] at H;have c24b0:=decide_eq_false c24;clear c24
       have H':=zA H
       clear H;have hnb36:=NB130_129.out;have hnc36:=NB129_130.out;have hcz37_0:=zc (.slice A1_0 l1_0.length c1_0) BK130 0 rfl;have hcz37_1:=zc (.slice A1_1 l1_1.length c1_1) BK130 1 rfl;have hfz37_0:=blk_frozen BK130.out 0;have hfz37_1:=blk_frozen BK130.out 1
       go_wp2
       go_loopg [8] k2 (fun kq v8 w' => ∃ (x8_3 : Int),v8 = .int .i64 x8_3 ∧ Aside0 (spec_l4Fine.l1 kq x8_3 l1_0 l1_1 = some r) ∧ Aside0 (kq ≤ k2) ∧ Aside0 (w'.heap[gb129]? = some (.cells #[(.slice A0_0 l0_0.length c0_0)] 65 (0,0))) ∧ Aside0 (w'.heap[gb130]? = some (.cells #[(.slice A1_0 l1_0.length c1_0),(.slice A1_1 l1_1.length c1_1)] 46 (0,0))) ∧ Aside0 (Below w.heap.size w w'))
       case atStart => exact ⟨(0),za,H',⟨Nat.le_refl _⟩,⟨zx BK129⟩,⟨zx BK130⟩,⟨zz HB⟩⟩
       case round =>
        clear H';(try clear c1);(try clear p1);(try clear q1);(try clear hx1);(try clear c2);(try clear p2);(try clear c3);(try clear p6);(try clear c8);(try clear c10);(try clear c12);(try clear c13);(try clear p13);(try clear q13);(try clear hx13);(try clear c14);(try clear c15);(try clear c16);(try clear c20);(try clear c23);(try clear c24);(try clear c24b0);(try clear c25);(try clear c25b0);(try clear c27);(try clear c28);(try clear c32);(try clear c36);(try clear hcz13_0);(try clear hcz15_0);(try clear hcz15_1);(try clear hcz17_0);(try clear hcz19_0);(try clear hcz19_1);(try clear hcz21_0);(try clear hcz29_0);(try clear hcz29_1);(try clear hcz33_0);(try clear hcz33_1);(try clear hcz37_0);(try clear hcz37_1);(try clear hfz13_0);(try clear hfz15_0);(try clear hfz15_1);(try clear hfz17_0);(try clear hfz19_0);(try clear hfz19_1);(try clear hfz21_0);(try clear hfz29_0);(try clear hfz29_1);(try clear hfz33_0);(try clear hfz33_1);(try clear hfz37_0);(try clear hfz37_1);(try clear hx134_0);(try clear hx134_1);(try clear p134);(try clear p2);(try clear q134);obtain ⟨x8_3,rfl,HA,HK3,BK129,BK130,HB⟩:=hrel
        cases gk with
        | zero => exact absurd HA.out (by simp [spec_l4Fine.l1])
        | succ k3 =>
         have H:=HA.out;clear HA;simp only [spec_l4Fine.l1] at H
         by_cases c38 : x8_3 < (l1_0.length : Int)
         ·
          rw [if_pos c38] at H;have c38b0:=decide_eq_true c38;clear c38
          by_cases c39 : 0 ≤ x8_3
          ·
           rw [if_pos c39] at H;have c39b0:=decide_eq_true c39;clear c39;obtain ⟨t137,A400,H⟩:=zYb.mp H;(try dsimp only at H);have A40:=zA A400;clear A400
           by_cases c41 : t137 = true
           ·
            subst c41
            rw [if_pos rfl] at H;obtain ⟨t138,A420,H⟩:=zYb.mp H;(try dsimp only at H);have A42:=zA A420;clear A420;obtain ⟨t142,A430,H⟩:=zYb.mp H;(try dsimp only at H);have A43:=zA A430;clear A430
            by_cases c44 : t142 = true
            ·
             subst c44
             rw [if_pos rfl] at H
             have H':=zA H
             clear H;have hnb45:=NB130_129.out;have hnc45:=NB129_130.out;have hcz46_0:=zc (.slice A1_0 l1_0.length c1_0) BK130 0 rfl;have hcz46_1:=zc (.slice A1_1 l1_1.length c1_1) BK130 1 rfl;have hfz46_0:=blk_frozen BK130.out 0;have hfz46_1:=blk_frozen BK130.out 1
             try go_wp2
             have n0_:=zA (zI BK129.out);have n1_:=zA (zI BK130.out);have n2_:=zA (zJ HB.out);clear BK129;clear BK130;clear HB;have BK129:=n0_;have BK130:=n1_;have HB:=n2_;clear n0_ n1_ n2_;have p136 : 0 ≤ (x8_3 : Int):=zXb ze;have q136 : x8_3 < (l1_0.length : Int):=zXb ze;obtain ⟨ad136,e136,hx136_0⟩:=Kd.at_int HR1_0.out x8_3 p136 q136;have hw136_0:=hx136_0
             cases e136
             replace hx136_0:=zhx HB hx136_0;replace p136:=eq_true p136;replace q136:=eq_true q136;have p141 : 0 ≤ (x8_3 : Int):=zXb ze;have q141 : x8_3 < (l1_0.length : Int):=zXb ze;obtain ⟨ad141,e141,hx141_0⟩:=Kd.at_int HR1_0.out x8_3 p141 q141;have hw141_0:=hx141_0
             obtain rfl : ad136 = ad141:=(by injection e141)
             replace hx141_0:=zhx HB hx141_0;replace p141:=eq_true p141;replace q141:=eq_true q141
             refine start_ (n:=17) (S:=fun w' => w'.cell? ⟨gb130,0,none⟩ = some (.slice (some ad136) l1_0.length c1_0) ∧ w'.cell? ⟨gb130,1,none⟩ = some (.slice A1_1 l1_1.length c1_1) ∧ w'.cell? (ad136.add (x8_3).toNat) = some (.int .i64 (rd l1_0 x8_3)) ∧ w'.cell? (ad136.add (x8_3).toNat) = some (.int .i64 (rd l1_0 x8_3))) (ds:=[]) #[false,false,false,false,false,false,false,false,false,false,false,false,false,false,false,false,false] (by kernel_rfl) rfl rfl ⟨(zP BK130.out 0).trans rfl,(zP BK130.out 1).trans rfl,((HB.out.cell (World.block_lt_of_cell? w _ hw136_0)).trans hw136_0),((HB.out.cell (World.block_lt_of_cell? w _ hw141_0)).trans hw141_0)⟩ (fun hHeld => ?_);refine with_tabW spec_l4Fine.tab11 spec_l4Fine.bits11 (fun HT_ HW_ => ?_)
             generalize wr.drew = w47 at BK129 BK130 HB hx136_0 hx141_0 hHeld ⊢
             refine zut 0 48 HT_ ?_;refine zut 2 50 HT_ ?_;refine zwt 1 49 HT_ HW_ hHeld ?_;refine zut 3 51 HT_ ?_;refine zwt 4 52 HT_ HW_ hHeld ?_
             refine one_ (i:=5) (N:=some 53) #[true,true,true,true,true,true,false,false,false,false,false,false,false,false,false,false,false] rfl rfl (one_of HT_.out (by kernel_rfl)) (by decide) (fun K hK => ?_)
             refine goes_ Try.func117 (by kernel_rfl) rfl #[.int .i64 (rd l1_0 x8_3)] (by rfl) rfl rfl (by (try simp only [zCb,zMb,zNb]);first|done|rfl|(simp only [zLb,zDb];rfl)) ?_
             with_reducible refine (spec_IsVar.calls (rd l1_0 x8_3) true _ A40.out).mono ?_
             rintro e w' ⟨rfl,⟨nd,rfl⟩⟩
             refine ⟨_,rfl,?_⟩
             refine hK.out _ _ ⟨(zP BK130.out 0).trans rfl,(zP BK130.out 1).trans rfl,((HB.out.cell (World.block_lt_of_cell? w _ hw136_0)).trans hw136_0),((HB.out.cell (World.block_lt_of_cell? w _ hw141_0)).trans hw141_0)⟩ (fun hHeld => ?_)
             clear hK K
             refine norm_ (a':=?_) ?_ ?_
             rotate_left
             ·
              show Act.put _ (some 53) _ = _
              simp only [Act.put,zO,zEb,zFb,i64_w,i32_w]
              rfl
             refine zut 6 54 HT_ ?_;refine zut 9 57 HT_ ?_;refine zut 11 59 HT_ ?_;refine zwt 7 55 HT_ HW_ hHeld ?_;refine zwt 10 58 HT_ HW_ hHeld ?_;refine zut 12 60 HT_ ?_;refine zwt 13 61 HT_ HW_ hHeld ?_
             refine one_ (i:=8) (N:=some 56) #[true,true,true,true,true,true,true,true,true,true,true,true,true,true,false,false,false] rfl rfl (one_of HT_.out (by kernel_rfl)) (by decide) (fun K hK => ?_)
             refine goes_ Try.func152 (by kernel_rfl) rfl #[.agg #[.slice (some ad136) l1_0.length c1_0,.slice A1_1 l1_1.length c1_1]] (by rfl) rfl rfl (by (try simp only [zCb,zMb,zNb]);first|done|rfl|(simp only [zLb,zDb];rfl)) ?_
             with_reducible refine (spec_l4BodyVars.calls k3 _ _ l1_0 _ _ l1_1 t138 _ ?side1 ?side2 ?side3 ?side4 A42.out).mono ?_
             (case side1 => repeat (first|exact (zKb HR1_0.out (zz HB))|(with_reducible refine zBb ?_ _)|(with_reducible refine zAb ?_ _)|(with_reducible refine zX ?_)))
             (case side2 => exact HC1_0.out)
             (case side3 => repeat (first|exact (zKb HR1_1.out (zz HB))|(with_reducible refine zBb ?_ _)|(with_reducible refine zAb ?_ _)|(with_reducible refine zX ?_)))
             (case side4 => exact HC1_1.out)
             rintro e w48 ⟨v139,rfl,ho0,hb⟩
             refine ⟨_,rfl,?_⟩
             have n0_:=zA (zHb ho0 (zT (zz HB)));have n1_:=zbk BK129 hb;have n2_:=zbk BK130 hb;have n3_:=zA (zJb (zz HB) hb);clear BK129;clear BK130;clear HB;have HO140:=n0_;have BK129:=n1_;have BK130:=n2_;have HB:=n3_;clear n0_ n1_ n2_ n3_;(try clear hb);(try clear hb2);(try clear hk);(try clear hi);(try clear ho0);obtain ⟨Ao49,co49,eo49⟩:=Kd.R_slice HO140.out
             (first|subst eo49|(injection eo49 with f1_ f2_ f3_;have f4_:=f1_.symm;have f5_:=f3_.symm;clear f1_ f2_ f3_;subst f4_;subst f5_))
             refine hK.out _ _ ⟨(zP BK130.out 0).trans rfl,(zP BK130.out 1).trans rfl,((HB.out.cell (World.block_lt_of_cell? w _ hw136_0)).trans hw136_0),((HB.out.cell (World.block_lt_of_cell? w _ hw141_0)).trans hw141_0)⟩ (fun hHeld => ?_)
             clear hK K
             refine norm_ (a':=?_) ?_ ?_
             rotate_left
             ·
              show Act.put _ (some 56) _ = _
              simp only [Act.put,zO,zEb,zFb,i64_w,i32_w]
              rfl
             refine one_ (i:=14) (N:=some 62) #[true,true,true,true,true,true,true,true,true,true,true,true,true,true,true,false,false] rfl rfl (one_of HT_.out (by kernel_rfl)) (by decide) (fun K hK => ?_)
             refine goes_ Try.func151 (by kernel_rfl) rfl #[.slice Ao49 t138.length co49,.int .i64 (rd l1_0 x8_3)] (by rfl) rfl rfl (by (try simp only [zCb,zMb,zNb]);first|done|rfl|(simp only [zLb,zDb];rfl)) ?_
             with_reducible refine (spec_l2Has.calls k3 _ _ t138 (rd l1_0 x8_3) true _ ?side1 ?side2 A43.out).mono ?_
             (case side1 => repeat (first|exact (Kd.R_reads' HO140.out).2.2|(with_reducible refine zBb ?_ _)|(with_reducible refine zAb ?_ _)|(with_reducible refine zX ?_)))
             (case side2 => exact (Kd.R_reads' HO140.out).2.1)
             rintro e w' ⟨rfl,⟨nd,rfl⟩⟩
             refine ⟨_,rfl,?_⟩
             refine hK.out _ _ ⟨(zP BK130.out 0).trans rfl,(zP BK130.out 1).trans rfl,((HB.out.cell (World.block_lt_of_cell? w _ hw136_0)).trans hw136_0),((HB.out.cell (World.block_lt_of_cell? w _ hw141_0)).trans hw141_0)⟩ (fun hHeld => ?_)
             clear hK K
             refine norm_ (a':=?_) ?_ ?_
             rotate_left
             ·
              show Act.put _ (some 62) _ = _
              simp only [Act.put,zO,zEb,zFb,i64_w,i32_w]
              rfl
             refine zut 15 63 HT_ ?_;refine zut 16 64 HT_ ?_
             refine done_ (done_of HT_.out (by kernel_rfl)) ?_
             try go_wp2
             go_roundg k3
             case measure => have:=HJ3.out;have:=HK2.out;have:=HK3.out;omega
             case rel => exact ⟨(wrap64 (x8_3 + 1)),za,H',⟨by have:=HJ3.out;have:=HK2.out;have:=HK3.out;omega⟩,⟨zx BK129⟩,⟨zx BK130⟩,⟨zz HB⟩⟩
            ·
             replace c44:=Bool.eq_false_iff.mpr c44
             subst c44
             have H1 : (some false) = some r:=by rw [if_neg (show ¬ (false = true) by decide)] at H;exact H
             clear H;have H:=H1;clear H1
             obtain rfl:=Option.some.inj H
             have hnb50:=NB130_129.out;have hnc50:=NB129_130.out;have hcz51_0:=zc (.slice A1_0 l1_0.length c1_0) BK130 0 rfl;have hcz51_1:=zc (.slice A1_1 l1_1.length c1_1) BK130 1 rfl;have hfz51_0:=blk_frozen BK130.out 0;have hfz51_1:=blk_frozen BK130.out 1
             try go_wp2
             have n0_:=zA (zI BK129.out);have n1_:=zA (zI BK130.out);have n2_:=zA (zJ HB.out);clear BK129;clear BK130;clear HB;have BK129:=n0_;have BK130:=n1_;have HB:=n2_;clear n0_ n1_ n2_;have p136 : 0 ≤ (x8_3 : Int):=zXb ze;have q136 : x8_3 < (l1_0.length : Int):=zXb ze;obtain ⟨ad136,e136,hx136_0⟩:=Kd.at_int HR1_0.out x8_3 p136 q136;have hw136_0:=hx136_0
             cases e136
             replace hx136_0:=zhx HB hx136_0;replace p136:=eq_true p136;replace q136:=eq_true q136;have p141 : 0 ≤ (x8_3 : Int):=zXb ze;have q141 : x8_3 < (l1_0.length : Int):=zXb ze;obtain ⟨ad141,e141,hx141_0⟩:=Kd.at_int HR1_0.out x8_3 p141 q141;have hw141_0:=hx141_0
             obtain rfl : ad136 = ad141:=(by injection e141)
             replace hx141_0:=zhx HB hx141_0;replace p141:=eq_true p141;replace q141:=eq_true q141
             refine start_ (n:=17) (S:=fun w' => w'.cell? ⟨gb130,0,none⟩ = some (.slice (some ad136) l1_0.length c1_0) ∧ w'.cell? ⟨gb130,1,none⟩ = some (.slice A1_1 l1_1.length c1_1) ∧ w'.cell? (ad136.add (x8_3).toNat) = some (.int .i64 (rd l1_0 x8_3)) ∧ w'.cell? (ad136.add (x8_3).toNat) = some (.int .i64 (rd l1_0 x8_3))) (ds:=[]) #[false,false,false,false,false,false,false,false,false,false,false,false,false,false,false,false,false] (by kernel_rfl) rfl rfl ⟨(zP BK130.out 0).trans rfl,(zP BK130.out 1).trans rfl,((HB.out.cell (World.block_lt_of_cell? w _ hw136_0)).trans hw136_0),((HB.out.cell (World.block_lt_of_cell? w _ hw141_0)).trans hw141_0)⟩ (fun hHeld => ?_);refine with_tabW spec_l4Fine.tab11 spec_l4Fine.bits11 (fun HT_ HW_ => ?_)
             generalize wr.drew = w52 at BK129 BK130 HB hx136_0 hx141_0 hHeld ⊢
             refine zut 0 48 HT_ ?_;refine zut 2 50 HT_ ?_;refine zwt 1 49 HT_ HW_ hHeld ?_;refine zut 3 51 HT_ ?_;refine zwt 4 52 HT_ HW_ hHeld ?_
             refine one_ (i:=5) (N:=some 53) #[true,true,true,true,true,true,false,false,false,false,false,false,false,false,false,false,false] rfl rfl (one_of HT_.out (by kernel_rfl)) (by decide) (fun K hK => ?_)
             refine goes_ Try.func117 (by kernel_rfl) rfl #[.int .i64 (rd l1_0 x8_3)] (by rfl) rfl rfl (by (try simp only [zCb,zMb,zNb]);first|done|rfl|(simp only [zLb,zDb];rfl)) ?_
             with_reducible refine (spec_IsVar.calls (rd l1_0 x8_3) true _ A40.out).mono ?_
             rintro e w' ⟨rfl,⟨nd,rfl⟩⟩
             refine ⟨_,rfl,?_⟩
             refine hK.out _ _ ⟨(zP BK130.out 0).trans rfl,(zP BK130.out 1).trans rfl,((HB.out.cell (World.block_lt_of_cell? w _ hw136_0)).trans hw136_0),((HB.out.cell (World.block_lt_of_cell? w _ hw141_0)).trans hw141_0)⟩ (fun hHeld => ?_)
             clear hK K
             refine norm_ (a':=?_) ?_ ?_
             rotate_left
             ·
              show Act.put _ (some 53) _ = _
              simp only [Act.put,zO,zEb,zFb,i64_w,i32_w]
              rfl
             refine zut 6 54 HT_ ?_;refine zut 9 57 HT_ ?_;refine zut 11 59 HT_ ?_;refine zwt 7 55 HT_ HW_ hHeld ?_;refine zwt 10 58 HT_ HW_ hHeld ?_;refine zut 12 60 HT_ ?_;refine zwt 13 61 HT_ HW_ hHeld ?_
             refine one_ (i:=8) (N:=some 56) #[true,true,true,true,true,true,true,true,true,true,true,true,true,true,false,false,false] rfl rfl (one_of HT_.out (by kernel_rfl)) (by decide) (fun K hK => ?_)
             refine goes_ Try.func152 (by kernel_rfl) rfl #[.agg #[.slice (some ad136) l1_0.length c1_0,.slice A1_1 l1_1.length c1_1]] (by rfl) rfl rfl (by (try simp only [zCb,zMb,zNb]);first|done|rfl|(simp only [zLb,zDb];rfl)) ?_
             with_reducible refine (spec_l4BodyVars.calls k3 _ _ l1_0 _ _ l1_1 t138 _ ?side1 ?side2 ?side3 ?side4 A42.out).mono ?_
             (case side1 => repeat (first|exact (zKb HR1_0.out (zz HB))|(with_reducible refine zBb ?_ _)|(with_reducible refine zAb ?_ _)|(with_reducible refine zX ?_)))
             (case side2 => exact HC1_0.out)
             (case side3 => repeat (first|exact (zKb HR1_1.out (zz HB))|(with_reducible refine zBb ?_ _)|(with_reducible refine zAb ?_ _)|(with_reducible refine zX ?_)))
             (case side4 => exact HC1_1.out)
             rintro e w53 ⟨v139,rfl,ho0,hb⟩
             refine ⟨_,rfl,?_⟩
             have n0_:=zA (zHb ho0 (zT (zz HB)));have n1_:=zbk BK129 hb;have n2_:=zbk BK130 hb;have n3_:=zA (zJb (zz HB) hb);clear BK129;clear BK130;clear HB;have HO140:=n0_;have BK129:=n1_;have BK130:=n2_;have HB:=n3_;clear n0_ n1_ n2_ n3_;(try clear hb);(try clear hb2);(try clear hk);(try clear hi);(try clear ho0);obtain ⟨Ao54,co54,eo54⟩:=Kd.R_slice HO140.out
             (first|subst eo54|(injection eo54 with f1_ f2_ f3_;have f4_:=f1_.symm;have f5_:=f3_.symm;clear f1_ f2_ f3_;subst f4_;subst f5_))
             refine hK.out _ _ ⟨(zP BK130.out 0).trans rfl,(zP BK130.out 1).trans rfl,((HB.out.cell (World.block_lt_of_cell? w _ hw136_0)).trans hw136_0),((HB.out.cell (World.block_lt_of_cell? w _ hw141_0)).trans hw141_0)⟩ (fun hHeld => ?_)
             clear hK K
             refine norm_ (a':=?_) ?_ ?_
             rotate_left
             ·
              show Act.put _ (some 56) _ = _
              simp only [Act.put,zO,zEb,zFb,i64_w,i32_w]
              rfl
             refine one_ (i:=14) (N:=some 62) #[true,true,true,true,true,true,true,true,true,true,true,true,true,true,true,false,false] rfl rfl (one_of HT_.out (by kernel_rfl)) (by decide) (fun K hK => ?_)
             refine goes_ Try.func151 (by kernel_rfl) rfl #[.slice Ao54 t138.length co54,.int .i64 (rd l1_0 x8_3)] (by rfl) rfl rfl (by (try simp only [zCb,zMb,zNb]);first|done|rfl|(simp only [zLb,zDb];rfl)) ?_
             with_reducible refine (spec_l2Has.calls k3 _ _ t138 (rd l1_0 x8_3) false _ ?side1 ?side2 A43.out).mono ?_
             (case side1 => repeat (first|exact (Kd.R_reads' HO140.out).2.2|(with_reducible refine zBb ?_ _)|(with_reducible refine zAb ?_ _)|(with_reducible refine zX ?_)))
             (case side2 => exact (Kd.R_reads' HO140.out).2.1)
             rintro e w' ⟨rfl,⟨nd,rfl⟩⟩
             refine ⟨_,rfl,?_⟩
             refine hK.out _ _ ⟨(zP BK130.out 0).trans rfl,(zP BK130.out 1).trans rfl,((HB.out.cell (World.block_lt_of_cell? w _ hw136_0)).trans hw136_0),((HB.out.cell (World.block_lt_of_cell? w _ hw141_0)).trans hw141_0)⟩ (fun hHeld => ?_)
             clear hK K
             refine norm_ (a':=?_) ?_ ?_
             rotate_left
             ·
              show Act.put _ (some 62) _ = _
              simp only [Act.put,zO,zEb,zFb,i64_w,i32_w]
              rfl
             refine zut 15 63 HT_ ?_;refine zut 16 64 HT_ ?_
             refine done_ (done_of HT_.out (by kernel_rfl)) ?_
             try go_wp2
             go_ret
             exact ⟨zrr,zz HB⟩
           ·
            replace c41:=Bool.eq_false_iff.mpr c41
            subst c41
            have H1 : (spec_l4Fine.l1 k3 (wrap64 (x8_3 + 1)) l1_0 l1_1) = some r:=by rw [if_neg (show ¬ (false = true) by decide)] at H;exact H
            clear H;have H:=H1;clear H1
            have H':=zA H
            clear H;have hnb55:=NB130_129.out;have hnc55:=NB129_130.out;have hcz56_0:=zc (.slice A1_0 l1_0.length c1_0) BK130 0 rfl;have hcz56_1:=zc (.slice A1_1 l1_1.length c1_1) BK130 1 rfl;have hfz56_0:=blk_frozen BK130.out 0;have hfz56_1:=blk_frozen BK130.out 1
            try go_wp2
            have n0_:=zA (zI BK129.out);have n1_:=zA (zI BK130.out);have n2_:=zA (zJ HB.out);clear BK129;clear BK130;clear HB;have BK129:=n0_;have BK130:=n1_;have HB:=n2_;clear n0_ n1_ n2_;have p136 : 0 ≤ (x8_3 : Int):=zXb ze;have q136 : x8_3 < (l1_0.length : Int):=zXb ze;obtain ⟨ad136,e136,hx136_0⟩:=Kd.at_int HR1_0.out x8_3 p136 q136;have hw136_0:=hx136_0
            cases e136
            replace hx136_0:=zhx HB hx136_0;replace p136:=eq_true p136;replace q136:=eq_true q136
            refine start_ (n:=17) (S:=fun w' => w'.cell? ⟨gb130,0,none⟩ = some (.slice (some ad136) l1_0.length c1_0) ∧ w'.cell? ⟨gb130,1,none⟩ = some (.slice A1_1 l1_1.length c1_1) ∧ w'.cell? (ad136.add (x8_3).toNat) = some (.int .i64 (rd l1_0 x8_3))) (ds:=[]) #[false,false,false,false,false,false,false,false,false,false,false,false,false,false,false,false,false] (by kernel_rfl) rfl rfl ⟨(zP BK130.out 0).trans rfl,(zP BK130.out 1).trans rfl,((HB.out.cell (World.block_lt_of_cell? w _ hw136_0)).trans hw136_0)⟩ (fun hHeld => ?_);refine with_tabW spec_l4Fine.tab11 spec_l4Fine.bits11 (fun HT_ HW_ => ?_)
            generalize wr.drew = w57 at BK129 BK130 HB hx136_0 hHeld ⊢
            refine zut 0 48 HT_ ?_;refine zut 2 50 HT_ ?_;refine zwt 1 49 HT_ HW_ hHeld ?_;refine zut 3 51 HT_ ?_;refine zwt 4 52 HT_ HW_ hHeld ?_
            refine one_ (i:=5) (N:=some 53) #[true,true,true,true,true,true,false,false,false,false,false,false,false,false,false,false,false] rfl rfl (one_of HT_.out (by kernel_rfl)) (by decide) (fun K hK => ?_)
            refine goes_ Try.func117 (by kernel_rfl) rfl #[.int .i64 (rd l1_0 x8_3)] (by rfl) rfl rfl (by (try simp only [zCb,zMb,zNb]);first|done|rfl|(simp only [zLb,zDb];rfl)) ?_
            with_reducible refine (spec_IsVar.calls (rd l1_0 x8_3) false _ A40.out).mono ?_
            rintro e w' ⟨rfl,⟨nd,rfl⟩⟩
            refine ⟨_,rfl,?_⟩
            refine hK.out _ _ ⟨(zP BK130.out 0).trans rfl,(zP BK130.out 1).trans rfl,((HB.out.cell (World.block_lt_of_cell? w _ hw136_0)).trans hw136_0)⟩ (fun hHeld => ?_)
            clear hK K
            refine norm_ (a':=?_) ?_ ?_
            rotate_left
            ·
             show Act.put _ (some 53) _ = _
             simp only [Act.put,zO,zEb,zFb,i64_w,i32_w]
             rfl
            refine zut 6 54 HT_ ?_;refine zot 7 55 HT_ ?_;refine zot 8 56 HT_ ?_;refine zot 9 57 HT_ ?_;refine zot 10 58 HT_ ?_;refine zot 11 59 HT_ ?_;refine zot 12 60 HT_ ?_;refine zot 13 61 HT_ ?_;refine zot 14 62 HT_ ?_;refine zot 15 63 HT_ ?_;refine zut 16 64 HT_ ?_
            refine done_ (done_of HT_.out (by kernel_rfl)) ?_
            try go_wp2
            go_roundg k3
            case measure => have:=HJ3.out;have:=HK2.out;have:=HK3.out;omega
            case rel => exact ⟨(wrap64 (x8_3 + 1)),za,H',⟨by have:=HJ3.out;have:=HK2.out;have:=HK3.out;omega⟩,⟨zx BK129⟩,⟨zx BK130⟩,⟨zz HB⟩⟩
          ·
           rw [if_neg c39] at H
           exact absurd H (by simp)
         ·
          rw [if_neg c38] at H;have c38b0:=decide_eq_false c38;clear c38
          obtain rfl:=Option.some.inj H
          have hnb58:=NB130_129.out;have hnc58:=NB129_130.out;have hcz59_0:=zc (.slice A1_0 l1_0.length c1_0) BK130 0 rfl;have hcz59_1:=zc (.slice A1_1 l1_1.length c1_1) BK130 1 rfl;have hfz59_0:=blk_frozen BK130.out 0;have hfz59_1:=blk_frozen BK130.out 1
          go_wp2
          go_ret
          exact ⟨zrr,zz HB⟩

end Go.Proofs.Ytanbgnjfllpkgaa.QFnMappings
