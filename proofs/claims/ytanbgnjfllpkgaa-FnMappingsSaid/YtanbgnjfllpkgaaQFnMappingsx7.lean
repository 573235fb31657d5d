/- Walks through the Go functions that FnMappings reaches: each call returns what the Lean function beside it says, within the bounds that the theorem names. -/
import Derived.Test.YtanbgnjfllpkgaaQFnMappingsx0
import Derived.Test.YtanbgnjfllpkgaaQFnMappingsx5
import Derived.Test.YtanbgnjfllpkgaaQFnMappingsx6
namespace Go.Proofs.Ytanbgnjfllpkgaa.QFnMappings
open Go.RowKit Go.Proofs.YtanbgnjfllpkgaaW.PrintWords Go.Proofs.YtanbgnjfllpkgaaW.PrintLast Go.Proofs.YtanbgnjfllpkgaaW.PrintMore
attribute [local go_sem] max2_int min2_int max_two min_two max_three min_three max_four min_four   -- for this text's walks alone
set_option linter.unusedVariables false
set_option linter.unusedSimpArgs false


/-! ### spec_IsMapping: function 48 -/
def spec_IsMapping.f (k : Nat) (l0_0 : List Int) (l1_0 : List Int) (l1_1 : List (S97)) (l2_0 : List Int) (l2_1 : List (S97)) (l3 : List Int) : Option (Bool) := (spec_IsQuery.f k l0_0 l1_0 l1_1).bind fun t179 => (if t179 = true then ((spec_IsQuery.f k l0_0 l2_0 l2_1).bind fun t180 => (if t180 = true then ((spec_l7Is.f k l1_0 l1_1 l2_0 l2_1 l3).bind fun t181 => (some t181)) else (some false))) else (some false))
set_option maxHeartbeats 8000000 in
set_option maxRecDepth 100000 in
theorem spec_IsMapping.calls (k : Nat) (A0_0 : Option Addr) (c0_0 : Nat) (l0_0 : List Int) (A1_0 : Option Addr) (c1_0 : Nat) (l1_0 : List Int) (A1_1 : Option Addr) (c1_1 : Nat) (l1_1 : List (S97)) (A2_0 : Option Addr) (c2_0 : Nat) (l2_0 : List Int) (A2_1 : Option Addr) (c2_1 : Nat) (l2_1 : List (S97)) (A3 : Option Addr) (c3 : Nat) (l3 : List Int) (r : Bool) (w : World) (hr0_0 : Kd.C (Kd.int .i64) w A0_0 l0_0.length l0_0) (hc0_0 : l0_0.length ≤ c0_0) (hr1_0 : Kd.C (Kd.int .i64) w A1_0 l1_0.length l1_0) (hc1_0 : l1_0.length ≤ c1_0) (hr1_1 : Kd.C k97 w A1_1 l1_1.length l1_1) (hc1_1 : l1_1.length ≤ c1_1) (hr2_0 : Kd.C (Kd.int .i64) w A2_0 l2_0.length l2_0) (hc2_0 : l2_0.length ≤ c2_0) (hr2_1 : Kd.C k97 w A2_1 l2_1.length l2_1) (hc2_1 : l2_1.length ≤ c2_1) (hr3 : Kd.C (Kd.int .i64) w A3 l3.length l3) (hc3 : l3.length ≤ c3) (h : spec_IsMapping.f k l0_0 l1_0 l1_1 l2_0 l2_1 l3 = some r) :
  Calls Try.prog 48 #[.agg #[.slice A0_0 l0_0.length c0_0], .agg #[.slice A1_0 l1_0.length c1_0, .slice A1_1 l1_1.length c1_1], .agg #[.slice A2_0 l2_0.length c2_0, .slice A2_1 l2_1.length c2_1], .slice A3 l3.length c3] w fun e w' => e = .returned (.bool r) ∧ Below w.heap.size w w' := by
 have hu65:=Try.underlying65;have hu46:=Try.underlying46;have HR0_0:=zA hr0_0;have HC0_0:=zA hc0_0;clear hr0_0 hc0_0;have HR1_0:=zA hr1_0;have HC1_0:=zA hc1_0;clear hr1_0 hc1_0;have HR1_1:=zA hr1_1;have HC1_1:=zA hc1_1;clear hr1_1 hc1_1;have HR2_0:=zA hr2_0;have HC2_0:=zA hc2_0;clear hr2_0 hc2_0;have HR2_1:=zA hr2_1;have HC2_1:=zA hc2_1;clear hr2_1 hc2_1;have HR3:=zA hr3;have HC3:=zA hc3;clear hr3 hc3;have HB:=zA (Below.refl w.heap.size w)
 have H : ((spec_IsQuery.f k l0_0 l1_0 l1_1).bind fun t179 => (if t179 = true then ((spec_IsQuery.f k l0_0 l2_0 l2_1).bind fun t180 => (if t180 = true then ((spec_l7Is.f k l1_0 l1_1 l2_0 l2_1 l3).bind fun t181 => (some t181)) else (some false))) else (some false))) = some r:=h
 clear h;obtain ⟨t179,A50,H⟩:=zYb.mp H;(try dsimp only at H);have A5:=zA A50;clear A50
 by_cases c6 : t179 = true
 ·
  subst c6
  rw [if_pos rfl] at H;obtain ⟨t180,A70,H⟩:=zYb.mp H;(try dsimp only at H);have A7:=zA A70;clear A70
  by_cases c8 : t180 = true
  ·
   subst c8
   rw [if_pos rfl] at H;obtain ⟨t181,A90,H⟩:=zYb.mp H;(try dsimp only at H);have A9:=zA A90;clear A90
   obtain rfl:=Option.some.inj H
   go_enter Try.func48,Try.ntmps48
   go_wp2_with (first|((with_reducible refine gate_dst (N:=4) rfl ?_);refine zbx 4 #[.slice A0_0 l0_0.length c0_0] 65 ?_;intro gb176 hg w10 hbox hb;have BK176:=zA (hbox);have GW176:=zgw hg HB;have GE176:=zgw hg HB;replace HB:=zA (zJb (zz HB) hb);clear hb hbox hg)|((with_reducible refine gate_dst (N:=5) rfl ?_);refine zbx 5 #[.slice A1_0 l1_0.length c1_0,.slice A1_1 l1_1.length c1_1] 46 ?_;intro gb177 hg w11 hbox hb;have BK177:=zA (hbox);have GW177:=zgw hg HB;have GE177:=zgw hg HB;replace HB:=zA (zJb (zz HB) hb);have NB176_177:=znb hg BK176;have NB177_176:=znc hg BK176;replace BK176:=zbk BK176 hb;clear hb hbox hg)|((with_reducible refine gate_dst (N:=6) rfl ?_);refine zbx 6 #[.slice A2_0 l2_0.length c2_0,.slice A2_1 l2_1.length c2_1] 46 ?_;intro gb178 hg w12 hbox hb;have BK178:=zA (hbox);have GW178:=zgw hg HB;have GE178:=zgw hg HB;replace HB:=zA (zJb (zz HB) hb);have NB176_178:=znb hg BK176;have NB178_176:=znc hg BK176;replace BK176:=zbk BK176 hb;have NB177_178:=znb hg BK177;have NB178_177:=znc hg BK177;replace BK177:=zbk BK177 hb;clear hb hbox hg;have hnb13:=NB176_177.out;have hnc13:=NB177_176.out;have hnb14:=NB176_178.out;have hnc14:=NB178_176.out;have hcz15_0:=zc (.slice A0_0 l0_0.length c0_0) BK176 0 rfl;have hfz15_0:=blk_frozen BK176.out 0;have hnb16:=NB177_178.out;have hnc16:=NB178_177.out;have hcz17_0:=zc (.slice A1_0 l1_0.length c1_0) BK177 0 rfl;have hcz17_1:=zc (.slice A1_1 l1_1.length c1_1) BK177 1 rfl;have hfz17_0:=blk_frozen BK177.out 0;have hfz17_1:=blk_frozen BK177.out 1)|((with_reducible refine gate_callee (f:=101) rfl ?_);refine zgo (some 11) Try.func101 #[.agg #[.slice A0_0 l0_0.length c0_0],.agg #[.slice A1_0 l1_0.length c1_0,.slice A1_1 l1_1.length c1_1]] ?_;(with_reducible refine (spec_IsQuery.calls k _ _ l0_0 _ _ l1_0 _ _ l1_1 true _ ?side1 ?side2 ?side3 ?side4 ?side5 ?side6 A5.out).mono ?_);(case side1 => exact zsd HR0_0 HB);(case side2 => exact HC0_0.out);(case side3 => exact zsd HR1_0 HB);(case side4 => exact HC1_0.out);(case side5 => exact zsd HR1_1 HB);(case side6 => exact HC1_1.out);rintro e w18 ⟨rfl,hb⟩;refine ⟨_,rfl,?_⟩;replace BK176:=zbk BK176 hb;replace BK177:=zbk BK177 hb;replace BK178:=zbk BK178 hb;replace HB:=zA (zJb (zz HB) hb);(try clear hb);(try clear hb2);(try clear hk);(try clear hi);have hcz19_0:=zc (.slice A0_0 l0_0.length c0_0) BK176 0 rfl;have hfz19_0:=blk_frozen BK176.out 0;have hcz20_0:=zc (.slice A2_0 l2_0.length c2_0) BK178 0 rfl;have hcz20_1:=zc (.slice A2_1 l2_1.length c2_1) BK178 1 rfl;have hfz20_0:=blk_frozen BK178.out 0;have hfz20_1:=blk_frozen BK178.out 1)|(go_at_call 101;(with_reducible refine (spec_IsQuery.calls k _ _ l0_0 _ _ l2_0 _ _ l2_1 true _ ?side1 ?side2 ?side3 ?side4 ?side5 ?side6 A7.out).mono ?_);(case side1 => exact zsd HR0_0 HB);(case side2 => exact HC0_0.out);(case side3 => exact zsd HR2_0 HB);(case side4 => exact HC2_0.out);(case side5 => exact zsd HR2_1 HB);(case side6 => exact HC2_1.out);rintro e w21 ⟨rfl,hb⟩;replace BK176:=zbk BK176 hb;replace BK177:=zbk BK177 hb;replace BK178:=zbk BK178 hb;replace HB:=zA (zJb (zz HB) hb);(try clear hb);(try clear hb2);(try clear hk);(try clear hi);have hcz22_0:=zc (.slice A1_0 l1_0.length c1_0) BK177 0 rfl;have hcz22_1:=zc (.slice A1_1 l1_1.length c1_1) BK177 1 rfl;have hfz22_0:=blk_frozen BK177.out 0;have hfz22_1:=blk_frozen BK177.out 1;have hcz23_0:=zc (.slice A2_0 l2_0.length c2_0) BK178 0 rfl;have hcz23_1:=zc (.slice A2_1 l2_1.length c2_1) BK178 1 rfl;have hfz23_0:=blk_frozen BK178.out 0;have hfz23_1:=blk_frozen BK178.out 1)|(go_at_call 102;(with_reducible refine (spec_l7Is.calls k _ _ l1_0 _ _ l1_1 _ _ l2_0 _ _ l2_1 _ _ l3 t181 _ ?side1 ?side2 ?side3 ?side4 ?side5 ?side6 ?side7 ?side8 ?side9 ?side10 A9.out).mono ?_);(case side1 => exact zsd HR1_0 HB);(case side2 => exact HC1_0.out);(case side3 => exact zsd HR1_1 HB);(case side4 => exact HC1_1.out);(case side5 => exact zsd HR2_0 HB);(case side6 => exact HC2_0.out);(case side7 => exact zsd HR2_1 HB);(case side8 => exact HC2_1.out);(case side9 => exact zsd HR3 HB);(case side10 => exact HC3.out);rintro e w24 ⟨rfl,hb⟩;replace BK176:=zbk BK176 hb;replace BK177:=zbk BK177 hb;replace BK178:=zbk BK178 hb;replace HB:=zA (zJb (zz HB) hb);(try clear hb);(try clear hb2);(try clear hk);(try clear hi)))
   go_ret
   exact ⟨zrr,zz HB⟩
  ·
   replace c8:=Bool.eq_false_iff.mpr c8
   subst c8
   have H1 : (some false) = some r:=by rw [if_neg (show ¬ (false = true) by decide)] at H;exact H
   clear H;have H:=H1;clear H1
   obtain rfl:=Option.some.inj H
   go_enter Try.func48,Try.ntmps48
   go_wp2_with (first|((with_reducible refine gate_dst (N:=4) rfl ?_);refine zbx 4 #[.slice A0_0 l0_0.length c0_0] 65 ?_;intro gb176 hg w25 hbox hb;have BK176:=zA (hbox);have GW176:=zgw hg HB;have GE176:=zgw hg HB;replace HB:=zA (zJb (zz HB) hb);clear hb hbox hg)|((with_reducible refine gate_dst (N:=5) rfl ?_);refine zbx 5 #[.slice A1_0 l1_0.length c1_0,.slice A1_1 l1_1.length c1_1] 46 ?_;intro gb177 hg w26 hbox hb;have BK177:=zA (hbox);have GW177:=zgw hg HB;have GE177:=zgw hg HB;replace HB:=zA (zJb (zz HB) hb);have NB176_177:=znb hg BK176;have NB177_176:=znc hg BK176;replace BK176:=zbk BK176 hb;clear hb hbox hg)|((with_reducible refine gate_dst (N:=6) rfl ?_);refine zbx 6 #[.slice A2_0 l2_0.length c2_0,.slice A2_1 l2_1.length c2_1] 46 ?_;intro gb178 hg w27 hbox hb;have BK178:=zA (hbox);have GW178:=zgw hg HB;have GE178:=zgw hg HB;replace HB:=zA (zJb (zz HB) hb);have NB176_178:=znb hg BK176;have NB178_176:=znc hg BK176;replace BK176:=zbk BK176 hb;have NB177_178:=znb hg BK177;have NB178_177:=znc hg BK177;replace BK177:=zbk BK177 hb;clear hb hbox hg;have hnb28:=NB176_177.out;have hnc28:=NB177_176.out;have hnb29:=NB176_178.out;have hnc29:=NB178_176.out;have hcz30_0:=zc (.slice A0_0 l0_0.length c0_0) BK176 0 rfl;have hfz30_0:=blk_frozen BK176.out 0;have hnb31:=NB177_178.out;have hnc31:=NB178_177.out;have hcz32_0:=zc (.slice A1_0 l1_0.length c1_0) BK177 0 rfl;have hcz32_1:=zc (.slice A1_1 l1_1.length c1_1) BK177 1 rfl;have hfz32_0:=blk_frozen BK177.out 0;have hfz32_1:=blk_frozen BK177.out 1)|((with_reducible refine gate_callee (f:=101) rfl ?_);refine zgo (some 11) Try.func101 #[.agg #[.slice A0_0 l0_0.length c0_0],.agg #[.slice A1_0 l1_0.length c1_0,.slice A1_1 l1_1.length c1_1]] ?_;(with_reducible refine (spec_IsQuery.calls k _ _ l0_0 _ _ l1_0 _ _ l1_1 true _ ?side1 ?side2 ?side3 ?side4 ?side5 ?side6 A5.out).mono ?_);(case side1 => exact zsd HR0_0 HB);(case side2 => exact HC0_0.out);(case side3 => exact zsd HR1_0 HB);(case side4 => exact HC1_0.out);(case side5 => exact zsd HR1_1 HB);(case side6 => exact HC1_1.out);rintro e w33 ⟨rfl,hb⟩;refine ⟨_,rfl,?_⟩;replace BK176:=zbk BK176 hb;replace BK177:=zbk BK177 hb;replace BK178:=zbk BK178 hb;replace HB:=zA (zJb (zz HB) hb);(try clear hb);(try clear hb2);(try clear hk);(try clear hi);have hcz34_0:=zc (.slice A0_0 l0_0.length c0_0) BK176 0 rfl;have hfz34_0:=blk_frozen BK176.out 0;have hcz35_0:=zc (.slice A2_0 l2_0.length c2_0) BK178 0 rfl;have hcz35_1:=zc (.slice A2_1 l2_1.length c2_1) BK178 1 rfl;have hfz35_0:=blk_frozen BK178.out 0;have hfz35_1:=blk_frozen BK178.out 1)|(go_at_call 101;(with_reducible refine (spec_IsQuery.calls k _ _ l0_0 _ _ l2_0 _ _ l2_1 false _ ?side1 ?side2 ?side3 ?side4 ?side5 ?side6 A7.out).mono ?_);(case side1 => exact zsd HR0_0 HB);(case side2 => exact HC0_0.out);(case side3 => exact zsd HR2_0 HB);(case side4 => exact HC2_0.out);(case side5 => exact zsd HR2_1 HB);(case side6 => exact HC2_1.out);rintro e w36 ⟨rfl,hb⟩;replace BK176:=zbk BK176 hb;replace BK177:=zbk BK177 hb;replace BK178:=zbk BK178 hb;replace HB:=zA (zJb (zz HB) hb);(try clear hb);(try clear hb2);(try clear hk);(try clear hi)))
   go_ret
   exact ⟨zrr,zz HB⟩
 ·
  replace c6:=Bool.eq_false_iff.mpr c6
  subst c6
  have H1 : (some false) = some r:=by rw [if_neg (show ¬ (false = true) by decide)] at H;exact H
  clear H;have H:=H1;clear H1
  obtain rfl:=Option.some.inj H
  go_enter Try.func48,Try.ntmps48
  go_wp2_with (first|((with_reducible refine gate_dst (N:=4) rfl ?_);refine zbx 4 #[.slice A0_0 l0_0.length c0_0] 65 ?_;intro gb176 hg w37 hbox hb;have BK176:=zA (hbox);have GW176:=zgw hg HB;have GE176:=zgw hg HB;replace HB:=zA (zJb (zz HB) hb);clear hb hbox hg)|((with_reducible refine gate_dst (N:=5) rfl ?_);refine zbx 5 #[.slice A1_0 l1_0.length c1_0,.slice A1_1 l1_1.length c1_1] 46 ?_;intro gb177 hg w38 hbox hb;have BK177:=zA (hbox);have GW177:=zgw hg HB;have GE177:=zgw hg HB;replace HB:=zA (zJb (zz HB) hb);have NB176_177:=znb hg BK176;have NB177_176:=znc hg BK176;replace BK176:=zbk BK176 hb;clear hb hbox hg)|((with_reducible refine gate_dst (N:=6) rfl ?_);refine zbx 6 #[.slice A2_0 l2_0.length c2_0,.slice A2_1 l2_1.length c2_1] 46 ?_;intro gb178 hg w39 hbox hb;have BK178:=zA (hbox);have GW178:=zgw hg HB;have GE178:=zgw hg HB;replace HB:=zA (zJb (zz HB) hb);have NB176_178:=znb hg BK176;have NB178_176:=znc hg BK176;replace BK176:=zbk BK176 hb;have NB177_178:=znb hg BK177;have NB178_177:=znc hg BK177;replace BK177:=zbk BK177 hb;clear hb hbox hg;have hnb40:=NB176_177.out;have hnc40:=NB177_176.out;have hnb41:=NB176_178.out;have hnc41:=NB178_176.out;have hcz42_0:=zc (.slice A0_0 l0_0.length c0_0) BK176 0 rfl;have hfz42_0:=blk_frozen BK176.out 0;have hnb43:=NB177_178.out;have hnc43:=NB178_177.out;have hcz44_0:=zc (.slice A1_0 l1_0.length c1_0) BK177 0 rfl;have hcz44_1:=zc (.slice A1_1 l1_1.length c1_1) BK177 1 rfl;have hfz44_0:=blk_frozen BK177.out 0;have hfz44_1:=blk_frozen BK177.out 1)|((with_reducible refine gate_callee (f:=101) rfl ?_);refine zgo (some 11) Try.func101 #[.agg #[.slice A0_0 l0_0.length c0_0],.agg #[.slice A1_0 l1_0.length c1_0,.slice A1_1 l1_1.length c1_1]] ?_;(with_reducible refine (spec_IsQuery.calls k _ _ l0_0 _ _ l1_0 _ _ l1_1 false _ ?side1 ?side2 ?side3 ?side4 ?side5 ?side6 A5.out).mono ?_);(case side1 => exact zsd HR0_0 HB);(case side2 => exact HC0_0.out);(case side3 => exact zsd HR1_0 HB);(case side4 => exact HC1_0.out);(case side5 => exact zsd HR1_1 HB);(case side6 => exact HC1_1.out);rintro e w45 ⟨rfl,hb⟩;refine ⟨_,rfl,?_⟩;replace BK176:=zbk BK176 hb;replace BK177:=zbk BK177 hb;replace BK178:=zbk BK178 hb;replace HB:=zA (zJb (zz HB) hb);(try clear hb);(try clear hb2);(try clear hk);(try clear hi)))
  go_ret
  exact ⟨zrr,zz HB⟩

/-! ### impl_within: function 78 -/
def impl_within.f (a0 : Int) (a1 : Int) (a2 : Int) : Option (Bool) := if a0 ≥ a1 then (some (decide (a0 ≤ a2))) else (some false)
set_option maxHeartbeats 8000000 in
set_option maxRecDepth 100000 in
theorem impl_within.calls (a0 : Int) (a1 : Int) (a2 : Int) (r : Bool) (w : World) (h : impl_within.f a0 a1 a2 = some r) :
  Calls Try.prog 78 #[.int .i64 a0, .int .i64 a1, .int .i64 a2] w fun e w' => e = .returned (.bool r) ∧ Drawn0 w w' := by
 have H : (if a0 ≥ a1 then (some (decide (a0 ≤ a2))) else (some false)) = some r:=h
 clear h
 by_cases c4 : a0 ≥ a1
 ·
  rw [if_pos c4] at H
  have c4b0 : decide (a1 ≤ a0) = true:=decide_eq_true c4
  clear c4
  obtain rfl:=Option.some.inj H
  go_enter Try.func78,Try.ntmps78
  go_wp2
  go_ret
  exact ⟨za,zdr⟩
 ·
  rw [if_neg c4] at H
  have c4b0 : decide (a1 ≤ a0) = false:=decide_eq_false c4
  clear c4
  obtain rfl:=Option.some.inj H
  go_enter Try.func78,Try.ntmps78
  go_wp2
  go_ret
  exact ⟨za,zdr⟩

/-! ### impl_IsSchema: function 128 -/
def impl_IsSchema.l0 : Nat → List Int → Int → Int → List Int → Option (Bool)
 | 0, _, _, _, _ => none
 | k + 1, x6, x7, x8, x183000 => if x8 < x7 then (if 0 ≤ x8 then (if x8 < (x6.length : Int) then ((impl_within.f (rd x6 x8) 1 3).bind fun t184 => (if t184 = true then (impl_IsSchema.l0 k x6 x7 (wrap64 (x8 + 1)) x183000) else (some false))) else (none)) else (none)) else ((impl_within.f (x183000.length : Int) 1 4).bind fun t185 => (some t185))
def impl_IsSchema.f (k : Nat) (l0_0 : List Int) : Option (Bool) := impl_IsSchema.l0 k l0_0 (l0_0.length : Int) 0 l0_0
set_option maxHeartbeats 8000000 in
set_option maxRecDepth 100000 in
theorem impl_IsSchema.calls (k : Nat) (A0_0 : Option Addr) (c0_0 : Nat) (l0_0 : List Int) (r : Bool) (w : World) (hr0_0 : Kd.C (Kd.int .i64) w A0_0 l0_0.length l0_0) (hc0_0 : l0_0.length ≤ c0_0) (h : impl_IsSchema.f k l0_0 = some r) :
  Calls Try.prog 128 #[.agg #[.slice A0_0 l0_0.length c0_0]] w fun e w' => e = .returned (.bool r) ∧ Below w.heap.size w w' := by
 have hu65:=Try.underlying65;have HR0_0:=zA hr0_0;have HC0_0:=zA hc0_0;clear hr0_0 hc0_0;have HB:=zA (Below.refl w.heap.size w)
 have H : (impl_IsSchema.l0 k l0_0 (l0_0.length : Int) 0 l0_0) = some r:=h
 clear h
 have H':=zA H
 clear H
 go_enter Try.func128,Try.ntmps128
 go_wp2_with (first|((with_reducible refine gate_dst (N:=1) rfl ?_);refine zbx 1 #[.slice A0_0 l0_0.length c0_0] 65 ?_;intro gb182 hg w2 hbox hb;have BK182:=zA (hbox);have GW182:=zgw hg HB;have GE182:=zgw hg HB;replace HB:=zA (zJb (zz HB) hb);clear hb hbox hg;have hcz3_0:=zc (.slice A0_0 l0_0.length c0_0) BK182 0 rfl;have hfz3_0:=blk_frozen BK182.out 0))
 go_loopg [8] k (fun kq v8 w' => ∃ (x8_1 : Int),v8 = .int .i64 x8_1 ∧ Aside0 (impl_IsSchema.l0 kq l0_0 (l0_0.length : Int) x8_1 l0_0 = some r) ∧ Aside0 (kq ≤ k) ∧ Aside0 (w'.heap[gb182]? = some (.cells #[(.slice A0_0 l0_0.length c0_0)] 65 (0,0))) ∧ Aside0 (Below w.heap.size w w'))
 case atStart => exact ⟨(0),za,H',⟨Nat.le_refl _⟩,⟨zx BK182⟩,⟨zz HB⟩⟩
 case round =>
  clear H';(try clear c1);(try clear p2);(try clear hcz3_0);(try clear hfz3_0);obtain ⟨x8_1,rfl,HA,HK1,BK182,HB⟩:=hrel
  cases gk with
  | zero => exact absurd HA.out (by simp [impl_IsSchema.l0])
  | succ k1 =>
   have H:=HA.out;clear HA;simp only [impl_IsSchema.l0] at H
   by_cases c4 : x8_1 < (l0_0.length : Int)
   ·
    rw [if_pos c4] at H;have c4b0:=decide_eq_true c4;clear c4
    by_cases c5 : 0 ≤ x8_1
    ·
     rw [if_pos c5] at H;have c5b0:=decide_eq_true c5;clear c5
     by_cases c6 : x8_1 < (l0_0.length : Int)
     ·
      rw [if_pos c6] at H;have c6b0:=decide_eq_true c6;clear c6;obtain ⟨t184,A70,H⟩:=zYb.mp H;(try dsimp only at H);have A7:=zA A70;clear A70
      by_cases c8 : t184 = true
      ·
       subst c8
       rw [if_pos rfl] at H
       have H':=zA H
       clear H;have p183 : 0 ≤ (x8_1 : Int):=zXb ze;have q183 : x8_1 < (l0_0.length : Int):=zXb ze;obtain ⟨ad183,e183,hx183_0⟩:=Kd.at_int HR0_0.out x8_1 p183 q183
       cases e183
       replace hx183_0:=zhx HB hx183_0;replace p183:=eq_true p183;replace q183:=eq_true q183
       go_wp2_with (first|((with_reducible refine gate_callee (f:=78) rfl ?_);refine zgo (some 13) Try.func78 #[.int .i64 (rd l0_0 x8_1),.int .i64 1,.int .i64 3] ?_;(with_reducible refine (impl_within.calls (rd l0_0 x8_1) 1 3 true _ A7.out).mono ?_);rintro e w' ⟨rfl,⟨nd,rfl⟩⟩;refine ⟨_,rfl,?_⟩))
       go_roundg k1
       case measure => have:=HK1.out;omega
       case rel => exact ⟨(wrap64 (x8_1 + 1)),za,H',⟨by have:=HK1.out;omega⟩,⟨zx BK182⟩,⟨zz HB⟩⟩
      ·
       replace c8:=Bool.eq_false_iff.mpr c8
       subst c8
       have H1 : (some false) = some r:=by rw [if_neg (show ¬ (false = true) by decide)] at H;exact H
       clear H;have H:=H1;clear H1
       obtain rfl:=Option.some.inj H
       have p183 : 0 ≤ (x8_1 : Int):=zXb ze;have q183 : x8_1 < (l0_0.length : Int):=zXb ze;obtain ⟨ad183,e183,hx183_0⟩:=Kd.at_int HR0_0.out x8_1 p183 q183
       cases e183
       replace hx183_0:=zhx HB hx183_0;replace p183:=eq_true p183;replace q183:=eq_true q183
       go_wp2_with (first|((with_reducible refine gate_callee (f:=78) rfl ?_);refine zgo (some 13) Try.func78 #[.int .i64 (rd l0_0 x8_1),.int .i64 1,.int .i64 3] ?_;(with_reducible refine (impl_within.calls (rd l0_0 x8_1) 1 3 false _ A7.out).mono ?_);rintro e w' ⟨rfl,⟨nd,rfl⟩⟩;refine ⟨_,rfl,?_⟩))
       go_ret
       exact ⟨zrr,zz HB⟩
     ·
      rw [if_neg c6] at H
      exact absurd H (by simp)
    ·
     rw [if_neg c5] at H
     exact absurd H (by simp)
   ·
    rw [if_neg c4] at H;have c4b0:=decide_eq_false c4;clear c4;obtain ⟨t185,A90,H⟩:=zYb.mp H;(try dsimp only at H);have A9:=zA A90;clear A90
    obtain rfl:=Option.some.inj H
    have hcz10_0:=zc (.slice A0_0 l0_0.length c0_0) BK182 0 rfl;have hfz10_0:=blk_frozen BK182.out 0
    go_wp2_with (first|((with_reducible refine gate_callee (f:=78) rfl ?_);refine zgo (some 19) Try.func78 #[.int .i64 (l0_0.length : Int),.int .i64 1,.int .i64 4] ?_;(with_reducible refine (impl_within.calls (l0_0.length : Int) 1 4 t185 _ A9.out).mono ?_);rintro e w' ⟨rfl,⟨nd,rfl⟩⟩;refine ⟨_,rfl,?_⟩))
    go_ret
    exact ⟨zrr,zz HB⟩

/-! ### impl_IsTerm: function 113 -/
def impl_IsTerm.f (a0 : Int) : Option (Bool) := (impl_within.f a0 (-80) 19).bind fun t186 => (some t186)
set_option maxHeartbeats 8000000 in
set_option maxRecDepth 100000 in
theorem impl_IsTerm.calls (a0 : Int) (r : Bool) (w : World) (h : impl_IsTerm.f a0 = some r) :
  Calls Try.prog 113 #[.int .i64 a0] w fun e w' => e = .returned (.bool r) ∧ Drawn0 w w' := by
 have H : ((impl_within.f a0 (-80) 19).bind fun t186 => (some t186)) = some r:=h
 clear h;obtain ⟨t186,A20,H⟩:=zYb.mp H;(try dsimp only at H);have A2:=zA A20;clear A20
 obtain rfl:=Option.some.inj H
 go_enter Try.func113,Try.ntmps113
 go_wp2_with (first|((with_reducible refine gate_callee (f:=78) rfl ?_);refine zgo (some 4) Try.func78 #[.int .i64 a0,.int .i64 (-80),.int .i64 19] ?_;(with_reducible refine (impl_within.calls a0 (-80) 19 t186 _ A2.out).mono ?_);rintro e w' ⟨rfl,⟨nd,rfl⟩⟩;refine ⟨_,rfl,?_⟩))
 go_ret
 exact ⟨za,zdr⟩

/-! ### impl_areTerms: function 129 -/
def impl_areTerms.l0 : Nat → List Int → Int → Int → Option (Bool)
 | 0, _, _, _ => none
 | k + 1, x5, x6, x7 => if x7 < x6 then (if 0 ≤ x7 then (if x7 < (x5.length : Int) then ((impl_IsTerm.f (rd x5 x7)).bind fun t188 => (if t188 = true then (impl_areTerms.l0 k x5 x6 (wrap64 (x7 + 1))) else (some false))) else (none)) else (none)) else (some true)
def impl_areTerms.f (k : Nat) (l0 : List Int) : Option (Bool) := impl_areTerms.l0 k l0 (l0.length : Int) 0
set_option maxHeartbeats 8000000 in
set_option maxRecDepth 100000 in
theorem impl_areTerms.calls (k : Nat) (A0 : Option Addr) (c0 : Nat) (l0 : List Int) (r : Bool) (w : World) (hr0 : Kd.C (Kd.int .i64) w A0 l0.length l0) (hc0 : l0.length ≤ c0) (h : impl_areTerms.f k l0 = some r) :
  Calls Try.prog 129 #[.slice A0 l0.length c0] w fun e w' => e = .returned (.bool r) ∧ Drawn0 w w' := by
 have HR0:=zA hr0;have HC0:=zA hc0;clear hr0 hc0
 have H : (impl_areTerms.l0 k l0 (l0.length : Int) 0) = some r:=h
 clear h
 have H':=zA H
 clear H
 go_enter Try.func129,Try.ntmps129
 go_wp2
 go_loopg [7] k (fun kq v7 w' => ∃ (x7_1 : Int),v7 = .int .i64 x7_1 ∧ Aside0 (impl_areTerms.l0 kq l0 (l0.length : Int) x7_1 = some r) ∧ Aside0 (kq ≤ k) ∧ Drawn0 w w')
 case atStart => exact ⟨(0),za,H',⟨Nat.le_refl _⟩,zdr⟩
 case round =>
  clear H';(try clear c1);obtain ⟨x7_1,rfl,HA,HK1,⟨m1,rfl⟩⟩:=hrel
  cases gk with
  | zero => exact absurd HA.out (by simp [impl_areTerms.l0])
  | succ k1 =>
   have H:=HA.out;clear HA;simp only [impl_areTerms.l0] at H
   by_cases c2 : x7_1 < (l0.length : Int)
   ·
    rw [if_pos c2] at H;have c2b0:=decide_eq_true c2;clear c2
    by_cases c3 : 0 ≤ x7_1
    ·
     rw [if_pos c3] at H;have c3b0:=decide_eq_true c3;clear c3
     by_cases c4 : x7_1 < (l0.length : Int)
     ·
      rw [if_pos c4] at H;have c4b0:=decide_eq_true c4;clear c4;obtain ⟨t188,A50,H⟩:=zYb.mp H;(try dsimp only at H);have A5:=zA A50;clear A50
      by_cases c6 : t188 = true
      ·
       subst c6
       rw [if_pos rfl] at H
       have H':=zA H
       clear H;have p187 : 0 ≤ (x7_1 : Int):=zXb ze;have q187 : x7_1 < (l0.length : Int):=zXb ze;obtain ⟨ad187,e187,hx187_0⟩:=Kd.at_int HR0.out x7_1 p187 q187
       cases e187
       replace p187:=eq_true p187;replace q187:=eq_true q187
       go_wp2_with (first|((with_reducible refine gate_callee (f:=113) rfl ?_);refine zgo (some 12) Try.func113 #[.int .i64 (rd l0 x7_1)] ?_;(with_reducible refine (impl_IsTerm.calls (rd l0 x7_1) true _ A5.out).mono ?_);rintro e w' ⟨rfl,⟨nd,rfl⟩⟩;refine ⟨_,rfl,?_⟩))
       go_roundg k1
       case measure => have:=HK1.out;omega
       case rel => exact ⟨(wrap64 (x7_1 + 1)),za,H',⟨by have:=HK1.out;omega⟩,zdr⟩
      ·
       replace c6:=Bool.eq_false_iff.mpr c6
       subst c6
       have H1 : (some false) = some r:=by rw [if_neg (show ¬ (false = true) by decide)] at H;exact H
       clear H;have H:=H1;clear H1
       obtain rfl:=Option.some.inj H
       have p187 : 0 ≤ (x7_1 : Int):=zXb ze;have q187 : x7_1 < (l0.length : Int):=zXb ze;obtain ⟨ad187,e187,hx187_0⟩:=Kd.at_int HR0.out x7_1 p187 q187
       cases e187
       replace p187:=eq_true p187;replace q187:=eq_true q187
       go_wp2_with (first|((with_reducible refine gate_callee (f:=113) rfl ?_);refine zgo (some 12) Try.func113 #[.int .i64 (rd l0 x7_1)] ?_;(with_reducible refine (impl_IsTerm.calls (rd l0 x7_1) false _ A5.out).mono ?_);rintro e w' ⟨rfl,⟨nd,rfl⟩⟩;refine ⟨_,rfl,?_⟩))
       go_ret
       exact ⟨za,zdr⟩
     ·
      rw [if_neg c4] at H
      exact absurd H (by simp)
    ·
     rw [if_neg c3] at H
     exact absurd H (by simp)
   ·
    rw [if_neg c2] at H;have c2b0:=decide_eq_false c2;clear c2
    obtain rfl:=Option.some.inj H
    go_wp2
    go_ret
    exact ⟨za,zdr⟩

/-! ### impl_Schema_takes: function 153 -/
def impl_Schema_takes.f (k : Nat) (l0_0 : List Int) (a1 : Int) (a2 : Int) : Option (Bool) := (impl_IsSchema.f k l0_0).bind fun t190 => (if t190 = true then ((impl_within.f a1 0 (wrap64 ((l0_0.length : Int) - 1))).bind fun t191 => (if t191 = true then (if 0 ≤ a1 then (if a1 < (l0_0.length : Int) then (some ((rd l0_0 a1) == a2)) else (none)) else (none)) else (some false))) else (some false))
set_option maxHeartbeats 8000000 in
set_option maxRecDepth 100000 in
theorem impl_Schema_takes.calls (k : Nat) (A0_0 : Option Addr) (c0_0 : Nat) (l0_0 : List Int) (a1 : Int) (a2 : Int) (r : Bool) (w : World) (hr0_0 : Kd.C (Kd.int .i64) w A0_0 l0_0.length l0_0) (hc0_0 : l0_0.length ≤ c0_0) (h : impl_Schema_takes.f k l0_0 a1 a2 = some r) :
  Calls Try.prog 153 #[.agg #[.slice A0_0 l0_0.length c0_0], .int .i64 a1, .int .i64 a2] w fun e w' => e = .returned (.bool r) ∧ Below w.heap.size w w' := by
 have hu65:=Try.underlying65;have HR0_0:=zA hr0_0;have HC0_0:=zA hc0_0;clear hr0_0 hc0_0;have HB:=zA (Below.refl w.heap.size w)
 have H : ((impl_IsSchema.f k l0_0).bind fun t190 => (if t190 = true then ((impl_within.f a1 0 (wrap64 ((l0_0.length : Int) - 1))).bind fun t191 => (if t191 = true then (if 0 ≤ a1 then (if a1 < (l0_0.length : Int) then (some ((rd l0_0 a1) == a2)) else (none)) else (none)) else (some false))) else (some false))) = some r:=h
 clear h;obtain ⟨t190,A40,H⟩:=zYb.mp H;(try dsimp only at H);have A4:=zA A40;clear A40
 by_cases c5 : t190 = true
 ·
  subst c5
  rw [if_pos rfl] at H;obtain ⟨t191,A60,H⟩:=zYb.mp H;(try dsimp only at H);have A6:=zA A60;clear A60
  by_cases c7 : t191 = true
  ·
   subst c7
   rw [if_pos rfl] at H
   by_cases c8 : 0 ≤ a1
   ·
    rw [if_pos c8] at H;have c8b0:=decide_eq_true c8;clear c8
    by_cases c9 : a1 < (l0_0.length : Int)
    ·
     rw [if_pos c9] at H;have c9b0:=decide_eq_true c9;clear c9
     obtain rfl:=Option.some.inj H
     go_enter Try.func153,Try.ntmps153
     go_wp2_with (first|((with_reducible refine gate_dst (N:=3) rfl ?_);(try (refine gate_guard (by rfl) ?_;dsimp only));refine zbx 3 #[.slice A0_0 l0_0.length c0_0] 65 ?_;intro gb189 hg w10 hbox hb;have BK189:=zA (hbox);have GW189:=zgw hg HB;have GE189:=zgw hg HB;replace HB:=zA (zJb (zz HB) hb);clear hb hbox hg;have hcz11_0:=zc (.slice A0_0 l0_0.length c0_0) BK189 0 rfl;have hfz11_0:=blk_frozen BK189.out 0)|((with_reducible refine gate_callee (f:=128) rfl ?_);refine zgo (some 8) Try.func128 #[.agg #[.slice A0_0 l0_0.length c0_0]] ?_;(with_reducible refine (impl_IsSchema.calls k _ _ l0_0 true _ ?side1 ?side2 A4.out).mono ?_);(case side1 => exact zsd HR0_0 HB);(case side2 => exact HC0_0.out);rintro e w12 ⟨rfl,hb⟩;refine ⟨_,rfl,?_⟩;replace BK189:=zbk BK189 hb;replace HB:=zA (zJb (zz HB) hb);(try clear hb);(try clear hb2);(try clear hk);(try clear hi);have hcz13_0:=zc (.slice A0_0 l0_0.length c0_0) BK189 0 rfl;have hfz13_0:=blk_frozen BK189.out 0)|(go_at_call 78;(with_reducible refine (impl_within.calls a1 0 (wrap64 ((l0_0.length : Int) - 1)) true _ A6.out).mono ?_);rintro e w' ⟨rfl,⟨nd,rfl⟩⟩;have p192 : 0 ≤ (a1 : Int):=zXb ze;have q192 : a1 < (l0_0.length : Int):=zXb ze;obtain ⟨ad192,e192,hx192_0⟩:=Kd.at_int HR0_0.out a1 p192 q192;cases e192;replace hx192_0:=zhx HB hx192_0;replace p192:=eq_true p192;replace q192:=eq_true q192))
     go_ret
     exact ⟨zrr,zz HB⟩
    ·
     rw [if_neg c9] at H
     exact absurd H (by simp)
   ·
    rw [if_neg c8] at H
    exact absurd H (by simp)
  ·
   replace c7:=Bool.eq_false_iff.mpr c7
   subst c7
   have H1 : (some false) = some r:=by rw [if_neg (show ¬ (false = true) by decide)] at H;exact H
   clear H;have H:=H1;clear H1
   obtain rfl:=Option.some.inj H
   go_enter Try.func153,Try.ntmps153
   go_wp2_with (first|((with_reducible refine gate_dst (N:=3) rfl ?_);(try (refine gate_guard (by rfl) ?_;dsimp only));refine zbx 3 #[.slice A0_0 l0_0.length c0_0] 65 ?_;intro gb189 hg w14 hbox hb;have BK189:=zA (hbox);have GW189:=zgw hg HB;have GE189:=zgw hg HB;replace HB:=zA (zJb (zz HB) hb);clear hb hbox hg;have hcz15_0:=zc (.slice A0_0 l0_0.length c0_0) BK189 0 rfl;have hfz15_0:=blk_frozen BK189.out 0)|((with_reducible refine gate_callee (f:=128) rfl ?_);refine zgo (some 8) Try.func128 #[.agg #[.slice A0_0 l0_0.length c0_0]] ?_;(with_reducible refine (impl_IsSchema.calls k _ _ l0_0 true _ ?side1 ?side2 A4.out).mono ?_);(case side1 => exact zsd HR0_0 HB);(case side2 => exact HC0_0.out);rintro e w16 ⟨rfl,hb⟩;refine ⟨_,rfl,?_⟩;replace BK189:=zbk BK189 hb;replace HB:=zA (zJb (zz HB) hb);(try clear hb);(try clear hb2);(try clear hk);(try clear hi);have hcz17_0:=zc (.slice A0_0 l0_0.length c0_0) BK189 0 rfl;have hfz17_0:=blk_frozen BK189.out 0)|(go_at_call 78;(with_reducible refine (impl_within.calls a1 0 (wrap64 ((l0_0.length : Int) - 1)) false _ A6.out).mono ?_);rintro e w' ⟨rfl,⟨nd,rfl⟩⟩))
   go_ret
   exact ⟨zrr,zz HB⟩
 ·
  replace c5:=Bool.eq_false_iff.mpr c5
  subst c5
  have H1 : (some false) = some r:=by rw [if_neg (show ¬ (false = true) by decide)] at H;exact H
  clear H;have H:=H1;clear H1
  obtain rfl:=Option.some.inj H
  go_enter Try.func153,Try.ntmps153
  go_wp2_with (first|((with_reducible refine gate_dst (N:=3) rfl ?_);(try (refine gate_guard (by rfl) ?_;dsimp only));refine zbx 3 #[.slice A0_0 l0_0.length c0_0] 65 ?_;intro gb189 hg w18 hbox hb;have BK189:=zA (hbox);have GW189:=zgw hg HB;have GE189:=zgw hg HB;replace HB:=zA (zJb (zz HB) hb);clear hb hbox hg;have hcz19_0:=zc (.slice A0_0 l0_0.length c0_0) BK189 0 rfl;have hfz19_0:=blk_frozen BK189.out 0)|((with_reducible refine gate_callee (f:=128) rfl ?_);refine zgo (some 8) Try.func128 #[.agg #[.slice A0_0 l0_0.length c0_0]] ?_;(with_reducible refine (impl_IsSchema.calls k _ _ l0_0 false _ ?side1 ?side2 A4.out).mono ?_);(case side1 => exact zsd HR0_0 HB);(case side2 => exact HC0_0.out);rintro e w20 ⟨rfl,hb⟩;refine ⟨_,rfl,?_⟩;replace BK189:=zbk BK189 hb;replace HB:=zA (zJb (zz HB) hb);(try clear hb);(try clear hb2);(try clear hk);(try clear hi)))
  go_ret
  exact ⟨zrr,zz HB⟩

/-! ### impl_IsAtom: function 130 -/
def impl_IsAtom.f (k : Nat) (l0_0 : List Int) (a1_0 : Int) (l1_1 : List Int) : Option (Bool) := (impl_Schema_takes.f k l0_0 a1_0 (l1_1.length : Int)).bind fun t195 => (if t195 = true then ((impl_areTerms.f k l1_1).bind fun t196 => (some t196)) else (some false))
set_option maxHeartbeats 8000000 in
set_option maxRecDepth 100000 in
theorem impl_IsAtom.calls (k : Nat) (A0_0 : Option Addr) (c0_0 : Nat) (l0_0 : List Int) (a1_0 : Int) (A1_1 : Option Addr) (c1_1 : Nat) (l1_1 : List Int) (r : Bool) (w : World) (hr0_0 : Kd.C (Kd.int .i64) w A0_0 l0_0.length l0_0) (hc0_0 : l0_0.length ≤ c0_0) (hr1_1 : Kd.C (Kd.int .i64) w A1_1 l1_1.length l1_1) (hc1_1 : l1_1.length ≤ c1_1) (h : impl_IsAtom.f k l0_0 a1_0 l1_1 = some r) :
  Calls Try.prog 130 #[.agg #[.slice A0_0 l0_0.length c0_0], .agg #[.int .i64 a1_0, .slice A1_1 l1_1.length c1_1]] w fun e w' => e = .returned (.bool r) ∧ Below w.heap.size w w' := by
 have hu65:=Try.underlying65;have hu97:=Try.underlying97;have HR0_0:=zA hr0_0;have HC0_0:=zA hc0_0;clear hr0_0 hc0_0;have HR1_1:=zA hr1_1;have HC1_1:=zA hc1_1;clear hr1_1 hc1_1;have HB:=zA (Below.refl w.heap.size w)
 have H : ((impl_Schema_takes.f k l0_0 a1_0 (l1_1.length : Int)).bind fun t195 => (if t195 = true then ((impl_areTerms.f k l1_1).bind fun t196 => (some t196)) else (some false))) = some r:=h
 clear h;obtain ⟨t195,A30,H⟩:=zYb.mp H;(try dsimp only at H);have A3:=zA A30;clear A30
 by_cases c4 : t195 = true
 ·
  subst c4
  rw [if_pos rfl] at H;obtain ⟨t196,A50,H⟩:=zYb.mp H;(try dsimp only at H);have A5:=zA A50;clear A50
  obtain rfl:=Option.some.inj H
  go_enter Try.func130,Try.ntmps130
  go_wp2_with (first|((with_reducible refine gate_dst (N:=2) rfl ?_);refine zbx 2 #[.slice A0_0 l0_0.length c0_0] 65 ?_;intro gb193 hg w6 hbox hb;have BK193:=zA (hbox);have GW193:=zgw hg HB;have GE193:=zgw hg HB;replace HB:=zA (zJb (zz HB) hb);clear hb hbox hg)|((with_reducible refine gate_dst (N:=3) rfl ?_);refine zbx 3 #[.int .i64 a1_0,.slice A1_1 l1_1.length c1_1] 97 ?_;intro gb194 hg w7 hbox hb;have BK194:=zA (hbox);have GW194:=zgw hg HB;have GE194:=zgw hg HB;replace HB:=zA (zJb (zz HB) hb);have NB193_194:=znb hg BK193;have NB194_193:=znc hg BK193;replace BK193:=zbk BK193 hb;clear hb hbox hg;have hnb8:=NB193_194.out;have hnc8:=NB194_193.out;have hcz9_0:=zc (.slice A0_0 l0_0.length c0_0) BK193 0 rfl;have hfz9_0:=blk_frozen BK193.out 0;have hcz10_0:=zc (.int .i64 a1_0) BK194 0 rfl;have hcz10_1:=zc (.slice A1_1 l1_1.length c1_1) BK194 1 rfl;have hfz10_0:=blk_frozen BK194.out 0;have hfz10_1:=blk_frozen BK194.out 1)|((with_reducible refine gate_callee (f:=153) rfl ?_);refine zgo (some 11) Try.func153 #[.agg #[.slice A0_0 l0_0.length c0_0],.int .i64 a1_0,.int .i64 (l1_1.length : Int)] ?_;(with_reducible refine (impl_Schema_takes.calls k _ _ l0_0 a1_0 (l1_1.length : Int) true _ ?side1 ?side2 A3.out).mono ?_);(case side1 => exact zsd HR0_0 HB);(case side2 => exact HC0_0.out);rintro e w11 ⟨rfl,hb⟩;refine ⟨_,rfl,?_⟩;replace BK193:=zbk BK193 hb;replace BK194:=zbk BK194 hb;replace HB:=zA (zJb (zz HB) hb);(try clear hb);(try clear hb2);(try clear hk);(try clear hi);have hcz12_0:=zc (.int .i64 a1_0) BK194 0 rfl;have hcz12_1:=zc (.slice A1_1 l1_1.length c1_1) BK194 1 rfl;have hfz12_0:=blk_frozen BK194.out 0;have hfz12_1:=blk_frozen BK194.out 1)|(go_at_call 129;(with_reducible refine (impl_areTerms.calls k _ _ l1_1 t196 _ ?side1 ?side2 A5.out).mono ?_);(case side1 => exact zsd HR1_1 HB);(case side2 => exact HC1_1.out);rintro e w' ⟨rfl,⟨nd,rfl⟩⟩))
  go_ret
  exact ⟨zrr,zz HB⟩
 ·
  replace c4:=Bool.eq_false_iff.mpr c4
  subst c4
  have H1 : (some false) = some r:=by rw [if_neg (show ¬ (false = true) by decide)] at H;exact H
  clear H;have H:=H1;clear H1
  obtain rfl:=Option.some.inj H
  go_enter Try.func130,Try.ntmps130
  go_wp2_with (first|((with_reducible refine gate_dst (N:=2) rfl ?_);refine zbx 2 #[.slice A0_0 l0_0.length c0_0] 65 ?_;intro gb193 hg w13 hbox hb;have BK193:=zA (hbox);have GW193:=zgw hg HB;have GE193:=zgw hg HB;replace HB:=zA (zJb (zz HB) hb);clear hb hbox hg)|((with_reducible refine gate_dst (N:=3) rfl ?_);refine zbx 3 #[.int .i64 a1_0,.slice A1_1 l1_1.length c1_1] 97 ?_;intro gb194 hg w14 hbox hb;have BK194:=zA (hbox);have GW194:=zgw hg HB;have GE194:=zgw hg HB;replace HB:=zA (zJb (zz HB) hb);have NB193_194:=znb hg BK193;have NB194_193:=znc hg BK193;replace BK193:=zbk BK193 hb;clear hb hbox hg;have hnb15:=NB193_194.out;have hnc15:=NB194_193.out;have hcz16_0:=zc (.slice A0_0 l0_0.length c0_0) BK193 0 rfl;have hfz16_0:=blk_frozen BK193.out 0;have hcz17_0:=zc (.int .i64 a1_0) BK194 0 rfl;have hcz17_1:=zc (.slice A1_1 l1_1.length c1_1) BK194 1 rfl;have hfz17_0:=blk_frozen BK194.out 0;have hfz17_1:=blk_frozen BK194.out 1)|((with_reducible refine gate_callee (f:=153) rfl ?_);refine zgo (some 11) Try.func153 #[.agg #[.slice A0_0 l0_0.length c0_0],.int .i64 a1_0,.int .i64 (l1_1.length : Int)] ?_;(with_reducible refine (impl_Schema_takes.calls k _ _ l0_0 a1_0 (l1_1.length : Int) false _ ?side1 ?side2 A3.out).mono ?_);(case side1 => exact zsd HR0_0 HB);(case side2 => exact HC0_0.out);rintro e w18 ⟨rfl,hb⟩;refine ⟨_,rfl,?_⟩;replace BK193:=zbk BK193 hb;replace BK194:=zbk BK194 hb;replace HB:=zA (zJb (zz HB) hb);(try clear hb);(try clear hb2);(try clear hk);(try clear hi)))
  go_ret
  exact ⟨zrr,zz HB⟩

/-! ### impl_IsVar: function 112 -/
def impl_IsVar.f (a0 : Int) : Option (Bool) := (impl_within.f a0 0 19).bind fun t197 => (some t197)
set_option maxHeartbeats 8000000 in
set_option maxRecDepth 100000 in
theorem impl_IsVar.calls (a0 : Int) (r : Bool) (w : World) (h : impl_IsVar.f a0 = some r) :
  Calls Try.prog 112 #[.int .i64 a0] w fun e w' => e = .returned (.bool r) ∧ Drawn0 w w' := by
 have H : ((impl_within.f a0 0 19).bind fun t197 => (some t197)) = some r:=h
 clear h;obtain ⟨t197,A20,H⟩:=zYb.mp H;(try dsimp only at H);have A2:=zA A20;clear A20
 obtain rfl:=Option.some.inj H
 go_enter Try.func112,Try.ntmps112
 go_wp2_with (first|((with_reducible refine gate_callee (f:=78) rfl ?_);refine zgo (some 4) Try.func78 #[.int .i64 a0,.int .i64 0,.int .i64 19] ?_;(with_reducible refine (impl_within.calls a0 0 19 t197 _ A2.out).mono ?_);rintro e w' ⟨rfl,⟨nd,rfl⟩⟩;refine ⟨_,rfl,?_⟩))
 go_ret
 exact ⟨za,zdr⟩

/-! ### slices_Index_int_int: function 159 -/
def slices_Index_int_int.l0 : Nat → List Int → Int → Int → Int → Option (Int)
 | 0, _, _, _, _ => none
 | k + 1, x0, x1, x7, x8 => if x8 < x7 then (if 0 ≤ x8 then (if x8 < (x0.length : Int) then (if x1 = (rd x0 x8) then (some x8) else (slices_Index_int_int.l0 k x0 x1 x7 (wrap64 (x8 + 1)))) else (none)) else (none)) else (some (-1))
def slices_Index_int_int.f (k : Nat) (l0 : List Int) (a1 : Int) : Option (Int) := slices_Index_int_int.l0 k l0 a1 (l0.length : Int) 0
set_option maxHeartbeats 8000000 in
set_option maxRecDepth 100000 in
theorem slices_Index_int_int.calls (k : Nat) (A0 : Option Addr) (c0 : Nat) (l0 : List Int) (a1 : Int) (r : Int) (w : World) (hr0 : Kd.C (Kd.int .i64) w A0 l0.length l0) (hc0 : l0.length ≤ c0) (h : slices_Index_int_int.f k l0 a1 = some r) :
  Calls Try.prog 159 #[.slice A0 l0.length c0, .int .i64 a1] w fun e w' => e = .returned (.int .i64 r) ∧ Drawn0 w w' := by
 have HR0:=zA hr0;have HC0:=zA hc0;clear hr0 hc0
 have H : (slices_Index_int_int.l0 k l0 a1 (l0.length : Int) 0) = some r:=h
 clear h
 have H':=zA H
 clear H
 go_enter Try.func159,Try.ntmps159
 go_wp2
 go_loopg [8] k (fun kq v8 w' => ∃ (x8_1 : Int),v8 = .int .i64 x8_1 ∧ Aside0 (slices_Index_int_int.l0 kq l0 a1 (l0.length : Int) x8_1 = some r) ∧ Aside0 (kq ≤ k) ∧ Drawn0 w w')
 case atStart => exact ⟨(0),za,H',⟨Nat.le_refl _⟩,zdr⟩
 case round =>
  clear H';(try clear c1);(try clear p2);obtain ⟨x8_1,rfl,HA,HK1,⟨m1,rfl⟩⟩:=hrel
  cases gk with
  | zero => exact absurd HA.out (by simp [slices_Index_int_int.l0])
  | succ k1 =>
   have H:=HA.out;clear HA;simp only [slices_Index_int_int.l0] at H
   by_cases c3 : x8_1 < (l0.length : Int)
   ·
    rw [if_pos c3] at H;have c3b0:=decide_eq_true c3;clear c3
    by_cases c4 : 0 ≤ x8_1
    ·
     rw [if_pos c4] at H;have c4b0:=decide_eq_true c4;clear c4
     by_cases c5 : x8_1 < (l0.length : Int)
     ·
      rw [if_pos c5] at H;have c5b0:=decide_eq_true c5;clear c5
      by_cases c6 : a1 = (rd l0 x8_1)
      ·
       rw [if_pos c6] at H;have c6b0:=beq_iff_eq.mpr c6;have c6b1:=bne_eq_false_iff_eq.mpr c6;clear c6
       obtain rfl:=Option.some.inj H
       have p198 : 0 ≤ (x8_1 : Int):=zXb ze;have q198 : x8_1 < (l0.length : Int):=zXb ze;obtain ⟨ad198,e198,hx198_0⟩:=Kd.at_int HR0.out x8_1 p198 q198
       cases e198
       replace p198:=eq_true p198;replace q198:=eq_true q198
       go_wp2
       go_ret
       exact ⟨za,zdr⟩
      ·
       rw [if_neg c6] at H;have c6b0:=beq_eq_false_iff_ne.mpr c6;have c6b1:=bne_iff_ne.mpr c6
       have H':=zA H
       clear H;have p198 : 0 ≤ (x8_1 : Int):=zXb ze;have q198 : x8_1 < (l0.length : Int):=zXb ze;obtain ⟨ad198,e198,hx198_0⟩:=Kd.at_int HR0.out x8_1 p198 q198
       cases e198
       replace p198:=eq_true p198;replace q198:=eq_true q198
       go_wp2
       go_roundg k1
       case measure => have:=HK1.out;omega
       case rel => exact ⟨(wrap64 (x8_1 + 1)),za,H',⟨by have:=HK1.out;omega⟩,zdr⟩
     ·
      rw [if_neg c5] at H
      exact absurd H (by simp)
    ·
     rw [if_neg c4] at H
     exact absurd H (by simp)
   ·
    rw [if_neg c3] at H;have c3b0:=decide_eq_false c3;clear c3
    obtain rfl:=Option.some.inj H
    go_wp2
    go_ret
    exact ⟨za,zdr⟩

/-! ### slices_Contains_int_int: function 158 -/
def slices_Contains_int_int.f (k : Nat) (l0 : List Int) (a1 : Int) : Option (Bool) := (slices_Index_int_int.f k l0 a1).bind fun t199 => (some (decide (t199 ≥ 0)))
set_option maxHeartbeats 8000000 in
set_option maxRecDepth 100000 in
theorem slices_Contains_int_int.calls (k : Nat) (A0 : Option Addr) (c0 : Nat) (l0 : List Int) (a1 : Int) (r : Bool) (w : World) (hr0 : Kd.C (Kd.int .i64) w A0 l0.length l0) (hc0 : l0.length ≤ c0) (h : slices_Contains_int_int.f k l0 a1 = some r) :
  Calls Try.prog 158 #[.slice A0 l0.length c0, .int .i64 a1] w fun e w' => e = .returned (.bool r) ∧ Drawn0 w w' := by
 have HR0:=zA hr0;have HC0:=zA hc0;clear hr0 hc0
 have H : ((slices_Index_int_int.f k l0 a1).bind fun t199 => (some (decide (t199 ≥ 0)))) = some r:=h
 clear h;obtain ⟨t199,A30,H⟩:=zYb.mp H;(try dsimp only at H);have A3:=zA A30;clear A30
 obtain rfl:=Option.some.inj H
 go_enter Try.func158,Try.ntmps158
 go_wp2_with (first|((with_reducible refine gate_callee (f:=159) rfl ?_);refine zgo (some 7) Try.func159 #[.slice A0 l0.length c0,.int .i64 a1] ?_;(with_reducible refine (slices_Index_int_int.calls k _ _ l0 a1 t199 _ ?side1 ?side2 A3.out).mono ?_);(case side1 => repeat (first|exact HR0.out|(with_reducible refine zBb ?_ _)|(with_reducible refine zAb ?_ _)|(with_reducible refine zX ?_)));(case side2 => exact HC0.out);rintro e w' ⟨rfl,⟨nd,rfl⟩⟩;refine ⟨_,rfl,?_⟩))
 go_ret
 exact ⟨za,zdr⟩

/-! ### impl_Query_occurs: function 154 -/
def impl_Query_occurs.l0 : Nat → Int → List (S97) → Int → Int → Option (Bool)
 | 0, _, _, _, _ => none
 | k + 1, x1, x8, x9, x10 => if x10 < x9 then (if 0 ≤ x10 then (if x10 < (x8.length : Int) then ((slices_Contains_int_int.f k ((rd_T97 x8 x10).f1) x1).bind fun t203 => (if t203 = true then (some true) else (impl_Query_occurs.l0 k x1 x8 x9 (wrap64 (x10 + 1))))) else (none)) else (none)) else (some false)
def impl_Query_occurs.f (k : Nat) (l0_0 : List Int) (l0_1 : List (S97)) (a1 : Int) : Option (Bool) := impl_Query_occurs.l0 k a1 l0_1 (l0_1.length : Int) 0
set_option maxHeartbeats 8000000 in
set_option maxRecDepth 100000 in
theorem impl_Query_occurs.calls (k : Nat) (A0_0 : Option Addr) (c0_0 : Nat) (l0_0 : List Int) (A0_1 : Option Addr) (c0_1 : Nat) (l0_1 : List (S97)) (a1 : Int) (r : Bool) (w : World) (hr0_0 : Kd.C (Kd.int .i64) w A0_0 l0_0.length l0_0) (hc0_0 : l0_0.length ≤ c0_0) (hr0_1 : Kd.C k97 w A0_1 l0_1.length l0_1) (hc0_1 : l0_1.length ≤ c0_1) (h : impl_Query_occurs.f k l0_0 l0_1 a1 = some r) :
  Calls Try.prog 154 #[.agg #[.slice A0_0 l0_0.length c0_0, .slice A0_1 l0_1.length c0_1], .int .i64 a1] w fun e w' => e = .returned (.bool r) ∧ Below w.heap.size w w' := by
 have hu46:=Try.underlying46;have hu97:=Try.underlying97;have HR0_0:=zA hr0_0;have HC0_0:=zA hc0_0;clear hr0_0 hc0_0;have HR0_1:=zA hr0_1;have HC0_1:=zA hc0_1;clear hr0_1 hc0_1;have HB:=zA (Below.refl w.heap.size w)
 have H : (impl_Query_occurs.l0 k a1 l0_1 (l0_1.length : Int) 0) = some r:=h
 clear h
 have H':=zA H
 clear H
 go_enter Try.func154,Try.ntmps154
 go_wp2_with (first|((with_reducible refine gate_dst (N:=2) rfl ?_);refine zbx 2 #[.slice A0_0 l0_0.length c0_0,.slice A0_1 l0_1.length c0_1] 46 ?_;intro gb200 hg w3 hbox hb;have BK200:=zA (hbox);have GW200:=zgw hg HB;have GE200:=zgw hg HB;replace HB:=zA (zJb (zz HB) hb);clear hb hbox hg;have hcz4_0:=zc (.slice A0_0 l0_0.length c0_0) BK200 0 rfl;have hcz4_1:=zc (.slice A0_1 l0_1.length c0_1) BK200 1 rfl;have hfz4_0:=blk_frozen BK200.out 0;have hfz4_1:=blk_frozen BK200.out 1))
 go_loopg [10] k (fun kq v10 w' => ∃ (x10_1 : Int),v10 = .int .i64 x10_1 ∧ Aside0 (impl_Query_occurs.l0 kq a1 l0_1 (l0_1.length : Int) x10_1 = some r) ∧ Aside0 (kq ≤ k) ∧ Aside0 (w'.heap[gb200]? = some (.cells #[(.slice A0_0 l0_0.length c0_0),(.slice A0_1 l0_1.length c0_1)] 46 (0,0))) ∧ Aside0 (Below w.heap.size w w'))
 case atStart => exact ⟨(0),za,H',⟨Nat.le_refl _⟩,⟨zx BK200⟩,⟨zz HB⟩⟩
 case round =>
  clear H';(try clear c1);(try clear p2);(try clear hcz4_0);(try clear hcz4_1);(try clear hfz4_0);(try clear hfz4_1);obtain ⟨x10_1,rfl,HA,HK1,BK200,HB⟩:=hrel
  cases gk with
  | zero => exact absurd HA.out (by simp [impl_Query_occurs.l0])
  | succ k1 =>
   have H:=HA.out;clear HA;simp only [impl_Query_occurs.l0] at H
   by_cases c5 : x10_1 < (l0_1.length : Int)
   ·
    rw [if_pos c5] at H;have c5b0:=decide_eq_true c5;clear c5
    by_cases c6 : 0 ≤ x10_1
    ·
     rw [if_pos c6] at H;have c6b0:=decide_eq_true c6;clear c6
     by_cases c7 : x10_1 < (l0_1.length : Int)
     ·
      rw [if_pos c7] at H;have c7b0:=decide_eq_true c7;clear c7;obtain ⟨t203,A80,H⟩:=zYb.mp H;(try dsimp only at H);have A8:=zA A80;clear A80
      by_cases c9 : t203 = true
      ·
       subst c9
       rw [if_pos rfl] at H
       obtain rfl:=Option.some.inj H
       have p201 : 0 ≤ (x10_1 : Int):=zXb ze;have q201 : x10_1 < (l0_1.length : Int):=zXb ze;obtain ⟨ad201,A201_1,c201_1,e201,hx201_0,hx201_1,hl201_1,hi201_1⟩:=at_T97 HR0_1.out x10_1 p201 q201
       cases e201
       replace hx201_0:=zhx HB hx201_0;replace hx201_1:=zhx HB hx201_1;have HR201_1:=zA hi201_1;have HC201_1:=zA hl201_1;clear hi201_1 hl201_1;replace p201:=eq_true p201;replace q201:=eq_true q201
       go_wp2_with (first|((with_reducible refine gate_dst (N:=6) rfl ?_);refine zbx 6 #[.int .i64 0,.slice none 0 0] 97 ?_;intro gb202 hg w10 hbox hb;have BK202:=zA (hbox);have GW202:=zgw hg HB;have GE202:=zgw hg HB;replace HB:=zA (zJb (zz HB) hb);have NB200_202:=znb hg BK200;have NB202_200:=znc hg BK200;replace BK200:=zbk BK200 hb;clear hb hbox hg;have hnb11:=NB202_200.out;have hnc11:=NB200_202.out;have hcz12_0:=zc (.int .i64 0) BK202 0 rfl;have hcz12_1:=zc (.slice none 0 0) BK202 1 rfl;have hfz12_0:=blk_frozen BK202.out 0;have hfz12_1:=blk_frozen BK202.out 1)|((with_reducible refine gate_callee (f:=158) rfl ?_);refine zgo (some 17) Try.func158 #[.slice A201_1 ((rd_T97 l0_1 x10_1).f1).length c201_1,.int .i64 a1] ?_;(with_reducible refine (slices_Contains_int_int.calls k1 _ _ ((rd_T97 l0_1 x10_1).f1) a1 true _ ?side1 ?side2 A8.out).mono ?_);(case side1 => exact zKb HR201_1.out (zz HB));(case side2 => exact HC201_1.out);rintro e w' ⟨rfl,⟨nd,rfl⟩⟩;refine ⟨_,rfl,?_⟩))
       go_ret
       exact ⟨zrr,zz HB⟩
      ·
       replace c9:=Bool.eq_false_iff.mpr c9
       subst c9
       have H1 : (impl_Query_occurs.l0 k1 a1 l0_1 (l0_1.length : Int) (wrap64 (x10_1 + 1))) = some r:=by rw [if_neg (show ¬ (false = true) by decide)] at H;exact H
       clear H;have H:=H1;clear H1
       have H':=zA H
       clear H;have p201 : 0 ≤ (x10_1 : Int):=zXb ze;have q201 : x10_1 < (l0_1.length : Int):=zXb ze;obtain ⟨ad201,A201_1,c201_1,e201,hx201_0,hx201_1,hl201_1,hi201_1⟩:=at_T97 HR0_1.out x10_1 p201 q201
       cases e201
       replace hx201_0:=zhx HB hx201_0;replace hx201_1:=zhx HB hx201_1;have HR201_1:=zA hi201_1;have HC201_1:=zA hl201_1;clear hi201_1 hl201_1;replace p201:=eq_true p201;replace q201:=eq_true q201
       go_wp2_with (first|((with_reducible refine gate_dst (N:=6) rfl ?_);refine zbx 6 #[.int .i64 0,.slice none 0 0] 97 ?_;intro gb202 hg w13 hbox hb;have BK202:=zA (hbox);have GW202:=zgw hg HB;have GE202:=zgw hg HB;replace HB:=zA (zJb (zz HB) hb);have NB200_202:=znb hg BK200;have NB202_200:=znc hg BK200;replace BK200:=zbk BK200 hb;clear hb hbox hg;have hnb14:=NB202_200.out;have hnc14:=NB200_202.out;have hcz15_0:=zc (.int .i64 0) BK202 0 rfl;have hcz15_1:=zc (.slice none 0 0) BK202 1 rfl;have hfz15_0:=blk_frozen BK202.out 0;have hfz15_1:=blk_frozen BK202.out 1)|((with_reducible refine gate_callee (f:=158) rfl ?_);refine zgo (some 17) Try.func158 #[.slice A201_1 ((rd_T97 l0_1 x10_1).f1).length c201_1,.int .i64 a1] ?_;(with_reducible refine (slices_Contains_int_int.calls k1 _ _ ((rd_T97 l0_1 x10_1).f1) a1 false _ ?side1 ?side2 A8.out).mono ?_);(case side1 => exact zKb HR201_1.out (zz HB));(case side2 => exact HC201_1.out);rintro e w' ⟨rfl,⟨nd,rfl⟩⟩;refine ⟨_,rfl,?_⟩))
       go_roundg k1
       case measure => have:=HK1.out;omega
       case rel => exact ⟨(wrap64 (x10_1 + 1)),za,H',⟨by have:=HK1.out;omega⟩,⟨by (with_reducible repeat (first|refine zF ?_ _|refine zI ?_|refine zG ?_ _));refine zUb ?_ NB200_202.out _;(with_reducible repeat (first|refine zF ?_ _|refine zI ?_|refine zG ?_ _));refine zUb ?_ NB200_202.out _;(with_reducible repeat (first|refine zF ?_ _|refine zI ?_|refine zG ?_ _));exact BK200.out⟩,⟨zz HB⟩⟩
     ·
      rw [if_neg c7] at H
      exact absurd H (by simp)
    ·
     rw [if_neg c6] at H
     exact absurd H (by simp)
   ·
    rw [if_neg c5] at H;have c5b0:=decide_eq_false c5;clear c5
    obtain rfl:=Option.some.inj H
    go_wp2
    go_ret
    exact ⟨zrr,zz HB⟩

end Go.Proofs.Ytanbgnjfllpkgaa.QFnMappings
