/- Walks through the Go functions that FnExactIsMapping reaches: each call returns what the Lean function beside it says, within the bounds that the theorem names. -/
import Derived.Test.YtanbgnjfllpkgaaQFnExactIsMappingx0
import Derived.Test.YtanbgnjfllpkgaaQFnExactIsMappingx1
import Derived.Test.YtanbgnjfllpkgaaQFnExactIsMappingx6
import Derived.Test.YtanbgnjfllpkgaaQFnExactIsMappingx7
namespace Go.Proofs.Ytanbgnjfllpkgaa.QFnExactIsMapping
open Go.RowKit Go.Proofs.YtanbgnjfllpkgaaW.PrintWords Go.Proofs.YtanbgnjfllpkgaaW.PrintLast Go.Proofs.YtanbgnjfllpkgaaW.PrintMore
attribute [local go_sem] max2_int min2_int max_two min_two max_three min_three max_four min_four   -- for this text's walks alone
set_option linter.unusedVariables false
set_option linter.unusedSimpArgs false


/-! ### spec_IsMapping: function 48 -/
def spec_IsMapping.f (k : Nat) (l0_0 : List Int) (l1_0 : List Int) (l1_1 : List (S97)) (l2_0 : List Int) (l2_1 : List (S97)) (l3 : List Int) : Option (Bool) := (spec_IsQuery.f k l0_0 l1_0 l1_1).bind fun t229 => (if t229 = true then ((spec_IsQuery.f k l0_0 l2_0 l2_1).bind fun t230 => (if t230 = true then ((spec_l7Is.f k l1_0 l1_1 l2_0 l2_1 l3).bind fun t231 => (some t231)) else (some false))) else (some false))
theorem spec_IsMapping.mono : ∀ a0 a1 a2 a3 a4 a5 k, LeO (spec_IsMapping.f k a0 a1 a2 a3 a4 a5) (spec_IsMapping.f (k + 1) a0 a1 a2 a3 a4 a5) := by
 intro a0 a1 a2 a3 a4 a5 k
 unfold spec_IsMapping.f
 repeat' first
   | (with_reducible exact spec_IsQuery.mono _ _ _ _)
   | (with_reducible exact spec_l7Is.mono _ _ _ _ _ _)
   | (with_reducible exact LeO.refl _)
   | (with_reducible exact LeO.none _)
   | (with_reducible refine LeO.ite ?_ ?_)
   | (with_reducible refine LeO.bind ?_ (fun _ => ?_))
   | exact LeO.none _
   | refine LeO.ite ?_ ?_
   | refine LeO.bind ?_ (fun _ => ?_)
set_option maxHeartbeats 8000000 in
set_option maxRecDepth 100000 in
theorem spec_IsMapping.calls (k : Nat) (A0_0 : Option Addr) (c0_0 : Nat) (l0_0 : List Int) (A1_0 : Option Addr) (c1_0 : Nat) (l1_0 : List Int) (A1_1 : Option Addr) (c1_1 : Nat) (l1_1 : List (S97)) (A2_0 : Option Addr) (c2_0 : Nat) (l2_0 : List Int) (A2_1 : Option Addr) (c2_1 : Nat) (l2_1 : List (S97)) (A3 : Option Addr) (c3 : Nat) (l3 : List Int) (r : Bool) (w : World) (hr0_0 : Kd.C (Kd.int .i64) w A0_0 l0_0.length l0_0) (hc0_0 : l0_0.length ≤ c0_0) (hr1_0 : Kd.C (Kd.int .i64) w A1_0 l1_0.length l1_0) (hc1_0 : l1_0.length ≤ c1_0) (hr1_1 : Kd.C k97 w A1_1 l1_1.length l1_1) (hc1_1 : l1_1.length ≤ c1_1) (hr2_0 : Kd.C (Kd.int .i64) w A2_0 l2_0.length l2_0) (hc2_0 : l2_0.length ≤ c2_0) (hr2_1 : Kd.C k97 w A2_1 l2_1.length l2_1) (hc2_1 : l2_1.length ≤ c2_1) (hr3 : Kd.C (Kd.int .i64) w A3 l3.length l3) (hc3 : l3.length ≤ c3) (h : spec_IsMapping.f k l0_0 l1_0 l1_1 l2_0 l2_1 l3 = some r) :
  Calls Try.prog 48 #[.agg #[.slice A0_0 l0_0.length c0_0], .agg #[.slice A1_0 l1_0.length c1_0, .slice A1_1 l1_1.length c1_1], .agg #[.slice A2_0 l2_0.length c2_0, .slice A2_1 l2_1.length c2_1], .slice A3 l3.length c3] w fun e w' => e = .returned (.bool r) ∧ Below w.heap.size w w' := by
 have hu65:=Try.underlying65;have hu46:=Try.underlying46;have HR0_0:=zA hr0_0;have HC0_0:=zA hc0_0;clear hr0_0 hc0_0;have HR1_0:=zA hr1_0;have HC1_0:=zA hc1_0;clear hr1_0 hc1_0;have HR1_1:=zA hr1_1;have HC1_1:=zA hc1_1;clear hr1_1 hc1_1;have HR2_0:=zA hr2_0;have HC2_0:=zA hc2_0;clear hr2_0 hc2_0;have HR2_1:=zA hr2_1;have HC2_1:=zA hc2_1;clear hr2_1 hc2_1;have HR3:=zA hr3;have HC3:=zA hc3;clear hr3 hc3;have HB:=zA (Below.refl w.heap.size w)
 have H : ((spec_IsQuery.f k l0_0 l1_0 l1_1).bind fun t229 => (if t229 = true then ((spec_IsQuery.f k l0_0 l2_0 l2_1).bind fun t230 => (if t230 = true then ((spec_l7Is.f k l1_0 l1_1 l2_0 l2_1 l3).bind fun t231 => (some t231)) else (some false))) else (some false))) = some r:=h
 clear h;replace H:=Option.bind_eq_some_iff.mp H;obtain ⟨t229,A50,H⟩:=H;(try dsimp only at H);have A5:=zA A50;clear A50
 by_cases c6 : t229 = true
 ·
  subst c6
  rw [if_pos rfl] at H;replace H:=Option.bind_eq_some_iff.mp H;obtain ⟨t230,A70,H⟩:=H;(try dsimp only at H);have A7:=zA A70;clear A70
  by_cases c8 : t230 = true
  ·
   subst c8
   rw [if_pos rfl] at H;replace H:=Option.bind_eq_some_iff.mp H;obtain ⟨t231,A90,H⟩:=H;(try dsimp only at H);have A9:=zA A90;clear A90
   obtain rfl:=Option.some.inj H
   go_enter Try.func48,Try.ntmps48
   go_wp2_with (first|((with_reducible refine gate_dst (N:=4) rfl ?_);refine box_event ?hg (N:=4) ?hd (cs:=#[.slice A0_0 l0_0.length c0_0]) (t:=65) ?hr ?_;(case hd => rfl);(case hg => rfl);(case hr => first|(go_simp;done)|(go_simp;rfl));intro gb226 hg w10 hbox hb;have BK226:=zA (hbox);have GW226:=zA ((by rw [hg];exact (zT (zz HB)) : w.heap.size ≤ gb226));have GE226:=zA ((by rw [hg];exact (zT (zz HB)) : w.heap.size ≤ gb226));replace HB:=zA (zJb (zz HB) hb);clear hb hbox hg)|((with_reducible refine gate_dst (N:=5) rfl ?_);refine box_event ?hg (N:=5) ?hd (cs:=#[.slice A1_0 l1_0.length c1_0,.slice A1_1 l1_1.length c1_1]) (t:=46) ?hr ?_;(case hd => rfl);(case hg => rfl);(case hr => first|(go_simp;done)|(go_simp;rfl));intro gb227 hg w11 hbox hb;have BK227:=zA (hbox);have GW227:=zA ((by rw [hg];exact (zT (zz HB)) : w.heap.size ≤ gb227));have GE227:=zA ((by rw [hg];exact (zT (zz HB)) : w.heap.size ≤ gb227));replace HB:=zA (zJb (zz HB) hb);have NB226_227:=zA ((by rw [hg];exact Nat.ne_of_lt (blk_lt (g:=gb226) (o:=.cells #[.slice A0_0 l0_0.length c0_0] 65 (0,0)) (zx BK226)) : gb226 ≠ gb227));have NB227_226:=zA ((by rw [hg];exact Nat.ne_of_gt (blk_lt (g:=gb226) (o:=.cells #[.slice A0_0 l0_0.length c0_0] 65 (0,0)) (zx BK226)) : gb227 ≠ gb226));replace BK226:=zA (zQ (g:=gb226) (o:=.cells #[.slice A0_0 l0_0.length c0_0] 65 (0,0)) (zx BK226) hb);clear hb hbox hg)|((with_reducible refine gate_dst (N:=6) rfl ?_);refine box_event ?hg (N:=6) ?hd (cs:=#[.slice A2_0 l2_0.length c2_0,.slice A2_1 l2_1.length c2_1]) (t:=46) ?hr ?_;(case hd => rfl);(case hg => rfl);(case hr => first|(go_simp;done)|(go_simp;rfl));intro gb228 hg w12 hbox hb;have BK228:=zA (hbox);have GW228:=zA ((by rw [hg];exact (zT (zz HB)) : w.heap.size ≤ gb228));have GE228:=zA ((by rw [hg];exact (zT (zz HB)) : w.heap.size ≤ gb228));replace HB:=zA (zJb (zz HB) hb);have NB226_228:=zA ((by rw [hg];exact Nat.ne_of_lt (blk_lt (g:=gb226) (o:=.cells #[.slice A0_0 l0_0.length c0_0] 65 (0,0)) (zx BK226)) : gb226 ≠ gb228));have NB228_226:=zA ((by rw [hg];exact Nat.ne_of_gt (blk_lt (g:=gb226) (o:=.cells #[.slice A0_0 l0_0.length c0_0] 65 (0,0)) (zx BK226)) : gb228 ≠ gb226));replace BK226:=zA (zQ (g:=gb226) (o:=.cells #[.slice A0_0 l0_0.length c0_0] 65 (0,0)) (zx BK226) hb);have NB227_228:=zA ((by rw [hg];exact Nat.ne_of_lt (blk_lt (g:=gb227) (o:=.cells #[.slice A1_0 l1_0.length c1_0,.slice A1_1 l1_1.length c1_1] 46 (0,0)) (zx BK227)) : gb227 ≠ gb228));have NB228_227:=zA ((by rw [hg];exact Nat.ne_of_gt (blk_lt (g:=gb227) (o:=.cells #[.slice A1_0 l1_0.length c1_0,.slice A1_1 l1_1.length c1_1] 46 (0,0)) (zx BK227)) : gb228 ≠ gb227));replace BK227:=zA (zQ (g:=gb227) (o:=.cells #[.slice A1_0 l1_0.length c1_0,.slice A1_1 l1_1.length c1_1] 46 (0,0)) (zx BK227) hb);clear hb hbox hg;have hnb13:=NB226_227.out;have hnc13:=NB227_226.out;have hnb14:=NB226_228.out;have hnc14:=NB228_226.out;have hcz15_0:=zc (.slice A0_0 l0_0.length c0_0) BK226 0 rfl;have hfz15_0:=blk_frozen BK226.out 0;have hnb16:=NB227_228.out;have hnc16:=NB228_227.out;have hcz17_0:=zc (.slice A1_0 l1_0.length c1_0) BK227 0 rfl;have hcz17_1:=zc (.slice A1_1 l1_1.length c1_1) BK227 1 rfl;have hfz17_0:=blk_frozen BK227.out 0;have hfz17_1:=blk_frozen BK227.out 1)|((with_reducible refine gate_callee (f:=101) rfl ?_);refine goesL_ (some 11) rfl rfl Try.func101 (by kernel_rfl) rfl #[.agg #[.slice A0_0 l0_0.length c0_0],.agg #[.slice A1_0 l1_0.length c1_0,.slice A1_1 l1_1.length c1_1]] rfl (by (try simp only [zCb,zMb,zNb]);first|done|rfl|(simp only [zLb,zDb];rfl)) ?_;(with_reducible refine (spec_IsQuery.calls k _ _ l0_0 _ _ l1_0 _ _ l1_1 true _ ?side1 ?side2 ?side3 ?side4 ?side5 ?side6 A5.out).mono ?_);(case side1 => repeat (first|exact (zKb HR0_0.out HB.out)|(with_reducible refine zBb ?_ _)|(with_reducible refine zAb ?_ _)|(with_reducible refine zX ?_)));(case side2 => exact HC0_0.out);(case side3 => repeat (first|exact (zKb HR1_0.out HB.out)|(with_reducible refine zBb ?_ _)|(with_reducible refine zAb ?_ _)|(with_reducible refine zX ?_)));(case side4 => exact HC1_0.out);(case side5 => repeat (first|exact (zKb HR1_1.out HB.out)|(with_reducible refine zBb ?_ _)|(with_reducible refine zAb ?_ _)|(with_reducible refine zX ?_)));(case side6 => exact HC1_1.out);rintro e w18 ⟨rfl,hb⟩;refine ⟨_,rfl,?_⟩;replace BK226:=zA (zQ (g:=gb226) (o:=.cells #[.slice A0_0 l0_0.length c0_0] 65 (0,0)) (zx BK226) hb);replace BK227:=zA (zQ (g:=gb227) (o:=.cells #[.slice A1_0 l1_0.length c1_0,.slice A1_1 l1_1.length c1_1] 46 (0,0)) (zx BK227) hb);replace BK228:=zA (zQ (g:=gb228) (o:=.cells #[.slice A2_0 l2_0.length c2_0,.slice A2_1 l2_1.length c2_1] 46 (0,0)) (zx BK228) hb);replace HB:=zA (zJb (zz HB) hb);(try clear hb);(try clear hb2);(try clear hk);(try clear hi);have hcz19_0:=zc (.slice A0_0 l0_0.length c0_0) BK226 0 rfl;have hfz19_0:=blk_frozen BK226.out 0;have hcz20_0:=zc (.slice A2_0 l2_0.length c2_0) BK228 0 rfl;have hcz20_1:=zc (.slice A2_1 l2_1.length c2_1) BK228 1 rfl;have hfz20_0:=blk_frozen BK228.out 0;have hfz20_1:=blk_frozen BK228.out 1)|(go_at_call 101;(with_reducible refine (spec_IsQuery.calls k _ _ l0_0 _ _ l2_0 _ _ l2_1 true _ ?side1 ?side2 ?side3 ?side4 ?side5 ?side6 A7.out).mono ?_);(case side1 => repeat (first|exact (zKb HR0_0.out HB.out)|(with_reducible refine zBb ?_ _)|(with_reducible refine zAb ?_ _)|(with_reducible refine zX ?_)));(case side2 => exact HC0_0.out);(case side3 => repeat (first|exact (zKb HR2_0.out HB.out)|(with_reducible refine zBb ?_ _)|(with_reducible refine zAb ?_ _)|(with_reducible refine zX ?_)));(case side4 => exact HC2_0.out);(case side5 => repeat (first|exact (zKb HR2_1.out HB.out)|(with_reducible refine zBb ?_ _)|(with_reducible refine zAb ?_ _)|(with_reducible refine zX ?_)));(case side6 => exact HC2_1.out);rintro e w21 ⟨rfl,hb⟩;replace BK226:=zA (zQ (g:=gb226) (o:=.cells #[.slice A0_0 l0_0.length c0_0] 65 (0,0)) (zx BK226) hb);replace BK227:=zA (zQ (g:=gb227) (o:=.cells #[.slice A1_0 l1_0.length c1_0,.slice A1_1 l1_1.length c1_1] 46 (0,0)) (zx BK227) hb);replace BK228:=zA (zQ (g:=gb228) (o:=.cells #[.slice A2_0 l2_0.length c2_0,.slice A2_1 l2_1.length c2_1] 46 (0,0)) (zx BK228) hb);replace HB:=zA (zJb (zz HB) hb);(try clear hb);(try clear hb2);(try clear hk);(try clear hi);have hcz22_0:=zc (.slice A1_0 l1_0.length c1_0) BK227 0 rfl;have hcz22_1:=zc (.slice A1_1 l1_1.length c1_1) BK227 1 rfl;have hfz22_0:=blk_frozen BK227.out 0;have hfz22_1:=blk_frozen BK227.out 1;have hcz23_0:=zc (.slice A2_0 l2_0.length c2_0) BK228 0 rfl;have hcz23_1:=zc (.slice A2_1 l2_1.length c2_1) BK228 1 rfl;have hfz23_0:=blk_frozen BK228.out 0;have hfz23_1:=blk_frozen BK228.out 1)|(go_at_call 102;(with_reducible refine (spec_l7Is.calls k _ _ l1_0 _ _ l1_1 _ _ l2_0 _ _ l2_1 _ _ l3 t231 _ ?side1 ?side2 ?side3 ?side4 ?side5 ?side6 ?side7 ?side8 ?side9 ?side10 A9.out).mono ?_);(case side1 => repeat (first|exact (zKb HR1_0.out HB.out)|(with_reducible refine zBb ?_ _)|(with_reducible refine zAb ?_ _)|(with_reducible refine zX ?_)));(case side2 => exact HC1_0.out);(case side3 => repeat (first|exact (zKb HR1_1.out HB.out)|(with_reducible refine zBb ?_ _)|(with_reducible refine zAb ?_ _)|(with_reducible refine zX ?_)));(case side4 => exact HC1_1.out);(case side5 => repeat (first|exact (zKb HR2_0.out HB.out)|(with_reducible refine zBb ?_ _)|(with_reducible refine zAb ?_ _)|(with_reducible refine zX ?_)));(case side6 => exact HC2_0.out);(case side7 => repeat (first|exact (zKb HR2_1.out HB.out)|(with_reducible refine zBb ?_ _)|(with_reducible refine zAb ?_ _)|(with_reducible refine zX ?_)));(case side8 => exact HC2_1.out);(case side9 => repeat (first|exact (zKb HR3.out HB.out)|(with_reducible refine zBb ?_ _)|(with_reducible refine zAb ?_ _)|(with_reducible refine zX ?_)));(case side10 => exact HC3.out);rintro e w24 ⟨rfl,hb⟩;replace BK226:=zA (zQ (g:=gb226) (o:=.cells #[.slice A0_0 l0_0.length c0_0] 65 (0,0)) (zx BK226) hb);replace BK227:=zA (zQ (g:=gb227) (o:=.cells #[.slice A1_0 l1_0.length c1_0,.slice A1_1 l1_1.length c1_1] 46 (0,0)) (zx BK227) hb);replace BK228:=zA (zQ (g:=gb228) (o:=.cells #[.slice A2_0 l2_0.length c2_0,.slice A2_1 l2_1.length c2_1] 46 (0,0)) (zx BK228) hb);replace HB:=zA (zJb (zz HB) hb);(try clear hb);(try clear hb2);(try clear hk);(try clear hi)))
   go_ret
   exact ⟨by first|rfl|(simp [errW_none,errW_some] <;> rfl)|(simp [*,errW_none,errW_some] <;> rfl),zz HB⟩
  ·
   replace c8:=Bool.eq_false_iff.mpr c8
   subst c8
   have H1 : (some false) = some r:=by rw [if_neg (show ¬ (false = true) by decide)] at H;exact H
   clear H;have H:=H1;clear H1
   obtain rfl:=Option.some.inj H
   go_enter Try.func48,Try.ntmps48
   go_wp2_with (first|((with_reducible refine gate_dst (N:=4) rfl ?_);refine box_event ?hg (N:=4) ?hd (cs:=#[.slice A0_0 l0_0.length c0_0]) (t:=65) ?hr ?_;(case hd => rfl);(case hg => rfl);(case hr => first|(go_simp;done)|(go_simp;rfl));intro gb226 hg w25 hbox hb;have BK226:=zA (hbox);have GW226:=zA ((by rw [hg];exact (zT (zz HB)) : w.heap.size ≤ gb226));have GE226:=zA ((by rw [hg];exact (zT (zz HB)) : w.heap.size ≤ gb226));replace HB:=zA (zJb (zz HB) hb);clear hb hbox hg)|((with_reducible refine gate_dst (N:=5) rfl ?_);refine box_event ?hg (N:=5) ?hd (cs:=#[.slice A1_0 l1_0.length c1_0,.slice A1_1 l1_1.length c1_1]) (t:=46) ?hr ?_;(case hd => rfl);(case hg => rfl);(case hr => first|(go_simp;done)|(go_simp;rfl));intro gb227 hg w26 hbox hb;have BK227:=zA (hbox);have GW227:=zA ((by rw [hg];exact (zT (zz HB)) : w.heap.size ≤ gb227));have GE227:=zA ((by rw [hg];exact (zT (zz HB)) : w.heap.size ≤ gb227));replace HB:=zA (zJb (zz HB) hb);have NB226_227:=zA ((by rw [hg];exact Nat.ne_of_lt (blk_lt (g:=gb226) (o:=.cells #[.slice A0_0 l0_0.length c0_0] 65 (0,0)) (zx BK226)) : gb226 ≠ gb227));have NB227_226:=zA ((by rw [hg];exact Nat.ne_of_gt (blk_lt (g:=gb226) (o:=.cells #[.slice A0_0 l0_0.length c0_0] 65 (0,0)) (zx BK226)) : gb227 ≠ gb226));replace BK226:=zA (zQ (g:=gb226) (o:=.cells #[.slice A0_0 l0_0.length c0_0] 65 (0,0)) (zx BK226) hb);clear hb hbox hg)|((with_reducible refine gate_dst (N:=6) rfl ?_);refine box_event ?hg (N:=6) ?hd (cs:=#[.slice A2_0 l2_0.length c2_0,.slice A2_1 l2_1.length c2_1]) (t:=46) ?hr ?_;(case hd => rfl);(case hg => rfl);(case hr => first|(go_simp;done)|(go_simp;rfl));intro gb228 hg w27 hbox hb;have BK228:=zA (hbox);have GW228:=zA ((by rw [hg];exact (zT (zz HB)) : w.heap.size ≤ gb228));have GE228:=zA ((by rw [hg];exact (zT (zz HB)) : w.heap.size ≤ gb228));replace HB:=zA (zJb (zz HB) hb);have NB226_228:=zA ((by rw [hg];exact Nat.ne_of_lt (blk_lt (g:=gb226) (o:=.cells #[.slice A0_0 l0_0.length c0_0] 65 (0,0)) (zx BK226)) : gb226 ≠ gb228));have NB228_226:=zA ((by rw [hg];exact Nat.ne_of_gt (blk_lt (g:=gb226) (o:=.cells #[.slice A0_0 l0_0.length c0_0] 65 (0,0)) (zx BK226)) : gb228 ≠ gb226));replace BK226:=zA (zQ (g:=gb226) (o:=.cells #[.slice A0_0 l0_0.length c0_0] 65 (0,0)) (zx BK226) hb);have NB227_228:=zA ((by rw [hg];exact Nat.ne_of_lt (blk_lt (g:=gb227) (o:=.cells #[.slice A1_0 l1_0.length c1_0,.slice A1_1 l1_1.length c1_1] 46 (0,0)) (zx BK227)) : gb227 ≠ gb228));have NB228_227:=zA ((by rw [hg];exact Nat.ne_of_gt (blk_lt (g:=gb227) (o:=.cells #[.slice A1_0 l1_0.length c1_0,.slice A1_1 l1_1.length c1_1] 46 (0,0)) (zx BK227)) : gb228 ≠ gb227));replace BK227:=zA (zQ (g:=gb227) (o:=.cells #[.slice A1_0 l1_0.length c1_0,.slice A1_1 l1_1.length c1_1] 46 (0,0)) (zx BK227) hb);clear hb hbox hg;have hnb28:=NB226_227.out;have hnc28:=NB227_226.out;have hnb29:=NB226_228.out;have hnc29:=NB228_226.out;have hcz30_0:=zc (.slice A0_0 l0_0.length c0_0) BK226 0 rfl;have hfz30_0:=blk_frozen BK226.out 0;have hnb31:=NB227_228.out;have hnc31:=NB228_227.out;have hcz32_0:=zc (.slice A1_0 l1_0.length c1_0) BK227 0 rfl;have hcz32_1:=zc (.slice A1_1 l1_1.length c1_1) BK227 1 rfl;have hfz32_0:=blk_frozen BK227.out 0;have hfz32_1:=blk_frozen BK227.out 1)|((with_reducible refine gate_callee (f:=101) rfl ?_);refine goesL_ (some 11) rfl rfl Try.func101 (by kernel_rfl) rfl #[.agg #[.slice A0_0 l0_0.length c0_0],.agg #[.slice A1_0 l1_0.length c1_0,.slice A1_1 l1_1.length c1_1]] rfl (by (try simp only [zCb,zMb,zNb]);first|done|rfl|(simp only [zLb,zDb];rfl)) ?_;(with_reducible refine (spec_IsQuery.calls k _ _ l0_0 _ _ l1_0 _ _ l1_1 true _ ?side1 ?side2 ?side3 ?side4 ?side5 ?side6 A5.out).mono ?_);(case side1 => repeat (first|exact (zKb HR0_0.out HB.out)|(with_reducible refine zBb ?_ _)|(with_reducible refine zAb ?_ _)|(with_reducible refine zX ?_)));(case side2 => exact HC0_0.out);(case side3 => repeat (first|exact (zKb HR1_0.out HB.out)|(with_reducible refine zBb ?_ _)|(with_reducible refine zAb ?_ _)|(with_reducible refine zX ?_)));(case side4 => exact HC1_0.out);(case side5 => repeat (first|exact (zKb HR1_1.out HB.out)|(with_reducible refine zBb ?_ _)|(with_reducible refine zAb ?_ _)|(with_reducible refine zX ?_)));(case side6 => exact HC1_1.out);rintro e w33 ⟨rfl,hb⟩;refine ⟨_,rfl,?_⟩;replace BK226:=zA (zQ (g:=gb226) (o:=.cells #[.slice A0_0 l0_0.length c0_0] 65 (0,0)) (zx BK226) hb);replace BK227:=zA (zQ (g:=gb227) (o:=.cells #[.slice A1_0 l1_0.length c1_0,.slice A1_1 l1_1.length c1_1] 46 (0,0)) (zx BK227) hb);replace BK228:=zA (zQ (g:=gb228) (o:=.cells #[.slice A2_0 l2_0.length c2_0,.slice A2_1 l2_1.length c2_1] 46 (0,0)) (zx BK228) hb);replace HB:=zA (zJb (zz HB) hb);(try clear hb);(try clear hb2);(try clear hk);(try clear hi);have hcz34_0:=zc (.slice A0_0 l0_0.length c0_0) BK226 0 rfl;have hfz34_0:=blk_frozen BK226.out 0;have hcz35_0:=zc (.slice A2_0 l2_0.length c2_0) BK228 0 rfl;have hcz35_1:=zc (.slice A2_1 l2_1.length c2_1) BK228 1 rfl;have hfz35_0:=blk_frozen BK228.out 0;have hfz35_1:=blk_frozen BK228.out 1)|(go_at_call 101;(with_reducible refine (spec_IsQuery.calls k _ _ l0_0 _ _ l2_0 _ _ l2_1 false _ ?side1 ?side2 ?side3 ?side4 ?side5 ?side6 A7.out).mono ?_);(case side1 => repeat (first|exact (zKb HR0_0.out HB.out)|(with_reducible refine zBb ?_ _)|(with_reducible refine zAb ?_ _)|(with_reducible refine zX ?_)));(case side2 => exact HC0_0.out);(case side3 => repeat (first|exact (zKb HR2_0.out HB.out)|(with_reducible refine zBb ?_ _)|(with_reducible refine zAb ?_ _)|(with_reducible refine zX ?_)));(case side4 => exact HC2_0.out);(case side5 => repeat (first|exact (zKb HR2_1.out HB.out)|(with_reducible refine zBb ?_ _)|(with_reducible refine zAb ?_ _)|(with_reducible refine zX ?_)));(case side6 => exact HC2_1.out);rintro e w36 ⟨rfl,hb⟩;replace BK226:=zA (zQ (g:=gb226) (o:=.cells #[.slice A0_0 l0_0.length c0_0] 65 (0,0)) (zx BK226) hb);replace BK227:=zA (zQ (g:=gb227) (o:=.cells #[.slice A1_0 l1_0.length c1_0,.slice A1_1 l1_1.length c1_1] 46 (0,0)) (zx BK227) hb);replace BK228:=zA (zQ (g:=gb228) (o:=.cells #[.slice A2_0 l2_0.length c2_0,.slice A2_1 l2_1.length c2_1] 46 (0,0)) (zx BK228) hb);replace HB:=zA (zJb (zz HB) hb);(try clear hb);(try clear hb2);(try clear hk);(try clear hi)))
   go_ret
   exact ⟨by first|rfl|(simp [errW_none,errW_some] <;> rfl)|(simp [*,errW_none,errW_some] <;> rfl),zz HB⟩
 ·
  replace c6:=Bool.eq_false_iff.mpr c6
  subst c6
  have H1 : (some false) = some r:=by rw [if_neg (show ¬ (false = true) by decide)] at H;exact H
  clear H;have H:=H1;clear H1
  obtain rfl:=Option.some.inj H
  go_enter Try.func48,Try.ntmps48
  go_wp2_with (first|((with_reducible refine gate_dst (N:=4) rfl ?_);refine box_event ?hg (N:=4) ?hd (cs:=#[.slice A0_0 l0_0.length c0_0]) (t:=65) ?hr ?_;(case hd => rfl);(case hg => rfl);(case hr => first|(go_simp;done)|(go_simp;rfl));intro gb226 hg w37 hbox hb;have BK226:=zA (hbox);have GW226:=zA ((by rw [hg];exact (zT (zz HB)) : w.heap.size ≤ gb226));have GE226:=zA ((by rw [hg];exact (zT (zz HB)) : w.heap.size ≤ gb226));replace HB:=zA (zJb (zz HB) hb);clear hb hbox hg)|((with_reducible refine gate_dst (N:=5) rfl ?_);refine box_event ?hg (N:=5) ?hd (cs:=#[.slice A1_0 l1_0.length c1_0,.slice A1_1 l1_1.length c1_1]) (t:=46) ?hr ?_;(case hd => rfl);(case hg => rfl);(case hr => first|(go_simp;done)|(go_simp;rfl));intro gb227 hg w38 hbox hb;have BK227:=zA (hbox);have GW227:=zA ((by rw [hg];exact (zT (zz HB)) : w.heap.size ≤ gb227));have GE227:=zA ((by rw [hg];exact (zT (zz HB)) : w.heap.size ≤ gb227));replace HB:=zA (zJb (zz HB) hb);have NB226_227:=zA ((by rw [hg];exact Nat.ne_of_lt (blk_lt (g:=gb226) (o:=.cells #[.slice A0_0 l0_0.length c0_0] 65 (0,0)) (zx BK226)) : gb226 ≠ gb227));have NB227_226:=zA ((by rw [hg];exact Nat.ne_of_gt (blk_lt (g:=gb226) (o:=.cells #[.slice A0_0 l0_0.length c0_0] 65 (0,0)) (zx BK226)) : gb227 ≠ gb226));replace BK226:=zA (zQ (g:=gb226) (o:=.cells #[.slice A0_0 l0_0.length c0_0] 65 (0,0)) (zx BK226) hb);clear hb hbox hg)|((with_reducible refine gate_dst (N:=6) rfl ?_);refine box_event ?hg (N:=6) ?hd (cs:=#[.slice A2_0 l2_0.length c2_0,.slice A2_1 l2_1.length c2_1]) (t:=46) ?hr ?_;(case hd => rfl);(case hg => rfl);(case hr => first|(go_simp;done)|(go_simp;rfl));intro gb228 hg w39 hbox hb;have BK228:=zA (hbox);have GW228:=zA ((by rw [hg];exact (zT (zz HB)) : w.heap.size ≤ gb228));have GE228:=zA ((by rw [hg];exact (zT (zz HB)) : w.heap.size ≤ gb228));replace HB:=zA (zJb (zz HB) hb);have NB226_228:=zA ((by rw [hg];exact Nat.ne_of_lt (blk_lt (g:=gb226) (o:=.cells #[.slice A0_0 l0_0.length c0_0] 65 (0,0)) (zx BK226)) : gb226 ≠ gb228));have NB228_226:=zA ((by rw [hg];exact Nat.ne_of_gt (blk_lt (g:=gb226) (o:=.cells #[.slice A0_0 l0_0.length c0_0] 65 (0,0)) (zx BK226)) : gb228 ≠ gb226));replace BK226:=zA (zQ (g:=gb226) (o:=.cells #[.slice A0_0 l0_0.length c0_0] 65 (0,0)) (zx BK226) hb);have NB227_228:=zA ((by rw [hg];exact Nat.ne_of_lt (blk_lt (g:=gb227) (o:=.cells #[.slice A1_0 l1_0.length c1_0,.slice A1_1 l1_1.length c1_1] 46 (0,0)) (zx BK227)) : gb227 ≠ gb228));have NB228_227:=zA ((by rw [hg];exact Nat.ne_of_gt (blk_lt (g:=gb227) (o:=.cells #[.slice A1_0 l1_0.length c1_0,.slice A1_1 l1_1.length c1_1] 46 (0,0)) (zx BK227)) : gb228 ≠ gb227));replace BK227:=zA (zQ (g:=gb227) (o:=.cells #[.slice A1_0 l1_0.length c1_0,.slice A1_1 l1_1.length c1_1] 46 (0,0)) (zx BK227) hb);clear hb hbox hg;have hnb40:=NB226_227.out;have hnc40:=NB227_226.out;have hnb41:=NB226_228.out;have hnc41:=NB228_226.out;have hcz42_0:=zc (.slice A0_0 l0_0.length c0_0) BK226 0 rfl;have hfz42_0:=blk_frozen BK226.out 0;have hnb43:=NB227_228.out;have hnc43:=NB228_227.out;have hcz44_0:=zc (.slice A1_0 l1_0.length c1_0) BK227 0 rfl;have hcz44_1:=zc (.slice A1_1 l1_1.length c1_1) BK227 1 rfl;have hfz44_0:=blk_frozen BK227.out 0;have hfz44_1:=blk_frozen BK227.out 1)|((with_reducible refine gate_callee (f:=101) rfl ?_);refine goesL_ (some 11) rfl rfl Try.func101 (by kernel_rfl) rfl #[.agg #[.slice A0_0 l0_0.length c0_0],.agg #[.slice A1_0 l1_0.length c1_0,.slice A1_1 l1_1.length c1_1]] rfl (by (try simp only [zCb,zMb,zNb]);first|done|rfl|(simp only [zLb,zDb];rfl)) ?_;(with_reducible refine (spec_IsQuery.calls k _ _ l0_0 _ _ l1_0 _ _ l1_1 false _ ?side1 ?side2 ?side3 ?side4 ?side5 ?side6 A5.out).mono ?_);(case side1 => repeat (first|exact (zKb HR0_0.out HB.out)|(with_reducible refine zBb ?_ _)|(with_reducible refine zAb ?_ _)|(with_reducible refine zX ?_)));(case side2 => exact HC0_0.out);(case side3 => repeat (first|exact (zKb HR1_0.out HB.out)|(with_reducible refine zBb ?_ _)|(with_reducible refine zAb ?_ _)|(with_reducible refine zX ?_)));(case side4 => exact HC1_0.out);(case side5 => repeat (first|exact (zKb HR1_1.out HB.out)|(with_reducible refine zBb ?_ _)|(with_reducible refine zAb ?_ _)|(with_reducible refine zX ?_)));(case side6 => exact HC1_1.out);rintro e w45 ⟨rfl,hb⟩;refine ⟨_,rfl,?_⟩;replace BK226:=zA (zQ (g:=gb226) (o:=.cells #[.slice A0_0 l0_0.length c0_0] 65 (0,0)) (zx BK226) hb);replace BK227:=zA (zQ (g:=gb227) (o:=.cells #[.slice A1_0 l1_0.length c1_0,.slice A1_1 l1_1.length c1_1] 46 (0,0)) (zx BK227) hb);replace BK228:=zA (zQ (g:=gb228) (o:=.cells #[.slice A2_0 l2_0.length c2_0,.slice A2_1 l2_1.length c2_1] 46 (0,0)) (zx BK228) hb);replace HB:=zA (zJb (zz HB) hb);(try clear hb);(try clear hb2);(try clear hk);(try clear hi)))
  go_ret
  exact ⟨by first|rfl|(simp [errW_none,errW_some] <;> rfl)|(simp [*,errW_none,errW_some] <;> rfl),zz HB⟩

/-! ### laws_toSchema: function 49 -/
def laws_toSchema.f (k : Nat) (l0_0 : List Int) : Option (List Int) := (laws_toIntS.f k l0_0).bind fun t235 => (some t235)
theorem laws_toSchema.mono : ∀ a0 k, LeO (laws_toSchema.f k a0) (laws_toSchema.f (k + 1) a0) := by
 intro a0 k
 unfold laws_toSchema.f
 repeat' first
   | (with_reducible exact laws_toIntS.mono _ _)
   | (with_reducible exact LeO.refl _)
   | (with_reducible exact LeO.none _)
   | (with_reducible refine LeO.ite ?_ ?_)
   | (with_reducible refine LeO.bind ?_ (fun _ => ?_))
   | exact LeO.none _
   | refine LeO.ite ?_ ?_
   | refine LeO.bind ?_ (fun _ => ?_)
set_option maxHeartbeats 8000000 in
set_option maxRecDepth 100000 in
theorem laws_toSchema.calls (k : Nat) (A0_0 : Option Addr) (c0_0 : Nat) (l0_0 : List Int) (r : List Int) (w : World) (hr0_0 : Kd.C (Kd.int .i64) w A0_0 l0_0.length l0_0) (hc0_0 : l0_0.length ≤ c0_0) (h : laws_toSchema.f k l0_0 = some r) :
  Calls Try.prog 49 #[.agg #[.slice A0_0 l0_0.length c0_0]] w fun e w' => ∃ v0_ : Value, e = .returned (.agg #[v0_]) ∧ Kd.R (Kd.int .i64) 3 w' w.heap.size (fun _ => True) v0_ r ∧ Below w.heap.size w w' := by
 have hu62:=Try.underlying62;have hu65:=Try.underlying65;have HR0_0:=zA hr0_0;have HC0_0:=zA hc0_0;clear hr0_0 hc0_0;have HB:=zA (Below.refl w.heap.size w)
 have H : ((laws_toIntS.f k l0_0).bind fun t235 => (some t235)) = some r:=h
 clear h;replace H:=Option.bind_eq_some_iff.mp H;obtain ⟨t235,A20,H⟩:=H;(try dsimp only at H);have A2:=zA A20;clear A20
 obtain rfl:=Option.some.inj H
 go_enter Try.func49,Try.ntmps49
 go_wp2_with (first|((with_reducible refine gate_dst (N:=1) rfl ?_);refine box_event ?hg (N:=1) ?hd (cs:=#[.slice A0_0 l0_0.length c0_0]) (t:=62) ?hr ?_;(case hd => rfl);(case hg => rfl);(case hr => first|(go_simp;done)|(go_simp;rfl));intro gb232 hg w3 hbox hb;have BK232:=zA (hbox);have GW232:=zA ((by rw [hg];exact (zT (zz HB)) : w.heap.size ≤ gb232));have GE232:=zA ((by rw [hg];exact (zT (zz HB)) : w.heap.size ≤ gb232));replace HB:=zA (zJb (zz HB) hb);clear hb hbox hg)|((with_reducible refine gate_dst (N:=2) rfl ?_);refine box_event ?hg (N:=2) ?hd (cs:=#[.slice none 0 0]) (t:=65) ?hr ?_;(case hd => rfl);(case hg => rfl);(case hr => first|(go_simp;done)|(go_simp;rfl));intro gb233 hg w4 hbox hb;have BK233:=zA (hbox);have GW233:=zA ((by rw [hg];exact (zT (zz HB)) : w.heap.size ≤ gb233));have GE233:=zA ((by rw [hg];exact (zT (zz HB)) : w.heap.size ≤ gb233));replace HB:=zA (zJb (zz HB) hb);have NB232_233:=zA ((by rw [hg];exact Nat.ne_of_lt (blk_lt (g:=gb232) (o:=.cells #[.slice A0_0 l0_0.length c0_0] 62 (0,0)) (zx BK232)) : gb232 ≠ gb233));have NB233_232:=zA ((by rw [hg];exact Nat.ne_of_gt (blk_lt (g:=gb232) (o:=.cells #[.slice A0_0 l0_0.length c0_0] 62 (0,0)) (zx BK232)) : gb233 ≠ gb232));replace BK232:=zA (zQ (g:=gb232) (o:=.cells #[.slice A0_0 l0_0.length c0_0] 62 (0,0)) (zx BK232) hb);clear hb hbox hg)|((with_reducible refine gate_dst (N:=3) rfl ?_);refine box_event ?hg (N:=3) ?hd (cs:=#[.slice none 0 0]) (t:=65) ?hr ?_;(case hd => rfl);(case hg => rfl);(case hr => first|(go_simp;done)|(go_simp;rfl));intro gb234 hg w5 hbox hb;have BK234:=zA (hbox);have GW234:=zA ((by rw [hg];exact (zT (zz HB)) : w.heap.size ≤ gb234));have GE234:=zA ((by rw [hg];exact (zT (zz HB)) : w.heap.size ≤ gb234));replace HB:=zA (zJb (zz HB) hb);have NB232_234:=zA ((by rw [hg];exact Nat.ne_of_lt (blk_lt (g:=gb232) (o:=.cells #[.slice A0_0 l0_0.length c0_0] 62 (0,0)) (zx BK232)) : gb232 ≠ gb234));have NB234_232:=zA ((by rw [hg];exact Nat.ne_of_gt (blk_lt (g:=gb232) (o:=.cells #[.slice A0_0 l0_0.length c0_0] 62 (0,0)) (zx BK232)) : gb234 ≠ gb232));replace BK232:=zA (zQ (g:=gb232) (o:=.cells #[.slice A0_0 l0_0.length c0_0] 62 (0,0)) (zx BK232) hb);have NB233_234:=zA ((by rw [hg];exact Nat.ne_of_lt (blk_lt (g:=gb233) (o:=.cells #[.slice none 0 0] 65 (0,0)) (zx BK233)) : gb233 ≠ gb234));have NB234_233:=zA ((by rw [hg];exact Nat.ne_of_gt (blk_lt (g:=gb233) (o:=.cells #[.slice none 0 0] 65 (0,0)) (zx BK233)) : gb234 ≠ gb233));replace BK233:=zA (zQ (g:=gb233) (o:=.cells #[.slice none 0 0] 65 (0,0)) (zx BK233) hb);clear hb hbox hg;have hnb6:=NB232_233.out;have hnc6:=NB233_232.out;have hnb7:=NB232_234.out;have hnc7:=NB234_232.out;have hcz8_0:=zc (.slice A0_0 l0_0.length c0_0) BK232 0 rfl;have hfz8_0:=blk_frozen BK232.out 0)|((with_reducible refine gate_callee (f:=41) rfl ?_);refine goesL_ (some 6) rfl rfl Try.func41 (by kernel_rfl) rfl #[.slice A0_0 l0_0.length c0_0] rfl (by (try simp only [zCb,zMb,zNb]);first|done|rfl|(simp only [zLb,zDb];rfl)) ?_;(with_reducible refine (laws_toIntS.calls k _ _ l0_0 t235 _ ?side1 ?side2 A2.out).mono ?_);(case side1 => repeat (first|exact (zKb HR0_0.out HB.out)|(with_reducible refine zBb ?_ _)|(with_reducible refine zAb ?_ _)|(with_reducible refine zX ?_)));(case side2 => exact HC0_0.out);rintro e w9 ⟨v236,rfl,ho0,hb⟩;refine ⟨_,rfl,?_⟩;have HO237:=zA (zHb ho0 (zT (zz HB)));replace BK232:=zA (zQ (g:=gb232) (o:=.cells #[.slice A0_0 l0_0.length c0_0] 62 (0,0)) (zx BK232) hb);replace BK233:=zA (zQ (g:=gb233) (o:=.cells #[.slice none 0 0] 65 (0,0)) (zx BK233) hb);replace BK234:=zA (zQ (g:=gb234) (o:=.cells #[.slice none 0 0] 65 (0,0)) (zx BK234) hb);replace HB:=zA (zJb (zz HB) hb);(try clear hb);(try clear hb2);(try clear hk);(try clear hi);(try clear ho0);obtain ⟨Ao10,co10,eo10⟩:=Kd.R_slice HO237.out;subst eo10;have hnb11:=NB234_233.out;have hnc11:=NB233_234.out;have hcz12_0:=zc (.slice none 0 0) BK234 0 rfl;have hfz12_0:=blk_frozen BK234.out 0;have hcz13_0:=zc (.slice none 0 0) BK233 0 rfl;have hfz13_0:=blk_frozen BK233.out 0))
 refine bodyPost_ret (results_cell_row rfl _ _ gb233 65 #[.slice Ao10 t235.length co10] (0,0) _ rfl (by (with_reducible repeat (first|refine zF ?_ _|refine zI ?_|refine zG ?_ _));refine blk_put (cs:=#[.slice none 0 0]) ?_ 0 _ rfl;(with_reducible repeat (first|refine zF ?_ _|refine zI ?_|refine zG ?_ _));refine zUb ?_ NB233_234.out _;(with_reducible repeat (first|refine zF ?_ _|refine zI ?_|refine zG ?_ _));exact BK233.out) Try.underlying65 rfl (by kernel_rfl)) rfl ?_
 exact ⟨_,by first|rfl|(simp [errW_none,errW_some] <;> rfl)|(simp [*,errW_none,errW_some] <;> rfl),by (with_reducible repeat (first|apply zE|apply zD|apply zH));exact zGb (zR (p:=⟨gb233,0,none⟩) (zR (p:=⟨gb234,0,none⟩) (Kd.R_types (Kd.R_types HO237.out BK234.out (by decide)) BK233.out (by decide)) (fun _ hk => hk.1.2) (.slice Ao10 t235.length co10)) (fun _ hk => hk.2) (.slice Ao10 t235.length co10)) (fun _ hk => trivial),zz HB⟩

/-! ### impl_within: function 78 -/
def impl_within.f (a0 : Int) (a1 : Int) (a2 : Int) : Option (Bool) := if a0 ≥ a1 then (some (decide (a0 ≤ a2))) else (some false)
set_option maxHeartbeats 8000000 in
set_option maxRecDepth 100000 in
theorem impl_within.calls (a0 : Int) (a1 : Int) (a2 : Int) (r : Bool) (w : World) (h : impl_within.f a0 a1 a2 = some r) :
  Calls Try.prog 78 #[.int .i64 a0, .int .i64 a1, .int .i64 a2] w fun e w' => e = .returned (.bool r) ∧ Drawn0 w w' := by
 have H : (if a0 ≥ a1 then (some (decide (a0 ≤ a2))) else (some false)) = some r:=h
 clear h
 by_cases c4 : a0 ≥ a1
 ·
  rw [if_pos c4] at H
  have c4b0 : decide (a1 ≤ a0) = true:=decide_eq_true c4
  clear c4
  obtain rfl:=Option.some.inj H
  go_enter Try.func78,Try.ntmps78
  go_wp2
  go_ret
  exact ⟨by first|rfl|(simp;done)|(simp [*];done),by repeat (first|exact Drawn0.refl _|apply Drawn0.step)⟩
 ·
  rw [if_neg c4] at H
  have c4b0 : decide (a1 ≤ a0) = false:=decide_eq_false c4
  clear c4
  obtain rfl:=Option.some.inj H
  go_enter Try.func78,Try.ntmps78
  go_wp2
  go_ret
  exact ⟨by first|rfl|(simp;done)|(simp [*];done),by repeat (first|exact Drawn0.refl _|apply Drawn0.step)⟩

/-! ### impl_IsSchema: function 128 -/
def impl_IsSchema.l0 : Nat → List Int → Int → Int → List Int → Option (Bool)
 | 0, _, _, _, _ => none
 | k + 1, x6, x7, x8, x239000 => if x8 < x7 then (if 0 ≤ x8 then (if x8 < (x6.length : Int) then ((impl_within.f (rd x6 x8) 1 3).bind fun t240 => (if t240 = true then (impl_IsSchema.l0 k x6 x7 (wrap64 (x8 + 1)) x239000) else (some false))) else (none)) else (none)) else ((impl_within.f (x239000.length : Int) 1 4).bind fun t241 => (some t241))
def impl_IsSchema.f (k : Nat) (l0_0 : List Int) : Option (Bool) := impl_IsSchema.l0 k l0_0 (l0_0.length : Int) 0 l0_0
theorem impl_IsSchema.mono_l : ∀ k, (∀ y0 y1 y2 y3, LeO (impl_IsSchema.l0 k y0 y1 y2 y3) (impl_IsSchema.l0 (k + 1) y0 y1 y2 y3))
 | 0 => fun _ _ _ _ r h => by simp [impl_IsSchema.l0] at h
 | k + 1 => by
  have ih0:=impl_IsSchema.mono_l k
  ·
   intro y0 y1 y2 y3
   unfold impl_IsSchema.l0
   repeat' first
   | (with_reducible exact ih0 _ _ _ _)
   | (with_reducible exact LeO.refl _)
   | (with_reducible exact LeO.none _)
   | (with_reducible refine LeO.ite ?_ ?_)
   | (with_reducible refine LeO.bind ?_ (fun _ => ?_))
   | exact ih0 _ _ _ _
   | exact LeO.none _
   | refine LeO.ite ?_ ?_
   | refine LeO.bind ?_ (fun _ => ?_)
theorem impl_IsSchema.mono : ∀ a0 k, LeO (impl_IsSchema.f k a0) (impl_IsSchema.f (k + 1) a0) := by
 intro a0 k
 have ih0:=impl_IsSchema.mono_l k
 unfold impl_IsSchema.f
 repeat' first
   | (with_reducible exact ih0 _ _ _ _)
   | (with_reducible exact LeO.refl _)
   | (with_reducible exact LeO.none _)
   | (with_reducible refine LeO.ite ?_ ?_)
   | (with_reducible refine LeO.bind ?_ (fun _ => ?_))
   | exact ih0 _ _ _ _
   | exact LeO.none _
   | refine LeO.ite ?_ ?_
   | refine LeO.bind ?_ (fun _ => ?_)
set_option maxHeartbeats 8000000 in
set_option maxRecDepth 100000 in
theorem impl_IsSchema.calls (k : Nat) (A0_0 : Option Addr) (c0_0 : Nat) (l0_0 : List Int) (r : Bool) (w : World) (hr0_0 : Kd.C (Kd.int .i64) w A0_0 l0_0.length l0_0) (hc0_0 : l0_0.length ≤ c0_0) (h : impl_IsSchema.f k l0_0 = some r) :
  Calls Try.prog 128 #[.agg #[.slice A0_0 l0_0.length c0_0]] w fun e w' => e = .returned (.bool r) ∧ Below w.heap.size w w' := by
 have hu65:=Try.underlying65;have HR0_0:=zA hr0_0;have HC0_0:=zA hc0_0;clear hr0_0 hc0_0;have HB:=zA (Below.refl w.heap.size w)
 have H : (impl_IsSchema.l0 k l0_0 (l0_0.length : Int) 0 l0_0) = some r:=h
 clear h
 have H':=zA H
 clear H
 go_enter Try.func128,Try.ntmps128
 go_wp2_with (first|((with_reducible refine gate_dst (N:=1) rfl ?_);refine box_event ?hg (N:=1) ?hd (cs:=#[.slice A0_0 l0_0.length c0_0]) (t:=65) ?hr ?_;(case hd => rfl);(case hg => rfl);(case hr => first|(go_simp;done)|(go_simp;rfl));intro gb238 hg w2 hbox hb;have BK238:=zA (hbox);have GW238:=zA ((by rw [hg];exact (zT (zz HB)) : w.heap.size ≤ gb238));have GE238:=zA ((by rw [hg];exact (zT (zz HB)) : w.heap.size ≤ gb238));replace HB:=zA (zJb (zz HB) hb);clear hb hbox hg;have hcz3_0:=zc (.slice A0_0 l0_0.length c0_0) BK238 0 rfl;have hfz3_0:=blk_frozen BK238.out 0))
 go_loopg [8] k (fun kq v8 w' => ∃ (x8_1 : Int),v8 = .int .i64 x8_1 ∧ Aside0 (impl_IsSchema.l0 kq l0_0 (l0_0.length : Int) x8_1 l0_0 = some r) ∧ Aside0 (kq ≤ k) ∧ Aside0 (w'.heap[gb238]? = some (.cells #[(.slice A0_0 l0_0.length c0_0)] 65 (0,0))) ∧ Aside0 (Below w.heap.size w w'))
 case atStart => exact ⟨(0),za,H',⟨Nat.le_refl _⟩,⟨zx BK238⟩,⟨zz HB⟩⟩
 case round =>
  clear H';(try clear c1);(try clear p2);(try clear hcz3_0);(try clear hfz3_0);obtain ⟨x8_1,rfl,HA,HK1,BK238,HB⟩:=hrel
  cases gk with
  | zero => exact absurd HA.out (by simp [impl_IsSchema.l0])
  | succ k1 =>
   have H:=HA.out;clear HA;simp only [impl_IsSchema.l0] at H
   by_cases c4 : x8_1 < (l0_0.length : Int)
   ·
    rw [if_pos c4] at H;have c4b0:=decide_eq_true c4;clear c4
    by_cases c5 : 0 ≤ x8_1
    ·
     rw [if_pos c5] at H;have c5b0:=decide_eq_true c5;clear c5
     by_cases c6 : x8_1 < (l0_0.length : Int)
     ·
      rw [if_pos c6] at H;have c6b0:=decide_eq_true c6;clear c6;replace H:=Option.bind_eq_some_iff.mp H;obtain ⟨t240,A70,H⟩:=H;(try dsimp only at H);have A7:=zA A70;clear A70
      by_cases c8 : t240 = true
      ·
       subst c8
       rw [if_pos rfl] at H
       have H':=zA H
       clear H;have p239 : 0 ≤ (x8_1 : Int):=zXb ze;have q239 : x8_1 < (l0_0.length : Int):=zXb ze;obtain ⟨ad239,e239,hx239_0⟩:=Kd.at_int HR0_0.out x8_1 p239 q239
       cases e239
       replace hx239_0:=(HB.out.cell (World.block_lt_of_cell? w _ hx239_0)).trans hx239_0;replace p239:=eq_true p239;replace q239:=eq_true q239
       go_wp2_with (first|((with_reducible refine gate_callee (f:=78) rfl ?_);refine goesL_ (some 13) rfl rfl Try.func78 (by kernel_rfl) rfl #[.int .i64 (rd l0_0 x8_1),.int .i64 1,.int .i64 3] rfl (by (try simp only [zCb,zMb,zNb]);first|done|rfl|(simp only [zLb,zDb];rfl)) ?_;(with_reducible refine (impl_within.calls (rd l0_0 x8_1) 1 3 true _ A7.out).mono ?_);rintro e w' ⟨rfl,⟨nd,rfl⟩⟩;refine ⟨_,rfl,?_⟩))
       go_roundg k1
       case measure => have:=HK1.out;omega
       case rel => exact ⟨(wrap64 (x8_1 + 1)),za,H',⟨by have:=HK1.out;omega⟩,⟨zx BK238⟩,⟨zz HB⟩⟩
      ·
       replace c8:=Bool.eq_false_iff.mpr c8
       subst c8
       have H1 : (some false) = some r:=by rw [if_neg (show ¬ (false = true) by decide)] at H;exact H
       clear H;have H:=H1;clear H1
       obtain rfl:=Option.some.inj H
       have p239 : 0 ≤ (x8_1 : Int):=zXb ze;have q239 : x8_1 < (l0_0.length : Int):=zXb ze;obtain ⟨ad239,e239,hx239_0⟩:=Kd.at_int HR0_0.out x8_1 p239 q239
       cases e239
       replace hx239_0:=(HB.out.cell (World.block_lt_of_cell? w _ hx239_0)).trans hx239_0;replace p239:=eq_true p239;replace q239:=eq_true q239
       go_wp2_with (first|((with_reducible refine gate_callee (f:=78) rfl ?_);refine goesL_ (some 13) rfl rfl Try.func78 (by kernel_rfl) rfl #[.int .i64 (rd l0_0 x8_1),.int .i64 1,.int .i64 3] rfl (by (try simp only [zCb,zMb,zNb]);first|done|rfl|(simp only [zLb,zDb];rfl)) ?_;(with_reducible refine (impl_within.calls (rd l0_0 x8_1) 1 3 false _ A7.out).mono ?_);rintro e w' ⟨rfl,⟨nd,rfl⟩⟩;refine ⟨_,rfl,?_⟩))
       go_ret
       exact ⟨by first|rfl|(simp [errW_none,errW_some] <;> rfl)|(simp [*,errW_none,errW_some] <;> rfl),zz HB⟩
     ·
      rw [if_neg c6] at H
      exact absurd H (by simp)
    ·
     rw [if_neg c5] at H
     exact absurd H (by simp)
   ·
    rw [if_neg c4] at H;have c4b0:=decide_eq_false c4;clear c4;replace H:=Option.bind_eq_some_iff.mp H;obtain ⟨t241,A90,H⟩:=H;(try dsimp only at H);have A9:=zA A90;clear A90
    obtain rfl:=Option.some.inj H
    have hcz10_0:=zc (.slice A0_0 l0_0.length c0_0) BK238 0 rfl;have hfz10_0:=blk_frozen BK238.out 0
    go_wp2_with (first|((with_reducible refine gate_callee (f:=78) rfl ?_);refine goesL_ (some 19) rfl rfl Try.func78 (by kernel_rfl) rfl #[.int .i64 (l0_0.length : Int),.int .i64 1,.int .i64 4] rfl (by (try simp only [zCb,zMb,zNb]);first|done|rfl|(simp only [zLb,zDb];rfl)) ?_;(with_reducible refine (impl_within.calls (l0_0.length : Int) 1 4 t241 _ A9.out).mono ?_);rintro e w' ⟨rfl,⟨nd,rfl⟩⟩;refine ⟨_,rfl,?_⟩))
    go_ret
    exact ⟨by first|rfl|(simp [errW_none,errW_some] <;> rfl)|(simp [*,errW_none,errW_some] <;> rfl),zz HB⟩

/-! ### impl_IsTerm: function 113 -/
def impl_IsTerm.f (a0 : Int) : Option (Bool) := (impl_within.f a0 (-80) 19).bind fun t242 => (some t242)
set_option maxHeartbeats 8000000 in
set_option maxRecDepth 100000 in
theorem impl_IsTerm.calls (a0 : Int) (r : Bool) (w : World) (h : impl_IsTerm.f a0 = some r) :
  Calls Try.prog 113 #[.int .i64 a0] w fun e w' => e = .returned (.bool r) ∧ Drawn0 w w' := by
 have H : ((impl_within.f a0 (-80) 19).bind fun t242 => (some t242)) = some r:=h
 clear h;replace H:=Option.bind_eq_some_iff.mp H;obtain ⟨t242,A20,H⟩:=H;(try dsimp only at H);have A2:=zA A20;clear A20
 obtain rfl:=Option.some.inj H
 go_enter Try.func113,Try.ntmps113
 go_wp2_with (first|((with_reducible refine gate_callee (f:=78) rfl ?_);refine goesL_ (some 4) rfl rfl Try.func78 (by kernel_rfl) rfl #[.int .i64 a0,.int .i64 (-80),.int .i64 19] rfl (by (try simp only [zCb,zMb,zNb]);first|done|rfl|(simp only [zLb,zDb];rfl)) ?_;(with_reducible refine (impl_within.calls a0 (-80) 19 t242 _ A2.out).mono ?_);rintro e w' ⟨rfl,⟨nd,rfl⟩⟩;refine ⟨_,rfl,?_⟩))
 go_ret
 exact ⟨by first|rfl|(simp;done)|(simp [*];done),by repeat (first|exact Drawn0.refl _|apply Drawn0.step)⟩

/-! ### impl_areTerms: function 129 -/
def impl_areTerms.l0 : Nat → List Int → Int → Int → Option (Bool)
 | 0, _, _, _ => none
 | k + 1, x5, x6, x7 => if x7 < x6 then (if 0 ≤ x7 then (if x7 < (x5.length : Int) then ((impl_IsTerm.f (rd x5 x7)).bind fun t244 => (if t244 = true then (impl_areTerms.l0 k x5 x6 (wrap64 (x7 + 1))) else (some false))) else (none)) else (none)) else (some true)
def impl_areTerms.f (k : Nat) (l0 : List Int) : Option (Bool) := impl_areTerms.l0 k l0 (l0.length : Int) 0
theorem impl_areTerms.mono_l : ∀ k, (∀ y0 y1 y2, LeO (impl_areTerms.l0 k y0 y1 y2) (impl_areTerms.l0 (k + 1) y0 y1 y2))
 | 0 => fun _ _ _ r h => by simp [impl_areTerms.l0] at h
 | k + 1 => by
  have ih0:=impl_areTerms.mono_l k
  ·
   intro y0 y1 y2
   unfold impl_areTerms.l0
   repeat' first
   | (with_reducible exact ih0 _ _ _)
   | (with_reducible exact LeO.refl _)
   | (with_reducible exact LeO.none _)
   | (with_reducible refine LeO.ite ?_ ?_)
   | (with_reducible refine LeO.bind ?_ (fun _ => ?_))
   | exact ih0 _ _ _
   | exact LeO.none _
   | refine LeO.ite ?_ ?_
   | refine LeO.bind ?_ (fun _ => ?_)
theorem impl_areTerms.mono : ∀ a0 k, LeO (impl_areTerms.f k a0) (impl_areTerms.f (k + 1) a0) := by
 intro a0 k
 have ih0:=impl_areTerms.mono_l k
 unfold impl_areTerms.f
 repeat' first
   | (with_reducible exact ih0 _ _ _)
   | (with_reducible exact LeO.refl _)
   | (with_reducible exact LeO.none _)
   | (with_reducible refine LeO.ite ?_ ?_)
   | (with_reducible refine LeO.bind ?_ (fun _ => ?_))
   | exact ih0 _ _ _
   | exact LeO.none _
   | refine LeO.ite ?_ ?_
   | refine LeO.bind ?_ (fun _ => ?_)
set_option maxHeartbeats 8000000 in
set_option maxRecDepth 100000 in
theorem impl_areTerms.calls (k : Nat) (A0 : Option Addr) (c0 : Nat) (l0 : List Int) (r : Bool) (w : World) (hr0 : Kd.C (Kd.int .i64) w A0 l0.length l0) (hc0 : l0.length ≤ c0) (h : impl_areTerms.f k l0 = some r) :
  Calls Try.prog 129 #[.slice A0 l0.length c0] w fun e w' => e = .returned (.bool r) ∧ Drawn0 w w' := by
 have HR0:=zA hr0;have HC0:=zA hc0;clear hr0 hc0
 have H : (impl_areTerms.l0 k l0 (l0.length : Int) 0) = some r:=h
 clear h
 have H':=zA H
 clear H
 go_enter Try.func129,Try.ntmps129
 go_wp2
 go_loopg [7] k (fun kq v7 w' => ∃ (x7_1 : Int),v7 = .int .i64 x7_1 ∧ Aside0 (impl_areTerms.l0 kq l0 (l0.length : Int) x7_1 = some r) ∧ Aside0 (kq ≤ k) ∧ Drawn0 w w')
 case atStart => exact ⟨(0),za,H',⟨Nat.le_refl _⟩,by repeat (first|exact Drawn0.refl _|apply Drawn0.step)⟩
 case round =>
  clear H';(try clear c1);obtain ⟨x7_1,rfl,HA,HK1,⟨m1,rfl⟩⟩:=hrel
  cases gk with
  | zero => exact absurd HA.out (by simp [impl_areTerms.l0])
  | succ k1 =>
   have H:=HA.out;clear HA;simp only [impl_areTerms.l0] at H
   by_cases c2 : x7_1 < (l0.length : Int)
   ·
    rw [if_pos c2] at H;have c2b0:=decide_eq_true c2;clear c2
    by_cases c3 : 0 ≤ x7_1
    ·
     rw [if_pos c3] at H;have c3b0:=decide_eq_true c3;clear c3
     by_cases c4 : x7_1 < (l0.length : Int)
     ·
      rw [if_pos c4] at H;have c4b0:=decide_eq_true c4;clear c4;replace H:=Option.bind_eq_some_iff.mp H;obtain ⟨t244,A50,H⟩:=H;(try dsimp only at H);have A5:=zA A50;clear A50
      by_cases c6 : t244 = true
      ·
       subst c6
       rw [if_pos rfl] at H
       have H':=zA H
       clear H;have p243 : 0 ≤ (x7_1 : Int):=zXb ze;have q243 : x7_1 < (l0.length : Int):=zXb ze;obtain ⟨ad243,e243,hx243_0⟩:=Kd.at_int HR0.out x7_1 p243 q243
       cases e243
       replace p243:=eq_true p243;replace q243:=eq_true q243
       go_wp2_with (first|((with_reducible refine gate_callee (f:=113) rfl ?_);refine goesL_ (some 12) rfl rfl Try.func113 (by kernel_rfl) rfl #[.int .i64 (rd l0 x7_1)] rfl (by (try simp only [zCb,zMb,zNb]);first|done|rfl|(simp only [zLb,zDb];rfl)) ?_;(with_reducible refine (impl_IsTerm.calls (rd l0 x7_1) true _ A5.out).mono ?_);rintro e w' ⟨rfl,⟨nd,rfl⟩⟩;refine ⟨_,rfl,?_⟩))
       go_roundg k1
       case measure => have:=HK1.out;omega
       case rel => exact ⟨(wrap64 (x7_1 + 1)),za,H',⟨by have:=HK1.out;omega⟩,by repeat (first|exact Drawn0.refl _|apply Drawn0.step)⟩
      ·
       replace c6:=Bool.eq_false_iff.mpr c6
       subst c6
       have H1 : (some false) = some r:=by rw [if_neg (show ¬ (false = true) by decide)] at H;exact H
       clear H;have H:=H1;clear H1
       obtain rfl:=Option.some.inj H
       have p243 : 0 ≤ (x7_1 : Int):=zXb ze;have q243 : x7_1 < (l0.length : Int):=zXb ze;obtain ⟨ad243,e243,hx243_0⟩:=Kd.at_int HR0.out x7_1 p243 q243
       cases e243
       replace p243:=eq_true p243;replace q243:=eq_true q243
       go_wp2_with (first|((with_reducible refine gate_callee (f:=113) rfl ?_);refine goesL_ (some 12) rfl rfl Try.func113 (by kernel_rfl) rfl #[.int .i64 (rd l0 x7_1)] rfl (by (try simp only [zCb,zMb,zNb]);first|done|rfl|(simp only [zLb,zDb];rfl)) ?_;(with_reducible refine (impl_IsTerm.calls (rd l0 x7_1) false _ A5.out).mono ?_);rintro e w' ⟨rfl,⟨nd,rfl⟩⟩;refine ⟨_,rfl,?_⟩))
       go_ret
       exact ⟨by first|rfl|(simp;done)|(simp [*];done),by repeat (first|exact Drawn0.refl _|apply Drawn0.step)⟩
     ·
      rw [if_neg c4] at H
      exact absurd H (by simp)
    ·
     rw [if_neg c3] at H
     exact absurd H (by simp)
   ·
    rw [if_neg c2] at H;have c2b0:=decide_eq_false c2;clear c2
    obtain rfl:=Option.some.inj H
    go_wp2
    go_ret
    exact ⟨by first|rfl|(simp;done)|(simp [*];done),by repeat (first|exact Drawn0.refl _|apply Drawn0.step)⟩

/-! ### impl_Schema_takes: function 153 -/
def impl_Schema_takes.f (k : Nat) (l0_0 : List Int) (a1 : Int) (a2 : Int) : Option (Bool) := (impl_IsSchema.f k l0_0).bind fun t246 => (if t246 = true then ((impl_within.f a1 0 (wrap64 ((l0_0.length : Int) - 1))).bind fun t247 => (if t247 = true then (if 0 ≤ a1 then (if a1 < (l0_0.length : Int) then (some ((rd l0_0 a1) == a2)) else (none)) else (none)) else (some false))) else (some false))
theorem impl_Schema_takes.mono : ∀ a0 a1 a2 k, LeO (impl_Schema_takes.f k a0 a1 a2) (impl_Schema_takes.f (k + 1) a0 a1 a2) := by
 intro a0 a1 a2 k
 unfold impl_Schema_takes.f
 repeat' first
   | (with_reducible exact impl_IsSchema.mono _ _)
   | (with_reducible exact LeO.refl _)
   | (with_reducible exact LeO.none _)
   | (with_reducible refine LeO.ite ?_ ?_)
   | (with_reducible refine LeO.bind ?_ (fun _ => ?_))
   | exact LeO.none _
   | refine LeO.ite ?_ ?_
   | refine LeO.bind ?_ (fun _ => ?_)
set_option maxHeartbeats 8000000 in
set_option maxRecDepth 100000 in
theorem impl_Schema_takes.calls (k : Nat) (A0_0 : Option Addr) (c0_0 : Nat) (l0_0 : List Int) (a1 : Int) (a2 : Int) (r : Bool) (w : World) (hr0_0 : Kd.C (Kd.int .i64) w A0_0 l0_0.length l0_0) (hc0_0 : l0_0.length ≤ c0_0) (h : impl_Schema_takes.f k l0_0 a1 a2 = some r) :
  Calls Try.prog 153 #[.agg #[.slice A0_0 l0_0.length c0_0], .int .i64 a1, .int .i64 a2] w fun e w' => e = .returned (.bool r) ∧ Below w.heap.size w w' := by
 have hu65:=Try.underlying65;have HR0_0:=zA hr0_0;have HC0_0:=zA hc0_0;clear hr0_0 hc0_0;have HB:=zA (Below.refl w.heap.size w)
 have H : ((impl_IsSchema.f k l0_0).bind fun t246 => (if t246 = true then ((impl_within.f a1 0 (wrap64 ((l0_0.length : Int) - 1))).bind fun t247 => (if t247 = true then (if 0 ≤ a1 then (if a1 < (l0_0.length : Int) then (some ((rd l0_0 a1) == a2)) else (none)) else (none)) else (some false))) else (some false))) = some r:=h
 clear h;replace H:=Option.bind_eq_some_iff.mp H;obtain ⟨t246,A40,H⟩:=H;(try dsimp only at H);have A4:=zA A40;clear A40
 by_cases c5 : t246 = true
 ·
  subst c5
  rw [if_pos rfl] at H;replace H:=Option.bind_eq_some_iff.mp H;obtain ⟨t247,A60,H⟩:=H;(try dsimp only at H);have A6:=zA A60;clear A60
  by_cases c7 : t247 = true
  ·
   subst c7
   rw [if_pos rfl] at H
   by_cases c8 : 0 ≤ a1
   ·
    rw [if_pos c8] at H;have c8b0:=decide_eq_true c8;clear c8
    by_cases c9 : a1 < (l0_0.length : Int)
    ·
     rw [if_pos c9] at H;have c9b0:=decide_eq_true c9;clear c9
     obtain rfl:=Option.some.inj H
     go_enter Try.func153,Try.ntmps153
     go_wp2_with (first|((with_reducible refine gate_dst (N:=3) rfl ?_);(try (refine gate_guard (by rfl) ?_;dsimp only));refine box_event ?hg (N:=3) ?hd (cs:=#[.slice A0_0 l0_0.length c0_0]) (t:=65) ?hr ?_;(case hd => rfl);(case hg => rfl);(case hr => first|(go_simp;done)|(go_simp;rfl));intro gb245 hg w10 hbox hb;have BK245:=zA (hbox);have GW245:=zA ((by rw [hg];exact (zT (zz HB)) : w.heap.size ≤ gb245));have GE245:=zA ((by rw [hg];exact (zT (zz HB)) : w.heap.size ≤ gb245));replace HB:=zA (zJb (zz HB) hb);clear hb hbox hg;have hcz11_0:=zc (.slice A0_0 l0_0.length c0_0) BK245 0 rfl;have hfz11_0:=blk_frozen BK245.out 0)|((with_reducible refine gate_callee (f:=128) rfl ?_);refine goesL_ (some 8) rfl rfl Try.func128 (by kernel_rfl) rfl #[.agg #[.slice A0_0 l0_0.length c0_0]] rfl (by (try simp only [zCb,zMb,zNb]);first|done|rfl|(simp only [zLb,zDb];rfl)) ?_;(with_reducible refine (impl_IsSchema.calls k _ _ l0_0 true _ ?side1 ?side2 A4.out).mono ?_);(case side1 => repeat (first|exact (zKb HR0_0.out HB.out)|(with_reducible refine zBb ?_ _)|(with_reducible refine zAb ?_ _)|(with_reducible refine zX ?_)));(case side2 => exact HC0_0.out);rintro e w12 ⟨rfl,hb⟩;refine ⟨_,rfl,?_⟩;replace BK245:=zA (zQ (g:=gb245) (o:=.cells #[.slice A0_0 l0_0.length c0_0] 65 (0,0)) (zx BK245) hb);replace HB:=zA (zJb (zz HB) hb);(try clear hb);(try clear hb2);(try clear hk);(try clear hi);have hcz13_0:=zc (.slice A0_0 l0_0.length c0_0) BK245 0 rfl;have hfz13_0:=blk_frozen BK245.out 0)|(go_at_call 78;(with_reducible refine (impl_within.calls a1 0 (wrap64 ((l0_0.length : Int) - 1)) true _ A6.out).mono ?_);rintro e w' ⟨rfl,⟨nd,rfl⟩⟩;have p248 : 0 ≤ (a1 : Int):=zXb ze;have q248 : a1 < (l0_0.length : Int):=zXb ze;obtain ⟨ad248,e248,hx248_0⟩:=Kd.at_int HR0_0.out a1 p248 q248;cases e248;replace hx248_0:=(HB.out.cell (World.block_lt_of_cell? w _ hx248_0)).trans hx248_0;replace p248:=eq_true p248;replace q248:=eq_true q248))
     go_ret
     exact ⟨by first|rfl|(simp [errW_none,errW_some] <;> rfl)|(simp [*,errW_none,errW_some] <;> rfl),zz HB⟩
    ·
     rw [if_neg c9] at H
     exact absurd H (by simp)
   ·
    rw [if_neg c8] at H
    exact absurd H (by simp)
  ·
   replace c7:=Bool.eq_false_iff.mpr c7
   subst c7
   have H1 : (some false) = some r:=by rw [if_neg (show ¬ (false = true) by decide)] at H;exact H
   clear H;have H:=H1;clear H1
   obtain rfl:=Option.some.inj H
   go_enter Try.func153,Try.ntmps153
   go_wp2_with (first|((with_reducible refine gate_dst (N:=3) rfl ?_);(try (refine gate_guard (by rfl) ?_;dsimp only));refine box_event ?hg (N:=3) ?hd (cs:=#[.slice A0_0 l0_0.length c0_0]) (t:=65) ?hr ?_;(case hd => rfl);(case hg => rfl);(case hr => first|(go_simp;done)|(go_simp;rfl));intro gb245 hg w14 hbox hb;have BK245:=zA (hbox);have GW245:=zA ((by rw [hg];exact (zT (zz HB)) : w.heap.size ≤ gb245));have GE245:=zA ((by rw [hg];exact (zT (zz HB)) : w.heap.size ≤ gb245));replace HB:=zA (zJb (zz HB) hb);clear hb hbox hg;have hcz15_0:=zc (.slice A0_0 l0_0.length c0_0) BK245 0 rfl;have hfz15_0:=blk_frozen BK245.out 0)|((with_reducible refine gate_callee (f:=128) rfl ?_);refine goesL_ (some 8) rfl rfl Try.func128 (by kernel_rfl) rfl #[.agg #[.slice A0_0 l0_0.length c0_0]] rfl (by (try simp only [zCb,zMb,zNb]);first|done|rfl|(simp only [zLb,zDb];rfl)) ?_;(with_reducible refine (impl_IsSchema.calls k _ _ l0_0 true _ ?side1 ?side2 A4.out).mono ?_);(case side1 => repeat (first|exact (zKb HR0_0.out HB.out)|(with_reducible refine zBb ?_ _)|(with_reducible refine zAb ?_ _)|(with_reducible refine zX ?_)));(case side2 => exact HC0_0.out);rintro e w16 ⟨rfl,hb⟩;refine ⟨_,rfl,?_⟩;replace BK245:=zA (zQ (g:=gb245) (o:=.cells #[.slice A0_0 l0_0.length c0_0] 65 (0,0)) (zx BK245) hb);replace HB:=zA (zJb (zz HB) hb);(try clear hb);(try clear hb2);(try clear hk);(try clear hi);have hcz17_0:=zc (.slice A0_0 l0_0.length c0_0) BK245 0 rfl;have hfz17_0:=blk_frozen BK245.out 0)|(go_at_call 78;(with_reducible refine (impl_within.calls a1 0 (wrap64 ((l0_0.length : Int) - 1)) false _ A6.out).mono ?_);rintro e w' ⟨rfl,⟨nd,rfl⟩⟩))
   go_ret
   exact ⟨by first|rfl|(simp [errW_none,errW_some] <;> rfl)|(simp [*,errW_none,errW_some] <;> rfl),zz HB⟩
 ·
  replace c5:=Bool.eq_false_iff.mpr c5
  subst c5
  have H1 : (some false) = some r:=by rw [if_neg (show ¬ (false = true) by decide)] at H;exact H
  clear H;have H:=H1;clear H1
  obtain rfl:=Option.some.inj H
  go_enter Try.func153,Try.ntmps153
  go_wp2_with (first|((with_reducible refine gate_dst (N:=3) rfl ?_);(try (refine gate_guard (by rfl) ?_;dsimp only));refine box_event ?hg (N:=3) ?hd (cs:=#[.slice A0_0 l0_0.length c0_0]) (t:=65) ?hr ?_;(case hd => rfl);(case hg => rfl);(case hr => first|(go_simp;done)|(go_simp;rfl));intro gb245 hg w18 hbox hb;have BK245:=zA (hbox);have GW245:=zA ((by rw [hg];exact (zT (zz HB)) : w.heap.size ≤ gb245));have GE245:=zA ((by rw [hg];exact (zT (zz HB)) : w.heap.size ≤ gb245));replace HB:=zA (zJb (zz HB) hb);clear hb hbox hg;have hcz19_0:=zc (.slice A0_0 l0_0.length c0_0) BK245 0 rfl;have hfz19_0:=blk_frozen BK245.out 0)|((with_reducible refine gate_callee (f:=128) rfl ?_);refine goesL_ (some 8) rfl rfl Try.func128 (by kernel_rfl) rfl #[.agg #[.slice A0_0 l0_0.length c0_0]] rfl (by (try simp only [zCb,zMb,zNb]);first|done|rfl|(simp only [zLb,zDb];rfl)) ?_;(with_reducible refine (impl_IsSchema.calls k _ _ l0_0 false _ ?side1 ?side2 A4.out).mono ?_);(case side1 => repeat (first|exact (zKb HR0_0.out HB.out)|(with_reducible refine zBb ?_ _)|(with_reducible refine zAb ?_ _)|(with_reducible refine zX ?_)));(case side2 => exact HC0_0.out);rintro e w20 ⟨rfl,hb⟩;refine ⟨_,rfl,?_⟩;replace BK245:=zA (zQ (g:=gb245) (o:=.cells #[.slice A0_0 l0_0.length c0_0] 65 (0,0)) (zx BK245) hb);replace HB:=zA (zJb (zz HB) hb);(try clear hb);(try clear hb2);(try clear hk);(try clear hi)))
  go_ret
  exact ⟨by first|rfl|(simp [errW_none,errW_some] <;> rfl)|(simp [*,errW_none,errW_some] <;> rfl),zz HB⟩

/-! ### impl_IsAtom: function 130 -/
def impl_IsAtom.f (k : Nat) (l0_0 : List Int) (a1_0 : Int) (l1_1 : List Int) : Option (Bool) := (impl_Schema_takes.f k l0_0 a1_0 (l1_1.length : Int)).bind fun t251 => (if t251 = true then ((impl_areTerms.f k l1_1).bind fun t252 => (some t252)) else (some false))
theorem impl_IsAtom.mono : ∀ a0 a1 a2 k, LeO (impl_IsAtom.f k a0 a1 a2) (impl_IsAtom.f (k + 1) a0 a1 a2) := by
 intro a0 a1 a2 k
 unfold impl_IsAtom.f
 repeat' first
   | (with_reducible exact impl_Schema_takes.mono _ _ _ _)
   | (with_reducible exact impl_areTerms.mono _ _)
   | (with_reducible exact LeO.refl _)
   | (with_reducible exact LeO.none _)
   | (with_reducible refine LeO.ite ?_ ?_)
   | (with_reducible refine LeO.bind ?_ (fun _ => ?_))
   | exact LeO.none _
   | refine LeO.ite ?_ ?_
   | refine LeO.bind ?_ (fun _ => ?_)
set_option maxHeartbeats 8000000 in
set_option maxRecDepth 100000 in
theorem impl_IsAtom.calls (k : Nat) (A0_0 : Option Addr) (c0_0 : Nat) (l0_0 : List Int) (a1_0 : Int) (A1_1 : Option Addr) (c1_1 : Nat) (l1_1 : List Int) (r : Bool) (w : World) (hr0_0 : Kd.C (Kd.int .i64) w A0_0 l0_0.length l0_0) (hc0_0 : l0_0.length ≤ c0_0) (hr1_1 : Kd.C (Kd.int .i64) w A1_1 l1_1.length l1_1) (hc1_1 : l1_1.length ≤ c1_1) (h : impl_IsAtom.f k l0_0 a1_0 l1_1 = some r) :
  Calls Try.prog 130 #[.agg #[.slice A0_0 l0_0.length c0_0], .agg #[.int .i64 a1_0, .slice A1_1 l1_1.length c1_1]] w fun e w' => e = .returned (.bool r) ∧ Below w.heap.size w w' := by
 have hu65:=Try.underlying65;have hu97:=Try.underlying97;have HR0_0:=zA hr0_0;have HC0_0:=zA hc0_0;clear hr0_0 hc0_0;have HR1_1:=zA hr1_1;have HC1_1:=zA hc1_1;clear hr1_1 hc1_1;have HB:=zA (Below.refl w.heap.size w)
 have H : ((impl_Schema_takes.f k l0_0 a1_0 (l1_1.length : Int)).bind fun t251 => (if t251 = true then ((impl_areTerms.f k l1_1).bind fun t252 => (some t252)) else (some false))) = some r:=h
 clear h;replace H:=Option.bind_eq_some_iff.mp H;obtain ⟨t251,A30,H⟩:=H;(try dsimp only at H);have A3:=zA A30;clear A30
 by_cases c4 : t251 = true
 ·
  subst c4
  rw [if_pos rfl] at H;replace H:=Option.bind_eq_some_iff.mp H;obtain ⟨t252,A50,H⟩:=H;(try dsimp only at H);have A5:=zA A50;clear A50
  obtain rfl:=Option.some.inj H
  go_enter Try.func130,Try.ntmps130
  go_wp2_with (first|((with_reducible refine gate_dst (N:=2) rfl ?_);refine box_event ?hg (N:=2) ?hd (cs:=#[.slice A0_0 l0_0.length c0_0]) (t:=65) ?hr ?_;(case hd => rfl);(case hg => rfl);(case hr => first|(go_simp;done)|(go_simp;rfl));intro gb249 hg w6 hbox hb;have BK249:=zA (hbox);have GW249:=zA ((by rw [hg];exact (zT (zz HB)) : w.heap.size ≤ gb249));have GE249:=zA ((by rw [hg];exact (zT (zz HB)) : w.heap.size ≤ gb249));replace HB:=zA (zJb (zz HB) hb);clear hb hbox hg)|((with_reducible refine gate_dst (N:=3) rfl ?_);refine box_event ?hg (N:=3) ?hd (cs:=#[.int .i64 a1_0,.slice A1_1 l1_1.length c1_1]) (t:=97) ?hr ?_;(case hd => rfl);(case hg => rfl);(case hr => first|(go_simp;done)|(go_simp;rfl));intro gb250 hg w7 hbox hb;have BK250:=zA (hbox);have GW250:=zA ((by rw [hg];exact (zT (zz HB)) : w.heap.size ≤ gb250));have GE250:=zA ((by rw [hg];exact (zT (zz HB)) : w.heap.size ≤ gb250));replace HB:=zA (zJb (zz HB) hb);have NB249_250:=zA ((by rw [hg];exact Nat.ne_of_lt (blk_lt (g:=gb249) (o:=.cells #[.slice A0_0 l0_0.length c0_0] 65 (0,0)) (zx BK249)) : gb249 ≠ gb250));have NB250_249:=zA ((by rw [hg];exact Nat.ne_of_gt (blk_lt (g:=gb249) (o:=.cells #[.slice A0_0 l0_0.length c0_0] 65 (0,0)) (zx BK249)) : gb250 ≠ gb249));replace BK249:=zA (zQ (g:=gb249) (o:=.cells #[.slice A0_0 l0_0.length c0_0] 65 (0,0)) (zx BK249) hb);clear hb hbox hg;have hnb8:=NB249_250.out;have hnc8:=NB250_249.out;have hcz9_0:=zc (.slice A0_0 l0_0.length c0_0) BK249 0 rfl;have hfz9_0:=blk_frozen BK249.out 0;have hcz10_0:=zc (.int .i64 a1_0) BK250 0 rfl;have hcz10_1:=zc (.slice A1_1 l1_1.length c1_1) BK250 1 rfl;have hfz10_0:=blk_frozen BK250.out 0;have hfz10_1:=blk_frozen BK250.out 1)|((with_reducible refine gate_callee (f:=153) rfl ?_);refine goesL_ (some 11) rfl rfl Try.func153 (by kernel_rfl) rfl #[.agg #[.slice A0_0 l0_0.length c0_0],.int .i64 a1_0,.int .i64 (l1_1.length : Int)] rfl (by (try simp only [zCb,zMb,zNb]);first|done|rfl|(simp only [zLb,zDb];rfl)) ?_;(with_reducible refine (impl_Schema_takes.calls k _ _ l0_0 a1_0 (l1_1.length : Int) true _ ?side1 ?side2 A3.out).mono ?_);(case side1 => repeat (first|exact (zKb HR0_0.out HB.out)|(with_reducible refine zBb ?_ _)|(with_reducible refine zAb ?_ _)|(with_reducible refine zX ?_)));(case side2 => exact HC0_0.out);rintro e w11 ⟨rfl,hb⟩;refine ⟨_,rfl,?_⟩;replace BK249:=zA (zQ (g:=gb249) (o:=.cells #[.slice A0_0 l0_0.length c0_0] 65 (0,0)) (zx BK249) hb);replace BK250:=zA (zQ (g:=gb250) (o:=.cells #[.int .i64 a1_0,.slice A1_1 l1_1.length c1_1] 97 (0,0)) (zx BK250) hb);replace HB:=zA (zJb (zz HB) hb);(try clear hb);(try clear hb2);(try clear hk);(try clear hi);have hcz12_0:=zc (.int .i64 a1_0) BK250 0 rfl;have hcz12_1:=zc (.slice A1_1 l1_1.length c1_1) BK250 1 rfl;have hfz12_0:=blk_frozen BK250.out 0;have hfz12_1:=blk_frozen BK250.out 1)|(go_at_call 129;(with_reducible refine (impl_areTerms.calls k _ _ l1_1 t252 _ ?side1 ?side2 A5.out).mono ?_);(case side1 => repeat (first|exact (zKb HR1_1.out HB.out)|(with_reducible refine zBb ?_ _)|(with_reducible refine zAb ?_ _)|(with_reducible refine zX ?_)));(case side2 => exact HC1_1.out);rintro e w' ⟨rfl,⟨nd,rfl⟩⟩))
  go_ret
  exact ⟨by first|rfl|(simp [errW_none,errW_some] <;> rfl)|(simp [*,errW_none,errW_some] <;> rfl),zz HB⟩
 ·
  replace c4:=Bool.eq_false_iff.mpr c4
  subst c4
  have H1 : (some false) = some r:=by rw [if_neg (show ¬ (false = true) by decide)] at H;exact H
  clear H;have H:=H1;clear H1
  obtain rfl:=Option.some.inj H
  go_enter Try.func130,Try.ntmps130
  go_wp2_with (first|((with_reducible refine gate_dst (N:=2) rfl ?_);refine box_event ?hg (N:=2) ?hd (cs:=#[.slice A0_0 l0_0.length c0_0]) (t:=65) ?hr ?_;(case hd => rfl);(case hg => rfl);(case hr => first|(go_simp;done)|(go_simp;rfl));intro gb249 hg w13 hbox hb;have BK249:=zA (hbox);have GW249:=zA ((by rw [hg];exact (zT (zz HB)) : w.heap.size ≤ gb249));have GE249:=zA ((by rw [hg];exact (zT (zz HB)) : w.heap.size ≤ gb249));replace HB:=zA (zJb (zz HB) hb);clear hb hbox hg)|((with_reducible refine gate_dst (N:=3) rfl ?_);refine box_event ?hg (N:=3) ?hd (cs:=#[.int .i64 a1_0,.slice A1_1 l1_1.length c1_1]) (t:=97) ?hr ?_;(case hd => rfl);(case hg => rfl);(case hr => first|(go_simp;done)|(go_simp;rfl));intro gb250 hg w14 hbox hb;have BK250:=zA (hbox);have GW250:=zA ((by rw [hg];exact (zT (zz HB)) : w.heap.size ≤ gb250));have GE250:=zA ((by rw [hg];exact (zT (zz HB)) : w.heap.size ≤ gb250));replace HB:=zA (zJb (zz HB) hb);have NB249_250:=zA ((by rw [hg];exact Nat.ne_of_lt (blk_lt (g:=gb249) (o:=.cells #[.slice A0_0 l0_0.length c0_0] 65 (0,0)) (zx BK249)) : gb249 ≠ gb250));have NB250_249:=zA ((by rw [hg];exact Nat.ne_of_gt (blk_lt (g:=gb249) (o:=.cells #[.slice A0_0 l0_0.length c0_0] 65 (0,0)) (zx BK249)) : gb250 ≠ gb249));replace BK249:=zA (zQ (g:=gb249) (o:=.cells #[.slice A0_0 l0_0.length c0_0] 65 (0,0)) (zx BK249) hb);clear hb hbox hg;have hnb15:=NB249_250.out;have hnc15:=NB250_249.out;have hcz16_0:=zc (.slice A0_0 l0_0.length c0_0) BK249 0 rfl;have hfz16_0:=blk_frozen BK249.out 0;have hcz17_0:=zc (.int .i64 a1_0) BK250 0 rfl;have hcz17_1:=zc (.slice A1_1 l1_1.length c1_1) BK250 1 rfl;have hfz17_0:=blk_frozen BK250.out 0;have hfz17_1:=blk_frozen BK250.out 1)|((with_reducible refine gate_callee (f:=153) rfl ?_);refine goesL_ (some 11) rfl rfl Try.func153 (by kernel_rfl) rfl #[.agg #[.slice A0_0 l0_0.length c0_0],.int .i64 a1_0,.int .i64 (l1_1.length : Int)] rfl (by (try simp only [zCb,zMb,zNb]);first|done|rfl|(simp only [zLb,zDb];rfl)) ?_;(with_reducible refine (impl_Schema_takes.calls k _ _ l0_0 a1_0 (l1_1.length : Int) false _ ?side1 ?side2 A3.out).mono ?_);(case side1 => repeat (first|exact (zKb HR0_0.out HB.out)|(with_reducible refine zBb ?_ _)|(with_reducible refine zAb ?_ _)|(with_reducible refine zX ?_)));(case side2 => exact HC0_0.out);rintro e w18 ⟨rfl,hb⟩;refine ⟨_,rfl,?_⟩;replace BK249:=zA (zQ (g:=gb249) (o:=.cells #[.slice A0_0 l0_0.length c0_0] 65 (0,0)) (zx BK249) hb);replace BK250:=zA (zQ (g:=gb250) (o:=.cells #[.int .i64 a1_0,.slice A1_1 l1_1.length c1_1] 97 (0,0)) (zx BK250) hb);replace HB:=zA (zJb (zz HB) hb);(try clear hb);(try clear hb2);(try clear hk);(try clear hi)))
  go_ret
  exact ⟨by first|rfl|(simp [errW_none,errW_some] <;> rfl)|(simp [*,errW_none,errW_some] <;> rfl),zz HB⟩

/-! ### impl_IsVar: function 112 -/
def impl_IsVar.f (a0 : Int) : Option (Bool) := (impl_within.f a0 0 19).bind fun t253 => (some t253)
set_option maxHeartbeats 8000000 in
set_option maxRecDepth 100000 in
theorem impl_IsVar.calls (a0 : Int) (r : Bool) (w : World) (h : impl_IsVar.f a0 = some r) :
  Calls Try.prog 112 #[.int .i64 a0] w fun e w' => e = .returned (.bool r) ∧ Drawn0 w w' := by
 have H : ((impl_within.f a0 0 19).bind fun t253 => (some t253)) = some r:=h
 clear h;replace H:=Option.bind_eq_some_iff.mp H;obtain ⟨t253,A20,H⟩:=H;(try dsimp only at H);have A2:=zA A20;clear A20
 obtain rfl:=Option.some.inj H
 go_enter Try.func112,Try.ntmps112
 go_wp2_with (first|((with_reducible refine gate_callee (f:=78) rfl ?_);refine goesL_ (some 4) rfl rfl Try.func78 (by kernel_rfl) rfl #[.int .i64 a0,.int .i64 0,.int .i64 19] rfl (by (try simp only [zCb,zMb,zNb]);first|done|rfl|(simp only [zLb,zDb];rfl)) ?_;(with_reducible refine (impl_within.calls a0 0 19 t253 _ A2.out).mono ?_);rintro e w' ⟨rfl,⟨nd,rfl⟩⟩;refine ⟨_,rfl,?_⟩))
 go_ret
 exact ⟨by first|rfl|(simp;done)|(simp [*];done),by repeat (first|exact Drawn0.refl _|apply Drawn0.step)⟩

/-! ### slices_Index_int_int: function 159 -/
def slices_Index_int_int.l0 : Nat → List Int → Int → Int → Int → Option (Int)
 | 0, _, _, _, _ => none
 | k + 1, x0, x1, x7, x8 => if x8 < x7 then (if 0 ≤ x8 then (if x8 < (x0.length : Int) then (if x1 = (rd x0 x8) then (some x8) else (slices_Index_int_int.l0 k x0 x1 x7 (wrap64 (x8 + 1)))) else (none)) else (none)) else (some (-1))
def slices_Index_int_int.f (k : Nat) (l0 : List Int) (a1 : Int) : Option (Int) := slices_Index_int_int.l0 k l0 a1 (l0.length : Int) 0
theorem slices_Index_int_int.mono_l : ∀ k, (∀ y0 y1 y2 y3, LeO (slices_Index_int_int.l0 k y0 y1 y2 y3) (slices_Index_int_int.l0 (k + 1) y0 y1 y2 y3))
 | 0 => fun _ _ _ _ r h => by simp [slices_Index_int_int.l0] at h
 | k + 1 => by
  have ih0:=slices_Index_int_int.mono_l k
  ·
   intro y0 y1 y2 y3
   unfold slices_Index_int_int.l0
   repeat' first
   | (with_reducible exact ih0 _ _ _ _)
   | (with_reducible exact LeO.refl _)
   | (with_reducible exact LeO.none _)
   | (with_reducible refine LeO.ite ?_ ?_)
   | (with_reducible refine LeO.bind ?_ (fun _ => ?_))
   | exact ih0 _ _ _ _
   | exact LeO.none _
   | refine LeO.ite ?_ ?_
   | refine LeO.bind ?_ (fun _ => ?_)
theorem slices_Index_int_int.mono : ∀ a0 a1 k, LeO (slices_Index_int_int.f k a0 a1) (slices_Index_int_int.f (k + 1) a0 a1) := by
 intro a0 a1 k
 have ih0:=slices_Index_int_int.mono_l k
 unfold slices_Index_int_int.f
 repeat' first
   | (with_reducible exact ih0 _ _ _ _)
   | (with_reducible exact LeO.refl _)
   | (with_reducible exact LeO.none _)
   | (with_reducible refine LeO.ite ?_ ?_)
   | (with_reducible refine LeO.bind ?_ (fun _ => ?_))
   | exact ih0 _ _ _ _
   | exact LeO.none _
   | refine LeO.ite ?_ ?_
   | refine LeO.bind ?_ (fun _ => ?_)
set_option maxHeartbeats 8000000 in
set_option maxRecDepth 100000 in
theorem slices_Index_int_int.calls (k : Nat) (A0 : Option Addr) (c0 : Nat) (l0 : List Int) (a1 : Int) (r : Int) (w : World) (hr0 : Kd.C (Kd.int .i64) w A0 l0.length l0) (hc0 : l0.length ≤ c0) (h : slices_Index_int_int.f k l0 a1 = some r) :
  Calls Try.prog 159 #[.slice A0 l0.length c0, .int .i64 a1] w fun e w' => e = .returned (.int .i64 r) ∧ Drawn0 w w' := by
 have HR0:=zA hr0;have HC0:=zA hc0;clear hr0 hc0
 have H : (slices_Index_int_int.l0 k l0 a1 (l0.length : Int) 0) = some r:=h
 clear h
 have H':=zA H
 clear H
 go_enter Try.func159,Try.ntmps159
 go_wp2
 go_loopg [8] k (fun kq v8 w' => ∃ (x8_1 : Int),v8 = .int .i64 x8_1 ∧ Aside0 (slices_Index_int_int.l0 kq l0 a1 (l0.length : Int) x8_1 = some r) ∧ Aside0 (kq ≤ k) ∧ Drawn0 w w')
 case atStart => exact ⟨(0),za,H',⟨Nat.le_refl _⟩,by repeat (first|exact Drawn0.refl _|apply Drawn0.step)⟩
 case round =>
  clear H';(try clear c1);(try clear p2);obtain ⟨x8_1,rfl,HA,HK1,⟨m1,rfl⟩⟩:=hrel
  cases gk with
  | zero => exact absurd HA.out (by simp [slices_Index_int_int.l0])
  | succ k1 =>
   have H:=HA.out;clear HA;simp only [slices_Index_int_int.l0] at H
   by_cases c3 : x8_1 < (l0.length : Int)
   ·
    rw [if_pos c3] at H;have c3b0:=decide_eq_true c3;clear c3
    by_cases c4 : 0 ≤ x8_1
    ·
     rw [if_pos c4] at H;have c4b0:=decide_eq_true c4;clear c4
     by_cases c5 : x8_1 < (l0.length : Int)
     ·
      rw [if_pos c5] at H;have c5b0:=decide_eq_true c5;clear c5
      by_cases c6 : a1 = (rd l0 x8_1)
      ·
       rw [if_pos c6] at H;have c6b0:=beq_iff_eq.mpr c6;have c6b1:=bne_eq_false_iff_eq.mpr c6;clear c6
       obtain rfl:=Option.some.inj H
       have p254 : 0 ≤ (x8_1 : Int):=zXb ze;have q254 : x8_1 < (l0.length : Int):=zXb ze;obtain ⟨ad254,e254,hx254_0⟩:=Kd.at_int HR0.out x8_1 p254 q254
       cases e254
       replace p254:=eq_true p254;replace q254:=eq_true q254
       go_wp2
       go_ret
       exact ⟨by first|rfl|(simp;done)|(simp [*];done),by repeat (first|exact Drawn0.refl _|apply Drawn0.step)⟩
      ·
       rw [if_neg c6] at H;have c6b0:=beq_eq_false_iff_ne.mpr c6;have c6b1:=bne_iff_ne.mpr c6
       have H':=zA H
       clear H;have p254 : 0 ≤ (x8_1 : Int):=zXb ze;have q254 : x8_1 < (l0.length : Int):=zXb ze;obtain ⟨ad254,e254,hx254_0⟩:=Kd.at_int HR0.out x8_1 p254 q254
       cases e254
       replace p254:=eq_true p254;replace q254:=eq_true q254
       go_wp2
       go_roundg k1
       case measure => have:=HK1.out;omega
       case rel => exact ⟨(wrap64 (x8_1 + 1)),za,H',⟨by have:=HK1.out;omega⟩,by repeat (first|exact Drawn0.refl _|apply Drawn0.step)⟩
     ·
      rw [if_neg c5] at H
      exact absurd H (by simp)
    ·
     rw [if_neg c4] at H
     exact absurd H (by simp)
   ·
    rw [if_neg c3] at H;have c3b0:=decide_eq_false c3;clear c3
    obtain rfl:=Option.some.inj H
    go_wp2
    go_ret
    exact ⟨by first|rfl|(simp;done)|(simp [*];done),by repeat (first|exact Drawn0.refl _|apply Drawn0.step)⟩

/-! ### slices_Contains_int_int: function 158 -/
def slices_Contains_int_int.f (k : Nat) (l0 : List Int) (a1 : Int) : Option (Bool) := (slices_Index_int_int.f k l0 a1).bind fun t255 => (some (decide (t255 ≥ 0)))
theorem slices_Contains_int_int.mono : ∀ a0 a1 k, LeO (slices_Contains_int_int.f k a0 a1) (slices_Contains_int_int.f (k + 1) a0 a1) := by
 intro a0 a1 k
 unfold slices_Contains_int_int.f
 repeat' first
   | (with_reducible exact slices_Index_int_int.mono _ _ _)
   | (with_reducible exact LeO.refl _)
   | (with_reducible exact LeO.none _)
   | (with_reducible refine LeO.ite ?_ ?_)
   | (with_reducible refine LeO.bind ?_ (fun _ => ?_))
   | exact LeO.none _
   | refine LeO.ite ?_ ?_
   | refine LeO.bind ?_ (fun _ => ?_)
set_option maxHeartbeats 8000000 in
set_option maxRecDepth 100000 in
theorem slices_Contains_int_int.calls (k : Nat) (A0 : Option Addr) (c0 : Nat) (l0 : List Int) (a1 : Int) (r : Bool) (w : World) (hr0 : Kd.C (Kd.int .i64) w A0 l0.length l0) (hc0 : l0.length ≤ c0) (h : slices_Contains_int_int.f k l0 a1 = some r) :
  Calls Try.prog 158 #[.slice A0 l0.length c0, .int .i64 a1] w fun e w' => e = .returned (.bool r) ∧ Drawn0 w w' := by
 have HR0:=zA hr0;have HC0:=zA hc0;clear hr0 hc0
 have H : ((slices_Index_int_int.f k l0 a1).bind fun t255 => (some (decide (t255 ≥ 0)))) = some r:=h
 clear h;replace H:=Option.bind_eq_some_iff.mp H;obtain ⟨t255,A30,H⟩:=H;(try dsimp only at H);have A3:=zA A30;clear A30
 obtain rfl:=Option.some.inj H
 go_enter Try.func158,Try.ntmps158
 go_wp2_with (first|((with_reducible refine gate_callee (f:=159) rfl ?_);refine goesL_ (some 7) rfl rfl Try.func159 (by kernel_rfl) rfl #[.slice A0 l0.length c0,.int .i64 a1] rfl (by (try simp only [zCb,zMb,zNb]);first|done|rfl|(simp only [zLb,zDb];rfl)) ?_;(with_reducible refine (slices_Index_int_int.calls k _ _ l0 a1 t255 _ ?side1 ?side2 A3.out).mono ?_);(case side1 => repeat (first|exact HR0.out|(with_reducible refine zBb ?_ _)|(with_reducible refine zAb ?_ _)|(with_reducible refine zX ?_)));(case side2 => exact HC0.out);rintro e w' ⟨rfl,⟨nd,rfl⟩⟩;refine ⟨_,rfl,?_⟩))
 go_ret
 exact ⟨by first|rfl|(simp;done)|(simp [*];done),by repeat (first|exact Drawn0.refl _|apply Drawn0.step)⟩

/-! ### impl_Query_occurs: function 154 -/
def impl_Query_occurs.l0 : Nat → Int → List (S97) → Int → Int → Option (Bool)
 | 0, _, _, _, _ => none
 | k + 1, x1, x8, x9, x10 => if x10 < x9 then (if 0 ≤ x10 then (if x10 < (x8.length : Int) then ((slices_Contains_int_int.f k ((rd_T97 x8 x10).f1) x1).bind fun t259 => (if t259 = true then (some true) else (impl_Query_occurs.l0 k x1 x8 x9 (wrap64 (x10 + 1))))) else (none)) else (none)) else (some false)
def impl_Query_occurs.f (k : Nat) (l0_0 : List Int) (l0_1 : List (S97)) (a1 : Int) : Option (Bool) := impl_Query_occurs.l0 k a1 l0_1 (l0_1.length : Int) 0
theorem impl_Query_occurs.mono_l : ∀ k, (∀ y0 y1 y2 y3, LeO (impl_Query_occurs.l0 k y0 y1 y2 y3) (impl_Query_occurs.l0 (k + 1) y0 y1 y2 y3))
 | 0 => fun _ _ _ _ r h => by simp [impl_Query_occurs.l0] at h
 | k + 1 => by
  have ih0:=impl_Query_occurs.mono_l k
  ·
   intro y0 y1 y2 y3
   unfold impl_Query_occurs.l0
   repeat' first
   | (with_reducible exact ih0 _ _ _ _)
   | (with_reducible exact slices_Contains_int_int.mono _ _ _)
   | (with_reducible exact LeO.refl _)
   | (with_reducible exact LeO.none _)
   | (with_reducible refine LeO.ite ?_ ?_)
   | (with_reducible refine LeO.bind ?_ (fun _ => ?_))
   | exact ih0 _ _ _ _
   | exact LeO.none _
   | refine LeO.ite ?_ ?_
   | refine LeO.bind ?_ (fun _ => ?_)
theorem impl_Query_occurs.mono : ∀ a0 a1 a2 k, LeO (impl_Query_occurs.f k a0 a1 a2) (impl_Query_occurs.f (k + 1) a0 a1 a2) := by
 intro a0 a1 a2 k
 have ih0:=impl_Query_occurs.mono_l k
 unfold impl_Query_occurs.f
 repeat' first
   | (with_reducible exact ih0 _ _ _ _)
   | (with_reducible exact slices_Contains_int_int.mono _ _ _)
   | (with_reducible exact LeO.refl _)
   | (with_reducible exact LeO.none _)
   | (with_reducible refine LeO.ite ?_ ?_)
   | (with_reducible refine LeO.bind ?_ (fun _ => ?_))
   | exact ih0 _ _ _ _
   | exact LeO.none _
   | refine LeO.ite ?_ ?_
   | refine LeO.bind ?_ (fun _ => ?_)
set_option maxHeartbeats 8000000 in
set_option maxRecDepth 100000 in
theorem impl_Query_occurs.calls (k : Nat) (A0_0 : Option Addr) (c0_0 : Nat) (l0_0 : List Int) (A0_1 : Option Addr) (c0_1 : Nat) (l0_1 : List (S97)) (a1 : Int) (r : Bool) (w : World) (hr0_0 : Kd.C (Kd.int .i64) w A0_0 l0_0.length l0_0) (hc0_0 : l0_0.length ≤ c0_0) (hr0_1 : Kd.C k97 w A0_1 l0_1.length l0_1) (hc0_1 : l0_1.length ≤ c0_1) (h : impl_Query_occurs.f k l0_0 l0_1 a1 = some r) :
  Calls Try.prog 154 #[.agg #[.slice A0_0 l0_0.length c0_0, .slice A0_1 l0_1.length c0_1], .int .i64 a1] w fun e w' => e = .returned (.bool r) ∧ Below w.heap.size w w' := by
 have hu46:=Try.underlying46;have hu97:=Try.underlying97;have HR0_0:=zA hr0_0;have HC0_0:=zA hc0_0;clear hr0_0 hc0_0;have HR0_1:=zA hr0_1;have HC0_1:=zA hc0_1;clear hr0_1 hc0_1;have HB:=zA (Below.refl w.heap.size w)
 have H : (impl_Query_occurs.l0 k a1 l0_1 (l0_1.length : Int) 0) = some r:=h
 clear h
 have H':=zA H
 clear H
 go_enter Try.func154,Try.ntmps154
 go_wp2_with (first|((with_reducible refine gate_dst (N:=2) rfl ?_);refine box_event ?hg (N:=2) ?hd (cs:=#[.slice A0_0 l0_0.length c0_0,.slice A0_1 l0_1.length c0_1]) (t:=46) ?hr ?_;(case hd => rfl);(case hg => rfl);(case hr => first|(go_simp;done)|(go_simp;rfl));intro gb256 hg w3 hbox hb;have BK256:=zA (hbox);have GW256:=zA ((by rw [hg];exact (zT (zz HB)) : w.heap.size ≤ gb256));have GE256:=zA ((by rw [hg];exact (zT (zz HB)) : w.heap.size ≤ gb256));replace HB:=zA (zJb (zz HB) hb);clear hb hbox hg;have hcz4_0:=zc (.slice A0_0 l0_0.length c0_0) BK256 0 rfl;have hcz4_1:=zc (.slice A0_1 l0_1.length c0_1) BK256 1 rfl;have hfz4_0:=blk_frozen BK256.out 0;have hfz4_1:=blk_frozen BK256.out 1))
 go_loopg [10] k (fun kq v10 w' => ∃ (x10_1 : Int),v10 = .int .i64 x10_1 ∧ Aside0 (impl_Query_occurs.l0 kq a1 l0_1 (l0_1.length : Int) x10_1 = some r) ∧ Aside0 (kq ≤ k) ∧ Aside0 (w'.heap[gb256]? = some (.cells #[(.slice A0_0 l0_0.length c0_0),(.slice A0_1 l0_1.length c0_1)] 46 (0,0))) ∧ Aside0 (Below w.heap.size w w'))
 case atStart => exact ⟨(0),za,H',⟨Nat.le_refl _⟩,⟨zx BK256⟩,⟨zz HB⟩⟩
 case round =>
  clear H';(try clear c1);(try clear p2);(try clear hcz4_0);(try clear hcz4_1);(try clear hfz4_0);(try clear hfz4_1);obtain ⟨x10_1,rfl,HA,HK1,BK256,HB⟩:=hrel
  cases gk with
  | zero => exact absurd HA.out (by simp [impl_Query_occurs.l0])
  | succ k1 =>
   have H:=HA.out;clear HA;simp only [impl_Query_occurs.l0] at H
   by_cases c5 : x10_1 < (l0_1.length : Int)
   ·
    rw [if_pos c5] at H;have c5b0:=decide_eq_true c5;clear c5
    by_cases c6 : 0 ≤ x10_1
    ·
     rw [if_pos c6] at H;have c6b0:=decide_eq_true c6;clear c6
     by_cases c7 : x10_1 < (l0_1.length : Int)
     ·
      rw [if_pos c7] at H;have c7b0:=decide_eq_true c7;clear c7;replace H:=Option.bind_eq_some_iff.mp H;obtain ⟨t259,A80,H⟩:=H;(try dsimp only at H);have A8:=zA A80;clear A80
      by_cases c9 : t259 = true
      ·
       subst c9
       rw [if_pos rfl] at H
       obtain rfl:=Option.some.inj H
       have p257 : 0 ≤ (x10_1 : Int):=zXb ze;have q257 : x10_1 < (l0_1.length : Int):=zXb ze;obtain ⟨ad257,A257_1,c257_1,e257,hx257_0,hx257_1,hl257_1,hi257_1⟩:=at_T97 HR0_1.out x10_1 p257 q257
       cases e257
       replace hx257_0:=(HB.out.cell (World.block_lt_of_cell? w _ hx257_0)).trans hx257_0;replace hx257_1:=(HB.out.cell (World.block_lt_of_cell? w _ hx257_1)).trans hx257_1;have HR257_1:=zA hi257_1;have HC257_1:=zA hl257_1;clear hi257_1 hl257_1;replace p257:=eq_true p257;replace q257:=eq_true q257
       go_wp2_with (first|((with_reducible refine gate_dst (N:=6) rfl ?_);refine box_event ?hg (N:=6) ?hd (cs:=#[.int .i64 0,.slice none 0 0]) (t:=97) ?hr ?_;(case hd => rfl);(case hg => rfl);(case hr => first|(go_simp;done)|(go_simp;rfl));intro gb258 hg w10 hbox hb;have BK258:=zA (hbox);have GW258:=zA ((by rw [hg];exact (zT (zz HB)) : w.heap.size ≤ gb258));have GE258:=zA ((by rw [hg];exact (zT (zz HB)) : w.heap.size ≤ gb258));replace HB:=zA (zJb (zz HB) hb);have NB256_258:=zA ((by rw [hg];exact Nat.ne_of_lt (blk_lt (g:=gb256) (o:=.cells #[.slice A0_0 l0_0.length c0_0,.slice (some ad257) l0_1.length c0_1] 46 (0,0)) (zx BK256)) : gb256 ≠ gb258));have NB258_256:=zA ((by rw [hg];exact Nat.ne_of_gt (blk_lt (g:=gb256) (o:=.cells #[.slice A0_0 l0_0.length c0_0,.slice (some ad257) l0_1.length c0_1] 46 (0,0)) (zx BK256)) : gb258 ≠ gb256));replace BK256:=zA (zQ (g:=gb256) (o:=.cells #[.slice A0_0 l0_0.length c0_0,.slice (some ad257) l0_1.length c0_1] 46 (0,0)) (zx BK256) hb);clear hb hbox hg;have hnb11:=NB258_256.out;have hnc11:=NB256_258.out;have hcz12_0:=zc (.int .i64 0) BK258 0 rfl;have hcz12_1:=zc (.slice none 0 0) BK258 1 rfl;have hfz12_0:=blk_frozen BK258.out 0;have hfz12_1:=blk_frozen BK258.out 1)|((with_reducible refine gate_callee (f:=158) rfl ?_);refine goesL_ (some 17) rfl rfl Try.func158 (by kernel_rfl) rfl #[.slice A257_1 ((rd_T97 l0_1 x10_1).f1).length c257_1,.int .i64 a1] rfl (by (try simp only [zCb,zMb,zNb]);first|done|rfl|(simp only [zLb,zDb];rfl)) ?_;(with_reducible refine (slices_Contains_int_int.calls k1 _ _ ((rd_T97 l0_1 x10_1).f1) a1 true _ ?side1 ?side2 A8.out).mono ?_);(case side1 => exact zKb HR257_1.out (zz HB));(case side2 => exact HC257_1.out);rintro e w' ⟨rfl,⟨nd,rfl⟩⟩;refine ⟨_,rfl,?_⟩))
       go_ret
       exact ⟨by first|rfl|(simp [errW_none,errW_some] <;> rfl)|(simp [*,errW_none,errW_some] <;> rfl),zz HB⟩
      ·
       replace c9:=Bool.eq_false_iff.mpr c9
       subst c9
       have H1 : (impl_Query_occurs.l0 k1 a1 l0_1 (l0_1.length : Int) (wrap64 (x10_1 + 1))) = some r:=by rw [if_neg (show ¬ (false = true) by decide)] at H;exact H
       clear H;have H:=H1;clear H1
       have H':=zA H
       clear H;have p257 : 0 ≤ (x10_1 : Int):=zXb ze;have q257 : x10_1 < (l0_1.length : Int):=zXb ze;obtain ⟨ad257,A257_1,c257_1,e257,hx257_0,hx257_1,hl257_1,hi257_1⟩:=at_T97 HR0_1.out x10_1 p257 q257
       cases e257
       replace hx257_0:=(HB.out.cell (World.block_lt_of_cell? w _ hx257_0)).trans hx257_0;replace hx257_1:=(HB.out.cell (World.block_lt_of_cell? w _ hx257_1)).trans hx257_1;have HR257_1:=zA hi257_1;have HC257_1:=zA hl257_1;clear hi257_1 hl257_1;replace p257:=eq_true p257;replace q257:=eq_true q257
       go_wp2_with (first|((with_reducible refine gate_dst (N:=6) rfl ?_);refine box_event ?hg (N:=6) ?hd (cs:=#[.int .i64 0,.slice none 0 0]) (t:=97) ?hr ?_;(case hd => rfl);(case hg => rfl);(case hr => first|(go_simp;done)|(go_simp;rfl));intro gb258 hg w13 hbox hb;have BK258:=zA (hbox);have GW258:=zA ((by rw [hg];exact (zT (zz HB)) : w.heap.size ≤ gb258));have GE258:=zA ((by rw [hg];exact (zT (zz HB)) : w.heap.size ≤ gb258));replace HB:=zA (zJb (zz HB) hb);have NB256_258:=zA ((by rw [hg];exact Nat.ne_of_lt (blk_lt (g:=gb256) (o:=.cells #[.slice A0_0 l0_0.length c0_0,.slice (some ad257) l0_1.length c0_1] 46 (0,0)) (zx BK256)) : gb256 ≠ gb258));have NB258_256:=zA ((by rw [hg];exact Nat.ne_of_gt (blk_lt (g:=gb256) (o:=.cells #[.slice A0_0 l0_0.length c0_0,.slice (some ad257) l0_1.length c0_1] 46 (0,0)) (zx BK256)) : gb258 ≠ gb256));replace BK256:=zA (zQ (g:=gb256) (o:=.cells #[.slice A0_0 l0_0.length c0_0,.slice (some ad257) l0_1.length c0_1] 46 (0,0)) (zx BK256) hb);clear hb hbox hg;have hnb14:=NB258_256.out;have hnc14:=NB256_258.out;have hcz15_0:=zc (.int .i64 0) BK258 0 rfl;have hcz15_1:=zc (.slice none 0 0) BK258 1 rfl;have hfz15_0:=blk_frozen BK258.out 0;have hfz15_1:=blk_frozen BK258.out 1)|((with_reducible refine gate_callee (f:=158) rfl ?_);refine goesL_ (some 17) rfl rfl Try.func158 (by kernel_rfl) rfl #[.slice A257_1 ((rd_T97 l0_1 x10_1).f1).length c257_1,.int .i64 a1] rfl (by (try simp only [zCb,zMb,zNb]);first|done|rfl|(simp only [zLb,zDb];rfl)) ?_;(with_reducible refine (slices_Contains_int_int.calls k1 _ _ ((rd_T97 l0_1 x10_1).f1) a1 false _ ?side1 ?side2 A8.out).mono ?_);(case side1 => exact zKb HR257_1.out (zz HB));(case side2 => exact HC257_1.out);rintro e w' ⟨rfl,⟨nd,rfl⟩⟩;refine ⟨_,rfl,?_⟩))
       go_roundg k1
       case measure => have:=HK1.out;omega
       case rel => exact ⟨(wrap64 (x10_1 + 1)),za,H',⟨by have:=HK1.out;omega⟩,⟨by (with_reducible repeat (first|refine zF ?_ _|refine zI ?_|refine zG ?_ _));refine zUb ?_ NB256_258.out _;(with_reducible repeat (first|refine zF ?_ _|refine zI ?_|refine zG ?_ _));refine zUb ?_ NB256_258.out _;(with_reducible repeat (first|refine zF ?_ _|refine zI ?_|refine zG ?_ _));exact BK256.out⟩,⟨zz HB⟩⟩
     ·
      rw [if_neg c7] at H
      exact absurd H (by simp)
    ·
     rw [if_neg c6] at H
     exact absurd H (by simp)
   ·
    rw [if_neg c5] at H;have c5b0:=decide_eq_false c5;clear c5
    obtain rfl:=Option.some.inj H
    go_wp2
    go_ret
    exact ⟨by first|rfl|(simp [errW_none,errW_some] <;> rfl)|(simp [*,errW_none,errW_some] <;> rfl),zz HB⟩

end Go.Proofs.Ytanbgnjfllpkgaa.QFnExactIsMapping
