/- Walks through the Go functions that FnExactIsEquivalent reaches: each call returns what the Lean function beside it says, within the bounds that the theorem names. -/
import Derived.Test.YtanbgnjfllpkgaaQFnExactIsEquivalentx0
import Derived.Test.YtanbgnjfllpkgaaQFnExactIsEquivalentx7
import Derived.Test.YtanbgnjfllpkgaaQFnExactIsEquivalentx8
namespace Go.Proofs.Ytanbgnjfllpkgaa.QFnExactIsEquivalent
open Go.RowKit Go.Proofs.YtanbgnjfllpkgaaW.PrintWords Go.Proofs.YtanbgnjfllpkgaaW.PrintLast Go.Proofs.YtanbgnjfllpkgaaW.PrintMore
attribute [local go_sem] max2_int min2_int max_two min_two max_three min_three max_four min_four   -- for this text's walks alone
set_option linter.unusedVariables false
set_option linter.unusedSimpArgs false


/-! ### impl_IsQuery: function 103 -/
mutual
def impl_IsQuery.j0 : Nat → Bool → List Int → List Int → List (S97) → Option (Bool)
 | 0, _, _, _, _ => none
 | k + 1, x28, x280000, x281000, x281001 => if x28 = true then (some false) else (impl_IsQuery.l0 k x281001 (x281001.length : Int) 0 x280000 x281000 x281001)
def impl_IsQuery.l0 : Nat → List (S97) → Int → Int → List Int → List Int → List (S97) → Option (Bool)
 | 0, _, _, _, _, _, _ => none
 | k + 1, x30, x31, x32, x280000, x281000, x281001 => if x32 < x31 then (if 0 ≤ x32 then (if x32 < (x30.length : Int) then ((impl_IsAtom.f k x280000 ((rd_T97 x30 x32).f0) ((rd_T97 x30 x32).f1)).bind fun t286 => (if t286 = true then (impl_IsQuery.l0 k x30 x31 (wrap64 (x32 + 1)) x280000 x281000 x281001) else (some false))) else (none)) else (none)) else ((impl_Query_isSafe.f k x281000 x281001).bind fun t287 => (some t287))
end
def impl_IsQuery.f (k : Nat) (l0_0 : List Int) (l1_0 : List Int) (l1_1 : List (S97)) : Option (Bool) := (impl_IsSchema.f k l0_0).bind fun t281 => (if t281 = true then (if (l1_0.length : Int) > 3 then (impl_IsQuery.j0 k true l0_0 l1_0 l1_1) else ((impl_areTerms.f k l1_0).bind fun t282 => (if t282 = true then ((impl_within.f (l1_1.length : Int) 1 4).bind fun t283 => (impl_IsQuery.j0 k (!t283) l0_0 l1_0 l1_1)) else (impl_IsQuery.j0 k true l0_0 l1_0 l1_1)))) else (impl_IsQuery.j0 k true l0_0 l1_0 l1_1))
theorem impl_IsQuery.mono_l : ∀ k, (∀ y0 y1 y2 y3, LeO (impl_IsQuery.j0 k y0 y1 y2 y3) (impl_IsQuery.j0 (k + 1) y0 y1 y2 y3)) ∧ (∀ y0 y1 y2 y3 y4 y5, LeO (impl_IsQuery.l0 k y0 y1 y2 y3 y4 y5) (impl_IsQuery.l0 (k + 1) y0 y1 y2 y3 y4 y5))
 | 0 => ⟨fun _ _ _ _ r h => by simp [impl_IsQuery.j0] at h, fun _ _ _ _ _ _ r h => by simp [impl_IsQuery.l0] at h⟩
 | k + 1 => by
  obtain ⟨ih0,ih1⟩:=impl_IsQuery.mono_l k
  refine ⟨?_,?_⟩
  (intros;unfold impl_IsQuery.j0;rotate_left)
  (intros;unfold impl_IsQuery.l0;rotate_left)
  all_goals repeat' first
  | (with_reducible exact ih0 _ _ _ _)
  | (with_reducible exact ih1 _ _ _ _ _ _)
  | (with_reducible exact impl_IsAtom.mono _ _ _ _)
  | (with_reducible exact impl_IsSchema.mono _ _)
  | (with_reducible exact impl_Query_isSafe.mono _ _ _)
  | (with_reducible exact impl_areTerms.mono _ _)
  | (with_reducible exact LeO.refl _)
  | (with_reducible exact LeO.none _)
  | (with_reducible refine LeO.ite ?_ ?_)
  | (with_reducible refine LeO.bind ?_ (fun _ => ?_))
  | exact ih0 _ _ _ _
  | exact ih1 _ _ _ _ _ _
  | exact LeO.none _
  | refine LeO.ite ?_ ?_
  | refine LeO.bind ?_ (fun _ => ?_)
theorem impl_IsQuery.mono : ∀ a0 a1 a2 k, LeO (impl_IsQuery.f k a0 a1 a2) (impl_IsQuery.f (k + 1) a0 a1 a2) := by
 intro a0 a1 a2 k
 obtain ⟨ih0,ih1⟩:=impl_IsQuery.mono_l k
 unfold impl_IsQuery.f
 repeat' first
   | (with_reducible exact ih0 _ _ _ _)
   | (with_reducible exact ih1 _ _ _ _ _ _)
   | (with_reducible exact impl_IsAtom.mono _ _ _ _)
   | (with_reducible exact impl_IsSchema.mono _ _)
   | (with_reducible exact impl_Query_isSafe.mono _ _ _)
   | (with_reducible exact impl_areTerms.mono _ _)
   | (with_reducible exact LeO.refl _)
   | (with_reducible exact LeO.none _)
   | (with_reducible refine LeO.ite ?_ ?_)
   | (with_reducible refine LeO.bind ?_ (fun _ => ?_))
   | exact ih0 _ _ _ _
   | exact ih1 _ _ _ _ _ _
   | exact LeO.none _
   | refine LeO.ite ?_ ?_
   | refine LeO.bind ?_ (fun _ => ?_)
set_option maxHeartbeats 8000000 in
set_option maxRecDepth 100000 in
theorem impl_IsQuery.calls (k : Nat) (A0_0 : Option Addr) (c0_0 : Nat) (l0_0 : List Int) (A1_0 : Option Addr) (c1_0 : Nat) (l1_0 : List Int) (A1_1 : Option Addr) (c1_1 : Nat) (l1_1 : List (S97)) (r : Bool) (w : World) (hr0_0 : Kd.C (Kd.int .i64) w A0_0 l0_0.length l0_0) (hc0_0 : l0_0.length ≤ c0_0) (hr1_0 : Kd.C (Kd.int .i64) w A1_0 l1_0.length l1_0) (hc1_0 : l1_0.length ≤ c1_0) (hr1_1 : Kd.C k97 w A1_1 l1_1.length l1_1) (hc1_1 : l1_1.length ≤ c1_1) (h : impl_IsQuery.f k l0_0 l1_0 l1_1 = some r) :
  Calls Try.prog 103 #[.agg #[.slice A0_0 l0_0.length c0_0], .agg #[.slice A1_0 l1_0.length c1_0, .slice A1_1 l1_1.length c1_1]] w fun e w' => e = .returned (.bool r) ∧ Below w.heap.size w w' := by
 have hu65:=Try.underlying65;have hu46:=Try.underlying46;have hu97:=Try.underlying97;have HR0_0:=zA hr0_0;have HC0_0:=zA hc0_0;clear hr0_0 hc0_0;have HR1_0:=zA hr1_0;have HC1_0:=zA hc1_0;clear hr1_0 hc1_0;have HR1_1:=zA hr1_1;have HC1_1:=zA hc1_1;clear hr1_1 hc1_1;have HB:=zA (Below.refl w.heap.size w)
 have H : ((impl_IsSchema.f k l0_0).bind fun t281 => (if t281 = true then (if (l1_0.length : Int) > 3 then (impl_IsQuery.j0 k true l0_0 l1_0 l1_1) else ((impl_areTerms.f k l1_0).bind fun t282 => (if t282 = true then ((impl_within.f (l1_1.length : Int) 1 4).bind fun t283 => (impl_IsQuery.j0 k (!t283) l0_0 l1_0 l1_1)) else (impl_IsQuery.j0 k true l0_0 l1_0 l1_1)))) else (impl_IsQuery.j0 k true l0_0 l1_0 l1_1))) = some r:=h
 clear h;have HC3:=zA H;clear H
 go_enter Try.func103,Try.ntmps103
 go_upto_region 1 with (first|((with_reducible refine gate_dst (N:=2) rfl ?_);(try (refine gate_guard (by rfl) ?_;dsimp only));refine box_event ?hg (N:=2) ?hd (cs:=#[.slice A0_0 l0_0.length c0_0]) (t:=65) ?hr ?_;(case hd => rfl);(case hg => rfl);(case hr => first|(go_simp;done)|(go_simp;rfl));intro gb279 hg w4 hbox hb;have BK279:=zA (hbox);have GW279:=zA ((by rw [hg];exact (zT (zz HB)) : w.heap.size ≤ gb279));have GE279:=zA ((by rw [hg];exact (zT (zz HB)) : w.heap.size ≤ gb279));replace HB:=zA (zJb (zz HB) hb);clear hb hbox hg)|((with_reducible refine gate_dst (N:=3) rfl ?_);(try (refine gate_guard (by rfl) ?_;dsimp only));refine box_event ?hg (N:=3) ?hd (cs:=#[.slice A1_0 l1_0.length c1_0,.slice A1_1 l1_1.length c1_1]) (t:=46) ?hr ?_;(case hd => rfl);(case hg => rfl);(case hr => first|(go_simp;done)|(go_simp;rfl));intro gb280 hg w5 hbox hb;have BK280:=zA (hbox);have GW280:=zA ((by rw [hg];exact (zT (zz HB)) : w.heap.size ≤ gb280));have GE280:=zA ((by rw [hg];exact (zT (zz HB)) : w.heap.size ≤ gb280));replace HB:=zA (zJb (zz HB) hb);have NB279_280:=zA ((by rw [hg];exact Nat.ne_of_lt (blk_lt (g:=gb279) (o:=.cells #[.slice A0_0 l0_0.length c0_0] 65 (0,0)) (zx BK279)) : gb279 ≠ gb280));have NB280_279:=zA ((by rw [hg];exact Nat.ne_of_gt (blk_lt (g:=gb279) (o:=.cells #[.slice A0_0 l0_0.length c0_0] 65 (0,0)) (zx BK279)) : gb280 ≠ gb279));replace BK279:=zA (zQ (g:=gb279) (o:=.cells #[.slice A0_0 l0_0.length c0_0] 65 (0,0)) (zx BK279) hb);clear hb hbox hg))
 (try simp only [Act.put,zO,zEb,zFb])
 go_cut [28] (fun v28 wc => ∃ (kq : Nat) (x28_2 : Bool),v28 = .bool x28_2 ∧ Aside0 (impl_IsQuery.j0 kq x28_2 l0_0 l1_0 l1_1 = some r) ∧ Aside0 (kq ≤ k) ∧ Aside0 (wc.heap[gb279]? = some (.cells #[(.slice A0_0 l0_0.length c0_0)] 65 (0,0))) ∧ Aside0 (wc.heap[gb280]? = some (.cells #[(.slice A1_0 l1_0.length c1_0),(.slice A1_1 l1_1.length c1_1)] 46 (0,0))) ∧ Aside0 (Below w.heap.size w wc))
 case first =>
  have H:=HC3.out;clear HC3;replace H:=Option.bind_eq_some_iff.mp H;obtain ⟨t281,A60,H⟩:=H;(try dsimp only at H);have A6:=zA A60;clear A60
  by_cases c7 : t281 = true
  ·
   subst c7
   rw [if_pos rfl] at H
   by_cases c8 : (l1_0.length : Int) > 3
   ·
    rw [if_pos c8] at H
    have c8b0 : decide (3 < (l1_0.length : Int)) = true:=decide_eq_true c8
    have c8b1 : decide (3 < l1_0.length) = true:=decide_eq_true (by omega)
    clear c8
    (first|rw [c8b0]|(simp only [i64_w,i32_w];rw [c8b0])|skip)
    have H':=zA H
    clear H;have hnb9:=NB279_280.out;have hnc9:=NB280_279.out;have hcz10_0:=zc (.slice A0_0 l0_0.length c0_0) BK279 0 rfl;have hfz10_0:=blk_frozen BK279.out 0
    go_wp2_with (first|((with_reducible refine gate_callee (f:=128) rfl ?_);refine goesL_ (some 8) rfl rfl Try.func128 (by kernel_rfl) rfl #[.agg #[.slice A0_0 l0_0.length c0_0]] rfl (by (try simp only [zCb,zMb,zNb]);first|done|rfl|(simp only [zLb,zDb];rfl)) ?_;(with_reducible refine (impl_IsSchema.calls k _ _ l0_0 true _ ?side1 ?side2 A6.out).mono ?_);(case side1 => repeat (first|exact (zKb HR0_0.out HB.out)|(with_reducible refine zBb ?_ _)|(with_reducible refine zAb ?_ _)|(with_reducible refine zX ?_)));(case side2 => exact HC0_0.out);rintro e w11 ⟨rfl,hb⟩;refine ⟨_,rfl,?_⟩;replace BK279:=zA (zQ (g:=gb279) (o:=.cells #[.slice A0_0 l0_0.length c0_0] 65 (0,0)) (zx BK279) hb);replace BK280:=zA (zQ (g:=gb280) (o:=.cells #[.slice A1_0 l1_0.length c1_0,.slice A1_1 l1_1.length c1_1] 46 (0,0)) (zx BK280) hb);replace HB:=zA (zJb (zz HB) hb);(try clear hb);(try clear hb2);(try clear hk);(try clear hi);have hcz12_0:=zc (.slice A1_0 l1_0.length c1_0) BK280 0 rfl;have hcz12_1:=zc (.slice A1_1 l1_1.length c1_1) BK280 1 rfl;have hfz12_0:=blk_frozen BK280.out 0;have hfz12_1:=blk_frozen BK280.out 1))
    go_meet
    case rel => exact ⟨_,(true),za,H',⟨by first|omega|exact Nat.le_refl _⟩,⟨zx BK279⟩,⟨zx BK280⟩,⟨zz HB⟩⟩
   ·
    rw [if_neg c8] at H
    have c8b0 : decide (3 < (l1_0.length : Int)) = false:=decide_eq_false c8
    have c8b1 : decide (3 < l1_0.length) = false:=decide_eq_false (by omega)
    clear c8
    (first|rw [c8b0]|(simp only [i64_w,i32_w];rw [c8b0])|skip)
    replace H:=Option.bind_eq_some_iff.mp H;obtain ⟨t282,A130,H⟩:=H;(try dsimp only at H);have A13:=zA A130;clear A130
    by_cases c14 : t282 = true
    ·
     subst c14
     rw [if_pos rfl] at H;replace H:=Option.bind_eq_some_iff.mp H;obtain ⟨t283,A150,H⟩:=H;(try dsimp only at H);have A15:=zA A150;clear A150
     have H':=zA H
     clear H;have hnb16:=NB279_280.out;have hnc16:=NB280_279.out;have hcz17_0:=zc (.slice A0_0 l0_0.length c0_0) BK279 0 rfl;have hfz17_0:=blk_frozen BK279.out 0
     go_wp2_with (first|((with_reducible refine gate_callee (f:=128) rfl ?_);refine goesL_ (some 8) rfl rfl Try.func128 (by kernel_rfl) rfl #[.agg #[.slice A0_0 l0_0.length c0_0]] rfl (by (try simp only [zCb,zMb,zNb]);first|done|rfl|(simp only [zLb,zDb];rfl)) ?_;(with_reducible refine (impl_IsSchema.calls k _ _ l0_0 true _ ?side1 ?side2 A6.out).mono ?_);(case side1 => repeat (first|exact (zKb HR0_0.out HB.out)|(with_reducible refine zBb ?_ _)|(with_reducible refine zAb ?_ _)|(with_reducible refine zX ?_)));(case side2 => exact HC0_0.out);rintro e w18 ⟨rfl,hb⟩;refine ⟨_,rfl,?_⟩;replace BK279:=zA (zQ (g:=gb279) (o:=.cells #[.slice A0_0 l0_0.length c0_0] 65 (0,0)) (zx BK279) hb);replace BK280:=zA (zQ (g:=gb280) (o:=.cells #[.slice A1_0 l1_0.length c1_0,.slice A1_1 l1_1.length c1_1] 46 (0,0)) (zx BK280) hb);replace HB:=zA (zJb (zz HB) hb);(try clear hb);(try clear hb2);(try clear hk);(try clear hi);have hcz19_0:=zc (.slice A1_0 l1_0.length c1_0) BK280 0 rfl;have hcz19_1:=zc (.slice A1_1 l1_1.length c1_1) BK280 1 rfl;have hfz19_0:=blk_frozen BK280.out 0;have hfz19_1:=blk_frozen BK280.out 1)|(go_at_call 129;(with_reducible refine (impl_areTerms.calls k _ _ l1_0 true _ ?side1 ?side2 A13.out).mono ?_);(case side1 => repeat (first|exact (zKb HR1_0.out HB.out)|(with_reducible refine zBb ?_ _)|(with_reducible refine zAb ?_ _)|(with_reducible refine zX ?_)));(case side2 => exact HC1_0.out);rintro e w' ⟨rfl,⟨nd,rfl⟩⟩)|(go_at_call 78;(with_reducible refine (impl_within.calls (l1_1.length : Int) 1 4 t283 _ A15.out).mono ?_);rintro e w' ⟨rfl,⟨nd,rfl⟩⟩))
     go_meet
     case rel => exact ⟨_,(!t283),za,H',⟨by first|omega|exact Nat.le_refl _⟩,⟨zx BK279⟩,⟨zx BK280⟩,⟨zz HB⟩⟩
    ·
     replace c14:=Bool.eq_false_iff.mpr c14
     subst c14
     have H1 : (impl_IsQuery.j0 k true l0_0 l1_0 l1_1) = some r:=by rw [if_neg (show ¬ (false = true) by decide)] at H;exact H
     clear H;have H:=H1;clear H1
     have H':=zA H
     clear H;have hnb20:=NB279_280.out;have hnc20:=NB280_279.out;have hcz21_0:=zc (.slice A0_0 l0_0.length c0_0) BK279 0 rfl;have hfz21_0:=blk_frozen BK279.out 0
     go_wp2_with (first|((with_reducible refine gate_callee (f:=128) rfl ?_);refine goesL_ (some 8) rfl rfl Try.func128 (by kernel_rfl) rfl #[.agg #[.slice A0_0 l0_0.length c0_0]] rfl (by (try simp only [zCb,zMb,zNb]);first|done|rfl|(simp only [zLb,zDb];rfl)) ?_;(with_reducible refine (impl_IsSchema.calls k _ _ l0_0 true _ ?side1 ?side2 A6.out).mono ?_);(case side1 => repeat (first|exact (zKb HR0_0.out HB.out)|(with_reducible refine zBb ?_ _)|(with_reducible refine zAb ?_ _)|(with_reducible refine zX ?_)));(case side2 => exact HC0_0.out);rintro e w22 ⟨rfl,hb⟩;refine ⟨_,rfl,?_⟩;replace BK279:=zA (zQ (g:=gb279) (o:=.cells #[.slice A0_0 l0_0.length c0_0] 65 (0,0)) (zx BK279) hb);replace BK280:=zA (zQ (g:=gb280) (o:=.cells #[.slice A1_0 l1_0.length c1_0,.slice A1_1 l1_1.length c1_1] 46 (0,0)) (zx BK280) hb);replace HB:=zA (zJb (zz HB) hb);(try clear hb);(try clear hb2);(try clear hk);(try clear hi);have hcz23_0:=zc (.slice A1_0 l1_0.length c1_0) BK280 0 rfl;have hcz23_1:=zc (.slice A1_1 l1_1.length c1_1) BK280 1 rfl;have hfz23_0:=blk_frozen BK280.out 0;have hfz23_1:=blk_frozen BK280.out 1)|(go_at_call 129;(with_reducible refine (impl_areTerms.calls k _ _ l1_0 false _ ?side1 ?side2 A13.out).mono ?_);(case side1 => repeat (first|exact (zKb HR1_0.out HB.out)|(with_reducible refine zBb ?_ _)|(with_reducible refine zAb ?_ _)|(with_reducible refine zX ?_)));(case side2 => exact HC1_0.out);rintro e w' ⟨rfl,⟨nd,rfl⟩⟩))
     go_meet
     case rel => exact ⟨_,(true),za,H',⟨by first|omega|exact Nat.le_refl _⟩,⟨zx BK279⟩,⟨zx BK280⟩,⟨zz HB⟩⟩
  ·
   replace c7:=Bool.eq_false_iff.mpr c7
   subst c7
   have H1 : (impl_IsQuery.j0 k true l0_0 l1_0 l1_1) = some r:=by rw [if_neg (show ¬ (false = true) by decide)] at H;exact H
   clear H;have H:=H1;clear H1
   have H':=zA H
   clear H;have hnb24:=NB279_280.out;have hnc24:=NB280_279.out;have hcz25_0:=zc (.slice A0_0 l0_0.length c0_0) BK279 0 rfl;have hfz25_0:=blk_frozen BK279.out 0
   go_wp2_with (first|((with_reducible refine gate_callee (f:=128) rfl ?_);refine goesL_ (some 8) rfl rfl Try.func128 (by kernel_rfl) rfl #[.agg #[.slice A0_0 l0_0.length c0_0]] rfl (by (try simp only [zCb,zMb,zNb]);first|done|rfl|(simp only [zLb,zDb];rfl)) ?_;(with_reducible refine (impl_IsSchema.calls k _ _ l0_0 false _ ?side1 ?side2 A6.out).mono ?_);(case side1 => repeat (first|exact (zKb HR0_0.out HB.out)|(with_reducible refine zBb ?_ _)|(with_reducible refine zAb ?_ _)|(with_reducible refine zX ?_)));(case side2 => exact HC0_0.out);rintro e w26 ⟨rfl,hb⟩;refine ⟨_,rfl,?_⟩;replace BK279:=zA (zQ (g:=gb279) (o:=.cells #[.slice A0_0 l0_0.length c0_0] 65 (0,0)) (zx BK279) hb);replace BK280:=zA (zQ (g:=gb280) (o:=.cells #[.slice A1_0 l1_0.length c1_0,.slice A1_1 l1_1.length c1_1] 46 (0,0)) (zx BK280) hb);replace HB:=zA (zJb (zz HB) hb);(try clear hb);(try clear hb2);(try clear hk);(try clear hi)))
   go_meet
   case rel => exact ⟨_,(true),za,H',⟨by first|omega|exact Nat.le_refl _⟩,⟨zx BK279⟩,⟨zx BK280⟩,⟨zz HB⟩⟩
 case rest =>
  clear HC3;(try clear c1);(try clear c2);(try clear p2);(try clear c7);(try clear c8);(try clear c8b0);(try clear c8b1);(try clear c9);(try clear c10);(try clear c12);(try clear c14);(try clear c16);(try clear c20);(try clear c24);(try clear hcz10_0);(try clear hcz12_0);(try clear hcz12_1);(try clear hcz17_0);(try clear hcz19_0);(try clear hcz19_1);(try clear hcz21_0);(try clear hcz23_0);(try clear hcz23_1);(try clear hcz25_0);(try clear hfz10_0);(try clear hfz12_0);(try clear hfz12_1);(try clear hfz17_0);(try clear hfz19_0);(try clear hfz19_1);(try clear hfz21_0);(try clear hfz23_0);(try clear hfz23_1);(try clear hfz25_0);obtain ⟨kq,x28_2,rfl,HA,HJ2,BK279,BK280,HB⟩:=hcut
  cases kq with
  | zero => exact absurd HA.out (by simp [impl_IsQuery.j0])
  | succ kj2 =>
   have H:=HA.out;clear HA;simp only [impl_IsQuery.j0] at H
   by_cases c27 : x28_2 = true
   ·
    subst c27
    rw [if_pos rfl] at H
    obtain rfl:=Option.some.inj H
    go_wp2
    go_ret
    exact ⟨by first|rfl|(simp [errW_none,errW_some] <;> rfl)|(simp [*,errW_none,errW_some] <;> rfl),zz HB⟩
   ·
    replace c27:=Bool.eq_false_iff.mpr c27
    subst c27
    have H1 : (impl_IsQuery.l0 kj2 l1_1 (l1_1.length : Int) 0 l0_0 l1_0 l1_1) = some r:=by rw [if_neg (show ¬ (false = true) by decide)] at H;exact H
    clear H;have H:=H1;clear H1
    have H':=zA H
    clear H;have hnb28:=NB280_279.out;have hnc28:=NB279_280.out;have hcz29_0:=zc (.slice A1_0 l1_0.length c1_0) BK280 0 rfl;have hcz29_1:=zc (.slice A1_1 l1_1.length c1_1) BK280 1 rfl;have hfz29_0:=blk_frozen BK280.out 0;have hfz29_1:=blk_frozen BK280.out 1
    go_wp2
    go_loopg [32] kj2 (fun kq v32 w' => ∃ (x32_2 : Int),v32 = .int .i64 x32_2 ∧ Aside0 (impl_IsQuery.l0 kq l1_1 (l1_1.length : Int) x32_2 l0_0 l1_0 l1_1 = some r) ∧ Aside0 (kq ≤ kj2) ∧ Aside0 (w'.heap[gb279]? = some (.cells #[(.slice A0_0 l0_0.length c0_0)] 65 (0,0))) ∧ Aside0 (w'.heap[gb280]? = some (.cells #[(.slice A1_0 l1_0.length c1_0),(.slice A1_1 l1_1.length c1_1)] 46 (0,0))) ∧ Aside0 (Below w.heap.size w w'))
    case atStart => exact ⟨(0),za,H',⟨Nat.le_refl _⟩,⟨zx BK279⟩,⟨zx BK280⟩,⟨zz HB⟩⟩
    case round =>
     clear H';(try clear c1);(try clear c2);(try clear p2);(try clear c7);(try clear c8);(try clear c8b0);(try clear c8b1);(try clear c9);(try clear c10);(try clear c12);(try clear c14);(try clear c16);(try clear c20);(try clear c24);(try clear c27);(try clear c28);(try clear hcz10_0);(try clear hcz12_0);(try clear hcz12_1);(try clear hcz17_0);(try clear hcz19_0);(try clear hcz19_1);(try clear hcz21_0);(try clear hcz23_0);(try clear hcz23_1);(try clear hcz25_0);(try clear hcz29_0);(try clear hcz29_1);(try clear hfz10_0);(try clear hfz12_0);(try clear hfz12_1);(try clear hfz17_0);(try clear hfz19_0);(try clear hfz19_1);(try clear hfz21_0);(try clear hfz23_0);(try clear hfz23_1);(try clear hfz25_0);(try clear hfz29_0);(try clear hfz29_1);(try clear p2);obtain ⟨x32_2,rfl,HA,HK2,BK279,BK280,HB⟩:=hrel
     cases gk with
     | zero => exact absurd HA.out (by simp [impl_IsQuery.l0])
     | succ k2 =>
      have H:=HA.out;clear HA;simp only [impl_IsQuery.l0] at H
      by_cases c30 : x32_2 < (l1_1.length : Int)
      ·
       rw [if_pos c30] at H;have c30b0:=decide_eq_true c30;clear c30
       by_cases c31 : 0 ≤ x32_2
       ·
        rw [if_pos c31] at H;have c31b0:=decide_eq_true c31;clear c31
        by_cases c32 : x32_2 < (l1_1.length : Int)
        ·
         rw [if_pos c32] at H;have c32b0:=decide_eq_true c32;clear c32;replace H:=Option.bind_eq_some_iff.mp H;obtain ⟨t286,A330,H⟩:=H;(try dsimp only at H);have A33:=zA A330;clear A330
         by_cases c34 : t286 = true
         ·
          subst c34
          rw [if_pos rfl] at H
          have H':=zA H
          clear H;have p284 : 0 ≤ (x32_2 : Int):=zXb ze;have q284 : x32_2 < (l1_1.length : Int):=zXb ze;obtain ⟨ad284,A284_1,c284_1,e284,hx284_0,hx284_1,hl284_1,hi284_1⟩:=at_T97 HR1_1.out x32_2 p284 q284
          cases e284
          replace hx284_0:=(HB.out.cell (World.block_lt_of_cell? w _ hx284_0)).trans hx284_0;replace hx284_1:=(HB.out.cell (World.block_lt_of_cell? w _ hx284_1)).trans hx284_1;have HR284_1:=zA hi284_1;have HC284_1:=zA hl284_1;clear hi284_1 hl284_1;replace p284:=eq_true p284;replace q284:=eq_true q284
          go_wp2_with (first|((with_reducible refine gate_dst (N:=6) rfl ?_);(try (refine gate_guard (by rfl) ?_;dsimp only));refine box_event ?hg (N:=6) ?hd (cs:=#[.int .i64 0,.slice none 0 0]) (t:=97) ?hr ?_;(case hd => rfl);(case hg => rfl);(case hr => first|(go_simp;done)|(go_simp;rfl));intro gb285 hg w35 hbox hb;have BK285:=zA (hbox);have GW285:=zA ((by rw [hg];exact (zT (zz HB)) : w.heap.size ≤ gb285));have GE285:=zA ((by rw [hg];exact (zT (zz HB)) : w.heap.size ≤ gb285));replace HB:=zA (zJb (zz HB) hb);have NB279_285:=zA ((by rw [hg];exact Nat.ne_of_lt (blk_lt (g:=gb279) (o:=.cells #[.slice A0_0 l0_0.length c0_0] 65 (0,0)) (zx BK279)) : gb279 ≠ gb285));have NB285_279:=zA ((by rw [hg];exact Nat.ne_of_gt (blk_lt (g:=gb279) (o:=.cells #[.slice A0_0 l0_0.length c0_0] 65 (0,0)) (zx BK279)) : gb285 ≠ gb279));replace BK279:=zA (zQ (g:=gb279) (o:=.cells #[.slice A0_0 l0_0.length c0_0] 65 (0,0)) (zx BK279) hb);have NB280_285:=zA ((by rw [hg];exact Nat.ne_of_lt (blk_lt (g:=gb280) (o:=.cells #[.slice A1_0 l1_0.length c1_0,.slice (some ad284) l1_1.length c1_1] 46 (0,0)) (zx BK280)) : gb280 ≠ gb285));have NB285_280:=zA ((by rw [hg];exact Nat.ne_of_gt (blk_lt (g:=gb280) (o:=.cells #[.slice A1_0 l1_0.length c1_0,.slice (some ad284) l1_1.length c1_1] 46 (0,0)) (zx BK280)) : gb285 ≠ gb280));replace BK280:=zA (zQ (g:=gb280) (o:=.cells #[.slice A1_0 l1_0.length c1_0,.slice (some ad284) l1_1.length c1_1] 46 (0,0)) (zx BK280) hb);clear hb hbox hg;have hnb36:=NB285_279.out;have hnc36:=NB279_285.out;have hnb37:=NB285_280.out;have hnc37:=NB280_285.out;have hcz38_0:=zc (.int .i64 0) BK285 0 rfl;have hcz38_1:=zc (.slice none 0 0) BK285 1 rfl;have hfz38_0:=blk_frozen BK285.out 0;have hfz38_1:=blk_frozen BK285.out 1;have hnb39:=NB279_280.out;have hnc39:=NB280_279.out;have hcz40_0:=zc (.slice A0_0 l0_0.length c0_0) BK279 0 rfl;have hfz40_0:=blk_frozen BK279.out 0)|((with_reducible refine gate_callee (f:=130) rfl ?_);refine goesL_ (some 38) rfl rfl Try.func130 (by kernel_rfl) rfl #[.agg #[.slice A0_0 l0_0.length c0_0],.agg #[.int .i64 ((rd_T97 l1_1 x32_2).f0),.slice A284_1 ((rd_T97 l1_1 x32_2).f1).length c284_1]] rfl (by (try simp only [zCb,zMb,zNb]);first|done|rfl|(simp only [zLb,zDb];rfl)) ?_;(with_reducible refine (impl_IsAtom.calls k2 _ _ l0_0 ((rd_T97 l1_1 x32_2).f0) _ _ ((rd_T97 l1_1 x32_2).f1) true _ ?side1 ?side2 ?side3 ?side4 A33.out).mono ?_);(case side1 => exact zKb HR0_0.out (zz HB));(case side2 => exact HC0_0.out);(case side3 => exact zKb HR284_1.out (zz HB));(case side4 => exact HC284_1.out);rintro e w41 ⟨rfl,hb⟩;refine ⟨_,rfl,?_⟩;replace BK279:=zA (zQ (g:=gb279) (o:=.cells #[.slice A0_0 l0_0.length c0_0] 65 (0,0)) (by (with_reducible repeat (first|refine zF ?_ _|refine zI ?_|refine zG ?_ _));refine zUb ?_ NB279_285.out _;(with_reducible repeat (first|refine zF ?_ _|refine zI ?_|refine zG ?_ _));refine zUb ?_ NB279_285.out _;(with_reducible repeat (first|refine zF ?_ _|refine zI ?_|refine zG ?_ _));exact BK279.out) hb);replace BK280:=zA (zQ (g:=gb280) (o:=.cells #[.slice A1_0 l1_0.length c1_0,.slice (some ad284) l1_1.length c1_1] 46 (0,0)) (by (with_reducible repeat (first|refine zF ?_ _|refine zI ?_|refine zG ?_ _));refine zUb ?_ NB280_285.out _;(with_reducible repeat (first|refine zF ?_ _|refine zI ?_|refine zG ?_ _));refine zUb ?_ NB280_285.out _;(with_reducible repeat (first|refine zF ?_ _|refine zI ?_|refine zG ?_ _));exact BK280.out) hb);replace BK285:=zA (zQ (g:=gb285) (o:=.cells #[.int .i64 ((rd_T97 l1_1 x32_2).f0),.slice A284_1 ((rd_T97 l1_1 x32_2).f1).length c284_1] 97 (0,0)) (by (with_reducible repeat (first|refine zF ?_ _|refine zI ?_|refine zG ?_ _));refine blk_put (cs:=#[.int .i64 ((rd_T97 l1_1 x32_2).f0),.slice none 0 0]) ?_ 1 _ rfl;(with_reducible repeat (first|refine zF ?_ _|refine zI ?_|refine zG ?_ _));refine blk_put (cs:=#[.int .i64 0,.slice none 0 0]) ?_ 0 _ rfl;(with_reducible repeat (first|refine zF ?_ _|refine zI ?_|refine zG ?_ _));exact BK285.out) hb);replace HB:=zA (zJb (zz HB) hb);(try clear hb);(try clear hb2);(try clear hk);(try clear hi)))
          go_roundg k2
          case measure => have:=HJ2.out;have:=HK2.out;omega
          case rel => exact ⟨(wrap64 (x32_2 + 1)),za,H',⟨by have:=HJ2.out;have:=HK2.out;omega⟩,⟨zx BK279⟩,⟨zx BK280⟩,⟨zz HB⟩⟩
         ·
          replace c34:=Bool.eq_false_iff.mpr c34
          subst c34
          have H1 : (some false) = some r:=by rw [if_neg (show ¬ (false = true) by decide)] at H;exact H
          clear H;have H:=H1;clear H1
          obtain rfl:=Option.some.inj H
          have p284 : 0 ≤ (x32_2 : Int):=zXb ze;have q284 : x32_2 < (l1_1.length : Int):=zXb ze;obtain ⟨ad284,A284_1,c284_1,e284,hx284_0,hx284_1,hl284_1,hi284_1⟩:=at_T97 HR1_1.out x32_2 p284 q284
          cases e284
          replace hx284_0:=(HB.out.cell (World.block_lt_of_cell? w _ hx284_0)).trans hx284_0;replace hx284_1:=(HB.out.cell (World.block_lt_of_cell? w _ hx284_1)).trans hx284_1;have HR284_1:=zA hi284_1;have HC284_1:=zA hl284_1;clear hi284_1 hl284_1;replace p284:=eq_true p284;replace q284:=eq_true q284
          go_wp2_with (first|((with_reducible refine gate_dst (N:=6) rfl ?_);(try (refine gate_guard (by rfl) ?_;dsimp only));refine box_event ?hg (N:=6) ?hd (cs:=#[.int .i64 0,.slice none 0 0]) (t:=97) ?hr ?_;(case hd => rfl);(case hg => rfl);(case hr => first|(go_simp;done)|(go_simp;rfl));intro gb285 hg w42 hbox hb;have BK285:=zA (hbox);have GW285:=zA ((by rw [hg];exact (zT (zz HB)) : w.heap.size ≤ gb285));have GE285:=zA ((by rw [hg];exact (zT (zz HB)) : w.heap.size ≤ gb285));replace HB:=zA (zJb (zz HB) hb);have NB279_285:=zA ((by rw [hg];exact Nat.ne_of_lt (blk_lt (g:=gb279) (o:=.cells #[.slice A0_0 l0_0.length c0_0] 65 (0,0)) (zx BK279)) : gb279 ≠ gb285));have NB285_279:=zA ((by rw [hg];exact Nat.ne_of_gt (blk_lt (g:=gb279) (o:=.cells #[.slice A0_0 l0_0.length c0_0] 65 (0,0)) (zx BK279)) : gb285 ≠ gb279));replace BK279:=zA (zQ (g:=gb279) (o:=.cells #[.slice A0_0 l0_0.length c0_0] 65 (0,0)) (zx BK279) hb);have NB280_285:=zA ((by rw [hg];exact Nat.ne_of_lt (blk_lt (g:=gb280) (o:=.cells #[.slice A1_0 l1_0.length c1_0,.slice (some ad284) l1_1.length c1_1] 46 (0,0)) (zx BK280)) : gb280 ≠ gb285));have NB285_280:=zA ((by rw [hg];exact Nat.ne_of_gt (blk_lt (g:=gb280) (o:=.cells #[.slice A1_0 l1_0.length c1_0,.slice (some ad284) l1_1.length c1_1] 46 (0,0)) (zx BK280)) : gb285 ≠ gb280));replace BK280:=zA (zQ (g:=gb280) (o:=.cells #[.slice A1_0 l1_0.length c1_0,.slice (some ad284) l1_1.length c1_1] 46 (0,0)) (zx BK280) hb);clear hb hbox hg;have hnb43:=NB285_279.out;have hnc43:=NB279_285.out;have hnb44:=NB285_280.out;have hnc44:=NB280_285.out;have hcz45_0:=zc (.int .i64 0) BK285 0 rfl;have hcz45_1:=zc (.slice none 0 0) BK285 1 rfl;have hfz45_0:=blk_frozen BK285.out 0;have hfz45_1:=blk_frozen BK285.out 1;have hnb46:=NB279_280.out;have hnc46:=NB280_279.out;have hcz47_0:=zc (.slice A0_0 l0_0.length c0_0) BK279 0 rfl;have hfz47_0:=blk_frozen BK279.out 0)|((with_reducible refine gate_callee (f:=130) rfl ?_);refine goesL_ (some 38) rfl rfl Try.func130 (by kernel_rfl) rfl #[.agg #[.slice A0_0 l0_0.length c0_0],.agg #[.int .i64 ((rd_T97 l1_1 x32_2).f0),.slice A284_1 ((rd_T97 l1_1 x32_2).f1).length c284_1]] rfl (by (try simp only [zCb,zMb,zNb]);first|done|rfl|(simp only [zLb,zDb];rfl)) ?_;(with_reducible refine (impl_IsAtom.calls k2 _ _ l0_0 ((rd_T97 l1_1 x32_2).f0) _ _ ((rd_T97 l1_1 x32_2).f1) false _ ?side1 ?side2 ?side3 ?side4 A33.out).mono ?_);(case side1 => exact zKb HR0_0.out (zz HB));(case side2 => exact HC0_0.out);(case side3 => exact zKb HR284_1.out (zz HB));(case side4 => exact HC284_1.out);rintro e w48 ⟨rfl,hb⟩;refine ⟨_,rfl,?_⟩;replace BK279:=zA (zQ (g:=gb279) (o:=.cells #[.slice A0_0 l0_0.length c0_0] 65 (0,0)) (by (with_reducible repeat (first|refine zF ?_ _|refine zI ?_|refine zG ?_ _));refine zUb ?_ NB279_285.out _;(with_reducible repeat (first|refine zF ?_ _|refine zI ?_|refine zG ?_ _));refine zUb ?_ NB279_285.out _;(with_reducible repeat (first|refine zF ?_ _|refine zI ?_|refine zG ?_ _));exact BK279.out) hb);replace BK280:=zA (zQ (g:=gb280) (o:=.cells #[.slice A1_0 l1_0.length c1_0,.slice (some ad284) l1_1.length c1_1] 46 (0,0)) (by (with_reducible repeat (first|refine zF ?_ _|refine zI ?_|refine zG ?_ _));refine zUb ?_ NB280_285.out _;(with_reducible repeat (first|refine zF ?_ _|refine zI ?_|refine zG ?_ _));refine zUb ?_ NB280_285.out _;(with_reducible repeat (first|refine zF ?_ _|refine zI ?_|refine zG ?_ _));exact BK280.out) hb);replace BK285:=zA (zQ (g:=gb285) (o:=.cells #[.int .i64 ((rd_T97 l1_1 x32_2).f0),.slice A284_1 ((rd_T97 l1_1 x32_2).f1).length c284_1] 97 (0,0)) (by (with_reducible repeat (first|refine zF ?_ _|refine zI ?_|refine zG ?_ _));refine blk_put (cs:=#[.int .i64 ((rd_T97 l1_1 x32_2).f0),.slice none 0 0]) ?_ 1 _ rfl;(with_reducible repeat (first|refine zF ?_ _|refine zI ?_|refine zG ?_ _));refine blk_put (cs:=#[.int .i64 0,.slice none 0 0]) ?_ 0 _ rfl;(with_reducible repeat (first|refine zF ?_ _|refine zI ?_|refine zG ?_ _));exact BK285.out) hb);replace HB:=zA (zJb (zz HB) hb);(try clear hb);(try clear hb2);(try clear hk);(try clear hi)))
          go_ret
          exact ⟨by first|rfl|(simp [errW_none,errW_some] <;> rfl)|(simp [*,errW_none,errW_some] <;> rfl),zz HB⟩
        ·
         rw [if_neg c32] at H
         exact absurd H (by simp)
       ·
        rw [if_neg c31] at H
        exact absurd H (by simp)
      ·
       rw [if_neg c30] at H;have c30b0:=decide_eq_false c30;clear c30;replace H:=Option.bind_eq_some_iff.mp H;obtain ⟨t287,A490,H⟩:=H;(try dsimp only at H);have A49:=zA A490;clear A490
       obtain rfl:=Option.some.inj H
       have hnb50:=NB280_279.out;have hnc50:=NB279_280.out;have hcz51_0:=zc (.slice A1_0 l1_0.length c1_0) BK280 0 rfl;have hcz51_1:=zc (.slice A1_1 l1_1.length c1_1) BK280 1 rfl;have hfz51_0:=blk_frozen BK280.out 0;have hfz51_1:=blk_frozen BK280.out 1
       go_wp2_with (first|((with_reducible refine gate_callee (f:=131) rfl ?_);refine goesL_ (some 42) rfl rfl Try.func131 (by kernel_rfl) rfl #[.agg #[.slice A1_0 l1_0.length c1_0,.slice A1_1 l1_1.length c1_1]] rfl (by (try simp only [zCb,zMb,zNb]);first|done|rfl|(simp only [zLb,zDb];rfl)) ?_;(with_reducible refine (impl_Query_isSafe.calls k2 _ _ l1_0 _ _ l1_1 t287 _ ?side1 ?side2 ?side3 ?side4 A49.out).mono ?_);(case side1 => repeat (first|exact (zKb HR1_0.out HB.out)|(with_reducible refine zBb ?_ _)|(with_reducible refine zAb ?_ _)|(with_reducible refine zX ?_)));(case side2 => exact HC1_0.out);(case side3 => repeat (first|exact (zKb HR1_1.out HB.out)|(with_reducible refine zBb ?_ _)|(with_reducible refine zAb ?_ _)|(with_reducible refine zX ?_)));(case side4 => exact HC1_1.out);rintro e w52 ⟨rfl,hb⟩;refine ⟨_,rfl,?_⟩;replace BK279:=zA (zQ (g:=gb279) (o:=.cells #[.slice A0_0 l0_0.length c0_0] 65 (0,0)) (zx BK279) hb);replace BK280:=zA (zQ (g:=gb280) (o:=.cells #[.slice A1_0 l1_0.length c1_0,.slice A1_1 l1_1.length c1_1] 46 (0,0)) (zx BK280) hb);replace HB:=zA (zJb (zz HB) hb);(try clear hb);(try clear hb2);(try clear hk);(try clear hi)))
       go_ret
       exact ⟨by first|rfl|(simp [errW_none,errW_some] <;> rfl)|(simp [*,errW_none,errW_some] <;> rfl),zz HB⟩

/-! ### impl_send: function 137 -/
def impl_send.f (l0 : List Int) (a1 : Int) (a2 : Int) : Option (Bool × List Int) := (impl_IsVar.f a1).bind fun t288 => (if t288 = true then (if 0 ≤ a1 then (if a1 < (l0.length : Int) then (if (rd l0 a1) = (-1000) then ((some (l0.set (a1 : Int).toNat a2 : List Int)).bind fun y290 => (some (((rd y290 a1) == a2), y290))) else (some (((rd l0 a1) == a2), l0))) else (none)) else (none)) else (some ((a1 == a2), l0)))
/-! ### impl_copyInts: function 139 -/
def impl_copyInts.f (l0 : List Int) : Option (List Int) := (some (([] : List Int) : List Int)).bind fun y293 => (if y293.length + l0.length < 17592186044416 then (some (y293 ++ l0)) else (none))
set_option maxHeartbeats 8000000 in
set_option maxRecDepth 100000 in
theorem impl_copyInts.calls (A0 : Option Addr) (c0 : Nat) (l0 : List Int) (r : List Int) (w : World) (hr0 : Kd.C (Kd.int .i64) w A0 l0.length l0) (hc0 : l0.length ≤ c0) (h : impl_copyInts.f l0 = some r) :
  Calls Try.prog 139 #[.slice A0 l0.length c0] w fun e w' => ∃ v0_ : Value, e = .returned (v0_) ∧ Kd.R (Kd.int .i64) 3 w' w.heap.size (fun _ => True) v0_ r ∧ Below w.heap.size w w' := by
 have HR0:=zA hr0;have HC0:=zA hc0;clear hr0 hc0;have HB:=zA (Below.refl w.heap.size w)
 have H : ((some (([] : List Int) : List Int)).bind fun y293 => (if y293.length + l0.length < 17592186044416 then (some (y293 ++ l0)) else (none))) = some r:=h
 clear h;obtain ⟨y293,hy293⟩ : ∃ y_ : List Int,y_ = (([] : List Int)):=⟨_,rfl⟩
 replace H : (if y293.length + l0.length < 17592186044416 then (some (y293 ++ l0)) else (none)) = some r:=by first|(rw [hy293];with_reducible exact H)|(have H2_:=(Option.bind_some _ _).symm.trans H;rw [hy293];with_reducible exact H2_)|(have H2_:=(Option.bind_some _ _).symm.trans H;with_reducible exact H2_)|with_reducible exact H|(rw [hy293];exact H)|exact H
 have Ny293:=zA hy293;clear hy293
 by_cases c2 : y293.length + l0.length < 17592186044416
 ·
  rw [if_pos c2] at H;have LMc2:=zA c2;clear c2;obtain ⟨y296,hy296⟩ : ∃ y_ : List Int,y_ = (y293 ++ l0):=⟨_,rfl⟩
  replace H : (some y296) = some r:=by first|(rw [hy296];with_reducible exact H)|(have H2_:=(Option.bind_some _ _).symm.trans H;rw [hy296];with_reducible exact H2_)|(have H2_:=(Option.bind_some _ _).symm.trans H;with_reducible exact H2_)|with_reducible exact H|(rw [hy296];exact H)|exact H
  have Ny296:=zA hy296;clear hy296
  obtain rfl:=Option.some.inj H
  go_enter Try.func139,Try.ntmps139
  go_wp2_with (first|((with_reducible refine gate_dst (N:=3) rfl ?_);refine Kd.R_lit (Kd.int .i64) _ 3 ?hg (N:=3) ?hd (xs:=([] : List Int)) (inner:=[]) (ok:=fun _ => True) (okp:=fun _ => True) ?hr ?hp (fun _ hk => hk) trivial (Below.refl _ _) (Nat.le_refl _) (by simp) ?_;(case hd => rfl);(case hg => rfl);(case hr => first|(go_simp;done)|(go_simp;rfl));(case hp => exact (Reps.none _ _));intro v294 w3 ho4 hb hg_ hnew_;clear hg_ hnew_;(first|rw [← Ny293.out] at ho4|(simp only [Int.reduceToNat] at ho4;rw [← Ny293.out] at ho4));have HO295:=zA (zHb ho4 (zT (zz HB)));replace HB:=zA (zJb (zz HB) hb);clear hb ho4)|((with_reducible refine gate_builtin (b:=.append) (xs:=#[.tmp 3,.tmp 4]) rfl ?_);at_builtin;refine Kd.R_append_rows (Kd.int .i64) (w0:=w) w.heap.size rfl (.tmp 3) (.tmp 4) 38 3 (.int .i64 0) 8 rfl Try.underlying38 info3 rfl (by decide) (by omega) v294 y293 l0 _ _ _ (fun _ => True) (fun _ => False) rfl rfl ?aO ?aR (fun _ _ h => h) (fun _ h => h.elim) ?aF ?aB ?aS ?aL ?_;(case aR => repeat (first|exact (zKb HR0.out HB.out)|(with_reducible refine zBb ?_ _)|(with_reducible refine zAb ?_ _)|(with_reducible refine zX ?_)));(case aB => exact (zz HB));(case aF => exact (fun _ _ => trivial));(case aO => exact (zq HO295));(case aS => exact (zT (zz HB)));(case aL => have:=LMc2.out;omega);intro v297 w5 ho hb hg hat;rw [← Ny296.out] at ho;replace HB:=zA (hb);have HO298:=zA (ho);clear HO295;clear ho hb hg hat))
  go_ret
  exact ⟨_,by first|rfl|(simp [errW_none,errW_some] <;> rfl)|(simp [*,errW_none,errW_some] <;> rfl),zq HO298,zz HB⟩
 ·
  rw [if_neg c2] at H
  exact absurd H (by simp)

-- NOT PRINTED: function 106 (impl_mapping)

-- NOT PRINTED: function 57 (impl_FindMapping)

-- NOT PRINTED: function 53 (impl_IsContained)

-- NOT PRINTED: function 55 (impl_IsEquivalent)

-- NOT PRINTED: function 11 (laws_FnExactIsEquivalent)

end Go.Proofs.Ytanbgnjfllpkgaa.QFnExactIsEquivalent
