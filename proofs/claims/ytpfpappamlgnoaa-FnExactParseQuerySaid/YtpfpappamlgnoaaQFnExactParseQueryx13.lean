/- Walks through the Go functions that FnExactParseQuery reaches: each call returns what the Lean function beside it says, within the bounds that the theorem names. -/
import Derived.Test.YtpfpappamlgnoaaQFnExactParseQueryx0
import Derived.Test.YtpfpappamlgnoaaQFnExactParseQueryx9
import Derived.Test.YtpfpappamlgnoaaQFnExactParseQueryx10
import Derived.Test.YtpfpappamlgnoaaQFnExactParseQueryx11
import Derived.Test.YtpfpappamlgnoaaQFnExactParseQueryx12
namespace Go.Proofs.Ytpfpappamlgnoaa.QFnExactParseQuery
open Go.RowKit Go.Proofs.YtpfpappamlgnoaaW.PrintWords Go.Proofs.YtpfpappamlgnoaaW.PrintLast Go.Proofs.YtpfpappamlgnoaaW.PrintMore
attribute [local go_sem] max2_int min2_int max_two min_two max_three min_three max_four min_four   -- for this text's walks alone
set_option linter.unusedVariables false
set_option linter.unusedSimpArgs false


/-! ### impl_IsQuery: function 48 -/
mutual
def impl_IsQuery.j0 : Nat → Bool → List Int → List Int → List (S38) → Option (Bool)
 | 0, _, _, _, _ => none
 | k + 1, x28, x349000, x350000, x350001 => if x28 = true then (some false) else (impl_IsQuery.l0 k x350001 (x350001.length : Int) 0 x349000 x350000 x350001)
def impl_IsQuery.l0 : Nat → List (S38) → Int → Int → List Int → List Int → List (S38) → Option (Bool)
 | 0, _, _, _, _, _, _ => none
 | k + 1, x30, x31, x32, x349000, x350000, x350001 => if x32 < x31 then (if 0 ≤ x32 then (if x32 < (x30.length : Int) then ((impl_IsAtom.f k x349000 ((rd_T38 x30 x32).f0) ((rd_T38 x30 x32).f1)).bind fun t355 => (if t355 = true then (impl_IsQuery.l0 k x30 x31 (wrap64 (x32 + 1)) x349000 x350000 x350001) else (some false))) else (none)) else (none)) else ((impl_Query_isSafe.f k x350000 x350001).bind fun t356 => (some t356))
end
def impl_IsQuery.f (k : Nat) (l0_0 : List Int) (l1_0 : List Int) (l1_1 : List (S38)) : Option (Bool) := (impl_IsSchema.f k l0_0).bind fun t350 => (if t350 = true then (if (l1_0.length : Int) > 3 then (impl_IsQuery.j0 k true l0_0 l1_0 l1_1) else ((impl_areTerms.f k l1_0).bind fun t351 => (if t351 = true then ((impl_within.f (l1_1.length : Int) 1 4).bind fun t352 => (impl_IsQuery.j0 k (!t352) l0_0 l1_0 l1_1)) else (impl_IsQuery.j0 k true l0_0 l1_0 l1_1)))) else (impl_IsQuery.j0 k true l0_0 l1_0 l1_1))
theorem impl_IsQuery.mono_l : ∀ k, (∀ y0 y1 y2 y3, LeO (impl_IsQuery.j0 k y0 y1 y2 y3) (impl_IsQuery.j0 (k + 1) y0 y1 y2 y3)) ∧ (∀ y0 y1 y2 y3 y4 y5, LeO (impl_IsQuery.l0 k y0 y1 y2 y3 y4 y5) (impl_IsQuery.l0 (k + 1) y0 y1 y2 y3 y4 y5))
 | 0 => ⟨fun _ _ _ _ r h => by simp [impl_IsQuery.j0] at h, fun _ _ _ _ _ _ r h => by simp [impl_IsQuery.l0] at h⟩
 | k + 1 => by
  obtain ⟨ih0,ih1⟩:=impl_IsQuery.mono_l k
  refine ⟨?_,?_⟩
  (intros;unfold impl_IsQuery.j0;rotate_left)
  (intros;unfold impl_IsQuery.l0;rotate_left)
  all_goals repeat' first
  | (with_reducible exact ih0 _ _ _ _)
  | (with_reducible exact ih1 _ _ _ _ _ _)
  | (with_reducible exact impl_IsAtom.mono _ _ _ _)
  | (with_reducible exact impl_IsSchema.mono _ _)
  | (with_reducible exact impl_Query_isSafe.mono _ _ _)
  | (with_reducible exact impl_areTerms.mono _ _)
  | (with_reducible exact LeO.refl _)
  | (with_reducible exact LeO.none _)
  | (with_reducible refine LeO.ite ?_ ?_)
  | (with_reducible refine LeO.bind ?_ (fun _ => ?_))
  | exact ih0 _ _ _ _
  | exact ih1 _ _ _ _ _ _
  | exact LeO.none _
  | refine LeO.ite ?_ ?_
  | refine LeO.bind ?_ (fun _ => ?_)
theorem impl_IsQuery.mono : ∀ a0 a1 a2 k, LeO (impl_IsQuery.f k a0 a1 a2) (impl_IsQuery.f (k + 1) a0 a1 a2) := by
 intro a0 a1 a2 k
 obtain ⟨ih0,ih1⟩:=impl_IsQuery.mono_l k
 unfold impl_IsQuery.f
 repeat' first
   | (with_reducible exact ih0 _ _ _ _)
   | (with_reducible exact ih1 _ _ _ _ _ _)
   | (with_reducible exact impl_IsAtom.mono _ _ _ _)
   | (with_reducible exact impl_IsSchema.mono _ _)
   | (with_reducible exact impl_Query_isSafe.mono _ _ _)
   | (with_reducible exact impl_areTerms.mono _ _)
   | (with_reducible exact LeO.refl _)
   | (with_reducible exact LeO.none _)
   | (with_reducible refine LeO.ite ?_ ?_)
   | (with_reducible refine LeO.bind ?_ (fun _ => ?_))
   | exact ih0 _ _ _ _
   | exact ih1 _ _ _ _ _ _
   | exact LeO.none _
   | refine LeO.ite ?_ ?_
   | refine LeO.bind ?_ (fun _ => ?_)
set_option maxHeartbeats 8000000 in
set_option maxRecDepth 100000 in
theorem impl_IsQuery.calls (k : Nat) (A0_0 : Option Addr) (c0_0 : Nat) (l0_0 : List Int) (A1_0 : Option Addr) (c1_0 : Nat) (l1_0 : List Int) (A1_1 : Option Addr) (c1_1 : Nat) (l1_1 : List (S38)) (r : Bool) (w : World) (hr0_0 : Kd.C (Kd.int .i64) w A0_0 l0_0.length l0_0) (hc0_0 : l0_0.length ≤ c0_0) (hr1_0 : Kd.C (Kd.int .i64) w A1_0 l1_0.length l1_0) (hc1_0 : l1_0.length ≤ c1_0) (hr1_1 : Kd.C k38 w A1_1 l1_1.length l1_1) (hc1_1 : l1_1.length ≤ c1_1) (h : impl_IsQuery.f k l0_0 l1_0 l1_1 = some r) :
  Calls Try.prog 48 #[.agg #[.slice A0_0 l0_0.length c0_0], .agg #[.slice A1_0 l1_0.length c1_0, .slice A1_1 l1_1.length c1_1]] w fun e w' => e = .returned (.bool r) ∧ Below w.heap.size w w' := by
 have hu61:=Try.underlying61;have hu49:=Try.underlying49;have hu38:=Try.underlying38;have HR0_0:=zA hr0_0;have HC0_0:=zA hc0_0;clear hr0_0 hc0_0;have HR1_0:=zA hr1_0;have HC1_0:=zA hc1_0;clear hr1_0 hc1_0;have HR1_1:=zA hr1_1;have HC1_1:=zA hc1_1;clear hr1_1 hc1_1;have HB:=zA (Below.refl w.heap.size w)
 have H : ((impl_IsSchema.f k l0_0).bind fun t350 => (if t350 = true then (if (l1_0.length : Int) > 3 then (impl_IsQuery.j0 k true l0_0 l1_0 l1_1) else ((impl_areTerms.f k l1_0).bind fun t351 => (if t351 = true then ((impl_within.f (l1_1.length : Int) 1 4).bind fun t352 => (impl_IsQuery.j0 k (!t352) l0_0 l1_0 l1_1)) else (impl_IsQuery.j0 k true l0_0 l1_0 l1_1)))) else (impl_IsQuery.j0 k true l0_0 l1_0 l1_1))) = some r:=h
 clear h;have HC3:=zA H;clear H
 go_enter Try.func48,Try.ntmps48
 go_upto_region 1 with (first|((with_reducible refine gate_dst (N:=2) rfl ?_);(try (refine gate_guard (by rfl) ?_;dsimp only));refine box_event ?hg (N:=2) ?hd (cs:=#[.slice A0_0 l0_0.length c0_0]) (t:=61) ?hr ?_;(case hd => rfl);(case hg => rfl);(case hr => first|(go_simp;done)|(go_simp;rfl));intro gb348 hg w4 hbox hb;have BK348:=zA (hbox);have GW348:=zA ((by rw [hg];exact (zT (zz HB)) : w.heap.size ≤ gb348));have GE348:=zA ((by rw [hg];exact (zT (zz HB)) : w.heap.size ≤ gb348));replace HB:=zA (zJb (zz HB) hb);clear hb hbox hg)|((with_reducible refine gate_dst (N:=3) rfl ?_);(try (refine gate_guard (by rfl) ?_;dsimp only));refine box_event ?hg (N:=3) ?hd (cs:=#[.slice A1_0 l1_0.length c1_0,.slice A1_1 l1_1.length c1_1]) (t:=49) ?hr ?_;(case hd => rfl);(case hg => rfl);(case hr => first|(go_simp;done)|(go_simp;rfl));intro gb349 hg w5 hbox hb;have BK349:=zA (hbox);have GW349:=zA ((by rw [hg];exact (zT (zz HB)) : w.heap.size ≤ gb349));have GE349:=zA ((by rw [hg];exact (zT (zz HB)) : w.heap.size ≤ gb349));replace HB:=zA (zJb (zz HB) hb);have NB348_349:=zA ((by rw [hg];exact Nat.ne_of_lt (blk_lt (g:=gb348) (o:=.cells #[.slice A0_0 l0_0.length c0_0] 61 (0,0)) (zx BK348)) : gb348 ≠ gb349));have NB349_348:=zA ((by rw [hg];exact Nat.ne_of_gt (blk_lt (g:=gb348) (o:=.cells #[.slice A0_0 l0_0.length c0_0] 61 (0,0)) (zx BK348)) : gb349 ≠ gb348));replace BK348:=zA (zQ (g:=gb348) (o:=.cells #[.slice A0_0 l0_0.length c0_0] 61 (0,0)) (zx BK348) hb);clear hb hbox hg))
 (try simp only [Act.put,zO,zEb,zFb])
 go_cut [28] (fun v28 wc => ∃ (kq : Nat) (x28_2 : Bool),v28 = .bool x28_2 ∧ Aside0 (impl_IsQuery.j0 kq x28_2 l0_0 l1_0 l1_1 = some r) ∧ Aside0 (kq ≤ k) ∧ Aside0 (wc.heap[gb348]? = some (.cells #[(.slice A0_0 l0_0.length c0_0)] 61 (0,0))) ∧ Aside0 (wc.heap[gb349]? = some (.cells #[(.slice A1_0 l1_0.length c1_0),(.slice A1_1 l1_1.length c1_1)] 49 (0,0))) ∧ Aside0 (Below w.heap.size w wc))
 case first =>
  have H:=HC3.out;clear HC3;replace H:=Option.bind_eq_some_iff.mp H;obtain ⟨t350,A60,H⟩:=H;(try dsimp only at H);have A6:=zA A60;clear A60
  by_cases c7 : t350 = true
  ·
   subst c7
   rw [if_pos rfl] at H
   by_cases c8 : (l1_0.length : Int) > 3
   ·
    rw [if_pos c8] at H
    have c8b0 : decide (3 < (l1_0.length : Int)) = true:=decide_eq_true c8
    have c8b1 : decide (3 < l1_0.length) = true:=decide_eq_true (by omega)
    clear c8
    (first|rw [c8b0]|(simp only [i64_w,i32_w];rw [c8b0])|skip)
    have H':=zA H
    clear H;have hnb9:=NB348_349.out;have hnc9:=NB349_348.out;have hcz10_0:=zc (.slice A0_0 l0_0.length c0_0) BK348 0 rfl;have hfz10_0:=blk_frozen BK348.out 0
    go_wp2_with (first|((with_reducible refine gate_callee (f:=104) rfl ?_);refine goesL_ (some 8) rfl rfl Try.func104 (by kernel_rfl) rfl #[.agg #[.slice A0_0 l0_0.length c0_0]] rfl (by (try simp only [zCb,zMb,zNb]);first|done|rfl|(simp only [zLb,zDb];rfl)) ?_;(with_reducible refine (impl_IsSchema.calls k _ _ l0_0 true _ ?side1 ?side2 A6.out).mono ?_);(case side1 => repeat (first|exact (zKb HR0_0.out HB.out)|(with_reducible refine zBb ?_ _)|(with_reducible refine zAb ?_ _)|(with_reducible refine zX ?_)));(case side2 => exact HC0_0.out);rintro e w11 ⟨rfl,hb⟩;refine ⟨_,rfl,?_⟩;replace BK348:=zA (zQ (g:=gb348) (o:=.cells #[.slice A0_0 l0_0.length c0_0] 61 (0,0)) (zx BK348) hb);replace BK349:=zA (zQ (g:=gb349) (o:=.cells #[.slice A1_0 l1_0.length c1_0,.slice A1_1 l1_1.length c1_1] 49 (0,0)) (zx BK349) hb);replace HB:=zA (zJb (zz HB) hb);(try clear hb);(try clear hb2);(try clear hk);(try clear hi);have hcz12_0:=zc (.slice A1_0 l1_0.length c1_0) BK349 0 rfl;have hcz12_1:=zc (.slice A1_1 l1_1.length c1_1) BK349 1 rfl;have hfz12_0:=blk_frozen BK349.out 0;have hfz12_1:=blk_frozen BK349.out 1))
    go_meet
    case rel => exact ⟨_,(true),za,H',⟨by first|omega|exact Nat.le_refl _⟩,⟨zx BK348⟩,⟨zx BK349⟩,⟨zz HB⟩⟩
   ·
    rw [if_neg c8] at H
    have c8b0 : decide (3 < (l1_0.length : Int)) = false:=decide_eq_false c8
    have c8b1 : decide (3 < l1_0.length) = false:=decide_eq_false (by omega)
    clear c8
    (first|rw [c8b0]|(simp only [i64_w,i32_w];rw [c8b0])|skip)
    replace H:=Option.bind_eq_some_iff.mp H;obtain ⟨t351,A130,H⟩:=H;(try dsimp only at H);have A13:=zA A130;clear A130
    by_cases c14 : t351 = true
    ·
     subst c14
     rw [if_pos rfl] at H;replace H:=Option.bind_eq_some_iff.mp H;obtain ⟨t352,A150,H⟩:=H;(try dsimp only at H);have A15:=zA A150;clear A150
     have H':=zA H
     clear H;have hnb16:=NB348_349.out;have hnc16:=NB349_348.out;have hcz17_0:=zc (.slice A0_0 l0_0.length c0_0) BK348 0 rfl;have hfz17_0:=blk_frozen BK348.out 0
     go_wp2_with (first|((with_reducible refine gate_callee (f:=104) rfl ?_);refine goesL_ (some 8) rfl rfl Try.func104 (by kernel_rfl) rfl #[.agg #[.slice A0_0 l0_0.length c0_0]] rfl (by (try simp only [zCb,zMb,zNb]);first|done|rfl|(simp only [zLb,zDb];rfl)) ?_;(with_reducible refine (impl_IsSchema.calls k _ _ l0_0 true _ ?side1 ?side2 A6.out).mono ?_);(case side1 => repeat (first|exact (zKb HR0_0.out HB.out)|(with_reducible refine zBb ?_ _)|(with_reducible refine zAb ?_ _)|(with_reducible refine zX ?_)));(case side2 => exact HC0_0.out);rintro e w18 ⟨rfl,hb⟩;refine ⟨_,rfl,?_⟩;replace BK348:=zA (zQ (g:=gb348) (o:=.cells #[.slice A0_0 l0_0.length c0_0] 61 (0,0)) (zx BK348) hb);replace BK349:=zA (zQ (g:=gb349) (o:=.cells #[.slice A1_0 l1_0.length c1_0,.slice A1_1 l1_1.length c1_1] 49 (0,0)) (zx BK349) hb);replace HB:=zA (zJb (zz HB) hb);(try clear hb);(try clear hb2);(try clear hk);(try clear hi);have hcz19_0:=zc (.slice A1_0 l1_0.length c1_0) BK349 0 rfl;have hcz19_1:=zc (.slice A1_1 l1_1.length c1_1) BK349 1 rfl;have hfz19_0:=blk_frozen BK349.out 0;have hfz19_1:=blk_frozen BK349.out 1)|(go_at_call 89;(with_reducible refine (impl_areTerms.calls k _ _ l1_0 true _ ?side1 ?side2 A13.out).mono ?_);(case side1 => repeat (first|exact (zKb HR1_0.out HB.out)|(with_reducible refine zBb ?_ _)|(with_reducible refine zAb ?_ _)|(with_reducible refine zX ?_)));(case side2 => exact HC1_0.out);rintro e w' ⟨rfl,⟨nd,rfl⟩⟩)|(go_at_call 88;(with_reducible refine (impl_within.calls (l1_1.length : Int) 1 4 t352 _ A15.out).mono ?_);rintro e w' ⟨rfl,⟨nd,rfl⟩⟩))
     go_meet
     case rel => exact ⟨_,(!t352),za,H',⟨by first|omega|exact Nat.le_refl _⟩,⟨zx BK348⟩,⟨zx BK349⟩,⟨zz HB⟩⟩
    ·
     replace c14:=Bool.eq_false_iff.mpr c14
     subst c14
     have H1 : (impl_IsQuery.j0 k true l0_0 l1_0 l1_1) = some r:=by rw [if_neg (show ¬ (false = true) by decide)] at H;exact H
     clear H;have H:=H1;clear H1
     have H':=zA H
     clear H;have hnb20:=NB348_349.out;have hnc20:=NB349_348.out;have hcz21_0:=zc (.slice A0_0 l0_0.length c0_0) BK348 0 rfl;have hfz21_0:=blk_frozen BK348.out 0
     go_wp2_with (first|((with_reducible refine gate_callee (f:=104) rfl ?_);refine goesL_ (some 8) rfl rfl Try.func104 (by kernel_rfl) rfl #[.agg #[.slice A0_0 l0_0.length c0_0]] rfl (by (try simp only [zCb,zMb,zNb]);first|done|rfl|(simp only [zLb,zDb];rfl)) ?_;(with_reducible refine (impl_IsSchema.calls k _ _ l0_0 true _ ?side1 ?side2 A6.out).mono ?_);(case side1 => repeat (first|exact (zKb HR0_0.out HB.out)|(with_reducible refine zBb ?_ _)|(with_reducible refine zAb ?_ _)|(with_reducible refine zX ?_)));(case side2 => exact HC0_0.out);rintro e w22 ⟨rfl,hb⟩;refine ⟨_,rfl,?_⟩;replace BK348:=zA (zQ (g:=gb348) (o:=.cells #[.slice A0_0 l0_0.length c0_0] 61 (0,0)) (zx BK348) hb);replace BK349:=zA (zQ (g:=gb349) (o:=.cells #[.slice A1_0 l1_0.length c1_0,.slice A1_1 l1_1.length c1_1] 49 (0,0)) (zx BK349) hb);replace HB:=zA (zJb (zz HB) hb);(try clear hb);(try clear hb2);(try clear hk);(try clear hi);have hcz23_0:=zc (.slice A1_0 l1_0.length c1_0) BK349 0 rfl;have hcz23_1:=zc (.slice A1_1 l1_1.length c1_1) BK349 1 rfl;have hfz23_0:=blk_frozen BK349.out 0;have hfz23_1:=blk_frozen BK349.out 1)|(go_at_call 89;(with_reducible refine (impl_areTerms.calls k _ _ l1_0 false _ ?side1 ?side2 A13.out).mono ?_);(case side1 => repeat (first|exact (zKb HR1_0.out HB.out)|(with_reducible refine zBb ?_ _)|(with_reducible refine zAb ?_ _)|(with_reducible refine zX ?_)));(case side2 => exact HC1_0.out);rintro e w' ⟨rfl,⟨nd,rfl⟩⟩))
     go_meet
     case rel => exact ⟨_,(true),za,H',⟨by first|omega|exact Nat.le_refl _⟩,⟨zx BK348⟩,⟨zx BK349⟩,⟨zz HB⟩⟩
  ·
   replace c7:=Bool.eq_false_iff.mpr c7
   subst c7
   have H1 : (impl_IsQuery.j0 k true l0_0 l1_0 l1_1) = some r:=by rw [if_neg (show ¬ (false = true) by decide)] at H;exact H
   clear H;have H:=H1;clear H1
   have H':=zA H
   clear H;have hnb24:=NB348_349.out;have hnc24:=NB349_348.out;have hcz25_0:=zc (.slice A0_0 l0_0.length c0_0) BK348 0 rfl;have hfz25_0:=blk_frozen BK348.out 0
   go_wp2_with (first|((with_reducible refine gate_callee (f:=104) rfl ?_);refine goesL_ (some 8) rfl rfl Try.func104 (by kernel_rfl) rfl #[.agg #[.slice A0_0 l0_0.length c0_0]] rfl (by (try simp only [zCb,zMb,zNb]);first|done|rfl|(simp only [zLb,zDb];rfl)) ?_;(with_reducible refine (impl_IsSchema.calls k _ _ l0_0 false _ ?side1 ?side2 A6.out).mono ?_);(case side1 => repeat (first|exact (zKb HR0_0.out HB.out)|(with_reducible refine zBb ?_ _)|(with_reducible refine zAb ?_ _)|(with_reducible refine zX ?_)));(case side2 => exact HC0_0.out);rintro e w26 ⟨rfl,hb⟩;refine ⟨_,rfl,?_⟩;replace BK348:=zA (zQ (g:=gb348) (o:=.cells #[.slice A0_0 l0_0.length c0_0] 61 (0,0)) (zx BK348) hb);replace BK349:=zA (zQ (g:=gb349) (o:=.cells #[.slice A1_0 l1_0.length c1_0,.slice A1_1 l1_1.length c1_1] 49 (0,0)) (zx BK349) hb);replace HB:=zA (zJb (zz HB) hb);(try clear hb);(try clear hb2);(try clear hk);(try clear hi)))
   go_meet
   case rel => exact ⟨_,(true),za,H',⟨by first|omega|exact Nat.le_refl _⟩,⟨zx BK348⟩,⟨zx BK349⟩,⟨zz HB⟩⟩
 case rest =>
  clear HC3;(try clear c1);(try clear c2);(try clear p2);(try clear c4);(try clear c7);(try clear c8);(try clear c8b0);(try clear c8b1);(try clear c9);(try clear c10);(try clear c14);(try clear c16);(try clear c20);(try clear c24);(try clear hcz10_0);(try clear hcz12_0);(try clear hcz12_1);(try clear hcz17_0);(try clear hcz19_0);(try clear hcz19_1);(try clear hcz21_0);(try clear hcz23_0);(try clear hcz23_1);(try clear hcz25_0);(try clear hfz10_0);(try clear hfz12_0);(try clear hfz12_1);(try clear hfz17_0);(try clear hfz19_0);(try clear hfz19_1);(try clear hfz21_0);(try clear hfz23_0);(try clear hfz23_1);(try clear hfz25_0);obtain ⟨kq,x28_2,rfl,HA,HJ2,BK348,BK349,HB⟩:=hcut
  cases kq with
  | zero => exact absurd HA.out (by simp [impl_IsQuery.j0])
  | succ kj2 =>
   have H:=HA.out;clear HA;simp only [impl_IsQuery.j0] at H
   by_cases c27 : x28_2 = true
   ·
    subst c27
    rw [if_pos rfl] at H
    obtain rfl:=Option.some.inj H
    go_wp2
    go_ret
    exact ⟨by first|rfl|(simp [errW_none,errW_some] <;> rfl)|(simp [*,errW_none,errW_some] <;> rfl),zz HB⟩
   ·
    replace c27:=Bool.eq_false_iff.mpr c27
    subst c27
    have H1 : (impl_IsQuery.l0 kj2 l1_1 (l1_1.length : Int) 0 l0_0 l1_0 l1_1) = some r:=by rw [if_neg (show ¬ (false = true) by decide)] at H;exact H
    clear H;have H:=H1;clear H1
    have H':=zA H
    clear H;have hnb28:=NB349_348.out;have hnc28:=NB348_349.out;have hcz29_0:=zc (.slice A1_0 l1_0.length c1_0) BK349 0 rfl;have hcz29_1:=zc (.slice A1_1 l1_1.length c1_1) BK349 1 rfl;have hfz29_0:=blk_frozen BK349.out 0;have hfz29_1:=blk_frozen BK349.out 1
    go_wp2
    go_loopg [32] kj2 (fun kq v32 w' => ∃ (x32_2 : Int),v32 = .int .i64 x32_2 ∧ Aside0 (impl_IsQuery.l0 kq l1_1 (l1_1.length : Int) x32_2 l0_0 l1_0 l1_1 = some r) ∧ Aside0 (kq ≤ kj2) ∧ Aside0 (w'.heap[gb348]? = some (.cells #[(.slice A0_0 l0_0.length c0_0)] 61 (0,0))) ∧ Aside0 (w'.heap[gb349]? = some (.cells #[(.slice A1_0 l1_0.length c1_0),(.slice A1_1 l1_1.length c1_1)] 49 (0,0))) ∧ Aside0 (Below w.heap.size w w'))
    case atStart => exact ⟨(0),za,H',⟨Nat.le_refl _⟩,⟨zx BK348⟩,⟨zx BK349⟩,⟨zz HB⟩⟩
    case round =>
     clear H';(try clear c1);(try clear c2);(try clear p2);(try clear c4);(try clear c7);(try clear c8);(try clear c8b0);(try clear c8b1);(try clear c9);(try clear c10);(try clear c14);(try clear c16);(try clear c20);(try clear c24);(try clear c27);(try clear c28);(try clear hcz10_0);(try clear hcz12_0);(try clear hcz12_1);(try clear hcz17_0);(try clear hcz19_0);(try clear hcz19_1);(try clear hcz21_0);(try clear hcz23_0);(try clear hcz23_1);(try clear hcz25_0);(try clear hcz29_0);(try clear hcz29_1);(try clear hfz10_0);(try clear hfz12_0);(try clear hfz12_1);(try clear hfz17_0);(try clear hfz19_0);(try clear hfz19_1);(try clear hfz21_0);(try clear hfz23_0);(try clear hfz23_1);(try clear hfz25_0);(try clear hfz29_0);(try clear hfz29_1);(try clear p2);obtain ⟨x32_2,rfl,HA,HK2,BK348,BK349,HB⟩:=hrel
     cases gk with
     | zero => exact absurd HA.out (by simp [impl_IsQuery.l0])
     | succ k2 =>
      have H:=HA.out;clear HA;simp only [impl_IsQuery.l0] at H
      by_cases c30 : x32_2 < (l1_1.length : Int)
      ·
       rw [if_pos c30] at H;have c30b0:=decide_eq_true c30;clear c30
       by_cases c31 : 0 ≤ x32_2
       ·
        rw [if_pos c31] at H;have c31b0:=decide_eq_true c31;clear c31
        by_cases c32 : x32_2 < (l1_1.length : Int)
        ·
         rw [if_pos c32] at H;have c32b0:=decide_eq_true c32;clear c32;replace H:=Option.bind_eq_some_iff.mp H;obtain ⟨t355,A330,H⟩:=H;(try dsimp only at H);have A33:=zA A330;clear A330
         by_cases c34 : t355 = true
         ·
          subst c34
          rw [if_pos rfl] at H
          have H':=zA H
          clear H;have p353 : 0 ≤ (x32_2 : Int):=zXb ze;have q353 : x32_2 < (l1_1.length : Int):=zXb ze;obtain ⟨ad353,A353_1,c353_1,e353,hx353_0,hx353_1,hl353_1,hi353_1⟩:=at_T38 HR1_1.out x32_2 p353 q353
          cases e353
          replace hx353_0:=(HB.out.cell (World.block_lt_of_cell? w _ hx353_0)).trans hx353_0;replace hx353_1:=(HB.out.cell (World.block_lt_of_cell? w _ hx353_1)).trans hx353_1;have HR353_1:=zA hi353_1;have HC353_1:=zA hl353_1;clear hi353_1 hl353_1;replace p353:=eq_true p353;replace q353:=eq_true q353
          go_wp2_with (first|((with_reducible refine gate_dst (N:=6) rfl ?_);(try (refine gate_guard (by rfl) ?_;dsimp only));refine box_event ?hg (N:=6) ?hd (cs:=#[.int .i64 0,.slice none 0 0]) (t:=38) ?hr ?_;(case hd => rfl);(case hg => rfl);(case hr => first|(go_simp;done)|(go_simp;rfl));intro gb354 hg w35 hbox hb;have BK354:=zA (hbox);have GW354:=zA ((by rw [hg];exact (zT (zz HB)) : w.heap.size ≤ gb354));have GE354:=zA ((by rw [hg];exact (zT (zz HB)) : w.heap.size ≤ gb354));replace HB:=zA (zJb (zz HB) hb);have NB348_354:=zA ((by rw [hg];exact Nat.ne_of_lt (blk_lt (g:=gb348) (o:=.cells #[.slice A0_0 l0_0.length c0_0] 61 (0,0)) (zx BK348)) : gb348 ≠ gb354));have NB354_348:=zA ((by rw [hg];exact Nat.ne_of_gt (blk_lt (g:=gb348) (o:=.cells #[.slice A0_0 l0_0.length c0_0] 61 (0,0)) (zx BK348)) : gb354 ≠ gb348));replace BK348:=zA (zQ (g:=gb348) (o:=.cells #[.slice A0_0 l0_0.length c0_0] 61 (0,0)) (zx BK348) hb);have NB349_354:=zA ((by rw [hg];exact Nat.ne_of_lt (blk_lt (g:=gb349) (o:=.cells #[.slice A1_0 l1_0.length c1_0,.slice (some ad353) l1_1.length c1_1] 49 (0,0)) (zx BK349)) : gb349 ≠ gb354));have NB354_349:=zA ((by rw [hg];exact Nat.ne_of_gt (blk_lt (g:=gb349) (o:=.cells #[.slice A1_0 l1_0.length c1_0,.slice (some ad353) l1_1.length c1_1] 49 (0,0)) (zx BK349)) : gb354 ≠ gb349));replace BK349:=zA (zQ (g:=gb349) (o:=.cells #[.slice A1_0 l1_0.length c1_0,.slice (some ad353) l1_1.length c1_1] 49 (0,0)) (zx BK349) hb);clear hb hbox hg;have hnb36:=NB354_348.out;have hnc36:=NB348_354.out;have hnb37:=NB354_349.out;have hnc37:=NB349_354.out;have hcz38_0:=zc (.int .i64 0) BK354 0 rfl;have hcz38_1:=zc (.slice none 0 0) BK354 1 rfl;have hfz38_0:=blk_frozen BK354.out 0;have hfz38_1:=blk_frozen BK354.out 1;have hnb39:=NB348_349.out;have hnc39:=NB349_348.out;have hcz40_0:=zc (.slice A0_0 l0_0.length c0_0) BK348 0 rfl;have hfz40_0:=blk_frozen BK348.out 0)|((with_reducible refine gate_callee (f:=106) rfl ?_);refine goesL_ (some 38) rfl rfl Try.func106 (by kernel_rfl) rfl #[.agg #[.slice A0_0 l0_0.length c0_0],.agg #[.int .i64 ((rd_T38 l1_1 x32_2).f0),.slice A353_1 ((rd_T38 l1_1 x32_2).f1).length c353_1]] rfl (by (try simp only [zCb,zMb,zNb]);first|done|rfl|(simp only [zLb,zDb];rfl)) ?_;(with_reducible refine (impl_IsAtom.calls k2 _ _ l0_0 ((rd_T38 l1_1 x32_2).f0) _ _ ((rd_T38 l1_1 x32_2).f1) true _ ?side1 ?side2 ?side3 ?side4 A33.out).mono ?_);(case side1 => exact zKb HR0_0.out (zz HB));(case side2 => exact HC0_0.out);(case side3 => exact zKb HR353_1.out (zz HB));(case side4 => exact HC353_1.out);rintro e w41 ⟨rfl,hb⟩;refine ⟨_,rfl,?_⟩;replace BK348:=zA (zQ (g:=gb348) (o:=.cells #[.slice A0_0 l0_0.length c0_0] 61 (0,0)) (by (with_reducible repeat (first|refine zF ?_ _|refine zI ?_|refine zG ?_ _));refine zUb ?_ NB348_354.out _;(with_reducible repeat (first|refine zF ?_ _|refine zI ?_|refine zG ?_ _));refine zUb ?_ NB348_354.out _;(with_reducible repeat (first|refine zF ?_ _|refine zI ?_|refine zG ?_ _));exact BK348.out) hb);replace BK349:=zA (zQ (g:=gb349) (o:=.cells #[.slice A1_0 l1_0.length c1_0,.slice (some ad353) l1_1.length c1_1] 49 (0,0)) (by (with_reducible repeat (first|refine zF ?_ _|refine zI ?_|refine zG ?_ _));refine zUb ?_ NB349_354.out _;(with_reducible repeat (first|refine zF ?_ _|refine zI ?_|refine zG ?_ _));refine zUb ?_ NB349_354.out _;(with_reducible repeat (first|refine zF ?_ _|refine zI ?_|refine zG ?_ _));exact BK349.out) hb);replace BK354:=zA (zQ (g:=gb354) (o:=.cells #[.int .i64 ((rd_T38 l1_1 x32_2).f0),.slice A353_1 ((rd_T38 l1_1 x32_2).f1).length c353_1] 38 (0,0)) (by (with_reducible repeat (first|refine zF ?_ _|refine zI ?_|refine zG ?_ _));refine blk_put (cs:=#[.int .i64 ((rd_T38 l1_1 x32_2).f0),.slice none 0 0]) ?_ 1 _ rfl;(with_reducible repeat (first|refine zF ?_ _|refine zI ?_|refine zG ?_ _));refine blk_put (cs:=#[.int .i64 0,.slice none 0 0]) ?_ 0 _ rfl;(with_reducible repeat (first|refine zF ?_ _|refine zI ?_|refine zG ?_ _));exact BK354.out) hb);replace HB:=zA (zJb (zz HB) hb);(try clear hb);(try clear hb2);(try clear hk);(try clear hi)))
          go_roundg k2
          case measure => have:=HJ2.out;have:=HK2.out;omega
          case rel => exact ⟨(wrap64 (x32_2 + 1)),za,H',⟨by have:=HJ2.out;have:=HK2.out;omega⟩,⟨zx BK348⟩,⟨zx BK349⟩,⟨zz HB⟩⟩
         ·
          replace c34:=Bool.eq_false_iff.mpr c34
          subst c34
          have H1 : (some false) = some r:=by rw [if_neg (show ¬ (false = true) by decide)] at H;exact H
          clear H;have H:=H1;clear H1
          obtain rfl:=Option.some.inj H
          have p353 : 0 ≤ (x32_2 : Int):=zXb ze;have q353 : x32_2 < (l1_1.length : Int):=zXb ze;obtain ⟨ad353,A353_1,c353_1,e353,hx353_0,hx353_1,hl353_1,hi353_1⟩:=at_T38 HR1_1.out x32_2 p353 q353
          cases e353
          replace hx353_0:=(HB.out.cell (World.block_lt_of_cell? w _ hx353_0)).trans hx353_0;replace hx353_1:=(HB.out.cell (World.block_lt_of_cell? w _ hx353_1)).trans hx353_1;have HR353_1:=zA hi353_1;have HC353_1:=zA hl353_1;clear hi353_1 hl353_1;replace p353:=eq_true p353;replace q353:=eq_true q353
          go_wp2_with (first|((with_reducible refine gate_dst (N:=6) rfl ?_);(try (refine gate_guard (by rfl) ?_;dsimp only));refine box_event ?hg (N:=6) ?hd (cs:=#[.int .i64 0,.slice none 0 0]) (t:=38) ?hr ?_;(case hd => rfl);(case hg => rfl);(case hr => first|(go_simp;done)|(go_simp;rfl));intro gb354 hg w42 hbox hb;have BK354:=zA (hbox);have GW354:=zA ((by rw [hg];exact (zT (zz HB)) : w.heap.size ≤ gb354));have GE354:=zA ((by rw [hg];exact (zT (zz HB)) : w.heap.size ≤ gb354));replace HB:=zA (zJb (zz HB) hb);have NB348_354:=zA ((by rw [hg];exact Nat.ne_of_lt (blk_lt (g:=gb348) (o:=.cells #[.slice A0_0 l0_0.length c0_0] 61 (0,0)) (zx BK348)) : gb348 ≠ gb354));have NB354_348:=zA ((by rw [hg];exact Nat.ne_of_gt (blk_lt (g:=gb348) (o:=.cells #[.slice A0_0 l0_0.length c0_0] 61 (0,0)) (zx BK348)) : gb354 ≠ gb348));replace BK348:=zA (zQ (g:=gb348) (o:=.cells #[.slice A0_0 l0_0.length c0_0] 61 (0,0)) (zx BK348) hb);have NB349_354:=zA ((by rw [hg];exact Nat.ne_of_lt (blk_lt (g:=gb349) (o:=.cells #[.slice A1_0 l1_0.length c1_0,.slice (some ad353) l1_1.length c1_1] 49 (0,0)) (zx BK349)) : gb349 ≠ gb354));have NB354_349:=zA ((by rw [hg];exact Nat.ne_of_gt (blk_lt (g:=gb349) (o:=.cells #[.slice A1_0 l1_0.length c1_0,.slice (some ad353) l1_1.length c1_1] 49 (0,0)) (zx BK349)) : gb354 ≠ gb349));replace BK349:=zA (zQ (g:=gb349) (o:=.cells #[.slice A1_0 l1_0.length c1_0,.slice (some ad353) l1_1.length c1_1] 49 (0,0)) (zx BK349) hb);clear hb hbox hg;have hnb43:=NB354_348.out;have hnc43:=NB348_354.out;have hnb44:=NB354_349.out;have hnc44:=NB349_354.out;have hcz45_0:=zc (.int .i64 0) BK354 0 rfl;have hcz45_1:=zc (.slice none 0 0) BK354 1 rfl;have hfz45_0:=blk_frozen BK354.out 0;have hfz45_1:=blk_frozen BK354.out 1;have hnb46:=NB348_349.out;have hnc46:=NB349_348.out;have hcz47_0:=zc (.slice A0_0 l0_0.length c0_0) BK348 0 rfl;have hfz47_0:=blk_frozen BK348.out 0)|((with_reducible refine gate_callee (f:=106) rfl ?_);refine goesL_ (some 38) rfl rfl Try.func106 (by kernel_rfl) rfl #[.agg #[.slice A0_0 l0_0.length c0_0],.agg #[.int .i64 ((rd_T38 l1_1 x32_2).f0),.slice A353_1 ((rd_T38 l1_1 x32_2).f1).length c353_1]] rfl (by (try simp only [zCb,zMb,zNb]);first|done|rfl|(simp only [zLb,zDb];rfl)) ?_;(with_reducible refine (impl_IsAtom.calls k2 _ _ l0_0 ((rd_T38 l1_1 x32_2).f0) _ _ ((rd_T38 l1_1 x32_2).f1) false _ ?side1 ?side2 ?side3 ?side4 A33.out).mono ?_);(case side1 => exact zKb HR0_0.out (zz HB));(case side2 => exact HC0_0.out);(case side3 => exact zKb HR353_1.out (zz HB));(case side4 => exact HC353_1.out);rintro e w48 ⟨rfl,hb⟩;refine ⟨_,rfl,?_⟩;replace BK348:=zA (zQ (g:=gb348) (o:=.cells #[.slice A0_0 l0_0.length c0_0] 61 (0,0)) (by (with_reducible repeat (first|refine zF ?_ _|refine zI ?_|refine zG ?_ _));refine zUb ?_ NB348_354.out _;(with_reducible repeat (first|refine zF ?_ _|refine zI ?_|refine zG ?_ _));refine zUb ?_ NB348_354.out _;(with_reducible repeat (first|refine zF ?_ _|refine zI ?_|refine zG ?_ _));exact BK348.out) hb);replace BK349:=zA (zQ (g:=gb349) (o:=.cells #[.slice A1_0 l1_0.length c1_0,.slice (some ad353) l1_1.length c1_1] 49 (0,0)) (by (with_reducible repeat (first|refine zF ?_ _|refine zI ?_|refine zG ?_ _));refine zUb ?_ NB349_354.out _;(with_reducible repeat (first|refine zF ?_ _|refine zI ?_|refine zG ?_ _));refine zUb ?_ NB349_354.out _;(with_reducible repeat (first|refine zF ?_ _|refine zI ?_|refine zG ?_ _));exact BK349.out) hb);replace BK354:=zA (zQ (g:=gb354) (o:=.cells #[.int .i64 ((rd_T38 l1_1 x32_2).f0),.slice A353_1 ((rd_T38 l1_1 x32_2).f1).length c353_1] 38 (0,0)) (by (with_reducible repeat (first|refine zF ?_ _|refine zI ?_|refine zG ?_ _));refine blk_put (cs:=#[.int .i64 ((rd_T38 l1_1 x32_2).f0),.slice none 0 0]) ?_ 1 _ rfl;(with_reducible repeat (first|refine zF ?_ _|refine zI ?_|refine zG ?_ _));refine blk_put (cs:=#[.int .i64 0,.slice none 0 0]) ?_ 0 _ rfl;(with_reducible repeat (first|refine zF ?_ _|refine zI ?_|refine zG ?_ _));exact BK354.out) hb);replace HB:=zA (zJb (zz HB) hb);(try clear hb);(try clear hb2);(try clear hk);(try clear hi)))
          go_ret
          exact ⟨by first|rfl|(simp [errW_none,errW_some] <;> rfl)|(simp [*,errW_none,errW_some] <;> rfl),zz HB⟩
        ·
         rw [if_neg c32] at H
         exact absurd H (by simp)
       ·
        rw [if_neg c31] at H
        exact absurd H (by simp)
      ·
       rw [if_neg c30] at H;have c30b0:=decide_eq_false c30;clear c30;replace H:=Option.bind_eq_some_iff.mp H;obtain ⟨t356,A490,H⟩:=H;(try dsimp only at H);have A49:=zA A490;clear A490
       obtain rfl:=Option.some.inj H
       have hnb50:=NB349_348.out;have hnc50:=NB348_349.out;have hcz51_0:=zc (.slice A1_0 l1_0.length c1_0) BK349 0 rfl;have hcz51_1:=zc (.slice A1_1 l1_1.length c1_1) BK349 1 rfl;have hfz51_0:=blk_frozen BK349.out 0;have hfz51_1:=blk_frozen BK349.out 1
       go_wp2_with (first|((with_reducible refine gate_callee (f:=107) rfl ?_);refine goesL_ (some 42) rfl rfl Try.func107 (by kernel_rfl) rfl #[.agg #[.slice A1_0 l1_0.length c1_0,.slice A1_1 l1_1.length c1_1]] rfl (by (try simp only [zCb,zMb,zNb]);first|done|rfl|(simp only [zLb,zDb];rfl)) ?_;(with_reducible refine (impl_Query_isSafe.calls k2 _ _ l1_0 _ _ l1_1 t356 _ ?side1 ?side2 ?side3 ?side4 A49.out).mono ?_);(case side1 => repeat (first|exact (zKb HR1_0.out HB.out)|(with_reducible refine zBb ?_ _)|(with_reducible refine zAb ?_ _)|(with_reducible refine zX ?_)));(case side2 => exact HC1_0.out);(case side3 => repeat (first|exact (zKb HR1_1.out HB.out)|(with_reducible refine zBb ?_ _)|(with_reducible refine zAb ?_ _)|(with_reducible refine zX ?_)));(case side4 => exact HC1_1.out);rintro e w52 ⟨rfl,hb⟩;refine ⟨_,rfl,?_⟩;replace BK348:=zA (zQ (g:=gb348) (o:=.cells #[.slice A0_0 l0_0.length c0_0] 61 (0,0)) (zx BK348) hb);replace BK349:=zA (zQ (g:=gb349) (o:=.cells #[.slice A1_0 l1_0.length c1_0,.slice A1_1 l1_1.length c1_1] 49 (0,0)) (zx BK349) hb);replace HB:=zA (zJb (zz HB) hb);(try clear hb);(try clear hb2);(try clear hk);(try clear hi)))
       go_ret
       exact ⟨by first|rfl|(simp [errW_none,errW_some] <;> rfl)|(simp [*,errW_none,errW_some] <;> rfl),zz HB⟩

/-! ### impl_glued: function 76 -/
def impl_glued.l0 : Nat → ByteArray → ByteArray → List ByteArray → Int → Int → Option (ByteArray)
 | 0, _, _, _, _, _ => none
 | k + 1, x1, x5, x8, x9, x10 => if x10 < x9 then (if 0 ≤ x10 then (if x10 < (x8.length : Int) then (if x10 > 0 then (if x5.size + x1.size ≤ 9223372036854775807 then (if (x5 ++ x1).size + (rdOf ByteArray.empty x8 x10).size ≤ 9223372036854775807 then (impl_glued.l0 k x1 ((x5 ++ x1) ++ (rdOf ByteArray.empty x8 x10)) x8 x9 (wrap64 (x10 + 1))) else (none)) else (none)) else (if x5.size + (rdOf ByteArray.empty x8 x10).size ≤ 9223372036854775807 then (impl_glued.l0 k x1 (x5 ++ (rdOf ByteArray.empty x8 x10)) x8 x9 (wrap64 (x10 + 1))) else (none))) else (none)) else (none)) else (some x5)
def impl_glued.f (k : Nat) (l0 : List ByteArray) (a1 : ByteArray) : Option (ByteArray) := impl_glued.l0 k a1 (⟨#[]⟩ : ByteArray) l0 (l0.length : Int) 0
theorem impl_glued.mono_l : ∀ k, (∀ y0 y1 y2 y3 y4, LeO (impl_glued.l0 k y0 y1 y2 y3 y4) (impl_glued.l0 (k + 1) y0 y1 y2 y3 y4))
 | 0 => fun _ _ _ _ _ r h => by simp [impl_glued.l0] at h
 | k + 1 => by
  have ih0:=impl_glued.mono_l k
  ·
   intro y0 y1 y2 y3 y4
   unfold impl_glued.l0
   repeat' first
   | (with_reducible exact ih0 _ _ _ _ _)
   | (with_reducible exact LeO.refl _)
   | (with_reducible exact LeO.none _)
   | (with_reducible refine LeO.ite ?_ ?_)
   | (with_reducible refine LeO.bind ?_ (fun _ => ?_))
   | exact ih0 _ _ _ _ _
   | exact LeO.none _
   | refine LeO.ite ?_ ?_
   | refine LeO.bind ?_ (fun _ => ?_)
theorem impl_glued.mono : ∀ a0 a1 k, LeO (impl_glued.f k a0 a1) (impl_glued.f (k + 1) a0 a1) := by
 intro a0 a1 k
 have ih0:=impl_glued.mono_l k
 unfold impl_glued.f
 repeat' first
   | (with_reducible exact ih0 _ _ _ _ _)
   | (with_reducible exact LeO.refl _)
   | (with_reducible exact LeO.none _)
   | (with_reducible refine LeO.ite ?_ ?_)
   | (with_reducible refine LeO.bind ?_ (fun _ => ?_))
   | exact ih0 _ _ _ _ _
   | exact LeO.none _
   | refine LeO.ite ?_ ?_
   | refine LeO.bind ?_ (fun _ => ?_)
set_option maxHeartbeats 8000000 in
set_option maxRecDepth 100000 in
theorem impl_glued.calls (k : Nat) (A0 : Option Addr) (c0 : Nat) (l0 : List ByteArray) (a1 : ByteArray) (r : ByteArray) (w : World) (hr0 : Kd.C Kd.string w A0 l0.length l0) (hc0 : l0.length ≤ c0) (h : impl_glued.f k l0 a1 = some r) :
  Calls Try.prog 76 #[.slice A0 l0.length c0, .string a1] w fun e w' => e = .returned (.string r) ∧ Drawn0 w w' := by
 have HR0:=zA hr0;have HC0:=zA hc0;clear hr0 hc0
 have H : (impl_glued.l0 k a1 (⟨#[]⟩ : ByteArray) l0 (l0.length : Int) 0) = some r:=h
 clear h
 have H':=zA H
 clear H
 go_enter Try.func76,Try.ntmps76
 go_wp2
 go_loopg [5,10] k (fun kq v5 v10 w' => ∃ (x5_1 : ByteArray) (x10_1 : Int),v5 = .string x5_1 ∧ v10 = .int .i64 x10_1 ∧ Aside0 (impl_glued.l0 kq a1 x5_1 l0 (l0.length : Int) x10_1 = some r) ∧ Aside0 (kq ≤ k) ∧ Drawn0 w w')
 case atStart => exact ⟨((⟨#[]⟩ : ByteArray)),(0),za,za,H',⟨Nat.le_refl _⟩,by repeat (first|exact Drawn0.refl _|apply Drawn0.step)⟩
 case round =>
  clear H';(try clear p2);obtain ⟨x5_1,x10_1,rfl,rfl,HA,HK1,⟨m1,rfl⟩⟩:=hrel
  cases gk with
  | zero => exact absurd HA.out (by simp [impl_glued.l0])
  | succ k1 =>
   have H:=HA.out;clear HA;simp only [impl_glued.l0] at H
   by_cases c3 : x10_1 < (l0.length : Int)
   ·
    rw [if_pos c3] at H;have c3b0:=decide_eq_true c3;clear c3
    by_cases c4 : 0 ≤ x10_1
    ·
     rw [if_pos c4] at H;have c4b0:=decide_eq_true c4;clear c4
     by_cases c5 : x10_1 < (l0.length : Int)
     ·
      rw [if_pos c5] at H;have c5b0:=decide_eq_true c5;clear c5
      by_cases c6 : x10_1 > 0
      ·
       rw [if_pos c6] at H
       have c6b0 : decide (0 < x10_1) = true:=decide_eq_true c6
       clear c6
       by_cases c7 : x5_1.size + a1.size ≤ 9223372036854775807
       ·
        rw [if_pos c7] at H;have c7b0:=eq_true c7;have c7b1:=decide_eq_true c7
        try have c7b2 : (9223372036854775807 < x5_1.size + a1.size) = False:=eq_false (Nat.not_lt.2 c7)
        by_cases c8 : (x5_1 ++ a1).size + (rdOf ByteArray.empty l0 x10_1).size ≤ 9223372036854775807
        ·
         rw [if_pos c8] at H;have c8b0:=eq_true c8;have c8b1:=decide_eq_true c8
         try have c8b2 : (9223372036854775807 < (x5_1 ++ a1).size + (rdOf ByteArray.empty l0 x10_1).size) = False:=eq_false (Nat.not_lt.2 c8)
         try have c8z0 : (9223372036854775807 < x5_1.size + a1.size + (rdOf ByteArray.empty l0 x10_1).size) = False:=eq_false (by have h_:=c8;simp only [ByteArray.size_append] at h_;omega)
         try have c8z1 : (x5_1.size + a1.size + (rdOf ByteArray.empty l0 x10_1).size ≤ 9223372036854775807) = True:=eq_true (by have h_:=c8;simp only [ByteArray.size_append] at h_;omega)
         have H':=zA H
         clear H;have p357 : 0 ≤ (x10_1 : Int):=zXb ze;have q357 : x10_1 < (l0.length : Int):=zXb ze;obtain ⟨ad357,e357,hx357_0⟩:=Kd.at_string HR0.out x10_1 p357 q357
         cases e357
         replace p357:=eq_true p357;replace q357:=eq_true q357
         go_wp2
         go_roundg k1
         case measure => have:=HK1.out;omega
         case rel => exact ⟨((x5_1 ++ a1) ++ (rdOf ByteArray.empty l0 x10_1)),(wrap64 (x10_1 + 1)),za,za,H',⟨by have:=HK1.out;omega⟩,by repeat (first|exact Drawn0.refl _|apply Drawn0.step)⟩
        ·
         rw [if_neg c8] at H
         exact absurd H (by simp)
       ·
        rw [if_neg c7] at H
        exact absurd H (by simp)
      ·
       rw [if_neg c6] at H
       have c6b0 : decide (0 < x10_1) = false:=decide_eq_false c6
       clear c6
       by_cases c9 : x5_1.size + (rdOf ByteArray.empty l0 x10_1).size ≤ 9223372036854775807
       ·
        rw [if_pos c9] at H;have c9b0:=eq_true c9;have c9b1:=decide_eq_true c9
        try have c9b2 : (9223372036854775807 < x5_1.size + (rdOf ByteArray.empty l0 x10_1).size) = False:=eq_false (Nat.not_lt.2 c9)
        have H':=zA H
        clear H;have p357 : 0 ≤ (x10_1 : Int):=zXb ze;have q357 : x10_1 < (l0.length : Int):=zXb ze;obtain ⟨ad357,e357,hx357_0⟩:=Kd.at_string HR0.out x10_1 p357 q357
        cases e357
        replace p357:=eq_true p357;replace q357:=eq_true q357
        go_wp2
        go_roundg k1
        case measure => have:=HK1.out;omega
        case rel => exact ⟨(x5_1 ++ (rdOf ByteArray.empty l0 x10_1)),(wrap64 (x10_1 + 1)),za,za,H',⟨by have:=HK1.out;omega⟩,by repeat (first|exact Drawn0.refl _|apply Drawn0.step)⟩
       ·
        rw [if_neg c9] at H
        exact absurd H (by simp)
     ·
      rw [if_neg c5] at H
      exact absurd H (by simp)
    ·
     rw [if_neg c4] at H
     exact absurd H (by simp)
   ·
    rw [if_neg c3] at H;have c3b0:=decide_eq_false c3;clear c3
    obtain rfl:=Option.some.inj H
    go_wp2
    go_ret
    exact ⟨by first|rfl|(simp;done)|(simp [*];done),by repeat (first|exact Drawn0.refl _|apply Drawn0.step)⟩

/-! ### impl_FormatAtom: function 29 -/
mutual
def impl_FormatAtom.j0 : Nat → Bool → Int → List Int → Option (ByteArray)
 | 0, _, _, _ => none
 | k + 1, x21, x359000, x359001 => if x21 = true then (some (⟨#[]⟩ : ByteArray)) else (impl_FormatAtom.l0 k (([] : List ByteArray)) x359001 (x359001.length : Int) 0 x359000 x359001)
def impl_FormatAtom.l0 : Nat → List ByteArray → List Int → Int → Int → Int → List Int → Option (ByteArray)
 | 0, _, _, _, _, _, _ => none
 | k + 1, x3, x24, x25, x26, x359000, x359001 => if x26 < x25 then (if 0 ≤ x26 then (if x26 < (x24.length : Int) then ((impl_FormatTerm.f k (rd x24 x26)).bind fun t365 => (if x3.length < 8796093022208 then (impl_FormatAtom.l0 k (x3 ++ [t365]) x24 x25 (wrap64 (x26 + 1)) x359000 x359001) else (none))) else (none)) else (none)) else ((impl_FormatInt.f k x359000).bind fun t369 => (if 1 + t369.size ≤ 9223372036854775807 then (if ((⟨#[114]⟩ : ByteArray) ++ t369).size + 1 ≤ 9223372036854775807 then ((impl_glued.f k x3 (⟨#[44]⟩ : ByteArray)).bind fun t370 => (if (((⟨#[114]⟩ : ByteArray) ++ t369) ++ (⟨#[40]⟩ : ByteArray)).size + t370.size ≤ 9223372036854775807 then (if ((((⟨#[114]⟩ : ByteArray) ++ t369) ++ (⟨#[40]⟩ : ByteArray)) ++ t370).size + 1 ≤ 9223372036854775807 then (some (((((⟨#[114]⟩ : ByteArray) ++ t369) ++ (⟨#[40]⟩ : ByteArray)) ++ t370) ++ (⟨#[41]⟩ : ByteArray))) else (none)) else (none))) else (none)) else (none)))
end
def impl_FormatAtom.f (k : Nat) (a0_0 : Int) (l0_1 : List Int) : Option (ByteArray) := (impl_within.f a0_0 0 3).bind fun t359 => (if t359 = true then (if (l0_1.length : Int) > 3 then (impl_FormatAtom.j0 k true a0_0 l0_1) else ((impl_areTerms.f k l0_1).bind fun t360 => (impl_FormatAtom.j0 k (!t360) a0_0 l0_1))) else (impl_FormatAtom.j0 k true a0_0 l0_1))
theorem impl_FormatAtom.mono_l : ∀ k, (∀ y0 y1 y2, LeO (impl_FormatAtom.j0 k y0 y1 y2) (impl_FormatAtom.j0 (k + 1) y0 y1 y2)) ∧ (∀ y0 y1 y2 y3 y4 y5, LeO (impl_FormatAtom.l0 k y0 y1 y2 y3 y4 y5) (impl_FormatAtom.l0 (k + 1) y0 y1 y2 y3 y4 y5))
 | 0 => ⟨fun _ _ _ r h => by simp [impl_FormatAtom.j0] at h, fun _ _ _ _ _ _ r h => by simp [impl_FormatAtom.l0] at h⟩
 | k + 1 => by
  obtain ⟨ih0,ih1⟩:=impl_FormatAtom.mono_l k
  refine ⟨?_,?_⟩
  (intros;unfold impl_FormatAtom.j0;rotate_left)
  (intros;unfold impl_FormatAtom.l0;rotate_left)
  all_goals repeat' first
  | (with_reducible exact ih0 _ _ _)
  | (with_reducible exact ih1 _ _ _ _ _ _)
  | (with_reducible exact impl_FormatInt.mono _ _)
  | (with_reducible exact impl_FormatTerm.mono _ _)
  | (with_reducible exact impl_areTerms.mono _ _)
  | (with_reducible exact impl_glued.mono _ _ _)
  | (with_reducible exact LeO.refl _)
  | (with_reducible exact LeO.none _)
  | (with_reducible refine LeO.ite ?_ ?_)
  | (with_reducible refine LeO.bind ?_ (fun _ => ?_))
  | exact ih0 _ _ _
  | exact ih1 _ _ _ _ _ _
  | exact LeO.none _
  | refine LeO.ite ?_ ?_
  | refine LeO.bind ?_ (fun _ => ?_)
theorem impl_FormatAtom.mono : ∀ a0 a1 k, LeO (impl_FormatAtom.f k a0 a1) (impl_FormatAtom.f (k + 1) a0 a1) := by
 intro a0 a1 k
 obtain ⟨ih0,ih1⟩:=impl_FormatAtom.mono_l k
 unfold impl_FormatAtom.f
 repeat' first
   | (with_reducible exact ih0 _ _ _)
   | (with_reducible exact ih1 _ _ _ _ _ _)
   | (with_reducible exact impl_FormatInt.mono _ _)
   | (with_reducible exact impl_FormatTerm.mono _ _)
   | (with_reducible exact impl_areTerms.mono _ _)
   | (with_reducible exact impl_glued.mono _ _ _)
   | (with_reducible exact LeO.refl _)
   | (with_reducible exact LeO.none _)
   | (with_reducible refine LeO.ite ?_ ?_)
   | (with_reducible refine LeO.bind ?_ (fun _ => ?_))
   | exact ih0 _ _ _
   | exact ih1 _ _ _ _ _ _
   | exact LeO.none _
   | refine LeO.ite ?_ ?_
   | refine LeO.bind ?_ (fun _ => ?_)
set_option maxHeartbeats 8000000 in
set_option maxRecDepth 100000 in
theorem impl_FormatAtom.calls (k : Nat) (a0_0 : Int) (A0_1 : Option Addr) (c0_1 : Nat) (l0_1 : List Int) (r : ByteArray) (w : World) (hr0_1 : Kd.C (Kd.int .i64) w A0_1 l0_1.length l0_1) (hc0_1 : l0_1.length ≤ c0_1) (h : impl_FormatAtom.f k a0_0 l0_1 = some r) :
  Calls Try.prog 29 #[.agg #[.int .i64 a0_0, .slice A0_1 l0_1.length c0_1]] w fun e w' => e = .returned (.string r) ∧ Below w.heap.size w w' := by
 have hu38:=Try.underlying38;have HR0_1:=zA hr0_1;have HC0_1:=zA hc0_1;clear hr0_1 hc0_1;have HB:=zA (Below.refl w.heap.size w)
 have H : ((impl_within.f a0_0 0 3).bind fun t359 => (if t359 = true then (if (l0_1.length : Int) > 3 then (impl_FormatAtom.j0 k true a0_0 l0_1) else ((impl_areTerms.f k l0_1).bind fun t360 => (impl_FormatAtom.j0 k (!t360) a0_0 l0_1))) else (impl_FormatAtom.j0 k true a0_0 l0_1))) = some r:=h
 clear h;have HC2:=zA H;clear H
 go_enter Try.func29,Try.ntmps29
 go_upto_region 1 with (first|((with_reducible refine gate_dst (N:=1) rfl ?_);(try (refine gate_guard (by rfl) ?_;dsimp only));refine box_event ?hg (N:=1) ?hd (cs:=#[.int .i64 a0_0,.slice A0_1 l0_1.length c0_1]) (t:=38) ?hr ?_;(case hd => rfl);(case hg => rfl);(case hr => first|(go_simp;done)|(go_simp;rfl));intro gb358 hg w3 hbox hb;have BK358:=zA (hbox);have GW358:=zA ((by rw [hg];exact (zT (zz HB)) : w.heap.size ≤ gb358));have GE358:=zA ((by rw [hg];exact (zT (zz HB)) : w.heap.size ≤ gb358));replace HB:=zA (zJb (zz HB) hb);clear hb hbox hg))
 (try simp only [Act.put,zO,zEb,zFb])
 go_cut [21] (fun v21 wc => ∃ (kq : Nat) (x21_1 : Bool),v21 = .bool x21_1 ∧ Aside0 (impl_FormatAtom.j0 kq x21_1 a0_0 l0_1 = some r) ∧ Aside0 (kq ≤ k) ∧ Aside0 (wc.heap[gb358]? = some (.cells #[.int .i64 a0_0,(.slice A0_1 l0_1.length c0_1)] 38 (0,0))) ∧ Aside0 (Below w.heap.size w wc))
 case first =>
  have H:=HC2.out;clear HC2;replace H:=Option.bind_eq_some_iff.mp H;obtain ⟨t359,A40,H⟩:=H;(try dsimp only at H);have A4:=zA A40;clear A40
  by_cases c5 : t359 = true
  ·
   subst c5
   rw [if_pos rfl] at H
   by_cases c6 : (l0_1.length : Int) > 3
   ·
    rw [if_pos c6] at H
    have c6b0 : decide (3 < (l0_1.length : Int)) = true:=decide_eq_true c6
    have c6b1 : decide (3 < l0_1.length) = true:=decide_eq_true (by omega)
    clear c6
    (first|rw [c6b0]|(simp only [i64_w,i32_w];rw [c6b0])|skip)
    have H':=zA H
    clear H;have hcz7_0:=zc (.int .i64 a0_0) BK358 0 rfl;have hcz7_1:=zc (.slice A0_1 l0_1.length c0_1) BK358 1 rfl;have hfz7_0:=blk_frozen BK358.out 0;have hfz7_1:=blk_frozen BK358.out 1
    go_wp2_with (first|((with_reducible refine gate_callee (f:=88) rfl ?_);refine goesL_ (some 8) rfl rfl Try.func88 (by kernel_rfl) rfl #[.int .i64 a0_0,.int .i64 0,.int .i64 3] rfl (by (try simp only [zCb,zMb,zNb]);first|done|rfl|(simp only [zLb,zDb];rfl)) ?_;(with_reducible refine (impl_within.calls a0_0 0 3 true _ A4.out).mono ?_);rintro e w' ⟨rfl,⟨nd,rfl⟩⟩;refine ⟨_,rfl,?_⟩))
    go_meet
    case rel => exact ⟨_,(true),za,H',⟨by first|omega|exact Nat.le_refl _⟩,⟨zx BK358⟩,⟨zz HB⟩⟩
   ·
    rw [if_neg c6] at H
    have c6b0 : decide (3 < (l0_1.length : Int)) = false:=decide_eq_false c6
    have c6b1 : decide (3 < l0_1.length) = false:=decide_eq_false (by omega)
    clear c6
    (first|rw [c6b0]|(simp only [i64_w,i32_w];rw [c6b0])|skip)
    replace H:=Option.bind_eq_some_iff.mp H;obtain ⟨t360,A80,H⟩:=H;(try dsimp only at H);have A8:=zA A80;clear A80
    have H':=zA H
    clear H;have hcz9_0:=zc (.int .i64 a0_0) BK358 0 rfl;have hcz9_1:=zc (.slice A0_1 l0_1.length c0_1) BK358 1 rfl;have hfz9_0:=blk_frozen BK358.out 0;have hfz9_1:=blk_frozen BK358.out 1
    go_wp2_with (first|((with_reducible refine gate_callee (f:=88) rfl ?_);refine goesL_ (some 8) rfl rfl Try.func88 (by kernel_rfl) rfl #[.int .i64 a0_0,.int .i64 0,.int .i64 3] rfl (by (try simp only [zCb,zMb,zNb]);first|done|rfl|(simp only [zLb,zDb];rfl)) ?_;(with_reducible refine (impl_within.calls a0_0 0 3 true _ A4.out).mono ?_);rintro e w' ⟨rfl,⟨nd,rfl⟩⟩;refine ⟨_,rfl,?_⟩)|(go_at_call 89;(with_reducible refine (impl_areTerms.calls k _ _ l0_1 t360 _ ?side1 ?side2 A8.out).mono ?_);(case side1 => repeat (first|exact (zKb HR0_1.out (zz HB))|(with_reducible refine zBb ?_ _)|(with_reducible refine zAb ?_ _)|(with_reducible refine zX ?_)));(case side2 => exact HC0_1.out);rintro e w' ⟨rfl,⟨nd,rfl⟩⟩))
    go_meet
    case rel => exact ⟨_,(!t360),za,H',⟨by first|omega|exact Nat.le_refl _⟩,⟨zx BK358⟩,⟨zz HB⟩⟩
  ·
   replace c5:=Bool.eq_false_iff.mpr c5
   subst c5
   have H1 : (impl_FormatAtom.j0 k true a0_0 l0_1) = some r:=by rw [if_neg (show ¬ (false = true) by decide)] at H;exact H
   clear H;have H:=H1;clear H1
   have H':=zA H
   clear H;have hcz10_0:=zc (.int .i64 a0_0) BK358 0 rfl;have hcz10_1:=zc (.slice A0_1 l0_1.length c0_1) BK358 1 rfl;have hfz10_0:=blk_frozen BK358.out 0;have hfz10_1:=blk_frozen BK358.out 1
   go_wp2_with (first|((with_reducible refine gate_callee (f:=88) rfl ?_);refine goesL_ (some 8) rfl rfl Try.func88 (by kernel_rfl) rfl #[.int .i64 a0_0,.int .i64 0,.int .i64 3] rfl (by (try simp only [zCb,zMb,zNb]);first|done|rfl|(simp only [zLb,zDb];rfl)) ?_;(with_reducible refine (impl_within.calls a0_0 0 3 false _ A4.out).mono ?_);rintro e w' ⟨rfl,⟨nd,rfl⟩⟩;refine ⟨_,rfl,?_⟩))
   go_meet
   case rel => exact ⟨_,(true),za,H',⟨by first|omega|exact Nat.le_refl _⟩,⟨zx BK358⟩,⟨zz HB⟩⟩
 case rest =>
  clear HC2;(try clear c2);(try clear p2);(try clear c5);(try clear c6);(try clear c6b0);(try clear c6b1);(try clear c8);(try clear hcz10_0);(try clear hcz10_1);(try clear hcz7_0);(try clear hcz7_1);(try clear hcz9_0);(try clear hcz9_1);(try clear hfz10_0);(try clear hfz10_1);(try clear hfz7_0);(try clear hfz7_1);(try clear hfz9_0);(try clear hfz9_1);obtain ⟨kq,x21_1,rfl,HA,HJ1,BK358,HB⟩:=hcut
  cases kq with
  | zero => exact absurd HA.out (by simp [impl_FormatAtom.j0])
  | succ kj1 =>
   have H:=HA.out;clear HA;simp only [impl_FormatAtom.j0] at H
   by_cases c11 : x21_1 = true
   ·
    subst c11
    rw [if_pos rfl] at H
    obtain rfl:=Option.some.inj H
    go_wp2
    go_ret
    exact ⟨by first|rfl|(simp [errW_none,errW_some] <;> rfl)|(simp [*,errW_none,errW_some] <;> rfl),zz HB⟩
   ·
    replace c11:=Bool.eq_false_iff.mpr c11
    subst c11
    have H1 : (impl_FormatAtom.l0 kj1 (([] : List ByteArray)) l0_1 (l0_1.length : Int) 0 a0_0 l0_1) = some r:=by rw [if_neg (show ¬ (false = true) by decide)] at H;exact H
    clear H;have H:=H1;clear H1;obtain ⟨y361,hy361⟩ : ∃ y_ : List ByteArray,y_ = (([] : List ByteArray)):=⟨_,rfl⟩
    replace H : (impl_FormatAtom.l0 kj1 y361 l0_1 (l0_1.length : Int) 0 a0_0 l0_1) = some r:=by first|(rw [hy361];with_reducible exact H)|(have H2_:=(Option.bind_some _ _).symm.trans H;rw [hy361];with_reducible exact H2_)|(have H2_:=(Option.bind_some _ _).symm.trans H;with_reducible exact H2_)|with_reducible exact H|(rw [hy361];exact H)|exact H
    have Ny361:=zA hy361;clear hy361
    have H':=zA H
    clear H
    go_wp2_with (first|((with_reducible refine gate_dst (N:=22) rfl ?_);(try (refine gate_guard (by rfl) ?_;dsimp only));refine Kd.R_lit Kd.string _ 9 ?hg (N:=22) ?hd (xs:=([] : List ByteArray)) (inner:=[]) (ok:=fun _ => True) (okp:=fun _ => True) ?hr ?hp (fun _ hk => hk) trivial (Below.refl _ _) (Nat.le_refl _) (by simp) ?_;(case hd => rfl);(case hg => rfl);(case hr => first|(go_simp;done)|(go_simp;rfl));(case hp => exact (Reps.none _ _));intro v362 w12 ho13 hb hg_ hnew_;clear hg_ hnew_;(first|rw [← Ny361.out] at ho13|(simp only [Int.reduceToNat] at ho13;rw [← Ny361.out] at ho13));have HO363:=zA (zHb ho13 (zT (zz HB)));replace BK358:=zA (zQ (g:=gb358) (o:=.cells #[.int .i64 a0_0,.slice A0_1 l0_1.length c0_1] 38 (0,0)) (zx BK358) hb);replace HB:=zA (zJb (zz HB) hb);clear hb ho13;have hcz14_0:=zc (.int .i64 a0_0) BK358 0 rfl;have hcz14_1:=zc (.slice A0_1 l0_1.length c0_1) BK358 1 rfl;have hfz14_0:=blk_frozen BK358.out 0;have hfz14_1:=blk_frozen BK358.out 1))
    go_loopg [3,26] kj1 (fun kq v3 v26 w' => ∃ (x3_2 : List ByteArray) (x26_2 : Int),v26 = .int .i64 x26_2 ∧ Aside0 (impl_FormatAtom.l0 kq x3_2 l0_1 (l0_1.length : Int) x26_2 a0_0 l0_1 = some r) ∧ Aside0 (kq ≤ kj1) ∧ Aside0 (Kd.R Kd.string 9 w' w.heap.size (fun _ => True) v3 x3_2) ∧ Aside0 (w'.heap[gb358]? = some (.cells #[.int .i64 a0_0,(.slice A0_1 l0_1.length c0_1)] 38 (0,0))) ∧ Aside0 (Below w.heap.size w w'))
    case atStart => exact ⟨(y361),(0),za,H',⟨Nat.le_refl _⟩,⟨zq HO363⟩,⟨zx BK358⟩,⟨zz HB⟩⟩
    case round =>
     clear H';(try clear c1);(try clear c2);(try clear p2);(try clear c5);(try clear c6);(try clear c6b0);(try clear c6b1);(try clear c8);(try clear c11);(try clear hcz10_0);(try clear hcz10_1);(try clear hcz14_0);(try clear hcz14_1);(try clear hcz7_0);(try clear hcz7_1);(try clear hcz9_0);(try clear hcz9_1);(try clear hfz10_0);(try clear hfz10_1);(try clear hfz14_0);(try clear hfz14_1);(try clear hfz7_0);(try clear hfz7_1);(try clear hfz9_0);(try clear hfz9_1);(try clear p2);obtain ⟨x3_2,x26_2,rfl,HA,HK2,HO_3,BK358,HB⟩:=hrel
     cases gk with
     | zero => exact absurd HA.out (by simp [impl_FormatAtom.l0])
     | succ k2 =>
      have H:=HA.out;clear HA;simp only [impl_FormatAtom.l0] at H
      by_cases c15 : x26_2 < (l0_1.length : Int)
      ·
       rw [if_pos c15] at H;have c15b0:=decide_eq_true c15;clear c15
       by_cases c16 : 0 ≤ x26_2
       ·
        rw [if_pos c16] at H;have c16b0:=decide_eq_true c16;clear c16
        by_cases c17 : x26_2 < (l0_1.length : Int)
        ·
         rw [if_pos c17] at H;have c17b0:=decide_eq_true c17;clear c17;replace H:=Option.bind_eq_some_iff.mp H;obtain ⟨t365,A180,H⟩:=H;(try dsimp only at H);have A18:=zA A180;clear A180
         by_cases c19 : x3_2.length < 8796093022208
         ·
          rw [if_pos c19] at H;have LMc19:=zA c19;clear c19;obtain ⟨y366,hy366⟩ : ∃ y_ : List ByteArray,y_ = (x3_2 ++ [t365]):=⟨_,rfl⟩
          replace H : (impl_FormatAtom.l0 k2 y366 l0_1 (l0_1.length : Int) (wrap64 (x26_2 + 1)) a0_0 l0_1) = some r:=by first|(rw [hy366];with_reducible exact H)|(have H2_:=(Option.bind_some _ _).symm.trans H;rw [hy366];with_reducible exact H2_)|(have H2_:=(Option.bind_some _ _).symm.trans H;with_reducible exact H2_)|with_reducible exact H|(rw [hy366];exact H)|exact H
          have Ny366:=zA hy366;clear hy366
          have H':=zA H
          clear H;have p364 : 0 ≤ (x26_2 : Int):=zXb ze;have q364 : x26_2 < (l0_1.length : Int):=zXb ze;obtain ⟨ad364,e364,hx364_0⟩:=Kd.at_int HR0_1.out x26_2 p364 q364
          cases e364
          replace hx364_0:=(HB.out.cell (World.block_lt_of_cell? w _ hx364_0)).trans hx364_0;replace p364:=eq_true p364;replace q364:=eq_true q364
          go_wp2_with (first|((with_reducible refine gate_callee (f:=75) rfl ?_);refine goesL_ (some 32) rfl rfl Try.func75 (by kernel_rfl) rfl #[.int .i64 (rd l0_1 x26_2)] rfl (by (try simp only [zCb,zMb,zNb]);first|done|rfl|(simp only [zLb,zDb];rfl)) ?_;(with_reducible refine (impl_FormatTerm.calls k2 (rd l0_1 x26_2) t365 _ A18.out).mono ?_);rintro e w20 ⟨rfl,hb⟩;refine ⟨_,rfl,?_⟩;replace HO_3:=zA (zZ (zq HO_3) hb);replace BK358:=zA (zQ (g:=gb358) (o:=.cells #[.int .i64 a0_0,.slice (some ad364) l0_1.length c0_1] 38 (0,0)) (zx BK358) hb);replace HB:=zA (zJb (zz HB) hb);(try clear hb);(try clear hb2);(try clear hk);(try clear hi))|((with_reducible refine gate_builtin (b:=.append) (xs:=#[.tmp 30,.tmp 33]) rfl ?_);(try (refine gate_guard (by rfl) ?_;dsimp only));at_builtin;refine Kd.R_append Kd.string (w0:=w) w.heap.size rfl (.tmp 30) (.tmp 33) 92 9 (.string ⟨#[]⟩) 16 rfl Try.underlying92 info9 rfl (by decide) (by omega) u3 x3_2 t365 [.string t365] (fun _ => True) (fun _ => False) rfl rfl ?aP (fun _ hk => hk.elim) ?aF ?aO ?aB ?aS ?aL ?_;(case aP => exact rfl);(case aB => exact (zz HB));(case aF => exact (fun _ _ => trivial));(case aO => exact (zq HO_3));(case aS => exact (zT (zz HB)));(case aL => have:=LMc19.out;omega);intro v367 w21 ho hb hg hat;rw [← Ny366.out] at ho;replace BK358:=zA (blk_grown (g:=gb358) (o:=.cells #[.int .i64 a0_0,.slice (some ad364) l0_1.length c0_1] 38 (0,0)) (zx BK358) hg (Kd.R_ne HO_3.out BK358.out (by decide)));replace HB:=zA (hb);have HO368:=zA (ho);clear HO_3;clear ho hb hg hat))
          go_roundg k2
          case measure => have:=HJ1.out;have:=HK2.out;omega
          case rel => exact ⟨(y366),(wrap64 (x26_2 + 1)),za,H',⟨by have:=HJ1.out;have:=HK2.out;omega⟩,⟨zq HO368⟩,⟨zx BK358⟩,⟨zz HB⟩⟩
         ·
          rw [if_neg c19] at H
          exact absurd H (by simp)
        ·
         rw [if_neg c17] at H
         exact absurd H (by simp)
       ·
        rw [if_neg c16] at H
        exact absurd H (by simp)
      ·
       rw [if_neg c15] at H;have c15b0:=decide_eq_false c15;clear c15;replace H:=Option.bind_eq_some_iff.mp H;obtain ⟨t369,A220,H⟩:=H;(try dsimp only at H);have A22:=zA A220;clear A220
       by_cases c23 : 1 + t369.size ≤ 9223372036854775807
       ·
        rw [if_pos c23] at H;have c23b0:=eq_true c23;have c23b1:=decide_eq_true c23
        try have c23b2 : (9223372036854775807 < 1 + t369.size) = False:=eq_false (Nat.not_lt.2 c23)
        by_cases c24 : ((⟨#[114]⟩ : ByteArray) ++ t369).size + 1 ≤ 9223372036854775807
        ·
         rw [if_pos c24] at H;have c24b0:=eq_true c24;have c24b1:=decide_eq_true c24
         try have c24b2 : (9223372036854775807 < ((⟨#[114]⟩ : ByteArray) ++ t369).size + 1) = False:=eq_false (Nat.not_lt.2 c24)
         try have c24z0 : (9223372036854775807 < 1 + t369.size + 1) = False:=eq_false (by have h_:=c24;have e0_ : (⟨#[114]⟩ : ByteArray).size = 1:=rfl;simp only [ByteArray.size_append] at h_;omega)
         try have c24z1 : (1 + t369.size + 1 ≤ 9223372036854775807) = True:=eq_true (by have h_:=c24;have e0_ : (⟨#[114]⟩ : ByteArray).size = 1:=rfl;simp only [ByteArray.size_append] at h_;omega)
         replace H:=Option.bind_eq_some_iff.mp H;obtain ⟨t370,A250,H⟩:=H;(try dsimp only at H);have A25:=zA A250;clear A250
         by_cases c26 : (((⟨#[114]⟩ : ByteArray) ++ t369) ++ (⟨#[40]⟩ : ByteArray)).size + t370.size ≤ 9223372036854775807
         ·
          rw [if_pos c26] at H;have c26b0:=eq_true c26;have c26b1:=decide_eq_true c26
          try have c26b2 : (9223372036854775807 < (((⟨#[114]⟩ : ByteArray) ++ t369) ++ (⟨#[40]⟩ : ByteArray)).size + t370.size) = False:=eq_false (Nat.not_lt.2 c26)
          try have c26z0 : (9223372036854775807 < 1 + t369.size + 1 + t370.size) = False:=eq_false (by have h_:=c26;have e0_ : (⟨#[114]⟩ : ByteArray).size = 1:=rfl;have e1_ : (⟨#[40]⟩ : ByteArray).size = 1:=rfl;simp only [ByteArray.size_append] at h_;omega)
          try have c26z1 : (1 + t369.size + 1 + t370.size ≤ 9223372036854775807) = True:=eq_true (by have h_:=c26;have e0_ : (⟨#[114]⟩ : ByteArray).size = 1:=rfl;have e1_ : (⟨#[40]⟩ : ByteArray).size = 1:=rfl;simp only [ByteArray.size_append] at h_;omega)
          by_cases c27 : ((((⟨#[114]⟩ : ByteArray) ++ t369) ++ (⟨#[40]⟩ : ByteArray)) ++ t370).size + 1 ≤ 9223372036854775807
          ·
           rw [if_pos c27] at H;have c27b0:=eq_true c27;have c27b1:=decide_eq_true c27
           try have c27b2 : (9223372036854775807 < ((((⟨#[114]⟩ : ByteArray) ++ t369) ++ (⟨#[40]⟩ : ByteArray)) ++ t370).size + 1) = False:=eq_false (Nat.not_lt.2 c27)
           try have c27z0 : (9223372036854775807 < 1 + t369.size + 1 + t370.size + 1) = False:=eq_false (by have h_:=c27;have e0_ : (⟨#[114]⟩ : ByteArray).size = 1:=rfl;have e1_ : (⟨#[40]⟩ : ByteArray).size = 1:=rfl;simp only [ByteArray.size_append] at h_;omega)
           try have c27z1 : (1 + t369.size + 1 + t370.size + 1 ≤ 9223372036854775807) = True:=eq_true (by have h_:=c27;have e0_ : (⟨#[114]⟩ : ByteArray).size = 1:=rfl;have e1_ : (⟨#[40]⟩ : ByteArray).size = 1:=rfl;simp only [ByteArray.size_append] at h_;omega)
           obtain rfl:=Option.some.inj H
           have hcz28_0:=zc (.int .i64 a0_0) BK358 0 rfl;have hcz28_1:=zc (.slice A0_1 l0_1.length c0_1) BK358 1 rfl;have hfz28_0:=blk_frozen BK358.out 0;have hfz28_1:=blk_frozen BK358.out 1
           go_wp2_with (first|((with_reducible refine gate_callee (f:=90) rfl ?_);refine goesL_ (some 38) rfl rfl Try.func90 (by kernel_rfl) rfl #[.int .i64 a0_0] rfl (by (try simp only [zCb,zMb,zNb]);first|done|rfl|(simp only [zLb,zDb];rfl)) ?_;(with_reducible refine (impl_FormatInt.calls k2 a0_0 t369 _ A22.out).mono ?_);rintro e w29 ⟨rfl,hb⟩;refine ⟨_,rfl,?_⟩;replace HO_3:=zA (zZ (zq HO_3) hb);replace BK358:=zA (zQ (g:=gb358) (o:=.cells #[.int .i64 a0_0,.slice A0_1 l0_1.length c0_1] 38 (0,0)) (zx BK358) hb);replace HB:=zA (zJb (zz HB) hb);(try clear hb);(try clear hb2);(try clear hk);(try clear hi);obtain ⟨Ao30,co30,eo30⟩:=Kd.R_slice HO_3.out;subst eo30)|((with_reducible refine gate_callee (f:=76) rfl ?_);refine goesL_ (some 42) rfl rfl Try.func76 (by kernel_rfl) rfl #[.slice Ao30 x3_2.length co30,.string (⟨#[44]⟩ : ByteArray)] rfl (by (try simp only [zCb,zMb,zNb]);first|done|rfl|(simp only [zLb,zDb];rfl)) ?_;(with_reducible refine (impl_glued.calls k2 _ _ x3_2 (⟨#[44]⟩ : ByteArray) t370 _ ?side1 ?side2 A25.out).mono ?_);(case side1 => repeat (first|exact (Kd.R_reads' HO_3.out).2.2|(with_reducible refine zBb ?_ _)|(with_reducible refine zAb ?_ _)|(with_reducible refine zX ?_)));(case side2 => exact (Kd.R_reads' HO_3.out).2.1);rintro e w' ⟨rfl,⟨nd,rfl⟩⟩;refine ⟨_,rfl,?_⟩))
           go_ret
           exact ⟨by first|rfl|(simp [errW_none,errW_some] <;> rfl)|(simp [*,errW_none,errW_some] <;> rfl),zz HB⟩
          ·
           rw [if_neg c27] at H
           exact absurd H (by simp)
         ·
          rw [if_neg c26] at H
          exact absurd H (by simp)
        ·
         rw [if_neg c24] at H
         exact absurd H (by simp)
       ·
        rw [if_neg c23] at H
        exact absurd H (by simp)

end Go.Proofs.Ytpfpappamlgnoaa.QFnExactParseQuery
