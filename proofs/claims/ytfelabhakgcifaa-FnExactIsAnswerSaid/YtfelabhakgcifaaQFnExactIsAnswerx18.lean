/- Walks through the Go functions that FnExactIsAnswer reaches: each call returns what the Lean function beside it says, within the bounds that the theorem names. -/
import Derived.Test.YtfelabhakgcifaaQFnExactIsAnswerx0
import Derived.Test.YtfelabhakgcifaaQFnExactIsAnswerx14
import Derived.Test.YtfelabhakgcifaaQFnExactIsAnswerx15
import Derived.Test.YtfelabhakgcifaaQFnExactIsAnswerx17
namespace Go.Proofs.Ytfelabhakgcifaa.QFnExactIsAnswer
open Go.RowKit Go.Proofs.YtfelabhakgcifaaW.PrintWords Go.Proofs.YtfelabhakgcifaaW.PrintLast Go.Proofs.YtfelabhakgcifaaW.PrintMore
attribute [local go_sem] max2_int min2_int max_two min_two max_three min_three max_four min_four   -- for this text's walks alone
set_option linter.unusedVariables false
set_option linter.unusedSimpArgs false


/-! ### impl_IsQuery: function 72 -/
mutual
def impl_IsQuery.j0 : Nat → Bool → List Int → List Int → List (S115) → Option (Bool)
 | 0, _, _, _, _ => none
 | k + 1, x28, x396000, x397000, x397001 => if x28 = true then (some false) else (impl_IsQuery.l0 k x397001 (x397001.length : Int) 0 x396000 x397000 x397001)
def impl_IsQuery.l0 : Nat → List (S115) → Int → Int → List Int → List Int → List (S115) → Option (Bool)
 | 0, _, _, _, _, _, _ => none
 | k + 1, x30, x31, x32, x396000, x397000, x397001 => if x32 < x31 then (if 0 ≤ x32 then (if x32 < (x30.length : Int) then ((impl_IsAtom.f k x396000 ((rd_T115 x30 x32).f0) ((rd_T115 x30 x32).f1)).bind fun t402 => (if t402 = true then (impl_IsQuery.l0 k x30 x31 (wrap64 (x32 + 1)) x396000 x397000 x397001) else (some false))) else (none)) else (none)) else ((impl_Query_isSafe.f k x397000 x397001).bind fun t403 => (some t403))
end
def impl_IsQuery.f (k : Nat) (l0_0 : List Int) (l1_0 : List Int) (l1_1 : List (S115)) : Option (Bool) := (impl_IsSchema.f k l0_0).bind fun t397 => (if t397 = true then (if (l1_0.length : Int) > 3 then (impl_IsQuery.j0 k true l0_0 l1_0 l1_1) else ((impl_areTerms.f k l1_0).bind fun t398 => (if t398 = true then ((impl_within.f (l1_1.length : Int) 1 4).bind fun t399 => (impl_IsQuery.j0 k (!t399) l0_0 l1_0 l1_1)) else (impl_IsQuery.j0 k true l0_0 l1_0 l1_1)))) else (impl_IsQuery.j0 k true l0_0 l1_0 l1_1))
theorem impl_IsQuery.mono_l : ∀ k, (∀ y0 y1 y2 y3, LeO (impl_IsQuery.j0 k y0 y1 y2 y3) (impl_IsQuery.j0 (k + 1) y0 y1 y2 y3)) ∧ (∀ y0 y1 y2 y3 y4 y5, LeO (impl_IsQuery.l0 k y0 y1 y2 y3 y4 y5) (impl_IsQuery.l0 (k + 1) y0 y1 y2 y3 y4 y5))
 | 0 => ⟨fun _ _ _ _ r h => by simp [impl_IsQuery.j0] at h, fun _ _ _ _ _ _ r h => by simp [impl_IsQuery.l0] at h⟩
 | k + 1 => by
  obtain ⟨ih0,ih1⟩:=impl_IsQuery.mono_l k
  refine ⟨?_,?_⟩
  (intros;unfold impl_IsQuery.j0;rotate_left)
  (intros;unfold impl_IsQuery.l0;rotate_left)
  all_goals repeat' first
  | (with_reducible exact ih0 _ _ _ _)
  | (with_reducible exact ih1 _ _ _ _ _ _)
  | (with_reducible exact impl_IsAtom.mono _ _ _ _)
  | (with_reducible exact impl_IsSchema.mono _ _)
  | (with_reducible exact impl_Query_isSafe.mono _ _ _)
  | (with_reducible exact impl_areTerms.mono _ _)
  | (with_reducible exact LeO.refl _)
  | (with_reducible exact LeO.none _)
  | (with_reducible refine LeO.ite ?_ ?_)
  | (with_reducible refine LeO.bind ?_ (fun _ => ?_))
  | exact ih0 _ _ _ _
  | exact ih1 _ _ _ _ _ _
  | exact LeO.none _
  | refine LeO.ite ?_ ?_
  | refine LeO.bind ?_ (fun _ => ?_)
theorem impl_IsQuery.mono : ∀ a0 a1 a2 k, LeO (impl_IsQuery.f k a0 a1 a2) (impl_IsQuery.f (k + 1) a0 a1 a2) := by
 intro a0 a1 a2 k
 obtain ⟨ih0,ih1⟩:=impl_IsQuery.mono_l k
 unfold impl_IsQuery.f
 repeat' first
   | (with_reducible exact ih0 _ _ _ _)
   | (with_reducible exact ih1 _ _ _ _ _ _)
   | (with_reducible exact impl_IsAtom.mono _ _ _ _)
   | (with_reducible exact impl_IsSchema.mono _ _)
   | (with_reducible exact impl_Query_isSafe.mono _ _ _)
   | (with_reducible exact impl_areTerms.mono _ _)
   | (with_reducible exact LeO.refl _)
   | (with_reducible exact LeO.none _)
   | (with_reducible refine LeO.ite ?_ ?_)
   | (with_reducible refine LeO.bind ?_ (fun _ => ?_))
   | exact ih0 _ _ _ _
   | exact ih1 _ _ _ _ _ _
   | exact LeO.none _
   | refine LeO.ite ?_ ?_
   | refine LeO.bind ?_ (fun _ => ?_)
set_option maxHeartbeats 8000000 in
set_option maxRecDepth 100000 in
theorem impl_IsQuery.calls (k : Nat) (A0_0 : Option Addr) (c0_0 : Nat) (l0_0 : List Int) (A1_0 : Option Addr) (c1_0 : Nat) (l1_0 : List Int) (A1_1 : Option Addr) (c1_1 : Nat) (l1_1 : List (S115)) (r : Bool) (w : World) (hr0_0 : Kd.C (Kd.int .i64) w A0_0 l0_0.length l0_0) (hc0_0 : l0_0.length ≤ c0_0) (hr1_0 : Kd.C (Kd.int .i64) w A1_0 l1_0.length l1_0) (hc1_0 : l1_0.length ≤ c1_0) (hr1_1 : Kd.C k115 w A1_1 l1_1.length l1_1) (hc1_1 : l1_1.length ≤ c1_1) (h : impl_IsQuery.f k l0_0 l1_0 l1_1 = some r) :
  Calls Try.prog 72 #[.agg #[.slice A0_0 l0_0.length c0_0], .agg #[.slice A1_0 l1_0.length c1_0, .slice A1_1 l1_1.length c1_1]] w fun e w' => e = .returned (.bool r) ∧ Below w.heap.size w w' := by
 have hu34:=Try.underlying34;have hu61:=Try.underlying61;have hu115:=Try.underlying115;have HR0_0:=zA hr0_0;have HC0_0:=zA hc0_0;clear hr0_0 hc0_0;have HR1_0:=zA hr1_0;have HC1_0:=zA hc1_0;clear hr1_0 hc1_0;have HR1_1:=zA hr1_1;have HC1_1:=zA hc1_1;clear hr1_1 hc1_1;have HB:=zA (Below.refl w.heap.size w)
 have H : ((impl_IsSchema.f k l0_0).bind fun t397 => (if t397 = true then (if (l1_0.length : Int) > 3 then (impl_IsQuery.j0 k true l0_0 l1_0 l1_1) else ((impl_areTerms.f k l1_0).bind fun t398 => (if t398 = true then ((impl_within.f (l1_1.length : Int) 1 4).bind fun t399 => (impl_IsQuery.j0 k (!t399) l0_0 l1_0 l1_1)) else (impl_IsQuery.j0 k true l0_0 l1_0 l1_1)))) else (impl_IsQuery.j0 k true l0_0 l1_0 l1_1))) = some r:=h
 clear h;have HC3:=zA H;clear H
 go_enter Try.func72,Try.ntmps72
 go_upto_region 1 with (first|((with_reducible refine gate_dst (N:=2) rfl ?_);(try (refine gate_guard (by rfl) ?_;dsimp only));refine box_event ?hg (N:=2) ?hd (cs:=#[.slice A0_0 l0_0.length c0_0]) (t:=34) ?hr ?_;(case hd => rfl);(case hg => rfl);(case hr => first|(go_simp;done)|(go_simp;rfl));intro gb395 hg w4 hbox hb;have BK395:=zA (hbox);have GW395:=zA ((by rw [hg];exact (zT (zz HB)) : w.heap.size ≤ gb395));have GE395:=zA ((by rw [hg];exact (zT (zz HB)) : w.heap.size ≤ gb395));replace HB:=zA (zJb (zz HB) hb);clear hb hbox hg)|((with_reducible refine gate_dst (N:=3) rfl ?_);(try (refine gate_guard (by rfl) ?_;dsimp only));refine box_event ?hg (N:=3) ?hd (cs:=#[.slice A1_0 l1_0.length c1_0,.slice A1_1 l1_1.length c1_1]) (t:=61) ?hr ?_;(case hd => rfl);(case hg => rfl);(case hr => first|(go_simp;done)|(go_simp;rfl));intro gb396 hg w5 hbox hb;have BK396:=zA (hbox);have GW396:=zA ((by rw [hg];exact (zT (zz HB)) : w.heap.size ≤ gb396));have GE396:=zA ((by rw [hg];exact (zT (zz HB)) : w.heap.size ≤ gb396));replace HB:=zA (zJb (zz HB) hb);have NB395_396:=zA ((by rw [hg];exact Nat.ne_of_lt (blk_lt (g:=gb395) (o:=.cells #[.slice A0_0 l0_0.length c0_0] 34 (0,0)) (zx BK395)) : gb395 ≠ gb396));have NB396_395:=zA ((by rw [hg];exact Nat.ne_of_gt (blk_lt (g:=gb395) (o:=.cells #[.slice A0_0 l0_0.length c0_0] 34 (0,0)) (zx BK395)) : gb396 ≠ gb395));replace BK395:=zA (zQ (g:=gb395) (o:=.cells #[.slice A0_0 l0_0.length c0_0] 34 (0,0)) (zx BK395) hb);clear hb hbox hg))
 (try simp only [Act.put,zO,zEb,zFb])
 go_cut [28] (fun v28 wc => ∃ (kq : Nat) (x28_2 : Bool),v28 = .bool x28_2 ∧ Aside0 (impl_IsQuery.j0 kq x28_2 l0_0 l1_0 l1_1 = some r) ∧ Aside0 (kq ≤ k) ∧ Aside0 (wc.heap[gb395]? = some (.cells #[(.slice A0_0 l0_0.length c0_0)] 34 (0,0))) ∧ Aside0 (wc.heap[gb396]? = some (.cells #[(.slice A1_0 l1_0.length c1_0),(.slice A1_1 l1_1.length c1_1)] 61 (0,0))) ∧ Aside0 (Below w.heap.size w wc))
 case first =>
  have H:=HC3.out;clear HC3;replace H:=Option.bind_eq_some_iff.mp H;obtain ⟨t397,A60,H⟩:=H;(try dsimp only at H);have A6:=zA A60;clear A60
  by_cases c7 : t397 = true
  ·
   subst c7
   rw [if_pos rfl] at H
   by_cases c8 : (l1_0.length : Int) > 3
   ·
    rw [if_pos c8] at H
    have c8b0 : decide (3 < (l1_0.length : Int)) = true:=decide_eq_true c8
    have c8b1 : decide (3 < l1_0.length) = true:=decide_eq_true (by omega)
    clear c8
    (first|rw [c8b0]|(simp only [i64_w,i32_w];rw [c8b0])|skip)
    have H':=zA H
    clear H;have hnb9:=NB395_396.out;have hnc9:=NB396_395.out;have hcz10_0:=zc (.slice A0_0 l0_0.length c0_0) BK395 0 rfl;have hfz10_0:=blk_frozen BK395.out 0
    go_wp2_with (first|((with_reducible refine gate_callee (f:=59) rfl ?_);refine goesL_ (some 8) rfl rfl Try.func59 (by kernel_rfl) rfl #[.agg #[.slice A0_0 l0_0.length c0_0]] rfl (by (try simp only [zCb,zMb,zNb]);first|done|rfl|(simp only [zLb,zDb];rfl)) ?_;(with_reducible refine (impl_IsSchema.calls k _ _ l0_0 true _ ?side1 ?side2 A6.out).mono ?_);(case side1 => exact zsd HR0_0 HB);(case side2 => exact HC0_0.out);rintro e w11 ⟨rfl,hb⟩;refine ⟨_,rfl,?_⟩;replace BK395:=zA (zQ (g:=gb395) (o:=.cells #[.slice A0_0 l0_0.length c0_0] 34 (0,0)) (zx BK395) hb);replace BK396:=zA (zQ (g:=gb396) (o:=.cells #[.slice A1_0 l1_0.length c1_0,.slice A1_1 l1_1.length c1_1] 61 (0,0)) (zx BK396) hb);replace HB:=zA (zJb (zz HB) hb);(try clear hb);(try clear hb2);(try clear hk);(try clear hi);have hcz12_0:=zc (.slice A1_0 l1_0.length c1_0) BK396 0 rfl;have hcz12_1:=zc (.slice A1_1 l1_1.length c1_1) BK396 1 rfl;have hfz12_0:=blk_frozen BK396.out 0;have hfz12_1:=blk_frozen BK396.out 1))
    go_meet
    case rel => exact ⟨_,(true),za,H',⟨by first|omega|exact Nat.le_refl _⟩,⟨zx BK395⟩,⟨zx BK396⟩,⟨zz HB⟩⟩
   ·
    rw [if_neg c8] at H
    have c8b0 : decide (3 < (l1_0.length : Int)) = false:=decide_eq_false c8
    have c8b1 : decide (3 < l1_0.length) = false:=decide_eq_false (by omega)
    clear c8
    (first|rw [c8b0]|(simp only [i64_w,i32_w];rw [c8b0])|skip)
    replace H:=Option.bind_eq_some_iff.mp H;obtain ⟨t398,A130,H⟩:=H;(try dsimp only at H);have A13:=zA A130;clear A130
    by_cases c14 : t398 = true
    ·
     subst c14
     rw [if_pos rfl] at H;replace H:=Option.bind_eq_some_iff.mp H;obtain ⟨t399,A150,H⟩:=H;(try dsimp only at H);have A15:=zA A150;clear A150
     have H':=zA H
     clear H;have hnb16:=NB395_396.out;have hnc16:=NB396_395.out;have hcz17_0:=zc (.slice A0_0 l0_0.length c0_0) BK395 0 rfl;have hfz17_0:=blk_frozen BK395.out 0
     go_wp2_with (first|((with_reducible refine gate_callee (f:=59) rfl ?_);refine goesL_ (some 8) rfl rfl Try.func59 (by kernel_rfl) rfl #[.agg #[.slice A0_0 l0_0.length c0_0]] rfl (by (try simp only [zCb,zMb,zNb]);first|done|rfl|(simp only [zLb,zDb];rfl)) ?_;(with_reducible refine (impl_IsSchema.calls k _ _ l0_0 true _ ?side1 ?side2 A6.out).mono ?_);(case side1 => exact zsd HR0_0 HB);(case side2 => exact HC0_0.out);rintro e w18 ⟨rfl,hb⟩;refine ⟨_,rfl,?_⟩;replace BK395:=zA (zQ (g:=gb395) (o:=.cells #[.slice A0_0 l0_0.length c0_0] 34 (0,0)) (zx BK395) hb);replace BK396:=zA (zQ (g:=gb396) (o:=.cells #[.slice A1_0 l1_0.length c1_0,.slice A1_1 l1_1.length c1_1] 61 (0,0)) (zx BK396) hb);replace HB:=zA (zJb (zz HB) hb);(try clear hb);(try clear hb2);(try clear hk);(try clear hi);have hcz19_0:=zc (.slice A1_0 l1_0.length c1_0) BK396 0 rfl;have hcz19_1:=zc (.slice A1_1 l1_1.length c1_1) BK396 1 rfl;have hfz19_0:=blk_frozen BK396.out 0;have hfz19_1:=blk_frozen BK396.out 1)|(go_at_call 101;(with_reducible refine (impl_areTerms.calls k _ _ l1_0 true _ ?side1 ?side2 A13.out).mono ?_);(case side1 => exact zsd HR1_0 HB);(case side2 => exact HC1_0.out);rintro e w' ⟨rfl,⟨nd,rfl⟩⟩)|(go_at_call 92;(with_reducible refine (impl_within.calls (l1_1.length : Int) 1 4 t399 _ A15.out).mono ?_);rintro e w' ⟨rfl,⟨nd,rfl⟩⟩))
     go_meet
     case rel => exact ⟨_,(!t399),za,H',⟨by first|omega|exact Nat.le_refl _⟩,⟨zx BK395⟩,⟨zx BK396⟩,⟨zz HB⟩⟩
    ·
     replace c14:=Bool.eq_false_iff.mpr c14
     subst c14
     have H1 : (impl_IsQuery.j0 k true l0_0 l1_0 l1_1) = some r:=by rw [if_neg (show ¬ (false = true) by decide)] at H;exact H
     clear H;have H:=H1;clear H1
     have H':=zA H
     clear H;have hnb20:=NB395_396.out;have hnc20:=NB396_395.out;have hcz21_0:=zc (.slice A0_0 l0_0.length c0_0) BK395 0 rfl;have hfz21_0:=blk_frozen BK395.out 0
     go_wp2_with (first|((with_reducible refine gate_callee (f:=59) rfl ?_);refine goesL_ (some 8) rfl rfl Try.func59 (by kernel_rfl) rfl #[.agg #[.slice A0_0 l0_0.length c0_0]] rfl (by (try simp only [zCb,zMb,zNb]);first|done|rfl|(simp only [zLb,zDb];rfl)) ?_;(with_reducible refine (impl_IsSchema.calls k _ _ l0_0 true _ ?side1 ?side2 A6.out).mono ?_);(case side1 => exact zsd HR0_0 HB);(case side2 => exact HC0_0.out);rintro e w22 ⟨rfl,hb⟩;refine ⟨_,rfl,?_⟩;replace BK395:=zA (zQ (g:=gb395) (o:=.cells #[.slice A0_0 l0_0.length c0_0] 34 (0,0)) (zx BK395) hb);replace BK396:=zA (zQ (g:=gb396) (o:=.cells #[.slice A1_0 l1_0.length c1_0,.slice A1_1 l1_1.length c1_1] 61 (0,0)) (zx BK396) hb);replace HB:=zA (zJb (zz HB) hb);(try clear hb);(try clear hb2);(try clear hk);(try clear hi);have hcz23_0:=zc (.slice A1_0 l1_0.length c1_0) BK396 0 rfl;have hcz23_1:=zc (.slice A1_1 l1_1.length c1_1) BK396 1 rfl;have hfz23_0:=blk_frozen BK396.out 0;have hfz23_1:=blk_frozen BK396.out 1)|(go_at_call 101;(with_reducible refine (impl_areTerms.calls k _ _ l1_0 false _ ?side1 ?side2 A13.out).mono ?_);(case side1 => exact zsd HR1_0 HB);(case side2 => exact HC1_0.out);rintro e w' ⟨rfl,⟨nd,rfl⟩⟩))
     go_meet
     case rel => exact ⟨_,(true),za,H',⟨by first|omega|exact Nat.le_refl _⟩,⟨zx BK395⟩,⟨zx BK396⟩,⟨zz HB⟩⟩
  ·
   replace c7:=Bool.eq_false_iff.mpr c7
   subst c7
   have H1 : (impl_IsQuery.j0 k true l0_0 l1_0 l1_1) = some r:=by rw [if_neg (show ¬ (false = true) by decide)] at H;exact H
   clear H;have H:=H1;clear H1
   have H':=zA H
   clear H;have hnb24:=NB395_396.out;have hnc24:=NB396_395.out;have hcz25_0:=zc (.slice A0_0 l0_0.length c0_0) BK395 0 rfl;have hfz25_0:=blk_frozen BK395.out 0
   go_wp2_with (first|((with_reducible refine gate_callee (f:=59) rfl ?_);refine goesL_ (some 8) rfl rfl Try.func59 (by kernel_rfl) rfl #[.agg #[.slice A0_0 l0_0.length c0_0]] rfl (by (try simp only [zCb,zMb,zNb]);first|done|rfl|(simp only [zLb,zDb];rfl)) ?_;(with_reducible refine (impl_IsSchema.calls k _ _ l0_0 false _ ?side1 ?side2 A6.out).mono ?_);(case side1 => exact zsd HR0_0 HB);(case side2 => exact HC0_0.out);rintro e w26 ⟨rfl,hb⟩;refine ⟨_,rfl,?_⟩;replace BK395:=zA (zQ (g:=gb395) (o:=.cells #[.slice A0_0 l0_0.length c0_0] 34 (0,0)) (zx BK395) hb);replace BK396:=zA (zQ (g:=gb396) (o:=.cells #[.slice A1_0 l1_0.length c1_0,.slice A1_1 l1_1.length c1_1] 61 (0,0)) (zx BK396) hb);replace HB:=zA (zJb (zz HB) hb);(try clear hb);(try clear hb2);(try clear hk);(try clear hi)))
   go_meet
   case rel => exact ⟨_,(true),za,H',⟨by first|omega|exact Nat.le_refl _⟩,⟨zx BK395⟩,⟨zx BK396⟩,⟨zz HB⟩⟩
 case rest =>
  clear HC3;(try clear c1);(try clear c2);(try clear p2);(try clear c5);(try clear c7);(try clear c8);(try clear c8b0);(try clear c8b1);(try clear c9);(try clear c14);(try clear c16);(try clear c20);(try clear c24);(try clear hcz10_0);(try clear hcz12_0);(try clear hcz12_1);(try clear hcz17_0);(try clear hcz19_0);(try clear hcz19_1);(try clear hcz21_0);(try clear hcz23_0);(try clear hcz23_1);(try clear hcz25_0);(try clear hfz10_0);(try clear hfz12_0);(try clear hfz12_1);(try clear hfz17_0);(try clear hfz19_0);(try clear hfz19_1);(try clear hfz21_0);(try clear hfz23_0);(try clear hfz23_1);(try clear hfz25_0);obtain ⟨kq,x28_2,rfl,HA,HJ2,BK395,BK396,HB⟩:=hcut
  cases kq with
  | zero => exact absurd HA.out (by simp [impl_IsQuery.j0])
  | succ kj2 =>
   have H:=HA.out;clear HA;simp only [impl_IsQuery.j0] at H
   by_cases c27 : x28_2 = true
   ·
    subst c27
    rw [if_pos rfl] at H
    obtain rfl:=Option.some.inj H
    go_wp2
    go_ret
    exact ⟨by first|rfl|(simp [errW_none,errW_some] <;> rfl)|(simp [*,errW_none,errW_some] <;> rfl),zz HB⟩
   ·
    replace c27:=Bool.eq_false_iff.mpr c27
    subst c27
    have H1 : (impl_IsQuery.l0 kj2 l1_1 (l1_1.length : Int) 0 l0_0 l1_0 l1_1) = some r:=by rw [if_neg (show ¬ (false = true) by decide)] at H;exact H
    clear H;have H:=H1;clear H1
    have H':=zA H
    clear H;have hnb28:=NB396_395.out;have hnc28:=NB395_396.out;have hcz29_0:=zc (.slice A1_0 l1_0.length c1_0) BK396 0 rfl;have hcz29_1:=zc (.slice A1_1 l1_1.length c1_1) BK396 1 rfl;have hfz29_0:=blk_frozen BK396.out 0;have hfz29_1:=blk_frozen BK396.out 1
    go_wp2
    go_loopg [32] kj2 (fun kq v32 w' => ∃ (x32_2 : Int),v32 = .int .i64 x32_2 ∧ Aside0 (impl_IsQuery.l0 kq l1_1 (l1_1.length : Int) x32_2 l0_0 l1_0 l1_1 = some r) ∧ Aside0 (kq ≤ kj2) ∧ Aside0 (w'.heap[gb395]? = some (.cells #[(.slice A0_0 l0_0.length c0_0)] 34 (0,0))) ∧ Aside0 (w'.heap[gb396]? = some (.cells #[(.slice A1_0 l1_0.length c1_0),(.slice A1_1 l1_1.length c1_1)] 61 (0,0))) ∧ Aside0 (Below w.heap.size w w'))
    case atStart => exact ⟨(0),za,H',⟨Nat.le_refl _⟩,⟨zx BK395⟩,⟨zx BK396⟩,⟨zz HB⟩⟩
    case round =>
     clear H';(try clear c1);(try clear c2);(try clear p2);(try clear c5);(try clear c7);(try clear c8);(try clear c8b0);(try clear c8b1);(try clear c9);(try clear c14);(try clear c16);(try clear c20);(try clear c24);(try clear c27);(try clear c28);(try clear hcz10_0);(try clear hcz12_0);(try clear hcz12_1);(try clear hcz17_0);(try clear hcz19_0);(try clear hcz19_1);(try clear hcz21_0);(try clear hcz23_0);(try clear hcz23_1);(try clear hcz25_0);(try clear hcz29_0);(try clear hcz29_1);(try clear hfz10_0);(try clear hfz12_0);(try clear hfz12_1);(try clear hfz17_0);(try clear hfz19_0);(try clear hfz19_1);(try clear hfz21_0);(try clear hfz23_0);(try clear hfz23_1);(try clear hfz25_0);(try clear hfz29_0);(try clear hfz29_1);(try clear p2);obtain ⟨x32_2,rfl,HA,HK2,BK395,BK396,HB⟩:=hrel
     cases gk with
     | zero => exact absurd HA.out (by simp [impl_IsQuery.l0])
     | succ k2 =>
      have H:=HA.out;clear HA;simp only [impl_IsQuery.l0] at H
      by_cases c30 : x32_2 < (l1_1.length : Int)
      ·
       rw [if_pos c30] at H;have c30b0:=decide_eq_true c30;clear c30
       by_cases c31 : 0 ≤ x32_2
       ·
        rw [if_pos c31] at H;have c31b0:=decide_eq_true c31;clear c31
        by_cases c32 : x32_2 < (l1_1.length : Int)
        ·
         rw [if_pos c32] at H;have c32b0:=decide_eq_true c32;clear c32;replace H:=Option.bind_eq_some_iff.mp H;obtain ⟨t402,A330,H⟩:=H;(try dsimp only at H);have A33:=zA A330;clear A330
         by_cases c34 : t402 = true
         ·
          subst c34
          rw [if_pos rfl] at H
          have H':=zA H
          clear H;have p400 : 0 ≤ (x32_2 : Int):=zXb ze;have q400 : x32_2 < (l1_1.length : Int):=zXb ze;obtain ⟨ad400,A400_1,c400_1,e400,hx400_0,hx400_1,hl400_1,hi400_1⟩:=at_T115 HR1_1.out x32_2 p400 q400
          cases e400
          replace hx400_0:=(HB.out.cell (World.block_lt_of_cell? w _ hx400_0)).trans hx400_0;replace hx400_1:=(HB.out.cell (World.block_lt_of_cell? w _ hx400_1)).trans hx400_1;have HR400_1:=zA hi400_1;have HC400_1:=zA hl400_1;clear hi400_1 hl400_1;replace p400:=eq_true p400;replace q400:=eq_true q400
          go_wp2_with (first|((with_reducible refine gate_dst (N:=6) rfl ?_);(try (refine gate_guard (by rfl) ?_;dsimp only));refine box_event ?hg (N:=6) ?hd (cs:=#[.int .i64 0,.slice none 0 0]) (t:=115) ?hr ?_;(case hd => rfl);(case hg => rfl);(case hr => first|(go_simp;done)|(go_simp;rfl));intro gb401 hg w35 hbox hb;have BK401:=zA (hbox);have GW401:=zA ((by rw [hg];exact (zT (zz HB)) : w.heap.size ≤ gb401));have GE401:=zA ((by rw [hg];exact (zT (zz HB)) : w.heap.size ≤ gb401));replace HB:=zA (zJb (zz HB) hb);have NB395_401:=zA ((by rw [hg];exact Nat.ne_of_lt (blk_lt (g:=gb395) (o:=.cells #[.slice A0_0 l0_0.length c0_0] 34 (0,0)) (zx BK395)) : gb395 ≠ gb401));have NB401_395:=zA ((by rw [hg];exact Nat.ne_of_gt (blk_lt (g:=gb395) (o:=.cells #[.slice A0_0 l0_0.length c0_0] 34 (0,0)) (zx BK395)) : gb401 ≠ gb395));replace BK395:=zA (zQ (g:=gb395) (o:=.cells #[.slice A0_0 l0_0.length c0_0] 34 (0,0)) (zx BK395) hb);have NB396_401:=zA ((by rw [hg];exact Nat.ne_of_lt (blk_lt (g:=gb396) (o:=.cells #[.slice A1_0 l1_0.length c1_0,.slice (some ad400) l1_1.length c1_1] 61 (0,0)) (zx BK396)) : gb396 ≠ gb401));have NB401_396:=zA ((by rw [hg];exact Nat.ne_of_gt (blk_lt (g:=gb396) (o:=.cells #[.slice A1_0 l1_0.length c1_0,.slice (some ad400) l1_1.length c1_1] 61 (0,0)) (zx BK396)) : gb401 ≠ gb396));replace BK396:=zA (zQ (g:=gb396) (o:=.cells #[.slice A1_0 l1_0.length c1_0,.slice (some ad400) l1_1.length c1_1] 61 (0,0)) (zx BK396) hb);clear hb hbox hg;have hnb36:=NB401_395.out;have hnc36:=NB395_401.out;have hnb37:=NB401_396.out;have hnc37:=NB396_401.out;have hcz38_0:=zc (.int .i64 0) BK401 0 rfl;have hcz38_1:=zc (.slice none 0 0) BK401 1 rfl;have hfz38_0:=blk_frozen BK401.out 0;have hfz38_1:=blk_frozen BK401.out 1;have hnb39:=NB395_396.out;have hnc39:=NB396_395.out;have hcz40_0:=zc (.slice A0_0 l0_0.length c0_0) BK395 0 rfl;have hfz40_0:=blk_frozen BK395.out 0)|((with_reducible refine gate_callee (f:=102) rfl ?_);refine goesL_ (some 38) rfl rfl Try.func102 (by kernel_rfl) rfl #[.agg #[.slice A0_0 l0_0.length c0_0],.agg #[.int .i64 ((rd_T115 l1_1 x32_2).f0),.slice A400_1 ((rd_T115 l1_1 x32_2).f1).length c400_1]] rfl (by (try simp only [zCb,zMb,zNb]);first|done|rfl|(simp only [zLb,zDb];rfl)) ?_;(with_reducible refine (impl_IsAtom.calls k2 _ _ l0_0 ((rd_T115 l1_1 x32_2).f0) _ _ ((rd_T115 l1_1 x32_2).f1) true _ ?side1 ?side2 ?side3 ?side4 A33.out).mono ?_);(case side1 => exact zKb HR0_0.out (zz HB));(case side2 => exact HC0_0.out);(case side3 => exact zKb HR400_1.out (zz HB));(case side4 => exact HC400_1.out);rintro e w41 ⟨rfl,hb⟩;refine ⟨_,rfl,?_⟩;replace BK395:=zA (zQ (g:=gb395) (o:=.cells #[.slice A0_0 l0_0.length c0_0] 34 (0,0)) (by (with_reducible repeat (first|refine zF ?_ _|refine zI ?_|refine zG ?_ _));refine zUb ?_ NB395_401.out _;(with_reducible repeat (first|refine zF ?_ _|refine zI ?_|refine zG ?_ _));refine zUb ?_ NB395_401.out _;(with_reducible repeat (first|refine zF ?_ _|refine zI ?_|refine zG ?_ _));exact BK395.out) hb);replace BK396:=zA (zQ (g:=gb396) (o:=.cells #[.slice A1_0 l1_0.length c1_0,.slice (some ad400) l1_1.length c1_1] 61 (0,0)) (by (with_reducible repeat (first|refine zF ?_ _|refine zI ?_|refine zG ?_ _));refine zUb ?_ NB396_401.out _;(with_reducible repeat (first|refine zF ?_ _|refine zI ?_|refine zG ?_ _));refine zUb ?_ NB396_401.out _;(with_reducible repeat (first|refine zF ?_ _|refine zI ?_|refine zG ?_ _));exact BK396.out) hb);replace BK401:=zA (zQ (g:=gb401) (o:=.cells #[.int .i64 ((rd_T115 l1_1 x32_2).f0),.slice A400_1 ((rd_T115 l1_1 x32_2).f1).length c400_1] 115 (0,0)) (by (with_reducible repeat (first|refine zF ?_ _|refine zI ?_|refine zG ?_ _));refine blk_put (cs:=#[.int .i64 ((rd_T115 l1_1 x32_2).f0),.slice none 0 0]) ?_ 1 _ rfl;(with_reducible repeat (first|refine zF ?_ _|refine zI ?_|refine zG ?_ _));refine blk_put (cs:=#[.int .i64 0,.slice none 0 0]) ?_ 0 _ rfl;(with_reducible repeat (first|refine zF ?_ _|refine zI ?_|refine zG ?_ _));exact BK401.out) hb);replace HB:=zA (zJb (zz HB) hb);(try clear hb);(try clear hb2);(try clear hk);(try clear hi)))
          go_roundg k2
          case measure => have:=HJ2.out;have:=HK2.out;omega
          case rel => exact ⟨(wrap64 (x32_2 + 1)),za,H',⟨by have:=HJ2.out;have:=HK2.out;omega⟩,⟨zx BK395⟩,⟨zx BK396⟩,⟨zz HB⟩⟩
         ·
          replace c34:=Bool.eq_false_iff.mpr c34
          subst c34
          have H1 : (some false) = some r:=by rw [if_neg (show ¬ (false = true) by decide)] at H;exact H
          clear H;have H:=H1;clear H1
          obtain rfl:=Option.some.inj H
          have p400 : 0 ≤ (x32_2 : Int):=zXb ze;have q400 : x32_2 < (l1_1.length : Int):=zXb ze;obtain ⟨ad400,A400_1,c400_1,e400,hx400_0,hx400_1,hl400_1,hi400_1⟩:=at_T115 HR1_1.out x32_2 p400 q400
          cases e400
          replace hx400_0:=(HB.out.cell (World.block_lt_of_cell? w _ hx400_0)).trans hx400_0;replace hx400_1:=(HB.out.cell (World.block_lt_of_cell? w _ hx400_1)).trans hx400_1;have HR400_1:=zA hi400_1;have HC400_1:=zA hl400_1;clear hi400_1 hl400_1;replace p400:=eq_true p400;replace q400:=eq_true q400
          go_wp2_with (first|((with_reducible refine gate_dst (N:=6) rfl ?_);(try (refine gate_guard (by rfl) ?_;dsimp only));refine box_event ?hg (N:=6) ?hd (cs:=#[.int .i64 0,.slice none 0 0]) (t:=115) ?hr ?_;(case hd => rfl);(case hg => rfl);(case hr => first|(go_simp;done)|(go_simp;rfl));intro gb401 hg w42 hbox hb;have BK401:=zA (hbox);have GW401:=zA ((by rw [hg];exact (zT (zz HB)) : w.heap.size ≤ gb401));have GE401:=zA ((by rw [hg];exact (zT (zz HB)) : w.heap.size ≤ gb401));replace HB:=zA (zJb (zz HB) hb);have NB395_401:=zA ((by rw [hg];exact Nat.ne_of_lt (blk_lt (g:=gb395) (o:=.cells #[.slice A0_0 l0_0.length c0_0] 34 (0,0)) (zx BK395)) : gb395 ≠ gb401));have NB401_395:=zA ((by rw [hg];exact Nat.ne_of_gt (blk_lt (g:=gb395) (o:=.cells #[.slice A0_0 l0_0.length c0_0] 34 (0,0)) (zx BK395)) : gb401 ≠ gb395));replace BK395:=zA (zQ (g:=gb395) (o:=.cells #[.slice A0_0 l0_0.length c0_0] 34 (0,0)) (zx BK395) hb);have NB396_401:=zA ((by rw [hg];exact Nat.ne_of_lt (blk_lt (g:=gb396) (o:=.cells #[.slice A1_0 l1_0.length c1_0,.slice (some ad400) l1_1.length c1_1] 61 (0,0)) (zx BK396)) : gb396 ≠ gb401));have NB401_396:=zA ((by rw [hg];exact Nat.ne_of_gt (blk_lt (g:=gb396) (o:=.cells #[.slice A1_0 l1_0.length c1_0,.slice (some ad400) l1_1.length c1_1] 61 (0,0)) (zx BK396)) : gb401 ≠ gb396));replace BK396:=zA (zQ (g:=gb396) (o:=.cells #[.slice A1_0 l1_0.length c1_0,.slice (some ad400) l1_1.length c1_1] 61 (0,0)) (zx BK396) hb);clear hb hbox hg;have hnb43:=NB401_395.out;have hnc43:=NB395_401.out;have hnb44:=NB401_396.out;have hnc44:=NB396_401.out;have hcz45_0:=zc (.int .i64 0) BK401 0 rfl;have hcz45_1:=zc (.slice none 0 0) BK401 1 rfl;have hfz45_0:=blk_frozen BK401.out 0;have hfz45_1:=blk_frozen BK401.out 1;have hnb46:=NB395_396.out;have hnc46:=NB396_395.out;have hcz47_0:=zc (.slice A0_0 l0_0.length c0_0) BK395 0 rfl;have hfz47_0:=blk_frozen BK395.out 0)|((with_reducible refine gate_callee (f:=102) rfl ?_);refine goesL_ (some 38) rfl rfl Try.func102 (by kernel_rfl) rfl #[.agg #[.slice A0_0 l0_0.length c0_0],.agg #[.int .i64 ((rd_T115 l1_1 x32_2).f0),.slice A400_1 ((rd_T115 l1_1 x32_2).f1).length c400_1]] rfl (by (try simp only [zCb,zMb,zNb]);first|done|rfl|(simp only [zLb,zDb];rfl)) ?_;(with_reducible refine (impl_IsAtom.calls k2 _ _ l0_0 ((rd_T115 l1_1 x32_2).f0) _ _ ((rd_T115 l1_1 x32_2).f1) false _ ?side1 ?side2 ?side3 ?side4 A33.out).mono ?_);(case side1 => exact zKb HR0_0.out (zz HB));(case side2 => exact HC0_0.out);(case side3 => exact zKb HR400_1.out (zz HB));(case side4 => exact HC400_1.out);rintro e w48 ⟨rfl,hb⟩;refine ⟨_,rfl,?_⟩;replace BK395:=zA (zQ (g:=gb395) (o:=.cells #[.slice A0_0 l0_0.length c0_0] 34 (0,0)) (by (with_reducible repeat (first|refine zF ?_ _|refine zI ?_|refine zG ?_ _));refine zUb ?_ NB395_401.out _;(with_reducible repeat (first|refine zF ?_ _|refine zI ?_|refine zG ?_ _));refine zUb ?_ NB395_401.out _;(with_reducible repeat (first|refine zF ?_ _|refine zI ?_|refine zG ?_ _));exact BK395.out) hb);replace BK396:=zA (zQ (g:=gb396) (o:=.cells #[.slice A1_0 l1_0.length c1_0,.slice (some ad400) l1_1.length c1_1] 61 (0,0)) (by (with_reducible repeat (first|refine zF ?_ _|refine zI ?_|refine zG ?_ _));refine zUb ?_ NB396_401.out _;(with_reducible repeat (first|refine zF ?_ _|refine zI ?_|refine zG ?_ _));refine zUb ?_ NB396_401.out _;(with_reducible repeat (first|refine zF ?_ _|refine zI ?_|refine zG ?_ _));exact BK396.out) hb);replace BK401:=zA (zQ (g:=gb401) (o:=.cells #[.int .i64 ((rd_T115 l1_1 x32_2).f0),.slice A400_1 ((rd_T115 l1_1 x32_2).f1).length c400_1] 115 (0,0)) (by (with_reducible repeat (first|refine zF ?_ _|refine zI ?_|refine zG ?_ _));refine blk_put (cs:=#[.int .i64 ((rd_T115 l1_1 x32_2).f0),.slice none 0 0]) ?_ 1 _ rfl;(with_reducible repeat (first|refine zF ?_ _|refine zI ?_|refine zG ?_ _));refine blk_put (cs:=#[.int .i64 0,.slice none 0 0]) ?_ 0 _ rfl;(with_reducible repeat (first|refine zF ?_ _|refine zI ?_|refine zG ?_ _));exact BK401.out) hb);replace HB:=zA (zJb (zz HB) hb);(try clear hb);(try clear hb2);(try clear hk);(try clear hi)))
          go_ret
          exact ⟨by first|rfl|(simp [errW_none,errW_some] <;> rfl)|(simp [*,errW_none,errW_some] <;> rfl),zz HB⟩
        ·
         rw [if_neg c32] at H
         exact absurd H (by simp)
       ·
        rw [if_neg c31] at H
        exact absurd H (by simp)
      ·
       rw [if_neg c30] at H;have c30b0:=decide_eq_false c30;clear c30;replace H:=Option.bind_eq_some_iff.mp H;obtain ⟨t403,A490,H⟩:=H;(try dsimp only at H);have A49:=zA A490;clear A490
       obtain rfl:=Option.some.inj H
       have hnb50:=NB396_395.out;have hnc50:=NB395_396.out;have hcz51_0:=zc (.slice A1_0 l1_0.length c1_0) BK396 0 rfl;have hcz51_1:=zc (.slice A1_1 l1_1.length c1_1) BK396 1 rfl;have hfz51_0:=blk_frozen BK396.out 0;have hfz51_1:=blk_frozen BK396.out 1
       go_wp2_with (first|((with_reducible refine gate_callee (f:=103) rfl ?_);refine goesL_ (some 42) rfl rfl Try.func103 (by kernel_rfl) rfl #[.agg #[.slice A1_0 l1_0.length c1_0,.slice A1_1 l1_1.length c1_1]] rfl (by (try simp only [zCb,zMb,zNb]);first|done|rfl|(simp only [zLb,zDb];rfl)) ?_;(with_reducible refine (impl_Query_isSafe.calls k2 _ _ l1_0 _ _ l1_1 t403 _ ?side1 ?side2 ?side3 ?side4 A49.out).mono ?_);(case side1 => exact zsd HR1_0 HB);(case side2 => exact HC1_0.out);(case side3 => exact zsd HR1_1 HB);(case side4 => exact HC1_1.out);rintro e w52 ⟨rfl,hb⟩;refine ⟨_,rfl,?_⟩;replace BK395:=zA (zQ (g:=gb395) (o:=.cells #[.slice A0_0 l0_0.length c0_0] 34 (0,0)) (zx BK395) hb);replace BK396:=zA (zQ (g:=gb396) (o:=.cells #[.slice A1_0 l1_0.length c1_0,.slice A1_1 l1_1.length c1_1] 61 (0,0)) (zx BK396) hb);replace HB:=zA (zJb (zz HB) hb);(try clear hb);(try clear hb2);(try clear hk);(try clear hi)))
       go_ret
       exact ⟨by first|rfl|(simp [errW_none,errW_some] <;> rfl)|(simp [*,errW_none,errW_some] <;> rfl),zz HB⟩

-- NOT PRINTED: function 75 (slices_SortFunc_int_int)

-- NOT PRINTED: function 147 (slices_CompactFunc_int_int)

-- NOT PRINTED: function 109 (impl_different)

/-! ### impl_ConstOf: function 158 -/
def impl_ConstOf.f (a0 : Int) : Option (Int) := (impl_IsTerm.f a0).bind fun t415 => (if t415 = true then ((impl_IsVar.f a0).bind fun t416 => (if t416 = true then (some (-1)) else (some (wrap64 ((-1) - a0))))) else (some (-1)))
set_option maxHeartbeats 8000000 in
set_option maxRecDepth 100000 in
theorem impl_ConstOf.calls (a0 : Int) (r : Int) (w : World) (h : impl_ConstOf.f a0 = some r) :
  Calls Try.prog 158 #[.int .i64 a0] w fun e w' => e = .returned (.int .i64 r) ∧ Drawn0 w w' := by
 have H : ((impl_IsTerm.f a0).bind fun t415 => (if t415 = true then ((impl_IsVar.f a0).bind fun t416 => (if t416 = true then (some (-1)) else (some (wrap64 ((-1) - a0))))) else (some (-1)))) = some r:=h
 clear h;replace H:=Option.bind_eq_some_iff.mp H;obtain ⟨t415,A20,H⟩:=H;(try dsimp only at H);have A2:=zA A20;clear A20
 by_cases c3 : t415 = true
 ·
  subst c3
  rw [if_pos rfl] at H;replace H:=Option.bind_eq_some_iff.mp H;obtain ⟨t416,A40,H⟩:=H;(try dsimp only at H);have A4:=zA A40;clear A40
  by_cases c5 : t416 = true
  ·
   subst c5
   rw [if_pos rfl] at H
   obtain rfl:=Option.some.inj H
   go_enter Try.func158,Try.ntmps158
   go_wp2_with (first|((with_reducible refine gate_callee (f:=133) rfl ?_);refine goesL_ (some 4) rfl rfl Try.func133 (by kernel_rfl) rfl #[.int .i64 a0] rfl (by (try simp only [zCb,zMb,zNb]);first|done|rfl|(simp only [zLb,zDb];rfl)) ?_;(with_reducible refine (impl_IsTerm.calls a0 true _ A2.out).mono ?_);rintro e w' ⟨rfl,⟨nd,rfl⟩⟩;refine ⟨_,rfl,?_⟩)|(go_at_call 134;(with_reducible refine (impl_IsVar.calls a0 true _ A4.out).mono ?_);rintro e w' ⟨rfl,⟨nd,rfl⟩⟩))
   go_ret
   exact ⟨by first|rfl|(simp;done)|(simp [*];done),by repeat (first|exact Drawn0.refl _|apply Drawn0.step)⟩
  ·
   replace c5:=Bool.eq_false_iff.mpr c5
   subst c5
   have H1 : (some (wrap64 ((-1) - a0))) = some r:=by rw [if_neg (show ¬ (false = true) by decide)] at H;exact H
   clear H;have H:=H1;clear H1
   obtain rfl:=Option.some.inj H
   go_enter Try.func158,Try.ntmps158
   go_wp2_with (first|((with_reducible refine gate_callee (f:=133) rfl ?_);refine goesL_ (some 4) rfl rfl Try.func133 (by kernel_rfl) rfl #[.int .i64 a0] rfl (by (try simp only [zCb,zMb,zNb]);first|done|rfl|(simp only [zLb,zDb];rfl)) ?_;(with_reducible refine (impl_IsTerm.calls a0 true _ A2.out).mono ?_);rintro e w' ⟨rfl,⟨nd,rfl⟩⟩;refine ⟨_,rfl,?_⟩)|(go_at_call 134;(with_reducible refine (impl_IsVar.calls a0 false _ A4.out).mono ?_);rintro e w' ⟨rfl,⟨nd,rfl⟩⟩))
   go_ret
   exact ⟨by first|rfl|(simp;done)|(simp [*];done),by repeat (first|exact Drawn0.refl _|apply Drawn0.step)⟩
 ·
  replace c3:=Bool.eq_false_iff.mpr c3
  subst c3
  have H1 : (some (-1)) = some r:=by rw [if_neg (show ¬ (false = true) by decide)] at H;exact H
  clear H;have H:=H1;clear H1
  obtain rfl:=Option.some.inj H
  go_enter Try.func158,Try.ntmps158
  go_wp2_with (first|((with_reducible refine gate_callee (f:=133) rfl ?_);refine goesL_ (some 4) rfl rfl Try.func133 (by kernel_rfl) rfl #[.int .i64 a0] rfl (by (try simp only [zCb,zMb,zNb]);first|done|rfl|(simp only [zLb,zDb];rfl)) ?_;(with_reducible refine (impl_IsTerm.calls a0 false _ A2.out).mono ?_);rintro e w' ⟨rfl,⟨nd,rfl⟩⟩;refine ⟨_,rfl,?_⟩))
  go_ret
  exact ⟨by first|rfl|(simp;done)|(simp [*];done),by repeat (first|exact Drawn0.refl _|apply Drawn0.step)⟩

-- NOT PRINTED: function 136 (impl_binding_valueOf)

-- NOT PRINTED: function 104 (impl_binding_match)

-- NOT PRINTED: function 73 (impl_visit)

-- NOT PRINTED: function 149 (impl_binding_tuple)

-- NOT PRINTED: function 110 (impl_heads)

-- NOT PRINTED: function 82 (impl_Answers)

-- NOT PRINTED: function 45 (impl_IsAnswer)

-- NOT PRINTED: function 6 (laws_FnExactIsAnswer)

end Go.Proofs.Ytfelabhakgcifaa.QFnExactIsAnswer
