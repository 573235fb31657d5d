/- Walks through the Go functions that FnExactBindings reaches: each call returns what the Lean function beside it says, within the bounds that the theorem names. -/
import Derived.Test.YtfelabhakgcifaaQFnExactBindingsx0
import Derived.Test.YtfelabhakgcifaaQFnExactBindingsx1
import Derived.Test.YtfelabhakgcifaaQFnExactBindingsx13
import Derived.Test.YtfelabhakgcifaaQFnExactBindingsx16
namespace Go.Proofs.Ytfelabhakgcifaa.QFnExactBindings
open Go.RowKit Go.Proofs.YtfelabhakgcifaaW.PrintWords Go.Proofs.YtfelabhakgcifaaW.PrintLast Go.Proofs.YtfelabhakgcifaaW.PrintMore
attribute [local go_sem] max2_int min2_int max_two min_two max_three min_three max_four min_four   -- for this text's walks alone
set_option linter.unusedVariables false
set_option linter.unusedSimpArgs false


/-! ### impl_IsQuery: function 72 -/
mutual
def impl_IsQuery.j0 : Nat → Bool → List Int → List Int → List (S115) → Option (Bool)
 | 0, _, _, _, _ => none
 | k + 1, x28, x356000, x357000, x357001 => if x28 = true then (some false) else (impl_IsQuery.l0 k x357001 (x357001.length : Int) 0 x356000 x357000 x357001)
def impl_IsQuery.l0 : Nat → List (S115) → Int → Int → List Int → List Int → List (S115) → Option (Bool)
 | 0, _, _, _, _, _, _ => none
 | k + 1, x30, x31, x32, x356000, x357000, x357001 => if x32 < x31 then (if 0 ≤ x32 then (if x32 < (x30.length : Int) then ((impl_IsAtom.f k x356000 ((rd_T115 x30 x32).f0) ((rd_T115 x30 x32).f1)).bind fun t362 => (if t362 = true then (impl_IsQuery.l0 k x30 x31 (wrap64 (x32 + 1)) x356000 x357000 x357001) else (some false))) else (none)) else (none)) else ((impl_Query_isSafe.f k x357000 x357001).bind fun t363 => (some t363))
end
def impl_IsQuery.f (k : Nat) (l0_0 : List Int) (l1_0 : List Int) (l1_1 : List (S115)) : Option (Bool) := (impl_IsSchema.f k l0_0).bind fun t357 => (if t357 = true then (if (l1_0.length : Int) > 3 then (impl_IsQuery.j0 k true l0_0 l1_0 l1_1) else ((impl_areTerms.f k l1_0).bind fun t358 => (if t358 = true then ((impl_within.f (l1_1.length : Int) 1 4).bind fun t359 => (impl_IsQuery.j0 k (!t359) l0_0 l1_0 l1_1)) else (impl_IsQuery.j0 k true l0_0 l1_0 l1_1)))) else (impl_IsQuery.j0 k true l0_0 l1_0 l1_1))
theorem impl_IsQuery.mono_l : ∀ k, (∀ y0 y1 y2 y3, LeO (impl_IsQuery.j0 k y0 y1 y2 y3) (impl_IsQuery.j0 (k + 1) y0 y1 y2 y3)) ∧ (∀ y0 y1 y2 y3 y4 y5, LeO (impl_IsQuery.l0 k y0 y1 y2 y3 y4 y5) (impl_IsQuery.l0 (k + 1) y0 y1 y2 y3 y4 y5))
 | 0 => ⟨fun _ _ _ _ r h => by simp [impl_IsQuery.j0] at h, fun _ _ _ _ _ _ r h => by simp [impl_IsQuery.l0] at h⟩
 | k + 1 => by
  obtain ⟨ih0,ih1⟩:=impl_IsQuery.mono_l k
  refine ⟨?_,?_⟩
  (intros;unfold impl_IsQuery.j0;rotate_left)
  (intros;unfold impl_IsQuery.l0;rotate_left)
  all_goals repeat' first
  | (with_reducible exact ih0 _ _ _ _)
  | (with_reducible exact ih1 _ _ _ _ _ _)
  | (with_reducible exact impl_IsAtom.mono _ _ _ _)
  | (with_reducible exact impl_IsSchema.mono _ _)
  | (with_reducible exact impl_Query_isSafe.mono _ _ _)
  | (with_reducible exact impl_areTerms.mono _ _)
  | (with_reducible exact LeO.refl _)
  | (with_reducible exact LeO.none _)
  | (with_reducible refine LeO.ite ?_ ?_)
  | (with_reducible refine LeO.bind ?_ (fun _ => ?_))
  | exact ih0 _ _ _ _
  | exact ih1 _ _ _ _ _ _
  | exact LeO.none _
  | refine LeO.ite ?_ ?_
  | refine LeO.bind ?_ (fun _ => ?_)
theorem impl_IsQuery.mono : ∀ a0 a1 a2 k, LeO (impl_IsQuery.f k a0 a1 a2) (impl_IsQuery.f (k + 1) a0 a1 a2) := by
 intro a0 a1 a2 k
 obtain ⟨ih0,ih1⟩:=impl_IsQuery.mono_l k
 unfold impl_IsQuery.f
 repeat' first
   | (with_reducible exact ih0 _ _ _ _)
   | (with_reducible exact ih1 _ _ _ _ _ _)
   | (with_reducible exact impl_IsAtom.mono _ _ _ _)
   | (with_reducible exact impl_IsSchema.mono _ _)
   | (with_reducible exact impl_Query_isSafe.mono _ _ _)
   | (with_reducible exact impl_areTerms.mono _ _)
   | (with_reducible exact LeO.refl _)
   | (with_reducible exact LeO.none _)
   | (with_reducible refine LeO.ite ?_ ?_)
   | (with_reducible refine LeO.bind ?_ (fun _ => ?_))
   | exact ih0 _ _ _ _
   | exact ih1 _ _ _ _ _ _
   | exact LeO.none _
   | refine LeO.ite ?_ ?_
   | refine LeO.bind ?_ (fun _ => ?_)
set_option maxHeartbeats 8000000 in
set_option maxRecDepth 100000 in
theorem impl_IsQuery.calls (k : Nat) (A0_0 : Option Addr) (c0_0 : Nat) (l0_0 : List Int) (A1_0 : Option Addr) (c1_0 : Nat) (l1_0 : List Int) (A1_1 : Option Addr) (c1_1 : Nat) (l1_1 : List (S115)) (r : Bool) (w : World) (hr0_0 : Kd.C (Kd.int .i64) w A0_0 l0_0.length l0_0) (hc0_0 : l0_0.length ≤ c0_0) (hr1_0 : Kd.C (Kd.int .i64) w A1_0 l1_0.length l1_0) (hc1_0 : l1_0.length ≤ c1_0) (hr1_1 : Kd.C k115 w A1_1 l1_1.length l1_1) (hc1_1 : l1_1.length ≤ c1_1) (h : impl_IsQuery.f k l0_0 l1_0 l1_1 = some r) :
  Calls Try.prog 72 #[.agg #[.slice A0_0 l0_0.length c0_0], .agg #[.slice A1_0 l1_0.length c1_0, .slice A1_1 l1_1.length c1_1]] w fun e w' => e = .returned (.bool r) ∧ Below w.heap.size w w' := by
 have hu34:=Try.underlying34;have hu61:=Try.underlying61;have hu115:=Try.underlying115;have HR0_0:=zA hr0_0;have HC0_0:=zA hc0_0;clear hr0_0 hc0_0;have HR1_0:=zA hr1_0;have HC1_0:=zA hc1_0;clear hr1_0 hc1_0;have HR1_1:=zA hr1_1;have HC1_1:=zA hc1_1;clear hr1_1 hc1_1;have HB:=zA (Below.refl w.heap.size w)
 have H : ((impl_IsSchema.f k l0_0).bind fun t357 => (if t357 = true then (if (l1_0.length : Int) > 3 then (impl_IsQuery.j0 k true l0_0 l1_0 l1_1) else ((impl_areTerms.f k l1_0).bind fun t358 => (if t358 = true then ((impl_within.f (l1_1.length : Int) 1 4).bind fun t359 => (impl_IsQuery.j0 k (!t359) l0_0 l1_0 l1_1)) else (impl_IsQuery.j0 k true l0_0 l1_0 l1_1)))) else (impl_IsQuery.j0 k true l0_0 l1_0 l1_1))) = some r:=h
 clear h;have HC3:=zA H;clear H
 go_enter Try.func72,Try.ntmps72
 go_upto_region 1 with (first|((with_reducible refine gate_dst (N:=2) rfl ?_);(try (refine gate_guard (by rfl) ?_;dsimp only));refine box_event ?hg (N:=2) ?hd (cs:=#[.slice A0_0 l0_0.length c0_0]) (t:=34) ?hr ?_;(case hd => rfl);(case hg => rfl);(case hr => first|(go_simp;done)|(go_simp;rfl));intro gb355 hg w4 hbox hb;have BK355:=zA (hbox);have GW355:=zA ((by rw [hg];exact (zT (zz HB)) : w.heap.size ≤ gb355));have GE355:=zA ((by rw [hg];exact (zT (zz HB)) : w.heap.size ≤ gb355));replace HB:=zA (zJb (zz HB) hb);clear hb hbox hg)|((with_reducible refine gate_dst (N:=3) rfl ?_);(try (refine gate_guard (by rfl) ?_;dsimp only));refine box_event ?hg (N:=3) ?hd (cs:=#[.slice A1_0 l1_0.length c1_0,.slice A1_1 l1_1.length c1_1]) (t:=61) ?hr ?_;(case hd => rfl);(case hg => rfl);(case hr => first|(go_simp;done)|(go_simp;rfl));intro gb356 hg w5 hbox hb;have BK356:=zA (hbox);have GW356:=zA ((by rw [hg];exact (zT (zz HB)) : w.heap.size ≤ gb356));have GE356:=zA ((by rw [hg];exact (zT (zz HB)) : w.heap.size ≤ gb356));replace HB:=zA (zJb (zz HB) hb);have NB355_356:=zA ((by rw [hg];exact Nat.ne_of_lt (blk_lt (g:=gb355) (o:=.cells #[.slice A0_0 l0_0.length c0_0] 34 (0,0)) (zx BK355)) : gb355 ≠ gb356));have NB356_355:=zA ((by rw [hg];exact Nat.ne_of_gt (blk_lt (g:=gb355) (o:=.cells #[.slice A0_0 l0_0.length c0_0] 34 (0,0)) (zx BK355)) : gb356 ≠ gb355));replace BK355:=zA (zQ (g:=gb355) (o:=.cells #[.slice A0_0 l0_0.length c0_0] 34 (0,0)) (zx BK355) hb);clear hb hbox hg))
 (try simp only [Act.put,zO,zEb,zFb])
 go_cut [28] (fun v28 wc => ∃ (kq : Nat) (x28_2 : Bool),v28 = .bool x28_2 ∧ Aside0 (impl_IsQuery.j0 kq x28_2 l0_0 l1_0 l1_1 = some r) ∧ Aside0 (kq ≤ k) ∧ Aside0 (wc.heap[gb355]? = some (.cells #[(.slice A0_0 l0_0.length c0_0)] 34 (0,0))) ∧ Aside0 (wc.heap[gb356]? = some (.cells #[(.slice A1_0 l1_0.length c1_0),(.slice A1_1 l1_1.length c1_1)] 61 (0,0))) ∧ Aside0 (Below w.heap.size w wc))
 case first =>
  have H:=HC3.out;clear HC3;replace H:=Option.bind_eq_some_iff.mp H;obtain ⟨t357,A60,H⟩:=H;(try dsimp only at H);have A6:=zA A60;clear A60
  by_cases c7 : t357 = true
  ·
   subst c7
   rw [if_pos rfl] at H
   by_cases c8 : (l1_0.length : Int) > 3
   ·
    rw [if_pos c8] at H
    have c8b0 : decide (3 < (l1_0.length : Int)) = true:=decide_eq_true c8
    have c8b1 : decide (3 < l1_0.length) = true:=decide_eq_true (by omega)
    clear c8
    (first|rw [c8b0]|(simp only [i64_w,i32_w];rw [c8b0])|skip)
    have H':=zA H
    clear H;have hnb9:=NB355_356.out;have hnc9:=NB356_355.out;have hcz10_0:=zc (.slice A0_0 l0_0.length c0_0) BK355 0 rfl;have hfz10_0:=blk_frozen BK355.out 0
    go_wp2_with (first|((with_reducible refine gate_callee (f:=59) rfl ?_);refine goesL_ (some 8) rfl rfl Try.func59 (by kernel_rfl) rfl #[.agg #[.slice A0_0 l0_0.length c0_0]] rfl (by (try simp only [zCb,zMb,zNb]);first|done|rfl|(simp only [zLb,zDb];rfl)) ?_;(with_reducible refine (impl_IsSchema.calls k _ _ l0_0 true _ ?side1 ?side2 A6.out).mono ?_);(case side1 => exact zsd HR0_0 HB);(case side2 => exact HC0_0.out);rintro e w11 ⟨rfl,hb⟩;refine ⟨_,rfl,?_⟩;replace BK355:=zA (zQ (g:=gb355) (o:=.cells #[.slice A0_0 l0_0.length c0_0] 34 (0,0)) (zx BK355) hb);replace BK356:=zA (zQ (g:=gb356) (o:=.cells #[.slice A1_0 l1_0.length c1_0,.slice A1_1 l1_1.length c1_1] 61 (0,0)) (zx BK356) hb);replace HB:=zA (zJb (zz HB) hb);(try clear hb);(try clear hb2);(try clear hk);(try clear hi);have hcz12_0:=zc (.slice A1_0 l1_0.length c1_0) BK356 0 rfl;have hcz12_1:=zc (.slice A1_1 l1_1.length c1_1) BK356 1 rfl;have hfz12_0:=blk_frozen BK356.out 0;have hfz12_1:=blk_frozen BK356.out 1))
    go_meet
    case rel => exact ⟨_,(true),za,H',⟨by first|omega|exact Nat.le_refl _⟩,⟨zx BK355⟩,⟨zx BK356⟩,⟨zz HB⟩⟩
   ·
    rw [if_neg c8] at H
    have c8b0 : decide (3 < (l1_0.length : Int)) = false:=decide_eq_false c8
    have c8b1 : decide (3 < l1_0.length) = false:=decide_eq_false (by omega)
    clear c8
    (first|rw [c8b0]|(simp only [i64_w,i32_w];rw [c8b0])|skip)
    replace H:=Option.bind_eq_some_iff.mp H;obtain ⟨t358,A130,H⟩:=H;(try dsimp only at H);have A13:=zA A130;clear A130
    by_cases c14 : t358 = true
    ·
     subst c14
     rw [if_pos rfl] at H;replace H:=Option.bind_eq_some_iff.mp H;obtain ⟨t359,A150,H⟩:=H;(try dsimp only at H);have A15:=zA A150;clear A150
     have H':=zA H
     clear H;have hnb16:=NB355_356.out;have hnc16:=NB356_355.out;have hcz17_0:=zc (.slice A0_0 l0_0.length c0_0) BK355 0 rfl;have hfz17_0:=blk_frozen BK355.out 0
     go_wp2_with (first|((with_reducible refine gate_callee (f:=59) rfl ?_);refine goesL_ (some 8) rfl rfl Try.func59 (by kernel_rfl) rfl #[.agg #[.slice A0_0 l0_0.length c0_0]] rfl (by (try simp only [zCb,zMb,zNb]);first|done|rfl|(simp only [zLb,zDb];rfl)) ?_;(with_reducible refine (impl_IsSchema.calls k _ _ l0_0 true _ ?side1 ?side2 A6.out).mono ?_);(case side1 => exact zsd HR0_0 HB);(case side2 => exact HC0_0.out);rintro e w18 ⟨rfl,hb⟩;refine ⟨_,rfl,?_⟩;replace BK355:=zA (zQ (g:=gb355) (o:=.cells #[.slice A0_0 l0_0.length c0_0] 34 (0,0)) (zx BK355) hb);replace BK356:=zA (zQ (g:=gb356) (o:=.cells #[.slice A1_0 l1_0.length c1_0,.slice A1_1 l1_1.length c1_1] 61 (0,0)) (zx BK356) hb);replace HB:=zA (zJb (zz HB) hb);(try clear hb);(try clear hb2);(try clear hk);(try clear hi);have hcz19_0:=zc (.slice A1_0 l1_0.length c1_0) BK356 0 rfl;have hcz19_1:=zc (.slice A1_1 l1_1.length c1_1) BK356 1 rfl;have hfz19_0:=blk_frozen BK356.out 0;have hfz19_1:=blk_frozen BK356.out 1)|(go_at_call 101;(with_reducible refine (impl_areTerms.calls k _ _ l1_0 true _ ?side1 ?side2 A13.out).mono ?_);(case side1 => exact zsd HR1_0 HB);(case side2 => exact HC1_0.out);rintro e w' ⟨rfl,⟨nd,rfl⟩⟩)|(go_at_call 92;(with_reducible refine (impl_within.calls (l1_1.length : Int) 1 4 t359 _ A15.out).mono ?_);rintro e w' ⟨rfl,⟨nd,rfl⟩⟩))
     go_meet
     case rel => exact ⟨_,(!t359),za,H',⟨by first|omega|exact Nat.le_refl _⟩,⟨zx BK355⟩,⟨zx BK356⟩,⟨zz HB⟩⟩
    ·
     replace c14:=Bool.eq_false_iff.mpr c14
     subst c14
     have H1 : (impl_IsQuery.j0 k true l0_0 l1_0 l1_1) = some r:=by rw [if_neg (show ¬ (false = true) by decide)] at H;exact H
     clear H;have H:=H1;clear H1
     have H':=zA H
     clear H;have hnb20:=NB355_356.out;have hnc20:=NB356_355.out;have hcz21_0:=zc (.slice A0_0 l0_0.length c0_0) BK355 0 rfl;have hfz21_0:=blk_frozen BK355.out 0
     go_wp2_with (first|((with_reducible refine gate_callee (f:=59) rfl ?_);refine goesL_ (some 8) rfl rfl Try.func59 (by kernel_rfl) rfl #[.agg #[.slice A0_0 l0_0.length c0_0]] rfl (by (try simp only [zCb,zMb,zNb]);first|done|rfl|(simp only [zLb,zDb];rfl)) ?_;(with_reducible refine (impl_IsSchema.calls k _ _ l0_0 true _ ?side1 ?side2 A6.out).mono ?_);(case side1 => exact zsd HR0_0 HB);(case side2 => exact HC0_0.out);rintro e w22 ⟨rfl,hb⟩;refine ⟨_,rfl,?_⟩;replace BK355:=zA (zQ (g:=gb355) (o:=.cells #[.slice A0_0 l0_0.length c0_0] 34 (0,0)) (zx BK355) hb);replace BK356:=zA (zQ (g:=gb356) (o:=.cells #[.slice A1_0 l1_0.length c1_0,.slice A1_1 l1_1.length c1_1] 61 (0,0)) (zx BK356) hb);replace HB:=zA (zJb (zz HB) hb);(try clear hb);(try clear hb2);(try clear hk);(try clear hi);have hcz23_0:=zc (.slice A1_0 l1_0.length c1_0) BK356 0 rfl;have hcz23_1:=zc (.slice A1_1 l1_1.length c1_1) BK356 1 rfl;have hfz23_0:=blk_frozen BK356.out 0;have hfz23_1:=blk_frozen BK356.out 1)|(go_at_call 101;(with_reducible refine (impl_areTerms.calls k _ _ l1_0 false _ ?side1 ?side2 A13.out).mono ?_);(case side1 => exact zsd HR1_0 HB);(case side2 => exact HC1_0.out);rintro e w' ⟨rfl,⟨nd,rfl⟩⟩))
     go_meet
     case rel => exact ⟨_,(true),za,H',⟨by first|omega|exact Nat.le_refl _⟩,⟨zx BK355⟩,⟨zx BK356⟩,⟨zz HB⟩⟩
  ·
   replace c7:=Bool.eq_false_iff.mpr c7
   subst c7
   have H1 : (impl_IsQuery.j0 k true l0_0 l1_0 l1_1) = some r:=by rw [if_neg (show ¬ (false = true) by decide)] at H;exact H
   clear H;have H:=H1;clear H1
   have H':=zA H
   clear H;have hnb24:=NB355_356.out;have hnc24:=NB356_355.out;have hcz25_0:=zc (.slice A0_0 l0_0.length c0_0) BK355 0 rfl;have hfz25_0:=blk_frozen BK355.out 0
   go_wp2_with (first|((with_reducible refine gate_callee (f:=59) rfl ?_);refine goesL_ (some 8) rfl rfl Try.func59 (by kernel_rfl) rfl #[.agg #[.slice A0_0 l0_0.length c0_0]] rfl (by (try simp only [zCb,zMb,zNb]);first|done|rfl|(simp only [zLb,zDb];rfl)) ?_;(with_reducible refine (impl_IsSchema.calls k _ _ l0_0 false _ ?side1 ?side2 A6.out).mono ?_);(case side1 => exact zsd HR0_0 HB);(case side2 => exact HC0_0.out);rintro e w26 ⟨rfl,hb⟩;refine ⟨_,rfl,?_⟩;replace BK355:=zA (zQ (g:=gb355) (o:=.cells #[.slice A0_0 l0_0.length c0_0] 34 (0,0)) (zx BK355) hb);replace BK356:=zA (zQ (g:=gb356) (o:=.cells #[.slice A1_0 l1_0.length c1_0,.slice A1_1 l1_1.length c1_1] 61 (0,0)) (zx BK356) hb);replace HB:=zA (zJb (zz HB) hb);(try clear hb);(try clear hb2);(try clear hk);(try clear hi)))
   go_meet
   case rel => exact ⟨_,(true),za,H',⟨by first|omega|exact Nat.le_refl _⟩,⟨zx BK355⟩,⟨zx BK356⟩,⟨zz HB⟩⟩
 case rest =>
  clear HC3;(try clear c1);(try clear c2);(try clear p2);(try clear c5);(try clear c7);(try clear c8);(try clear c8b0);(try clear c8b1);(try clear c9);(try clear c14);(try clear c16);(try clear c20);(try clear c24);(try clear hcz10_0);(try clear hcz12_0);(try clear hcz12_1);(try clear hcz17_0);(try clear hcz19_0);(try clear hcz19_1);(try clear hcz21_0);(try clear hcz23_0);(try clear hcz23_1);(try clear hcz25_0);(try clear hfz10_0);(try clear hfz12_0);(try clear hfz12_1);(try clear hfz17_0);(try clear hfz19_0);(try clear hfz19_1);(try clear hfz21_0);(try clear hfz23_0);(try clear hfz23_1);(try clear hfz25_0);obtain ⟨kq,x28_2,rfl,HA,HJ2,BK355,BK356,HB⟩:=hcut
  cases kq with
  | zero => exact absurd HA.out (by simp [impl_IsQuery.j0])
  | succ kj2 =>
   have H:=HA.out;clear HA;simp only [impl_IsQuery.j0] at H
   by_cases c27 : x28_2 = true
   ·
    subst c27
    rw [if_pos rfl] at H
    obtain rfl:=Option.some.inj H
    go_wp2
    go_ret
    exact ⟨by first|rfl|(simp [errW_none,errW_some] <;> rfl)|(simp [*,errW_none,errW_some] <;> rfl),zz HB⟩
   ·
    replace c27:=Bool.eq_false_iff.mpr c27
    subst c27
    have H1 : (impl_IsQuery.l0 kj2 l1_1 (l1_1.length : Int) 0 l0_0 l1_0 l1_1) = some r:=by rw [if_neg (show ¬ (false = true) by decide)] at H;exact H
    clear H;have H:=H1;clear H1
    have H':=zA H
    clear H;have hnb28:=NB356_355.out;have hnc28:=NB355_356.out;have hcz29_0:=zc (.slice A1_0 l1_0.length c1_0) BK356 0 rfl;have hcz29_1:=zc (.slice A1_1 l1_1.length c1_1) BK356 1 rfl;have hfz29_0:=blk_frozen BK356.out 0;have hfz29_1:=blk_frozen BK356.out 1
    go_wp2
    go_loopg [32] kj2 (fun kq v32 w' => ∃ (x32_2 : Int),v32 = .int .i64 x32_2 ∧ Aside0 (impl_IsQuery.l0 kq l1_1 (l1_1.length : Int) x32_2 l0_0 l1_0 l1_1 = some r) ∧ Aside0 (kq ≤ kj2) ∧ Aside0 (w'.heap[gb355]? = some (.cells #[(.slice A0_0 l0_0.length c0_0)] 34 (0,0))) ∧ Aside0 (w'.heap[gb356]? = some (.cells #[(.slice A1_0 l1_0.length c1_0),(.slice A1_1 l1_1.length c1_1)] 61 (0,0))) ∧ Aside0 (Below w.heap.size w w'))
    case atStart => exact ⟨(0),za,H',⟨Nat.le_refl _⟩,⟨zx BK355⟩,⟨zx BK356⟩,⟨zz HB⟩⟩
    case round =>
     clear H';(try clear c1);(try clear c2);(try clear p2);(try clear c5);(try clear c7);(try clear c8);(try clear c8b0);(try clear c8b1);(try clear c9);(try clear c14);(try clear c16);(try clear c20);(try clear c24);(try clear c27);(try clear c28);(try clear hcz10_0);(try clear hcz12_0);(try clear hcz12_1);(try clear hcz17_0);(try clear hcz19_0);(try clear hcz19_1);(try clear hcz21_0);(try clear hcz23_0);(try clear hcz23_1);(try clear hcz25_0);(try clear hcz29_0);(try clear hcz29_1);(try clear hfz10_0);(try clear hfz12_0);(try clear hfz12_1);(try clear hfz17_0);(try clear hfz19_0);(try clear hfz19_1);(try clear hfz21_0);(try clear hfz23_0);(try clear hfz23_1);(try clear hfz25_0);(try clear hfz29_0);(try clear hfz29_1);(try clear p2);obtain ⟨x32_2,rfl,HA,HK2,BK355,BK356,HB⟩:=hrel
     cases gk with
     | zero => exact absurd HA.out (by simp [impl_IsQuery.l0])
     | succ k2 =>
      have H:=HA.out;clear HA;simp only [impl_IsQuery.l0] at H
      by_cases c30 : x32_2 < (l1_1.length : Int)
      ·
       rw [if_pos c30] at H;have c30b0:=decide_eq_true c30;clear c30
       by_cases c31 : 0 ≤ x32_2
       ·
        rw [if_pos c31] at H;have c31b0:=decide_eq_true c31;clear c31
        by_cases c32 : x32_2 < (l1_1.length : Int)
        ·
         rw [if_pos c32] at H;have c32b0:=decide_eq_true c32;clear c32;replace H:=Option.bind_eq_some_iff.mp H;obtain ⟨t362,A330,H⟩:=H;(try dsimp only at H);have A33:=zA A330;clear A330
         by_cases c34 : t362 = true
         ·
          subst c34
          rw [if_pos rfl] at H
          have H':=zA H
          clear H;have p360 : 0 ≤ (x32_2 : Int):=zXb ze;have q360 : x32_2 < (l1_1.length : Int):=zXb ze;obtain ⟨ad360,A360_1,c360_1,e360,hx360_0,hx360_1,hl360_1,hi360_1⟩:=at_T115 HR1_1.out x32_2 p360 q360
          cases e360
          replace hx360_0:=(HB.out.cell (World.block_lt_of_cell? w _ hx360_0)).trans hx360_0;replace hx360_1:=(HB.out.cell (World.block_lt_of_cell? w _ hx360_1)).trans hx360_1;have HR360_1:=zA hi360_1;have HC360_1:=zA hl360_1;clear hi360_1 hl360_1;replace p360:=eq_true p360;replace q360:=eq_true q360
          go_wp2_with (first|((with_reducible refine gate_dst (N:=6) rfl ?_);(try (refine gate_guard (by rfl) ?_;dsimp only));refine box_event ?hg (N:=6) ?hd (cs:=#[.int .i64 0,.slice none 0 0]) (t:=115) ?hr ?_;(case hd => rfl);(case hg => rfl);(case hr => first|(go_simp;done)|(go_simp;rfl));intro gb361 hg w35 hbox hb;have BK361:=zA (hbox);have GW361:=zA ((by rw [hg];exact (zT (zz HB)) : w.heap.size ≤ gb361));have GE361:=zA ((by rw [hg];exact (zT (zz HB)) : w.heap.size ≤ gb361));replace HB:=zA (zJb (zz HB) hb);have NB355_361:=zA ((by rw [hg];exact Nat.ne_of_lt (blk_lt (g:=gb355) (o:=.cells #[.slice A0_0 l0_0.length c0_0] 34 (0,0)) (zx BK355)) : gb355 ≠ gb361));have NB361_355:=zA ((by rw [hg];exact Nat.ne_of_gt (blk_lt (g:=gb355) (o:=.cells #[.slice A0_0 l0_0.length c0_0] 34 (0,0)) (zx BK355)) : gb361 ≠ gb355));replace BK355:=zA (zQ (g:=gb355) (o:=.cells #[.slice A0_0 l0_0.length c0_0] 34 (0,0)) (zx BK355) hb);have NB356_361:=zA ((by rw [hg];exact Nat.ne_of_lt (blk_lt (g:=gb356) (o:=.cells #[.slice A1_0 l1_0.length c1_0,.slice (some ad360) l1_1.length c1_1] 61 (0,0)) (zx BK356)) : gb356 ≠ gb361));have NB361_356:=zA ((by rw [hg];exact Nat.ne_of_gt (blk_lt (g:=gb356) (o:=.cells #[.slice A1_0 l1_0.length c1_0,.slice (some ad360) l1_1.length c1_1] 61 (0,0)) (zx BK356)) : gb361 ≠ gb356));replace BK356:=zA (zQ (g:=gb356) (o:=.cells #[.slice A1_0 l1_0.length c1_0,.slice (some ad360) l1_1.length c1_1] 61 (0,0)) (zx BK356) hb);clear hb hbox hg;have hnb36:=NB361_355.out;have hnc36:=NB355_361.out;have hnb37:=NB361_356.out;have hnc37:=NB356_361.out;have hcz38_0:=zc (.int .i64 0) BK361 0 rfl;have hcz38_1:=zc (.slice none 0 0) BK361 1 rfl;have hfz38_0:=blk_frozen BK361.out 0;have hfz38_1:=blk_frozen BK361.out 1;have hnb39:=NB355_356.out;have hnc39:=NB356_355.out;have hcz40_0:=zc (.slice A0_0 l0_0.length c0_0) BK355 0 rfl;have hfz40_0:=blk_frozen BK355.out 0)|((with_reducible refine gate_callee (f:=102) rfl ?_);refine goesL_ (some 38) rfl rfl Try.func102 (by kernel_rfl) rfl #[.agg #[.slice A0_0 l0_0.length c0_0],.agg #[.int .i64 ((rd_T115 l1_1 x32_2).f0),.slice A360_1 ((rd_T115 l1_1 x32_2).f1).length c360_1]] rfl (by (try simp only [zCb,zMb,zNb]);first|done|rfl|(simp only [zLb,zDb];rfl)) ?_;(with_reducible refine (impl_IsAtom.calls k2 _ _ l0_0 ((rd_T115 l1_1 x32_2).f0) _ _ ((rd_T115 l1_1 x32_2).f1) true _ ?side1 ?side2 ?side3 ?side4 A33.out).mono ?_);(case side1 => exact zKb HR0_0.out (zz HB));(case side2 => exact HC0_0.out);(case side3 => exact zKb HR360_1.out (zz HB));(case side4 => exact HC360_1.out);rintro e w41 ⟨rfl,hb⟩;refine ⟨_,rfl,?_⟩;replace BK355:=zA (zQ (g:=gb355) (o:=.cells #[.slice A0_0 l0_0.length c0_0] 34 (0,0)) (by (with_reducible repeat (first|refine zF ?_ _|refine zI ?_|refine zG ?_ _));refine zUb ?_ NB355_361.out _;(with_reducible repeat (first|refine zF ?_ _|refine zI ?_|refine zG ?_ _));refine zUb ?_ NB355_361.out _;(with_reducible repeat (first|refine zF ?_ _|refine zI ?_|refine zG ?_ _));exact BK355.out) hb);replace BK356:=zA (zQ (g:=gb356) (o:=.cells #[.slice A1_0 l1_0.length c1_0,.slice (some ad360) l1_1.length c1_1] 61 (0,0)) (by (with_reducible repeat (first|refine zF ?_ _|refine zI ?_|refine zG ?_ _));refine zUb ?_ NB356_361.out _;(with_reducible repeat (first|refine zF ?_ _|refine zI ?_|refine zG ?_ _));refine zUb ?_ NB356_361.out _;(with_reducible repeat (first|refine zF ?_ _|refine zI ?_|refine zG ?_ _));exact BK356.out) hb);replace BK361:=zA (zQ (g:=gb361) (o:=.cells #[.int .i64 ((rd_T115 l1_1 x32_2).f0),.slice A360_1 ((rd_T115 l1_1 x32_2).f1).length c360_1] 115 (0,0)) (by (with_reducible repeat (first|refine zF ?_ _|refine zI ?_|refine zG ?_ _));refine blk_put (cs:=#[.int .i64 ((rd_T115 l1_1 x32_2).f0),.slice none 0 0]) ?_ 1 _ rfl;(with_reducible repeat (first|refine zF ?_ _|refine zI ?_|refine zG ?_ _));refine blk_put (cs:=#[.int .i64 0,.slice none 0 0]) ?_ 0 _ rfl;(with_reducible repeat (first|refine zF ?_ _|refine zI ?_|refine zG ?_ _));exact BK361.out) hb);replace HB:=zA (zJb (zz HB) hb);(try clear hb);(try clear hb2);(try clear hk);(try clear hi)))
          go_roundg k2
          case measure => have:=HJ2.out;have:=HK2.out;omega
          case rel => exact ⟨(wrap64 (x32_2 + 1)),za,H',⟨by have:=HJ2.out;have:=HK2.out;omega⟩,⟨zx BK355⟩,⟨zx BK356⟩,⟨zz HB⟩⟩
         ·
          replace c34:=Bool.eq_false_iff.mpr c34
          subst c34
          have H1 : (some false) = some r:=by rw [if_neg (show ¬ (false = true) by decide)] at H;exact H
          clear H;have H:=H1;clear H1
          obtain rfl:=Option.some.inj H
          have p360 : 0 ≤ (x32_2 : Int):=zXb ze;have q360 : x32_2 < (l1_1.length : Int):=zXb ze;obtain ⟨ad360,A360_1,c360_1,e360,hx360_0,hx360_1,hl360_1,hi360_1⟩:=at_T115 HR1_1.out x32_2 p360 q360
          cases e360
          replace hx360_0:=(HB.out.cell (World.block_lt_of_cell? w _ hx360_0)).trans hx360_0;replace hx360_1:=(HB.out.cell (World.block_lt_of_cell? w _ hx360_1)).trans hx360_1;have HR360_1:=zA hi360_1;have HC360_1:=zA hl360_1;clear hi360_1 hl360_1;replace p360:=eq_true p360;replace q360:=eq_true q360
          go_wp2_with (first|((with_reducible refine gate_dst (N:=6) rfl ?_);(try (refine gate_guard (by rfl) ?_;dsimp only));refine box_event ?hg (N:=6) ?hd (cs:=#[.int .i64 0,.slice none 0 0]) (t:=115) ?hr ?_;(case hd => rfl);(case hg => rfl);(case hr => first|(go_simp;done)|(go_simp;rfl));intro gb361 hg w42 hbox hb;have BK361:=zA (hbox);have GW361:=zA ((by rw [hg];exact (zT (zz HB)) : w.heap.size ≤ gb361));have GE361:=zA ((by rw [hg];exact (zT (zz HB)) : w.heap.size ≤ gb361));replace HB:=zA (zJb (zz HB) hb);have NB355_361:=zA ((by rw [hg];exact Nat.ne_of_lt (blk_lt (g:=gb355) (o:=.cells #[.slice A0_0 l0_0.length c0_0] 34 (0,0)) (zx BK355)) : gb355 ≠ gb361));have NB361_355:=zA ((by rw [hg];exact Nat.ne_of_gt (blk_lt (g:=gb355) (o:=.cells #[.slice A0_0 l0_0.length c0_0] 34 (0,0)) (zx BK355)) : gb361 ≠ gb355));replace BK355:=zA (zQ (g:=gb355) (o:=.cells #[.slice A0_0 l0_0.length c0_0] 34 (0,0)) (zx BK355) hb);have NB356_361:=zA ((by rw [hg];exact Nat.ne_of_lt (blk_lt (g:=gb356) (o:=.cells #[.slice A1_0 l1_0.length c1_0,.slice (some ad360) l1_1.length c1_1] 61 (0,0)) (zx BK356)) : gb356 ≠ gb361));have NB361_356:=zA ((by rw [hg];exact Nat.ne_of_gt (blk_lt (g:=gb356) (o:=.cells #[.slice A1_0 l1_0.length c1_0,.slice (some ad360) l1_1.length c1_1] 61 (0,0)) (zx BK356)) : gb361 ≠ gb356));replace BK356:=zA (zQ (g:=gb356) (o:=.cells #[.slice A1_0 l1_0.length c1_0,.slice (some ad360) l1_1.length c1_1] 61 (0,0)) (zx BK356) hb);clear hb hbox hg;have hnb43:=NB361_355.out;have hnc43:=NB355_361.out;have hnb44:=NB361_356.out;have hnc44:=NB356_361.out;have hcz45_0:=zc (.int .i64 0) BK361 0 rfl;have hcz45_1:=zc (.slice none 0 0) BK361 1 rfl;have hfz45_0:=blk_frozen BK361.out 0;have hfz45_1:=blk_frozen BK361.out 1;have hnb46:=NB355_356.out;have hnc46:=NB356_355.out;have hcz47_0:=zc (.slice A0_0 l0_0.length c0_0) BK355 0 rfl;have hfz47_0:=blk_frozen BK355.out 0)|((with_reducible refine gate_callee (f:=102) rfl ?_);refine goesL_ (some 38) rfl rfl Try.func102 (by kernel_rfl) rfl #[.agg #[.slice A0_0 l0_0.length c0_0],.agg #[.int .i64 ((rd_T115 l1_1 x32_2).f0),.slice A360_1 ((rd_T115 l1_1 x32_2).f1).length c360_1]] rfl (by (try simp only [zCb,zMb,zNb]);first|done|rfl|(simp only [zLb,zDb];rfl)) ?_;(with_reducible refine (impl_IsAtom.calls k2 _ _ l0_0 ((rd_T115 l1_1 x32_2).f0) _ _ ((rd_T115 l1_1 x32_2).f1) false _ ?side1 ?side2 ?side3 ?side4 A33.out).mono ?_);(case side1 => exact zKb HR0_0.out (zz HB));(case side2 => exact HC0_0.out);(case side3 => exact zKb HR360_1.out (zz HB));(case side4 => exact HC360_1.out);rintro e w48 ⟨rfl,hb⟩;refine ⟨_,rfl,?_⟩;replace BK355:=zA (zQ (g:=gb355) (o:=.cells #[.slice A0_0 l0_0.length c0_0] 34 (0,0)) (by (with_reducible repeat (first|refine zF ?_ _|refine zI ?_|refine zG ?_ _));refine zUb ?_ NB355_361.out _;(with_reducible repeat (first|refine zF ?_ _|refine zI ?_|refine zG ?_ _));refine zUb ?_ NB355_361.out _;(with_reducible repeat (first|refine zF ?_ _|refine zI ?_|refine zG ?_ _));exact BK355.out) hb);replace BK356:=zA (zQ (g:=gb356) (o:=.cells #[.slice A1_0 l1_0.length c1_0,.slice (some ad360) l1_1.length c1_1] 61 (0,0)) (by (with_reducible repeat (first|refine zF ?_ _|refine zI ?_|refine zG ?_ _));refine zUb ?_ NB356_361.out _;(with_reducible repeat (first|refine zF ?_ _|refine zI ?_|refine zG ?_ _));refine zUb ?_ NB356_361.out _;(with_reducible repeat (first|refine zF ?_ _|refine zI ?_|refine zG ?_ _));exact BK356.out) hb);replace BK361:=zA (zQ (g:=gb361) (o:=.cells #[.int .i64 ((rd_T115 l1_1 x32_2).f0),.slice A360_1 ((rd_T115 l1_1 x32_2).f1).length c360_1] 115 (0,0)) (by (with_reducible repeat (first|refine zF ?_ _|refine zI ?_|refine zG ?_ _));refine blk_put (cs:=#[.int .i64 ((rd_T115 l1_1 x32_2).f0),.slice none 0 0]) ?_ 1 _ rfl;(with_reducible repeat (first|refine zF ?_ _|refine zI ?_|refine zG ?_ _));refine blk_put (cs:=#[.int .i64 0,.slice none 0 0]) ?_ 0 _ rfl;(with_reducible repeat (first|refine zF ?_ _|refine zI ?_|refine zG ?_ _));exact BK361.out) hb);replace HB:=zA (zJb (zz HB) hb);(try clear hb);(try clear hb2);(try clear hk);(try clear hi)))
          go_ret
          exact ⟨by first|rfl|(simp [errW_none,errW_some] <;> rfl)|(simp [*,errW_none,errW_some] <;> rfl),zz HB⟩
        ·
         rw [if_neg c32] at H
         exact absurd H (by simp)
       ·
        rw [if_neg c31] at H
        exact absurd H (by simp)
      ·
       rw [if_neg c30] at H;have c30b0:=decide_eq_false c30;clear c30;replace H:=Option.bind_eq_some_iff.mp H;obtain ⟨t363,A490,H⟩:=H;(try dsimp only at H);have A49:=zA A490;clear A490
       obtain rfl:=Option.some.inj H
       have hnb50:=NB356_355.out;have hnc50:=NB355_356.out;have hcz51_0:=zc (.slice A1_0 l1_0.length c1_0) BK356 0 rfl;have hcz51_1:=zc (.slice A1_1 l1_1.length c1_1) BK356 1 rfl;have hfz51_0:=blk_frozen BK356.out 0;have hfz51_1:=blk_frozen BK356.out 1
       go_wp2_with (first|((with_reducible refine gate_callee (f:=103) rfl ?_);refine goesL_ (some 42) rfl rfl Try.func103 (by kernel_rfl) rfl #[.agg #[.slice A1_0 l1_0.length c1_0,.slice A1_1 l1_1.length c1_1]] rfl (by (try simp only [zCb,zMb,zNb]);first|done|rfl|(simp only [zLb,zDb];rfl)) ?_;(with_reducible refine (impl_Query_isSafe.calls k2 _ _ l1_0 _ _ l1_1 t363 _ ?side1 ?side2 ?side3 ?side4 A49.out).mono ?_);(case side1 => exact zsd HR1_0 HB);(case side2 => exact HC1_0.out);(case side3 => exact zsd HR1_1 HB);(case side4 => exact HC1_1.out);rintro e w52 ⟨rfl,hb⟩;refine ⟨_,rfl,?_⟩;replace BK355:=zA (zQ (g:=gb355) (o:=.cells #[.slice A0_0 l0_0.length c0_0] 34 (0,0)) (zx BK355) hb);replace BK356:=zA (zQ (g:=gb356) (o:=.cells #[.slice A1_0 l1_0.length c1_0,.slice A1_1 l1_1.length c1_1] 61 (0,0)) (zx BK356) hb);replace HB:=zA (zJb (zz HB) hb);(try clear hb);(try clear hb2);(try clear hk);(try clear hi)))
       go_ret
       exact ⟨by first|rfl|(simp [errW_none,errW_some] <;> rfl)|(simp [*,errW_none,errW_some] <;> rfl),zz HB⟩

/-! ### impl_ConstOf: function 158 -/
def impl_ConstOf.f (a0 : Int) : Option (Int) := (impl_IsTerm.f a0).bind fun t364 => (if t364 = true then ((impl_IsVar.f a0).bind fun t365 => (if t365 = true then (some (-1)) else (some (wrap64 ((-1) - a0))))) else (some (-1)))
set_option maxHeartbeats 8000000 in
set_option maxRecDepth 100000 in
theorem impl_ConstOf.calls (a0 : Int) (r : Int) (w : World) (h : impl_ConstOf.f a0 = some r) :
  Calls Try.prog 158 #[.int .i64 a0] w fun e w' => e = .returned (.int .i64 r) ∧ Drawn0 w w' := by
 have H : ((impl_IsTerm.f a0).bind fun t364 => (if t364 = true then ((impl_IsVar.f a0).bind fun t365 => (if t365 = true then (some (-1)) else (some (wrap64 ((-1) - a0))))) else (some (-1)))) = some r:=h
 clear h;replace H:=Option.bind_eq_some_iff.mp H;obtain ⟨t364,A20,H⟩:=H;(try dsimp only at H);have A2:=zA A20;clear A20
 by_cases c3 : t364 = true
 ·
  subst c3
  rw [if_pos rfl] at H;replace H:=Option.bind_eq_some_iff.mp H;obtain ⟨t365,A40,H⟩:=H;(try dsimp only at H);have A4:=zA A40;clear A40
  by_cases c5 : t365 = true
  ·
   subst c5
   rw [if_pos rfl] at H
   obtain rfl:=Option.some.inj H
   go_enter Try.func158,Try.ntmps158
   go_wp2_with (first|((with_reducible refine gate_callee (f:=133) rfl ?_);refine goesL_ (some 4) rfl rfl Try.func133 (by kernel_rfl) rfl #[.int .i64 a0] rfl (by (try simp only [zCb,zMb,zNb]);first|done|rfl|(simp only [zLb,zDb];rfl)) ?_;(with_reducible refine (impl_IsTerm.calls a0 true _ A2.out).mono ?_);rintro e w' ⟨rfl,⟨nd,rfl⟩⟩;refine ⟨_,rfl,?_⟩)|(go_at_call 134;(with_reducible refine (impl_IsVar.calls a0 true _ A4.out).mono ?_);rintro e w' ⟨rfl,⟨nd,rfl⟩⟩))
   go_ret
   exact ⟨by first|rfl|(simp;done)|(simp [*];done),by repeat (first|exact Drawn0.refl _|apply Drawn0.step)⟩
  ·
   replace c5:=Bool.eq_false_iff.mpr c5
   subst c5
   have H1 : (some (wrap64 ((-1) - a0))) = some r:=by rw [if_neg (show ¬ (false = true) by decide)] at H;exact H
   clear H;have H:=H1;clear H1
   obtain rfl:=Option.some.inj H
   go_enter Try.func158,Try.ntmps158
   go_wp2_with (first|((with_reducible refine gate_callee (f:=133) rfl ?_);refine goesL_ (some 4) rfl rfl Try.func133 (by kernel_rfl) rfl #[.int .i64 a0] rfl (by (try simp only [zCb,zMb,zNb]);first|done|rfl|(simp only [zLb,zDb];rfl)) ?_;(with_reducible refine (impl_IsTerm.calls a0 true _ A2.out).mono ?_);rintro e w' ⟨rfl,⟨nd,rfl⟩⟩;refine ⟨_,rfl,?_⟩)|(go_at_call 134;(with_reducible refine (impl_IsVar.calls a0 false _ A4.out).mono ?_);rintro e w' ⟨rfl,⟨nd,rfl⟩⟩))
   go_ret
   exact ⟨by first|rfl|(simp;done)|(simp [*];done),by repeat (first|exact Drawn0.refl _|apply Drawn0.step)⟩
 ·
  replace c3:=Bool.eq_false_iff.mpr c3
  subst c3
  have H1 : (some (-1)) = some r:=by rw [if_neg (show ¬ (false = true) by decide)] at H;exact H
  clear H;have H:=H1;clear H1
  obtain rfl:=Option.some.inj H
  go_enter Try.func158,Try.ntmps158
  go_wp2_with (first|((with_reducible refine gate_callee (f:=133) rfl ?_);refine goesL_ (some 4) rfl rfl Try.func133 (by kernel_rfl) rfl #[.int .i64 a0] rfl (by (try simp only [zCb,zMb,zNb]);first|done|rfl|(simp only [zLb,zDb];rfl)) ?_;(with_reducible refine (impl_IsTerm.calls a0 false _ A2.out).mono ?_);rintro e w' ⟨rfl,⟨nd,rfl⟩⟩;refine ⟨_,rfl,?_⟩))
  go_ret
  exact ⟨by first|rfl|(simp;done)|(simp [*];done),by repeat (first|exact Drawn0.refl _|apply Drawn0.step)⟩

-- NOT PRINTED: function 136 (impl_binding_valueOf)

-- NOT PRINTED: function 104 (impl_binding_match)

-- NOT PRINTED: function 73 (impl_visit)

-- NOT PRINTED: function 75 (slices_SortFunc_int_int)

-- NOT PRINTED: function 37 (impl_Bindings)

/-! ### laws_eqIntSS: function 38 -/
def laws_eqIntSS.l0 : Nat → List (List Int) → List (List Int) → Int → Option (Bool)
 | 0, _, _, _ => none
 | k + 1, x0, x1, x5 => if x5 < (x0.length : Int) then (if 0 ≤ x5 then (if x5 < (x1.length : Int) then ((laws_eqIntS.f k (rd_L1 x0 x5) (rd_L1 x1 x5)).bind fun t373 => (if t373 = true then (laws_eqIntSS.l0 k x0 x1 (wrap64 (x5 + 1))) else (some false))) else (none)) else (none)) else (some true)
def laws_eqIntSS.f (k : Nat) (l0 : List (List Int)) (l1 : List (List Int)) : Option (Bool) := if (l0.length : Int) = (l1.length : Int) then (laws_eqIntSS.l0 k l0 l1 0) else (some false)
theorem laws_eqIntSS.mono_l : ∀ k, (∀ y0 y1 y2, LeO (laws_eqIntSS.l0 k y0 y1 y2) (laws_eqIntSS.l0 (k + 1) y0 y1 y2))
 | 0 => fun _ _ _ r h => by simp [laws_eqIntSS.l0] at h
 | k + 1 => by
  have ih0:=laws_eqIntSS.mono_l k
  ·
   intro y0 y1 y2
   unfold laws_eqIntSS.l0
   repeat' first
   | (with_reducible exact ih0 _ _ _)
   | (with_reducible exact laws_eqIntS.mono _ _ _)
   | (with_reducible exact LeO.refl _)
   | (with_reducible exact LeO.none _)
   | (with_reducible refine LeO.ite ?_ ?_)
   | (with_reducible refine LeO.bind ?_ (fun _ => ?_))
   | exact ih0 _ _ _
   | exact LeO.none _
   | refine LeO.ite ?_ ?_
   | refine LeO.bind ?_ (fun _ => ?_)
theorem laws_eqIntSS.mono : ∀ a0 a1 k, LeO (laws_eqIntSS.f k a0 a1) (laws_eqIntSS.f (k + 1) a0 a1) := by
 intro a0 a1 k
 have ih0:=laws_eqIntSS.mono_l k
 unfold laws_eqIntSS.f
 repeat' first
   | (with_reducible exact ih0 _ _ _)
   | (with_reducible exact laws_eqIntS.mono _ _ _)
   | (with_reducible exact LeO.refl _)
   | (with_reducible exact LeO.none _)
   | (with_reducible refine LeO.ite ?_ ?_)
   | (with_reducible refine LeO.bind ?_ (fun _ => ?_))
   | exact ih0 _ _ _
   | exact LeO.none _
   | refine LeO.ite ?_ ?_
   | refine LeO.bind ?_ (fun _ => ?_)
set_option maxHeartbeats 8000000 in
set_option maxRecDepth 100000 in
theorem laws_eqIntSS.calls (k : Nat) (A0 : Option Addr) (c0 : Nat) (l0 : List (List Int)) (A1 : Option Addr) (c1 : Nat) (l1 : List (List Int)) (r : Bool) (w : World) (hr0 : Kd.C (Kd.slice 3 (Kd.int .i64)) w A0 l0.length l0) (hc0 : l0.length ≤ c0) (hr1 : Kd.C (Kd.slice 3 (Kd.int .i64)) w A1 l1.length l1) (hc1 : l1.length ≤ c1) (h : laws_eqIntSS.f k l0 l1 = some r) :
  Calls Try.prog 38 #[.slice A0 l0.length c0, .slice A1 l1.length c1] w fun e w' => e = .returned (.bool r) ∧ Drawn0 w w' := by
 have HR0:=zA hr0;have HC0:=zA hc0;clear hr0 hc0;have HR1:=zA hr1;have HC1:=zA hc1;clear hr1 hc1
 have H : (if (l0.length : Int) = (l1.length : Int) then (laws_eqIntSS.l0 k l0 l1 0) else (some false)) = some r:=h
 clear h
 by_cases c3 : (l0.length : Int) = (l1.length : Int)
 ·
  rw [if_pos c3] at H;have c3b0:=beq_iff_eq.mpr c3;have c3b1:=bne_eq_false_iff_eq.mpr c3
  have c3b2 : (l0.length == l1.length) = true:=by first|simpa using c3|(simp at c3 ⊢;omega)
  clear c3
  have H':=zA H
  clear H
  go_enter Try.func38,Try.ntmps38
  go_wp2
  repeat (go_quiet (fail);try go_wp2)
  go_loopg [5] k (fun kq v5 w' => ∃ (x5_1 : Int),v5 = .int .i64 x5_1 ∧ Aside0 (laws_eqIntSS.l0 kq l0 l1 x5_1 = some r) ∧ Aside0 (kq ≤ k) ∧ Drawn0 w w')
  case atStart => exact ⟨(0),za,H',⟨Nat.le_refl _⟩,by repeat (first|exact Drawn0.refl _|apply Drawn0.step)⟩
  case round =>
   clear H';(try clear c1);(try clear p2);(try clear c3);(try clear c3b0);(try clear c3b1);(try clear c3b2);obtain ⟨x5_1,rfl,HA,HK1,⟨m1,rfl⟩⟩:=hrel
   cases gk with
   | zero => exact absurd HA.out (by simp [laws_eqIntSS.l0])
   | succ k1 =>
    have H:=HA.out;clear HA;simp only [laws_eqIntSS.l0] at H
    by_cases c4 : x5_1 < (l0.length : Int)
    ·
     rw [if_pos c4] at H;have c4b0:=decide_eq_true c4;clear c4
     by_cases c5 : 0 ≤ x5_1
     ·
      rw [if_pos c5] at H;have c5b0:=decide_eq_true c5;clear c5
      by_cases c6 : x5_1 < (l1.length : Int)
      ·
       rw [if_pos c6] at H;have c6b0:=decide_eq_true c6;clear c6;replace H:=Option.bind_eq_some_iff.mp H;obtain ⟨t373,A70,H⟩:=H;(try dsimp only at H);have A7:=zA A70;clear A70
       by_cases c8 : t373 = true
       ·
        subst c8
        rw [if_pos rfl] at H
        have H':=zA H
        clear H;have p371 : 0 ≤ (x5_1 : Int):=zXb ze;have q371 : x5_1 < (l0.length : Int):=zXb ze;obtain ⟨ad371,A371_0,c371_0,e371,hx371_0,hl371_0,hi371_0⟩:=at_L1 HR0.out x5_1 p371 q371
        cases e371
        have HR371_0:=zA hi371_0;have HC371_0:=zA hl371_0;clear hi371_0 hl371_0;replace p371:=eq_true p371;replace q371:=eq_true q371;have p372 : 0 ≤ (x5_1 : Int):=zXb ze;have q372 : x5_1 < (l1.length : Int):=zXb ze;obtain ⟨ad372,A372_0,c372_0,e372,hx372_0,hl372_0,hi372_0⟩:=at_L1 HR1.out x5_1 p372 q372
        cases e372
        have HR372_0:=zA hi372_0;have HC372_0:=zA hl372_0;clear hi372_0 hl372_0;replace p372:=eq_true p372;replace q372:=eq_true q372
        go_wp2_with (first|(go_at_call 46;(with_reducible refine (laws_eqIntS.calls k1 _ _ (rd_L1 l0 x5_1) _ _ (rd_L1 l1 x5_1) true _ ?side1 ?side2 ?side3 ?side4 A7.out).mono ?_);(case side1 => repeat (first|exact HR371_0.out|(with_reducible refine zBb ?_ _)|(with_reducible refine zAb ?_ _)|(with_reducible refine zX ?_)));(case side2 => exact HC371_0.out);(case side3 => repeat (first|exact HR372_0.out|(with_reducible refine zBb ?_ _)|(with_reducible refine zAb ?_ _)|(with_reducible refine zX ?_)));(case side4 => exact HC372_0.out);rintro e w' ⟨rfl,⟨nd,rfl⟩⟩;(try first|exact ⟨rfl,_,World.drewN_drewN _ _ _⟩|exact ⟨rfl,_,Eq.trans (World.drewN_drewN _ _ _) (congrArg (World.drewN _) (Nat.add_assoc _ _ _))⟩)))
        repeat (go_quiet (first|(go_at_call 46;(with_reducible refine (laws_eqIntS.calls k1 _ _ (rd_L1 l0 x5_1) _ _ (rd_L1 l1 x5_1) true _ ?side1 ?side2 ?side3 ?side4 A7.out).mono ?_);(case side1 => repeat (first|exact HR371_0.out|(with_reducible refine zBb ?_ _)|(with_reducible refine zAb ?_ _)|(with_reducible refine zX ?_)));(case side2 => exact HC371_0.out);(case side3 => repeat (first|exact HR372_0.out|(with_reducible refine zBb ?_ _)|(with_reducible refine zAb ?_ _)|(with_reducible refine zX ?_)));(case side4 => exact HC372_0.out);rintro e w' ⟨rfl,⟨nd,rfl⟩⟩;(try first|exact ⟨rfl,_,World.drewN_drewN _ _ _⟩|exact ⟨rfl,_,Eq.trans (World.drewN_drewN _ _ _) (congrArg (World.drewN _) (Nat.add_assoc _ _ _))⟩)));try go_wp2_with (first|(go_at_call 46;(with_reducible refine (laws_eqIntS.calls k1 _ _ (rd_L1 l0 x5_1) _ _ (rd_L1 l1 x5_1) true _ ?side1 ?side2 ?side3 ?side4 A7.out).mono ?_);(case side1 => repeat (first|exact HR371_0.out|(with_reducible refine zBb ?_ _)|(with_reducible refine zAb ?_ _)|(with_reducible refine zX ?_)));(case side2 => exact HC371_0.out);(case side3 => repeat (first|exact HR372_0.out|(with_reducible refine zBb ?_ _)|(with_reducible refine zAb ?_ _)|(with_reducible refine zX ?_)));(case side4 => exact HC372_0.out);rintro e w' ⟨rfl,⟨nd,rfl⟩⟩;(try first|exact ⟨rfl,_,World.drewN_drewN _ _ _⟩|exact ⟨rfl,_,Eq.trans (World.drewN_drewN _ _ _) (congrArg (World.drewN _) (Nat.add_assoc _ _ _))⟩))))
        go_roundg k1
        case measure => have:=HK1.out;omega
        case rel => exact ⟨(wrap64 (x5_1 + 1)),za,H',⟨by have:=HK1.out;omega⟩,by repeat (first|exact Drawn0.refl _|apply Drawn0.step)⟩
       ·
        replace c8:=Bool.eq_false_iff.mpr c8
        subst c8
        have H1 : (some false) = some r:=by rw [if_neg (show ¬ (false = true) by decide)] at H;exact H
        clear H;have H:=H1;clear H1
        obtain rfl:=Option.some.inj H
        have p371 : 0 ≤ (x5_1 : Int):=zXb ze;have q371 : x5_1 < (l0.length : Int):=zXb ze;obtain ⟨ad371,A371_0,c371_0,e371,hx371_0,hl371_0,hi371_0⟩:=at_L1 HR0.out x5_1 p371 q371
        cases e371
        have HR371_0:=zA hi371_0;have HC371_0:=zA hl371_0;clear hi371_0 hl371_0;replace p371:=eq_true p371;replace q371:=eq_true q371;have p372 : 0 ≤ (x5_1 : Int):=zXb ze;have q372 : x5_1 < (l1.length : Int):=zXb ze;obtain ⟨ad372,A372_0,c372_0,e372,hx372_0,hl372_0,hi372_0⟩:=at_L1 HR1.out x5_1 p372 q372
        cases e372
        have HR372_0:=zA hi372_0;have HC372_0:=zA hl372_0;clear hi372_0 hl372_0;replace p372:=eq_true p372;replace q372:=eq_true q372
        go_wp2_with (first|(go_at_call 46;(with_reducible refine (laws_eqIntS.calls k1 _ _ (rd_L1 l0 x5_1) _ _ (rd_L1 l1 x5_1) false _ ?side1 ?side2 ?side3 ?side4 A7.out).mono ?_);(case side1 => repeat (first|exact HR371_0.out|(with_reducible refine zBb ?_ _)|(with_reducible refine zAb ?_ _)|(with_reducible refine zX ?_)));(case side2 => exact HC371_0.out);(case side3 => repeat (first|exact HR372_0.out|(with_reducible refine zBb ?_ _)|(with_reducible refine zAb ?_ _)|(with_reducible refine zX ?_)));(case side4 => exact HC372_0.out);rintro e w' ⟨rfl,⟨nd,rfl⟩⟩;(try first|exact ⟨rfl,_,World.drewN_drewN _ _ _⟩|exact ⟨rfl,_,Eq.trans (World.drewN_drewN _ _ _) (congrArg (World.drewN _) (Nat.add_assoc _ _ _))⟩)))
        repeat (go_quiet (first|(go_at_call 46;(with_reducible refine (laws_eqIntS.calls k1 _ _ (rd_L1 l0 x5_1) _ _ (rd_L1 l1 x5_1) false _ ?side1 ?side2 ?side3 ?side4 A7.out).mono ?_);(case side1 => repeat (first|exact HR371_0.out|(with_reducible refine zBb ?_ _)|(with_reducible refine zAb ?_ _)|(with_reducible refine zX ?_)));(case side2 => exact HC371_0.out);(case side3 => repeat (first|exact HR372_0.out|(with_reducible refine zBb ?_ _)|(with_reducible refine zAb ?_ _)|(with_reducible refine zX ?_)));(case side4 => exact HC372_0.out);rintro e w' ⟨rfl,⟨nd,rfl⟩⟩;(try first|exact ⟨rfl,_,World.drewN_drewN _ _ _⟩|exact ⟨rfl,_,Eq.trans (World.drewN_drewN _ _ _) (congrArg (World.drewN _) (Nat.add_assoc _ _ _))⟩)));try go_wp2_with (first|(go_at_call 46;(with_reducible refine (laws_eqIntS.calls k1 _ _ (rd_L1 l0 x5_1) _ _ (rd_L1 l1 x5_1) false _ ?side1 ?side2 ?side3 ?side4 A7.out).mono ?_);(case side1 => repeat (first|exact HR371_0.out|(with_reducible refine zBb ?_ _)|(with_reducible refine zAb ?_ _)|(with_reducible refine zX ?_)));(case side2 => exact HC371_0.out);(case side3 => repeat (first|exact HR372_0.out|(with_reducible refine zBb ?_ _)|(with_reducible refine zAb ?_ _)|(with_reducible refine zX ?_)));(case side4 => exact HC372_0.out);rintro e w' ⟨rfl,⟨nd,rfl⟩⟩;(try first|exact ⟨rfl,_,World.drewN_drewN _ _ _⟩|exact ⟨rfl,_,Eq.trans (World.drewN_drewN _ _ _) (congrArg (World.drewN _) (Nat.add_assoc _ _ _))⟩))))
        go_ret
        exact ⟨by first|rfl|(simp;done)|(simp [*];done),by repeat (first|exact Drawn0.refl _|apply Drawn0.step)⟩
      ·
       rw [if_neg c6] at H
       exact absurd H (by simp)
     ·
      rw [if_neg c5] at H
      exact absurd H (by simp)
    ·
     rw [if_neg c4] at H;have c4b0:=decide_eq_false c4;clear c4
     obtain rfl:=Option.some.inj H
     go_wp2
     repeat (go_quiet (fail);try go_wp2)
     go_ret
     exact ⟨by first|rfl|(simp;done)|(simp [*];done),by repeat (first|exact Drawn0.refl _|apply Drawn0.step)⟩
 ·
  rw [if_neg c3] at H;have c3b0:=beq_eq_false_iff_ne.mpr c3;have c3b1:=bne_iff_ne.mpr c3
  have c3b2 : (l0.length == l1.length) = false:=by first|simpa using c3|(simp at c3 ⊢;omega)
  obtain rfl:=Option.some.inj H
  go_enter Try.func38,Try.ntmps38
  go_wp2
  repeat (go_quiet (fail);try go_wp2)
  go_ret
  exact ⟨by first|rfl|(simp;done)|(simp [*];done),by repeat (first|exact Drawn0.refl _|apply Drawn0.step)⟩

/-! ### laws_eqAtom: function 107 -/
def laws_eqAtom.f (k : Nat) (a0_0 : Int) (l0_1 : List Int) (a1_0 : Int) (l1_1 : List Int) : Option (Bool) := if a0_0 = a1_0 then ((laws_eqIntS.f k l0_1 l1_1).bind fun t376 => (if t376 = true then (some true) else (some false))) else (some false)
theorem laws_eqAtom.mono : ∀ a0 a1 a2 a3 k, LeO (laws_eqAtom.f k a0 a1 a2 a3) (laws_eqAtom.f (k + 1) a0 a1 a2 a3) := by
 intro a0 a1 a2 a3 k
 unfold laws_eqAtom.f
 repeat' first
   | (with_reducible exact laws_eqIntS.mono _ _ _)
   | (with_reducible exact LeO.refl _)
   | (with_reducible exact LeO.none _)
   | (with_reducible refine LeO.ite ?_ ?_)
   | (with_reducible refine LeO.bind ?_ (fun _ => ?_))
   | exact LeO.none _
   | refine LeO.ite ?_ ?_
   | refine LeO.bind ?_ (fun _ => ?_)
set_option maxHeartbeats 8000000 in
set_option maxRecDepth 100000 in
theorem laws_eqAtom.calls (k : Nat) (a0_0 : Int) (A0_1 : Option Addr) (c0_1 : Nat) (l0_1 : List Int) (a1_0 : Int) (A1_1 : Option Addr) (c1_1 : Nat) (l1_1 : List Int) (r : Bool) (w : World) (hr0_1 : Kd.C (Kd.int .i64) w A0_1 l0_1.length l0_1) (hc0_1 : l0_1.length ≤ c0_1) (hr1_1 : Kd.C (Kd.int .i64) w A1_1 l1_1.length l1_1) (hc1_1 : l1_1.length ≤ c1_1) (h : laws_eqAtom.f k a0_0 l0_1 a1_0 l1_1 = some r) :
  Calls Try.prog 107 #[.agg #[.int .i64 a0_0, .slice A0_1 l0_1.length c0_1], .agg #[.int .i64 a1_0, .slice A1_1 l1_1.length c1_1]] w fun e w' => e = .returned (.bool r) ∧ Below w.heap.size w w' := by
 have hu115:=Try.underlying115;have HR0_1:=zA hr0_1;have HC0_1:=zA hc0_1;clear hr0_1 hc0_1;have HR1_1:=zA hr1_1;have HC1_1:=zA hc1_1;clear hr1_1 hc1_1;have HB:=zA (Below.refl w.heap.size w)
 have H : (if a0_0 = a1_0 then ((laws_eqIntS.f k l0_1 l1_1).bind fun t376 => (if t376 = true then (some true) else (some false))) else (some false)) = some r:=h
 clear h
 by_cases c3 : a0_0 = a1_0
 ·
  rw [if_pos c3] at H;have c3b0:=beq_iff_eq.mpr c3;have c3b1:=bne_eq_false_iff_eq.mpr c3;clear c3;replace H:=Option.bind_eq_some_iff.mp H;obtain ⟨t376,A40,H⟩:=H;(try dsimp only at H);have A4:=zA A40;clear A40
  by_cases c5 : t376 = true
  ·
   subst c5
   rw [if_pos rfl] at H
   obtain rfl:=Option.some.inj H
   go_enter Try.func107,Try.ntmps107
   go_wp2_with (first|((with_reducible refine gate_dst (N:=2) rfl ?_);refine box_event ?hg (N:=2) ?hd (cs:=#[.int .i64 a0_0,.slice A0_1 l0_1.length c0_1]) (t:=115) ?hr ?_;(case hd => rfl);(case hg => rfl);(case hr => first|(go_simp;done)|(go_simp;rfl));intro gb374 hg w6 hbox hb;have BK374:=zA (hbox);have GW374:=zA ((by rw [hg];exact (zT (zz HB)) : w.heap.size ≤ gb374));have GE374:=zA ((by rw [hg];exact (zT (zz HB)) : w.heap.size ≤ gb374));replace HB:=zA (zJb (zz HB) hb);clear hb hbox hg)|((with_reducible refine gate_dst (N:=3) rfl ?_);refine box_event ?hg (N:=3) ?hd (cs:=#[.int .i64 a1_0,.slice A1_1 l1_1.length c1_1]) (t:=115) ?hr ?_;(case hd => rfl);(case hg => rfl);(case hr => first|(go_simp;done)|(go_simp;rfl));intro gb375 hg w7 hbox hb;have BK375:=zA (hbox);have GW375:=zA ((by rw [hg];exact (zT (zz HB)) : w.heap.size ≤ gb375));have GE375:=zA ((by rw [hg];exact (zT (zz HB)) : w.heap.size ≤ gb375));replace HB:=zA (zJb (zz HB) hb);have NB374_375:=zA ((by rw [hg];exact Nat.ne_of_lt (blk_lt (g:=gb374) (o:=.cells #[.int .i64 a0_0,.slice A0_1 l0_1.length c0_1] 115 (0,0)) (zx BK374)) : gb374 ≠ gb375));have NB375_374:=zA ((by rw [hg];exact Nat.ne_of_gt (blk_lt (g:=gb374) (o:=.cells #[.int .i64 a0_0,.slice A0_1 l0_1.length c0_1] 115 (0,0)) (zx BK374)) : gb375 ≠ gb374));replace BK374:=zA (zQ (g:=gb374) (o:=.cells #[.int .i64 a0_0,.slice A0_1 l0_1.length c0_1] 115 (0,0)) (zx BK374) hb);clear hb hbox hg;have hnb8:=NB374_375.out;have hnc8:=NB375_374.out;have hcz9_0:=zc (.int .i64 a0_0) BK374 0 rfl;have hcz9_1:=zc (.slice A0_1 l0_1.length c0_1) BK374 1 rfl;have hfz9_0:=blk_frozen BK374.out 0;have hfz9_1:=blk_frozen BK374.out 1;have hcz10_0:=zc (.int .i64 a1_0) BK375 0 rfl;have hcz10_1:=zc (.slice A1_1 l1_1.length c1_1) BK375 1 rfl;have hfz10_0:=blk_frozen BK375.out 0;have hfz10_1:=blk_frozen BK375.out 1)|((with_reducible refine gate_callee (f:=46) rfl ?_);refine goesL_ (some 14) rfl rfl Try.func46 (by kernel_rfl) rfl #[.slice A0_1 l0_1.length c0_1,.slice A1_1 l1_1.length c1_1] rfl (by (try simp only [zCb,zMb,zNb]);first|done|rfl|(simp only [zLb,zDb];rfl)) ?_;(with_reducible refine (laws_eqIntS.calls k _ _ l0_1 _ _ l1_1 true _ ?side1 ?side2 ?side3 ?side4 A4.out).mono ?_);(case side1 => exact zsd HR0_1 HB);(case side2 => exact HC0_1.out);(case side3 => exact zsd HR1_1 HB);(case side4 => exact HC1_1.out);rintro e w' ⟨rfl,⟨nd,rfl⟩⟩;refine ⟨_,rfl,?_⟩))
   go_ret
   exact ⟨by first|rfl|(simp [errW_none,errW_some] <;> rfl)|(simp [*,errW_none,errW_some] <;> rfl),zz HB⟩
  ·
   replace c5:=Bool.eq_false_iff.mpr c5
   subst c5
   have H1 : (some false) = some r:=by rw [if_neg (show ¬ (false = true) by decide)] at H;exact H
   clear H;have H:=H1;clear H1
   obtain rfl:=Option.some.inj H
   go_enter Try.func107,Try.ntmps107
   go_wp2_with (first|((with_reducible refine gate_dst (N:=2) rfl ?_);refine box_event ?hg (N:=2) ?hd (cs:=#[.int .i64 a0_0,.slice A0_1 l0_1.length c0_1]) (t:=115) ?hr ?_;(case hd => rfl);(case hg => rfl);(case hr => first|(go_simp;done)|(go_simp;rfl));intro gb374 hg w11 hbox hb;have BK374:=zA (hbox);have GW374:=zA ((by rw [hg];exact (zT (zz HB)) : w.heap.size ≤ gb374));have GE374:=zA ((by rw [hg];exact (zT (zz HB)) : w.heap.size ≤ gb374));replace HB:=zA (zJb (zz HB) hb);clear hb hbox hg)|((with_reducible refine gate_dst (N:=3) rfl ?_);refine box_event ?hg (N:=3) ?hd (cs:=#[.int .i64 a1_0,.slice A1_1 l1_1.length c1_1]) (t:=115) ?hr ?_;(case hd => rfl);(case hg => rfl);(case hr => first|(go_simp;done)|(go_simp;rfl));intro gb375 hg w12 hbox hb;have BK375:=zA (hbox);have GW375:=zA ((by rw [hg];exact (zT (zz HB)) : w.heap.size ≤ gb375));have GE375:=zA ((by rw [hg];exact (zT (zz HB)) : w.heap.size ≤ gb375));replace HB:=zA (zJb (zz HB) hb);have NB374_375:=zA ((by rw [hg];exact Nat.ne_of_lt (blk_lt (g:=gb374) (o:=.cells #[.int .i64 a0_0,.slice A0_1 l0_1.length c0_1] 115 (0,0)) (zx BK374)) : gb374 ≠ gb375));have NB375_374:=zA ((by rw [hg];exact Nat.ne_of_gt (blk_lt (g:=gb374) (o:=.cells #[.int .i64 a0_0,.slice A0_1 l0_1.length c0_1] 115 (0,0)) (zx BK374)) : gb375 ≠ gb374));replace BK374:=zA (zQ (g:=gb374) (o:=.cells #[.int .i64 a0_0,.slice A0_1 l0_1.length c0_1] 115 (0,0)) (zx BK374) hb);clear hb hbox hg;have hnb13:=NB374_375.out;have hnc13:=NB375_374.out;have hcz14_0:=zc (.int .i64 a0_0) BK374 0 rfl;have hcz14_1:=zc (.slice A0_1 l0_1.length c0_1) BK374 1 rfl;have hfz14_0:=blk_frozen BK374.out 0;have hfz14_1:=blk_frozen BK374.out 1;have hcz15_0:=zc (.int .i64 a1_0) BK375 0 rfl;have hcz15_1:=zc (.slice A1_1 l1_1.length c1_1) BK375 1 rfl;have hfz15_0:=blk_frozen BK375.out 0;have hfz15_1:=blk_frozen BK375.out 1)|((with_reducible refine gate_callee (f:=46) rfl ?_);refine goesL_ (some 14) rfl rfl Try.func46 (by kernel_rfl) rfl #[.slice A0_1 l0_1.length c0_1,.slice A1_1 l1_1.length c1_1] rfl (by (try simp only [zCb,zMb,zNb]);first|done|rfl|(simp only [zLb,zDb];rfl)) ?_;(with_reducible refine (laws_eqIntS.calls k _ _ l0_1 _ _ l1_1 false _ ?side1 ?side2 ?side3 ?side4 A4.out).mono ?_);(case side1 => exact zsd HR0_1 HB);(case side2 => exact HC0_1.out);(case side3 => exact zsd HR1_1 HB);(case side4 => exact HC1_1.out);rintro e w' ⟨rfl,⟨nd,rfl⟩⟩;refine ⟨_,rfl,?_⟩))
   go_ret
   exact ⟨by first|rfl|(simp [errW_none,errW_some] <;> rfl)|(simp [*,errW_none,errW_some] <;> rfl),zz HB⟩
 ·
  rw [if_neg c3] at H;have c3b0:=beq_eq_false_iff_ne.mpr c3;have c3b1:=bne_iff_ne.mpr c3
  obtain rfl:=Option.some.inj H
  go_enter Try.func107,Try.ntmps107
  go_wp2_with (first|((with_reducible refine gate_dst (N:=2) rfl ?_);refine box_event ?hg (N:=2) ?hd (cs:=#[.int .i64 a0_0,.slice A0_1 l0_1.length c0_1]) (t:=115) ?hr ?_;(case hd => rfl);(case hg => rfl);(case hr => first|(go_simp;done)|(go_simp;rfl));intro gb374 hg w16 hbox hb;have BK374:=zA (hbox);have GW374:=zA ((by rw [hg];exact (zT (zz HB)) : w.heap.size ≤ gb374));have GE374:=zA ((by rw [hg];exact (zT (zz HB)) : w.heap.size ≤ gb374));replace HB:=zA (zJb (zz HB) hb);clear hb hbox hg)|((with_reducible refine gate_dst (N:=3) rfl ?_);refine box_event ?hg (N:=3) ?hd (cs:=#[.int .i64 a1_0,.slice A1_1 l1_1.length c1_1]) (t:=115) ?hr ?_;(case hd => rfl);(case hg => rfl);(case hr => first|(go_simp;done)|(go_simp;rfl));intro gb375 hg w17 hbox hb;have BK375:=zA (hbox);have GW375:=zA ((by rw [hg];exact (zT (zz HB)) : w.heap.size ≤ gb375));have GE375:=zA ((by rw [hg];exact (zT (zz HB)) : w.heap.size ≤ gb375));replace HB:=zA (zJb (zz HB) hb);have NB374_375:=zA ((by rw [hg];exact Nat.ne_of_lt (blk_lt (g:=gb374) (o:=.cells #[.int .i64 a0_0,.slice A0_1 l0_1.length c0_1] 115 (0,0)) (zx BK374)) : gb374 ≠ gb375));have NB375_374:=zA ((by rw [hg];exact Nat.ne_of_gt (blk_lt (g:=gb374) (o:=.cells #[.int .i64 a0_0,.slice A0_1 l0_1.length c0_1] 115 (0,0)) (zx BK374)) : gb375 ≠ gb374));replace BK374:=zA (zQ (g:=gb374) (o:=.cells #[.int .i64 a0_0,.slice A0_1 l0_1.length c0_1] 115 (0,0)) (zx BK374) hb);clear hb hbox hg;have hnb18:=NB374_375.out;have hnc18:=NB375_374.out;have hcz19_0:=zc (.int .i64 a0_0) BK374 0 rfl;have hcz19_1:=zc (.slice A0_1 l0_1.length c0_1) BK374 1 rfl;have hfz19_0:=blk_frozen BK374.out 0;have hfz19_1:=blk_frozen BK374.out 1;have hcz20_0:=zc (.int .i64 a1_0) BK375 0 rfl;have hcz20_1:=zc (.slice A1_1 l1_1.length c1_1) BK375 1 rfl;have hfz20_0:=blk_frozen BK375.out 0;have hfz20_1:=blk_frozen BK375.out 1))
  go_ret
  exact ⟨by first|rfl|(simp [errW_none,errW_some] <;> rfl)|(simp [*,errW_none,errW_some] <;> rfl),zz HB⟩

end Go.Proofs.Ytfelabhakgcifaa.QFnExactBindings
