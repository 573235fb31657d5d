/- Walks through the Go functions that FnExactCountAnswers reaches: each call returns what the Lean function beside it says, within the bounds that the theorem names. -/
import Derived.Test.YtfelabhakgcifaaGreatQFnExactCountAnswersx0
import Derived.Test.YtfelabhakgcifaaGreatQFnExactCountAnswersx14
import Derived.Test.YtfelabhakgcifaaGreatQFnExactCountAnswersx15
namespace Go.Proofs.YtfelabhakgcifaaGreat.QFnExactCountAnswers
open Go.RowKit Go.Proofs.YtfelabhakgcifaaGreatW.PrintWords Go.Proofs.YtfelabhakgcifaaGreatW.PrintLast Go.Proofs.YtfelabhakgcifaaGreatW.PrintMore
attribute [local go_sem] max2_int min2_int max_two min_two max_three min_three max_four min_four   -- for this text's walks alone
set_option linter.unusedVariables false
set_option linter.unusedSimpArgs false


/-! ### impl_IsQuery: function 36 -/
mutual
def impl_IsQuery.j0 : Nat → Bool → List Int → List Int → List (S81) → Option (Bool)
 | 0, _, _, _, _ => none
 | k + 1, x28, x374000, x375000, x375001 => if x28 = true then (some false) else (impl_IsQuery.l0 k x375001 (x375001.length : Int) 0 x374000 x375000 x375001)
def impl_IsQuery.l0 : Nat → List (S81) → Int → Int → List Int → List Int → List (S81) → Option (Bool)
 | 0, _, _, _, _, _, _ => none
 | k + 1, x30, x31, x32, x374000, x375000, x375001 => if x32 < x31 then (if 0 ≤ x32 then (if x32 < (x30.length : Int) then ((impl_IsAtom.f k x374000 ((rd_T81 x30 x32).f0) ((rd_T81 x30 x32).f1)).bind fun t380 => (if t380 = true then (impl_IsQuery.l0 k x30 x31 (wrap64 (x32 + 1)) x374000 x375000 x375001) else (some false))) else (none)) else (none)) else ((impl_Query_isSafe.f k x375000 x375001).bind fun t381 => (some t381))
end
def impl_IsQuery.f (k : Nat) (l0_0 : List Int) (l1_0 : List Int) (l1_1 : List (S81)) : Option (Bool) := (impl_IsSchema.f k l0_0).bind fun t375 => (if t375 = true then (if (l1_0.length : Int) > 3 then (impl_IsQuery.j0 k true l0_0 l1_0 l1_1) else ((impl_areTerms.f k l1_0).bind fun t376 => (if t376 = true then ((impl_within.f (l1_1.length : Int) 1 4).bind fun t377 => (impl_IsQuery.j0 k (!t377) l0_0 l1_0 l1_1)) else (impl_IsQuery.j0 k true l0_0 l1_0 l1_1)))) else (impl_IsQuery.j0 k true l0_0 l1_0 l1_1))
set_option maxHeartbeats 8000000 in
set_option maxRecDepth 100000 in
theorem impl_IsQuery.calls (k : Nat) (A0_0 : Option Addr) (c0_0 : Nat) (l0_0 : List Int) (A1_0 : Option Addr) (c1_0 : Nat) (l1_0 : List Int) (A1_1 : Option Addr) (c1_1 : Nat) (l1_1 : List (S81)) (r : Bool) (w : World) (hr0_0 : Kd.C (Kd.int .i64) w A0_0 l0_0.length l0_0) (hc0_0 : l0_0.length ≤ c0_0) (hr1_0 : Kd.C (Kd.int .i64) w A1_0 l1_0.length l1_0) (hc1_0 : l1_0.length ≤ c1_0) (hr1_1 : Kd.C k81 w A1_1 l1_1.length l1_1) (hc1_1 : l1_1.length ≤ c1_1) (h : impl_IsQuery.f k l0_0 l1_0 l1_1 = some r) :
  Calls Tryz.prog 36 #[.agg #[.slice A0_0 l0_0.length c0_0], .agg #[.slice A1_0 l1_0.length c1_0, .slice A1_1 l1_1.length c1_1]] w fun e w' => e = .returned (.bool r) ∧ Below w.heap.size w w' := by
 have hu34:=Tryz.underlying34;have hu38:=Tryz.underlying38;have hu81:=Tryz.underlying81;have HR0_0:=zA hr0_0;have HC0_0:=zA hc0_0;clear hr0_0 hc0_0;have HR1_0:=zA hr1_0;have HC1_0:=zA hc1_0;clear hr1_0 hc1_0;have HR1_1:=zA hr1_1;have HC1_1:=zA hc1_1;clear hr1_1 hc1_1;have HB:=zA (Below.refl w.heap.size w)
 have H : ((impl_IsSchema.f k l0_0).bind fun t375 => (if t375 = true then (if (l1_0.length : Int) > 3 then (impl_IsQuery.j0 k true l0_0 l1_0 l1_1) else ((impl_areTerms.f k l1_0).bind fun t376 => (if t376 = true then ((impl_within.f (l1_1.length : Int) 1 4).bind fun t377 => (impl_IsQuery.j0 k (!t377) l0_0 l1_0 l1_1)) else (impl_IsQuery.j0 k true l0_0 l1_0 l1_1)))) else (impl_IsQuery.j0 k true l0_0 l1_0 l1_1))) = some r:=h
 clear h;have HC3:=zA H;clear H
 go_enter Tryz.func36,Tryz.ntmps36
 go_upto_region 1 with (first|((with_reducible refine gate_dst (N:=2) rfl ?_);(try (refine gate_guard (by rfl) ?_;dsimp only));refine box_event ?hg (N:=2) ?hd (cs:=#[.slice A0_0 l0_0.length c0_0]) (t:=34) ?hr ?_;(case hd => rfl);(case hg => rfl);(case hr => first|(go_simp;done)|(go_simp;rfl));intro gb373 hg w4 hbox hb;have BK373:=zA (hbox);have GW373:=zA ((by rw [hg];exact (zT (zz HB)) : w.heap.size ≤ gb373));have GE373:=zA ((by rw [hg];exact (zT (zz HB)) : w.heap.size ≤ gb373));replace HB:=zA (zJb (zz HB) hb);clear hb hbox hg)|((with_reducible refine gate_dst (N:=3) rfl ?_);(try (refine gate_guard (by rfl) ?_;dsimp only));refine box_event ?hg (N:=3) ?hd (cs:=#[.slice A1_0 l1_0.length c1_0,.slice A1_1 l1_1.length c1_1]) (t:=38) ?hr ?_;(case hd => rfl);(case hg => rfl);(case hr => first|(go_simp;done)|(go_simp;rfl));intro gb374 hg w5 hbox hb;have BK374:=zA (hbox);have GW374:=zA ((by rw [hg];exact (zT (zz HB)) : w.heap.size ≤ gb374));have GE374:=zA ((by rw [hg];exact (zT (zz HB)) : w.heap.size ≤ gb374));replace HB:=zA (zJb (zz HB) hb);have NB373_374:=zA ((by rw [hg];exact Nat.ne_of_lt (blk_lt (g:=gb373) (o:=.cells #[.slice A0_0 l0_0.length c0_0] 34 (0,0)) (zx BK373)) : gb373 ≠ gb374));have NB374_373:=zA ((by rw [hg];exact Nat.ne_of_gt (blk_lt (g:=gb373) (o:=.cells #[.slice A0_0 l0_0.length c0_0] 34 (0,0)) (zx BK373)) : gb374 ≠ gb373));replace BK373:=zA (zQ (g:=gb373) (o:=.cells #[.slice A0_0 l0_0.length c0_0] 34 (0,0)) (zx BK373) hb);clear hb hbox hg))
 (try simp only [Act.put,zO,zEb,zFb])
 go_cut [28] (fun v28 wc => ∃ (kq : Nat) (x28_2 : Bool),v28 = .bool x28_2 ∧ Aside0 (impl_IsQuery.j0 kq x28_2 l0_0 l1_0 l1_1 = some r) ∧ Aside0 (kq ≤ k) ∧ Aside0 (wc.heap[gb373]? = some (.cells #[(.slice A0_0 l0_0.length c0_0)] 34 (0,0))) ∧ Aside0 (wc.heap[gb374]? = some (.cells #[(.slice A1_0 l1_0.length c1_0),(.slice A1_1 l1_1.length c1_1)] 38 (0,0))) ∧ Aside0 (Below w.heap.size w wc))
 case first =>
  have H:=HC3.out;clear HC3;replace H:=Option.bind_eq_some_iff.mp H;obtain ⟨t375,A60,H⟩:=H;(try dsimp only at H);have A6:=zA A60;clear A60
  by_cases c7 : t375 = true
  ·
   subst c7
   rw [if_pos rfl] at H
   by_cases c8 : (l1_0.length : Int) > 3
   ·
    rw [if_pos c8] at H
    have c8b0 : decide (3 < (l1_0.length : Int)) = true:=decide_eq_true c8
    have c8b1 : decide (3 < l1_0.length) = true:=decide_eq_true (by omega)
    clear c8
    (first|rw [c8b0]|(simp only [i64_w,i32_w];rw [c8b0])|skip)
    have H':=zA H
    clear H;have hnb9:=NB373_374.out;have hnc9:=NB374_373.out;have hcz10_0:=zc (.slice A0_0 l0_0.length c0_0) BK373 0 rfl;have hfz10_0:=blk_frozen BK373.out 0
    go_wp2_with (first|((with_reducible refine gate_callee (f:=56) rfl ?_);refine goesL_ (some 8) rfl rfl Tryz.func56 (by kernel_rfl) rfl #[.agg #[.slice A0_0 l0_0.length c0_0]] rfl (by (try simp only [zCb,zMb,zNb]);first|done|rfl|(simp only [zLb,zDb];rfl)) ?_;(with_reducible refine (impl_IsSchema.calls k _ _ l0_0 true _ ?side1 ?side2 A6.out).mono ?_);(case side1 => exact zsd HR0_0 HB);(case side2 => exact HC0_0.out);rintro e w11 ⟨rfl,hb⟩;refine ⟨_,rfl,?_⟩;replace BK373:=zA (zQ (g:=gb373) (o:=.cells #[.slice A0_0 l0_0.length c0_0] 34 (0,0)) (zx BK373) hb);replace BK374:=zA (zQ (g:=gb374) (o:=.cells #[.slice A1_0 l1_0.length c1_0,.slice A1_1 l1_1.length c1_1] 38 (0,0)) (zx BK374) hb);replace HB:=zA (zJb (zz HB) hb);(try clear hb);(try clear hb2);(try clear hk);(try clear hi);have hcz12_0:=zc (.slice A1_0 l1_0.length c1_0) BK374 0 rfl;have hcz12_1:=zc (.slice A1_1 l1_1.length c1_1) BK374 1 rfl;have hfz12_0:=blk_frozen BK374.out 0;have hfz12_1:=blk_frozen BK374.out 1))
    go_meet
    case rel => exact ⟨_,(true),za,H',⟨by first|omega|exact Nat.le_refl _⟩,⟨zx BK373⟩,⟨zx BK374⟩,⟨zz HB⟩⟩
   ·
    rw [if_neg c8] at H
    have c8b0 : decide (3 < (l1_0.length : Int)) = false:=decide_eq_false c8
    have c8b1 : decide (3 < l1_0.length) = false:=decide_eq_false (by omega)
    clear c8
    (first|rw [c8b0]|(simp only [i64_w,i32_w];rw [c8b0])|skip)
    replace H:=Option.bind_eq_some_iff.mp H;obtain ⟨t376,A130,H⟩:=H;(try dsimp only at H);have A13:=zA A130;clear A130
    by_cases c14 : t376 = true
    ·
     subst c14
     rw [if_pos rfl] at H;replace H:=Option.bind_eq_some_iff.mp H;obtain ⟨t377,A150,H⟩:=H;(try dsimp only at H);have A15:=zA A150;clear A150
     have H':=zA H
     clear H;have hnb16:=NB373_374.out;have hnc16:=NB374_373.out;have hcz17_0:=zc (.slice A0_0 l0_0.length c0_0) BK373 0 rfl;have hfz17_0:=blk_frozen BK373.out 0
     go_wp2_with (first|((with_reducible refine gate_callee (f:=56) rfl ?_);refine goesL_ (some 8) rfl rfl Tryz.func56 (by kernel_rfl) rfl #[.agg #[.slice A0_0 l0_0.length c0_0]] rfl (by (try simp only [zCb,zMb,zNb]);first|done|rfl|(simp only [zLb,zDb];rfl)) ?_;(with_reducible refine (impl_IsSchema.calls k _ _ l0_0 true _ ?side1 ?side2 A6.out).mono ?_);(case side1 => exact zsd HR0_0 HB);(case side2 => exact HC0_0.out);rintro e w18 ⟨rfl,hb⟩;refine ⟨_,rfl,?_⟩;replace BK373:=zA (zQ (g:=gb373) (o:=.cells #[.slice A0_0 l0_0.length c0_0] 34 (0,0)) (zx BK373) hb);replace BK374:=zA (zQ (g:=gb374) (o:=.cells #[.slice A1_0 l1_0.length c1_0,.slice A1_1 l1_1.length c1_1] 38 (0,0)) (zx BK374) hb);replace HB:=zA (zJb (zz HB) hb);(try clear hb);(try clear hb2);(try clear hk);(try clear hi);have hcz19_0:=zc (.slice A1_0 l1_0.length c1_0) BK374 0 rfl;have hcz19_1:=zc (.slice A1_1 l1_1.length c1_1) BK374 1 rfl;have hfz19_0:=blk_frozen BK374.out 0;have hfz19_1:=blk_frozen BK374.out 1)|(go_at_call 57;(with_reducible refine (impl_areTerms.calls k _ _ l1_0 true _ ?side1 ?side2 A13.out).mono ?_);(case side1 => exact zsd HR1_0 HB);(case side2 => exact HC1_0.out);rintro e w' ⟨rfl,⟨nd,rfl⟩⟩)|(go_at_call 58;(with_reducible refine (impl_within.calls (l1_1.length : Int) 1 4 t377 _ A15.out).mono ?_);rintro e w' ⟨rfl,⟨nd,rfl⟩⟩))
     go_meet
     case rel => exact ⟨_,(!t377),za,H',⟨by first|omega|exact Nat.le_refl _⟩,⟨zx BK373⟩,⟨zx BK374⟩,⟨zz HB⟩⟩
    ·
     replace c14:=Bool.eq_false_iff.mpr c14
     subst c14
     have H1 : (impl_IsQuery.j0 k true l0_0 l1_0 l1_1) = some r:=by rw [if_neg (show ¬ (false = true) by decide)] at H;exact H
     clear H;have H:=H1;clear H1
     have H':=zA H
     clear H;have hnb20:=NB373_374.out;have hnc20:=NB374_373.out;have hcz21_0:=zc (.slice A0_0 l0_0.length c0_0) BK373 0 rfl;have hfz21_0:=blk_frozen BK373.out 0
     go_wp2_with (first|((with_reducible refine gate_callee (f:=56) rfl ?_);refine goesL_ (some 8) rfl rfl Tryz.func56 (by kernel_rfl) rfl #[.agg #[.slice A0_0 l0_0.length c0_0]] rfl (by (try simp only [zCb,zMb,zNb]);first|done|rfl|(simp only [zLb,zDb];rfl)) ?_;(with_reducible refine (impl_IsSchema.calls k _ _ l0_0 true _ ?side1 ?side2 A6.out).mono ?_);(case side1 => exact zsd HR0_0 HB);(case side2 => exact HC0_0.out);rintro e w22 ⟨rfl,hb⟩;refine ⟨_,rfl,?_⟩;replace BK373:=zA (zQ (g:=gb373) (o:=.cells #[.slice A0_0 l0_0.length c0_0] 34 (0,0)) (zx BK373) hb);replace BK374:=zA (zQ (g:=gb374) (o:=.cells #[.slice A1_0 l1_0.length c1_0,.slice A1_1 l1_1.length c1_1] 38 (0,0)) (zx BK374) hb);replace HB:=zA (zJb (zz HB) hb);(try clear hb);(try clear hb2);(try clear hk);(try clear hi);have hcz23_0:=zc (.slice A1_0 l1_0.length c1_0) BK374 0 rfl;have hcz23_1:=zc (.slice A1_1 l1_1.length c1_1) BK374 1 rfl;have hfz23_0:=blk_frozen BK374.out 0;have hfz23_1:=blk_frozen BK374.out 1)|(go_at_call 57;(with_reducible refine (impl_areTerms.calls k _ _ l1_0 false _ ?side1 ?side2 A13.out).mono ?_);(case side1 => exact zsd HR1_0 HB);(case side2 => exact HC1_0.out);rintro e w' ⟨rfl,⟨nd,rfl⟩⟩))
     go_meet
     case rel => exact ⟨_,(true),za,H',⟨by first|omega|exact Nat.le_refl _⟩,⟨zx BK373⟩,⟨zx BK374⟩,⟨zz HB⟩⟩
  ·
   replace c7:=Bool.eq_false_iff.mpr c7
   subst c7
   have H1 : (impl_IsQuery.j0 k true l0_0 l1_0 l1_1) = some r:=by rw [if_neg (show ¬ (false = true) by decide)] at H;exact H
   clear H;have H:=H1;clear H1
   have H':=zA H
   clear H;have hnb24:=NB373_374.out;have hnc24:=NB374_373.out;have hcz25_0:=zc (.slice A0_0 l0_0.length c0_0) BK373 0 rfl;have hfz25_0:=blk_frozen BK373.out 0
   go_wp2_with (first|((with_reducible refine gate_callee (f:=56) rfl ?_);refine goesL_ (some 8) rfl rfl Tryz.func56 (by kernel_rfl) rfl #[.agg #[.slice A0_0 l0_0.length c0_0]] rfl (by (try simp only [zCb,zMb,zNb]);first|done|rfl|(simp only [zLb,zDb];rfl)) ?_;(with_reducible refine (impl_IsSchema.calls k _ _ l0_0 false _ ?side1 ?side2 A6.out).mono ?_);(case side1 => exact zsd HR0_0 HB);(case side2 => exact HC0_0.out);rintro e w26 ⟨rfl,hb⟩;refine ⟨_,rfl,?_⟩;replace BK373:=zA (zQ (g:=gb373) (o:=.cells #[.slice A0_0 l0_0.length c0_0] 34 (0,0)) (zx BK373) hb);replace BK374:=zA (zQ (g:=gb374) (o:=.cells #[.slice A1_0 l1_0.length c1_0,.slice A1_1 l1_1.length c1_1] 38 (0,0)) (zx BK374) hb);replace HB:=zA (zJb (zz HB) hb);(try clear hb);(try clear hb2);(try clear hk);(try clear hi)))
   go_meet
   case rel => exact ⟨_,(true),za,H',⟨by first|omega|exact Nat.le_refl _⟩,⟨zx BK373⟩,⟨zx BK374⟩,⟨zz HB⟩⟩
 case rest =>
  clear HC3;(try clear c1);(try clear c2);(try clear p2);(try clear c3);(try clear c5);(try clear c7);(try clear c8);(try clear c8b0);(try clear c8b1);(try clear c9);(try clear c14);(try clear c16);(try clear c20);(try clear c24);(try clear hcz10_0);(try clear hcz12_0);(try clear hcz12_1);(try clear hcz17_0);(try clear hcz19_0);(try clear hcz19_1);(try clear hcz21_0);(try clear hcz23_0);(try clear hcz23_1);(try clear hcz25_0);(try clear hfz10_0);(try clear hfz12_0);(try clear hfz12_1);(try clear hfz17_0);(try clear hfz19_0);(try clear hfz19_1);(try clear hfz21_0);(try clear hfz23_0);(try clear hfz23_1);(try clear hfz25_0);obtain ⟨kq,x28_2,rfl,HA,HJ2,BK373,BK374,HB⟩:=hcut
  cases kq with
  | zero => exact absurd HA.out (by simp [impl_IsQuery.j0])
  | succ kj2 =>
   have H:=HA.out;clear HA;simp only [impl_IsQuery.j0] at H
   by_cases c27 : x28_2 = true
   ·
    subst c27
    rw [if_pos rfl] at H
    obtain rfl:=Option.some.inj H
    go_wp2
    go_ret
    exact ⟨by first|rfl|(simp [errW_none,errW_some] <;> rfl)|(simp [*,errW_none,errW_some] <;> rfl),zz HB⟩
   ·
    replace c27:=Bool.eq_false_iff.mpr c27
    subst c27
    have H1 : (impl_IsQuery.l0 kj2 l1_1 (l1_1.length : Int) 0 l0_0 l1_0 l1_1) = some r:=by rw [if_neg (show ¬ (false = true) by decide)] at H;exact H
    clear H;have H:=H1;clear H1
    have H':=zA H
    clear H;have hnb28:=NB374_373.out;have hnc28:=NB373_374.out;have hcz29_0:=zc (.slice A1_0 l1_0.length c1_0) BK374 0 rfl;have hcz29_1:=zc (.slice A1_1 l1_1.length c1_1) BK374 1 rfl;have hfz29_0:=blk_frozen BK374.out 0;have hfz29_1:=blk_frozen BK374.out 1
    go_wp2
    go_loopg [32] kj2 (fun kq v32 w' => ∃ (x32_2 : Int),v32 = .int .i64 x32_2 ∧ Aside0 (impl_IsQuery.l0 kq l1_1 (l1_1.length : Int) x32_2 l0_0 l1_0 l1_1 = some r) ∧ Aside0 (kq ≤ kj2) ∧ Aside0 (w'.heap[gb373]? = some (.cells #[(.slice A0_0 l0_0.length c0_0)] 34 (0,0))) ∧ Aside0 (w'.heap[gb374]? = some (.cells #[(.slice A1_0 l1_0.length c1_0),(.slice A1_1 l1_1.length c1_1)] 38 (0,0))) ∧ Aside0 (Below w.heap.size w w'))
    case atStart => exact ⟨(0),za,H',⟨Nat.le_refl _⟩,⟨zx BK373⟩,⟨zx BK374⟩,⟨zz HB⟩⟩
    case round =>
     clear H';(try clear c1);(try clear c2);(try clear p2);(try clear c3);(try clear c5);(try clear c7);(try clear c8);(try clear c8b0);(try clear c8b1);(try clear c9);(try clear c14);(try clear c16);(try clear c20);(try clear c24);(try clear c27);(try clear c28);(try clear hcz10_0);(try clear hcz12_0);(try clear hcz12_1);(try clear hcz17_0);(try clear hcz19_0);(try clear hcz19_1);(try clear hcz21_0);(try clear hcz23_0);(try clear hcz23_1);(try clear hcz25_0);(try clear hcz29_0);(try clear hcz29_1);(try clear hfz10_0);(try clear hfz12_0);(try clear hfz12_1);(try clear hfz17_0);(try clear hfz19_0);(try clear hfz19_1);(try clear hfz21_0);(try clear hfz23_0);(try clear hfz23_1);(try clear hfz25_0);(try clear hfz29_0);(try clear hfz29_1);(try clear p2);obtain ⟨x32_2,rfl,HA,HK2,BK373,BK374,HB⟩:=hrel
     cases gk with
     | zero => exact absurd HA.out (by simp [impl_IsQuery.l0])
     | succ k2 =>
      have H:=HA.out;clear HA;simp only [impl_IsQuery.l0] at H
      by_cases c30 : x32_2 < (l1_1.length : Int)
      ·
       rw [if_pos c30] at H;have c30b0:=decide_eq_true c30;clear c30
       by_cases c31 : 0 ≤ x32_2
       ·
        rw [if_pos c31] at H;have c31b0:=decide_eq_true c31;clear c31
        by_cases c32 : x32_2 < (l1_1.length : Int)
        ·
         rw [if_pos c32] at H;have c32b0:=decide_eq_true c32;clear c32;replace H:=Option.bind_eq_some_iff.mp H;obtain ⟨t380,A330,H⟩:=H;(try dsimp only at H);have A33:=zA A330;clear A330
         by_cases c34 : t380 = true
         ·
          subst c34
          rw [if_pos rfl] at H
          have H':=zA H
          clear H;have p378 : 0 ≤ (x32_2 : Int):=zXb ze;have q378 : x32_2 < (l1_1.length : Int):=zXb ze;obtain ⟨ad378,A378_1,c378_1,e378,hx378_0,hx378_1,hl378_1,hi378_1⟩:=at_T81 HR1_1.out x32_2 p378 q378
          cases e378
          replace hx378_0:=(HB.out.cell (World.block_lt_of_cell? w _ hx378_0)).trans hx378_0;replace hx378_1:=(HB.out.cell (World.block_lt_of_cell? w _ hx378_1)).trans hx378_1;have HR378_1:=zA hi378_1;have HC378_1:=zA hl378_1;clear hi378_1 hl378_1;replace p378:=eq_true p378;replace q378:=eq_true q378
          go_wp2_with (first|((with_reducible refine gate_dst (N:=6) rfl ?_);(try (refine gate_guard (by rfl) ?_;dsimp only));refine box_event ?hg (N:=6) ?hd (cs:=#[.int .i64 0,.slice none 0 0]) (t:=81) ?hr ?_;(case hd => rfl);(case hg => rfl);(case hr => first|(go_simp;done)|(go_simp;rfl));intro gb379 hg w35 hbox hb;have BK379:=zA (hbox);have GW379:=zA ((by rw [hg];exact (zT (zz HB)) : w.heap.size ≤ gb379));have GE379:=zA ((by rw [hg];exact (zT (zz HB)) : w.heap.size ≤ gb379));replace HB:=zA (zJb (zz HB) hb);have NB373_379:=zA ((by rw [hg];exact Nat.ne_of_lt (blk_lt (g:=gb373) (o:=.cells #[.slice A0_0 l0_0.length c0_0] 34 (0,0)) (zx BK373)) : gb373 ≠ gb379));have NB379_373:=zA ((by rw [hg];exact Nat.ne_of_gt (blk_lt (g:=gb373) (o:=.cells #[.slice A0_0 l0_0.length c0_0] 34 (0,0)) (zx BK373)) : gb379 ≠ gb373));replace BK373:=zA (zQ (g:=gb373) (o:=.cells #[.slice A0_0 l0_0.length c0_0] 34 (0,0)) (zx BK373) hb);have NB374_379:=zA ((by rw [hg];exact Nat.ne_of_lt (blk_lt (g:=gb374) (o:=.cells #[.slice A1_0 l1_0.length c1_0,.slice (some ad378) l1_1.length c1_1] 38 (0,0)) (zx BK374)) : gb374 ≠ gb379));have NB379_374:=zA ((by rw [hg];exact Nat.ne_of_gt (blk_lt (g:=gb374) (o:=.cells #[.slice A1_0 l1_0.length c1_0,.slice (some ad378) l1_1.length c1_1] 38 (0,0)) (zx BK374)) : gb379 ≠ gb374));replace BK374:=zA (zQ (g:=gb374) (o:=.cells #[.slice A1_0 l1_0.length c1_0,.slice (some ad378) l1_1.length c1_1] 38 (0,0)) (zx BK374) hb);clear hb hbox hg;have hnb36:=NB379_373.out;have hnc36:=NB373_379.out;have hnb37:=NB379_374.out;have hnc37:=NB374_379.out;have hcz38_0:=zc (.int .i64 0) BK379 0 rfl;have hcz38_1:=zc (.slice none 0 0) BK379 1 rfl;have hfz38_0:=blk_frozen BK379.out 0;have hfz38_1:=blk_frozen BK379.out 1;have hnb39:=NB373_374.out;have hnc39:=NB374_373.out;have hcz40_0:=zc (.slice A0_0 l0_0.length c0_0) BK373 0 rfl;have hfz40_0:=blk_frozen BK373.out 0)|((with_reducible refine gate_callee (f:=59) rfl ?_);refine goesL_ (some 38) rfl rfl Tryz.func59 (by kernel_rfl) rfl #[.agg #[.slice A0_0 l0_0.length c0_0],.agg #[.int .i64 ((rd_T81 l1_1 x32_2).f0),.slice A378_1 ((rd_T81 l1_1 x32_2).f1).length c378_1]] rfl (by (try simp only [zCb,zMb,zNb]);first|done|rfl|(simp only [zLb,zDb];rfl)) ?_;(with_reducible refine (impl_IsAtom.calls k2 _ _ l0_0 ((rd_T81 l1_1 x32_2).f0) _ _ ((rd_T81 l1_1 x32_2).f1) true _ ?side1 ?side2 ?side3 ?side4 A33.out).mono ?_);(case side1 => exact zKb HR0_0.out (zz HB));(case side2 => exact HC0_0.out);(case side3 => exact zKb HR378_1.out (zz HB));(case side4 => exact HC378_1.out);rintro e w41 ⟨rfl,hb⟩;refine ⟨_,rfl,?_⟩;replace BK373:=zA (zQ (g:=gb373) (o:=.cells #[.slice A0_0 l0_0.length c0_0] 34 (0,0)) (by (with_reducible repeat (first|refine zF ?_ _|refine zI ?_|refine zG ?_ _));refine zUb ?_ NB373_379.out _;(with_reducible repeat (first|refine zF ?_ _|refine zI ?_|refine zG ?_ _));refine zUb ?_ NB373_379.out _;(with_reducible repeat (first|refine zF ?_ _|refine zI ?_|refine zG ?_ _));exact BK373.out) hb);replace BK374:=zA (zQ (g:=gb374) (o:=.cells #[.slice A1_0 l1_0.length c1_0,.slice (some ad378) l1_1.length c1_1] 38 (0,0)) (by (with_reducible repeat (first|refine zF ?_ _|refine zI ?_|refine zG ?_ _));refine zUb ?_ NB374_379.out _;(with_reducible repeat (first|refine zF ?_ _|refine zI ?_|refine zG ?_ _));refine zUb ?_ NB374_379.out _;(with_reducible repeat (first|refine zF ?_ _|refine zI ?_|refine zG ?_ _));exact BK374.out) hb);replace BK379:=zA (zQ (g:=gb379) (o:=.cells #[.int .i64 ((rd_T81 l1_1 x32_2).f0),.slice A378_1 ((rd_T81 l1_1 x32_2).f1).length c378_1] 81 (0,0)) (by (with_reducible repeat (first|refine zF ?_ _|refine zI ?_|refine zG ?_ _));refine blk_put (cs:=#[.int .i64 ((rd_T81 l1_1 x32_2).f0),.slice none 0 0]) ?_ 1 _ rfl;(with_reducible repeat (first|refine zF ?_ _|refine zI ?_|refine zG ?_ _));refine blk_put (cs:=#[.int .i64 0,.slice none 0 0]) ?_ 0 _ rfl;(with_reducible repeat (first|refine zF ?_ _|refine zI ?_|refine zG ?_ _));exact BK379.out) hb);replace HB:=zA (zJb (zz HB) hb);(try clear hb);(try clear hb2);(try clear hk);(try clear hi)))
          go_roundg k2
          case measure => have:=HJ2.out;have:=HK2.out;omega
          case rel => exact ⟨(wrap64 (x32_2 + 1)),za,H',⟨by have:=HJ2.out;have:=HK2.out;omega⟩,⟨zx BK373⟩,⟨zx BK374⟩,⟨zz HB⟩⟩
         ·
          replace c34:=Bool.eq_false_iff.mpr c34
          subst c34
          have H1 : (some false) = some r:=by rw [if_neg (show ¬ (false = true) by decide)] at H;exact H
          clear H;have H:=H1;clear H1
          obtain rfl:=Option.some.inj H
          have p378 : 0 ≤ (x32_2 : Int):=zXb ze;have q378 : x32_2 < (l1_1.length : Int):=zXb ze;obtain ⟨ad378,A378_1,c378_1,e378,hx378_0,hx378_1,hl378_1,hi378_1⟩:=at_T81 HR1_1.out x32_2 p378 q378
          cases e378
          replace hx378_0:=(HB.out.cell (World.block_lt_of_cell? w _ hx378_0)).trans hx378_0;replace hx378_1:=(HB.out.cell (World.block_lt_of_cell? w _ hx378_1)).trans hx378_1;have HR378_1:=zA hi378_1;have HC378_1:=zA hl378_1;clear hi378_1 hl378_1;replace p378:=eq_true p378;replace q378:=eq_true q378
          go_wp2_with (first|((with_reducible refine gate_dst (N:=6) rfl ?_);(try (refine gate_guard (by rfl) ?_;dsimp only));refine box_event ?hg (N:=6) ?hd (cs:=#[.int .i64 0,.slice none 0 0]) (t:=81) ?hr ?_;(case hd => rfl);(case hg => rfl);(case hr => first|(go_simp;done)|(go_simp;rfl));intro gb379 hg w42 hbox hb;have BK379:=zA (hbox);have GW379:=zA ((by rw [hg];exact (zT (zz HB)) : w.heap.size ≤ gb379));have GE379:=zA ((by rw [hg];exact (zT (zz HB)) : w.heap.size ≤ gb379));replace HB:=zA (zJb (zz HB) hb);have NB373_379:=zA ((by rw [hg];exact Nat.ne_of_lt (blk_lt (g:=gb373) (o:=.cells #[.slice A0_0 l0_0.length c0_0] 34 (0,0)) (zx BK373)) : gb373 ≠ gb379));have NB379_373:=zA ((by rw [hg];exact Nat.ne_of_gt (blk_lt (g:=gb373) (o:=.cells #[.slice A0_0 l0_0.length c0_0] 34 (0,0)) (zx BK373)) : gb379 ≠ gb373));replace BK373:=zA (zQ (g:=gb373) (o:=.cells #[.slice A0_0 l0_0.length c0_0] 34 (0,0)) (zx BK373) hb);have NB374_379:=zA ((by rw [hg];exact Nat.ne_of_lt (blk_lt (g:=gb374) (o:=.cells #[.slice A1_0 l1_0.length c1_0,.slice (some ad378) l1_1.length c1_1] 38 (0,0)) (zx BK374)) : gb374 ≠ gb379));have NB379_374:=zA ((by rw [hg];exact Nat.ne_of_gt (blk_lt (g:=gb374) (o:=.cells #[.slice A1_0 l1_0.length c1_0,.slice (some ad378) l1_1.length c1_1] 38 (0,0)) (zx BK374)) : gb379 ≠ gb374));replace BK374:=zA (zQ (g:=gb374) (o:=.cells #[.slice A1_0 l1_0.length c1_0,.slice (some ad378) l1_1.length c1_1] 38 (0,0)) (zx BK374) hb);clear hb hbox hg;have hnb43:=NB379_373.out;have hnc43:=NB373_379.out;have hnb44:=NB379_374.out;have hnc44:=NB374_379.out;have hcz45_0:=zc (.int .i64 0) BK379 0 rfl;have hcz45_1:=zc (.slice none 0 0) BK379 1 rfl;have hfz45_0:=blk_frozen BK379.out 0;have hfz45_1:=blk_frozen BK379.out 1;have hnb46:=NB373_374.out;have hnc46:=NB374_373.out;have hcz47_0:=zc (.slice A0_0 l0_0.length c0_0) BK373 0 rfl;have hfz47_0:=blk_frozen BK373.out 0)|((with_reducible refine gate_callee (f:=59) rfl ?_);refine goesL_ (some 38) rfl rfl Tryz.func59 (by kernel_rfl) rfl #[.agg #[.slice A0_0 l0_0.length c0_0],.agg #[.int .i64 ((rd_T81 l1_1 x32_2).f0),.slice A378_1 ((rd_T81 l1_1 x32_2).f1).length c378_1]] rfl (by (try simp only [zCb,zMb,zNb]);first|done|rfl|(simp only [zLb,zDb];rfl)) ?_;(with_reducible refine (impl_IsAtom.calls k2 _ _ l0_0 ((rd_T81 l1_1 x32_2).f0) _ _ ((rd_T81 l1_1 x32_2).f1) false _ ?side1 ?side2 ?side3 ?side4 A33.out).mono ?_);(case side1 => exact zKb HR0_0.out (zz HB));(case side2 => exact HC0_0.out);(case side3 => exact zKb HR378_1.out (zz HB));(case side4 => exact HC378_1.out);rintro e w48 ⟨rfl,hb⟩;refine ⟨_,rfl,?_⟩;replace BK373:=zA (zQ (g:=gb373) (o:=.cells #[.slice A0_0 l0_0.length c0_0] 34 (0,0)) (by (with_reducible repeat (first|refine zF ?_ _|refine zI ?_|refine zG ?_ _));refine zUb ?_ NB373_379.out _;(with_reducible repeat (first|refine zF ?_ _|refine zI ?_|refine zG ?_ _));refine zUb ?_ NB373_379.out _;(with_reducible repeat (first|refine zF ?_ _|refine zI ?_|refine zG ?_ _));exact BK373.out) hb);replace BK374:=zA (zQ (g:=gb374) (o:=.cells #[.slice A1_0 l1_0.length c1_0,.slice (some ad378) l1_1.length c1_1] 38 (0,0)) (by (with_reducible repeat (first|refine zF ?_ _|refine zI ?_|refine zG ?_ _));refine zUb ?_ NB374_379.out _;(with_reducible repeat (first|refine zF ?_ _|refine zI ?_|refine zG ?_ _));refine zUb ?_ NB374_379.out _;(with_reducible repeat (first|refine zF ?_ _|refine zI ?_|refine zG ?_ _));exact BK374.out) hb);replace BK379:=zA (zQ (g:=gb379) (o:=.cells #[.int .i64 ((rd_T81 l1_1 x32_2).f0),.slice A378_1 ((rd_T81 l1_1 x32_2).f1).length c378_1] 81 (0,0)) (by (with_reducible repeat (first|refine zF ?_ _|refine zI ?_|refine zG ?_ _));refine blk_put (cs:=#[.int .i64 ((rd_T81 l1_1 x32_2).f0),.slice none 0 0]) ?_ 1 _ rfl;(with_reducible repeat (first|refine zF ?_ _|refine zI ?_|refine zG ?_ _));refine blk_put (cs:=#[.int .i64 0,.slice none 0 0]) ?_ 0 _ rfl;(with_reducible repeat (first|refine zF ?_ _|refine zI ?_|refine zG ?_ _));exact BK379.out) hb);replace HB:=zA (zJb (zz HB) hb);(try clear hb);(try clear hb2);(try clear hk);(try clear hi)))
          go_ret
          exact ⟨by first|rfl|(simp [errW_none,errW_some] <;> rfl)|(simp [*,errW_none,errW_some] <;> rfl),zz HB⟩
        ·
         rw [if_neg c32] at H
         exact absurd H (by simp)
       ·
        rw [if_neg c31] at H
        exact absurd H (by simp)
      ·
       rw [if_neg c30] at H;have c30b0:=decide_eq_false c30;clear c30;replace H:=Option.bind_eq_some_iff.mp H;obtain ⟨t381,A490,H⟩:=H;(try dsimp only at H);have A49:=zA A490;clear A490
       obtain rfl:=Option.some.inj H
       have hnb50:=NB374_373.out;have hnc50:=NB373_374.out;have hcz51_0:=zc (.slice A1_0 l1_0.length c1_0) BK374 0 rfl;have hcz51_1:=zc (.slice A1_1 l1_1.length c1_1) BK374 1 rfl;have hfz51_0:=blk_frozen BK374.out 0;have hfz51_1:=blk_frozen BK374.out 1
       go_wp2_with (first|((with_reducible refine gate_callee (f:=60) rfl ?_);refine goesL_ (some 42) rfl rfl Tryz.func60 (by kernel_rfl) rfl #[.agg #[.slice A1_0 l1_0.length c1_0,.slice A1_1 l1_1.length c1_1]] rfl (by (try simp only [zCb,zMb,zNb]);first|done|rfl|(simp only [zLb,zDb];rfl)) ?_;(with_reducible refine (impl_Query_isSafe.calls k2 _ _ l1_0 _ _ l1_1 t381 _ ?side1 ?side2 ?side3 ?side4 A49.out).mono ?_);(case side1 => exact zsd HR1_0 HB);(case side2 => exact HC1_0.out);(case side3 => exact zsd HR1_1 HB);(case side4 => exact HC1_1.out);rintro e w52 ⟨rfl,hb⟩;refine ⟨_,rfl,?_⟩;replace BK373:=zA (zQ (g:=gb373) (o:=.cells #[.slice A0_0 l0_0.length c0_0] 34 (0,0)) (zx BK373) hb);replace BK374:=zA (zQ (g:=gb374) (o:=.cells #[.slice A1_0 l1_0.length c1_0,.slice A1_1 l1_1.length c1_1] 38 (0,0)) (zx BK374) hb);replace HB:=zA (zJb (zz HB) hb);(try clear hb);(try clear hb2);(try clear hk);(try clear hi)))
       go_ret
       exact ⟨by first|rfl|(simp [errW_none,errW_some] <;> rfl)|(simp [*,errW_none,errW_some] <;> rfl),zz HB⟩

/-! ### impl_areValues: function 81 -/
def impl_areValues.l0 : Nat → List Int → Int → Int → Option (Bool)
 | 0, _, _, _ => none
 | k + 1, x5, x6, x7 => if x7 < x6 then (if 0 ≤ x7 then (if x7 < (x5.length : Int) then ((impl_within.f (rd x5 x7) 0 99).bind fun t383 => (if t383 = true then (impl_areValues.l0 k x5 x6 (wrap64 (x7 + 1))) else (some false))) else (none)) else (none)) else (some true)
def impl_areValues.f (k : Nat) (l0 : List Int) : Option (Bool) := impl_areValues.l0 k l0 (l0.length : Int) 0
set_option maxHeartbeats 8000000 in
set_option maxRecDepth 100000 in
theorem impl_areValues.calls (k : Nat) (A0 : Option Addr) (c0 : Nat) (l0 : List Int) (r : Bool) (w : World) (hr0 : Kd.C (Kd.int .i64) w A0 l0.length l0) (hc0 : l0.length ≤ c0) (h : impl_areValues.f k l0 = some r) :
  Calls Tryz.prog 81 #[.slice A0 l0.length c0] w fun e w' => e = .returned (.bool r) ∧ Drawn0 w w' := by
 have HR0:=zA hr0;have HC0:=zA hc0;clear hr0 hc0
 have H : (impl_areValues.l0 k l0 (l0.length : Int) 0) = some r:=h
 clear h
 have H':=zA H
 clear H
 go_enter Tryz.func81,Tryz.ntmps81
 go_wp2
 go_loopg [7] k (fun kq v7 w' => ∃ (x7_1 : Int),v7 = .int .i64 x7_1 ∧ Aside0 (impl_areValues.l0 kq l0 (l0.length : Int) x7_1 = some r) ∧ Aside0 (kq ≤ k) ∧ Drawn0 w w')
 case atStart => exact ⟨(0),za,H',⟨Nat.le_refl _⟩,by repeat (first|exact Drawn0.refl _|apply Drawn0.step)⟩
 case round =>
  clear H';obtain ⟨x7_1,rfl,HA,HK1,⟨m1,rfl⟩⟩:=hrel
  cases gk with
  | zero => exact absurd HA.out (by simp [impl_areValues.l0])
  | succ k1 =>
   have H:=HA.out;clear HA;simp only [impl_areValues.l0] at H
   by_cases c2 : x7_1 < (l0.length : Int)
   ·
    rw [if_pos c2] at H;have c2b0:=decide_eq_true c2;clear c2
    by_cases c3 : 0 ≤ x7_1
    ·
     rw [if_pos c3] at H;have c3b0:=decide_eq_true c3;clear c3
     by_cases c4 : x7_1 < (l0.length : Int)
     ·
      rw [if_pos c4] at H;have c4b0:=decide_eq_true c4;clear c4;replace H:=Option.bind_eq_some_iff.mp H;obtain ⟨t383,A50,H⟩:=H;(try dsimp only at H);have A5:=zA A50;clear A50
      by_cases c6 : t383 = true
      ·
       subst c6
       rw [if_pos rfl] at H
       have H':=zA H
       clear H;have p382 : 0 ≤ (x7_1 : Int):=zXb ze;have q382 : x7_1 < (l0.length : Int):=zXb ze;obtain ⟨ad382,e382,hx382_0⟩:=Kd.at_int HR0.out x7_1 p382 q382
       cases e382
       replace p382:=eq_true p382;replace q382:=eq_true q382
       go_wp2_with (first|((with_reducible refine gate_callee (f:=58) rfl ?_);refine goesL_ (some 12) rfl rfl Tryz.func58 (by kernel_rfl) rfl #[.int .i64 (rd l0 x7_1),.int .i64 0,.int .i64 99] rfl (by (try simp only [zCb,zMb,zNb]);first|done|rfl|(simp only [zLb,zDb];rfl)) ?_;(with_reducible refine (impl_within.calls (rd l0 x7_1) 0 99 true _ A5.out).mono ?_);rintro e w' ⟨rfl,⟨nd,rfl⟩⟩;refine ⟨_,rfl,?_⟩))
       go_roundg k1
       case measure => have:=HK1.out;omega
       case rel => exact ⟨(wrap64 (x7_1 + 1)),za,H',⟨by have:=HK1.out;omega⟩,by repeat (first|exact Drawn0.refl _|apply Drawn0.step)⟩
      ·
       replace c6:=Bool.eq_false_iff.mpr c6
       subst c6
       have H1 : (some false) = some r:=by rw [if_neg (show ¬ (false = true) by decide)] at H;exact H
       clear H;have H:=H1;clear H1
       obtain rfl:=Option.some.inj H
       have p382 : 0 ≤ (x7_1 : Int):=zXb ze;have q382 : x7_1 < (l0.length : Int):=zXb ze;obtain ⟨ad382,e382,hx382_0⟩:=Kd.at_int HR0.out x7_1 p382 q382
       cases e382
       replace p382:=eq_true p382;replace q382:=eq_true q382
       go_wp2_with (first|((with_reducible refine gate_callee (f:=58) rfl ?_);refine goesL_ (some 12) rfl rfl Tryz.func58 (by kernel_rfl) rfl #[.int .i64 (rd l0 x7_1),.int .i64 0,.int .i64 99] rfl (by (try simp only [zCb,zMb,zNb]);first|done|rfl|(simp only [zLb,zDb];rfl)) ?_;(with_reducible refine (impl_within.calls (rd l0 x7_1) 0 99 false _ A5.out).mono ?_);rintro e w' ⟨rfl,⟨nd,rfl⟩⟩;refine ⟨_,rfl,?_⟩))
       go_ret
       exact ⟨by first|rfl|(simp;done)|(simp [*];done),by repeat (first|exact Drawn0.refl _|apply Drawn0.step)⟩
     ·
      rw [if_neg c4] at H
      exact absurd H (by simp)
    ·
     rw [if_neg c3] at H
     exact absurd H (by simp)
   ·
    rw [if_neg c2] at H;have c2b0:=decide_eq_false c2;clear c2
    obtain rfl:=Option.some.inj H
    go_wp2
    go_ret
    exact ⟨by first|rfl|(simp;done)|(simp [*];done),by repeat (first|exact Drawn0.refl _|apply Drawn0.step)⟩

/-! ### impl_IsFact: function 61 -/
def impl_IsFact.f (k : Nat) (l0_0 : List Int) (a1_0 : Int) (l1_1 : List Int) : Option (Bool) := (impl_Schema_takes.f k l0_0 a1_0 (l1_1.length : Int)).bind fun t386 => (if t386 = true then ((impl_areValues.f k l1_1).bind fun t387 => (some t387)) else (some false))
set_option maxHeartbeats 8000000 in
set_option maxRecDepth 100000 in
theorem impl_IsFact.calls (k : Nat) (A0_0 : Option Addr) (c0_0 : Nat) (l0_0 : List Int) (a1_0 : Int) (A1_1 : Option Addr) (c1_1 : Nat) (l1_1 : List Int) (r : Bool) (w : World) (hr0_0 : Kd.C (Kd.int .i64) w A0_0 l0_0.length l0_0) (hc0_0 : l0_0.length ≤ c0_0) (hr1_1 : Kd.C (Kd.int .i64) w A1_1 l1_1.length l1_1) (hc1_1 : l1_1.length ≤ c1_1) (h : impl_IsFact.f k l0_0 a1_0 l1_1 = some r) :
  Calls Tryz.prog 61 #[.agg #[.slice A0_0 l0_0.length c0_0], .agg #[.int .i64 a1_0, .slice A1_1 l1_1.length c1_1]] w fun e w' => e = .returned (.bool r) ∧ Below w.heap.size w w' := by
 have hu34:=Tryz.underlying34;have hu64:=Tryz.underlying64;have HR0_0:=zA hr0_0;have HC0_0:=zA hc0_0;clear hr0_0 hc0_0;have HR1_1:=zA hr1_1;have HC1_1:=zA hc1_1;clear hr1_1 hc1_1;have HB:=zA (Below.refl w.heap.size w)
 have H : ((impl_Schema_takes.f k l0_0 a1_0 (l1_1.length : Int)).bind fun t386 => (if t386 = true then ((impl_areValues.f k l1_1).bind fun t387 => (some t387)) else (some false))) = some r:=h
 clear h;replace H:=Option.bind_eq_some_iff.mp H;obtain ⟨t386,A30,H⟩:=H;(try dsimp only at H);have A3:=zA A30;clear A30
 by_cases c4 : t386 = true
 ·
  subst c4
  rw [if_pos rfl] at H;replace H:=Option.bind_eq_some_iff.mp H;obtain ⟨t387,A50,H⟩:=H;(try dsimp only at H);have A5:=zA A50;clear A50
  obtain rfl:=Option.some.inj H
  go_enter Tryz.func61,Tryz.ntmps61
  go_wp2_with (first|((with_reducible refine gate_dst (N:=2) rfl ?_);refine box_event ?hg (N:=2) ?hd (cs:=#[.slice A0_0 l0_0.length c0_0]) (t:=34) ?hr ?_;(case hd => rfl);(case hg => rfl);(case hr => first|(go_simp;done)|(go_simp;rfl));intro gb384 hg w6 hbox hb;have BK384:=zA (hbox);have GW384:=zA ((by rw [hg];exact (zT (zz HB)) : w.heap.size ≤ gb384));have GE384:=zA ((by rw [hg];exact (zT (zz HB)) : w.heap.size ≤ gb384));replace HB:=zA (zJb (zz HB) hb);clear hb hbox hg)|((with_reducible refine gate_dst (N:=3) rfl ?_);refine box_event ?hg (N:=3) ?hd (cs:=#[.int .i64 a1_0,.slice A1_1 l1_1.length c1_1]) (t:=64) ?hr ?_;(case hd => rfl);(case hg => rfl);(case hr => first|(go_simp;done)|(go_simp;rfl));intro gb385 hg w7 hbox hb;have BK385:=zA (hbox);have GW385:=zA ((by rw [hg];exact (zT (zz HB)) : w.heap.size ≤ gb385));have GE385:=zA ((by rw [hg];exact (zT (zz HB)) : w.heap.size ≤ gb385));replace HB:=zA (zJb (zz HB) hb);have NB384_385:=zA ((by rw [hg];exact Nat.ne_of_lt (blk_lt (g:=gb384) (o:=.cells #[.slice A0_0 l0_0.length c0_0] 34 (0,0)) (zx BK384)) : gb384 ≠ gb385));have NB385_384:=zA ((by rw [hg];exact Nat.ne_of_gt (blk_lt (g:=gb384) (o:=.cells #[.slice A0_0 l0_0.length c0_0] 34 (0,0)) (zx BK384)) : gb385 ≠ gb384));replace BK384:=zA (zQ (g:=gb384) (o:=.cells #[.slice A0_0 l0_0.length c0_0] 34 (0,0)) (zx BK384) hb);clear hb hbox hg;have hnb8:=NB384_385.out;have hnc8:=NB385_384.out;have hcz9_0:=zc (.slice A0_0 l0_0.length c0_0) BK384 0 rfl;have hfz9_0:=blk_frozen BK384.out 0;have hcz10_0:=zc (.int .i64 a1_0) BK385 0 rfl;have hcz10_1:=zc (.slice A1_1 l1_1.length c1_1) BK385 1 rfl;have hfz10_0:=blk_frozen BK385.out 0;have hfz10_1:=blk_frozen BK385.out 1)|((with_reducible refine gate_callee (f:=78) rfl ?_);refine goesL_ (some 11) rfl rfl Tryz.func78 (by kernel_rfl) rfl #[.agg #[.slice A0_0 l0_0.length c0_0],.int .i64 a1_0,.int .i64 (l1_1.length : Int)] rfl (by (try simp only [zCb,zMb,zNb]);first|done|rfl|(simp only [zLb,zDb];rfl)) ?_;(with_reducible refine (impl_Schema_takes.calls k _ _ l0_0 a1_0 (l1_1.length : Int) true _ ?side1 ?side2 A3.out).mono ?_);(case side1 => exact zsd HR0_0 HB);(case side2 => exact HC0_0.out);rintro e w11 ⟨rfl,hb⟩;refine ⟨_,rfl,?_⟩;replace BK384:=zA (zQ (g:=gb384) (o:=.cells #[.slice A0_0 l0_0.length c0_0] 34 (0,0)) (zx BK384) hb);replace BK385:=zA (zQ (g:=gb385) (o:=.cells #[.int .i64 a1_0,.slice A1_1 l1_1.length c1_1] 64 (0,0)) (zx BK385) hb);replace HB:=zA (zJb (zz HB) hb);(try clear hb);(try clear hb2);(try clear hk);(try clear hi);have hcz12_0:=zc (.int .i64 a1_0) BK385 0 rfl;have hcz12_1:=zc (.slice A1_1 l1_1.length c1_1) BK385 1 rfl;have hfz12_0:=blk_frozen BK385.out 0;have hfz12_1:=blk_frozen BK385.out 1)|(go_at_call 81;(with_reducible refine (impl_areValues.calls k _ _ l1_1 t387 _ ?side1 ?side2 A5.out).mono ?_);(case side1 => exact zsd HR1_1 HB);(case side2 => exact HC1_1.out);rintro e w' ⟨rfl,⟨nd,rfl⟩⟩))
  go_ret
  exact ⟨by first|rfl|(simp [errW_none,errW_some] <;> rfl)|(simp [*,errW_none,errW_some] <;> rfl),zz HB⟩
 ·
  replace c4:=Bool.eq_false_iff.mpr c4
  subst c4
  have H1 : (some false) = some r:=by rw [if_neg (show ¬ (false = true) by decide)] at H;exact H
  clear H;have H:=H1;clear H1
  obtain rfl:=Option.some.inj H
  go_enter Tryz.func61,Tryz.ntmps61
  go_wp2_with (first|((with_reducible refine gate_dst (N:=2) rfl ?_);refine box_event ?hg (N:=2) ?hd (cs:=#[.slice A0_0 l0_0.length c0_0]) (t:=34) ?hr ?_;(case hd => rfl);(case hg => rfl);(case hr => first|(go_simp;done)|(go_simp;rfl));intro gb384 hg w13 hbox hb;have BK384:=zA (hbox);have GW384:=zA ((by rw [hg];exact (zT (zz HB)) : w.heap.size ≤ gb384));have GE384:=zA ((by rw [hg];exact (zT (zz HB)) : w.heap.size ≤ gb384));replace HB:=zA (zJb (zz HB) hb);clear hb hbox hg)|((with_reducible refine gate_dst (N:=3) rfl ?_);refine box_event ?hg (N:=3) ?hd (cs:=#[.int .i64 a1_0,.slice A1_1 l1_1.length c1_1]) (t:=64) ?hr ?_;(case hd => rfl);(case hg => rfl);(case hr => first|(go_simp;done)|(go_simp;rfl));intro gb385 hg w14 hbox hb;have BK385:=zA (hbox);have GW385:=zA ((by rw [hg];exact (zT (zz HB)) : w.heap.size ≤ gb385));have GE385:=zA ((by rw [hg];exact (zT (zz HB)) : w.heap.size ≤ gb385));replace HB:=zA (zJb (zz HB) hb);have NB384_385:=zA ((by rw [hg];exact Nat.ne_of_lt (blk_lt (g:=gb384) (o:=.cells #[.slice A0_0 l0_0.length c0_0] 34 (0,0)) (zx BK384)) : gb384 ≠ gb385));have NB385_384:=zA ((by rw [hg];exact Nat.ne_of_gt (blk_lt (g:=gb384) (o:=.cells #[.slice A0_0 l0_0.length c0_0] 34 (0,0)) (zx BK384)) : gb385 ≠ gb384));replace BK384:=zA (zQ (g:=gb384) (o:=.cells #[.slice A0_0 l0_0.length c0_0] 34 (0,0)) (zx BK384) hb);clear hb hbox hg;have hnb15:=NB384_385.out;have hnc15:=NB385_384.out;have hcz16_0:=zc (.slice A0_0 l0_0.length c0_0) BK384 0 rfl;have hfz16_0:=blk_frozen BK384.out 0;have hcz17_0:=zc (.int .i64 a1_0) BK385 0 rfl;have hcz17_1:=zc (.slice A1_1 l1_1.length c1_1) BK385 1 rfl;have hfz17_0:=blk_frozen BK385.out 0;have hfz17_1:=blk_frozen BK385.out 1)|((with_reducible refine gate_callee (f:=78) rfl ?_);refine goesL_ (some 11) rfl rfl Tryz.func78 (by kernel_rfl) rfl #[.agg #[.slice A0_0 l0_0.length c0_0],.int .i64 a1_0,.int .i64 (l1_1.length : Int)] rfl (by (try simp only [zCb,zMb,zNb]);first|done|rfl|(simp only [zLb,zDb];rfl)) ?_;(with_reducible refine (impl_Schema_takes.calls k _ _ l0_0 a1_0 (l1_1.length : Int) false _ ?side1 ?side2 A3.out).mono ?_);(case side1 => exact zsd HR0_0 HB);(case side2 => exact HC0_0.out);rintro e w18 ⟨rfl,hb⟩;refine ⟨_,rfl,?_⟩;replace BK384:=zA (zQ (g:=gb384) (o:=.cells #[.slice A0_0 l0_0.length c0_0] 34 (0,0)) (zx BK384) hb);replace BK385:=zA (zQ (g:=gb385) (o:=.cells #[.int .i64 a1_0,.slice A1_1 l1_1.length c1_1] 64 (0,0)) (zx BK385) hb);replace HB:=zA (zJb (zz HB) hb);(try clear hb);(try clear hb2);(try clear hk);(try clear hi)))
  go_ret
  exact ⟨by first|rfl|(simp [errW_none,errW_some] <;> rfl)|(simp [*,errW_none,errW_some] <;> rfl),zz HB⟩

/-! ### cmp_isNaN_int: function 105 -/
def cmp_isNaN_int.f (a0 : Int) : Option (Bool) := some (a0 != a0)
set_option maxHeartbeats 8000000 in
set_option maxRecDepth 100000 in
theorem cmp_isNaN_int.calls (a0 : Int) (r : Bool) (w : World) (h : cmp_isNaN_int.f a0 = some r) :
  Calls Tryz.prog 105 #[.int .i64 a0] w fun e w' => e = .returned (.bool r) ∧ Drawn0 w w' := by
 have H : (some (a0 != a0)) = some r:=h
 clear h
 obtain rfl:=Option.some.inj H
 go_enter Tryz.func105,Tryz.ntmps105
 go_wp2
 go_ret
 exact ⟨by first|rfl|(simp;done)|(simp [*];done),by repeat (first|exact Drawn0.refl _|apply Drawn0.step)⟩

/-! ### cmp_Compare_int: function 84 -/
def cmp_Compare_int.f (a0 : Int) (a1 : Int) : Option (Int) := (cmp_isNaN_int.f a0).bind fun t388 => ((cmp_isNaN_int.f a1).bind fun t389 => (if t388 = true then (if t389 = true then (some 0) else (some (-1))) else (if t389 = true then (some 1) else (if a0 < a1 then (some (-1)) else (if a0 > a1 then (some 1) else (some 0))))))
set_option maxHeartbeats 8000000 in
set_option maxRecDepth 100000 in
theorem cmp_Compare_int.calls (a0 : Int) (a1 : Int) (r : Int) (w : World) (h : cmp_Compare_int.f a0 a1 = some r) :
  Calls Tryz.prog 84 #[.int .i64 a0, .int .i64 a1] w fun e w' => e = .returned (.int .i64 r) ∧ Drawn0 w w' := by
 have H : ((cmp_isNaN_int.f a0).bind fun t388 => ((cmp_isNaN_int.f a1).bind fun t389 => (if t388 = true then (if t389 = true then (some 0) else (some (-1))) else (if t389 = true then (some 1) else (if a0 < a1 then (some (-1)) else (if a0 > a1 then (some 1) else (some 0))))))) = some r:=h
 clear h;replace H:=Option.bind_eq_some_iff.mp H;obtain ⟨t388,A30,H⟩:=H;(try dsimp only at H);have A3:=zA A30;clear A30;replace H:=Option.bind_eq_some_iff.mp H;obtain ⟨t389,A40,H⟩:=H;(try dsimp only at H);have A4:=zA A40;clear A40
 by_cases c5 : t388 = true
 ·
  subst c5
  rw [if_pos rfl] at H
  by_cases c6 : t389 = true
  ·
   subst c6
   rw [if_pos rfl] at H
   obtain rfl:=Option.some.inj H
   go_enter Tryz.func84,Tryz.ntmps84
   go_wp2_with (first|((with_reducible refine gate_callee (f:=105) rfl ?_);refine goesL_ (some 8) rfl rfl Tryz.func105 (by kernel_rfl) rfl #[.int .i64 a0] rfl (by (try simp only [zCb,zMb,zNb]);first|done|rfl|(simp only [zLb,zDb];rfl)) ?_;(with_reducible refine (cmp_isNaN_int.calls a0 true _ A3.out).mono ?_);rintro e w' ⟨rfl,⟨nd,rfl⟩⟩;refine ⟨_,rfl,?_⟩)|((with_reducible refine gate_callee (f:=105) rfl ?_);refine goesL_ (some 10) rfl rfl Tryz.func105 (by kernel_rfl) rfl #[.int .i64 a1] rfl (by (try simp only [zCb,zMb,zNb]);first|done|rfl|(simp only [zLb,zDb];rfl)) ?_;(with_reducible refine (cmp_isNaN_int.calls a1 true _ A4.out).mono ?_);rintro e w' ⟨rfl,⟨nd,rfl⟩⟩;refine ⟨_,rfl,?_⟩))
   go_ret
   exact ⟨by first|rfl|(simp;done)|(simp [*];done),by repeat (first|exact Drawn0.refl _|apply Drawn0.step)⟩
  ·
   replace c6:=Bool.eq_false_iff.mpr c6
   subst c6
   have H1 : (some (-1)) = some r:=by rw [if_neg (show ¬ (false = true) by decide)] at H;exact H
   clear H;have H:=H1;clear H1
   obtain rfl:=Option.some.inj H
   go_enter Tryz.func84,Tryz.ntmps84
   go_wp2_with (first|((with_reducible refine gate_callee (f:=105) rfl ?_);refine goesL_ (some 8) rfl rfl Tryz.func105 (by kernel_rfl) rfl #[.int .i64 a0] rfl (by (try simp only [zCb,zMb,zNb]);first|done|rfl|(simp only [zLb,zDb];rfl)) ?_;(with_reducible refine (cmp_isNaN_int.calls a0 true _ A3.out).mono ?_);rintro e w' ⟨rfl,⟨nd,rfl⟩⟩;refine ⟨_,rfl,?_⟩)|((with_reducible refine gate_callee (f:=105) rfl ?_);refine goesL_ (some 10) rfl rfl Tryz.func105 (by kernel_rfl) rfl #[.int .i64 a1] rfl (by (try simp only [zCb,zMb,zNb]);first|done|rfl|(simp only [zLb,zDb];rfl)) ?_;(with_reducible refine (cmp_isNaN_int.calls a1 false _ A4.out).mono ?_);rintro e w' ⟨rfl,⟨nd,rfl⟩⟩;refine ⟨_,rfl,?_⟩))
   go_ret
   exact ⟨by first|rfl|(simp;done)|(simp [*];done),by repeat (first|exact Drawn0.refl _|apply Drawn0.step)⟩
 ·
  replace c5:=Bool.eq_false_iff.mpr c5
  subst c5
  have H1 : (if t389 = true then (some 1) else (if a0 < a1 then (some (-1)) else (if a0 > a1 then (some 1) else (some 0)))) = some r:=by rw [if_neg (show ¬ (false = true) by decide)] at H;exact H
  clear H;have H:=H1;clear H1
  by_cases c7 : t389 = true
  ·
   subst c7
   rw [if_pos rfl] at H
   obtain rfl:=Option.some.inj H
   go_enter Tryz.func84,Tryz.ntmps84
   go_wp2_with (first|((with_reducible refine gate_callee (f:=105) rfl ?_);refine goesL_ (some 8) rfl rfl Tryz.func105 (by kernel_rfl) rfl #[.int .i64 a0] rfl (by (try simp only [zCb,zMb,zNb]);first|done|rfl|(simp only [zLb,zDb];rfl)) ?_;(with_reducible refine (cmp_isNaN_int.calls a0 false _ A3.out).mono ?_);rintro e w' ⟨rfl,⟨nd,rfl⟩⟩;refine ⟨_,rfl,?_⟩)|((with_reducible refine gate_callee (f:=105) rfl ?_);refine goesL_ (some 10) rfl rfl Tryz.func105 (by kernel_rfl) rfl #[.int .i64 a1] rfl (by (try simp only [zCb,zMb,zNb]);first|done|rfl|(simp only [zLb,zDb];rfl)) ?_;(with_reducible refine (cmp_isNaN_int.calls a1 true _ A4.out).mono ?_);rintro e w' ⟨rfl,⟨nd,rfl⟩⟩;refine ⟨_,rfl,?_⟩))
   go_ret
   exact ⟨by first|rfl|(simp;done)|(simp [*];done),by repeat (first|exact Drawn0.refl _|apply Drawn0.step)⟩
  ·
   replace c7:=Bool.eq_false_iff.mpr c7
   subst c7
   have H1 : (if a0 < a1 then (some (-1)) else (if a0 > a1 then (some 1) else (some 0))) = some r:=by rw [if_neg (show ¬ (false = true) by decide)] at H;exact H
   clear H;have H:=H1;clear H1
   by_cases c8 : a0 < a1
   ·
    rw [if_pos c8] at H;have c8b0:=decide_eq_true c8;clear c8
    obtain rfl:=Option.some.inj H
    go_enter Tryz.func84,Tryz.ntmps84
    go_wp2_with (first|((with_reducible refine gate_callee (f:=105) rfl ?_);refine goesL_ (some 8) rfl rfl Tryz.func105 (by kernel_rfl) rfl #[.int .i64 a0] rfl (by (try simp only [zCb,zMb,zNb]);first|done|rfl|(simp only [zLb,zDb];rfl)) ?_;(with_reducible refine (cmp_isNaN_int.calls a0 false _ A3.out).mono ?_);rintro e w' ⟨rfl,⟨nd,rfl⟩⟩;refine ⟨_,rfl,?_⟩)|((with_reducible refine gate_callee (f:=105) rfl ?_);refine goesL_ (some 10) rfl rfl Tryz.func105 (by kernel_rfl) rfl #[.int .i64 a1] rfl (by (try simp only [zCb,zMb,zNb]);first|done|rfl|(simp only [zLb,zDb];rfl)) ?_;(with_reducible refine (cmp_isNaN_int.calls a1 false _ A4.out).mono ?_);rintro e w' ⟨rfl,⟨nd,rfl⟩⟩;refine ⟨_,rfl,?_⟩))
    go_ret
    exact ⟨by first|rfl|(simp;done)|(simp [*];done),by repeat (first|exact Drawn0.refl _|apply Drawn0.step)⟩
   ·
    rw [if_neg c8] at H;have c8b0:=decide_eq_false c8;clear c8
    by_cases c9 : a0 > a1
    ·
     rw [if_pos c9] at H
     have c9b0 : decide (a1 < a0) = true:=decide_eq_true c9
     clear c9
     obtain rfl:=Option.some.inj H
     go_enter Tryz.func84,Tryz.ntmps84
     go_wp2_with (first|((with_reducible refine gate_callee (f:=105) rfl ?_);refine goesL_ (some 8) rfl rfl Tryz.func105 (by kernel_rfl) rfl #[.int .i64 a0] rfl (by (try simp only [zCb,zMb,zNb]);first|done|rfl|(simp only [zLb,zDb];rfl)) ?_;(with_reducible refine (cmp_isNaN_int.calls a0 false _ A3.out).mono ?_);rintro e w' ⟨rfl,⟨nd,rfl⟩⟩;refine ⟨_,rfl,?_⟩)|((with_reducible refine gate_callee (f:=105) rfl ?_);refine goesL_ (some 10) rfl rfl Tryz.func105 (by kernel_rfl) rfl #[.int .i64 a1] rfl (by (try simp only [zCb,zMb,zNb]);first|done|rfl|(simp only [zLb,zDb];rfl)) ?_;(with_reducible refine (cmp_isNaN_int.calls a1 false _ A4.out).mono ?_);rintro e w' ⟨rfl,⟨nd,rfl⟩⟩;refine ⟨_,rfl,?_⟩))
     go_ret
     exact ⟨by first|rfl|(simp;done)|(simp [*];done),by repeat (first|exact Drawn0.refl _|apply Drawn0.step)⟩
    ·
     rw [if_neg c9] at H
     have c9b0 : decide (a1 < a0) = false:=decide_eq_false c9
     clear c9
     obtain rfl:=Option.some.inj H
     go_enter Tryz.func84,Tryz.ntmps84
     go_wp2_with (first|((with_reducible refine gate_callee (f:=105) rfl ?_);refine goesL_ (some 8) rfl rfl Tryz.func105 (by kernel_rfl) rfl #[.int .i64 a0] rfl (by (try simp only [zCb,zMb,zNb]);first|done|rfl|(simp only [zLb,zDb];rfl)) ?_;(with_reducible refine (cmp_isNaN_int.calls a0 false _ A3.out).mono ?_);rintro e w' ⟨rfl,⟨nd,rfl⟩⟩;refine ⟨_,rfl,?_⟩)|((with_reducible refine gate_callee (f:=105) rfl ?_);refine goesL_ (some 10) rfl rfl Tryz.func105 (by kernel_rfl) rfl #[.int .i64 a1] rfl (by (try simp only [zCb,zMb,zNb]);first|done|rfl|(simp only [zLb,zDb];rfl)) ?_;(with_reducible refine (cmp_isNaN_int.calls a1 false _ A4.out).mono ?_);rintro e w' ⟨rfl,⟨nd,rfl⟩⟩;refine ⟨_,rfl,?_⟩))
     go_ret
     exact ⟨by first|rfl|(simp;done)|(simp [*];done),by repeat (first|exact Drawn0.refl _|apply Drawn0.step)⟩

/-! ### slices_Compare_int_int: function 64 -/
def slices_Compare_int_int.l0 : Nat → List Int → List Int → List Int → Int → Int → Option (Int)
 | 0, _, _, _, _, _ => none
 | k + 1, x0, x1, x9, x10, x11 => if x11 < x10 then (if 0 ≤ x11 then (if x11 < (x9.length : Int) then (if x11 ≥ (x1.length : Int) then (some 1) else (if x11 < (x1.length : Int) then ((cmp_Compare_int.f (rd x9 x11) (rd x1 x11)).bind fun t392 => (if t392 = 0 then (slices_Compare_int_int.l0 k x0 x1 x9 x10 (wrap64 (x11 + 1))) else (some t392))) else (none))) else (none)) else (none)) else (if (x0.length : Int) < (x1.length : Int) then (some (-1)) else (some 0))
def slices_Compare_int_int.f (k : Nat) (l0 : List Int) (l1 : List Int) : Option (Int) := slices_Compare_int_int.l0 k l0 l1 l0 (l0.length : Int) 0
set_option maxHeartbeats 8000000 in
set_option maxRecDepth 100000 in
theorem slices_Compare_int_int.calls (k : Nat) (A0 : Option Addr) (c0 : Nat) (l0 : List Int) (A1 : Option Addr) (c1 : Nat) (l1 : List Int) (r : Int) (w : World) (hr0 : Kd.C (Kd.int .i64) w A0 l0.length l0) (hc0 : l0.length ≤ c0) (hr1 : Kd.C (Kd.int .i64) w A1 l1.length l1) (hc1 : l1.length ≤ c1) (h : slices_Compare_int_int.f k l0 l1 = some r) :
  Calls Tryz.prog 64 #[.slice A0 l0.length c0, .slice A1 l1.length c1] w fun e w' => e = .returned (.int .i64 r) ∧ Drawn0 w w' := by
 have HR0:=zA hr0;have HC0:=zA hc0;clear hr0 hc0;have HR1:=zA hr1;have HC1:=zA hc1;clear hr1 hc1
 have H : (slices_Compare_int_int.l0 k l0 l1 l0 (l0.length : Int) 0) = some r:=h
 clear h
 have H':=zA H
 clear H
 go_enter Tryz.func64,Tryz.ntmps64
 go_wp2
 go_loopg [11] k (fun kq v11 w' => ∃ (x11_1 : Int),v11 = .int .i64 x11_1 ∧ Aside0 (slices_Compare_int_int.l0 kq l0 l1 l0 (l0.length : Int) x11_1 = some r) ∧ Aside0 (kq ≤ k) ∧ Drawn0 w w')
 case atStart => exact ⟨(0),za,H',⟨Nat.le_refl _⟩,by repeat (first|exact Drawn0.refl _|apply Drawn0.step)⟩
 case round =>
  clear H';(try clear c1);(try clear p2);obtain ⟨x11_1,rfl,HA,HK1,⟨m1,rfl⟩⟩:=hrel
  cases gk with
  | zero => exact absurd HA.out (by simp [slices_Compare_int_int.l0])
  | succ k1 =>
   have H:=HA.out;clear HA;simp only [slices_Compare_int_int.l0] at H
   by_cases c3 : x11_1 < (l0.length : Int)
   ·
    rw [if_pos c3] at H;have c3b0:=decide_eq_true c3;clear c3
    by_cases c4 : 0 ≤ x11_1
    ·
     rw [if_pos c4] at H;have c4b0:=decide_eq_true c4;clear c4
     by_cases c5 : x11_1 < (l0.length : Int)
     ·
      rw [if_pos c5] at H;have c5b0:=decide_eq_true c5;clear c5
      by_cases c6 : x11_1 ≥ (l1.length : Int)
      ·
       rw [if_pos c6] at H
       have c6b0 : decide ((l1.length : Int) ≤ x11_1) = true:=decide_eq_true c6
       clear c6
       obtain rfl:=Option.some.inj H
       have p390 : 0 ≤ (x11_1 : Int):=zXb ze;have q390 : x11_1 < (l0.length : Int):=zXb ze;obtain ⟨ad390,e390,hx390_0⟩:=Kd.at_int HR0.out x11_1 p390 q390
       cases e390
       replace p390:=eq_true p390;replace q390:=eq_true q390
       go_wp2
       go_ret
       exact ⟨by first|rfl|(simp;done)|(simp [*];done),by repeat (first|exact Drawn0.refl _|apply Drawn0.step)⟩
      ·
       rw [if_neg c6] at H
       have c6b0 : decide ((l1.length : Int) ≤ x11_1) = false:=decide_eq_false c6
       clear c6
       by_cases c7 : x11_1 < (l1.length : Int)
       ·
        rw [if_pos c7] at H;have c7b0:=decide_eq_true c7;clear c7;replace H:=Option.bind_eq_some_iff.mp H;obtain ⟨t392,A80,H⟩:=H;(try dsimp only at H);have A8:=zA A80;clear A80
        by_cases c9 : t392 = 0
        ·
         rw [if_pos c9] at H;have c9b0:=beq_iff_eq.mpr c9;have c9b1:=bne_eq_false_iff_eq.mpr c9;clear c9
         have H':=zA H
         clear H;have p390 : 0 ≤ (x11_1 : Int):=zXb ze;have q390 : x11_1 < (l0.length : Int):=zXb ze;obtain ⟨ad390,e390,hx390_0⟩:=Kd.at_int HR0.out x11_1 p390 q390
         cases e390
         replace p390:=eq_true p390;replace q390:=eq_true q390;have p391 : 0 ≤ (x11_1 : Int):=zXb ze;have q391 : x11_1 < (l1.length : Int):=zXb ze;obtain ⟨ad391,e391,hx391_0⟩:=Kd.at_int HR1.out x11_1 p391 q391
         cases e391
         replace p391:=eq_true p391;replace q391:=eq_true q391
         go_wp2_with (first|((with_reducible refine gate_callee (f:=84) rfl ?_);refine goesL_ (some 26) rfl rfl Tryz.func84 (by kernel_rfl) rfl #[.int .i64 (rd l0 x11_1),.int .i64 (rd l1 x11_1)] rfl (by (try simp only [zCb,zMb,zNb]);first|done|rfl|(simp only [zLb,zDb];rfl)) ?_;(with_reducible refine (cmp_Compare_int.calls (rd l0 x11_1) (rd l1 x11_1) t392 _ A8.out).mono ?_);rintro e w' ⟨rfl,⟨nd,rfl⟩⟩;refine ⟨_,rfl,?_⟩))
         go_roundg k1
         case measure => have:=HK1.out;omega
         case rel => exact ⟨(wrap64 (x11_1 + 1)),za,H',⟨by have:=HK1.out;omega⟩,by repeat (first|exact Drawn0.refl _|apply Drawn0.step)⟩
        ·
         rw [if_neg c9] at H;have c9b0:=beq_eq_false_iff_ne.mpr c9;have c9b1:=bne_iff_ne.mpr c9
         obtain rfl:=Option.some.inj H
         have p390 : 0 ≤ (x11_1 : Int):=zXb ze;have q390 : x11_1 < (l0.length : Int):=zXb ze;obtain ⟨ad390,e390,hx390_0⟩:=Kd.at_int HR0.out x11_1 p390 q390
         cases e390
         replace p390:=eq_true p390;replace q390:=eq_true q390;have p391 : 0 ≤ (x11_1 : Int):=zXb ze;have q391 : x11_1 < (l1.length : Int):=zXb ze;obtain ⟨ad391,e391,hx391_0⟩:=Kd.at_int HR1.out x11_1 p391 q391
         cases e391
         replace p391:=eq_true p391;replace q391:=eq_true q391
         go_wp2_with (first|((with_reducible refine gate_callee (f:=84) rfl ?_);refine goesL_ (some 26) rfl rfl Tryz.func84 (by kernel_rfl) rfl #[.int .i64 (rd l0 x11_1),.int .i64 (rd l1 x11_1)] rfl (by (try simp only [zCb,zMb,zNb]);first|done|rfl|(simp only [zLb,zDb];rfl)) ?_;(with_reducible refine (cmp_Compare_int.calls (rd l0 x11_1) (rd l1 x11_1) t392 _ A8.out).mono ?_);rintro e w' ⟨rfl,⟨nd,rfl⟩⟩;refine ⟨_,rfl,?_⟩))
         go_ret
         exact ⟨by first|rfl|(simp;done)|(simp [*];done),by repeat (first|exact Drawn0.refl _|apply Drawn0.step)⟩
       ·
        rw [if_neg c7] at H
        exact absurd H (by simp)
     ·
      rw [if_neg c5] at H
      exact absurd H (by simp)
    ·
     rw [if_neg c4] at H
     exact absurd H (by simp)
   ·
    rw [if_neg c3] at H;have c3b0:=decide_eq_false c3;clear c3
    by_cases c10 : (l0.length : Int) < (l1.length : Int)
    ·
     rw [if_pos c10] at H;have c10b0:=decide_eq_true c10
     have c10b1 : decide (l0.length < l1.length) = true:=decide_eq_true (Int.ofNat_lt.mp c10)
     clear c10
     obtain rfl:=Option.some.inj H
     go_wp2
     go_ret
     exact ⟨by first|rfl|(simp;done)|(simp [*];done),by repeat (first|exact Drawn0.refl _|apply Drawn0.step)⟩
    ·
     rw [if_neg c10] at H;have c10b0:=decide_eq_false c10
     have c10b1 : decide (l0.length < l1.length) = false:=decide_eq_false (fun h => c10 (Int.ofNat_lt.mpr h))
     clear c10
     obtain rfl:=Option.some.inj H
     go_wp2
     go_ret
     exact ⟨by first|rfl|(simp;done)|(simp [*];done),by repeat (first|exact Drawn0.refl _|apply Drawn0.step)⟩

end Go.Proofs.YtfelabhakgcifaaGreat.QFnExactCountAnswers
