/- Walks through the Go functions that FnExactAnswers reaches: each call returns what the Lean function beside it says, within the bounds that the theorem names. -/
import Derived.Test.YtfelabhakgcifaaGreatQFnExactAnswersx0
import Derived.Test.YtfelabhakgcifaaGreatQFnExactAnswersx3
namespace Go.Proofs.YtfelabhakgcifaaGreat.QFnExactAnswers
open Go.RowKit Go.Proofs.YtfelabhakgcifaaGreatW.PrintWords Go.Proofs.YtfelabhakgcifaaGreatW.PrintLast Go.Proofs.YtfelabhakgcifaaGreatW.PrintMore
attribute [local go_sem] max2_int min2_int max_two min_two max_three min_three max_four min_four   -- for this text's walks alone
set_option linter.unusedVariables false
set_option linter.unusedSimpArgs false


/-! ### spec_IsFact: function 72 -/
mutual
def spec_IsFact.j0 : Nat → Bool → Int → List Int → Option (Bool)
 | 0, _, _, _ => none
 | k + 1, x30, x221000, x221001 => if x30 = true then (some false) else (spec_IsFact.l0 k 0 x221000 x221001)
def spec_IsFact.l0 : Nat → Int → Int → List Int → Option (Bool)
 | 0, _, _, _ => none
 | k + 1, x5, x221000, x221001 => if x5 < (x221001.length : Int) then (if 0 ≤ x5 then ((spec_l1In.f (rd x221001 x5) 0 99).bind fun t225 => (if t225 = true then (spec_IsFact.l0 k (wrap64 (x5 + 1)) x221000 x221001) else (some false))) else (none)) else (some true)
end
def spec_IsFact.f (k : Nat) (l0_0 : List Int) (a1_0 : Int) (l1_1 : List Int) : Option (Bool) := (spec_IsSchema.f k l0_0).bind fun t221 => (if t221 = true then ((spec_l1In.f a1_0 0 (wrap64 ((l0_0.length : Int) - 1))).bind fun t222 => (if t222 = true then (if 0 ≤ a1_0 then (if a1_0 < (l0_0.length : Int) then (spec_IsFact.j0 k ((l1_1.length : Int) != (rd l0_0 a1_0)) a1_0 l1_1) else (none)) else (none)) else (spec_IsFact.j0 k true a1_0 l1_1))) else (spec_IsFact.j0 k true a1_0 l1_1))
def spec_IsFact.T1 : Bool × List (List Nat × List Nat) := (true, [([], []), ([0], [0]), ([1], [1]), ([2, 1], [2]), ([3], [3]), ([4, 3], [3, 4]), ([3], [3]), ([6, 3], [3, 6]), ([7, 3], [3, 7]), ([8, 3], [3, 8]), ([5, 9, 3, 3], [3, 5, 9]), ([10, 3], [3, 10]), ([3, 11], [3, 11]), ([12, 10], [12]), ([13], [13]), ([14, 13], [13, 14]), ([15, 13], [13, 15]), ([13], [13]), ([17, 13], [13, 17]), ([13], [13]), ([19, 13], [13, 19]), ([18, 20, 13], [13, 18, 20]), ([21, 13], [13, 21]), ([16, 22, 13], [13, 16, 22]), ([13, 23], [13, 23])])
def spec_IsFact.B1 : List Nat := [0, 1, 3, 7, 15, 31, 15, 79, 207, 463, 1023, 2047, 4095, 8191, 16383, 32767, 65535, 16383, 147455, 16383, 540671, 1982463, 4079615, 8388607, 16777215]
theorem spec_IsFact.tab1 : rtab .any (opsOf Tryz.f72 1) = spec_IsFact.T1 := by kernel_rfl
theorem spec_IsFact.bits1 : waitsOk spec_IsFact.T1.2 spec_IsFact.B1 = true := by kernel_rfl
set_option maxHeartbeats 8000000 in
set_option maxRecDepth 100000 in
theorem spec_IsFact.calls (k : Nat) (A0_0 : Option Addr) (c0_0 : Nat) (l0_0 : List Int) (a1_0 : Int) (A1_1 : Option Addr) (c1_1 : Nat) (l1_1 : List Int) (r : Bool) (w : World) (hr0_0 : Kd.C (Kd.int .i64) w A0_0 l0_0.length l0_0) (hc0_0 : l0_0.length ≤ c0_0) (hr1_1 : Kd.C (Kd.int .i64) w A1_1 l1_1.length l1_1) (hc1_1 : l1_1.length ≤ c1_1) (h : spec_IsFact.f k l0_0 a1_0 l1_1 = some r) :
  Calls Tryz.prog 72 #[.agg #[.slice A0_0 l0_0.length c0_0], .agg #[.int .i64 a1_0, .slice A1_1 l1_1.length c1_1]] w fun e w' => e = .returned (.bool r) ∧ Below w.heap.size w w' := by
 have hu34:=Tryz.underlying34;have hu64:=Tryz.underlying64;have HR0_0:=zA hr0_0;have HC0_0:=zA hc0_0;clear hr0_0 hc0_0;have HR1_1:=zA hr1_1;have HC1_1:=zA hc1_1;clear hr1_1 hc1_1;have HB:=zA (Below.refl w.heap.size w)
 have H : ((spec_IsSchema.f k l0_0).bind fun t221 => (if t221 = true then ((spec_l1In.f a1_0 0 (wrap64 ((l0_0.length : Int) - 1))).bind fun t222 => (if t222 = true then (if 0 ≤ a1_0 then (if a1_0 < (l0_0.length : Int) then (spec_IsFact.j0 k ((l1_1.length : Int) != (rd l0_0 a1_0)) a1_0 l1_1) else (none)) else (none)) else (spec_IsFact.j0 k true a1_0 l1_1))) else (spec_IsFact.j0 k true a1_0 l1_1))) = some r:=h
 clear h;have HC3:=zA H;clear H
 go_enter Tryz.func72,Tryz.ntmps72
 go_upto_region 1 with (first|((with_reducible refine gate_dst (N:=2) rfl ?_);(try (refine gate_guard (by rfl) ?_;dsimp only));refine box_event ?hg (N:=2) ?hd (cs:=#[.slice A0_0 l0_0.length c0_0]) (t:=34) ?hr ?_;(case hd => rfl);(case hg => rfl);(case hr => first|(go_simp;done)|(go_simp;rfl));intro gb219 hg w4 hbox hb;have BK219:=zA (hbox);have GW219:=zA ((by rw [hg];exact (zT (zz HB)) : w.heap.size ≤ gb219));have GE219:=zA ((by rw [hg];exact (zT (zz HB)) : w.heap.size ≤ gb219));replace HB:=zA (zJb (zz HB) hb);clear hb hbox hg)|((with_reducible refine gate_dst (N:=3) rfl ?_);(try (refine gate_guard (by rfl) ?_;dsimp only));refine box_event ?hg (N:=3) ?hd (cs:=#[.int .i64 a1_0,.slice A1_1 l1_1.length c1_1]) (t:=64) ?hr ?_;(case hd => rfl);(case hg => rfl);(case hr => first|(go_simp;done)|(go_simp;rfl));intro gb220 hg w5 hbox hb;have BK220:=zA (hbox);have GW220:=zA ((by rw [hg];exact (zT (zz HB)) : w.heap.size ≤ gb220));have GE220:=zA ((by rw [hg];exact (zT (zz HB)) : w.heap.size ≤ gb220));replace HB:=zA (zJb (zz HB) hb);have NB219_220:=zA ((by rw [hg];exact Nat.ne_of_lt (blk_lt (g:=gb219) (o:=.cells #[.slice A0_0 l0_0.length c0_0] 34 (0,0)) (zx BK219)) : gb219 ≠ gb220));have NB220_219:=zA ((by rw [hg];exact Nat.ne_of_gt (blk_lt (g:=gb219) (o:=.cells #[.slice A0_0 l0_0.length c0_0] 34 (0,0)) (zx BK219)) : gb220 ≠ gb219));replace BK219:=zA (zQ (g:=gb219) (o:=.cells #[.slice A0_0 l0_0.length c0_0] 34 (0,0)) (zx BK219) hb);clear hb hbox hg))
 (try simp only [Act.put,zO,zEb,zFb])
 go_cut [30] (fun v30 wc => ∃ (kq : Nat) (x30_2 : Bool),v30 = .bool x30_2 ∧ Aside0 (spec_IsFact.j0 kq x30_2 a1_0 l1_1 = some r) ∧ Aside0 (kq ≤ k) ∧ Aside0 (wc.heap[gb219]? = some (.cells #[(.slice A0_0 l0_0.length c0_0)] 34 (0,0))) ∧ Aside0 (wc.heap[gb220]? = some (.cells #[.int .i64 a1_0,(.slice A1_1 l1_1.length c1_1)] 64 (0,0))) ∧ Aside0 (Below w.heap.size w wc))
 case first =>
  have H:=HC3.out;clear HC3;replace H:=Option.bind_eq_some_iff.mp H;obtain ⟨t221,A60,H⟩:=H;(try dsimp only at H);have A6:=zA A60;clear A60
  by_cases c7 : t221 = true
  ·
   subst c7
   rw [if_pos rfl] at H;replace H:=Option.bind_eq_some_iff.mp H;obtain ⟨t222,A80,H⟩:=H;(try dsimp only at H);have A8:=zA A80;clear A80
   by_cases c9 : t222 = true
   ·
    subst c9
    rw [if_pos rfl] at H
    by_cases c10 : 0 ≤ a1_0
    ·
     rw [if_pos c10] at H;have c10b0:=decide_eq_true c10;clear c10
     (first|rw [c10b0]|(simp only [i64_w,i32_w];rw [c10b0])|skip)
     by_cases c11 : a1_0 < (l0_0.length : Int)
     ·
      rw [if_pos c11] at H;have c11b0:=decide_eq_true c11;clear c11
      have H':=zA H
      clear H
      try go_wp2
      have n0_:=zA (zI BK219.out);have n1_:=zA (zI BK220.out);have n2_:=zA (zJ HB.out);clear BK219;clear BK220;clear HB;have BK219:=n0_;have BK220:=n1_;have HB:=n2_;clear n0_ n1_ n2_;have p223 : 0 ≤ (a1_0 : Int):=zXb ze;have q223 : a1_0 < (l0_0.length : Int):=zXb ze;obtain ⟨ad223,e223,hx223_0⟩:=Kd.at_int HR0_0.out a1_0 p223 q223;have hw223_0:=hx223_0
      cases e223
      replace hx223_0:=(HB.out.cell (World.block_lt_of_cell? w _ hx223_0)).trans hx223_0;replace p223:=eq_true p223;replace q223:=eq_true q223
      refine start_ (n:=25) (S:=fun w' => w'.cell? ⟨gb219,0,none⟩ = some (.slice (some ad223) l0_0.length c0_0) ∧ w'.cell? ⟨gb220,0,none⟩ = some (.int .i64 a1_0) ∧ w'.cell? ⟨gb220,1,none⟩ = some (.slice A1_1 l1_1.length c1_1) ∧ w'.cell? (ad223.add (a1_0).toNat) = some (.int .i64 (rd l0_0 a1_0))) (ds:=[]) #[false,false,false,false,false,false,false,false,false,false,false,false,false,false,false,false,false,false,false,false,false,false,false,false,false] (by kernel_rfl) rfl rfl ⟨(zP BK219.out 0).trans rfl,(zP BK220.out 0).trans rfl,(zP BK220.out 1).trans rfl,((HB.out.cell (World.block_lt_of_cell? w _ hw223_0)).trans hw223_0)⟩ (fun hHeld => ?_);refine with_tabW spec_IsFact.tab1 spec_IsFact.bits1 (fun HT_ HW_ => ?_)
      generalize w5.drew = w12 at BK219 BK220 HB hx223_0 hHeld ⊢
      refine zwt 0 6 HT_ HW_ hHeld ?_
      refine one_ (i:=1) (N:=some 7) #[true,true,false,false,false,false,false,false,false,false,false,false,false,false,false,false,false,false,false,false,false,false,false,false,false] rfl rfl (one_of HT_.out (by kernel_rfl)) (by decide) (fun K hK => ?_)
      refine goes_ Tryz.func74 (by kernel_rfl) rfl #[.agg #[.slice (some ad223) l0_0.length c0_0]] (by rfl) rfl rfl (by (try simp only [zCb,zMb,zNb]);first|done|rfl|(simp only [zLb,zDb];rfl)) ?_
      with_reducible refine (spec_IsSchema.calls k _ _ l0_0 true _ ?side1 ?side2 A6.out).mono ?_
      (case side1 => exact zsd HR0_0 HB)
      (case side2 => exact HC0_0.out)
      rintro e w13 ⟨rfl,hb⟩
      refine ⟨_,rfl,?_⟩
      have n0_:=zA (zQ (g:=gb219) (o:=.cells #[.slice (some ad223) l0_0.length c0_0] 34 (0,0)) (zx BK219) hb);have n1_:=zA (zQ (g:=gb220) (o:=.cells #[.int .i64 a1_0,.slice A1_1 l1_1.length c1_1] 64 (0,0)) (zx BK220) hb);have n2_:=zA (zJb (zz HB) hb);clear BK219;clear BK220;clear HB;have BK219:=n0_;have BK220:=n1_;have HB:=n2_;clear n0_ n1_ n2_;(try clear hb);(try clear hb2);(try clear hk);(try clear hi)
      refine hK.out _ _ ⟨(zP BK219.out 0).trans rfl,(zP BK220.out 0).trans rfl,(zP BK220.out 1).trans rfl,((HB.out.cell (World.block_lt_of_cell? w _ hw223_0)).trans hw223_0)⟩ (fun hHeld => ?_)
      clear hK K
      refine norm_ (a':=?_) ?_ ?_
      rotate_left
      ·
       show Act.put _ (some 7) _ = _
       simp only [Act.put,zO,zEb,zFb,i64_w,i32_w]
       rfl
      refine zut 2 8 HT_ ?_;refine zut 3 9 HT_ ?_;refine zut 4 10 HT_ ?_;refine zut 6 12 HT_ ?_;refine zwt 5 11 HT_ HW_ hHeld ?_;refine zwt 7 13 HT_ HW_ hHeld ?_;refine zut 8 14 HT_ ?_;refine zut 9 15 HT_ ?_
      refine one_ (i:=10) (N:=some 16) #[true,true,true,true,true,true,true,true,true,true,true,false,false,false,false,false,false,false,false,false,false,false,false,false,false] rfl rfl (one_of HT_.out (by kernel_rfl)) (by decide) (fun K hK => ?_)
      refine goes_ Tryz.func88 (by kernel_rfl) rfl #[.int .i64 a1_0,.int .i64 0,.int .i64 (wrap64 ((l0_0.length : Int) - 1))] (by rfl) rfl rfl (by (try simp only [zCb,zMb,zNb]);first|done|rfl|(simp only [zLb,zDb];rfl)) ?_
      with_reducible refine (spec_l1In.calls a1_0 0 (wrap64 ((l0_0.length : Int) - 1)) true _ A8.out).mono ?_
      rintro e w' ⟨rfl,⟨nd,rfl⟩⟩
      refine ⟨_,rfl,?_⟩
      refine hK.out _ _ ⟨(zP BK219.out 0).trans rfl,(zP BK220.out 0).trans rfl,(zP BK220.out 1).trans rfl,((HB.out.cell (World.block_lt_of_cell? w _ hw223_0)).trans hw223_0)⟩ (fun hHeld => ?_)
      clear hK K
      refine norm_ (a':=?_) ?_ ?_
      rotate_left
      ·
       show Act.put _ (some 16) _ = _
       simp only [Act.put,zO,zEb,zFb,i64_w,i32_w]
       rfl
      refine zut 11 17 HT_ ?_;refine zut 12 18 HT_ ?_;refine zut 13 19 HT_ ?_;refine zut 14 20 HT_ ?_;refine zut 17 23 HT_ ?_;refine zut 19 25 HT_ ?_;refine zwt 15 21 HT_ HW_ hHeld ?_;refine zut 16 22 HT_ ?_;refine zwt 18 24 HT_ HW_ hHeld ?_;refine zwt 20 26 HT_ HW_ hHeld ?_;refine zut 21 27 HT_ ?_;refine zwt 22 28 HT_ HW_ hHeld ?_;refine zut 23 29 HT_ ?_;refine zut 24 30 HT_ ?_
      refine done_ (done_of HT_.out (by kernel_rfl)) ?_
      try go_wp2
      go_meet
      case rel => exact ⟨_,(((l1_1.length : Int) != (rd l0_0 a1_0))),za,H',⟨by first|omega|exact Nat.le_refl _⟩,⟨zx BK219⟩,⟨zx BK220⟩,⟨zz HB⟩⟩
     ·
      rw [if_neg c11] at H
      exact absurd H (by simp)
    ·
     rw [if_neg c10] at H
     exact absurd H (by simp)
   ·
    replace c9:=Bool.eq_false_iff.mpr c9
    subst c9
    have H1 : (spec_IsFact.j0 k true a1_0 l1_1) = some r:=by rw [if_neg (show ¬ (false = true) by decide)] at H;exact H
    clear H;have H:=H1;clear H1
    have H':=zA H
    clear H
    try go_wp2
    have n0_:=zA (zI BK219.out);have n1_:=zA (zI BK220.out);have n2_:=zA (zJ HB.out);clear BK219;clear BK220;clear HB;have BK219:=n0_;have BK220:=n1_;have HB:=n2_;clear n0_ n1_ n2_
    refine start_ (n:=25) (S:=fun w' => w'.cell? ⟨gb219,0,none⟩ = some (.slice A0_0 l0_0.length c0_0) ∧ w'.cell? ⟨gb220,0,none⟩ = some (.int .i64 a1_0) ∧ w'.cell? ⟨gb220,1,none⟩ = some (.slice A1_1 l1_1.length c1_1)) (ds:=[]) #[false,false,false,false,false,false,false,false,false,false,false,false,false,false,false,false,false,false,false,false,false,false,false,false,false] (by kernel_rfl) rfl rfl ⟨(zP BK219.out 0).trans rfl,(zP BK220.out 0).trans rfl,(zP BK220.out 1).trans rfl⟩ (fun hHeld => ?_);refine with_tabW spec_IsFact.tab1 spec_IsFact.bits1 (fun HT_ HW_ => ?_)
    generalize w5.drew = w14 at BK219 BK220 HB hHeld ⊢
    refine zwt 0 6 HT_ HW_ hHeld ?_
    refine one_ (i:=1) (N:=some 7) #[true,true,false,false,false,false,false,false,false,false,false,false,false,false,false,false,false,false,false,false,false,false,false,false,false] rfl rfl (one_of HT_.out (by kernel_rfl)) (by decide) (fun K hK => ?_)
    refine goes_ Tryz.func74 (by kernel_rfl) rfl #[.agg #[.slice A0_0 l0_0.length c0_0]] (by rfl) rfl rfl (by (try simp only [zCb,zMb,zNb]);first|done|rfl|(simp only [zLb,zDb];rfl)) ?_
    with_reducible refine (spec_IsSchema.calls k _ _ l0_0 true _ ?side1 ?side2 A6.out).mono ?_
    (case side1 => exact zsd HR0_0 HB)
    (case side2 => exact HC0_0.out)
    rintro e w15 ⟨rfl,hb⟩
    refine ⟨_,rfl,?_⟩
    have n0_:=zA (zQ (g:=gb219) (o:=.cells #[.slice A0_0 l0_0.length c0_0] 34 (0,0)) (zx BK219) hb);have n1_:=zA (zQ (g:=gb220) (o:=.cells #[.int .i64 a1_0,.slice A1_1 l1_1.length c1_1] 64 (0,0)) (zx BK220) hb);have n2_:=zA (zJb (zz HB) hb);clear BK219;clear BK220;clear HB;have BK219:=n0_;have BK220:=n1_;have HB:=n2_;clear n0_ n1_ n2_;(try clear hb);(try clear hb2);(try clear hk);(try clear hi)
    refine hK.out _ _ ⟨(zP BK219.out 0).trans rfl,(zP BK220.out 0).trans rfl,(zP BK220.out 1).trans rfl⟩ (fun hHeld => ?_)
    clear hK K
    refine norm_ (a':=?_) ?_ ?_
    rotate_left
    ·
     show Act.put _ (some 7) _ = _
     simp only [Act.put,zO,zEb,zFb,i64_w,i32_w]
     rfl
    refine zut 2 8 HT_ ?_;refine zut 3 9 HT_ ?_;refine zut 4 10 HT_ ?_;refine zut 6 12 HT_ ?_;refine zwt 5 11 HT_ HW_ hHeld ?_;refine zwt 7 13 HT_ HW_ hHeld ?_;refine zut 8 14 HT_ ?_;refine zut 9 15 HT_ ?_
    refine one_ (i:=10) (N:=some 16) #[true,true,true,true,true,true,true,true,true,true,true,false,false,false,false,false,false,false,false,false,false,false,false,false,false] rfl rfl (one_of HT_.out (by kernel_rfl)) (by decide) (fun K hK => ?_)
    refine goes_ Tryz.func88 (by kernel_rfl) rfl #[.int .i64 a1_0,.int .i64 0,.int .i64 (wrap64 ((l0_0.length : Int) - 1))] (by rfl) rfl rfl (by (try simp only [zCb,zMb,zNb]);first|done|rfl|(simp only [zLb,zDb];rfl)) ?_
    with_reducible refine (spec_l1In.calls a1_0 0 (wrap64 ((l0_0.length : Int) - 1)) false _ A8.out).mono ?_
    rintro e w' ⟨rfl,⟨nd,rfl⟩⟩
    refine ⟨_,rfl,?_⟩
    refine hK.out _ _ ⟨(zP BK219.out 0).trans rfl,(zP BK220.out 0).trans rfl,(zP BK220.out 1).trans rfl⟩ (fun hHeld => ?_)
    clear hK K
    refine norm_ (a':=?_) ?_ ?_
    rotate_left
    ·
     show Act.put _ (some 16) _ = _
     simp only [Act.put,zO,zEb,zFb,i64_w,i32_w]
     rfl
    refine zut 11 17 HT_ ?_;refine zut 12 18 HT_ ?_;refine zut 13 19 HT_ ?_;refine zot 14 20 HT_ ?_;refine zot 15 21 HT_ ?_;refine zot 16 22 HT_ ?_;refine zot 17 23 HT_ ?_;refine zot 18 24 HT_ ?_;refine zot 19 25 HT_ ?_;refine zot 20 26 HT_ ?_;refine zot 21 27 HT_ ?_;refine zot 22 28 HT_ ?_;refine zot 23 29 HT_ ?_;refine zut 24 30 HT_ ?_
    refine done_ (done_of HT_.out (by kernel_rfl)) ?_
    try go_wp2
    go_meet
    case rel => exact ⟨_,(true),za,H',⟨by first|omega|exact Nat.le_refl _⟩,⟨zx BK219⟩,⟨zx BK220⟩,⟨zz HB⟩⟩
  ·
   replace c7:=Bool.eq_false_iff.mpr c7
   subst c7
   have H1 : (spec_IsFact.j0 k true a1_0 l1_1) = some r:=by rw [if_neg (show ¬ (false = true) by decide)] at H;exact H
   clear H;have H:=H1;clear H1
   have H':=zA H
   clear H
   try go_wp2
   have n0_:=zA (zI BK219.out);have n1_:=zA (zI BK220.out);have n2_:=zA (zJ HB.out);clear BK219;clear BK220;clear HB;have BK219:=n0_;have BK220:=n1_;have HB:=n2_;clear n0_ n1_ n2_
   refine start_ (n:=25) (S:=fun w' => w'.cell? ⟨gb219,0,none⟩ = some (.slice A0_0 l0_0.length c0_0)) (ds:=[]) #[false,false,false,false,false,false,false,false,false,false,false,false,false,false,false,false,false,false,false,false,false,false,false,false,false] (by kernel_rfl) rfl rfl ((zP BK219.out 0).trans rfl) (fun hHeld => ?_);refine with_tabW spec_IsFact.tab1 spec_IsFact.bits1 (fun HT_ HW_ => ?_)
   generalize w5.drew = w16 at BK219 BK220 HB hHeld ⊢
   refine take_ (i:=0) (N:=some 6) (v:=?_) (a':=?_) #[true,false,false,false,false,false,false,false,false,false,false,false,false,false,false,false,false,false,false,false,false,false,false,false,false] rfl rfl (take_ofW HT_.out HW_.out (by kernel_rfl)) (fun _ _ _ h => h) (Or.inl ⟨by rfl,?_⟩) hHeld ?_ ?_
   rotate_left
   ·
    intro w' s0
    go_simp
    with_reducible rfl
   rotate_left
   ·
    simp only [Act.put,zO,zEb,zFb,i64_w,i32_w]
    rfl
   refine one_ (i:=1) (N:=some 7) #[true,true,false,false,false,false,false,false,false,false,false,false,false,false,false,false,false,false,false,false,false,false,false,false,false] rfl rfl (one_of HT_.out (by kernel_rfl)) (by decide) (fun K hK => ?_)
   refine goes_ Tryz.func74 (by kernel_rfl) rfl #[.agg #[.slice A0_0 l0_0.length c0_0]] (by rfl) rfl rfl (by (try simp only [zCb,zMb,zNb]);first|done|rfl|(simp only [zLb,zDb];rfl)) ?_
   with_reducible refine (spec_IsSchema.calls k _ _ l0_0 false _ ?side1 ?side2 A6.out).mono ?_
   (case side1 => exact zsd HR0_0 HB)
   (case side2 => exact HC0_0.out)
   rintro e w17 ⟨rfl,hb⟩
   refine ⟨_,rfl,?_⟩
   have n0_:=zA (zQ (g:=gb219) (o:=.cells #[.slice A0_0 l0_0.length c0_0] 34 (0,0)) (zx BK219) hb);have n1_:=zA (zQ (g:=gb220) (o:=.cells #[.int .i64 a1_0,.slice A1_1 l1_1.length c1_1] 64 (0,0)) (zx BK220) hb);have n2_:=zA (zJb (zz HB) hb);clear BK219;clear BK220;clear HB;have BK219:=n0_;have BK220:=n1_;have HB:=n2_;clear n0_ n1_ n2_;(try clear hb);(try clear hb2);(try clear hk);(try clear hi)
   refine hK.out _ _ ((zP BK219.out 0).trans rfl) (fun hHeld => ?_)
   clear hK K
   refine norm_ (a':=?_) ?_ ?_
   rotate_left
   ·
    show Act.put _ (some 7) _ = _
    simp only [Act.put,zO,zEb,zFb,i64_w,i32_w]
    rfl
   refine zut 2 8 HT_ ?_;refine zut 3 9 HT_ ?_;refine zot 4 10 HT_ ?_;refine zot 5 11 HT_ ?_;refine zot 6 12 HT_ ?_;refine zot 7 13 HT_ ?_;refine zot 8 14 HT_ ?_;refine zot 9 15 HT_ ?_;refine zot 10 16 HT_ ?_;refine zot 11 17 HT_ ?_;refine zut 12 18 HT_ ?_;refine zut 13 19 HT_ ?_;refine zot 14 20 HT_ ?_;refine zot 15 21 HT_ ?_;refine zot 16 22 HT_ ?_;refine zot 17 23 HT_ ?_;refine zot 18 24 HT_ ?_;refine zot 19 25 HT_ ?_;refine zot 20 26 HT_ ?_;refine zot 21 27 HT_ ?_;refine zot 22 28 HT_ ?_;refine zot 23 29 HT_ ?_;refine zut 24 30 HT_ ?_
   refine done_ (done_of HT_.out (by kernel_rfl)) ?_
   try go_wp2
   go_meet
   case rel => exact ⟨_,(true),za,H',⟨by first|omega|exact Nat.le_refl _⟩,⟨zx BK219⟩,⟨zx BK220⟩,⟨zz HB⟩⟩
 case rest =>
  clear HC3;(try clear c1);(try clear p2);(try clear p6);(try clear c7);(try clear c8);(try clear c9);(try clear c10);(try clear c11);obtain ⟨kq,x30_2,rfl,HA,HJ2,BK219,BK220,HB⟩:=hcut
  cases kq with
  | zero => exact absurd HA.out (by simp [spec_IsFact.j0])
  | succ kj2 =>
   have H:=HA.out;clear HA;simp only [spec_IsFact.j0] at H
   by_cases c18 : x30_2 = true
   ·
    subst c18
    rw [if_pos rfl] at H
    obtain rfl:=Option.some.inj H
    go_wp2
    go_ret
    exact ⟨by first|rfl|(simp [errW_none,errW_some] <;> rfl)|(simp [*,errW_none,errW_some] <;> rfl),zz HB⟩
   ·
    replace c18:=Bool.eq_false_iff.mpr c18
    subst c18
    have H1 : (spec_IsFact.l0 kj2 0 a1_0 l1_1) = some r:=by rw [if_neg (show ¬ (false = true) by decide)] at H;exact H
    clear H;have H:=H1;clear H1
    have H':=zA H
    clear H
    go_wp2
    go_loopg [5] kj2 (fun kq v5 w' => ∃ (x5_2 : Int),v5 = .int .i64 x5_2 ∧ Aside0 (spec_IsFact.l0 kq x5_2 a1_0 l1_1 = some r) ∧ Aside0 (kq ≤ kj2) ∧ Aside0 (w'.heap[gb219]? = some (.cells #[(.slice A0_0 l0_0.length c0_0)] 34 (0,0))) ∧ Aside0 (w'.heap[gb220]? = some (.cells #[.int .i64 a1_0,(.slice A1_1 l1_1.length c1_1)] 64 (0,0))) ∧ Aside0 (Below w.heap.size w w'))
    case atStart => exact ⟨(0),za,H',⟨Nat.le_refl _⟩,⟨zx BK219⟩,⟨zx BK220⟩,⟨zz HB⟩⟩
    case round =>
     clear H';(try clear c1);(try clear p2);(try clear p6);(try clear c7);(try clear c8);(try clear c9);(try clear c10);(try clear c11);(try clear c18);(try clear p2);(try clear p6);obtain ⟨x5_2,rfl,HA,HK2,BK219,BK220,HB⟩:=hrel
     cases gk with
     | zero => exact absurd HA.out (by simp [spec_IsFact.l0])
     | succ k2 =>
      have H:=HA.out;clear HA;simp only [spec_IsFact.l0] at H
      by_cases c19 : x5_2 < (l1_1.length : Int)
      ·
       rw [if_pos c19] at H;have c19b0:=decide_eq_true c19;clear c19
       by_cases c20 : 0 ≤ x5_2
       ·
        rw [if_pos c20] at H;have c20b0:=decide_eq_true c20;clear c20;replace H:=Option.bind_eq_some_iff.mp H;obtain ⟨t225,A210,H⟩:=H;(try dsimp only at H);have A21:=zA A210;clear A210
        by_cases c22 : t225 = true
        ·
         subst c22
         rw [if_pos rfl] at H
         have H':=zA H
         clear H;have hnb23:=NB220_219.out;have hnc23:=NB219_220.out;have hcz24_0:=zc (.int .i64 a1_0) BK220 0 rfl;have hcz24_1:=zc (.slice A1_1 l1_1.length c1_1) BK220 1 rfl;have hfz24_0:=blk_frozen BK220.out 0;have hfz24_1:=blk_frozen BK220.out 1;have p224 : 0 ≤ (x5_2 : Int):=zXb ze;have q224 : x5_2 < (l1_1.length : Int):=zXb ze;obtain ⟨ad224,e224,hx224_0⟩:=Kd.at_int HR1_1.out x5_2 p224 q224
         cases e224
         replace hx224_0:=(HB.out.cell (World.block_lt_of_cell? w _ hx224_0)).trans hx224_0;replace p224:=eq_true p224;replace q224:=eq_true q224
         go_wp2_with (first|((with_reducible refine gate_callee (f:=88) rfl ?_);refine goesL_ (some 43) rfl rfl Tryz.func88 (by kernel_rfl) rfl #[.int .i64 (rd l1_1 x5_2),.int .i64 0,.int .i64 99] rfl (by (try simp only [zCb,zMb,zNb]);first|done|rfl|(simp only [zLb,zDb];rfl)) ?_;(with_reducible refine (spec_l1In.calls (rd l1_1 x5_2) 0 99 true _ A21.out).mono ?_);rintro e w' ⟨rfl,⟨nd,rfl⟩⟩;refine ⟨_,rfl,?_⟩))
         go_roundg k2
         case measure => have:=HJ2.out;have:=HK2.out;omega
         case rel => exact ⟨(wrap64 (x5_2 + 1)),za,H',⟨by have:=HJ2.out;have:=HK2.out;omega⟩,⟨zx BK219⟩,⟨zx BK220⟩,⟨zz HB⟩⟩
        ·
         replace c22:=Bool.eq_false_iff.mpr c22
         subst c22
         have H1 : (some false) = some r:=by rw [if_neg (show ¬ (false = true) by decide)] at H;exact H
         clear H;have H:=H1;clear H1
         obtain rfl:=Option.some.inj H
         have hnb25:=NB220_219.out;have hnc25:=NB219_220.out;have hcz26_0:=zc (.int .i64 a1_0) BK220 0 rfl;have hcz26_1:=zc (.slice A1_1 l1_1.length c1_1) BK220 1 rfl;have hfz26_0:=blk_frozen BK220.out 0;have hfz26_1:=blk_frozen BK220.out 1;have p224 : 0 ≤ (x5_2 : Int):=zXb ze;have q224 : x5_2 < (l1_1.length : Int):=zXb ze;obtain ⟨ad224,e224,hx224_0⟩:=Kd.at_int HR1_1.out x5_2 p224 q224
         cases e224
         replace hx224_0:=(HB.out.cell (World.block_lt_of_cell? w _ hx224_0)).trans hx224_0;replace p224:=eq_true p224;replace q224:=eq_true q224
         go_wp2_with (first|((with_reducible refine gate_callee (f:=88) rfl ?_);refine goesL_ (some 43) rfl rfl Tryz.func88 (by kernel_rfl) rfl #[.int .i64 (rd l1_1 x5_2),.int .i64 0,.int .i64 99] rfl (by (try simp only [zCb,zMb,zNb]);first|done|rfl|(simp only [zLb,zDb];rfl)) ?_;(with_reducible refine (spec_l1In.calls (rd l1_1 x5_2) 0 99 false _ A21.out).mono ?_);rintro e w' ⟨rfl,⟨nd,rfl⟩⟩;refine ⟨_,rfl,?_⟩))
         go_ret
         exact ⟨by first|rfl|(simp [errW_none,errW_some] <;> rfl)|(simp [*,errW_none,errW_some] <;> rfl),zz HB⟩
       ·
        rw [if_neg c20] at H
        exact absurd H (by simp)
      ·
       rw [if_neg c19] at H;have c19b0:=decide_eq_false c19;clear c19
       obtain rfl:=Option.some.inj H
       have hnb27:=NB220_219.out;have hnc27:=NB219_220.out;have hcz28_0:=zc (.int .i64 a1_0) BK220 0 rfl;have hcz28_1:=zc (.slice A1_1 l1_1.length c1_1) BK220 1 rfl;have hfz28_0:=blk_frozen BK220.out 0;have hfz28_1:=blk_frozen BK220.out 1
       go_wp2
       go_ret
       exact ⟨by first|rfl|(simp [errW_none,errW_some] <;> rfl)|(simp [*,errW_none,errW_some] <;> rfl),zz HB⟩

end Go.Proofs.YtfelabhakgcifaaGreat.QFnExactAnswers
