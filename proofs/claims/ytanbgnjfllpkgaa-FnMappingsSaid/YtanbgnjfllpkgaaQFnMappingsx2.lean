/- Walks through the Go functions that FnMappings reaches: each call returns what the Lean function beside it says, within the bounds that the theorem names. -/
import Derived.Test.YtanbgnjfllpkgaaQFnMappingsx0
import Derived.Test.YtanbgnjfllpkgaaQFnMappingsx1
namespace Go.Proofs.Ytanbgnjfllpkgaa.QFnMappings
open Go.RowKit Go.Proofs.YtanbgnjfllpkgaaW.PrintWords Go.Proofs.YtanbgnjfllpkgaaW.PrintLast Go.Proofs.YtanbgnjfllpkgaaW.PrintMore
attribute [local go_sem] max2_int min2_int max_two min_two max_three min_three max_four min_four   -- for this text's walks alone
set_option linter.unusedVariables false
set_option linter.unusedSimpArgs false


/-! ### spec_IsAtom: function 150 -/
def spec_IsAtom.f (k : Nat) (l0_0 : List Int) (a1_0 : Int) (l1_1 : List Int) : Option (Bool) := (spec_IsSchema.f k l0_0).bind fun t113 => (if t113 = true then ((spec_l1In.f a1_0 0 (wrap64 ((l0_0.length : Int) - 1))).bind fun t114 => (if t114 = true then (if 0 ≤ a1_0 then (if a1_0 < (l0_0.length : Int) then (if (l1_1.length : Int) = (rd l0_0 a1_0) then ((spec_l3Terms.f k l1_1).bind fun t116 => (some t116)) else (some false)) else (none)) else (none)) else (some false))) else (some false))
def spec_IsAtom.T1 : Bool × List (List Nat × List Nat) := (true, [([], []), ([0], [0]), ([1, 1], [1]), ([2], [2]), ([3, 2], [2, 3]), ([2], [2]), ([5, 2], [2, 5]), ([6, 2], [2, 6]), ([7, 2], [2, 7]), ([4, 8, 2, 2], [2, 4, 8]), ([2, 9], [2, 9]), ([10, 9], [10]), ([11], [11]), ([12, 11], [11, 12]), ([13, 11], [11, 13]), ([11], [11]), ([15, 11], [11, 15]), ([11], [11]), ([17, 11], [11, 17]), ([16, 18, 11], [11, 16, 18]), ([19, 11], [11, 19]), ([14, 20, 11], [11, 14, 20]), ([11, 21], [11, 21]), ([22, 11], [22]), ([23], [23]), ([24, 23], [23, 24]), ([25, 23, 23], [23, 25]), ([23, 26], [23, 26]), ([27, 26, 0, 1, 2, 3, 4, 5, 6, 7, 8, 9, 10, 11, 12, 13, 14, 15, 16, 17, 18, 19, 20, 21, 22, 23, 24, 25, 26, 27], [27])])
def spec_IsAtom.B1 : List Nat := [0, 1, 3, 7, 15, 7, 39, 103, 231, 511, 1023, 2047, 4095, 8191, 16383, 4095, 36863, 4095, 135167, 495615, 1019903, 2097151, 4194303, 8388607, 16777215, 33554431, 67108863, 134217727, 268435455]
theorem spec_IsAtom.tab1 : rtab .any (opsOf Try.f150 1) = spec_IsAtom.T1 := by kernel_rfl
theorem spec_IsAtom.bits1 : waitsOk spec_IsAtom.T1.2 spec_IsAtom.B1 = true := by kernel_rfl
set_option maxHeartbeats 8000000 in
set_option maxRecDepth 100000 in
theorem spec_IsAtom.calls (k : Nat) (A0_0 : Option Addr) (c0_0 : Nat) (l0_0 : List Int) (a1_0 : Int) (A1_1 : Option Addr) (c1_1 : Nat) (l1_1 : List Int) (r : Bool) (w : World) (hr0_0 : Kd.C (Kd.int .i64) w A0_0 l0_0.length l0_0) (hc0_0 : l0_0.length ≤ c0_0) (hr1_1 : Kd.C (Kd.int .i64) w A1_1 l1_1.length l1_1) (hc1_1 : l1_1.length ≤ c1_1) (h : spec_IsAtom.f k l0_0 a1_0 l1_1 = some r) :
  Calls Try.prog 150 #[.agg #[.slice A0_0 l0_0.length c0_0], .agg #[.int .i64 a1_0, .slice A1_1 l1_1.length c1_1]] w fun e w' => e = .returned (.bool r) ∧ Below w.heap.size w w' := by
 have hu65:=Try.underlying65;have hu97:=Try.underlying97;have HR0_0:=zA hr0_0;have HC0_0:=zA hc0_0;clear hr0_0 hc0_0;have HR1_1:=zA hr1_1;have HC1_1:=zA hc1_1;clear hr1_1 hc1_1;have HB:=zA (Below.refl w.heap.size w)
 have H : ((spec_IsSchema.f k l0_0).bind fun t113 => (if t113 = true then ((spec_l1In.f a1_0 0 (wrap64 ((l0_0.length : Int) - 1))).bind fun t114 => (if t114 = true then (if 0 ≤ a1_0 then (if a1_0 < (l0_0.length : Int) then (if (l1_1.length : Int) = (rd l0_0 a1_0) then ((spec_l3Terms.f k l1_1).bind fun t116 => (some t116)) else (some false)) else (none)) else (none)) else (some false))) else (some false))) = some r:=h
 clear h;obtain ⟨t113,A30,H⟩:=zYb.mp H;(try dsimp only at H);have A3:=zA A30;clear A30
 by_cases c4 : t113 = true
 ·
  subst c4
  rw [if_pos rfl] at H;obtain ⟨t114,A50,H⟩:=zYb.mp H;(try dsimp only at H);have A5:=zA A50;clear A50
  by_cases c6 : t114 = true
  ·
   subst c6
   rw [if_pos rfl] at H
   by_cases c7 : 0 ≤ a1_0
   ·
    rw [if_pos c7] at H;have c7b0:=decide_eq_true c7;clear c7
    by_cases c8 : a1_0 < (l0_0.length : Int)
    ·
     rw [if_pos c8] at H;have c8b0:=decide_eq_true c8;clear c8
     by_cases c9 : (l1_1.length : Int) = (rd l0_0 a1_0)
     ·
      rw [if_pos c9] at H;have c9b0:=beq_iff_eq.mpr c9;have c9b1:=bne_eq_false_iff_eq.mpr c9;clear c9;obtain ⟨t116,A100,H⟩:=zYb.mp H;(try dsimp only at H);have A10:=zA A100;clear A100
      obtain rfl:=Option.some.inj H
      go_enter Try.func150,Try.ntmps150
      try go_wp2_with (first|((with_reducible refine gate_dst (N:=2) rfl ?_);(try (refine gate_guard (by rfl) ?_;dsimp only));refine zbx 2 #[.slice A0_0 l0_0.length c0_0] 65 ?_;intro gb111 hg w11 hbox hb;have BK111:=zA (hbox);have GW111:=zgw hg HB;have GE111:=zgw hg HB;replace HB:=zA (zJb (zz HB) hb);clear hb hbox hg)|((with_reducible refine gate_dst (N:=3) rfl ?_);(try (refine gate_guard (by rfl) ?_;dsimp only));refine zbx 3 #[.int .i64 a1_0,.slice A1_1 l1_1.length c1_1] 97 ?_;intro gb112 hg w12 hbox hb;have BK112:=zA (hbox);have GW112:=zgw hg HB;have GE112:=zgw hg HB;replace HB:=zA (zJb (zz HB) hb);have NB111_112:=znb hg BK111;have NB112_111:=znc hg BK111;replace BK111:=zbk BK111 hb;clear hb hbox hg))
      have n0_:=zA (zI BK111.out);have n1_:=zA (zI BK112.out);have n2_:=zA (zJ HB.out);clear BK111;clear BK112;clear HB;have BK111:=n0_;have BK112:=n1_;have HB:=n2_;clear n0_ n1_ n2_;have p115 : 0 ≤ (a1_0 : Int):=zXb ze;have q115 : a1_0 < (l0_0.length : Int):=zXb ze;obtain ⟨ad115,e115,hx115_0⟩:=Kd.at_int HR0_0.out a1_0 p115 q115;have hw115_0:=hx115_0
      cases e115
      replace hx115_0:=zhx HB hx115_0;replace p115:=eq_true p115;replace q115:=eq_true q115
      refine start_ (n:=29) (S:=fun w' => w'.cell? ⟨gb111,0,none⟩ = some (.slice (some ad115) l0_0.length c0_0) ∧ w'.cell? ⟨gb112,0,none⟩ = some (.int .i64 a1_0) ∧ w'.cell? ⟨gb112,1,none⟩ = some (.slice A1_1 l1_1.length c1_1) ∧ w'.cell? (ad115.add (a1_0).toNat) = some (.int .i64 (rd l0_0 a1_0))) (ds:=[]) #[false,false,false,false,false,false,false,false,false,false,false,false,false,false,false,false,false,false,false,false,false,false,false,false,false,false,false,false,false] (by kernel_rfl) rfl rfl ⟨(zP BK111.out 0).trans rfl,(zP BK112.out 0).trans rfl,(zP BK112.out 1).trans rfl,((HB.out.cell (World.block_lt_of_cell? w _ hw115_0)).trans hw115_0)⟩ (fun hHeld => ?_);refine with_tabW spec_IsAtom.tab1 spec_IsAtom.bits1 (fun HT_ HW_ => ?_)
      generalize w12.drew = w13 at BK111 BK112 HB hx115_0 hHeld ⊢
      refine zwt 0 5 HT_ HW_ hHeld ?_
      refine one_ (i:=1) (N:=some 6) #[true,true,false,false,false,false,false,false,false,false,false,false,false,false,false,false,false,false,false,false,false,false,false,false,false,false,false,false,false] rfl rfl (one_of HT_.out (by kernel_rfl)) (by decide) (fun K hK => ?_)
      refine goes_ Try.func148 (by kernel_rfl) rfl #[.agg #[.slice (some ad115) l0_0.length c0_0]] (by rfl) rfl rfl (by (try simp only [zCb,zMb,zNb]);first|done|rfl|(simp only [zLb,zDb];rfl)) ?_
      with_reducible refine (spec_IsSchema.calls k _ _ l0_0 true _ ?side1 ?side2 A3.out).mono ?_
      (case side1 => exact zsd HR0_0 HB)
      (case side2 => exact HC0_0.out)
      rintro e w14 ⟨rfl,hb⟩
      refine ⟨_,rfl,?_⟩
      have n0_:=zbk BK111 hb;have n1_:=zbk BK112 hb;have n2_:=zA (zJb (zz HB) hb);clear BK111;clear BK112;clear HB;have BK111:=n0_;have BK112:=n1_;have HB:=n2_;clear n0_ n1_ n2_;(try clear hb);(try clear hb2);(try clear hk);(try clear hi)
      refine hK.out _ _ ⟨(zP BK111.out 0).trans rfl,(zP BK112.out 0).trans rfl,(zP BK112.out 1).trans rfl,((HB.out.cell (World.block_lt_of_cell? w _ hw115_0)).trans hw115_0)⟩ (fun hHeld => ?_)
      clear hK K
      refine norm_ (a':=?_) ?_ ?_
      rotate_left
      ·
       show Act.put _ (some 6) _ = _
       simp only [Act.put,zO,zEb,zFb,i64_w,i32_w]
       rfl
      refine zut 2 7 HT_ ?_;refine zut 3 8 HT_ ?_;refine zut 5 10 HT_ ?_;refine zwt 4 9 HT_ HW_ hHeld ?_;refine zwt 6 11 HT_ HW_ hHeld ?_;refine zut 7 12 HT_ ?_;refine zut 8 13 HT_ ?_
      refine one_ (i:=9) (N:=some 14) #[true,true,true,true,true,true,true,true,true,true,false,false,false,false,false,false,false,false,false,false,false,false,false,false,false,false,false,false,false] rfl rfl (one_of HT_.out (by kernel_rfl)) (by decide) (fun K hK => ?_)
      refine goes_ Try.func80 (by kernel_rfl) rfl #[.int .i64 a1_0,.int .i64 0,.int .i64 (wrap64 ((l0_0.length : Int) - 1))] (by rfl) rfl rfl (by (try simp only [zCb,zMb,zNb]);first|done|rfl|(simp only [zLb,zDb];rfl)) ?_
      with_reducible refine (spec_l1In.calls a1_0 0 (wrap64 ((l0_0.length : Int) - 1)) true _ A5.out).mono ?_
      rintro e w' ⟨rfl,⟨nd,rfl⟩⟩
      refine ⟨_,rfl,?_⟩
      refine hK.out _ _ ⟨(zP BK111.out 0).trans rfl,(zP BK112.out 0).trans rfl,(zP BK112.out 1).trans rfl,((HB.out.cell (World.block_lt_of_cell? w _ hw115_0)).trans hw115_0)⟩ (fun hHeld => ?_)
      clear hK K
      refine norm_ (a':=?_) ?_ ?_
      rotate_left
      ·
       show Act.put _ (some 14) _ = _
       simp only [Act.put,zO,zEb,zFb,i64_w,i32_w]
       rfl
      refine zut 10 15 HT_ ?_;refine zut 11 16 HT_ ?_;refine zut 12 17 HT_ ?_;refine zut 15 20 HT_ ?_;refine zut 17 22 HT_ ?_;refine zwt 13 18 HT_ HW_ hHeld ?_;refine zut 14 19 HT_ ?_;refine zwt 16 21 HT_ HW_ hHeld ?_;refine zwt 18 23 HT_ HW_ hHeld ?_;refine zut 19 24 HT_ ?_;refine zwt 20 25 HT_ HW_ hHeld ?_;refine zut 21 26 HT_ ?_;refine zut 22 27 HT_ ?_;refine zut 23 28 HT_ ?_;refine zut 24 29 HT_ ?_;refine zwt 25 30 HT_ HW_ hHeld ?_
      refine one_ (i:=26) (N:=some 31) #[true,true,true,true,true,true,true,true,true,true,true,true,true,true,true,true,true,true,true,true,true,true,true,true,true,true,true,false,false] rfl rfl (one_of HT_.out (by kernel_rfl)) (by decide) (fun K hK => ?_)
      refine goes_ Try.func149 (by kernel_rfl) rfl #[.slice A1_1 l1_1.length c1_1] (by rfl) rfl rfl (by (try simp only [zCb,zMb,zNb]);first|done|rfl|(simp only [zLb,zDb];rfl)) ?_
      with_reducible refine (spec_l3Terms.calls k _ _ l1_1 t116 _ ?side1 ?side2 A10.out).mono ?_
      (case side1 => repeat (first|exact (zKb HR1_1.out (zz HB))|(with_reducible refine zBb ?_ _)|(with_reducible refine zAb ?_ _)|(with_reducible refine zX ?_)))
      (case side2 => exact HC1_1.out)
      rintro e w' ⟨rfl,⟨nd,rfl⟩⟩
      refine ⟨_,rfl,?_⟩
      refine hK.out _ _ ⟨(zP BK111.out 0).trans rfl,(zP BK112.out 0).trans rfl,(zP BK112.out 1).trans rfl,((HB.out.cell (World.block_lt_of_cell? w _ hw115_0)).trans hw115_0)⟩ (fun hHeld => ?_)
      clear hK K
      refine norm_ (a':=?_) ?_ ?_
      rotate_left
      ·
       show Act.put _ (some 31) _ = _
       simp only [Act.put,zO,zEb,zFb,i64_w,i32_w]
       rfl
      refine zut 27 32 HT_ ?_;refine zut 28 4 HT_ ?_
      refine done_ (done_of HT_.out (by kernel_rfl)) ?_
      try go_wp2
      go_ret
      exact ⟨zrr,zz HB⟩
     ·
      rw [if_neg c9] at H;have c9b0:=beq_eq_false_iff_ne.mpr c9;have c9b1:=bne_iff_ne.mpr c9
      obtain rfl:=Option.some.inj H
      go_enter Try.func150,Try.ntmps150
      try go_wp2_with (first|((with_reducible refine gate_dst (N:=2) rfl ?_);(try (refine gate_guard (by rfl) ?_;dsimp only));refine zbx 2 #[.slice A0_0 l0_0.length c0_0] 65 ?_;intro gb111 hg w15 hbox hb;have BK111:=zA (hbox);have GW111:=zgw hg HB;have GE111:=zgw hg HB;replace HB:=zA (zJb (zz HB) hb);clear hb hbox hg)|((with_reducible refine gate_dst (N:=3) rfl ?_);(try (refine gate_guard (by rfl) ?_;dsimp only));refine zbx 3 #[.int .i64 a1_0,.slice A1_1 l1_1.length c1_1] 97 ?_;intro gb112 hg w16 hbox hb;have BK112:=zA (hbox);have GW112:=zgw hg HB;have GE112:=zgw hg HB;replace HB:=zA (zJb (zz HB) hb);have NB111_112:=znb hg BK111;have NB112_111:=znc hg BK111;replace BK111:=zbk BK111 hb;clear hb hbox hg))
      have n0_:=zA (zI BK111.out);have n1_:=zA (zI BK112.out);have n2_:=zA (zJ HB.out);clear BK111;clear BK112;clear HB;have BK111:=n0_;have BK112:=n1_;have HB:=n2_;clear n0_ n1_ n2_;have p115 : 0 ≤ (a1_0 : Int):=zXb ze;have q115 : a1_0 < (l0_0.length : Int):=zXb ze;obtain ⟨ad115,e115,hx115_0⟩:=Kd.at_int HR0_0.out a1_0 p115 q115;have hw115_0:=hx115_0
      cases e115
      replace hx115_0:=zhx HB hx115_0;replace p115:=eq_true p115;replace q115:=eq_true q115
      refine start_ (n:=29) (S:=fun w' => w'.cell? ⟨gb111,0,none⟩ = some (.slice (some ad115) l0_0.length c0_0) ∧ w'.cell? ⟨gb112,0,none⟩ = some (.int .i64 a1_0) ∧ w'.cell? ⟨gb112,1,none⟩ = some (.slice A1_1 l1_1.length c1_1) ∧ w'.cell? (ad115.add (a1_0).toNat) = some (.int .i64 (rd l0_0 a1_0))) (ds:=[]) #[false,false,false,false,false,false,false,false,false,false,false,false,false,false,false,false,false,false,false,false,false,false,false,false,false,false,false,false,false] (by kernel_rfl) rfl rfl ⟨(zP BK111.out 0).trans rfl,(zP BK112.out 0).trans rfl,(zP BK112.out 1).trans rfl,((HB.out.cell (World.block_lt_of_cell? w _ hw115_0)).trans hw115_0)⟩ (fun hHeld => ?_);refine with_tabW spec_IsAtom.tab1 spec_IsAtom.bits1 (fun HT_ HW_ => ?_)
      generalize w16.drew = w17 at BK111 BK112 HB hx115_0 hHeld ⊢
      refine zwt 0 5 HT_ HW_ hHeld ?_
      refine one_ (i:=1) (N:=some 6) #[true,true,false,false,false,false,false,false,false,false,false,false,false,false,false,false,false,false,false,false,false,false,false,false,false,false,false,false,false] rfl rfl (one_of HT_.out (by kernel_rfl)) (by decide) (fun K hK => ?_)
      refine goes_ Try.func148 (by kernel_rfl) rfl #[.agg #[.slice (some ad115) l0_0.length c0_0]] (by rfl) rfl rfl (by (try simp only [zCb,zMb,zNb]);first|done|rfl|(simp only [zLb,zDb];rfl)) ?_
      with_reducible refine (spec_IsSchema.calls k _ _ l0_0 true _ ?side1 ?side2 A3.out).mono ?_
      (case side1 => exact zsd HR0_0 HB)
      (case side2 => exact HC0_0.out)
      rintro e w18 ⟨rfl,hb⟩
      refine ⟨_,rfl,?_⟩
      have n0_:=zbk BK111 hb;have n1_:=zbk BK112 hb;have n2_:=zA (zJb (zz HB) hb);clear BK111;clear BK112;clear HB;have BK111:=n0_;have BK112:=n1_;have HB:=n2_;clear n0_ n1_ n2_;(try clear hb);(try clear hb2);(try clear hk);(try clear hi)
      refine hK.out _ _ ⟨(zP BK111.out 0).trans rfl,(zP BK112.out 0).trans rfl,(zP BK112.out 1).trans rfl,((HB.out.cell (World.block_lt_of_cell? w _ hw115_0)).trans hw115_0)⟩ (fun hHeld => ?_)
      clear hK K
      refine norm_ (a':=?_) ?_ ?_
      rotate_left
      ·
       show Act.put _ (some 6) _ = _
       simp only [Act.put,zO,zEb,zFb,i64_w,i32_w]
       rfl
      refine zut 2 7 HT_ ?_;refine zut 3 8 HT_ ?_;refine zut 5 10 HT_ ?_;refine zwt 4 9 HT_ HW_ hHeld ?_;refine zwt 6 11 HT_ HW_ hHeld ?_;refine zut 7 12 HT_ ?_;refine zut 8 13 HT_ ?_
      refine one_ (i:=9) (N:=some 14) #[true,true,true,true,true,true,true,true,true,true,false,false,false,false,false,false,false,false,false,false,false,false,false,false,false,false,false,false,false] rfl rfl (one_of HT_.out (by kernel_rfl)) (by decide) (fun K hK => ?_)
      refine goes_ Try.func80 (by kernel_rfl) rfl #[.int .i64 a1_0,.int .i64 0,.int .i64 (wrap64 ((l0_0.length : Int) - 1))] (by rfl) rfl rfl (by (try simp only [zCb,zMb,zNb]);first|done|rfl|(simp only [zLb,zDb];rfl)) ?_
      with_reducible refine (spec_l1In.calls a1_0 0 (wrap64 ((l0_0.length : Int) - 1)) true _ A5.out).mono ?_
      rintro e w' ⟨rfl,⟨nd,rfl⟩⟩
      refine ⟨_,rfl,?_⟩
      refine hK.out _ _ ⟨(zP BK111.out 0).trans rfl,(zP BK112.out 0).trans rfl,(zP BK112.out 1).trans rfl,((HB.out.cell (World.block_lt_of_cell? w _ hw115_0)).trans hw115_0)⟩ (fun hHeld => ?_)
      clear hK K
      refine norm_ (a':=?_) ?_ ?_
      rotate_left
      ·
       show Act.put _ (some 14) _ = _
       simp only [Act.put,zO,zEb,zFb,i64_w,i32_w]
       rfl
      refine zut 10 15 HT_ ?_;refine zut 11 16 HT_ ?_;refine zut 12 17 HT_ ?_;refine zut 15 20 HT_ ?_;refine zut 17 22 HT_ ?_;refine zwt 13 18 HT_ HW_ hHeld ?_;refine zut 14 19 HT_ ?_;refine zwt 16 21 HT_ HW_ hHeld ?_;refine zwt 18 23 HT_ HW_ hHeld ?_;refine zut 19 24 HT_ ?_;refine zwt 20 25 HT_ HW_ hHeld ?_;refine zut 21 26 HT_ ?_;refine zut 22 27 HT_ ?_;refine zut 23 28 HT_ ?_;refine zot 24 29 HT_ ?_;refine zot 25 30 HT_ ?_;refine zot 26 31 HT_ ?_;refine zut 27 32 HT_ ?_;refine zut 28 4 HT_ ?_
      refine done_ (done_of HT_.out (by kernel_rfl)) ?_
      try go_wp2
      go_ret
      exact ⟨zrr,zz HB⟩
    ·
     rw [if_neg c8] at H
     exact absurd H (by simp)
   ·
    rw [if_neg c7] at H
    exact absurd H (by simp)
  ·
   replace c6:=Bool.eq_false_iff.mpr c6
   subst c6
   have H1 : (some false) = some r:=by rw [if_neg (show ¬ (false = true) by decide)] at H;exact H
   clear H;have H:=H1;clear H1
   obtain rfl:=Option.some.inj H
   go_enter Try.func150,Try.ntmps150
   try go_wp2_with (first|((with_reducible refine gate_dst (N:=2) rfl ?_);(try (refine gate_guard (by rfl) ?_;dsimp only));refine zbx 2 #[.slice A0_0 l0_0.length c0_0] 65 ?_;intro gb111 hg w19 hbox hb;have BK111:=zA (hbox);have GW111:=zgw hg HB;have GE111:=zgw hg HB;replace HB:=zA (zJb (zz HB) hb);clear hb hbox hg)|((with_reducible refine gate_dst (N:=3) rfl ?_);(try (refine gate_guard (by rfl) ?_;dsimp only));refine zbx 3 #[.int .i64 a1_0,.slice A1_1 l1_1.length c1_1] 97 ?_;intro gb112 hg w20 hbox hb;have BK112:=zA (hbox);have GW112:=zgw hg HB;have GE112:=zgw hg HB;replace HB:=zA (zJb (zz HB) hb);have NB111_112:=znb hg BK111;have NB112_111:=znc hg BK111;replace BK111:=zbk BK111 hb;clear hb hbox hg))
   have n0_:=zA (zI BK111.out);have n1_:=zA (zI BK112.out);have n2_:=zA (zJ HB.out);clear BK111;clear BK112;clear HB;have BK111:=n0_;have BK112:=n1_;have HB:=n2_;clear n0_ n1_ n2_
   refine start_ (n:=29) (S:=fun w' => w'.cell? ⟨gb111,0,none⟩ = some (.slice A0_0 l0_0.length c0_0) ∧ w'.cell? ⟨gb112,0,none⟩ = some (.int .i64 a1_0) ∧ w'.cell? ⟨gb112,1,none⟩ = some (.slice A1_1 l1_1.length c1_1)) (ds:=[]) #[false,false,false,false,false,false,false,false,false,false,false,false,false,false,false,false,false,false,false,false,false,false,false,false,false,false,false,false,false] (by kernel_rfl) rfl rfl ⟨(zP BK111.out 0).trans rfl,(zP BK112.out 0).trans rfl,(zP BK112.out 1).trans rfl⟩ (fun hHeld => ?_);refine with_tabW spec_IsAtom.tab1 spec_IsAtom.bits1 (fun HT_ HW_ => ?_)
   generalize w20.drew = w21 at BK111 BK112 HB hHeld ⊢
   refine zwt 0 5 HT_ HW_ hHeld ?_
   refine one_ (i:=1) (N:=some 6) #[true,true,false,false,false,false,false,false,false,false,false,false,false,false,false,false,false,false,false,false,false,false,false,false,false,false,false,false,false] rfl rfl (one_of HT_.out (by kernel_rfl)) (by decide) (fun K hK => ?_)
   refine goes_ Try.func148 (by kernel_rfl) rfl #[.agg #[.slice A0_0 l0_0.length c0_0]] (by rfl) rfl rfl (by (try simp only [zCb,zMb,zNb]);first|done|rfl|(simp only [zLb,zDb];rfl)) ?_
   with_reducible refine (spec_IsSchema.calls k _ _ l0_0 true _ ?side1 ?side2 A3.out).mono ?_
   (case side1 => exact zsd HR0_0 HB)
   (case side2 => exact HC0_0.out)
   rintro e w22 ⟨rfl,hb⟩
   refine ⟨_,rfl,?_⟩
   have n0_:=zbk BK111 hb;have n1_:=zbk BK112 hb;have n2_:=zA (zJb (zz HB) hb);clear BK111;clear BK112;clear HB;have BK111:=n0_;have BK112:=n1_;have HB:=n2_;clear n0_ n1_ n2_;(try clear hb);(try clear hb2);(try clear hk);(try clear hi)
   refine hK.out _ _ ⟨(zP BK111.out 0).trans rfl,(zP BK112.out 0).trans rfl,(zP BK112.out 1).trans rfl⟩ (fun hHeld => ?_)
   clear hK K
   refine norm_ (a':=?_) ?_ ?_
   rotate_left
   ·
    show Act.put _ (some 6) _ = _
    simp only [Act.put,zO,zEb,zFb,i64_w,i32_w]
    rfl
   refine zut 2 7 HT_ ?_;refine zut 3 8 HT_ ?_;refine zut 5 10 HT_ ?_;refine zwt 4 9 HT_ HW_ hHeld ?_;refine zwt 6 11 HT_ HW_ hHeld ?_;refine zut 7 12 HT_ ?_;refine zut 8 13 HT_ ?_
   refine one_ (i:=9) (N:=some 14) #[true,true,true,true,true,true,true,true,true,true,false,false,false,false,false,false,false,false,false,false,false,false,false,false,false,false,false,false,false] rfl rfl (one_of HT_.out (by kernel_rfl)) (by decide) (fun K hK => ?_)
   refine goes_ Try.func80 (by kernel_rfl) rfl #[.int .i64 a1_0,.int .i64 0,.int .i64 (wrap64 ((l0_0.length : Int) - 1))] (by rfl) rfl rfl (by (try simp only [zCb,zMb,zNb]);first|done|rfl|(simp only [zLb,zDb];rfl)) ?_
   with_reducible refine (spec_l1In.calls a1_0 0 (wrap64 ((l0_0.length : Int) - 1)) false _ A5.out).mono ?_
   rintro e w' ⟨rfl,⟨nd,rfl⟩⟩
   refine ⟨_,rfl,?_⟩
   refine hK.out _ _ ⟨(zP BK111.out 0).trans rfl,(zP BK112.out 0).trans rfl,(zP BK112.out 1).trans rfl⟩ (fun hHeld => ?_)
   clear hK K
   refine norm_ (a':=?_) ?_ ?_
   rotate_left
   ·
    show Act.put _ (some 14) _ = _
    simp only [Act.put,zO,zEb,zFb,i64_w,i32_w]
    rfl
   refine zut 10 15 HT_ ?_;refine zut 11 16 HT_ ?_;refine zot 12 17 HT_ ?_;refine zot 13 18 HT_ ?_;refine zot 14 19 HT_ ?_;refine zot 15 20 HT_ ?_;refine zot 16 21 HT_ ?_;refine zot 17 22 HT_ ?_;refine zot 18 23 HT_ ?_;refine zot 19 24 HT_ ?_;refine zot 20 25 HT_ ?_;refine zot 21 26 HT_ ?_;refine zut 22 27 HT_ ?_;refine zut 23 28 HT_ ?_;refine zot 24 29 HT_ ?_;refine zot 25 30 HT_ ?_;refine zot 26 31 HT_ ?_;refine zut 27 32 HT_ ?_;refine zut 28 4 HT_ ?_
   refine done_ (done_of HT_.out (by kernel_rfl)) ?_
   try go_wp2
   go_ret
   exact ⟨zrr,zz HB⟩
 ·
  replace c4:=Bool.eq_false_iff.mpr c4
  subst c4
  have H1 : (some false) = some r:=by rw [if_neg (show ¬ (false = true) by decide)] at H;exact H
  clear H;have H:=H1;clear H1
  obtain rfl:=Option.some.inj H
  go_enter Try.func150,Try.ntmps150
  try go_wp2_with (first|((with_reducible refine gate_dst (N:=2) rfl ?_);(try (refine gate_guard (by rfl) ?_;dsimp only));refine zbx 2 #[.slice A0_0 l0_0.length c0_0] 65 ?_;intro gb111 hg w23 hbox hb;have BK111:=zA (hbox);have GW111:=zgw hg HB;have GE111:=zgw hg HB;replace HB:=zA (zJb (zz HB) hb);clear hb hbox hg)|((with_reducible refine gate_dst (N:=3) rfl ?_);(try (refine gate_guard (by rfl) ?_;dsimp only));refine zbx 3 #[.int .i64 a1_0,.slice A1_1 l1_1.length c1_1] 97 ?_;intro gb112 hg w24 hbox hb;have BK112:=zA (hbox);have GW112:=zgw hg HB;have GE112:=zgw hg HB;replace HB:=zA (zJb (zz HB) hb);have NB111_112:=znb hg BK111;have NB112_111:=znc hg BK111;replace BK111:=zbk BK111 hb;clear hb hbox hg))
  have n0_:=zA (zI BK111.out);have n1_:=zA (zI BK112.out);have n2_:=zA (zJ HB.out);clear BK111;clear BK112;clear HB;have BK111:=n0_;have BK112:=n1_;have HB:=n2_;clear n0_ n1_ n2_
  refine start_ (n:=29) (S:=fun w' => w'.cell? ⟨gb111,0,none⟩ = some (.slice A0_0 l0_0.length c0_0)) (ds:=[]) #[false,false,false,false,false,false,false,false,false,false,false,false,false,false,false,false,false,false,false,false,false,false,false,false,false,false,false,false,false] (by kernel_rfl) rfl rfl ((zP BK111.out 0).trans rfl) (fun hHeld => ?_);refine with_tabW spec_IsAtom.tab1 spec_IsAtom.bits1 (fun HT_ HW_ => ?_)
  generalize w24.drew = w25 at BK111 BK112 HB hHeld ⊢
  refine take_ (i:=0) (N:=some 5) (v:=?_) (a':=?_) #[true,false,false,false,false,false,false,false,false,false,false,false,false,false,false,false,false,false,false,false,false,false,false,false,false,false,false,false,false] rfl rfl (take_ofW HT_.out HW_.out (by kernel_rfl)) (fun _ _ _ h => h) (Or.inl ⟨by rfl,?_⟩) hHeld ?_ ?_
  rotate_left
  ·
   intro w' s0
   go_simp
   with_reducible rfl
  rotate_left
  ·
   simp only [Act.put,zO,zEb,zFb,i64_w,i32_w]
   rfl
  refine one_ (i:=1) (N:=some 6) #[true,true,false,false,false,false,false,false,false,false,false,false,false,false,false,false,false,false,false,false,false,false,false,false,false,false,false,false,false] rfl rfl (one_of HT_.out (by kernel_rfl)) (by decide) (fun K hK => ?_)
  refine goes_ Try.func148 (by kernel_rfl) rfl #[.agg #[.slice A0_0 l0_0.length c0_0]] (by rfl) rfl rfl (by (try simp only [zCb,zMb,zNb]);first|done|rfl|(simp only [zLb,zDb];rfl)) ?_
  with_reducible refine (spec_IsSchema.calls k _ _ l0_0 false _ ?side1 ?side2 A3.out).mono ?_
  (case side1 => exact zsd HR0_0 HB)
  (case side2 => exact HC0_0.out)
  rintro e w26 ⟨rfl,hb⟩
  refine ⟨_,rfl,?_⟩
  have n0_:=zbk BK111 hb;have n1_:=zbk BK112 hb;have n2_:=zA (zJb (zz HB) hb);clear BK111;clear BK112;clear HB;have BK111:=n0_;have BK112:=n1_;have HB:=n2_;clear n0_ n1_ n2_;(try clear hb);(try clear hb2);(try clear hk);(try clear hi)
  refine hK.out _ _ ((zP BK111.out 0).trans rfl) (fun hHeld => ?_)
  clear hK K
  refine norm_ (a':=?_) ?_ ?_
  rotate_left
  ·
   show Act.put _ (some 6) _ = _
   simp only [Act.put,zO,zEb,zFb,i64_w,i32_w]
   rfl
  refine zut 2 7 HT_ ?_;refine zot 3 8 HT_ ?_;refine zot 4 9 HT_ ?_;refine zot 5 10 HT_ ?_;refine zot 6 11 HT_ ?_;refine zot 7 12 HT_ ?_;refine zot 8 13 HT_ ?_;refine zot 9 14 HT_ ?_;refine zut 10 15 HT_ ?_;refine zut 11 16 HT_ ?_;refine zot 12 17 HT_ ?_;refine zot 13 18 HT_ ?_;refine zot 14 19 HT_ ?_;refine zot 15 20 HT_ ?_;refine zot 16 21 HT_ ?_;refine zot 17 22 HT_ ?_;refine zot 18 23 HT_ ?_;refine zot 19 24 HT_ ?_;refine zot 20 25 HT_ ?_;refine zot 21 26 HT_ ?_;refine zut 22 27 HT_ ?_;refine zut 23 28 HT_ ?_;refine zot 24 29 HT_ ?_;refine zot 25 30 HT_ ?_;refine zot 26 31 HT_ ?_;refine zut 27 32 HT_ ?_;refine zut 28 4 HT_ ?_
  refine done_ (done_of HT_.out (by kernel_rfl)) ?_
  try go_wp2
  go_ret
  exact ⟨zrr,zz HB⟩

end Go.Proofs.Ytanbgnjfllpkgaa.QFnMappings
