/- Walks through the Go functions that FnExactCountAnswers reaches: each call returns what the Lean function beside it says, within the bounds that the theorem names. -/
import Derived.Test.YtfelabhakgcifaaGreatQFnExactCountAnswersx0
import Derived.Test.YtfelabhakgcifaaGreatQFnExactCountAnswersx6
import Derived.Test.YtfelabhakgcifaaGreatQFnExactCountAnswersx11
import Derived.Test.YtfelabhakgcifaaGreatQFnExactCountAnswersx12
namespace Go.Proofs.YtfelabhakgcifaaGreat.QFnExactCountAnswers
open Go.RowKit Go.Proofs.YtfelabhakgcifaaGreatW.PrintWords Go.Proofs.YtfelabhakgcifaaGreatW.PrintLast Go.Proofs.YtfelabhakgcifaaGreatW.PrintMore
attribute [local go_sem] max2_int min2_int max_two min_two max_three min_three max_four min_four   -- for this text's walks alone
set_option linter.unusedVariables false
set_option linter.unusedSimpArgs false


/-! ### spec_IsDatabase: function 53 -/
def spec_IsDatabase.l0 : Nat → List (S64) → Int → List Int → Option (Bool)
 | 0, _, _, _ => none
 | k + 1, x1, x5, x308000 => if x5 < (x1.length : Int) then (if 0 ≤ x5 then ((spec_IsFact.f k x308000 ((rd_T64 x1 x5).f0) ((rd_T64 x1 x5).f1)).bind fun t310 => (if t310 = true then (if x5 > 0 then (if 0 ≤ (wrap64 (x5 - 1)) then (if (wrap64 (x5 - 1)) < (x1.length : Int) then ((spec_l5Less.f k ((rd_T64 x1 (wrap64 (x5 - 1))).f0) ((rd_T64 x1 (wrap64 (x5 - 1))).f1) ((rd_T64 x1 x5).f0) ((rd_T64 x1 x5).f1)).bind fun t313 => (if t313 = true then (spec_IsDatabase.l0 k x1 (wrap64 (x5 + 1)) x308000) else (some false))) else (none)) else (none)) else (spec_IsDatabase.l0 k x1 (wrap64 (x5 + 1)) x308000)) else (some false))) else (none)) else ((spec_IsSchema.f k x308000).bind fun t308 => (if t308 = true then (some (decide ((x1.length : Int) ≤ 24))) else (some false)))
def spec_IsDatabase.f (k : Nat) (l0_0 : List Int) (l1 : List (S64)) : Option (Bool) := spec_IsDatabase.l0 k l1 0 l0_0
def spec_IsDatabase.T4 : Bool × List (List Nat × List Nat) := (true, [([], []), ([], []), ([], []), ([1, 2], [1, 2]), ([3], [3]), ([0, 4], [0, 4]), ([5], [5]), ([6, 5], [6]), ([7], [7]), ([8, 7], [7, 8]), ([9, 7, 7], [7, 9]), ([10], [10]), ([10], [10]), ([12, 10], [10, 12]), ([11, 13, 10], [10, 11, 13]), ([14, 10], [10, 14]), ([10], [10]), ([10], [10]), ([16, 17, 10], [10, 16, 17]), ([18, 10], [10, 18]), ([15, 19, 10, 10], [10, 15, 19]), ([20, 10], [10, 20]), ([10, 21, 7], [7, 10, 21]), ([7, 22], [7, 22])])
def spec_IsDatabase.B4 : List Nat := [0, 0, 0, 6, 14, 31, 63, 127, 255, 511, 1023, 2047, 2047, 6143, 16383, 32767, 2047, 2047, 198655, 460799, 1048575, 2097151, 4194303, 8388607]
theorem spec_IsDatabase.tab4 : rtab .any (opsOf Tryz.f53 4) = spec_IsDatabase.T4 := by kernel_rfl
theorem spec_IsDatabase.bits4 : waitsOk spec_IsDatabase.T4.2 spec_IsDatabase.B4 = true := by kernel_rfl
set_option maxHeartbeats 8000000 in
set_option maxRecDepth 100000 in
theorem spec_IsDatabase.calls (k : Nat) (A0_0 : Option Addr) (c0_0 : Nat) (l0_0 : List Int) (A1 : Option Addr) (c1 : Nat) (l1 : List (S64)) (r : Bool) (w : World) (hr0_0 : Kd.C (Kd.int .i64) w A0_0 l0_0.length l0_0) (hc0_0 : l0_0.length ≤ c0_0) (hr1 : Kd.C k64 w A1 l1.length l1) (hc1 : l1.length ≤ c1) (h : spec_IsDatabase.f k l0_0 l1 = some r) :
  Calls Tryz.prog 53 #[.agg #[.slice A0_0 l0_0.length c0_0], .slice A1 l1.length c1] w fun e w' => e = .returned (.bool r) ∧ Below w.heap.size w w' := by
 have hu34:=Tryz.underlying34;have hu64:=Tryz.underlying64;have HR0_0:=zA hr0_0;have HC0_0:=zA hc0_0;clear hr0_0 hc0_0;have HR1:=zA hr1;have HC1:=zA hc1;clear hr1 hc1;have HB:=zA (Below.refl w.heap.size w)
 have H : (spec_IsDatabase.l0 k l1 0 l0_0) = some r:=h
 clear h
 have H':=zA H
 clear H
 go_enter Tryz.func53,Tryz.ntmps53
 go_wp2_with (first|((with_reducible refine gate_dst (N:=2) rfl ?_);(try (refine gate_guard (by rfl) ?_;dsimp only));refine box_event ?hg (N:=2) ?hd (cs:=#[.slice A0_0 l0_0.length c0_0]) (t:=34) ?hr ?_;(case hd => rfl);(case hg => rfl);(case hr => first|(go_simp;done)|(go_simp;rfl));intro gb307 hg w3 hbox hb;have BK307:=zA (hbox);have GW307:=zA ((by rw [hg];exact (zT (zz HB)) : w.heap.size ≤ gb307));have GE307:=zA ((by rw [hg];exact (zT (zz HB)) : w.heap.size ≤ gb307));replace HB:=zA (zJb (zz HB) hb);clear hb hbox hg))
 go_loopg [5] k (fun kq v5 w' => ∃ (x5_1 : Int),v5 = .int .i64 x5_1 ∧ Aside0 (spec_IsDatabase.l0 kq l1 x5_1 l0_0 = some r) ∧ Aside0 (kq ≤ k) ∧ Aside0 (w'.heap[gb307]? = some (.cells #[(.slice A0_0 l0_0.length c0_0)] 34 (0,0))) ∧ Aside0 (Below w.heap.size w w'))
 case atStart => exact ⟨(0),za,H',⟨Nat.le_refl _⟩,⟨zx BK307⟩,⟨zz HB⟩⟩
 case round =>
  clear H';(try clear c1);(try clear p2);obtain ⟨x5_1,rfl,HA,HK1,BK307,HB⟩:=hrel
  cases gk with
  | zero => exact absurd HA.out (by simp [spec_IsDatabase.l0])
  | succ k1 =>
   have H:=HA.out;clear HA;simp only [spec_IsDatabase.l0] at H
   by_cases c4 : x5_1 < (l1.length : Int)
   ·
    rw [if_pos c4] at H;have c4b0:=decide_eq_true c4;clear c4
    by_cases c5 : 0 ≤ x5_1
    ·
     rw [if_pos c5] at H;have c5b0:=decide_eq_true c5;clear c5;replace H:=Option.bind_eq_some_iff.mp H;obtain ⟨t310,A60,H⟩:=H;(try dsimp only at H);have A6:=zA A60;clear A60
     by_cases c7 : t310 = true
     ·
      subst c7
      rw [if_pos rfl] at H
      by_cases c8 : x5_1 > 0
      ·
       rw [if_pos c8] at H
       have c8b0 : decide (0 < x5_1) = true:=decide_eq_true c8
       clear c8;obtain ⟨ji9,hji9⟩ : ∃ j_ : Int,(wrap64 (x5_1 - 1)) = j_:=⟨_,rfl⟩
       replace H : (if 0 ≤ (ji9) then (if (ji9) < (l1.length : Int) then ((spec_l5Less.f k1 ((rd_T64 l1 (ji9)).f0) ((rd_T64 l1 (ji9)).f1) ((rd_T64 l1 x5_1).f0) ((rd_T64 l1 x5_1).f1)).bind fun t313 => (if t313 = true then (spec_IsDatabase.l0 k1 l1 (wrap64 (x5_1 + 1)) l0_0) else (some false))) else (none)) else (none)) = some r:=by first|(rw [hji9] at H;exact H)|(simp only [hji9] at H ⊢;exact H)
       (try rw [hji9] at A6)
       have hji9w : (IntKind.i64.wrap (x5_1 - 1)) = ji9:=(i64_w _).trans hji9
       by_cases c10 : 0 ≤ (ji9)
       ·
        rw [if_pos c10] at H;have c10b0:=decide_eq_true c10;clear c10
        by_cases c11 : (ji9) < (l1.length : Int)
        ·
         rw [if_pos c11] at H;have c11b0:=decide_eq_true c11;clear c11;replace H:=Option.bind_eq_some_iff.mp H;obtain ⟨t313,A120,H⟩:=H;(try dsimp only at H);have A12:=zA A120;clear A120
         by_cases c13 : t313 = true
         ·
          subst c13
          rw [if_pos rfl] at H
          have H':=zA H
          clear H
          try go_wp2
          have n0_:=zA (zI BK307.out);have n1_:=zA (zJ HB.out);clear BK307;clear HB;have BK307:=n0_;have HB:=n1_;clear n0_ n1_;have p309 : 0 ≤ (x5_1 : Int):=zXb ze;have q309 : x5_1 < (l1.length : Int):=zXb ze;obtain ⟨ad309,A309_1,c309_1,e309,hx309_0,hx309_1,hl309_1,hi309_1⟩:=at_T64 HR1.out x5_1 p309 q309;have hw309_1:=hx309_1;have hw309_0:=hx309_0
          cases e309
          replace hx309_0:=(HB.out.cell (World.block_lt_of_cell? w _ hx309_0)).trans hx309_0;replace hx309_1:=(HB.out.cell (World.block_lt_of_cell? w _ hx309_1)).trans hx309_1;have HR309_1:=zA hi309_1;have HC309_1:=zA hl309_1;clear hi309_1 hl309_1;replace p309:=eq_true p309;replace q309:=eq_true q309;have p311 : 0 ≤ ((ji9) : Int):=zXb ze;have q311 : (ji9) < (l1.length : Int):=zXb ze;obtain ⟨ad311,A311_1,c311_1,e311,hx311_0,hx311_1,hl311_1,hi311_1⟩:=at_T64 HR1.out (ji9) p311 q311;have hw311_1:=hx311_1;have hw311_0:=hx311_0
          obtain rfl : ad309 = ad311:=(by injection e311)
          replace hx311_0:=(HB.out.cell (World.block_lt_of_cell? w _ hx311_0)).trans hx311_0;replace hx311_1:=(HB.out.cell (World.block_lt_of_cell? w _ hx311_1)).trans hx311_1;have HR311_1:=zA hi311_1;have HC311_1:=zA hl311_1;clear hi311_1 hl311_1;replace p311:=eq_true p311;replace q311:=eq_true q311;have p312 : 0 ≤ (x5_1 : Int):=zXb ze;have q312 : x5_1 < (l1.length : Int):=zXb ze;obtain ⟨ad312,A312_1,c312_1,e312,hx312_0,hx312_1,hl312_1,hi312_1⟩:=at_T64 HR1.out x5_1 p312 q312;have hw312_1:=hx312_1;have hw312_0:=hx312_0
          obtain rfl : ad309 = ad312:=(by injection e312)
          replace hx312_0:=(HB.out.cell (World.block_lt_of_cell? w _ hx312_0)).trans hx312_0;replace hx312_1:=(HB.out.cell (World.block_lt_of_cell? w _ hx312_1)).trans hx312_1
          obtain ⟨rfl,rfl⟩ : A309_1 = A312_1 ∧ c309_1 = c312_1:=by
           have h_:=Option.some.inj (hx309_1.symm.trans hx312_1)
           injection h_ with h1_ h2_ h3_
           exact ⟨h1_,h3_⟩
          have HR312_1:=zA hi312_1;have HC312_1:=zA hl312_1;clear hi312_1 hl312_1;replace p312:=eq_true p312;replace q312:=eq_true q312
          refine start_ (n:=24) (S:=fun w' => w'.cell? ⟨gb307,0,none⟩ = some (.slice A0_0 l0_0.length c0_0) ∧ w'.cell? (ad309.add ((x5_1).toNat * 2)) = some (.int .i64 ((rd_T64 l1 x5_1).f0)) ∧ w'.cell? ⟨(ad309.add ((x5_1).toNat * 2)).block,(ad309.add ((x5_1).toNat * 2)).off + 1,none⟩ = some (.slice A309_1 ((rd_T64 l1 x5_1).f1).length c309_1) ∧ w'.cell? (ad309.add (((ji9)).toNat * 2)) = some (.int .i64 ((rd_T64 l1 (ji9)).f0)) ∧ w'.cell? ⟨(ad309.add (((ji9)).toNat * 2)).block,(ad309.add (((ji9)).toNat * 2)).off + 1,none⟩ = some (.slice A311_1 ((rd_T64 l1 (ji9)).f1).length c311_1) ∧ w'.cell? (ad309.add ((x5_1).toNat * 2)) = some (.int .i64 ((rd_T64 l1 x5_1).f0)) ∧ w'.cell? ⟨(ad309.add ((x5_1).toNat * 2)).block,(ad309.add ((x5_1).toNat * 2)).off + 1,none⟩ = some (.slice A309_1 ((rd_T64 l1 x5_1).f1).length c309_1)) (ds:=[]) #[false,false,false,false,false,false,false,false,false,false,false,false,false,false,false,false,false,false,false,false,false,false,false,false] (by kernel_rfl) rfl rfl ⟨(zP BK307.out 0).trans rfl,((HB.out.cell (World.block_lt_of_cell? w _ hw309_0)).trans hw309_0),((HB.out.cell (World.block_lt_of_cell? w _ hw309_1)).trans hw309_1),((HB.out.cell (World.block_lt_of_cell? w _ hw311_0)).trans hw311_0),((HB.out.cell (World.block_lt_of_cell? w _ hw311_1)).trans hw311_1),((HB.out.cell (World.block_lt_of_cell? w _ hw312_0)).trans hw312_0),((HB.out.cell (World.block_lt_of_cell? w _ hw312_1)).trans hw312_1)⟩ (fun hHeld => ?_);refine with_tabW spec_IsDatabase.tab4 spec_IsDatabase.bits4 (fun HT_ HW_ => ?_)
          generalize wr.drew = w14 at BK307 HB HR309_1 HR311_1 HR312_1 hx309_0 hx309_1 hx311_0 hx311_1 hx312_0 hx312_1 hHeld ⊢
          refine zut 1 13 HT_ ?_;refine zut 2 14 HT_ ?_;refine zut 3 15 HT_ ?_;refine zwt 0 12 HT_ HW_ hHeld ?_;refine zwt 4 16 HT_ HW_ hHeld ?_
          refine one_ (i:=5) (N:=some 17) #[true,true,true,true,true,true,false,false,false,false,false,false,false,false,false,false,false,false,false,false,false,false,false,false] rfl rfl (one_of HT_.out (by kernel_rfl)) (by decide) (fun K hK => ?_)
          refine goes_ Tryz.func72 (by kernel_rfl) rfl #[.agg #[.slice A0_0 l0_0.length c0_0],.agg #[.int .i64 ((rd_T64 l1 x5_1).f0),.slice A309_1 ((rd_T64 l1 x5_1).f1).length c309_1]] (by rfl) rfl rfl (by (try simp only [zCb,zMb,zNb]);first|done|rfl|(simp only [zLb,zDb];rfl)) ?_
          with_reducible refine (spec_IsFact.calls k1 _ _ l0_0 ((rd_T64 l1 x5_1).f0) _ _ ((rd_T64 l1 x5_1).f1) true _ ?side1 ?side2 ?side3 ?side4 A6.out).mono ?_
          (case side1 => exact zsd HR0_0 HB)
          (case side2 => exact HC0_0.out)
          (case side3 => exact zsd HR309_1 HB)
          (case side4 => exact HC309_1.out)
          rintro e w15 ⟨rfl,hb⟩
          refine ⟨_,rfl,?_⟩
          have n0_:=zA (zQ (g:=gb307) (o:=.cells #[.slice A0_0 l0_0.length c0_0] 34 (0,0)) (zx BK307) hb);have n1_:=zA (zJb (zz HB) hb);clear BK307;clear HB;have BK307:=n0_;have HB:=n1_;clear n0_ n1_;(try clear hb);(try clear hb2);(try clear hk);(try clear hi)
          refine hK.out _ _ ⟨(zP BK307.out 0).trans rfl,((HB.out.cell (World.block_lt_of_cell? w _ hw309_0)).trans hw309_0),((HB.out.cell (World.block_lt_of_cell? w _ hw309_1)).trans hw309_1),((HB.out.cell (World.block_lt_of_cell? w _ hw311_0)).trans hw311_0),((HB.out.cell (World.block_lt_of_cell? w _ hw311_1)).trans hw311_1),((HB.out.cell (World.block_lt_of_cell? w _ hw312_0)).trans hw312_0),((HB.out.cell (World.block_lt_of_cell? w _ hw312_1)).trans hw312_1)⟩ (fun hHeld => ?_)
          clear hK K
          refine norm_ (a':=?_) ?_ ?_
          rotate_left
          ·
           show Act.put _ (some 17) _ = _
           simp only [Act.put,zO,zEb,zFb,i64_w,i32_w]
           rfl
          refine zut 6 18 HT_ ?_;refine zut 7 19 HT_ ?_;refine zut 8 20 HT_ ?_;refine zut 9 21 HT_ ?_;refine zut 10 22 HT_ ?_;refine zut 11 23 HT_ ?_;refine zut 12 24 HT_ ?_;refine zut 13 25 HT_ ?_;refine zut 14 26 HT_ ?_;refine zut 16 28 HT_ ?_;refine zut 17 29 HT_ ?_;refine zut 18 30 HT_ ?_;refine zwt 15 27 HT_ HW_ hHeld ?_;refine zwt 19 31 HT_ HW_ hHeld ?_
          refine one_ (i:=20) (N:=some 32) #[true,true,true,true,true,true,true,true,true,true,true,true,true,true,true,true,true,true,true,true,true,false,false,false] rfl rfl (one_of HT_.out (by kernel_rfl)) (by decide) (fun K hK => ?_)
          refine goes_ Tryz.func73 (by kernel_rfl) rfl #[.agg #[.int .i64 ((rd_T64 l1 (ji9)).f0),.slice A311_1 ((rd_T64 l1 (ji9)).f1).length c311_1],.agg #[.int .i64 ((rd_T64 l1 x5_1).f0),.slice A309_1 ((rd_T64 l1 x5_1).f1).length c309_1]] (by rfl) rfl rfl (by (try simp only [zCb,zMb,zNb]);first|done|(simp only [hji9];rfl)|rfl|(simp only [zLb,zDb];rfl)) ?_
          with_reducible refine (spec_l5Less.calls k1 ((rd_T64 l1 (ji9)).f0) _ _ ((rd_T64 l1 (ji9)).f1) ((rd_T64 l1 x5_1).f0) _ _ ((rd_T64 l1 x5_1).f1) true _ ?side1 ?side2 ?side3 ?side4 A12.out).mono ?_
          (case side1 => exact zsd HR311_1 HB)
          (case side2 => exact HC311_1.out)
          (case side3 => exact zsd HR312_1 HB)
          (case side4 => exact HC312_1.out)
          rintro e w16 ⟨rfl,hb⟩
          refine ⟨_,rfl,?_⟩
          have n0_:=zA (zQ (g:=gb307) (o:=.cells #[.slice A0_0 l0_0.length c0_0] 34 (0,0)) (zx BK307) hb);have n1_:=zA (zJb (zz HB) hb);clear BK307;clear HB;have BK307:=n0_;have HB:=n1_;clear n0_ n1_;(try clear hb);(try clear hb2);(try clear hk);(try clear hi)
          refine hK.out _ _ ⟨(zP BK307.out 0).trans rfl,((HB.out.cell (World.block_lt_of_cell? w _ hw309_0)).trans hw309_0),((HB.out.cell (World.block_lt_of_cell? w _ hw309_1)).trans hw309_1),((HB.out.cell (World.block_lt_of_cell? w _ hw311_0)).trans hw311_0),((HB.out.cell (World.block_lt_of_cell? w _ hw311_1)).trans hw311_1),((HB.out.cell (World.block_lt_of_cell? w _ hw312_0)).trans hw312_0),((HB.out.cell (World.block_lt_of_cell? w _ hw312_1)).trans hw312_1)⟩ (fun hHeld => ?_)
          clear hK K
          refine norm_ (a':=?_) ?_ ?_
          rotate_left
          ·
           show Act.put _ (some 32) _ = _
           simp only [Act.put,zO,zEb,zFb,i64_w,i32_w]
           rfl
          refine zut 21 33 HT_ ?_;refine zut 22 34 HT_ ?_;refine zut 23 35 HT_ ?_
          refine done_ (done_of HT_.out (by kernel_rfl)) ?_
          try go_wp2
          go_roundg k1
          case measure => have:=HK1.out;omega
          case rel => exact ⟨(wrap64 (x5_1 + 1)),za,H',⟨by have:=HK1.out;omega⟩,⟨zx BK307⟩,⟨zz HB⟩⟩
         ·
          replace c13:=Bool.eq_false_iff.mpr c13
          subst c13
          have H1 : (some false) = some r:=by rw [if_neg (show ¬ (false = true) by decide)] at H;exact H
          clear H;have H:=H1;clear H1
          obtain rfl:=Option.some.inj H
          try go_wp2
          have n0_:=zA (zI BK307.out);have n1_:=zA (zJ HB.out);clear BK307;clear HB;have BK307:=n0_;have HB:=n1_;clear n0_ n1_;have p309 : 0 ≤ (x5_1 : Int):=zXb ze;have q309 : x5_1 < (l1.length : Int):=zXb ze;obtain ⟨ad309,A309_1,c309_1,e309,hx309_0,hx309_1,hl309_1,hi309_1⟩:=at_T64 HR1.out x5_1 p309 q309;have hw309_1:=hx309_1;have hw309_0:=hx309_0
          cases e309
          replace hx309_0:=(HB.out.cell (World.block_lt_of_cell? w _ hx309_0)).trans hx309_0;replace hx309_1:=(HB.out.cell (World.block_lt_of_cell? w _ hx309_1)).trans hx309_1;have HR309_1:=zA hi309_1;have HC309_1:=zA hl309_1;clear hi309_1 hl309_1;replace p309:=eq_true p309;replace q309:=eq_true q309;have p311 : 0 ≤ ((ji9) : Int):=zXb ze;have q311 : (ji9) < (l1.length : Int):=zXb ze;obtain ⟨ad311,A311_1,c311_1,e311,hx311_0,hx311_1,hl311_1,hi311_1⟩:=at_T64 HR1.out (ji9) p311 q311;have hw311_1:=hx311_1;have hw311_0:=hx311_0
          obtain rfl : ad309 = ad311:=(by injection e311)
          replace hx311_0:=(HB.out.cell (World.block_lt_of_cell? w _ hx311_0)).trans hx311_0;replace hx311_1:=(HB.out.cell (World.block_lt_of_cell? w _ hx311_1)).trans hx311_1;have HR311_1:=zA hi311_1;have HC311_1:=zA hl311_1;clear hi311_1 hl311_1;replace p311:=eq_true p311;replace q311:=eq_true q311;have p312 : 0 ≤ (x5_1 : Int):=zXb ze;have q312 : x5_1 < (l1.length : Int):=zXb ze;obtain ⟨ad312,A312_1,c312_1,e312,hx312_0,hx312_1,hl312_1,hi312_1⟩:=at_T64 HR1.out x5_1 p312 q312;have hw312_1:=hx312_1;have hw312_0:=hx312_0
          obtain rfl : ad309 = ad312:=(by injection e312)
          replace hx312_0:=(HB.out.cell (World.block_lt_of_cell? w _ hx312_0)).trans hx312_0;replace hx312_1:=(HB.out.cell (World.block_lt_of_cell? w _ hx312_1)).trans hx312_1
          obtain ⟨rfl,rfl⟩ : A309_1 = A312_1 ∧ c309_1 = c312_1:=by
           have h_:=Option.some.inj (hx309_1.symm.trans hx312_1)
           injection h_ with h1_ h2_ h3_
           exact ⟨h1_,h3_⟩
          have HR312_1:=zA hi312_1;have HC312_1:=zA hl312_1;clear hi312_1 hl312_1;replace p312:=eq_true p312;replace q312:=eq_true q312
          refine start_ (n:=24) (S:=fun w' => w'.cell? ⟨gb307,0,none⟩ = some (.slice A0_0 l0_0.length c0_0) ∧ w'.cell? (ad309.add ((x5_1).toNat * 2)) = some (.int .i64 ((rd_T64 l1 x5_1).f0)) ∧ w'.cell? ⟨(ad309.add ((x5_1).toNat * 2)).block,(ad309.add ((x5_1).toNat * 2)).off + 1,none⟩ = some (.slice A309_1 ((rd_T64 l1 x5_1).f1).length c309_1) ∧ w'.cell? (ad309.add (((ji9)).toNat * 2)) = some (.int .i64 ((rd_T64 l1 (ji9)).f0)) ∧ w'.cell? ⟨(ad309.add (((ji9)).toNat * 2)).block,(ad309.add (((ji9)).toNat * 2)).off + 1,none⟩ = some (.slice A311_1 ((rd_T64 l1 (ji9)).f1).length c311_1) ∧ w'.cell? (ad309.add ((x5_1).toNat * 2)) = some (.int .i64 ((rd_T64 l1 x5_1).f0)) ∧ w'.cell? ⟨(ad309.add ((x5_1).toNat * 2)).block,(ad309.add ((x5_1).toNat * 2)).off + 1,none⟩ = some (.slice A309_1 ((rd_T64 l1 x5_1).f1).length c309_1)) (ds:=[]) #[false,false,false,false,false,false,false,false,false,false,false,false,false,false,false,false,false,false,false,false,false,false,false,false] (by kernel_rfl) rfl rfl ⟨(zP BK307.out 0).trans rfl,((HB.out.cell (World.block_lt_of_cell? w _ hw309_0)).trans hw309_0),((HB.out.cell (World.block_lt_of_cell? w _ hw309_1)).trans hw309_1),((HB.out.cell (World.block_lt_of_cell? w _ hw311_0)).trans hw311_0),((HB.out.cell (World.block_lt_of_cell? w _ hw311_1)).trans hw311_1),((HB.out.cell (World.block_lt_of_cell? w _ hw312_0)).trans hw312_0),((HB.out.cell (World.block_lt_of_cell? w _ hw312_1)).trans hw312_1)⟩ (fun hHeld => ?_);refine with_tabW spec_IsDatabase.tab4 spec_IsDatabase.bits4 (fun HT_ HW_ => ?_)
          generalize wr.drew = w17 at BK307 HB HR309_1 HR311_1 HR312_1 hx309_0 hx309_1 hx311_0 hx311_1 hx312_0 hx312_1 hHeld ⊢
          refine zut 1 13 HT_ ?_;refine zut 2 14 HT_ ?_;refine zut 3 15 HT_ ?_;refine zwt 0 12 HT_ HW_ hHeld ?_;refine zwt 4 16 HT_ HW_ hHeld ?_
          refine one_ (i:=5) (N:=some 17) #[true,true,true,true,true,true,false,false,false,false,false,false,false,false,false,false,false,false,false,false,false,false,false,false] rfl rfl (one_of HT_.out (by kernel_rfl)) (by decide) (fun K hK => ?_)
          refine goes_ Tryz.func72 (by kernel_rfl) rfl #[.agg #[.slice A0_0 l0_0.length c0_0],.agg #[.int .i64 ((rd_T64 l1 x5_1).f0),.slice A309_1 ((rd_T64 l1 x5_1).f1).length c309_1]] (by rfl) rfl rfl (by (try simp only [zCb,zMb,zNb]);first|done|rfl|(simp only [zLb,zDb];rfl)) ?_
          with_reducible refine (spec_IsFact.calls k1 _ _ l0_0 ((rd_T64 l1 x5_1).f0) _ _ ((rd_T64 l1 x5_1).f1) true _ ?side1 ?side2 ?side3 ?side4 A6.out).mono ?_
          (case side1 => exact zsd HR0_0 HB)
          (case side2 => exact HC0_0.out)
          (case side3 => exact zsd HR309_1 HB)
          (case side4 => exact HC309_1.out)
          rintro e w18 ⟨rfl,hb⟩
          refine ⟨_,rfl,?_⟩
          have n0_:=zA (zQ (g:=gb307) (o:=.cells #[.slice A0_0 l0_0.length c0_0] 34 (0,0)) (zx BK307) hb);have n1_:=zA (zJb (zz HB) hb);clear BK307;clear HB;have BK307:=n0_;have HB:=n1_;clear n0_ n1_;(try clear hb);(try clear hb2);(try clear hk);(try clear hi)
          refine hK.out _ _ ⟨(zP BK307.out 0).trans rfl,((HB.out.cell (World.block_lt_of_cell? w _ hw309_0)).trans hw309_0),((HB.out.cell (World.block_lt_of_cell? w _ hw309_1)).trans hw309_1),((HB.out.cell (World.block_lt_of_cell? w _ hw311_0)).trans hw311_0),((HB.out.cell (World.block_lt_of_cell? w _ hw311_1)).trans hw311_1),((HB.out.cell (World.block_lt_of_cell? w _ hw312_0)).trans hw312_0),((HB.out.cell (World.block_lt_of_cell? w _ hw312_1)).trans hw312_1)⟩ (fun hHeld => ?_)
          clear hK K
          refine norm_ (a':=?_) ?_ ?_
          rotate_left
          ·
           show Act.put _ (some 17) _ = _
           simp only [Act.put,zO,zEb,zFb,i64_w,i32_w]
           rfl
          refine zut 6 18 HT_ ?_;refine zut 7 19 HT_ ?_;refine zut 8 20 HT_ ?_;refine zut 9 21 HT_ ?_;refine zut 10 22 HT_ ?_;refine zut 11 23 HT_ ?_;refine zut 12 24 HT_ ?_;refine zut 13 25 HT_ ?_;refine zut 14 26 HT_ ?_;refine zut 16 28 HT_ ?_;refine zut 17 29 HT_ ?_;refine zut 18 30 HT_ ?_;refine zwt 15 27 HT_ HW_ hHeld ?_;refine zwt 19 31 HT_ HW_ hHeld ?_
          refine one_ (i:=20) (N:=some 32) #[true,true,true,true,true,true,true,true,true,true,true,true,true,true,true,true,true,true,true,true,true,false,false,false] rfl rfl (one_of HT_.out (by kernel_rfl)) (by decide) (fun K hK => ?_)
          refine goes_ Tryz.func73 (by kernel_rfl) rfl #[.agg #[.int .i64 ((rd_T64 l1 (ji9)).f0),.slice A311_1 ((rd_T64 l1 (ji9)).f1).length c311_1],.agg #[.int .i64 ((rd_T64 l1 x5_1).f0),.slice A309_1 ((rd_T64 l1 x5_1).f1).length c309_1]] (by rfl) rfl rfl (by (try simp only [zCb,zMb,zNb]);first|done|(simp only [hji9];rfl)|rfl|(simp only [zLb,zDb];rfl)) ?_
          with_reducible refine (spec_l5Less.calls k1 ((rd_T64 l1 (ji9)).f0) _ _ ((rd_T64 l1 (ji9)).f1) ((rd_T64 l1 x5_1).f0) _ _ ((rd_T64 l1 x5_1).f1) false _ ?side1 ?side2 ?side3 ?side4 A12.out).mono ?_
          (case side1 => exact zsd HR311_1 HB)
          (case side2 => exact HC311_1.out)
          (case side3 => exact zsd HR312_1 HB)
          (case side4 => exact HC312_1.out)
          rintro e w19 ⟨rfl,hb⟩
          refine ⟨_,rfl,?_⟩
          have n0_:=zA (zQ (g:=gb307) (o:=.cells #[.slice A0_0 l0_0.length c0_0] 34 (0,0)) (zx BK307) hb);have n1_:=zA (zJb (zz HB) hb);clear BK307;clear HB;have BK307:=n0_;have HB:=n1_;clear n0_ n1_;(try clear hb);(try clear hb2);(try clear hk);(try clear hi)
          refine hK.out _ _ ⟨(zP BK307.out 0).trans rfl,((HB.out.cell (World.block_lt_of_cell? w _ hw309_0)).trans hw309_0),((HB.out.cell (World.block_lt_of_cell? w _ hw309_1)).trans hw309_1),((HB.out.cell (World.block_lt_of_cell? w _ hw311_0)).trans hw311_0),((HB.out.cell (World.block_lt_of_cell? w _ hw311_1)).trans hw311_1),((HB.out.cell (World.block_lt_of_cell? w _ hw312_0)).trans hw312_0),((HB.out.cell (World.block_lt_of_cell? w _ hw312_1)).trans hw312_1)⟩ (fun hHeld => ?_)
          clear hK K
          refine norm_ (a':=?_) ?_ ?_
          rotate_left
          ·
           show Act.put _ (some 32) _ = _
           simp only [Act.put,zO,zEb,zFb,i64_w,i32_w]
           rfl
          refine zut 21 33 HT_ ?_;refine zut 22 34 HT_ ?_;refine zut 23 35 HT_ ?_
          refine done_ (done_of HT_.out (by kernel_rfl)) ?_
          try go_wp2
          go_ret
          exact ⟨by first|rfl|(simp [errW_none,errW_some] <;> rfl)|(simp only [← hji9];first|rfl|(simp [errW_none,errW_some] <;> rfl))|(simp [*,errW_none,errW_some] <;> rfl),zz HB⟩
        ·
         rw [if_neg c11] at H
         exact absurd H (by simp)
       ·
        rw [if_neg c10] at H
        exact absurd H (by simp)
      ·
       rw [if_neg c8] at H
       have c8b0 : decide (0 < x5_1) = false:=decide_eq_false c8
       clear c8
       have H':=zA H
       clear H
       try go_wp2
       have n0_:=zA (zI BK307.out);have n1_:=zA (zJ HB.out);clear BK307;clear HB;have BK307:=n0_;have HB:=n1_;clear n0_ n1_;have p309 : 0 ≤ (x5_1 : Int):=zXb ze;have q309 : x5_1 < (l1.length : Int):=zXb ze;obtain ⟨ad309,A309_1,c309_1,e309,hx309_0,hx309_1,hl309_1,hi309_1⟩:=at_T64 HR1.out x5_1 p309 q309;have hw309_1:=hx309_1;have hw309_0:=hx309_0
       cases e309
       replace hx309_0:=(HB.out.cell (World.block_lt_of_cell? w _ hx309_0)).trans hx309_0;replace hx309_1:=(HB.out.cell (World.block_lt_of_cell? w _ hx309_1)).trans hx309_1;have HR309_1:=zA hi309_1;have HC309_1:=zA hl309_1;clear hi309_1 hl309_1;replace p309:=eq_true p309;replace q309:=eq_true q309
       refine start_ (n:=24) (S:=fun w' => w'.cell? ⟨gb307,0,none⟩ = some (.slice A0_0 l0_0.length c0_0) ∧ w'.cell? (ad309.add ((x5_1).toNat * 2)) = some (.int .i64 ((rd_T64 l1 x5_1).f0)) ∧ w'.cell? ⟨(ad309.add ((x5_1).toNat * 2)).block,(ad309.add ((x5_1).toNat * 2)).off + 1,none⟩ = some (.slice A309_1 ((rd_T64 l1 x5_1).f1).length c309_1)) (ds:=[]) #[false,false,false,false,false,false,false,false,false,false,false,false,false,false,false,false,false,false,false,false,false,false,false,false] (by kernel_rfl) rfl rfl ⟨(zP BK307.out 0).trans rfl,((HB.out.cell (World.block_lt_of_cell? w _ hw309_0)).trans hw309_0),((HB.out.cell (World.block_lt_of_cell? w _ hw309_1)).trans hw309_1)⟩ (fun hHeld => ?_);refine with_tabW spec_IsDatabase.tab4 spec_IsDatabase.bits4 (fun HT_ HW_ => ?_)
       generalize wr.drew = w20 at BK307 HB HR309_1 hx309_0 hx309_1 hHeld ⊢
       refine zut 1 13 HT_ ?_;refine zut 2 14 HT_ ?_;refine zut 3 15 HT_ ?_;refine zwt 0 12 HT_ HW_ hHeld ?_;refine zwt 4 16 HT_ HW_ hHeld ?_
       refine one_ (i:=5) (N:=some 17) #[true,true,true,true,true,true,false,false,false,false,false,false,false,false,false,false,false,false,false,false,false,false,false,false] rfl rfl (one_of HT_.out (by kernel_rfl)) (by decide) (fun K hK => ?_)
       refine goes_ Tryz.func72 (by kernel_rfl) rfl #[.agg #[.slice A0_0 l0_0.length c0_0],.agg #[.int .i64 ((rd_T64 l1 x5_1).f0),.slice A309_1 ((rd_T64 l1 x5_1).f1).length c309_1]] (by rfl) rfl rfl (by (try simp only [zCb,zMb,zNb]);first|done|rfl|(simp only [zLb,zDb];rfl)) ?_
       with_reducible refine (spec_IsFact.calls k1 _ _ l0_0 ((rd_T64 l1 x5_1).f0) _ _ ((rd_T64 l1 x5_1).f1) true _ ?side1 ?side2 ?side3 ?side4 A6.out).mono ?_
       (case side1 => exact zsd HR0_0 HB)
       (case side2 => exact HC0_0.out)
       (case side3 => exact zsd HR309_1 HB)
       (case side4 => exact HC309_1.out)
       rintro e w21 ⟨rfl,hb⟩
       refine ⟨_,rfl,?_⟩
       have n0_:=zA (zQ (g:=gb307) (o:=.cells #[.slice A0_0 l0_0.length c0_0] 34 (0,0)) (zx BK307) hb);have n1_:=zA (zJb (zz HB) hb);clear BK307;clear HB;have BK307:=n0_;have HB:=n1_;clear n0_ n1_;(try clear hb);(try clear hb2);(try clear hk);(try clear hi)
       refine hK.out _ _ ⟨(zP BK307.out 0).trans rfl,((HB.out.cell (World.block_lt_of_cell? w _ hw309_0)).trans hw309_0),((HB.out.cell (World.block_lt_of_cell? w _ hw309_1)).trans hw309_1)⟩ (fun hHeld => ?_)
       clear hK K
       refine norm_ (a':=?_) ?_ ?_
       rotate_left
       ·
        show Act.put _ (some 17) _ = _
        simp only [Act.put,zO,zEb,zFb,i64_w,i32_w]
        rfl
       refine zut 6 18 HT_ ?_;refine zut 7 19 HT_ ?_;refine zut 8 20 HT_ ?_;refine zut 9 21 HT_ ?_;refine zut 10 22 HT_ ?_;refine zot 11 23 HT_ ?_;refine zot 12 24 HT_ ?_;refine zot 13 25 HT_ ?_;refine zot 14 26 HT_ ?_;refine zot 15 27 HT_ ?_;refine zot 16 28 HT_ ?_;refine zot 17 29 HT_ ?_;refine zot 18 30 HT_ ?_;refine zot 19 31 HT_ ?_;refine zot 20 32 HT_ ?_;refine zot 21 33 HT_ ?_;refine zut 22 34 HT_ ?_;refine zut 23 35 HT_ ?_
       refine done_ (done_of HT_.out (by kernel_rfl)) ?_
       try go_wp2
       go_roundg k1
       case measure => have:=HK1.out;omega
       case rel => exact ⟨(wrap64 (x5_1 + 1)),za,H',⟨by have:=HK1.out;omega⟩,⟨zx BK307⟩,⟨zz HB⟩⟩
     ·
      replace c7:=Bool.eq_false_iff.mpr c7
      subst c7
      have H1 : (some false) = some r:=by rw [if_neg (show ¬ (false = true) by decide)] at H;exact H
      clear H;have H:=H1;clear H1
      obtain rfl:=Option.some.inj H
      try go_wp2
      have n0_:=zA (zI BK307.out);have n1_:=zA (zJ HB.out);clear BK307;clear HB;have BK307:=n0_;have HB:=n1_;clear n0_ n1_;have p309 : 0 ≤ (x5_1 : Int):=zXb ze;have q309 : x5_1 < (l1.length : Int):=zXb ze;obtain ⟨ad309,A309_1,c309_1,e309,hx309_0,hx309_1,hl309_1,hi309_1⟩:=at_T64 HR1.out x5_1 p309 q309;have hw309_1:=hx309_1;have hw309_0:=hx309_0
      cases e309
      replace hx309_0:=(HB.out.cell (World.block_lt_of_cell? w _ hx309_0)).trans hx309_0;replace hx309_1:=(HB.out.cell (World.block_lt_of_cell? w _ hx309_1)).trans hx309_1;have HR309_1:=zA hi309_1;have HC309_1:=zA hl309_1;clear hi309_1 hl309_1;replace p309:=eq_true p309;replace q309:=eq_true q309
      refine start_ (n:=24) (S:=fun w' => w'.cell? ⟨gb307,0,none⟩ = some (.slice A0_0 l0_0.length c0_0) ∧ w'.cell? (ad309.add ((x5_1).toNat * 2)) = some (.int .i64 ((rd_T64 l1 x5_1).f0)) ∧ w'.cell? ⟨(ad309.add ((x5_1).toNat * 2)).block,(ad309.add ((x5_1).toNat * 2)).off + 1,none⟩ = some (.slice A309_1 ((rd_T64 l1 x5_1).f1).length c309_1)) (ds:=[]) #[false,false,false,false,false,false,false,false,false,false,false,false,false,false,false,false,false,false,false,false,false,false,false,false] (by kernel_rfl) rfl rfl ⟨(zP BK307.out 0).trans rfl,((HB.out.cell (World.block_lt_of_cell? w _ hw309_0)).trans hw309_0),((HB.out.cell (World.block_lt_of_cell? w _ hw309_1)).trans hw309_1)⟩ (fun hHeld => ?_);refine with_tabW spec_IsDatabase.tab4 spec_IsDatabase.bits4 (fun HT_ HW_ => ?_)
      generalize wr.drew = w22 at BK307 HB HR309_1 hx309_0 hx309_1 hHeld ⊢
      refine zut 1 13 HT_ ?_;refine zut 2 14 HT_ ?_;refine zut 3 15 HT_ ?_;refine zwt 0 12 HT_ HW_ hHeld ?_;refine zwt 4 16 HT_ HW_ hHeld ?_
      refine one_ (i:=5) (N:=some 17) #[true,true,true,true,true,true,false,false,false,false,false,false,false,false,false,false,false,false,false,false,false,false,false,false] rfl rfl (one_of HT_.out (by kernel_rfl)) (by decide) (fun K hK => ?_)
      refine goes_ Tryz.func72 (by kernel_rfl) rfl #[.agg #[.slice A0_0 l0_0.length c0_0],.agg #[.int .i64 ((rd_T64 l1 x5_1).f0),.slice A309_1 ((rd_T64 l1 x5_1).f1).length c309_1]] (by rfl) rfl rfl (by (try simp only [zCb,zMb,zNb]);first|done|rfl|(simp only [zLb,zDb];rfl)) ?_
      with_reducible refine (spec_IsFact.calls k1 _ _ l0_0 ((rd_T64 l1 x5_1).f0) _ _ ((rd_T64 l1 x5_1).f1) false _ ?side1 ?side2 ?side3 ?side4 A6.out).mono ?_
      (case side1 => exact zsd HR0_0 HB)
      (case side2 => exact HC0_0.out)
      (case side3 => exact zsd HR309_1 HB)
      (case side4 => exact HC309_1.out)
      rintro e w23 ⟨rfl,hb⟩
      refine ⟨_,rfl,?_⟩
      have n0_:=zA (zQ (g:=gb307) (o:=.cells #[.slice A0_0 l0_0.length c0_0] 34 (0,0)) (zx BK307) hb);have n1_:=zA (zJb (zz HB) hb);clear BK307;clear HB;have BK307:=n0_;have HB:=n1_;clear n0_ n1_;(try clear hb);(try clear hb2);(try clear hk);(try clear hi)
      refine hK.out _ _ ⟨(zP BK307.out 0).trans rfl,((HB.out.cell (World.block_lt_of_cell? w _ hw309_0)).trans hw309_0),((HB.out.cell (World.block_lt_of_cell? w _ hw309_1)).trans hw309_1)⟩ (fun hHeld => ?_)
      clear hK K
      refine norm_ (a':=?_) ?_ ?_
      rotate_left
      ·
       show Act.put _ (some 17) _ = _
       simp only [Act.put,zO,zEb,zFb,i64_w,i32_w]
       rfl
      refine zut 6 18 HT_ ?_;refine zut 7 19 HT_ ?_;refine zot 8 20 HT_ ?_;refine zot 9 21 HT_ ?_;refine zot 10 22 HT_ ?_;refine zot 11 23 HT_ ?_;refine zot 12 24 HT_ ?_;refine zot 13 25 HT_ ?_;refine zot 14 26 HT_ ?_;refine zot 15 27 HT_ ?_;refine zot 16 28 HT_ ?_;refine zot 17 29 HT_ ?_;refine zot 18 30 HT_ ?_;refine zot 19 31 HT_ ?_;refine zot 20 32 HT_ ?_;refine zot 21 33 HT_ ?_;refine zot 22 34 HT_ ?_;refine zut 23 35 HT_ ?_
      refine done_ (done_of HT_.out (by kernel_rfl)) ?_
      try go_wp2
      go_ret
      exact ⟨by first|rfl|(simp [errW_none,errW_some] <;> rfl)|(simp [*,errW_none,errW_some] <;> rfl),zz HB⟩
    ·
     rw [if_neg c5] at H
     exact absurd H (by simp)
   ·
    rw [if_neg c4] at H;have c4b0:=decide_eq_false c4;clear c4;replace H:=Option.bind_eq_some_iff.mp H;obtain ⟨t308,A240,H⟩:=H;(try dsimp only at H);have A24:=zA A240;clear A240
    by_cases c25 : t308 = true
    ·
     subst c25
     rw [if_pos rfl] at H
     obtain rfl:=Option.some.inj H
     have hcz26_0:=zc (.slice A0_0 l0_0.length c0_0) BK307 0 rfl;have hfz26_0:=blk_frozen BK307.out 0
     go_wp2_with (first|((with_reducible refine gate_callee (f:=74) rfl ?_);refine goesL_ (some 37) rfl rfl Tryz.func74 (by kernel_rfl) rfl #[.agg #[.slice A0_0 l0_0.length c0_0]] rfl (by (try simp only [zCb,zMb,zNb]);first|done|rfl|(simp only [zLb,zDb];rfl)) ?_;(with_reducible refine (spec_IsSchema.calls k1 _ _ l0_0 true _ ?side1 ?side2 A24.out).mono ?_);(case side1 => exact zsd HR0_0 HB);(case side2 => exact HC0_0.out);rintro e w27 ⟨rfl,hb⟩;refine ⟨_,rfl,?_⟩;replace BK307:=zA (zQ (g:=gb307) (o:=.cells #[.slice A0_0 l0_0.length c0_0] 34 (0,0)) (zx BK307) hb);replace HB:=zA (zJb (zz HB) hb);(try clear hb);(try clear hb2);(try clear hk);(try clear hi)))
     go_ret
     exact ⟨by first|rfl|(simp [errW_none,errW_some] <;> rfl)|(simp [*,errW_none,errW_some] <;> rfl),zz HB⟩
    ·
     replace c25:=Bool.eq_false_iff.mpr c25
     subst c25
     have H1 : (some false) = some r:=by rw [if_neg (show ¬ (false = true) by decide)] at H;exact H
     clear H;have H:=H1;clear H1
     obtain rfl:=Option.some.inj H
     have hcz28_0:=zc (.slice A0_0 l0_0.length c0_0) BK307 0 rfl;have hfz28_0:=blk_frozen BK307.out 0
     go_wp2_with (first|((with_reducible refine gate_callee (f:=74) rfl ?_);refine goesL_ (some 37) rfl rfl Tryz.func74 (by kernel_rfl) rfl #[.agg #[.slice A0_0 l0_0.length c0_0]] rfl (by (try simp only [zCb,zMb,zNb]);first|done|rfl|(simp only [zLb,zDb];rfl)) ?_;(with_reducible refine (spec_IsSchema.calls k1 _ _ l0_0 false _ ?side1 ?side2 A24.out).mono ?_);(case side1 => exact zsd HR0_0 HB);(case side2 => exact HC0_0.out);rintro e w29 ⟨rfl,hb⟩;refine ⟨_,rfl,?_⟩;replace BK307:=zA (zQ (g:=gb307) (o:=.cells #[.slice A0_0 l0_0.length c0_0] 34 (0,0)) (zx BK307) hb);replace HB:=zA (zJb (zz HB) hb);(try clear hb);(try clear hb2);(try clear hk);(try clear hi)))
     go_ret
     exact ⟨by first|rfl|(simp [errW_none,errW_some] <;> rfl)|(simp [*,errW_none,errW_some] <;> rfl),zz HB⟩

end Go.Proofs.YtfelabhakgcifaaGreat.QFnExactCountAnswers
