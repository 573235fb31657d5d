/- Walks through the Go functions that FnExactAnswers reaches: each call returns what the Lean function beside it says, within the bounds that the theorem names. -/
import Derived.Test.YtfelabhakgcifaaGreatQFnExactAnswersx0
import Derived.Test.YtfelabhakgcifaaGreatQFnExactAnswersx3
import Derived.Test.YtfelabhakgcifaaGreatQFnExactAnswersx8
import Derived.Test.YtfelabhakgcifaaGreatQFnExactAnswersx9
namespace Go.Proofs.YtfelabhakgcifaaGreat.QFnExactAnswers
open Go.RowKit Go.Proofs.YtfelabhakgcifaaGreatW.PrintWords Go.Proofs.YtfelabhakgcifaaGreatW.PrintLast Go.Proofs.YtfelabhakgcifaaGreatW.PrintMore
attribute [local go_sem] max2_int min2_int max_two min_two max_three min_three max_four min_four   -- for this text's walks alone
set_option linter.unusedVariables false
set_option linter.unusedSimpArgs false


/-! ### spec_IsDatabase: function 53 -/
def spec_IsDatabase.l0 : Nat → List (S64) → Int → List Int → Option (Bool)
 | 0, _, _, _ => none
 | k + 1, x1, x5, x230000 => if x5 < (x1.length : Int) then (if 0 ≤ x5 then ((spec_IsFact.f k x230000 ((rd_T64 x1 x5).f0) ((rd_T64 x1 x5).f1)).bind fun t232 => (if t232 = true then (if x5 > 0 then (if 0 ≤ (wrap64 (x5 - 1)) then (if (wrap64 (x5 - 1)) < (x1.length : Int) then ((spec_l5Less.f k ((rd_T64 x1 (wrap64 (x5 - 1))).f0) ((rd_T64 x1 (wrap64 (x5 - 1))).f1) ((rd_T64 x1 x5).f0) ((rd_T64 x1 x5).f1)).bind fun t235 => (if t235 = true then (spec_IsDatabase.l0 k x1 (wrap64 (x5 + 1)) x230000) else (some false))) else (none)) else (none)) else (spec_IsDatabase.l0 k x1 (wrap64 (x5 + 1)) x230000)) else (some false))) else (none)) else ((spec_IsSchema.f k x230000).bind fun t230 => (if t230 = true then (some (decide ((x1.length : Int) ≤ 24))) else (some false)))
def spec_IsDatabase.f (k : Nat) (l0_0 : List Int) (l1 : List (S64)) : Option (Bool) := spec_IsDatabase.l0 k l1 0 l0_0
def spec_IsDatabase.T4 : Bool × List (List Nat × List Nat) := (true, [([], []), ([], []), ([], []), ([1, 2], [1, 2]), ([3], [3]), ([0, 4], [0, 4]), ([5], [5]), ([6, 5], [6]), ([7], [7]), ([8, 7], [7, 8]), ([9, 7, 7], [7, 9]), ([10], [10]), ([10], [10]), ([12, 10], [10, 12]), ([11, 13, 10], [10, 11, 13]), ([14, 10], [10, 14]), ([10], [10]), ([10], [10]), ([16, 17, 10], [10, 16, 17]), ([18, 10], [10, 18]), ([15, 19, 10, 10], [10, 15, 19]), ([20, 10], [10, 20]), ([10, 21, 7], [7, 10, 21]), ([7, 22], [7, 22])])
def spec_IsDatabase.B4 : List Nat := [0, 0, 0, 6, 14, 31, 63, 127, 255, 511, 1023, 2047, 2047, 6143, 16383, 32767, 2047, 2047, 198655, 460799, 1048575, 2097151, 4194303, 8388607]
theorem spec_IsDatabase.tab4 : rtab .any (opsOf Tryz.f53 4) = spec_IsDatabase.T4 := by kernel_rfl
theorem spec_IsDatabase.bits4 : waitsOk spec_IsDatabase.T4.2 spec_IsDatabase.B4 = true := by kernel_rfl
set_option maxHeartbeats 8000000 in
set_option maxRecDepth 100000 in
theorem spec_IsDatabase.calls (k : Nat) (A0_0 : Option Addr) (c0_0 : Nat) (l0_0 : List Int) (A1 : Option Addr) (c1 : Nat) (l1 : List (S64)) (r : Bool) (w : World) (hr0_0 : Kd.C (Kd.int .i64) w A0_0 l0_0.length l0_0) (hc0_0 : l0_0.length ≤ c0_0) (hr1 : Kd.C k64 w A1 l1.length l1) (hc1 : l1.length ≤ c1) (h : spec_IsDatabase.f k l0_0 l1 = some r) :
  Calls Tryz.prog 53 #[.agg #[.slice A0_0 l0_0.length c0_0], .slice A1 l1.length c1] w fun e w' => e = .returned (.bool r) ∧ Below w.heap.size w w' := by
 have hu34:=Tryz.underlying34;have hu64:=Tryz.underlying64;have HR0_0:=zA hr0_0;have HC0_0:=zA hc0_0;clear hr0_0 hc0_0;have HR1:=zA hr1;have HC1:=zA hc1;clear hr1 hc1;have HB:=zA (Below.refl w.heap.size w)
 have H : (spec_IsDatabase.l0 k l1 0 l0_0) = some r:=h
 clear h
 have H':=zA H
 clear H
 go_enter Tryz.func53,Tryz.ntmps53
 go_wp2_with (first|((with_reducible refine gate_dst (N:=2) rfl ?_);(try (refine gate_guard (by rfl) ?_;dsimp only));refine box_event ?hg (N:=2) ?hd (cs:=#[.slice A0_0 l0_0.length c0_0]) (t:=34) ?hr ?_;(case hd => rfl);(case hg => rfl);(case hr => first|(go_simp;done)|(go_simp;rfl));intro gb229 hg w3 hbox hb;have BK229:=zA (hbox);have GW229:=zA ((by rw [hg];exact (zT (zz HB)) : w.heap.size ≤ gb229));have GE229:=zA ((by rw [hg];exact (zT (zz HB)) : w.heap.size ≤ gb229));replace HB:=zA (zJb (zz HB) hb);clear hb hbox hg))
 go_loopg [5] k (fun kq v5 w' => ∃ (x5_1 : Int),v5 = .int .i64 x5_1 ∧ Aside0 (spec_IsDatabase.l0 kq l1 x5_1 l0_0 = some r) ∧ Aside0 (kq ≤ k) ∧ Aside0 (w'.heap[gb229]? = some (.cells #[(.slice A0_0 l0_0.length c0_0)] 34 (0,0))) ∧ Aside0 (Below w.heap.size w w'))
 case atStart => exact ⟨(0),za,H',⟨Nat.le_refl _⟩,⟨zx BK229⟩,⟨zz HB⟩⟩
 case round =>
  clear H';(try clear c1);(try clear p2);obtain ⟨x5_1,rfl,HA,HK1,BK229,HB⟩:=hrel
  cases gk with
  | zero => exact absurd HA.out (by simp [spec_IsDatabase.l0])
  | succ k1 =>
   have H:=HA.out;clear HA;simp only [spec_IsDatabase.l0] at H
   by_cases c4 : x5_1 < (l1.length : Int)
   ·
    rw [if_pos c4] at H;have c4b0:=decide_eq_true c4;clear c4
    by_cases c5 : 0 ≤ x5_1
    ·
     rw [if_pos c5] at H;have c5b0:=decide_eq_true c5;clear c5;replace H:=Option.bind_eq_some_iff.mp H;obtain ⟨t232,A60,H⟩:=H;(try dsimp only at H);have A6:=zA A60;clear A60
     by_cases c7 : t232 = true
     ·
      subst c7
      rw [if_pos rfl] at H
      by_cases c8 : x5_1 > 0
      ·
       rw [if_pos c8] at H
       have c8b0 : decide (0 < x5_1) = true:=decide_eq_true c8
       clear c8;obtain ⟨ji9,hji9⟩ : ∃ j_ : Int,(wrap64 (x5_1 - 1)) = j_:=⟨_,rfl⟩
       replace H : (if 0 ≤ (ji9) then (if (ji9) < (l1.length : Int) then ((spec_l5Less.f k1 ((rd_T64 l1 (ji9)).f0) ((rd_T64 l1 (ji9)).f1) ((rd_T64 l1 x5_1).f0) ((rd_T64 l1 x5_1).f1)).bind fun t235 => (if t235 = true then (spec_IsDatabase.l0 k1 l1 (wrap64 (x5_1 + 1)) l0_0) else (some false))) else (none)) else (none)) = some r:=by first|(rw [hji9] at H;exact H)|(simp only [hji9] at H ⊢;exact H)
       (try rw [hji9] at A6)
       have hji9w : (IntKind.i64.wrap (x5_1 - 1)) = ji9:=(i64_w _).trans hji9
       by_cases c10 : 0 ≤ (ji9)
       ·
        rw [if_pos c10] at H;have c10b0:=decide_eq_true c10;clear c10
        by_cases c11 : (ji9) < (l1.length : Int)
        ·
         rw [if_pos c11] at H;have c11b0:=decide_eq_true c11;clear c11;replace H:=Option.bind_eq_some_iff.mp H;obtain ⟨t235,A120,H⟩:=H;(try dsimp only at H);have A12:=zA A120;clear A120
         by_cases c13 : t235 = true
         ·
          subst c13
          rw [if_pos rfl] at H
          have H':=zA H
          clear H
          try go_wp2
          have n0_:=zA (zI BK229.out);have n1_:=zA (zJ HB.out);clear BK229;clear HB;have BK229:=n0_;have HB:=n1_;clear n0_ n1_;have p231 : 0 ≤ (x5_1 : Int):=zXb ze;have q231 : x5_1 < (l1.length : Int):=zXb ze;obtain ⟨ad231,A231_1,c231_1,e231,hx231_0,hx231_1,hl231_1,hi231_1⟩:=at_T64 HR1.out x5_1 p231 q231;have hw231_1:=hx231_1;have hw231_0:=hx231_0
          cases e231
          replace hx231_0:=(HB.out.cell (World.block_lt_of_cell? w _ hx231_0)).trans hx231_0;replace hx231_1:=(HB.out.cell (World.block_lt_of_cell? w _ hx231_1)).trans hx231_1;have HR231_1:=zA hi231_1;have HC231_1:=zA hl231_1;clear hi231_1 hl231_1;replace p231:=eq_true p231;replace q231:=eq_true q231;have p233 : 0 ≤ ((ji9) : Int):=zXb ze;have q233 : (ji9) < (l1.length : Int):=zXb ze;obtain ⟨ad233,A233_1,c233_1,e233,hx233_0,hx233_1,hl233_1,hi233_1⟩:=at_T64 HR1.out (ji9) p233 q233;have hw233_1:=hx233_1;have hw233_0:=hx233_0
          obtain rfl : ad231 = ad233:=(by injection e233)
          replace hx233_0:=(HB.out.cell (World.block_lt_of_cell? w _ hx233_0)).trans hx233_0;replace hx233_1:=(HB.out.cell (World.block_lt_of_cell? w _ hx233_1)).trans hx233_1;have HR233_1:=zA hi233_1;have HC233_1:=zA hl233_1;clear hi233_1 hl233_1;replace p233:=eq_true p233;replace q233:=eq_true q233;have p234 : 0 ≤ (x5_1 : Int):=zXb ze;have q234 : x5_1 < (l1.length : Int):=zXb ze;obtain ⟨ad234,A234_1,c234_1,e234,hx234_0,hx234_1,hl234_1,hi234_1⟩:=at_T64 HR1.out x5_1 p234 q234;have hw234_1:=hx234_1;have hw234_0:=hx234_0
          obtain rfl : ad231 = ad234:=(by injection e234)
          replace hx234_0:=(HB.out.cell (World.block_lt_of_cell? w _ hx234_0)).trans hx234_0;replace hx234_1:=(HB.out.cell (World.block_lt_of_cell? w _ hx234_1)).trans hx234_1
          obtain ⟨rfl,rfl⟩ : A231_1 = A234_1 ∧ c231_1 = c234_1:=by
           have h_:=Option.some.inj (hx231_1.symm.trans hx234_1)
           injection h_ with h1_ h2_ h3_
           exact ⟨h1_,h3_⟩
          have HR234_1:=zA hi234_1;have HC234_1:=zA hl234_1;clear hi234_1 hl234_1;replace p234:=eq_true p234;replace q234:=eq_true q234
          refine start_ (n:=24) (S:=fun w' => w'.cell? ⟨gb229,0,none⟩ = some (.slice A0_0 l0_0.length c0_0) ∧ w'.cell? (ad231.add ((x5_1).toNat * 2)) = some (.int .i64 ((rd_T64 l1 x5_1).f0)) ∧ w'.cell? ⟨(ad231.add ((x5_1).toNat * 2)).block,(ad231.add ((x5_1).toNat * 2)).off + 1,none⟩ = some (.slice A231_1 ((rd_T64 l1 x5_1).f1).length c231_1) ∧ w'.cell? (ad231.add (((ji9)).toNat * 2)) = some (.int .i64 ((rd_T64 l1 (ji9)).f0)) ∧ w'.cell? ⟨(ad231.add (((ji9)).toNat * 2)).block,(ad231.add (((ji9)).toNat * 2)).off + 1,none⟩ = some (.slice A233_1 ((rd_T64 l1 (ji9)).f1).length c233_1) ∧ w'.cell? (ad231.add ((x5_1).toNat * 2)) = some (.int .i64 ((rd_T64 l1 x5_1).f0)) ∧ w'.cell? ⟨(ad231.add ((x5_1).toNat * 2)).block,(ad231.add ((x5_1).toNat * 2)).off + 1,none⟩ = some (.slice A231_1 ((rd_T64 l1 x5_1).f1).length c231_1)) (ds:=[]) #[false,false,false,false,false,false,false,false,false,false,false,false,false,false,false,false,false,false,false,false,false,false,false,false] (by kernel_rfl) rfl rfl ⟨(zP BK229.out 0).trans rfl,((HB.out.cell (World.block_lt_of_cell? w _ hw231_0)).trans hw231_0),((HB.out.cell (World.block_lt_of_cell? w _ hw231_1)).trans hw231_1),((HB.out.cell (World.block_lt_of_cell? w _ hw233_0)).trans hw233_0),((HB.out.cell (World.block_lt_of_cell? w _ hw233_1)).trans hw233_1),((HB.out.cell (World.block_lt_of_cell? w _ hw234_0)).trans hw234_0),((HB.out.cell (World.block_lt_of_cell? w _ hw234_1)).trans hw234_1)⟩ (fun hHeld => ?_);refine with_tabW spec_IsDatabase.tab4 spec_IsDatabase.bits4 (fun HT_ HW_ => ?_)
          generalize wr.drew = w14 at BK229 HB HR231_1 HR233_1 HR234_1 hx231_0 hx231_1 hx233_0 hx233_1 hx234_0 hx234_1 hHeld ⊢
          refine zut 1 13 HT_ ?_;refine zut 2 14 HT_ ?_;refine zut 3 15 HT_ ?_;refine zwt 0 12 HT_ HW_ hHeld ?_;refine zwt 4 16 HT_ HW_ hHeld ?_
          refine one_ (i:=5) (N:=some 17) #[true,true,true,true,true,true,false,false,false,false,false,false,false,false,false,false,false,false,false,false,false,false,false,false] rfl rfl (one_of HT_.out (by kernel_rfl)) (by decide) (fun K hK => ?_)
          refine goes_ Tryz.func72 (by kernel_rfl) rfl #[.agg #[.slice A0_0 l0_0.length c0_0],.agg #[.int .i64 ((rd_T64 l1 x5_1).f0),.slice A231_1 ((rd_T64 l1 x5_1).f1).length c231_1]] (by rfl) rfl rfl (by (try simp only [zCb,zMb,zNb]);first|done|rfl|(simp only [zLb,zDb];rfl)) ?_
          with_reducible refine (spec_IsFact.calls k1 _ _ l0_0 ((rd_T64 l1 x5_1).f0) _ _ ((rd_T64 l1 x5_1).f1) true _ ?side1 ?side2 ?side3 ?side4 A6.out).mono ?_
          (case side1 => exact zsd HR0_0 HB)
          (case side2 => exact HC0_0.out)
          (case side3 => exact zsd HR231_1 HB)
          (case side4 => exact HC231_1.out)
          rintro e w15 ⟨rfl,hb⟩
          refine ⟨_,rfl,?_⟩
          have n0_:=zA (zQ (g:=gb229) (o:=.cells #[.slice A0_0 l0_0.length c0_0] 34 (0,0)) (zx BK229) hb);have n1_:=zA (zJb (zz HB) hb);clear BK229;clear HB;have BK229:=n0_;have HB:=n1_;clear n0_ n1_;(try clear hb);(try clear hb2);(try clear hk);(try clear hi)
          refine hK.out _ _ ⟨(zP BK229.out 0).trans rfl,((HB.out.cell (World.block_lt_of_cell? w _ hw231_0)).trans hw231_0),((HB.out.cell (World.block_lt_of_cell? w _ hw231_1)).trans hw231_1),((HB.out.cell (World.block_lt_of_cell? w _ hw233_0)).trans hw233_0),((HB.out.cell (World.block_lt_of_cell? w _ hw233_1)).trans hw233_1),((HB.out.cell (World.block_lt_of_cell? w _ hw234_0)).trans hw234_0),((HB.out.cell (World.block_lt_of_cell? w _ hw234_1)).trans hw234_1)⟩ (fun hHeld => ?_)
          clear hK K
          refine norm_ (a':=?_) ?_ ?_
          rotate_left
          ·
           show Act.put _ (some 17) _ = _
           simp only [Act.put,zO,zEb,zFb,i64_w,i32_w]
           rfl
          refine zut 6 18 HT_ ?_;refine zut 7 19 HT_ ?_;refine zut 8 20 HT_ ?_;refine zut 9 21 HT_ ?_;refine zut 10 22 HT_ ?_;refine zut 11 23 HT_ ?_;refine zut 12 24 HT_ ?_;refine zut 13 25 HT_ ?_;refine zut 14 26 HT_ ?_;refine zut 16 28 HT_ ?_;refine zut 17 29 HT_ ?_;refine zut 18 30 HT_ ?_;refine zwt 15 27 HT_ HW_ hHeld ?_;refine zwt 19 31 HT_ HW_ hHeld ?_
          refine one_ (i:=20) (N:=some 32) #[true,true,true,true,true,true,true,true,true,true,true,true,true,true,true,true,true,true,true,true,true,false,false,false] rfl rfl (one_of HT_.out (by kernel_rfl)) (by decide) (fun K hK => ?_)
          refine goes_ Tryz.func73 (by kernel_rfl) rfl #[.agg #[.int .i64 ((rd_T64 l1 (ji9)).f0),.slice A233_1 ((rd_T64 l1 (ji9)).f1).length c233_1],.agg #[.int .i64 ((rd_T64 l1 x5_1).f0),.slice A231_1 ((rd_T64 l1 x5_1).f1).length c231_1]] (by rfl) rfl rfl (by (try simp only [zCb,zMb,zNb]);first|done|(simp only [hji9];rfl)|rfl|(simp only [zLb,zDb];rfl)) ?_
          with_reducible refine (spec_l5Less.calls k1 ((rd_T64 l1 (ji9)).f0) _ _ ((rd_T64 l1 (ji9)).f1) ((rd_T64 l1 x5_1).f0) _ _ ((rd_T64 l1 x5_1).f1) true _ ?side1 ?side2 ?side3 ?side4 A12.out).mono ?_
          (case side1 => exact zsd HR233_1 HB)
          (case side2 => exact HC233_1.out)
          (case side3 => exact zsd HR234_1 HB)
          (case side4 => exact HC234_1.out)
          rintro e w16 ⟨rfl,hb⟩
          refine ⟨_,rfl,?_⟩
          have n0_:=zA (zQ (g:=gb229) (o:=.cells #[.slice A0_0 l0_0.length c0_0] 34 (0,0)) (zx BK229) hb);have n1_:=zA (zJb (zz HB) hb);clear BK229;clear HB;have BK229:=n0_;have HB:=n1_;clear n0_ n1_;(try clear hb);(try clear hb2);(try clear hk);(try clear hi)
          refine hK.out _ _ ⟨(zP BK229.out 0).trans rfl,((HB.out.cell (World.block_lt_of_cell? w _ hw231_0)).trans hw231_0),((HB.out.cell (World.block_lt_of_cell? w _ hw231_1)).trans hw231_1),((HB.out.cell (World.block_lt_of_cell? w _ hw233_0)).trans hw233_0),((HB.out.cell (World.block_lt_of_cell? w _ hw233_1)).trans hw233_1),((HB.out.cell (World.block_lt_of_cell? w _ hw234_0)).trans hw234_0),((HB.out.cell (World.block_lt_of_cell? w _ hw234_1)).trans hw234_1)⟩ (fun hHeld => ?_)
          clear hK K
          refine norm_ (a':=?_) ?_ ?_
          rotate_left
          ·
           show Act.put _ (some 32) _ = _
           simp only [Act.put,zO,zEb,zFb,i64_w,i32_w]
           rfl
          refine zut 21 33 HT_ ?_;refine zut 22 34 HT_ ?_;refine zut 23 35 HT_ ?_
          refine done_ (done_of HT_.out (by kernel_rfl)) ?_
          try go_wp2
          go_roundg k1
          case measure => have:=HK1.out;omega
          case rel => exact ⟨(wrap64 (x5_1 + 1)),za,H',⟨by have:=HK1.out;omega⟩,⟨zx BK229⟩,⟨zz HB⟩⟩
         ·
          replace c13:=Bool.eq_false_iff.mpr c13
          subst c13
          have H1 : (some false) = some r:=by rw [if_neg (show ¬ (false = true) by decide)] at H;exact H
          clear H;have H:=H1;clear H1
          obtain rfl:=Option.some.inj H
          try go_wp2
          have n0_:=zA (zI BK229.out);have n1_:=zA (zJ HB.out);clear BK229;clear HB;have BK229:=n0_;have HB:=n1_;clear n0_ n1_;have p231 : 0 ≤ (x5_1 : Int):=zXb ze;have q231 : x5_1 < (l1.length : Int):=zXb ze;obtain ⟨ad231,A231_1,c231_1,e231,hx231_0,hx231_1,hl231_1,hi231_1⟩:=at_T64 HR1.out x5_1 p231 q231;have hw231_1:=hx231_1;have hw231_0:=hx231_0
          cases e231
          replace hx231_0:=(HB.out.cell (World.block_lt_of_cell? w _ hx231_0)).trans hx231_0;replace hx231_1:=(HB.out.cell (World.block_lt_of_cell? w _ hx231_1)).trans hx231_1;have HR231_1:=zA hi231_1;have HC231_1:=zA hl231_1;clear hi231_1 hl231_1;replace p231:=eq_true p231;replace q231:=eq_true q231;have p233 : 0 ≤ ((ji9) : Int):=zXb ze;have q233 : (ji9) < (l1.length : Int):=zXb ze;obtain ⟨ad233,A233_1,c233_1,e233,hx233_0,hx233_1,hl233_1,hi233_1⟩:=at_T64 HR1.out (ji9) p233 q233;have hw233_1:=hx233_1;have hw233_0:=hx233_0
          obtain rfl : ad231 = ad233:=(by injection e233)
          replace hx233_0:=(HB.out.cell (World.block_lt_of_cell? w _ hx233_0)).trans hx233_0;replace hx233_1:=(HB.out.cell (World.block_lt_of_cell? w _ hx233_1)).trans hx233_1;have HR233_1:=zA hi233_1;have HC233_1:=zA hl233_1;clear hi233_1 hl233_1;replace p233:=eq_true p233;replace q233:=eq_true q233;have p234 : 0 ≤ (x5_1 : Int):=zXb ze;have q234 : x5_1 < (l1.length : Int):=zXb ze;obtain ⟨ad234,A234_1,c234_1,e234,hx234_0,hx234_1,hl234_1,hi234_1⟩:=at_T64 HR1.out x5_1 p234 q234;have hw234_1:=hx234_1;have hw234_0:=hx234_0
          obtain rfl : ad231 = ad234:=(by injection e234)
          replace hx234_0:=(HB.out.cell (World.block_lt_of_cell? w _ hx234_0)).trans hx234_0;replace hx234_1:=(HB.out.cell (World.block_lt_of_cell? w _ hx234_1)).trans hx234_1
          obtain ⟨rfl,rfl⟩ : A231_1 = A234_1 ∧ c231_1 = c234_1:=by
           have h_:=Option.some.inj (hx231_1.symm.trans hx234_1)
           injection h_ with h1_ h2_ h3_
           exact ⟨h1_,h3_⟩
          have HR234_1:=zA hi234_1;have HC234_1:=zA hl234_1;clear hi234_1 hl234_1;replace p234:=eq_true p234;replace q234:=eq_true q234
          refine start_ (n:=24) (S:=fun w' => w'.cell? ⟨gb229,0,none⟩ = some (.slice A0_0 l0_0.length c0_0) ∧ w'.cell? (ad231.add ((x5_1).toNat * 2)) = some (.int .i64 ((rd_T64 l1 x5_1).f0)) ∧ w'.cell? ⟨(ad231.add ((x5_1).toNat * 2)).block,(ad231.add ((x5_1).toNat * 2)).off + 1,none⟩ = some (.slice A231_1 ((rd_T64 l1 x5_1).f1).length c231_1) ∧ w'.cell? (ad231.add (((ji9)).toNat * 2)) = some (.int .i64 ((rd_T64 l1 (ji9)).f0)) ∧ w'.cell? ⟨(ad231.add (((ji9)).toNat * 2)).block,(ad231.add (((ji9)).toNat * 2)).off + 1,none⟩ = some (.slice A233_1 ((rd_T64 l1 (ji9)).f1).length c233_1) ∧ w'.cell? (ad231.add ((x5_1).toNat * 2)) = some (.int .i64 ((rd_T64 l1 x5_1).f0)) ∧ w'.cell? ⟨(ad231.add ((x5_1).toNat * 2)).block,(ad231.add ((x5_1).toNat * 2)).off + 1,none⟩ = some (.slice A231_1 ((rd_T64 l1 x5_1).f1).length c231_1)) (ds:=[]) #[false,false,false,false,false,false,false,false,false,false,false,false,false,false,false,false,false,false,false,false,false,false,false,false] (by kernel_rfl) rfl rfl ⟨(zP BK229.out 0).trans rfl,((HB.out.cell (World.block_lt_of_cell? w _ hw231_0)).trans hw231_0),((HB.out.cell (World.block_lt_of_cell? w _ hw231_1)).trans hw231_1),((HB.out.cell (World.block_lt_of_cell? w _ hw233_0)).trans hw233_0),((HB.out.cell (World.block_lt_of_cell? w _ hw233_1)).trans hw233_1),((HB.out.cell (World.block_lt_of_cell? w _ hw234_0)).trans hw234_0),((HB.out.cell (World.block_lt_of_cell? w _ hw234_1)).trans hw234_1)⟩ (fun hHeld => ?_);refine with_tabW spec_IsDatabase.tab4 spec_IsDatabase.bits4 (fun HT_ HW_ => ?_)
          generalize wr.drew = w17 at BK229 HB HR231_1 HR233_1 HR234_1 hx231_0 hx231_1 hx233_0 hx233_1 hx234_0 hx234_1 hHeld ⊢
          refine zut 1 13 HT_ ?_;refine zut 2 14 HT_ ?_;refine zut 3 15 HT_ ?_;refine zwt 0 12 HT_ HW_ hHeld ?_;refine zwt 4 16 HT_ HW_ hHeld ?_
          refine one_ (i:=5) (N:=some 17) #[true,true,true,true,true,true,false,false,false,false,false,false,false,false,false,false,false,false,false,false,false,false,false,false] rfl rfl (one_of HT_.out (by kernel_rfl)) (by decide) (fun K hK => ?_)
          refine goes_ Tryz.func72 (by kernel_rfl) rfl #[.agg #[.slice A0_0 l0_0.length c0_0],.agg #[.int .i64 ((rd_T64 l1 x5_1).f0),.slice A231_1 ((rd_T64 l1 x5_1).f1).length c231_1]] (by rfl) rfl rfl (by (try simp only [zCb,zMb,zNb]);first|done|rfl|(simp only [zLb,zDb];rfl)) ?_
          with_reducible refine (spec_IsFact.calls k1 _ _ l0_0 ((rd_T64 l1 x5_1).f0) _ _ ((rd_T64 l1 x5_1).f1) true _ ?side1 ?side2 ?side3 ?side4 A6.out).mono ?_
          (case side1 => exact zsd HR0_0 HB)
          (case side2 => exact HC0_0.out)
          (case side3 => exact zsd HR231_1 HB)
          (case side4 => exact HC231_1.out)
          rintro e w18 ⟨rfl,hb⟩
          refine ⟨_,rfl,?_⟩
          have n0_:=zA (zQ (g:=gb229) (o:=.cells #[.slice A0_0 l0_0.length c0_0] 34 (0,0)) (zx BK229) hb);have n1_:=zA (zJb (zz HB) hb);clear BK229;clear HB;have BK229:=n0_;have HB:=n1_;clear n0_ n1_;(try clear hb);(try clear hb2);(try clear hk);(try clear hi)
          refine hK.out _ _ ⟨(zP BK229.out 0).trans rfl,((HB.out.cell (World.block_lt_of_cell? w _ hw231_0)).trans hw231_0),((HB.out.cell (World.block_lt_of_cell? w _ hw231_1)).trans hw231_1),((HB.out.cell (World.block_lt_of_cell? w _ hw233_0)).trans hw233_0),((HB.out.cell (World.block_lt_of_cell? w _ hw233_1)).trans hw233_1),((HB.out.cell (World.block_lt_of_cell? w _ hw234_0)).trans hw234_0),((HB.out.cell (World.block_lt_of_cell? w _ hw234_1)).trans hw234_1)⟩ (fun hHeld => ?_)
          clear hK K
          refine norm_ (a':=?_) ?_ ?_
          rotate_left
          ·
           show Act.put _ (some 17) _ = _
           simp only [Act.put,zO,zEb,zFb,i64_w,i32_w]
           rfl
          refine zut 6 18 HT_ ?_;refine zut 7 19 HT_ ?_;refine zut 8 20 HT_ ?_;refine zut 9 21 HT_ ?_;refine zut 10 22 HT_ ?_;refine zut 11 23 HT_ ?_;refine zut 12 24 HT_ ?_;refine zut 13 25 HT_ ?_;refine zut 14 26 HT_ ?_;refine zut 16 28 HT_ ?_;refine zut 17 29 HT_ ?_;refine zut 18 30 HT_ ?_;refine zwt 15 27 HT_ HW_ hHeld ?_;refine zwt 19 31 HT_ HW_ hHeld ?_
          refine one_ (i:=20) (N:=some 32) #[true,true,true,true,true,true,true,true,true,true,true,true,true,true,true,true,true,true,true,true,true,false,false,false] rfl rfl (one_of HT_.out (by kernel_rfl)) (by decide) (fun K hK => ?_)
          refine goes_ Tryz.func73 (by kernel_rfl) rfl #[.agg #[.int .i64 ((rd_T64 l1 (ji9)).f0),.slice A233_1 ((rd_T64 l1 (ji9)).f1).length c233_1],.agg #[.int .i64 ((rd_T64 l1 x5_1).f0),.slice A231_1 ((rd_T64 l1 x5_1).f1).length c231_1]] (by rfl) rfl rfl (by (try simp only [zCb,zMb,zNb]);first|done|(simp only [hji9];rfl)|rfl|(simp only [zLb,zDb];rfl)) ?_
          with_reducible refine (spec_l5Less.calls k1 ((rd_T64 l1 (ji9)).f0) _ _ ((rd_T64 l1 (ji9)).f1) ((rd_T64 l1 x5_1).f0) _ _ ((rd_T64 l1 x5_1).f1) false _ ?side1 ?side2 ?side3 ?side4 A12.out).mono ?_
          (case side1 => exact zsd HR233_1 HB)
          (case side2 => exact HC233_1.out)
          (case side3 => exact zsd HR234_1 HB)
          (case side4 => exact HC234_1.out)
          rintro e w19 ⟨rfl,hb⟩
          refine ⟨_,rfl,?_⟩
          have n0_:=zA (zQ (g:=gb229) (o:=.cells #[.slice A0_0 l0_0.length c0_0] 34 (0,0)) (zx BK229) hb);have n1_:=zA (zJb (zz HB) hb);clear BK229;clear HB;have BK229:=n0_;have HB:=n1_;clear n0_ n1_;(try clear hb);(try clear hb2);(try clear hk);(try clear hi)
          refine hK.out _ _ ⟨(zP BK229.out 0).trans rfl,((HB.out.cell (World.block_lt_of_cell? w _ hw231_0)).trans hw231_0),((HB.out.cell (World.block_lt_of_cell? w _ hw231_1)).trans hw231_1),((HB.out.cell (World.block_lt_of_cell? w _ hw233_0)).trans hw233_0),((HB.out.cell (World.block_lt_of_cell? w _ hw233_1)).trans hw233_1),((HB.out.cell (World.block_lt_of_cell? w _ hw234_0)).trans hw234_0),((HB.out.cell (World.block_lt_of_cell? w _ hw234_1)).trans hw234_1)⟩ (fun hHeld => ?_)
          clear hK K
          refine norm_ (a':=?_) ?_ ?_
          rotate_left
          ·
           show Act.put _ (some 32) _ = _
           simp only [Act.put,zO,zEb,zFb,i64_w,i32_w]
           rfl
          refine zut 21 33 HT_ ?_;refine zut 22 34 HT_ ?_;refine zut 23 35 HT_ ?_
          refine done_ (done_of HT_.out (by kernel_rfl)) ?_
          try go_wp2
          go_ret
          exact ⟨by first|rfl|(simp [errW_none,errW_some] <;> rfl)|(simp only [← hji9];first|rfl|(simp [errW_none,errW_some] <;> rfl))|(simp [*,errW_none,errW_some] <;> rfl),zz HB⟩
        ·
         rw [if_neg c11] at H
         exact absurd H (by simp)
       ·
        rw [if_neg c10] at H
        exact absurd H (by simp)
      ·
       rw [if_neg c8] at H
       have c8b0 : decide (0 < x5_1) = false:=decide_eq_false c8
       clear c8
       have H':=zA H
       clear H
       try go_wp2
       have n0_:=zA (zI BK229.out);have n1_:=zA (zJ HB.out);clear BK229;clear HB;have BK229:=n0_;have HB:=n1_;clear n0_ n1_;have p231 : 0 ≤ (x5_1 : Int):=zXb ze;have q231 : x5_1 < (l1.length : Int):=zXb ze;obtain ⟨ad231,A231_1,c231_1,e231,hx231_0,hx231_1,hl231_1,hi231_1⟩:=at_T64 HR1.out x5_1 p231 q231;have hw231_1:=hx231_1;have hw231_0:=hx231_0
       cases e231
       replace hx231_0:=(HB.out.cell (World.block_lt_of_cell? w _ hx231_0)).trans hx231_0;replace hx231_1:=(HB.out.cell (World.block_lt_of_cell? w _ hx231_1)).trans hx231_1;have HR231_1:=zA hi231_1;have HC231_1:=zA hl231_1;clear hi231_1 hl231_1;replace p231:=eq_true p231;replace q231:=eq_true q231
       refine start_ (n:=24) (S:=fun w' => w'.cell? ⟨gb229,0,none⟩ = some (.slice A0_0 l0_0.length c0_0) ∧ w'.cell? (ad231.add ((x5_1).toNat * 2)) = some (.int .i64 ((rd_T64 l1 x5_1).f0)) ∧ w'.cell? ⟨(ad231.add ((x5_1).toNat * 2)).block,(ad231.add ((x5_1).toNat * 2)).off + 1,none⟩ = some (.slice A231_1 ((rd_T64 l1 x5_1).f1).length c231_1)) (ds:=[]) #[false,false,false,false,false,false,false,false,false,false,false,false,false,false,false,false,false,false,false,false,false,false,false,false] (by kernel_rfl) rfl rfl ⟨(zP BK229.out 0).trans rfl,((HB.out.cell (World.block_lt_of_cell? w _ hw231_0)).trans hw231_0),((HB.out.cell (World.block_lt_of_cell? w _ hw231_1)).trans hw231_1)⟩ (fun hHeld => ?_);refine with_tabW spec_IsDatabase.tab4 spec_IsDatabase.bits4 (fun HT_ HW_ => ?_)
       generalize wr.drew = w20 at BK229 HB HR231_1 hx231_0 hx231_1 hHeld ⊢
       refine zut 1 13 HT_ ?_;refine zut 2 14 HT_ ?_;refine zut 3 15 HT_ ?_;refine zwt 0 12 HT_ HW_ hHeld ?_;refine zwt 4 16 HT_ HW_ hHeld ?_
       refine one_ (i:=5) (N:=some 17) #[true,true,true,true,true,true,false,false,false,false,false,false,false,false,false,false,false,false,false,false,false,false,false,false] rfl rfl (one_of HT_.out (by kernel_rfl)) (by decide) (fun K hK => ?_)
       refine goes_ Tryz.func72 (by kernel_rfl) rfl #[.agg #[.slice A0_0 l0_0.length c0_0],.agg #[.int .i64 ((rd_T64 l1 x5_1).f0),.slice A231_1 ((rd_T64 l1 x5_1).f1).length c231_1]] (by rfl) rfl rfl (by (try simp only [zCb,zMb,zNb]);first|done|rfl|(simp only [zLb,zDb];rfl)) ?_
       with_reducible refine (spec_IsFact.calls k1 _ _ l0_0 ((rd_T64 l1 x5_1).f0) _ _ ((rd_T64 l1 x5_1).f1) true _ ?side1 ?side2 ?side3 ?side4 A6.out).mono ?_
       (case side1 => exact zsd HR0_0 HB)
       (case side2 => exact HC0_0.out)
       (case side3 => exact zsd HR231_1 HB)
       (case side4 => exact HC231_1.out)
       rintro e w21 ⟨rfl,hb⟩
       refine ⟨_,rfl,?_⟩
       have n0_:=zA (zQ (g:=gb229) (o:=.cells #[.slice A0_0 l0_0.length c0_0] 34 (0,0)) (zx BK229) hb);have n1_:=zA (zJb (zz HB) hb);clear BK229;clear HB;have BK229:=n0_;have HB:=n1_;clear n0_ n1_;(try clear hb);(try clear hb2);(try clear hk);(try clear hi)
       refine hK.out _ _ ⟨(zP BK229.out 0).trans rfl,((HB.out.cell (World.block_lt_of_cell? w _ hw231_0)).trans hw231_0),((HB.out.cell (World.block_lt_of_cell? w _ hw231_1)).trans hw231_1)⟩ (fun hHeld => ?_)
       clear hK K
       refine norm_ (a':=?_) ?_ ?_
       rotate_left
       ·
        show Act.put _ (some 17) _ = _
        simp only [Act.put,zO,zEb,zFb,i64_w,i32_w]
        rfl
       refine zut 6 18 HT_ ?_;refine zut 7 19 HT_ ?_;refine zut 8 20 HT_ ?_;refine zut 9 21 HT_ ?_;refine zut 10 22 HT_ ?_;refine zot 11 23 HT_ ?_;refine zot 12 24 HT_ ?_;refine zot 13 25 HT_ ?_;refine zot 14 26 HT_ ?_;refine zot 15 27 HT_ ?_;refine zot 16 28 HT_ ?_;refine zot 17 29 HT_ ?_;refine zot 18 30 HT_ ?_;refine zot 19 31 HT_ ?_;refine zot 20 32 HT_ ?_;refine zot 21 33 HT_ ?_;refine zut 22 34 HT_ ?_;refine zut 23 35 HT_ ?_
       refine done_ (done_of HT_.out (by kernel_rfl)) ?_
       try go_wp2
       go_roundg k1
       case measure => have:=HK1.out;omega
       case rel => exact ⟨(wrap64 (x5_1 + 1)),za,H',⟨by have:=HK1.out;omega⟩,⟨zx BK229⟩,⟨zz HB⟩⟩
     ·
      replace c7:=Bool.eq_false_iff.mpr c7
      subst c7
      have H1 : (some false) = some r:=by rw [if_neg (show ¬ (false = true) by decide)] at H;exact H
      clear H;have H:=H1;clear H1
      obtain rfl:=Option.some.inj H
      try go_wp2
      have n0_:=zA (zI BK229.out);have n1_:=zA (zJ HB.out);clear BK229;clear HB;have BK229:=n0_;have HB:=n1_;clear n0_ n1_;have p231 : 0 ≤ (x5_1 : Int):=zXb ze;have q231 : x5_1 < (l1.length : Int):=zXb ze;obtain ⟨ad231,A231_1,c231_1,e231,hx231_0,hx231_1,hl231_1,hi231_1⟩:=at_T64 HR1.out x5_1 p231 q231;have hw231_1:=hx231_1;have hw231_0:=hx231_0
      cases e231
      replace hx231_0:=(HB.out.cell (World.block_lt_of_cell? w _ hx231_0)).trans hx231_0;replace hx231_1:=(HB.out.cell (World.block_lt_of_cell? w _ hx231_1)).trans hx231_1;have HR231_1:=zA hi231_1;have HC231_1:=zA hl231_1;clear hi231_1 hl231_1;replace p231:=eq_true p231;replace q231:=eq_true q231
      refine start_ (n:=24) (S:=fun w' => w'.cell? ⟨gb229,0,none⟩ = some (.slice A0_0 l0_0.length c0_0) ∧ w'.cell? (ad231.add ((x5_1).toNat * 2)) = some (.int .i64 ((rd_T64 l1 x5_1).f0)) ∧ w'.cell? ⟨(ad231.add ((x5_1).toNat * 2)).block,(ad231.add ((x5_1).toNat * 2)).off + 1,none⟩ = some (.slice A231_1 ((rd_T64 l1 x5_1).f1).length c231_1)) (ds:=[]) #[false,false,false,false,false,false,false,false,false,false,false,false,false,false,false,false,false,false,false,false,false,false,false,false] (by kernel_rfl) rfl rfl ⟨(zP BK229.out 0).trans rfl,((HB.out.cell (World.block_lt_of_cell? w _ hw231_0)).trans hw231_0),((HB.out.cell (World.block_lt_of_cell? w _ hw231_1)).trans hw231_1)⟩ (fun hHeld => ?_);refine with_tabW spec_IsDatabase.tab4 spec_IsDatabase.bits4 (fun HT_ HW_ => ?_)
      generalize wr.drew = w22 at BK229 HB HR231_1 hx231_0 hx231_1 hHeld ⊢
      refine zut 1 13 HT_ ?_;refine zut 2 14 HT_ ?_;refine zut 3 15 HT_ ?_;refine zwt 0 12 HT_ HW_ hHeld ?_;refine zwt 4 16 HT_ HW_ hHeld ?_
      refine one_ (i:=5) (N:=some 17) #[true,true,true,true,true,true,false,false,false,false,false,false,false,false,false,false,false,false,false,false,false,false,false,false] rfl rfl (one_of HT_.out (by kernel_rfl)) (by decide) (fun K hK => ?_)
      refine goes_ Tryz.func72 (by kernel_rfl) rfl #[.agg #[.slice A0_0 l0_0.length c0_0],.agg #[.int .i64 ((rd_T64 l1 x5_1).f0),.slice A231_1 ((rd_T64 l1 x5_1).f1).length c231_1]] (by rfl) rfl rfl (by (try simp only [zCb,zMb,zNb]);first|done|rfl|(simp only [zLb,zDb];rfl)) ?_
      with_reducible refine (spec_IsFact.calls k1 _ _ l0_0 ((rd_T64 l1 x5_1).f0) _ _ ((rd_T64 l1 x5_1).f1) false _ ?side1 ?side2 ?side3 ?side4 A6.out).mono ?_
      (case side1 => exact zsd HR0_0 HB)
      (case side2 => exact HC0_0.out)
      (case side3 => exact zsd HR231_1 HB)
      (case side4 => exact HC231_1.out)
      rintro e w23 ⟨rfl,hb⟩
      refine ⟨_,rfl,?_⟩
      have n0_:=zA (zQ (g:=gb229) (o:=.cells #[.slice A0_0 l0_0.length c0_0] 34 (0,0)) (zx BK229) hb);have n1_:=zA (zJb (zz HB) hb);clear BK229;clear HB;have BK229:=n0_;have HB:=n1_;clear n0_ n1_;(try clear hb);(try clear hb2);(try clear hk);(try clear hi)
      refine hK.out _ _ ⟨(zP BK229.out 0).trans rfl,((HB.out.cell (World.block_lt_of_cell? w _ hw231_0)).trans hw231_0),((HB.out.cell (World.block_lt_of_cell? w _ hw231_1)).trans hw231_1)⟩ (fun hHeld => ?_)
      clear hK K
      refine norm_ (a':=?_) ?_ ?_
      rotate_left
      ·
       show Act.put _ (some 17) _ = _
       simp only [Act.put,zO,zEb,zFb,i64_w,i32_w]
       rfl
      refine zut 6 18 HT_ ?_;refine zut 7 19 HT_ ?_;refine zot 8 20 HT_ ?_;refine zot 9 21 HT_ ?_;refine zot 10 22 HT_ ?_;refine zot 11 23 HT_ ?_;refine zot 12 24 HT_ ?_;refine zot 13 25 HT_ ?_;refine zot 14 26 HT_ ?_;refine zot 15 27 HT_ ?_;refine zot 16 28 HT_ ?_;refine zot 17 29 HT_ ?_;refine zot 18 30 HT_ ?_;refine zot 19 31 HT_ ?_;refine zot 20 32 HT_ ?_;refine zot 21 33 HT_ ?_;refine zot 22 34 HT_ ?_;refine zut 23 35 HT_ ?_
      refine done_ (done_of HT_.out (by kernel_rfl)) ?_
      try go_wp2
      go_ret
      exact ⟨by first|rfl|(simp [errW_none,errW_some] <;> rfl)|(simp [*,errW_none,errW_some] <;> rfl),zz HB⟩
    ·
     rw [if_neg c5] at H
     exact absurd H (by simp)
   ·
    rw [if_neg c4] at H;have c4b0:=decide_eq_false c4;clear c4;replace H:=Option.bind_eq_some_iff.mp H;obtain ⟨t230,A240,H⟩:=H;(try dsimp only at H);have A24:=zA A240;clear A240
    by_cases c25 : t230 = true
    ·
     subst c25
     rw [if_pos rfl] at H
     obtain rfl:=Option.some.inj H
     have hcz26_0:=zc (.slice A0_0 l0_0.length c0_0) BK229 0 rfl;have hfz26_0:=blk_frozen BK229.out 0
     go_wp2_with (first|((with_reducible refine gate_callee (f:=74) rfl ?_);refine goesL_ (some 37) rfl rfl Tryz.func74 (by kernel_rfl) rfl #[.agg #[.slice A0_0 l0_0.length c0_0]] rfl (by (try simp only [zCb,zMb,zNb]);first|done|rfl|(simp only [zLb,zDb];rfl)) ?_;(with_reducible refine (spec_IsSchema.calls k1 _ _ l0_0 true _ ?side1 ?side2 A24.out).mono ?_);(case side1 => exact zsd HR0_0 HB);(case side2 => exact HC0_0.out);rintro e w27 ⟨rfl,hb⟩;refine ⟨_,rfl,?_⟩;replace BK229:=zA (zQ (g:=gb229) (o:=.cells #[.slice A0_0 l0_0.length c0_0] 34 (0,0)) (zx BK229) hb);replace HB:=zA (zJb (zz HB) hb);(try clear hb);(try clear hb2);(try clear hk);(try clear hi)))
     go_ret
     exact ⟨by first|rfl|(simp [errW_none,errW_some] <;> rfl)|(simp [*,errW_none,errW_some] <;> rfl),zz HB⟩
    ·
     replace c25:=Bool.eq_false_iff.mpr c25
     subst c25
     have H1 : (some false) = some r:=by rw [if_neg (show ¬ (false = true) by decide)] at H;exact H
     clear H;have H:=H1;clear H1
     obtain rfl:=Option.some.inj H
     have hcz28_0:=zc (.slice A0_0 l0_0.length c0_0) BK229 0 rfl;have hfz28_0:=blk_frozen BK229.out 0
     go_wp2_with (first|((with_reducible refine gate_callee (f:=74) rfl ?_);refine goesL_ (some 37) rfl rfl Tryz.func74 (by kernel_rfl) rfl #[.agg #[.slice A0_0 l0_0.length c0_0]] rfl (by (try simp only [zCb,zMb,zNb]);first|done|rfl|(simp only [zLb,zDb];rfl)) ?_;(with_reducible refine (spec_IsSchema.calls k1 _ _ l0_0 false _ ?side1 ?side2 A24.out).mono ?_);(case side1 => exact zsd HR0_0 HB);(case side2 => exact HC0_0.out);rintro e w29 ⟨rfl,hb⟩;refine ⟨_,rfl,?_⟩;replace BK229:=zA (zQ (g:=gb229) (o:=.cells #[.slice A0_0 l0_0.length c0_0] 34 (0,0)) (zx BK229) hb);replace HB:=zA (zJb (zz HB) hb);(try clear hb);(try clear hb2);(try clear hk);(try clear hi)))
     go_ret
     exact ⟨by first|rfl|(simp [errW_none,errW_some] <;> rfl)|(simp [*,errW_none,errW_some] <;> rfl),zz HB⟩

end Go.Proofs.YtfelabhakgcifaaGreat.QFnExactAnswers
