/- Walks through the Go functions that FnExactAnswers reaches: each call returns what the Lean function beside it says, within the bounds that the theorem names. -/
import Derived.Test.YtfelabhakgcifaaGreatQFnExactAnswersx0
import Derived.Test.YtfelabhakgcifaaGreatQFnExactAnswersx12
import Derived.Test.YtfelabhakgcifaaGreatQFnExactAnswersx13
import Derived.Test.YtfelabhakgcifaaGreatQFnExactAnswersx14
namespace Go.Proofs.YtfelabhakgcifaaGreat.QFnExactAnswers
open Go.RowKit Go.Proofs.YtfelabhakgcifaaGreatW.PrintWords Go.Proofs.YtfelabhakgcifaaGreatW.PrintLast Go.Proofs.YtfelabhakgcifaaGreatW.PrintMore
attribute [local go_sem] max2_int min2_int max_two min_two max_three min_three max_four min_four   -- for this text's walks alone
set_option linter.unusedVariables false
set_option linter.unusedSimpArgs false


/-! ### impl_IsDatabase: function 37 -/
def impl_IsDatabase.l0 : Nat → List (S64) → List (S64) → Int → Int → List Int → Option (Bool)
 | 0, _, _, _, _, _ => none
 | k + 1, x1, x7, x8, x9, x369000 => if x9 < x8 then (if 0 ≤ x9 then (if x9 < (x7.length : Int) then ((impl_IsFact.f k x369000 ((rd_T64 x7 x9).f0) ((rd_T64 x7 x9).f1)).bind fun t372 => (if t372 = true then (if x9 > 0 then (if 0 ≤ (wrap64 (x9 - 1)) then (if (wrap64 (x9 - 1)) < (x1.length : Int) then ((impl_compareFacts.f k ((rd_T64 x1 (wrap64 (x9 - 1))).f0) ((rd_T64 x1 (wrap64 (x9 - 1))).f1) ((rd_T64 x7 x9).f0) ((rd_T64 x7 x9).f1)).bind fun t374 => (if t374 ≥ 0 then (some false) else (impl_IsDatabase.l0 k x1 x7 x8 (wrap64 (x9 + 1)) x369000))) else (none)) else (none)) else (impl_IsDatabase.l0 k x1 x7 x8 (wrap64 (x9 + 1)) x369000)) else (some false))) else (none)) else (none)) else ((impl_IsSchema.f k x369000).bind fun t369 => (if t369 = true then (some (decide ((x1.length : Int) ≤ 24))) else (some false)))
def impl_IsDatabase.f (k : Nat) (l0_0 : List Int) (l1 : List (S64)) : Option (Bool) := impl_IsDatabase.l0 k l1 l1 (l1.length : Int) 0 l0_0
def impl_IsDatabase.T4 : Bool × List (List Nat × List Nat) := (true, [([], []), ([], []), ([0, 1], [0, 1]), ([2], [2]), ([3, 2], [3]), ([4], [4]), ([5, 4], [4, 5]), ([6, 4, 4], [4, 6]), ([7], [7]), ([7], [7]), ([9, 7], [7, 9]), ([8, 10, 7], [7, 8, 10]), ([11, 7], [7, 11]), ([7], [7]), ([12, 13, 7, 7], [7, 12, 13]), ([14, 7], [7, 14]), ([7, 15, 4], [4, 7, 15]), ([4, 16], [4, 16])])
def impl_IsDatabase.B4 : List Nat := [0, 0, 3, 7, 15, 31, 63, 127, 255, 255, 767, 2047, 4095, 255, 16383, 32767, 65535, 131071]
theorem impl_IsDatabase.tab4 : rtab .any (opsOf Tryz.f37 4) = impl_IsDatabase.T4 := by kernel_rfl
theorem impl_IsDatabase.bits4 : waitsOk impl_IsDatabase.T4.2 impl_IsDatabase.B4 = true := by kernel_rfl
set_option maxHeartbeats 8000000 in
set_option maxRecDepth 100000 in
theorem impl_IsDatabase.calls (k : Nat) (A0_0 : Option Addr) (c0_0 : Nat) (l0_0 : List Int) (A1 : Option Addr) (c1 : Nat) (l1 : List (S64)) (r : Bool) (w : World) (hr0_0 : Kd.C (Kd.int .i64) w A0_0 l0_0.length l0_0) (hc0_0 : l0_0.length ≤ c0_0) (hr1 : Kd.C k64 w A1 l1.length l1) (hc1 : l1.length ≤ c1) (h : impl_IsDatabase.f k l0_0 l1 = some r) :
  Calls Tryz.prog 37 #[.agg #[.slice A0_0 l0_0.length c0_0], .slice A1 l1.length c1] w fun e w' => e = .returned (.bool r) ∧ Below w.heap.size w w' := by
 have hu34:=Tryz.underlying34;have hu64:=Tryz.underlying64;have HR0_0:=zA hr0_0;have HC0_0:=zA hc0_0;clear hr0_0 hc0_0;have HR1:=zA hr1;have HC1:=zA hc1;clear hr1 hc1;have HB:=zA (Below.refl w.heap.size w)
 have H : (impl_IsDatabase.l0 k l1 l1 (l1.length : Int) 0 l0_0) = some r:=h
 clear h
 have H':=zA H
 clear H
 go_enter Tryz.func37,Tryz.ntmps37
 go_wp2_with (first|((with_reducible refine gate_dst (N:=2) rfl ?_);(try (refine gate_guard (by rfl) ?_;dsimp only));refine box_event ?hg (N:=2) ?hd (cs:=#[.slice A0_0 l0_0.length c0_0]) (t:=34) ?hr ?_;(case hd => rfl);(case hg => rfl);(case hr => first|(go_simp;done)|(go_simp;rfl));intro gb368 hg w3 hbox hb;have BK368:=zA (hbox);have GW368:=zA ((by rw [hg];exact (zT (zz HB)) : w.heap.size ≤ gb368));have GE368:=zA ((by rw [hg];exact (zT (zz HB)) : w.heap.size ≤ gb368));replace HB:=zA (zJb (zz HB) hb);clear hb hbox hg))
 go_loopg [9] k (fun kq v9 w' => ∃ (x9_1 : Int),v9 = .int .i64 x9_1 ∧ Aside0 (impl_IsDatabase.l0 kq l1 l1 (l1.length : Int) x9_1 l0_0 = some r) ∧ Aside0 (kq ≤ k) ∧ Aside0 (w'.heap[gb368]? = some (.cells #[(.slice A0_0 l0_0.length c0_0)] 34 (0,0))) ∧ Aside0 (Below w.heap.size w w'))
 case atStart => exact ⟨(0),za,H',⟨Nat.le_refl _⟩,⟨zx BK368⟩,⟨zz HB⟩⟩
 case round =>
  clear H';(try clear c1);(try clear p2);(try clear c3);obtain ⟨x9_1,rfl,HA,HK1,BK368,HB⟩:=hrel
  cases gk with
  | zero => exact absurd HA.out (by simp [impl_IsDatabase.l0])
  | succ k1 =>
   have H:=HA.out;clear HA;simp only [impl_IsDatabase.l0] at H
   by_cases c4 : x9_1 < (l1.length : Int)
   ·
    rw [if_pos c4] at H;have c4b0:=decide_eq_true c4;clear c4
    by_cases c5 : 0 ≤ x9_1
    ·
     rw [if_pos c5] at H;have c5b0:=decide_eq_true c5;clear c5
     by_cases c6 : x9_1 < (l1.length : Int)
     ·
      rw [if_pos c6] at H;have c6b0:=decide_eq_true c6;clear c6;replace H:=Option.bind_eq_some_iff.mp H;obtain ⟨t372,A70,H⟩:=H;(try dsimp only at H);have A7:=zA A70;clear A70
      by_cases c8 : t372 = true
      ·
       subst c8
       rw [if_pos rfl] at H
       by_cases c9 : x9_1 > 0
       ·
        rw [if_pos c9] at H
        have c9b0 : decide (0 < x9_1) = true:=decide_eq_true c9
        clear c9;obtain ⟨ji10,hji10⟩ : ∃ j_ : Int,(wrap64 (x9_1 - 1)) = j_:=⟨_,rfl⟩
        replace H : (if 0 ≤ (ji10) then (if (ji10) < (l1.length : Int) then ((impl_compareFacts.f k1 ((rd_T64 l1 (ji10)).f0) ((rd_T64 l1 (ji10)).f1) ((rd_T64 l1 x9_1).f0) ((rd_T64 l1 x9_1).f1)).bind fun t374 => (if t374 ≥ 0 then (some false) else (impl_IsDatabase.l0 k1 l1 l1 (l1.length : Int) (wrap64 (x9_1 + 1)) l0_0))) else (none)) else (none)) = some r:=by first|(rw [hji10] at H;exact H)|(simp only [hji10] at H ⊢;exact H)
        (try rw [hji10] at A7)
        have hji10w : (IntKind.i64.wrap (x9_1 - 1)) = ji10:=(i64_w _).trans hji10
        by_cases c11 : 0 ≤ (ji10)
        ·
         rw [if_pos c11] at H;have c11b0:=decide_eq_true c11;clear c11
         by_cases c12 : (ji10) < (l1.length : Int)
         ·
          rw [if_pos c12] at H;have c12b0:=decide_eq_true c12;clear c12;replace H:=Option.bind_eq_some_iff.mp H;obtain ⟨t374,A130,H⟩:=H;(try dsimp only at H);have A13:=zA A130;clear A130
          by_cases c14 : t374 ≥ 0
          ·
           rw [if_pos c14] at H
           have c14b0 : decide (0 ≤ t374) = true:=decide_eq_true c14
           clear c14
           obtain rfl:=Option.some.inj H
           have p370 : 0 ≤ (x9_1 : Int):=zXb ze;have q370 : x9_1 < (l1.length : Int):=zXb ze;obtain ⟨ad370,A370_1,c370_1,e370,hx370_0,hx370_1,hl370_1,hi370_1⟩:=at_T64 HR1.out x9_1 p370 q370
           cases e370
           replace hx370_0:=(HB.out.cell (World.block_lt_of_cell? w _ hx370_0)).trans hx370_0;replace hx370_1:=(HB.out.cell (World.block_lt_of_cell? w _ hx370_1)).trans hx370_1;have HR370_1:=zA hi370_1;have HC370_1:=zA hl370_1;clear hi370_1 hl370_1;replace p370:=eq_true p370;replace q370:=eq_true q370
           try go_wp2_with (first|((with_reducible refine gate_dst (N:=6) rfl ?_);(try (refine gate_guard (by rfl) ?_;dsimp only));refine box_event ?hg (N:=6) ?hd (cs:=#[.int .i64 0,.slice none 0 0]) (t:=64) ?hr ?_;(case hd => rfl);(case hg => rfl);(case hr => first|(go_simp;done)|(go_simp;rfl));intro gb371 hg w15 hbox hb;have BK371:=zA (hbox);have GW371:=zA ((by rw [hg];exact (zT (zz HB)) : w.heap.size ≤ gb371));have GE371:=zA ((by rw [hg];exact (zT (zz HB)) : w.heap.size ≤ gb371));replace HB:=zA (zJb (zz HB) hb);have NB368_371:=zA ((by rw [hg];exact Nat.ne_of_lt (blk_lt (g:=gb368) (o:=.cells #[.slice A0_0 l0_0.length c0_0] 34 (0,0)) (zx BK368)) : gb368 ≠ gb371));have NB371_368:=zA ((by rw [hg];exact Nat.ne_of_gt (blk_lt (g:=gb368) (o:=.cells #[.slice A0_0 l0_0.length c0_0] 34 (0,0)) (zx BK368)) : gb371 ≠ gb368));replace BK368:=zA (zQ (g:=gb368) (o:=.cells #[.slice A0_0 l0_0.length c0_0] 34 (0,0)) (zx BK368) hb);clear hb hbox hg;have hnb16:=NB371_368.out;have hnc16:=NB368_371.out;have hcz17_0:=zc (.int .i64 0) BK371 0 rfl;have hcz17_1:=zc (.slice none 0 0) BK371 1 rfl;have hfz17_0:=blk_frozen BK371.out 0;have hfz17_1:=blk_frozen BK371.out 1))
           have n0_ : Aside0 (((w15.setCell ⟨gb371,0,none⟩ (.int .i64 ((rd_T64 l1 x9_1).f0))).setCell ⟨gb371,1,none⟩ (.slice A370_1 ((rd_T64 l1 x9_1).f1).length c370_1)).heap[gb368]? = some (.cells #[.slice A0_0 l0_0.length c0_0] 34 (0,0))):=⟨by (with_reducible repeat (first|refine zF ?_ _|refine zI ?_|refine zG ?_ _));refine zUb ?_ NB368_371.out _;(with_reducible repeat (first|refine zF ?_ _|refine zI ?_|refine zG ?_ _));refine zUb ?_ NB368_371.out _;(with_reducible repeat (first|refine zF ?_ _|refine zI ?_|refine zG ?_ _));exact BK368.out⟩
           have n1_ : Aside0 (((w15.setCell ⟨gb371,0,none⟩ (.int .i64 ((rd_T64 l1 x9_1).f0))).setCell ⟨gb371,1,none⟩ (.slice A370_1 ((rd_T64 l1 x9_1).f1).length c370_1)).heap[gb371]? = some (.cells #[.int .i64 ((rd_T64 l1 x9_1).f0),.slice A370_1 ((rd_T64 l1 x9_1).f1).length c370_1] 64 (0,0))):=⟨by (with_reducible repeat (first|refine zF ?_ _|refine zI ?_|refine zG ?_ _));refine blk_put (cs:=#[.int .i64 ((rd_T64 l1 x9_1).f0),.slice none 0 0]) ?_ 1 _ rfl;(with_reducible repeat (first|refine zF ?_ _|refine zI ?_|refine zG ?_ _));refine blk_put (cs:=#[.int .i64 0,.slice none 0 0]) ?_ 0 _ rfl;(with_reducible repeat (first|refine zF ?_ _|refine zI ?_|refine zG ?_ _));exact BK371.out⟩
           have n2_ : Aside0 (Below w.heap.size w ((w15.setCell ⟨gb371,0,none⟩ (.int .i64 ((rd_T64 l1 x9_1).f0))).setCell ⟨gb371,1,none⟩ (.slice A370_1 ((rd_T64 l1 x9_1).f1).length c370_1))):=⟨zz HB⟩;(try clear BK368);(try clear BK371);(try clear HB)
           generalize ((w15.setCell ⟨gb371,0,none⟩ (.int .i64 ((rd_T64 l1 x9_1).f0))).setCell ⟨gb371,1,none⟩ (.slice A370_1 ((rd_T64 l1 x9_1).f1).length c370_1)) = w18 at n0_ n1_ n2_ ⊢
           have BK368:=n0_;have BK371:=n1_;have HB:=n2_;clear n0_ n1_ n2_;have n0_:=zA (zI BK368.out);have n1_:=zA (zI BK371.out);have n2_:=zA (zJ HB.out);clear BK368;clear BK371;clear HB;have BK368:=n0_;have BK371:=n1_;have HB:=n2_;clear n0_ n1_ n2_;have p373 : 0 ≤ ((ji10) : Int):=zXb ze;have q373 : (ji10) < (l1.length : Int):=zXb ze;obtain ⟨ad373,A373_1,c373_1,e373,hx373_0,hx373_1,hl373_1,hi373_1⟩:=at_T64 HR1.out (ji10) p373 q373;have hw373_1:=hx373_1;have hw373_0:=hx373_0
           obtain rfl : ad370 = ad373:=(by injection e373)
           replace hx373_0:=(HB.out.cell (World.block_lt_of_cell? w _ hx373_0)).trans hx373_0;replace hx373_1:=(HB.out.cell (World.block_lt_of_cell? w _ hx373_1)).trans hx373_1;have HR373_1:=zA hi373_1;have HC373_1:=zA hl373_1;clear hi373_1 hl373_1;replace p373:=eq_true p373;replace q373:=eq_true q373
           refine start_ (n:=18) (S:=fun w' => w'.cell? ⟨gb368,0,none⟩ = some (.slice A0_0 l0_0.length c0_0) ∧ w'.cell? ⟨gb371,0,none⟩ = some (.int .i64 ((rd_T64 l1 x9_1).f0)) ∧ w'.cell? ⟨gb371,1,none⟩ = some (.slice A370_1 ((rd_T64 l1 x9_1).f1).length c370_1) ∧ w'.cell? (ad370.add (((ji10)).toNat * 2)) = some (.int .i64 ((rd_T64 l1 (ji10)).f0)) ∧ w'.cell? ⟨(ad370.add (((ji10)).toNat * 2)).block,(ad370.add (((ji10)).toNat * 2)).off + 1,none⟩ = some (.slice A373_1 ((rd_T64 l1 (ji10)).f1).length c373_1)) (ds:=[]) #[false,false,false,false,false,false,false,false,false,false,false,false,false,false,false,false,false,false] (by kernel_rfl) rfl rfl ⟨(zP BK368.out 0).trans rfl,(zP BK371.out 0).trans rfl,(zP BK371.out 1).trans rfl,((HB.out.cell (World.block_lt_of_cell? w _ hw373_0)).trans hw373_0),((HB.out.cell (World.block_lt_of_cell? w _ hw373_1)).trans hw373_1)⟩ (fun hHeld => ?_);refine with_tabW impl_IsDatabase.tab4 impl_IsDatabase.bits4 (fun HT_ HW_ => ?_)
           generalize w18.drew = w19 at BK368 BK371 HB HR373_1 hx373_0 hx373_1 hHeld ⊢
           refine zwt 0 14 HT_ HW_ hHeld ?_;refine zwt 1 15 HT_ HW_ hHeld ?_
           refine one_ (i:=2) (N:=some 16) #[true,true,true,false,false,false,false,false,false,false,false,false,false,false,false,false,false,false] rfl rfl (one_of HT_.out (by kernel_rfl)) (by decide) (fun K hK => ?_)
           refine goes_ Tryz.func61 (by kernel_rfl) rfl #[.agg #[.slice A0_0 l0_0.length c0_0],.agg #[.int .i64 ((rd_T64 l1 x9_1).f0),.slice A370_1 ((rd_T64 l1 x9_1).f1).length c370_1]] (by rfl) rfl rfl (by (try simp only [zCb,zMb,zNb]);first|done|rfl|(simp only [zLb,zDb];rfl)) ?_
           with_reducible refine (impl_IsFact.calls k1 _ _ l0_0 ((rd_T64 l1 x9_1).f0) _ _ ((rd_T64 l1 x9_1).f1) true _ ?side1 ?side2 ?side3 ?side4 A7.out).mono ?_
           (case side1 => exact zsd HR0_0 HB)
           (case side2 => exact HC0_0.out)
           (case side3 => exact zsd HR370_1 HB)
           (case side4 => exact HC370_1.out)
           rintro e w20 ⟨rfl,hb⟩
           refine ⟨_,rfl,?_⟩
           have n0_:=zA (zQ (g:=gb368) (o:=.cells #[.slice A0_0 l0_0.length c0_0] 34 (0,0)) (zx BK368) hb);have n1_:=zA (zQ (g:=gb371) (o:=.cells #[.int .i64 ((rd_T64 l1 x9_1).f0),.slice A370_1 ((rd_T64 l1 x9_1).f1).length c370_1] 64 (0,0)) (zx BK371) hb);have n2_:=zA (zJb (zz HB) hb);clear BK368;clear BK371;clear HB;have BK368:=n0_;have BK371:=n1_;have HB:=n2_;clear n0_ n1_ n2_;(try clear hb);(try clear hb2);(try clear hk);(try clear hi)
           refine hK.out _ _ ⟨(zP BK368.out 0).trans rfl,(zP BK371.out 0).trans rfl,(zP BK371.out 1).trans rfl,((HB.out.cell (World.block_lt_of_cell? w _ hw373_0)).trans hw373_0),((HB.out.cell (World.block_lt_of_cell? w _ hw373_1)).trans hw373_1)⟩ (fun hHeld => ?_)
           clear hK K
           refine norm_ (a':=?_) ?_ ?_
           rotate_left
           ·
            show Act.put _ (some 16) _ = _
            simp only [Act.put,zO,zEb,zFb,i64_w,i32_w]
            rfl
           refine zut 3 17 HT_ ?_;refine zut 4 18 HT_ ?_;refine zut 5 19 HT_ ?_;refine zut 6 20 HT_ ?_;refine zut 7 21 HT_ ?_;refine zut 8 22 HT_ ?_;refine zut 9 23 HT_ ?_;refine zut 10 24 HT_ ?_;refine zut 11 25 HT_ ?_;refine zwt 12 26 HT_ HW_ hHeld ?_;refine zwt 13 27 HT_ HW_ hHeld ?_
           refine one_ (i:=14) (N:=some 28) #[true,true,true,true,true,true,true,true,true,true,true,true,true,true,true,false,false,false] rfl rfl (one_of HT_.out (by kernel_rfl)) (by decide) (fun K hK => ?_)
           refine goes_ Tryz.func62 (by kernel_rfl) rfl #[.agg #[.int .i64 ((rd_T64 l1 (ji10)).f0),.slice A373_1 ((rd_T64 l1 (ji10)).f1).length c373_1],.agg #[.int .i64 ((rd_T64 l1 x9_1).f0),.slice A370_1 ((rd_T64 l1 x9_1).f1).length c370_1]] (by rfl) rfl rfl (by (try simp only [zCb,zMb,zNb]);first|done|(simp only [hji10];rfl)|rfl|(simp only [zLb,zDb];rfl)) ?_
           with_reducible refine (impl_compareFacts.calls k1 ((rd_T64 l1 (ji10)).f0) _ _ ((rd_T64 l1 (ji10)).f1) ((rd_T64 l1 x9_1).f0) _ _ ((rd_T64 l1 x9_1).f1) t374 _ ?side1 ?side2 ?side3 ?side4 A13.out).mono ?_
           (case side1 => exact zsd HR373_1 HB)
           (case side2 => exact HC373_1.out)
           (case side3 => exact zsd HR370_1 HB)
           (case side4 => exact HC370_1.out)
           rintro e w21 ⟨rfl,hb⟩
           refine ⟨_,rfl,?_⟩
           have n0_:=zA (zQ (g:=gb368) (o:=.cells #[.slice A0_0 l0_0.length c0_0] 34 (0,0)) (zx BK368) hb);have n1_:=zA (zQ (g:=gb371) (o:=.cells #[.int .i64 ((rd_T64 l1 x9_1).f0),.slice A370_1 ((rd_T64 l1 x9_1).f1).length c370_1] 64 (0,0)) (zx BK371) hb);have n2_:=zA (zJb (zz HB) hb);clear BK368;clear BK371;clear HB;have BK368:=n0_;have BK371:=n1_;have HB:=n2_;clear n0_ n1_ n2_;(try clear hb);(try clear hb2);(try clear hk);(try clear hi)
           refine hK.out _ _ ⟨(zP BK368.out 0).trans rfl,(zP BK371.out 0).trans rfl,(zP BK371.out 1).trans rfl,((HB.out.cell (World.block_lt_of_cell? w _ hw373_0)).trans hw373_0),((HB.out.cell (World.block_lt_of_cell? w _ hw373_1)).trans hw373_1)⟩ (fun hHeld => ?_)
           clear hK K
           refine norm_ (a':=?_) ?_ ?_
           rotate_left
           ·
            show Act.put _ (some 28) _ = _
            simp only [Act.put,zO,zEb,zFb,i64_w,i32_w]
            rfl
           refine zut 15 29 HT_ ?_;refine zut 16 30 HT_ ?_;refine zut 17 31 HT_ ?_
           refine done_ (done_of HT_.out (by kernel_rfl)) ?_
           try go_wp2
           go_ret
           exact ⟨by first|rfl|(simp [errW_none,errW_some] <;> rfl)|(simp only [← hji10];first|rfl|(simp [errW_none,errW_some] <;> rfl))|(simp [*,errW_none,errW_some] <;> rfl),zz HB⟩
          ·
           rw [if_neg c14] at H
           have c14b0 : decide (0 ≤ t374) = false:=decide_eq_false c14
           clear c14
           have H':=zA H
           clear H;have p370 : 0 ≤ (x9_1 : Int):=zXb ze;have q370 : x9_1 < (l1.length : Int):=zXb ze;obtain ⟨ad370,A370_1,c370_1,e370,hx370_0,hx370_1,hl370_1,hi370_1⟩:=at_T64 HR1.out x9_1 p370 q370
           cases e370
           replace hx370_0:=(HB.out.cell (World.block_lt_of_cell? w _ hx370_0)).trans hx370_0;replace hx370_1:=(HB.out.cell (World.block_lt_of_cell? w _ hx370_1)).trans hx370_1;have HR370_1:=zA hi370_1;have HC370_1:=zA hl370_1;clear hi370_1 hl370_1;replace p370:=eq_true p370;replace q370:=eq_true q370
           try go_wp2_with (first|((with_reducible refine gate_dst (N:=6) rfl ?_);(try (refine gate_guard (by rfl) ?_;dsimp only));refine box_event ?hg (N:=6) ?hd (cs:=#[.int .i64 0,.slice none 0 0]) (t:=64) ?hr ?_;(case hd => rfl);(case hg => rfl);(case hr => first|(go_simp;done)|(go_simp;rfl));intro gb371 hg w22 hbox hb;have BK371:=zA (hbox);have GW371:=zA ((by rw [hg];exact (zT (zz HB)) : w.heap.size ≤ gb371));have GE371:=zA ((by rw [hg];exact (zT (zz HB)) : w.heap.size ≤ gb371));replace HB:=zA (zJb (zz HB) hb);have NB368_371:=zA ((by rw [hg];exact Nat.ne_of_lt (blk_lt (g:=gb368) (o:=.cells #[.slice A0_0 l0_0.length c0_0] 34 (0,0)) (zx BK368)) : gb368 ≠ gb371));have NB371_368:=zA ((by rw [hg];exact Nat.ne_of_gt (blk_lt (g:=gb368) (o:=.cells #[.slice A0_0 l0_0.length c0_0] 34 (0,0)) (zx BK368)) : gb371 ≠ gb368));replace BK368:=zA (zQ (g:=gb368) (o:=.cells #[.slice A0_0 l0_0.length c0_0] 34 (0,0)) (zx BK368) hb);clear hb hbox hg;have hnb23:=NB371_368.out;have hnc23:=NB368_371.out;have hcz24_0:=zc (.int .i64 0) BK371 0 rfl;have hcz24_1:=zc (.slice none 0 0) BK371 1 rfl;have hfz24_0:=blk_frozen BK371.out 0;have hfz24_1:=blk_frozen BK371.out 1))
           have n0_ : Aside0 (((w22.setCell ⟨gb371,0,none⟩ (.int .i64 ((rd_T64 l1 x9_1).f0))).setCell ⟨gb371,1,none⟩ (.slice A370_1 ((rd_T64 l1 x9_1).f1).length c370_1)).heap[gb368]? = some (.cells #[.slice A0_0 l0_0.length c0_0] 34 (0,0))):=⟨by (with_reducible repeat (first|refine zF ?_ _|refine zI ?_|refine zG ?_ _));refine zUb ?_ NB368_371.out _;(with_reducible repeat (first|refine zF ?_ _|refine zI ?_|refine zG ?_ _));refine zUb ?_ NB368_371.out _;(with_reducible repeat (first|refine zF ?_ _|refine zI ?_|refine zG ?_ _));exact BK368.out⟩
           have n1_ : Aside0 (((w22.setCell ⟨gb371,0,none⟩ (.int .i64 ((rd_T64 l1 x9_1).f0))).setCell ⟨gb371,1,none⟩ (.slice A370_1 ((rd_T64 l1 x9_1).f1).length c370_1)).heap[gb371]? = some (.cells #[.int .i64 ((rd_T64 l1 x9_1).f0),.slice A370_1 ((rd_T64 l1 x9_1).f1).length c370_1] 64 (0,0))):=⟨by (with_reducible repeat (first|refine zF ?_ _|refine zI ?_|refine zG ?_ _));refine blk_put (cs:=#[.int .i64 ((rd_T64 l1 x9_1).f0),.slice none 0 0]) ?_ 1 _ rfl;(with_reducible repeat (first|refine zF ?_ _|refine zI ?_|refine zG ?_ _));refine blk_put (cs:=#[.int .i64 0,.slice none 0 0]) ?_ 0 _ rfl;(with_reducible repeat (first|refine zF ?_ _|refine zI ?_|refine zG ?_ _));exact BK371.out⟩
           have n2_ : Aside0 (Below w.heap.size w ((w22.setCell ⟨gb371,0,none⟩ (.int .i64 ((rd_T64 l1 x9_1).f0))).setCell ⟨gb371,1,none⟩ (.slice A370_1 ((rd_T64 l1 x9_1).f1).length c370_1))):=⟨zz HB⟩;(try clear BK368);(try clear BK371);(try clear HB)
           generalize ((w22.setCell ⟨gb371,0,none⟩ (.int .i64 ((rd_T64 l1 x9_1).f0))).setCell ⟨gb371,1,none⟩ (.slice A370_1 ((rd_T64 l1 x9_1).f1).length c370_1)) = w25 at n0_ n1_ n2_ ⊢
           have BK368:=n0_;have BK371:=n1_;have HB:=n2_;clear n0_ n1_ n2_;have n0_:=zA (zI BK368.out);have n1_:=zA (zI BK371.out);have n2_:=zA (zJ HB.out);clear BK368;clear BK371;clear HB;have BK368:=n0_;have BK371:=n1_;have HB:=n2_;clear n0_ n1_ n2_;have p373 : 0 ≤ ((ji10) : Int):=zXb ze;have q373 : (ji10) < (l1.length : Int):=zXb ze;obtain ⟨ad373,A373_1,c373_1,e373,hx373_0,hx373_1,hl373_1,hi373_1⟩:=at_T64 HR1.out (ji10) p373 q373;have hw373_1:=hx373_1;have hw373_0:=hx373_0
           obtain rfl : ad370 = ad373:=(by injection e373)
           replace hx373_0:=(HB.out.cell (World.block_lt_of_cell? w _ hx373_0)).trans hx373_0;replace hx373_1:=(HB.out.cell (World.block_lt_of_cell? w _ hx373_1)).trans hx373_1;have HR373_1:=zA hi373_1;have HC373_1:=zA hl373_1;clear hi373_1 hl373_1;replace p373:=eq_true p373;replace q373:=eq_true q373
           refine start_ (n:=18) (S:=fun w' => w'.cell? ⟨gb368,0,none⟩ = some (.slice A0_0 l0_0.length c0_0) ∧ w'.cell? ⟨gb371,0,none⟩ = some (.int .i64 ((rd_T64 l1 x9_1).f0)) ∧ w'.cell? ⟨gb371,1,none⟩ = some (.slice A370_1 ((rd_T64 l1 x9_1).f1).length c370_1) ∧ w'.cell? (ad370.add (((ji10)).toNat * 2)) = some (.int .i64 ((rd_T64 l1 (ji10)).f0)) ∧ w'.cell? ⟨(ad370.add (((ji10)).toNat * 2)).block,(ad370.add (((ji10)).toNat * 2)).off + 1,none⟩ = some (.slice A373_1 ((rd_T64 l1 (ji10)).f1).length c373_1)) (ds:=[]) #[false,false,false,false,false,false,false,false,false,false,false,false,false,false,false,false,false,false] (by kernel_rfl) rfl rfl ⟨(zP BK368.out 0).trans rfl,(zP BK371.out 0).trans rfl,(zP BK371.out 1).trans rfl,((HB.out.cell (World.block_lt_of_cell? w _ hw373_0)).trans hw373_0),((HB.out.cell (World.block_lt_of_cell? w _ hw373_1)).trans hw373_1)⟩ (fun hHeld => ?_);refine with_tabW impl_IsDatabase.tab4 impl_IsDatabase.bits4 (fun HT_ HW_ => ?_)
           generalize w25.drew = w26 at BK368 BK371 HB HR373_1 hx373_0 hx373_1 hHeld ⊢
           refine zwt 0 14 HT_ HW_ hHeld ?_;refine zwt 1 15 HT_ HW_ hHeld ?_
           refine one_ (i:=2) (N:=some 16) #[true,true,true,false,false,false,false,false,false,false,false,false,false,false,false,false,false,false] rfl rfl (one_of HT_.out (by kernel_rfl)) (by decide) (fun K hK => ?_)
           refine goes_ Tryz.func61 (by kernel_rfl) rfl #[.agg #[.slice A0_0 l0_0.length c0_0],.agg #[.int .i64 ((rd_T64 l1 x9_1).f0),.slice A370_1 ((rd_T64 l1 x9_1).f1).length c370_1]] (by rfl) rfl rfl (by (try simp only [zCb,zMb,zNb]);first|done|rfl|(simp only [zLb,zDb];rfl)) ?_
           with_reducible refine (impl_IsFact.calls k1 _ _ l0_0 ((rd_T64 l1 x9_1).f0) _ _ ((rd_T64 l1 x9_1).f1) true _ ?side1 ?side2 ?side3 ?side4 A7.out).mono ?_
           (case side1 => exact zsd HR0_0 HB)
           (case side2 => exact HC0_0.out)
           (case side3 => exact zsd HR370_1 HB)
           (case side4 => exact HC370_1.out)
           rintro e w27 ⟨rfl,hb⟩
           refine ⟨_,rfl,?_⟩
           have n0_:=zA (zQ (g:=gb368) (o:=.cells #[.slice A0_0 l0_0.length c0_0] 34 (0,0)) (zx BK368) hb);have n1_:=zA (zQ (g:=gb371) (o:=.cells #[.int .i64 ((rd_T64 l1 x9_1).f0),.slice A370_1 ((rd_T64 l1 x9_1).f1).length c370_1] 64 (0,0)) (zx BK371) hb);have n2_:=zA (zJb (zz HB) hb);clear BK368;clear BK371;clear HB;have BK368:=n0_;have BK371:=n1_;have HB:=n2_;clear n0_ n1_ n2_;(try clear hb);(try clear hb2);(try clear hk);(try clear hi)
           refine hK.out _ _ ⟨(zP BK368.out 0).trans rfl,(zP BK371.out 0).trans rfl,(zP BK371.out 1).trans rfl,((HB.out.cell (World.block_lt_of_cell? w _ hw373_0)).trans hw373_0),((HB.out.cell (World.block_lt_of_cell? w _ hw373_1)).trans hw373_1)⟩ (fun hHeld => ?_)
           clear hK K
           refine norm_ (a':=?_) ?_ ?_
           rotate_left
           ·
            show Act.put _ (some 16) _ = _
            simp only [Act.put,zO,zEb,zFb,i64_w,i32_w]
            rfl
           refine zut 3 17 HT_ ?_;refine zut 4 18 HT_ ?_;refine zut 5 19 HT_ ?_;refine zut 6 20 HT_ ?_;refine zut 7 21 HT_ ?_;refine zut 8 22 HT_ ?_;refine zut 9 23 HT_ ?_;refine zut 10 24 HT_ ?_;refine zut 11 25 HT_ ?_;refine zwt 12 26 HT_ HW_ hHeld ?_;refine zwt 13 27 HT_ HW_ hHeld ?_
           refine one_ (i:=14) (N:=some 28) #[true,true,true,true,true,true,true,true,true,true,true,true,true,true,true,false,false,false] rfl rfl (one_of HT_.out (by kernel_rfl)) (by decide) (fun K hK => ?_)
           refine goes_ Tryz.func62 (by kernel_rfl) rfl #[.agg #[.int .i64 ((rd_T64 l1 (ji10)).f0),.slice A373_1 ((rd_T64 l1 (ji10)).f1).length c373_1],.agg #[.int .i64 ((rd_T64 l1 x9_1).f0),.slice A370_1 ((rd_T64 l1 x9_1).f1).length c370_1]] (by rfl) rfl rfl (by (try simp only [zCb,zMb,zNb]);first|done|(simp only [hji10];rfl)|rfl|(simp only [zLb,zDb];rfl)) ?_
           with_reducible refine (impl_compareFacts.calls k1 ((rd_T64 l1 (ji10)).f0) _ _ ((rd_T64 l1 (ji10)).f1) ((rd_T64 l1 x9_1).f0) _ _ ((rd_T64 l1 x9_1).f1) t374 _ ?side1 ?side2 ?side3 ?side4 A13.out).mono ?_
           (case side1 => exact zsd HR373_1 HB)
           (case side2 => exact HC373_1.out)
           (case side3 => exact zsd HR370_1 HB)
           (case side4 => exact HC370_1.out)
           rintro e w28 ⟨rfl,hb⟩
           refine ⟨_,rfl,?_⟩
           have n0_:=zA (zQ (g:=gb368) (o:=.cells #[.slice A0_0 l0_0.length c0_0] 34 (0,0)) (zx BK368) hb);have n1_:=zA (zQ (g:=gb371) (o:=.cells #[.int .i64 ((rd_T64 l1 x9_1).f0),.slice A370_1 ((rd_T64 l1 x9_1).f1).length c370_1] 64 (0,0)) (zx BK371) hb);have n2_:=zA (zJb (zz HB) hb);clear BK368;clear BK371;clear HB;have BK368:=n0_;have BK371:=n1_;have HB:=n2_;clear n0_ n1_ n2_;(try clear hb);(try clear hb2);(try clear hk);(try clear hi)
           refine hK.out _ _ ⟨(zP BK368.out 0).trans rfl,(zP BK371.out 0).trans rfl,(zP BK371.out 1).trans rfl,((HB.out.cell (World.block_lt_of_cell? w _ hw373_0)).trans hw373_0),((HB.out.cell (World.block_lt_of_cell? w _ hw373_1)).trans hw373_1)⟩ (fun hHeld => ?_)
           clear hK K
           refine norm_ (a':=?_) ?_ ?_
           rotate_left
           ·
            show Act.put _ (some 28) _ = _
            simp only [Act.put,zO,zEb,zFb,i64_w,i32_w]
            rfl
           refine zut 15 29 HT_ ?_;refine zut 16 30 HT_ ?_;refine zut 17 31 HT_ ?_
           refine done_ (done_of HT_.out (by kernel_rfl)) ?_
           try go_wp2
           go_roundg k1
           case measure => have:=HK1.out;omega
           case rel => exact ⟨(wrap64 (x9_1 + 1)),za,H',⟨by have:=HK1.out;omega⟩,⟨zx BK368⟩,⟨zz HB⟩⟩
         ·
          rw [if_neg c12] at H
          exact absurd H (by simp)
        ·
         rw [if_neg c11] at H
         exact absurd H (by simp)
       ·
        rw [if_neg c9] at H
        have c9b0 : decide (0 < x9_1) = false:=decide_eq_false c9
        clear c9
        have H':=zA H
        clear H;have p370 : 0 ≤ (x9_1 : Int):=zXb ze;have q370 : x9_1 < (l1.length : Int):=zXb ze;obtain ⟨ad370,A370_1,c370_1,e370,hx370_0,hx370_1,hl370_1,hi370_1⟩:=at_T64 HR1.out x9_1 p370 q370
        cases e370
        replace hx370_0:=(HB.out.cell (World.block_lt_of_cell? w _ hx370_0)).trans hx370_0;replace hx370_1:=(HB.out.cell (World.block_lt_of_cell? w _ hx370_1)).trans hx370_1;have HR370_1:=zA hi370_1;have HC370_1:=zA hl370_1;clear hi370_1 hl370_1;replace p370:=eq_true p370;replace q370:=eq_true q370
        try go_wp2_with (first|((with_reducible refine gate_dst (N:=6) rfl ?_);(try (refine gate_guard (by rfl) ?_;dsimp only));refine box_event ?hg (N:=6) ?hd (cs:=#[.int .i64 0,.slice none 0 0]) (t:=64) ?hr ?_;(case hd => rfl);(case hg => rfl);(case hr => first|(go_simp;done)|(go_simp;rfl));intro gb371 hg w29 hbox hb;have BK371:=zA (hbox);have GW371:=zA ((by rw [hg];exact (zT (zz HB)) : w.heap.size ≤ gb371));have GE371:=zA ((by rw [hg];exact (zT (zz HB)) : w.heap.size ≤ gb371));replace HB:=zA (zJb (zz HB) hb);have NB368_371:=zA ((by rw [hg];exact Nat.ne_of_lt (blk_lt (g:=gb368) (o:=.cells #[.slice A0_0 l0_0.length c0_0] 34 (0,0)) (zx BK368)) : gb368 ≠ gb371));have NB371_368:=zA ((by rw [hg];exact Nat.ne_of_gt (blk_lt (g:=gb368) (o:=.cells #[.slice A0_0 l0_0.length c0_0] 34 (0,0)) (zx BK368)) : gb371 ≠ gb368));replace BK368:=zA (zQ (g:=gb368) (o:=.cells #[.slice A0_0 l0_0.length c0_0] 34 (0,0)) (zx BK368) hb);clear hb hbox hg;have hnb30:=NB371_368.out;have hnc30:=NB368_371.out;have hcz31_0:=zc (.int .i64 0) BK371 0 rfl;have hcz31_1:=zc (.slice none 0 0) BK371 1 rfl;have hfz31_0:=blk_frozen BK371.out 0;have hfz31_1:=blk_frozen BK371.out 1))
        have n0_ : Aside0 (((w29.setCell ⟨gb371,0,none⟩ (.int .i64 ((rd_T64 l1 x9_1).f0))).setCell ⟨gb371,1,none⟩ (.slice A370_1 ((rd_T64 l1 x9_1).f1).length c370_1)).heap[gb368]? = some (.cells #[.slice A0_0 l0_0.length c0_0] 34 (0,0))):=⟨by (with_reducible repeat (first|refine zF ?_ _|refine zI ?_|refine zG ?_ _));refine zUb ?_ NB368_371.out _;(with_reducible repeat (first|refine zF ?_ _|refine zI ?_|refine zG ?_ _));refine zUb ?_ NB368_371.out _;(with_reducible repeat (first|refine zF ?_ _|refine zI ?_|refine zG ?_ _));exact BK368.out⟩
        have n1_ : Aside0 (((w29.setCell ⟨gb371,0,none⟩ (.int .i64 ((rd_T64 l1 x9_1).f0))).setCell ⟨gb371,1,none⟩ (.slice A370_1 ((rd_T64 l1 x9_1).f1).length c370_1)).heap[gb371]? = some (.cells #[.int .i64 ((rd_T64 l1 x9_1).f0),.slice A370_1 ((rd_T64 l1 x9_1).f1).length c370_1] 64 (0,0))):=⟨by (with_reducible repeat (first|refine zF ?_ _|refine zI ?_|refine zG ?_ _));refine blk_put (cs:=#[.int .i64 ((rd_T64 l1 x9_1).f0),.slice none 0 0]) ?_ 1 _ rfl;(with_reducible repeat (first|refine zF ?_ _|refine zI ?_|refine zG ?_ _));refine blk_put (cs:=#[.int .i64 0,.slice none 0 0]) ?_ 0 _ rfl;(with_reducible repeat (first|refine zF ?_ _|refine zI ?_|refine zG ?_ _));exact BK371.out⟩
        have n2_ : Aside0 (Below w.heap.size w ((w29.setCell ⟨gb371,0,none⟩ (.int .i64 ((rd_T64 l1 x9_1).f0))).setCell ⟨gb371,1,none⟩ (.slice A370_1 ((rd_T64 l1 x9_1).f1).length c370_1))):=⟨zz HB⟩;(try clear BK368);(try clear BK371);(try clear HB)
        generalize ((w29.setCell ⟨gb371,0,none⟩ (.int .i64 ((rd_T64 l1 x9_1).f0))).setCell ⟨gb371,1,none⟩ (.slice A370_1 ((rd_T64 l1 x9_1).f1).length c370_1)) = w32 at n0_ n1_ n2_ ⊢
        have BK368:=n0_;have BK371:=n1_;have HB:=n2_;clear n0_ n1_ n2_;have n0_:=zA (zI BK368.out);have n1_:=zA (zI BK371.out);have n2_:=zA (zJ HB.out);clear BK368;clear BK371;clear HB;have BK368:=n0_;have BK371:=n1_;have HB:=n2_;clear n0_ n1_ n2_
        refine start_ (n:=18) (S:=fun w' => w'.cell? ⟨gb368,0,none⟩ = some (.slice A0_0 l0_0.length c0_0) ∧ w'.cell? ⟨gb371,0,none⟩ = some (.int .i64 ((rd_T64 l1 x9_1).f0)) ∧ w'.cell? ⟨gb371,1,none⟩ = some (.slice A370_1 ((rd_T64 l1 x9_1).f1).length c370_1)) (ds:=[]) #[false,false,false,false,false,false,false,false,false,false,false,false,false,false,false,false,false,false] (by kernel_rfl) rfl rfl ⟨(zP BK368.out 0).trans rfl,(zP BK371.out 0).trans rfl,(zP BK371.out 1).trans rfl⟩ (fun hHeld => ?_);refine with_tabW impl_IsDatabase.tab4 impl_IsDatabase.bits4 (fun HT_ HW_ => ?_)
        generalize w32.drew = w33 at BK368 BK371 HB hHeld ⊢
        refine zwt 0 14 HT_ HW_ hHeld ?_;refine zwt 1 15 HT_ HW_ hHeld ?_
        refine one_ (i:=2) (N:=some 16) #[true,true,true,false,false,false,false,false,false,false,false,false,false,false,false,false,false,false] rfl rfl (one_of HT_.out (by kernel_rfl)) (by decide) (fun K hK => ?_)
        refine goes_ Tryz.func61 (by kernel_rfl) rfl #[.agg #[.slice A0_0 l0_0.length c0_0],.agg #[.int .i64 ((rd_T64 l1 x9_1).f0),.slice A370_1 ((rd_T64 l1 x9_1).f1).length c370_1]] (by rfl) rfl rfl (by (try simp only [zCb,zMb,zNb]);first|done|rfl|(simp only [zLb,zDb];rfl)) ?_
        with_reducible refine (impl_IsFact.calls k1 _ _ l0_0 ((rd_T64 l1 x9_1).f0) _ _ ((rd_T64 l1 x9_1).f1) true _ ?side1 ?side2 ?side3 ?side4 A7.out).mono ?_
        (case side1 => exact zsd HR0_0 HB)
        (case side2 => exact HC0_0.out)
        (case side3 => exact zsd HR370_1 HB)
        (case side4 => exact HC370_1.out)
        rintro e w34 ⟨rfl,hb⟩
        refine ⟨_,rfl,?_⟩
        have n0_:=zA (zQ (g:=gb368) (o:=.cells #[.slice A0_0 l0_0.length c0_0] 34 (0,0)) (zx BK368) hb);have n1_:=zA (zQ (g:=gb371) (o:=.cells #[.int .i64 ((rd_T64 l1 x9_1).f0),.slice A370_1 ((rd_T64 l1 x9_1).f1).length c370_1] 64 (0,0)) (zx BK371) hb);have n2_:=zA (zJb (zz HB) hb);clear BK368;clear BK371;clear HB;have BK368:=n0_;have BK371:=n1_;have HB:=n2_;clear n0_ n1_ n2_;(try clear hb);(try clear hb2);(try clear hk);(try clear hi)
        refine hK.out _ _ ⟨(zP BK368.out 0).trans rfl,(zP BK371.out 0).trans rfl,(zP BK371.out 1).trans rfl⟩ (fun hHeld => ?_)
        clear hK K
        refine norm_ (a':=?_) ?_ ?_
        rotate_left
        ·
         show Act.put _ (some 16) _ = _
         simp only [Act.put,zO,zEb,zFb,i64_w,i32_w]
         rfl
        refine zut 3 17 HT_ ?_;refine zut 4 18 HT_ ?_;refine zut 5 19 HT_ ?_;refine zut 6 20 HT_ ?_;refine zut 7 21 HT_ ?_;refine zot 8 22 HT_ ?_;refine zot 9 23 HT_ ?_;refine zot 10 24 HT_ ?_;refine zot 11 25 HT_ ?_;refine zot 12 26 HT_ ?_;refine zot 13 27 HT_ ?_;refine zot 14 28 HT_ ?_;refine zot 15 29 HT_ ?_;refine zut 16 30 HT_ ?_;refine zut 17 31 HT_ ?_
        refine done_ (done_of HT_.out (by kernel_rfl)) ?_
        try go_wp2
        go_roundg k1
        case measure => have:=HK1.out;omega
        case rel => exact ⟨(wrap64 (x9_1 + 1)),za,H',⟨by have:=HK1.out;omega⟩,⟨zx BK368⟩,⟨zz HB⟩⟩
      ·
       replace c8:=Bool.eq_false_iff.mpr c8
       subst c8
       have H1 : (some false) = some r:=by rw [if_neg (show ¬ (false = true) by decide)] at H;exact H
       clear H;have H:=H1;clear H1
       obtain rfl:=Option.some.inj H
       have p370 : 0 ≤ (x9_1 : Int):=zXb ze;have q370 : x9_1 < (l1.length : Int):=zXb ze;obtain ⟨ad370,A370_1,c370_1,e370,hx370_0,hx370_1,hl370_1,hi370_1⟩:=at_T64 HR1.out x9_1 p370 q370
       cases e370
       replace hx370_0:=(HB.out.cell (World.block_lt_of_cell? w _ hx370_0)).trans hx370_0;replace hx370_1:=(HB.out.cell (World.block_lt_of_cell? w _ hx370_1)).trans hx370_1;have HR370_1:=zA hi370_1;have HC370_1:=zA hl370_1;clear hi370_1 hl370_1;replace p370:=eq_true p370;replace q370:=eq_true q370
       try go_wp2_with (first|((with_reducible refine gate_dst (N:=6) rfl ?_);(try (refine gate_guard (by rfl) ?_;dsimp only));refine box_event ?hg (N:=6) ?hd (cs:=#[.int .i64 0,.slice none 0 0]) (t:=64) ?hr ?_;(case hd => rfl);(case hg => rfl);(case hr => first|(go_simp;done)|(go_simp;rfl));intro gb371 hg w35 hbox hb;have BK371:=zA (hbox);have GW371:=zA ((by rw [hg];exact (zT (zz HB)) : w.heap.size ≤ gb371));have GE371:=zA ((by rw [hg];exact (zT (zz HB)) : w.heap.size ≤ gb371));replace HB:=zA (zJb (zz HB) hb);have NB368_371:=zA ((by rw [hg];exact Nat.ne_of_lt (blk_lt (g:=gb368) (o:=.cells #[.slice A0_0 l0_0.length c0_0] 34 (0,0)) (zx BK368)) : gb368 ≠ gb371));have NB371_368:=zA ((by rw [hg];exact Nat.ne_of_gt (blk_lt (g:=gb368) (o:=.cells #[.slice A0_0 l0_0.length c0_0] 34 (0,0)) (zx BK368)) : gb371 ≠ gb368));replace BK368:=zA (zQ (g:=gb368) (o:=.cells #[.slice A0_0 l0_0.length c0_0] 34 (0,0)) (zx BK368) hb);clear hb hbox hg;have hnb36:=NB371_368.out;have hnc36:=NB368_371.out;have hcz37_0:=zc (.int .i64 0) BK371 0 rfl;have hcz37_1:=zc (.slice none 0 0) BK371 1 rfl;have hfz37_0:=blk_frozen BK371.out 0;have hfz37_1:=blk_frozen BK371.out 1))
       have n0_ : Aside0 (((w35.setCell ⟨gb371,0,none⟩ (.int .i64 ((rd_T64 l1 x9_1).f0))).setCell ⟨gb371,1,none⟩ (.slice A370_1 ((rd_T64 l1 x9_1).f1).length c370_1)).heap[gb368]? = some (.cells #[.slice A0_0 l0_0.length c0_0] 34 (0,0))):=⟨by (with_reducible repeat (first|refine zF ?_ _|refine zI ?_|refine zG ?_ _));refine zUb ?_ NB368_371.out _;(with_reducible repeat (first|refine zF ?_ _|refine zI ?_|refine zG ?_ _));refine zUb ?_ NB368_371.out _;(with_reducible repeat (first|refine zF ?_ _|refine zI ?_|refine zG ?_ _));exact BK368.out⟩
       have n1_ : Aside0 (((w35.setCell ⟨gb371,0,none⟩ (.int .i64 ((rd_T64 l1 x9_1).f0))).setCell ⟨gb371,1,none⟩ (.slice A370_1 ((rd_T64 l1 x9_1).f1).length c370_1)).heap[gb371]? = some (.cells #[.int .i64 ((rd_T64 l1 x9_1).f0),.slice A370_1 ((rd_T64 l1 x9_1).f1).length c370_1] 64 (0,0))):=⟨by (with_reducible repeat (first|refine zF ?_ _|refine zI ?_|refine zG ?_ _));refine blk_put (cs:=#[.int .i64 ((rd_T64 l1 x9_1).f0),.slice none 0 0]) ?_ 1 _ rfl;(with_reducible repeat (first|refine zF ?_ _|refine zI ?_|refine zG ?_ _));refine blk_put (cs:=#[.int .i64 0,.slice none 0 0]) ?_ 0 _ rfl;(with_reducible repeat (first|refine zF ?_ _|refine zI ?_|refine zG ?_ _));exact BK371.out⟩
       have n2_ : Aside0 (Below w.heap.size w ((w35.setCell ⟨gb371,0,none⟩ (.int .i64 ((rd_T64 l1 x9_1).f0))).setCell ⟨gb371,1,none⟩ (.slice A370_1 ((rd_T64 l1 x9_1).f1).length c370_1))):=⟨zz HB⟩;(try clear BK368);(try clear BK371);(try clear HB)
       generalize ((w35.setCell ⟨gb371,0,none⟩ (.int .i64 ((rd_T64 l1 x9_1).f0))).setCell ⟨gb371,1,none⟩ (.slice A370_1 ((rd_T64 l1 x9_1).f1).length c370_1)) = w38 at n0_ n1_ n2_ ⊢
       have BK368:=n0_;have BK371:=n1_;have HB:=n2_;clear n0_ n1_ n2_;have n0_:=zA (zI BK368.out);have n1_:=zA (zI BK371.out);have n2_:=zA (zJ HB.out);clear BK368;clear BK371;clear HB;have BK368:=n0_;have BK371:=n1_;have HB:=n2_;clear n0_ n1_ n2_
       refine start_ (n:=18) (S:=fun w' => w'.cell? ⟨gb368,0,none⟩ = some (.slice A0_0 l0_0.length c0_0) ∧ w'.cell? ⟨gb371,0,none⟩ = some (.int .i64 ((rd_T64 l1 x9_1).f0)) ∧ w'.cell? ⟨gb371,1,none⟩ = some (.slice A370_1 ((rd_T64 l1 x9_1).f1).length c370_1)) (ds:=[]) #[false,false,false,false,false,false,false,false,false,false,false,false,false,false,false,false,false,false] (by kernel_rfl) rfl rfl ⟨(zP BK368.out 0).trans rfl,(zP BK371.out 0).trans rfl,(zP BK371.out 1).trans rfl⟩ (fun hHeld => ?_);refine with_tabW impl_IsDatabase.tab4 impl_IsDatabase.bits4 (fun HT_ HW_ => ?_)
       generalize w38.drew = w39 at BK368 BK371 HB hHeld ⊢
       refine zwt 0 14 HT_ HW_ hHeld ?_;refine zwt 1 15 HT_ HW_ hHeld ?_
       refine one_ (i:=2) (N:=some 16) #[true,true,true,false,false,false,false,false,false,false,false,false,false,false,false,false,false,false] rfl rfl (one_of HT_.out (by kernel_rfl)) (by decide) (fun K hK => ?_)
       refine goes_ Tryz.func61 (by kernel_rfl) rfl #[.agg #[.slice A0_0 l0_0.length c0_0],.agg #[.int .i64 ((rd_T64 l1 x9_1).f0),.slice A370_1 ((rd_T64 l1 x9_1).f1).length c370_1]] (by rfl) rfl rfl (by (try simp only [zCb,zMb,zNb]);first|done|rfl|(simp only [zLb,zDb];rfl)) ?_
       with_reducible refine (impl_IsFact.calls k1 _ _ l0_0 ((rd_T64 l1 x9_1).f0) _ _ ((rd_T64 l1 x9_1).f1) false _ ?side1 ?side2 ?side3 ?side4 A7.out).mono ?_
       (case side1 => exact zsd HR0_0 HB)
       (case side2 => exact HC0_0.out)
       (case side3 => exact zsd HR370_1 HB)
       (case side4 => exact HC370_1.out)
       rintro e w40 ⟨rfl,hb⟩
       refine ⟨_,rfl,?_⟩
       have n0_:=zA (zQ (g:=gb368) (o:=.cells #[.slice A0_0 l0_0.length c0_0] 34 (0,0)) (zx BK368) hb);have n1_:=zA (zQ (g:=gb371) (o:=.cells #[.int .i64 ((rd_T64 l1 x9_1).f0),.slice A370_1 ((rd_T64 l1 x9_1).f1).length c370_1] 64 (0,0)) (zx BK371) hb);have n2_:=zA (zJb (zz HB) hb);clear BK368;clear BK371;clear HB;have BK368:=n0_;have BK371:=n1_;have HB:=n2_;clear n0_ n1_ n2_;(try clear hb);(try clear hb2);(try clear hk);(try clear hi)
       refine hK.out _ _ ⟨(zP BK368.out 0).trans rfl,(zP BK371.out 0).trans rfl,(zP BK371.out 1).trans rfl⟩ (fun hHeld => ?_)
       clear hK K
       refine norm_ (a':=?_) ?_ ?_
       rotate_left
       ·
        show Act.put _ (some 16) _ = _
        simp only [Act.put,zO,zEb,zFb,i64_w,i32_w]
        rfl
       refine zut 3 17 HT_ ?_;refine zut 4 18 HT_ ?_;refine zot 5 19 HT_ ?_;refine zot 6 20 HT_ ?_;refine zot 7 21 HT_ ?_;refine zot 8 22 HT_ ?_;refine zot 9 23 HT_ ?_;refine zot 10 24 HT_ ?_;refine zot 11 25 HT_ ?_;refine zot 12 26 HT_ ?_;refine zot 13 27 HT_ ?_;refine zot 14 28 HT_ ?_;refine zot 15 29 HT_ ?_;refine zot 16 30 HT_ ?_;refine zut 17 31 HT_ ?_
       refine done_ (done_of HT_.out (by kernel_rfl)) ?_
       try go_wp2
       go_ret
       exact ⟨by first|rfl|(simp [errW_none,errW_some] <;> rfl)|(simp [*,errW_none,errW_some] <;> rfl),zz HB⟩
     ·
      rw [if_neg c6] at H
      exact absurd H (by simp)
    ·
     rw [if_neg c5] at H
     exact absurd H (by simp)
   ·
    rw [if_neg c4] at H;have c4b0:=decide_eq_false c4;clear c4;replace H:=Option.bind_eq_some_iff.mp H;obtain ⟨t369,A410,H⟩:=H;(try dsimp only at H);have A41:=zA A410;clear A410
    by_cases c42 : t369 = true
    ·
     subst c42
     rw [if_pos rfl] at H
     obtain rfl:=Option.some.inj H
     have hcz43_0:=zc (.slice A0_0 l0_0.length c0_0) BK368 0 rfl;have hfz43_0:=blk_frozen BK368.out 0
     go_wp2_with (first|((with_reducible refine gate_callee (f:=56) rfl ?_);refine goesL_ (some 34) rfl rfl Tryz.func56 (by kernel_rfl) rfl #[.agg #[.slice A0_0 l0_0.length c0_0]] rfl (by (try simp only [zCb,zMb,zNb]);first|done|rfl|(simp only [zLb,zDb];rfl)) ?_;(with_reducible refine (impl_IsSchema.calls k1 _ _ l0_0 true _ ?side1 ?side2 A41.out).mono ?_);(case side1 => exact zsd HR0_0 HB);(case side2 => exact HC0_0.out);rintro e w44 ⟨rfl,hb⟩;refine ⟨_,rfl,?_⟩;replace BK368:=zA (zQ (g:=gb368) (o:=.cells #[.slice A0_0 l0_0.length c0_0] 34 (0,0)) (zx BK368) hb);replace HB:=zA (zJb (zz HB) hb);(try clear hb);(try clear hb2);(try clear hk);(try clear hi)))
     go_ret
     exact ⟨by first|rfl|(simp [errW_none,errW_some] <;> rfl)|(simp [*,errW_none,errW_some] <;> rfl),zz HB⟩
    ·
     replace c42:=Bool.eq_false_iff.mpr c42
     subst c42
     have H1 : (some false) = some r:=by rw [if_neg (show ¬ (false = true) by decide)] at H;exact H
     clear H;have H:=H1;clear H1
     obtain rfl:=Option.some.inj H
     have hcz45_0:=zc (.slice A0_0 l0_0.length c0_0) BK368 0 rfl;have hfz45_0:=blk_frozen BK368.out 0
     go_wp2_with (first|((with_reducible refine gate_callee (f:=56) rfl ?_);refine goesL_ (some 34) rfl rfl Tryz.func56 (by kernel_rfl) rfl #[.agg #[.slice A0_0 l0_0.length c0_0]] rfl (by (try simp only [zCb,zMb,zNb]);first|done|rfl|(simp only [zLb,zDb];rfl)) ?_;(with_reducible refine (impl_IsSchema.calls k1 _ _ l0_0 false _ ?side1 ?side2 A41.out).mono ?_);(case side1 => exact zsd HR0_0 HB);(case side2 => exact HC0_0.out);rintro e w46 ⟨rfl,hb⟩;refine ⟨_,rfl,?_⟩;replace BK368:=zA (zQ (g:=gb368) (o:=.cells #[.slice A0_0 l0_0.length c0_0] 34 (0,0)) (zx BK368) hb);replace HB:=zA (zJb (zz HB) hb);(try clear hb);(try clear hb2);(try clear hk);(try clear hi)))
     go_ret
     exact ⟨by first|rfl|(simp [errW_none,errW_some] <;> rfl)|(simp [*,errW_none,errW_some] <;> rfl),zz HB⟩

end Go.Proofs.YtfelabhakgcifaaGreat.QFnExactAnswers
