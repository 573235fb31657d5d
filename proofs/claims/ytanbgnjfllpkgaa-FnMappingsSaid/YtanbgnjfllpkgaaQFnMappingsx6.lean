/- Walks through the Go functions that FnMappings reaches: each call returns what the Lean function beside it says, within the bounds that the theorem names. -/
import Derived.Test.YtanbgnjfllpkgaaQFnMappingsx0
import Derived.Test.YtanbgnjfllpkgaaQFnMappingsx5
namespace Go.Proofs.Ytanbgnjfllpkgaa.QFnMappings
open Go.RowKit Go.Proofs.YtanbgnjfllpkgaaW.PrintWords Go.Proofs.YtanbgnjfllpkgaaW.PrintLast Go.Proofs.YtanbgnjfllpkgaaW.PrintMore
attribute [local go_sem] max2_int min2_int max_two min_two max_three min_three max_four min_four   -- for this text's walks alone
set_option linter.unusedVariables false
set_option linter.unusedSimpArgs false


/-! ### spec_l7Is: function 102 -/
mutual
def spec_l7Is.j0 : Nat → List Int → Bool → List Int → List (S97) → List Int → List (S97) → Option (Bool)
 | 0, _, _, _, _, _, _ => none
 | k + 1, x2, x23, x163000, x163001, x164000, x164001 => if x23 = true then (some false) else (spec_l7Is.l0 k x2 0 x163000 x163001 x164000 x164001)
def spec_l7Is.l0 : Nat → List Int → Int → List Int → List (S97) → List Int → List (S97) → Option (Bool)
 | 0, _, _, _, _, _, _ => none
 | k + 1, x2, x7, x163000, x163001, x164000, x164001 => if x7 < (x163001.length : Int) then (if 0 ≤ x7 then ((spec_l7List.f k x2 ((rd_T97 x163001 x7).f1)).bind fun t170 => (spec_l7Is.l1 k x2 x7 false 0 x163000 x163001 x164000 x164001 ((rd_T97 x163001 x7).f0) t170)) else (none)) else (some true)
def spec_l7Is.l1 : Nat → List Int → Int → Bool → Int → List Int → List (S97) → List Int → List (S97) → Int → List Int → Option (Bool)
 | 0, _, _, _, _, _, _, _, _, _, _ => none
 | k + 1, x2, x7, x9, x10, x163000, x163001, x164000, x164001, x174000, x174001 => if x10 < (x164001.length : Int) then (if x9 = true then (spec_l7Is.l1 k x2 x7 true (wrap64 (x10 + 1)) x163000 x163001 x164000 x164001 x174000 x174001) else (if 0 ≤ x10 then ((spec_EqualAtoms.f k x174000 x174001 ((rd_T97 x164001 x10).f0) ((rd_T97 x164001 x10).f1)).bind fun t175 => (spec_l7Is.l1 k x2 x7 t175 (wrap64 (x10 + 1)) x163000 x163001 x164000 x164001 x174000 x174001)) else (none))) else (if x9 = true then (spec_l7Is.l0 k x2 (wrap64 (x7 + 1)) x163000 x163001 x164000 x164001) else (some false))
end
def spec_l7Is.f (k : Nat) (l0_0 : List Int) (l0_1 : List (S97)) (l1_0 : List Int) (l1_1 : List (S97)) (l2 : List Int) : Option (Bool) := if (l2.length : Int) = 20 then ((spec_l7List.f k l2 l0_0).bind fun t164 => ((spec_l2Ints.f k t164 l1_0).bind fun t167 => (spec_l7Is.j0 k l2 (!t167) l0_0 l0_1 l1_0 l1_1))) else (spec_l7Is.j0 k l2 true l0_0 l0_1 l1_0 l1_1)
def spec_l7Is.T1 : Bool × List (List Nat × List Nat) := (true, [([], []), ([0], [0]), ([1], [1]), ([2], [2]), ([3], [3]), ([3], [3]), ([5, 3], [3, 5]), ([4, 6, 3, 3], [3, 4, 6]), ([3], [3]), ([8, 3], [3, 8]), ([7, 9, 7, 3], [3, 7, 9]), ([10, 3], [3, 10]), ([3, 11], [3, 11])])
def spec_l7Is.B1 : List Nat := [0, 1, 3, 7, 15, 15, 47, 127, 15, 271, 1023, 2047, 4095]
theorem spec_l7Is.tab1 : rtab .any (opsOf Try.f102 1) = spec_l7Is.T1 := by kernel_rfl
theorem spec_l7Is.bits1 : waitsOk spec_l7Is.T1.2 spec_l7Is.B1 = true := by kernel_rfl
def spec_l7Is.T6 : Bool × List (List Nat × List Nat) := (true, [([], []), ([0], [0]), ([], []), ([1, 2], [1, 2]), ([3], [3]), ([4], [4]), ([], []), ([], []), ([7], [7]), ([], []), ([8, 9], [8, 9]), ([10], [10]), ([11], [11]), ([6, 12], [6, 12]), ([5, 13], [5, 13]), ([], []), ([15, 14, 13, 0, 1, 2, 3, 4, 5, 6, 7, 8, 9, 10, 11, 12, 13, 14, 15], [14, 15])])
def spec_l7Is.B6 : List Nat := [0, 1, 0, 7, 15, 31, 0, 0, 128, 0, 896, 1920, 3968, 8128, 16383, 0, 65535]
theorem spec_l7Is.tab6 : rtab .any (opsOf Try.f102 6) = spec_l7Is.T6 := by kernel_rfl
theorem spec_l7Is.bits6 : waitsOk spec_l7Is.T6.2 spec_l7Is.B6 = true := by kernel_rfl
def spec_l7Is.T11 : Bool × List (List Nat × List Nat) := (true, [([], []), ([0], [0]), ([1], [1]), ([1], [1]), ([3, 1], [1, 3]), ([1], [1]), ([4, 5, 1], [1, 4, 5]), ([6, 1], [1, 6]), ([2, 7, 1, 1], [1, 2, 7]), ([1, 8], [1, 8]), ([9, 8, 0, 1, 2, 3, 4, 5, 6, 7, 8, 9], [0, 9])])
def spec_l7Is.B11 : List Nat := [0, 1, 3, 3, 11, 3, 59, 123, 255, 511, 1023]
theorem spec_l7Is.tab11 : rtab .any (opsOf Try.f102 11) = spec_l7Is.T11 := by kernel_rfl
theorem spec_l7Is.bits11 : waitsOk spec_l7Is.T11.2 spec_l7Is.B11 = true := by kernel_rfl
set_option maxHeartbeats 8000000 in
set_option maxRecDepth 100000 in
theorem spec_l7Is.calls (k : Nat) (A0_0 : Option Addr) (c0_0 : Nat) (l0_0 : List Int) (A0_1 : Option Addr) (c0_1 : Nat) (l0_1 : List (S97)) (A1_0 : Option Addr) (c1_0 : Nat) (l1_0 : List Int) (A1_1 : Option Addr) (c1_1 : Nat) (l1_1 : List (S97)) (A2 : Option Addr) (c2 : Nat) (l2 : List Int) (r : Bool) (w : World) (hr0_0 : Kd.C (Kd.int .i64) w A0_0 l0_0.length l0_0) (hc0_0 : l0_0.length ≤ c0_0) (hr0_1 : Kd.C k97 w A0_1 l0_1.length l0_1) (hc0_1 : l0_1.length ≤ c0_1) (hr1_0 : Kd.C (Kd.int .i64) w A1_0 l1_0.length l1_0) (hc1_0 : l1_0.length ≤ c1_0) (hr1_1 : Kd.C k97 w A1_1 l1_1.length l1_1) (hc1_1 : l1_1.length ≤ c1_1) (hr2 : Kd.C (Kd.int .i64) w A2 l2.length l2) (hc2 : l2.length ≤ c2) (h : spec_l7Is.f k l0_0 l0_1 l1_0 l1_1 l2 = some r) :
  Calls Try.prog 102 #[.agg #[.slice A0_0 l0_0.length c0_0, .slice A0_1 l0_1.length c0_1], .agg #[.slice A1_0 l1_0.length c1_0, .slice A1_1 l1_1.length c1_1], .slice A2 l2.length c2] w fun e w' => e = .returned (.bool r) ∧ Below w.heap.size w w' := by
 have hu46:=Try.underlying46;have hu97:=Try.underlying97;have HR0_0:=zA hr0_0;have HC0_0:=zA hc0_0;clear hr0_0 hc0_0;have HR0_1:=zA hr0_1;have HC0_1:=zA hc0_1;clear hr0_1 hc0_1;have HR1_0:=zA hr1_0;have HC1_0:=zA hc1_0;clear hr1_0 hc1_0;have HR1_1:=zA hr1_1;have HC1_1:=zA hc1_1;clear hr1_1 hc1_1;have HR2:=zA hr2;have HC2:=zA hc2;clear hr2 hc2;have HB:=zA (Below.refl w.heap.size w)
 have H : (if (l2.length : Int) = 20 then ((spec_l7List.f k l2 l0_0).bind fun t164 => ((spec_l2Ints.f k t164 l1_0).bind fun t167 => (spec_l7Is.j0 k l2 (!t167) l0_0 l0_1 l1_0 l1_1))) else (spec_l7Is.j0 k l2 true l0_0 l0_1 l1_0 l1_1)) = some r:=h
 clear h;have HC4:=zA H;clear H
 go_enter Try.func102,Try.ntmps102
 go_upto_region 1 with (first|((with_reducible refine gate_dst (N:=3) rfl ?_);refine zbx 3 #[.slice A0_0 l0_0.length c0_0,.slice A0_1 l0_1.length c0_1] 46 ?_;intro gb162 hg w5 hbox hb;have BK162:=zA (hbox);have GW162:=zgw hg HB;have GE162:=zgw hg HB;replace HB:=zA (zJb (zz HB) hb);clear hb hbox hg)|((with_reducible refine gate_dst (N:=4) rfl ?_);refine zbx 4 #[.slice A1_0 l1_0.length c1_0,.slice A1_1 l1_1.length c1_1] 46 ?_;intro gb163 hg w6 hbox hb;have BK163:=zA (hbox);have GW163:=zgw hg HB;have GE163:=zgw hg HB;replace HB:=zA (zJb (zz HB) hb);have NB162_163:=znb hg BK162;have NB163_162:=znc hg BK162;replace BK162:=zbk BK162 hb;clear hb hbox hg))
 (try simp only [Act.put,zO,zEb,zFb])
 go_cut [23] (fun v23 wc => ∃ (kq : Nat) (x23_3 : Bool),v23 = .bool x23_3 ∧ Aside0 (spec_l7Is.j0 kq l2 x23_3 l0_0 l0_1 l1_0 l1_1 = some r) ∧ Aside0 (kq ≤ k) ∧ Aside0 (wc.heap[gb162]? = some (.cells #[(.slice A0_0 l0_0.length c0_0),(.slice A0_1 l0_1.length c0_1)] 46 (0,0))) ∧ Aside0 (wc.heap[gb163]? = some (.cells #[(.slice A1_0 l1_0.length c1_0),(.slice A1_1 l1_1.length c1_1)] 46 (0,0))) ∧ Aside0 (Below w.heap.size w wc))
 case first =>
  have H:=HC4.out;clear HC4
  by_cases c7 : (l2.length : Int) = 20
  ·
   rw [if_pos c7] at H;have c7b0:=beq_iff_eq.mpr c7;have c7b1:=bne_eq_false_iff_eq.mpr c7;clear c7
   (first|rw [c7b0]|(simp only [i64_w,i32_w];rw [c7b0])|skip)
   obtain ⟨t164,A80,H⟩:=zYb.mp H;(try dsimp only at H);have A8:=zA A80;clear A80;obtain ⟨t167,A90,H⟩:=zYb.mp H;(try dsimp only at H);have A9:=zA A90;clear A90
   have H':=zA H
   clear H
   try go_wp2
   have n0_:=zA (zI BK162.out);have n1_:=zA (zI BK163.out);have n2_:=zA (zJ HB.out);clear BK162;clear BK163;clear HB;have BK162:=n0_;have BK163:=n1_;have HB:=n2_;clear n0_ n1_ n2_
   refine start_ (n:=13) (S:=fun w' => w'.cell? ⟨gb162,0,none⟩ = some (.slice A0_0 l0_0.length c0_0) ∧ w'.cell? ⟨gb162,1,none⟩ = some (.slice A0_1 l0_1.length c0_1) ∧ w'.cell? ⟨gb163,0,none⟩ = some (.slice A1_0 l1_0.length c1_0) ∧ w'.cell? ⟨gb163,1,none⟩ = some (.slice A1_1 l1_1.length c1_1)) (ds:=[]) #[false,false,false,false,false,false,false,false,false,false,false,false,false] (by kernel_rfl) rfl rfl ⟨(zP BK162.out 0).trans rfl,(zP BK162.out 1).trans rfl,(zP BK163.out 0).trans rfl,(zP BK163.out 1).trans rfl⟩ (fun hHeld => ?_);refine with_tabW spec_l7Is.tab1 spec_l7Is.bits1 (fun HT_ HW_ => ?_)
   generalize w6.drew = w10 at BK162 BK163 HB hHeld ⊢
   refine zut 0 11 HT_ ?_;refine zut 1 12 HT_ ?_;refine zut 2 13 HT_ ?_;refine zut 3 14 HT_ ?_;refine zut 4 15 HT_ ?_;refine zut 5 16 HT_ ?_;refine zut 8 19 HT_ ?_;refine zwt 6 17 HT_ HW_ hHeld ?_;refine zwt 9 20 HT_ HW_ hHeld ?_
   refine one_ (i:=7) (N:=some 18) #[true,true,true,true,true,true,true,true,true,true,false,false,false] rfl rfl (one_of HT_.out (by kernel_rfl)) (by decide) (fun K hK => ?_)
   refine goes_ Try.func127 (by kernel_rfl) rfl #[.slice A2 l2.length c2,.slice A0_0 l0_0.length c0_0] (by rfl) rfl rfl (by (try simp only [zCb,zMb,zNb]);first|done|rfl|(simp only [zLb,zDb];rfl)) ?_
   with_reducible refine (spec_l7List.calls k _ _ l2 _ _ l0_0 t164 _ ?side1 ?side2 ?side3 ?side4 A8.out).mono ?_
   (case side1 => exact zsd HR2 HB)
   (case side2 => exact HC2.out)
   (case side3 => exact zsd HR0_0 HB)
   (case side4 => exact HC0_0.out)
   rintro e w11 ⟨v165,rfl,ho0,hb⟩
   refine ⟨_,rfl,?_⟩
   have n0_:=zA (zHb ho0 (zT (zz HB)));have n1_:=zbk BK162 hb;have n2_:=zbk BK163 hb;have n3_:=zA (zJb (zz HB) hb);clear BK162;clear BK163;clear HB;have HO166:=n0_;have BK162:=n1_;have BK163:=n2_;have HB:=n3_;clear n0_ n1_ n2_ n3_;(try clear hb);(try clear hb2);(try clear hk);(try clear hi);(try clear ho0);obtain ⟨Ao12,co12,eo12⟩:=Kd.R_slice HO166.out
   (first|subst eo12|(injection eo12 with f1_ f2_ f3_;have f4_:=f1_.symm;have f5_:=f3_.symm;clear f1_ f2_ f3_;subst f4_;subst f5_))
   refine hK.out _ _ ⟨(zP BK162.out 0).trans rfl,(zP BK162.out 1).trans rfl,(zP BK163.out 0).trans rfl,(zP BK163.out 1).trans rfl⟩ (fun hHeld => ?_)
   clear hK K
   refine norm_ (a':=?_) ?_ ?_
   rotate_left
   ·
    show Act.put _ (some 18) _ = _
    simp only [Act.put,zO,zEb,zFb,i64_w,i32_w]
    rfl
   refine one_ (i:=10) (N:=some 21) #[true,true,true,true,true,true,true,true,true,true,true,false,false] rfl rfl (one_of HT_.out (by kernel_rfl)) (by decide) (fun K hK => ?_)
   refine goes_ Try.func83 (by kernel_rfl) rfl #[.slice Ao12 t164.length co12,.slice A1_0 l1_0.length c1_0] (by rfl) rfl rfl (by (try simp only [zCb,zMb,zNb]);first|done|rfl|(simp only [zLb,zDb];rfl)) ?_
   with_reducible refine (spec_l2Ints.calls k _ _ t164 _ _ l1_0 t167 _ ?side1 ?side2 ?side3 ?side4 A9.out).mono ?_
   (case side1 => repeat (first|exact (Kd.R_reads' HO166.out).2.2|(with_reducible refine zBb ?_ _)|(with_reducible refine zAb ?_ _)|(with_reducible refine zX ?_)))
   (case side2 => exact (Kd.R_reads' HO166.out).2.1)
   (case side3 => exact zsd HR1_0 HB)
   (case side4 => exact HC1_0.out)
   rintro e w' ⟨rfl,⟨nd,rfl⟩⟩
   refine ⟨_,rfl,?_⟩
   refine hK.out _ _ ⟨(zP BK162.out 0).trans rfl,(zP BK162.out 1).trans rfl,(zP BK163.out 0).trans rfl,(zP BK163.out 1).trans rfl⟩ (fun hHeld => ?_)
   clear hK K
   refine norm_ (a':=?_) ?_ ?_
   rotate_left
   ·
    show Act.put _ (some 21) _ = _
    simp only [Act.put,zO,zEb,zFb,i64_w,i32_w]
    rfl
   refine zut 11 22 HT_ ?_;refine zut 12 23 HT_ ?_
   refine done_ (done_of HT_.out (by kernel_rfl)) ?_
   try go_wp2
   go_meet
   case rel => exact ⟨_,(!t167),za,H',⟨by first|omega|exact Nat.le_refl _⟩,⟨zx BK162⟩,⟨zx BK163⟩,⟨zz HB⟩⟩
  ·
   rw [if_neg c7] at H;have c7b0:=beq_eq_false_iff_ne.mpr c7;have c7b1:=bne_iff_ne.mpr c7
   (first|rw [c7b0]|(simp only [i64_w,i32_w];rw [c7b0])|skip)
   have H':=zA H
   clear H
   try go_wp2
   have n0_:=zA (zI BK162.out);have n1_:=zA (zI BK163.out);have n2_:=zA (zJ HB.out);clear BK162;clear BK163;clear HB;have BK162:=n0_;have BK163:=n1_;have HB:=n2_;clear n0_ n1_ n2_
   refine start_ (n:=13) (S:=fun w' => True) (ds:=[]) #[false,false,false,false,false,false,false,false,false,false,false,false,false] (by kernel_rfl) rfl rfl trivial (fun hHeld => ?_);refine with_tabW spec_l7Is.tab1 spec_l7Is.bits1 (fun HT_ HW_ => ?_)
   generalize w6.drew = w13 at BK162 BK163 HB hHeld ⊢
   refine zut 0 11 HT_ ?_;refine zut 1 12 HT_ ?_;refine zut 2 13 HT_ ?_;refine zut 3 14 HT_ ?_;refine zot 4 15 HT_ ?_;refine zot 5 16 HT_ ?_;refine zot 6 17 HT_ ?_;refine zot 7 18 HT_ ?_;refine zot 8 19 HT_ ?_;refine zot 9 20 HT_ ?_;refine zot 10 21 HT_ ?_;refine zot 11 22 HT_ ?_;refine zut 12 23 HT_ ?_
   refine done_ (done_of HT_.out (by kernel_rfl)) ?_
   try go_wp2
   go_meet
   case rel => exact ⟨_,(true),za,H',⟨by first|omega|exact Nat.le_refl _⟩,⟨zx BK162⟩,⟨zx BK163⟩,⟨zz HB⟩⟩
 case rest =>
  clear HC4;(try clear c1);(try clear c2);(try clear p2);(try clear c7);(try clear c7b0);(try clear c7b1);(try clear c8);(try clear c10);(try clear c12);obtain ⟨kq,x23_3,rfl,HA,HJ3,BK162,BK163,HB⟩:=hcut
  cases kq with
  | zero => exact absurd HA.out (by simp [spec_l7Is.j0])
  | succ kj3 =>
   have H:=HA.out;clear HA;simp only [spec_l7Is.j0] at H
   by_cases c14 : x23_3 = true
   ·
    subst c14
    rw [if_pos rfl] at H
    obtain rfl:=Option.some.inj H
    go_wp2
    go_ret
    exact ⟨zrr,zz HB⟩
   ·
    replace c14:=Bool.eq_false_iff.mpr c14
    subst c14
    have H1 : (spec_l7Is.l0 kj3 l2 0 l0_0 l0_1 l1_0 l1_1) = some r:=by rw [if_neg (show ¬ (false = true) by decide)] at H;exact H
    clear H;have H:=H1;clear H1
    have H':=zA H
    clear H
    go_wp2
    go_loopg [7] kj3 (fun kq v7 w' => ∃ (x7_2 : Int),v7 = .int .i64 x7_2 ∧ Aside0 (spec_l7Is.l0 kq l2 x7_2 l0_0 l0_1 l1_0 l1_1 = some r) ∧ Aside0 (kq ≤ kj3) ∧ Aside0 (w'.heap[gb162]? = some (.cells #[(.slice A0_0 l0_0.length c0_0),(.slice A0_1 l0_1.length c0_1)] 46 (0,0))) ∧ Aside0 (w'.heap[gb163]? = some (.cells #[(.slice A1_0 l1_0.length c1_0),(.slice A1_1 l1_1.length c1_1)] 46 (0,0))) ∧ Aside0 (Below w.heap.size w w'))
    case atStart => exact ⟨(0),za,H',⟨Nat.le_refl _⟩,⟨zx BK162⟩,⟨zx BK163⟩,⟨zz HB⟩⟩
    case round =>
     clear H';(try clear c1);(try clear c2);(try clear p2);(try clear c7);(try clear c7b0);(try clear c7b1);(try clear c8);(try clear c10);(try clear c12);(try clear c14);(try clear p2);obtain ⟨x7_2,rfl,HA,HK2,BK162,BK163,HB⟩:=hrel
     cases gk with
     | zero => exact absurd HA.out (by simp [spec_l7Is.l0])
     | succ k2 =>
      have H:=HA.out;clear HA;simp only [spec_l7Is.l0] at H
      by_cases c15 : x7_2 < (l0_1.length : Int)
      ·
       rw [if_pos c15] at H;have c15b0:=decide_eq_true c15;clear c15
       by_cases c16 : 0 ≤ x7_2
       ·
        rw [if_pos c16] at H;have c16b0:=decide_eq_true c16;clear c16;obtain ⟨t170,A170,H⟩:=zYb.mp H;(try dsimp only at H);have A17:=zA A170;clear A170
        have H':=zA H
        clear H;have hnb18:=NB162_163.out;have hnc18:=NB163_162.out;have hcz19_0:=zc (.slice A0_0 l0_0.length c0_0) BK162 0 rfl;have hcz19_1:=zc (.slice A0_1 l0_1.length c0_1) BK162 1 rfl;have hfz19_0:=blk_frozen BK162.out 0;have hfz19_1:=blk_frozen BK162.out 1
        try go_wp2
        have n0_:=zA (zI BK162.out);have n1_:=zA (zI BK163.out);have n2_:=zA (zJ HB.out);clear BK162;clear BK163;clear HB;have BK162:=n0_;have BK163:=n1_;have HB:=n2_;clear n0_ n1_ n2_;have p168 : 0 ≤ (x7_2 : Int):=zXb ze;have q168 : x7_2 < (l0_1.length : Int):=zXb ze;obtain ⟨ad168,A168_1,c168_1,e168,hx168_0,hx168_1,hl168_1,hi168_1⟩:=at_T97 HR0_1.out x7_2 p168 q168;have hw168_1:=hx168_1;have hw168_0:=hx168_0
        cases e168
        replace hx168_0:=zhx HB hx168_0;replace hx168_1:=zhx HB hx168_1;have HR168_1:=zA hi168_1;have HC168_1:=zA hl168_1;clear hi168_1 hl168_1;replace p168:=eq_true p168;replace q168:=eq_true q168;have p169 : 0 ≤ (x7_2 : Int):=zXb ze;have q169 : x7_2 < (l0_1.length : Int):=zXb ze;obtain ⟨ad169,A169_1,c169_1,e169,hx169_0,hx169_1,hl169_1,hi169_1⟩:=at_T97 HR0_1.out x7_2 p169 q169;have hw169_1:=hx169_1;have hw169_0:=hx169_0
        obtain rfl : ad168 = ad169:=(by injection e169)
        replace hx169_0:=zhx HB hx169_0;replace hx169_1:=zhx HB hx169_1;have HR169_1:=zA hi169_1;have HC169_1:=zA hl169_1;clear hi169_1 hl169_1;replace p169:=eq_true p169;replace q169:=eq_true q169;have ea_:=Option.some.inj (hx168_1.symm.trans hx169_1)
        injection ea_ with ea_ en_ ec_
        subst ea_
        subst ec_
        clear en_
        refine start_ (n:=17) (S:=fun w' => w'.cell? ⟨gb162,0,none⟩ = some (.slice A0_0 l0_0.length c0_0) ∧ w'.cell? ⟨gb162,1,none⟩ = some (.slice (some ad168) l0_1.length c0_1) ∧ w'.cell? (ad168.add ((x7_2).toNat * 2)) = some (.int .i64 ((rd_T97 l0_1 x7_2).f0)) ∧ w'.cell? ⟨(ad168.add ((x7_2).toNat * 2)).block,(ad168.add ((x7_2).toNat * 2)).off + 1,none⟩ = some (.slice A168_1 ((rd_T97 l0_1 x7_2).f1).length c168_1) ∧ w'.cell? (ad168.add ((x7_2).toNat * 2)) = some (.int .i64 ((rd_T97 l0_1 x7_2).f0)) ∧ w'.cell? ⟨(ad168.add ((x7_2).toNat * 2)).block,(ad168.add ((x7_2).toNat * 2)).off + 1,none⟩ = some (.slice A168_1 ((rd_T97 l0_1 x7_2).f1).length c168_1)) (ds:=[]) #[false,false,false,false,false,false,false,false,false,false,false,false,false,false,false,false,false] (by kernel_rfl) rfl rfl ⟨(zP BK162.out 0).trans rfl,(zP BK162.out 1).trans rfl,((HB.out.cell (World.block_lt_of_cell? w _ hw168_0)).trans hw168_0),((HB.out.cell (World.block_lt_of_cell? w _ hw168_1)).trans hw168_1),((HB.out.cell (World.block_lt_of_cell? w _ hw169_0)).trans hw169_0),((HB.out.cell (World.block_lt_of_cell? w _ hw169_1)).trans hw169_1)⟩ (fun hHeld => ?_);refine with_tabW spec_l7Is.tab6 spec_l7Is.bits6 (fun HT_ HW_ => ?_)
        generalize wr.drew = w20 at BK162 BK163 HB HR168_1 HR169_1 hx168_0 hx168_1 hx169_0 hx169_1 hHeld ⊢
        refine zut 0 31 HT_ ?_;refine zut 2 33 HT_ ?_;refine zut 6 37 HT_ ?_;refine zut 7 38 HT_ ?_;refine zut 9 40 HT_ ?_;refine zwt 1 32 HT_ HW_ hHeld ?_;refine zut 3 34 HT_ ?_;refine zut 4 35 HT_ ?_;refine zwt 5 36 HT_ HW_ hHeld ?_;refine zwt 8 39 HT_ HW_ hHeld ?_;refine zut 10 41 HT_ ?_;refine zut 11 42 HT_ ?_;refine zwt 12 43 HT_ HW_ hHeld ?_
        refine join_ (σ:=Value × Nat) 1 #[true,true,true,true,true,true,true,true,true,true,true,true,true,true,true,true,false] (fun s_ => [(44,s_.1),(8,.pointer (some ⟨s_.2,0,none⟩)),(45,.agg #[.int .i64 ((rd_T97 l0_1 x7_2).f0),s_.1])]) (fun s_ w' => (w'.cell? ⟨gb162,0,none⟩ = some (.slice A0_0 l0_0.length c0_0) ∧ w'.cell? ⟨gb162,1,none⟩ = some (.slice (some ad168) l0_1.length c0_1) ∧ w'.cell? (ad168.add ((x7_2).toNat * 2)) = some (.int .i64 ((rd_T97 l0_1 x7_2).f0)) ∧ w'.cell? ⟨(ad168.add ((x7_2).toNat * 2)).block,(ad168.add ((x7_2).toNat * 2)).off + 1,none⟩ = some (.slice A168_1 ((rd_T97 l0_1 x7_2).f1).length c168_1) ∧ w'.cell? (ad168.add ((x7_2).toNat * 2)) = some (.int .i64 ((rd_T97 l0_1 x7_2).f0)) ∧ w'.cell? ⟨(ad168.add ((x7_2).toNat * 2)).block,(ad168.add ((x7_2).toNat * 2)).off + 1,none⟩ = some (.slice A168_1 ((rd_T97 l0_1 x7_2).f1).length c168_1)) ∧ (Kd.R (Kd.int .i64) 3 w' w.heap.size (fun _ => True) s_.1 t170) ∧ (w'.heap[gb162]? = some (.cells #[.slice A0_0 l0_0.length c0_0,.slice (some ad168) l0_1.length c0_1] 46 (0,0))) ∧ (w'.heap[gb163]? = some (.cells #[.slice A1_0 l1_0.length c1_0,.slice A1_1 l1_1.length c1_1] 46 (0,0))) ∧ (w'.heap[s_.2]? = some (.cells #[.int .i64 0,.slice none 0 0] 97 (0,0))) ∧ (w.heap.size ≤ s_.2) ∧ (w.heap.size ≤ s_.2) ∧ (gb162 ≠ s_.2) ∧ (s_.2 ≠ gb162) ∧ (gb163 ≠ s_.2) ∧ (s_.2 ≠ gb163) ∧ (Below w.heap.size w w')) ?_ ?_
        rotate_left
        ·
         intro hCont
         refine two_ (i:=13) (j:=15) (Ni:=some 44) (Nj:=some 8) #[true,true,true,true,true,true,true,true,true,true,true,true,true,true,false,false,false] #[true,true,true,true,true,true,true,true,true,true,true,true,true,false,false,true,false] rfl rfl rfl rfl (two_of HT_.out (by kernel_rfl)) (by decide) (by decide) (fun K hK => ?_) (fun K hK => ?_)
         ·
          skip
          refine goes_ Try.func127 (by kernel_rfl) rfl #[.slice A2 l2.length c2,.slice A168_1 ((rd_T97 l0_1 x7_2).f1).length c168_1] (by rfl) rfl rfl (by (try simp only [zCb,zMb,zNb]);first|done|rfl|(simp only [zLb,zDb];rfl)) ?_
          with_reducible refine (spec_l7List.calls k2 _ _ l2 _ _ ((rd_T97 l0_1 x7_2).f1) t170 _ ?side1 ?side2 ?side3 ?side4 A17.out).mono ?_
          (case side1 => exact zsd HR2 HB)
          (case side2 => exact HC2.out)
          (case side3 => exact zsd HR169_1 HB)
          (case side4 => exact HC169_1.out)
          rintro e w21 ⟨v171,rfl,ho0,hb⟩
          refine ⟨_,rfl,?_⟩
          have n0_:=zA (zHb ho0 (zT (zz HB)));have n1_:=zbk BK162 hb;have n2_:=zbk BK163 hb;have n3_:=zA (zJb (zz HB) hb);clear BK162;clear BK163;clear HB;have HO172:=n0_;have BK162:=n1_;have BK163:=n2_;have HB:=n3_;clear n0_ n1_ n2_ n3_;(try clear hb);(try clear hb2);(try clear hk);(try clear hi);(try clear ho0);obtain ⟨Ao22,co22,eo22⟩:=Kd.R_slice HO172.out
          (first|subst eo22|(injection eo22 with f1_ f2_ f3_;have f4_:=f1_.symm;have f5_:=f3_.symm;clear f1_ f2_ f3_;subst f4_;subst f5_))
          refine hK.out _ _ ⟨(zP BK162.out 0).trans rfl,(zP BK162.out 1).trans rfl,((HB.out.cell (World.block_lt_of_cell? w _ hw168_0)).trans hw168_0),((HB.out.cell (World.block_lt_of_cell? w _ hw168_1)).trans hw168_1),((HB.out.cell (World.block_lt_of_cell? w _ hw169_0)).trans hw169_0),((HB.out.cell (World.block_lt_of_cell? w _ hw169_1)).trans hw169_1)⟩ (fun hHeld => ?_)
          clear hK K
          refine norm_ (a':=?_) ?_ ?_
          rotate_left
          ·
           show Act.put _ (some 44) _ = _
           simp only [Act.put,zO,zEb,zFb,i64_w,i32_w]
           rfl
          refine zut 14 45 HT_ ?_
          refine one_ (i:=15) (N:=some 8) #[true,true,true,true,true,true,true,true,true,true,true,true,true,true,true,true,false] rfl rfl (one_of HT_.out (by kernel_rfl)) (by decide) (fun K hK => ?_)
          refine box_step ?hg (N:=8) ?hd (cs:=#[.int .i64 0,.slice none 0 0]) (t:=97) ?hr ?_;(case hd => rfl);(case hg => rfl);(case hr => first|(go_simp;done)|(go_simp;rfl))
          intro gb173 hg w23 hbox hb
          have n0_:=zA (zZ (zq HO172) hb);have n1_:=zbk BK162 hb;have n2_:=zbk BK163 hb;have n3_:=zA (zJb (zz HB) hb);have n4_:=zA (hbox);have n5_:=zgw hg HB;have n6_:=zgw hg HB;have n7_:=znb hg BK162;have n8_:=znc hg BK162;have n9_:=znb hg BK163;have n10_:=znc hg BK163;clear HO172;clear BK162;clear BK163;clear HB;have HO172:=n0_;have BK162:=n1_;have BK163:=n2_;have HB:=n3_;have BK173:=n4_;have GW173:=n5_;have GE173:=n6_;have NB162_173:=n7_;have NB173_162:=n8_;have NB163_173:=n9_;have NB173_163:=n10_;clear n0_ n1_ n2_ n3_ n4_ n5_ n6_ n7_ n8_ n9_ n10_;clear hb hbox hg
          refine hK.out _ _ ⟨(zP BK162.out 0).trans rfl,(zP BK162.out 1).trans rfl,((HB.out.cell (World.block_lt_of_cell? w _ hw168_0)).trans hw168_0),((HB.out.cell (World.block_lt_of_cell? w _ hw168_1)).trans hw168_1),((HB.out.cell (World.block_lt_of_cell? w _ hw169_0)).trans hw169_0),((HB.out.cell (World.block_lt_of_cell? w _ hw169_1)).trans hw169_1)⟩ (fun hHeld => ?_)
          clear hK K
          refine norm_ (a':=?_) ?_ ?_
          rotate_left
          ·
           show Act.put _ (some 8) _ = _
           simp only [Act.put,zO,zEb,zFb,i64_w,i32_w]
           rfl
          exact norm_ (by simp only [putAll,Act.put,zO,zEb,zFb]) (hCont (.slice Ao22 t170.length co22,gb173) _ ⟨hHeld,(zq HO172),(zx BK162),(zx BK163),(zx BK173),GW173.out,GE173.out,NB162_173.out,NB173_162.out,NB163_173.out,NB173_163.out,(zz HB)⟩)
         ·
          skip
          refine box_step ?hg (N:=8) ?hd (cs:=#[.int .i64 0,.slice none 0 0]) (t:=97) ?hr ?_;(case hd => rfl);(case hg => rfl);(case hr => first|(go_simp;done)|(go_simp;rfl))
          intro gb173 hg w21 hbox hb
          have n0_:=zbk BK162 hb;have n1_:=zbk BK163 hb;have n2_:=zA (zJb (zz HB) hb);have n3_:=zA (hbox);have n4_:=zgw hg HB;have n5_:=zgw hg HB;have n6_:=znb hg BK162;have n7_:=znc hg BK162;have n8_:=znb hg BK163;have n9_:=znc hg BK163;clear BK162;clear BK163;clear HB;have BK162:=n0_;have BK163:=n1_;have HB:=n2_;have BK173:=n3_;have GW173:=n4_;have GE173:=n5_;have NB162_173:=n6_;have NB173_162:=n7_;have NB163_173:=n8_;have NB173_163:=n9_;clear n0_ n1_ n2_ n3_ n4_ n5_ n6_ n7_ n8_ n9_;clear hb hbox hg
          refine hK.out _ _ ⟨(zP BK162.out 0).trans rfl,(zP BK162.out 1).trans rfl,((HB.out.cell (World.block_lt_of_cell? w _ hw168_0)).trans hw168_0),((HB.out.cell (World.block_lt_of_cell? w _ hw168_1)).trans hw168_1),((HB.out.cell (World.block_lt_of_cell? w _ hw169_0)).trans hw169_0),((HB.out.cell (World.block_lt_of_cell? w _ hw169_1)).trans hw169_1)⟩ (fun hHeld => ?_)
          clear hK K
          refine norm_ (a':=?_) ?_ ?_
          rotate_left
          ·
           show Act.put _ (some 8) _ = _
           simp only [Act.put,zO,zEb,zFb,i64_w,i32_w]
           rfl
          refine one_ (i:=13) (N:=some 44) #[true,true,true,true,true,true,true,true,true,true,true,true,true,true,false,true,false] rfl rfl (one_of HT_.out (by kernel_rfl)) (by decide) (fun K hK => ?_)
          refine goes_ Try.func127 (by kernel_rfl) rfl #[.slice A2 l2.length c2,.slice A168_1 ((rd_T97 l0_1 x7_2).f1).length c168_1] (by rfl) rfl rfl (by (try simp only [zCb,zMb,zNb]);first|done|rfl|(simp only [zLb,zDb];rfl)) ?_
          with_reducible refine (spec_l7List.calls k2 _ _ l2 _ _ ((rd_T97 l0_1 x7_2).f1) t170 _ ?side1 ?side2 ?side3 ?side4 A17.out).mono ?_
          (case side1 => exact zsd HR2 HB)
          (case side2 => exact HC2.out)
          (case side3 => exact zsd HR169_1 HB)
          (case side4 => exact HC169_1.out)
          rintro e w22 ⟨v171,rfl,ho0,hb⟩
          refine ⟨_,rfl,?_⟩
          have n0_:=zA (zHb ho0 (zT (zz HB)));have n1_:=zbk BK162 hb;have n2_:=zbk BK163 hb;have n3_:=zbk BK173 hb;have n4_:=zA (zJb (zz HB) hb);clear BK162;clear BK163;clear BK173;clear HB;have HO172:=n0_;have BK162:=n1_;have BK163:=n2_;have BK173:=n3_;have HB:=n4_;clear n0_ n1_ n2_ n3_ n4_;(try clear hb);(try clear hb2);(try clear hk);(try clear hi);(try clear ho0);obtain ⟨Ao23,co23,eo23⟩:=Kd.R_slice HO172.out
          (first|subst eo23|(injection eo23 with f1_ f2_ f3_;have f4_:=f1_.symm;have f5_:=f3_.symm;clear f1_ f2_ f3_;subst f4_;subst f5_))
          refine hK.out _ _ ⟨(zP BK162.out 0).trans rfl,(zP BK162.out 1).trans rfl,((HB.out.cell (World.block_lt_of_cell? w _ hw168_0)).trans hw168_0),((HB.out.cell (World.block_lt_of_cell? w _ hw168_1)).trans hw168_1),((HB.out.cell (World.block_lt_of_cell? w _ hw169_0)).trans hw169_0),((HB.out.cell (World.block_lt_of_cell? w _ hw169_1)).trans hw169_1)⟩ (fun hHeld => ?_)
          clear hK K
          refine norm_ (a':=?_) ?_ ?_
          rotate_left
          ·
           show Act.put _ (some 44) _ = _
           simp only [Act.put,zO,zEb,zFb,i64_w,i32_w]
           rfl
          refine zut 14 45 HT_ ?_
          exact norm_ (by simp only [putAll,Act.put,zO,zEb,zFb]) (hCont (.slice Ao23 t170.length co23,gb173) _ ⟨hHeld,(zq HO172),(zx BK162),(zx BK163),(zx BK173),GW173.out,GE173.out,NB162_173.out,NB173_162.out,NB163_173.out,NB173_163.out,(zz HB)⟩)
        rintro ⟨v171,gb173⟩ w24 ⟨hS_,h0_,h1_,h2_,h3_,h4_,h5_,h6_,h7_,h8_,h9_,h10_⟩
        have n0_ : Aside0 (Kd.R (Kd.int .i64) 3 w24 w.heap.size (fun _ => True) v171 t170):=⟨h0_⟩
        have n1_ : Aside0 (w24.heap[gb162]? = some (.cells #[.slice A0_0 l0_0.length c0_0,.slice (some ad168) l0_1.length c0_1] 46 (0,0))):=⟨h1_⟩
        have n2_ : Aside0 (w24.heap[gb163]? = some (.cells #[.slice A1_0 l1_0.length c1_0,.slice A1_1 l1_1.length c1_1] 46 (0,0))):=⟨h2_⟩
        have n3_ : Aside0 (w24.heap[gb173]? = some (.cells #[.int .i64 0,.slice none 0 0] 97 (0,0))):=⟨h3_⟩
        have n4_ : Aside0 (w.heap.size ≤ gb173):=⟨h4_⟩;have n5_ : Aside0 (w.heap.size ≤ gb173):=⟨h5_⟩;have n6_ : Aside0 (gb162 ≠ gb173):=⟨h6_⟩;have n7_ : Aside0 (gb173 ≠ gb162):=⟨h7_⟩;have n8_ : Aside0 (gb163 ≠ gb173):=⟨h8_⟩;have n9_ : Aside0 (gb173 ≠ gb163):=⟨h9_⟩;have n10_ : Aside0 (Below w.heap.size w w24):=⟨h10_⟩;clear BK162;clear BK163;clear HB;clear h0_ h1_ h2_ h3_ h4_ h5_ h6_ h7_ h8_ h9_ h10_;have HO172:=n0_;have BK162:=n1_;have BK163:=n2_;have BK173:=n3_;have GW173:=n4_;have GE173:=n5_;have NB162_173:=n6_;have NB173_162:=n7_;have NB163_173:=n8_;have NB173_163:=n9_;have HB:=n10_;clear n0_ n1_ n2_ n3_ n4_ n5_ n6_ n7_ n8_ n9_ n10_
        have hHeld : w24.cell? ⟨gb162,0,none⟩ = some (.slice A0_0 l0_0.length c0_0) ∧ w24.cell? ⟨gb162,1,none⟩ = some (.slice (some ad168) l0_1.length c0_1) ∧ w24.cell? (ad168.add ((x7_2).toNat * 2)) = some (.int .i64 ((rd_T97 l0_1 x7_2).f0)) ∧ w24.cell? ⟨(ad168.add ((x7_2).toNat * 2)).block,(ad168.add ((x7_2).toNat * 2)).off + 1,none⟩ = some (.slice A168_1 ((rd_T97 l0_1 x7_2).f1).length c168_1) ∧ w24.cell? (ad168.add ((x7_2).toNat * 2)) = some (.int .i64 ((rd_T97 l0_1 x7_2).f0)) ∧ w24.cell? ⟨(ad168.add ((x7_2).toNat * 2)).block,(ad168.add ((x7_2).toNat * 2)).off + 1,none⟩ = some (.slice A168_1 ((rd_T97 l0_1 x7_2).f1).length c168_1):=hS_
        obtain ⟨Ao25,co25,eo25⟩:=Kd.R_slice HO172.out
        (first|subst eo25|(injection eo25 with f1_ f2_ f3_;have f4_:=f1_.symm;have f5_:=f3_.symm;clear f1_ f2_ f3_;subst f4_;subst f5_))
        refine norm_ (a':=?_) ?_ ?_
        rotate_left
        ·
         simp only [putAll,Act.put,zO,zEb,zFb]
         rfl
        refine one_ (i:=16) (N:=none) #[true,true,true,true,true,true,true,true,true,true,true,true,true,true,true,true,true] rfl rfl (one_of HT_.out (by kernel_rfl)) (by decide) (fun K hK => ?_)
        have hs26 : w24.cell? ⟨gb173,0,none⟩ = some (.int .i64 0):=(zP BK173.out 0).trans rfl
        have hfs26:=blk_frozen BK173.out 0;have hns26_0:=NB162_173.out;have hns26_1:=NB163_173.out;have hms26_0:=NB173_162.out;have hms26_1:=NB173_163.out
        have hs27 : w24.cell? ⟨gb173,1,none⟩ = some (.slice none 0 0):=(zP BK173.out 1).trans rfl
        have hfs27:=blk_frozen BK173.out 1;have hns27_0:=NB162_173.out;have hns27_1:=NB163_173.out;have hms27_0:=NB173_162.out;have hms27_1:=NB173_163.out
        refine skip_ (w1:=?_) (by rfl) rfl ?_ ?_
        rotate_left
        ·
         go_simp
         rfl
        refine hK.out _ _ ⟨((zWb (p:=⟨gb173,_,none⟩) NB162_173.out _).trans (((zWb (p:=⟨gb173,_,none⟩) NB162_173.out _).trans (hHeld.1)))),((zWb (p:=⟨gb173,_,none⟩) NB162_173.out _).trans (((zWb (p:=⟨gb173,_,none⟩) NB162_173.out _).trans (hHeld.2.1)))),((zWb (p:=⟨gb173,_,none⟩) (by first|exact Nat.ne_of_lt (Nat.lt_of_lt_of_le (by have:=World.block_lt_of_cell? _ _ hw168_0;first|rwa [add_block] at this|exact this) GW173.out)|(rw [add_block];exact Nat.ne_of_lt (Nat.lt_of_lt_of_le (by have:=World.block_lt_of_cell? _ _ hw168_0;first|rwa [add_block] at this|exact this) GW173.out))|(show (Addr.add _ _).block ≠ _;rw [add_block];exact Nat.ne_of_lt (Nat.lt_of_lt_of_le (by have:=World.block_lt_of_cell? _ _ hw168_0;first|rwa [add_block] at this|exact this) GW173.out))|(dsimp only;exact Nat.ne_of_lt (Nat.lt_of_lt_of_le (by have:=World.block_lt_of_cell? _ _ hw168_0;first|rwa [add_block] at this|exact this) GW173.out))) _).trans (((zWb (p:=⟨gb173,_,none⟩) (by first|exact Nat.ne_of_lt (Nat.lt_of_lt_of_le (by have:=World.block_lt_of_cell? _ _ hw168_0;first|rwa [add_block] at this|exact this) GW173.out)|(rw [add_block];exact Nat.ne_of_lt (Nat.lt_of_lt_of_le (by have:=World.block_lt_of_cell? _ _ hw168_0;first|rwa [add_block] at this|exact this) GW173.out))|(show (Addr.add _ _).block ≠ _;rw [add_block];exact Nat.ne_of_lt (Nat.lt_of_lt_of_le (by have:=World.block_lt_of_cell? _ _ hw168_0;first|rwa [add_block] at this|exact this) GW173.out))|(dsimp only;exact Nat.ne_of_lt (Nat.lt_of_lt_of_le (by have:=World.block_lt_of_cell? _ _ hw168_0;first|rwa [add_block] at this|exact this) GW173.out))) _).trans (hHeld.2.2.1)))),((zWb (p:=⟨gb173,_,none⟩) (by first|exact Nat.ne_of_lt (Nat.lt_of_lt_of_le (by have:=World.block_lt_of_cell? _ _ hw168_1;first|rwa [add_block] at this|exact this) GW173.out)|(rw [add_block];exact Nat.ne_of_lt (Nat.lt_of_lt_of_le (by have:=World.block_lt_of_cell? _ _ hw168_1;first|rwa [add_block] at this|exact this) GW173.out))|(show (Addr.add _ _).block ≠ _;rw [add_block];exact Nat.ne_of_lt (Nat.lt_of_lt_of_le (by have:=World.block_lt_of_cell? _ _ hw168_1;first|rwa [add_block] at this|exact this) GW173.out))|(dsimp only;exact Nat.ne_of_lt (Nat.lt_of_lt_of_le (by have:=World.block_lt_of_cell? _ _ hw168_1;first|rwa [add_block] at this|exact this) GW173.out))) _).trans (((zWb (p:=⟨gb173,_,none⟩) (by first|exact Nat.ne_of_lt (Nat.lt_of_lt_of_le (by have:=World.block_lt_of_cell? _ _ hw168_1;first|rwa [add_block] at this|exact this) GW173.out)|(rw [add_block];exact Nat.ne_of_lt (Nat.lt_of_lt_of_le (by have:=World.block_lt_of_cell? _ _ hw168_1;first|rwa [add_block] at this|exact this) GW173.out))|(show (Addr.add _ _).block ≠ _;rw [add_block];exact Nat.ne_of_lt (Nat.lt_of_lt_of_le (by have:=World.block_lt_of_cell? _ _ hw168_1;first|rwa [add_block] at this|exact this) GW173.out))|(dsimp only;exact Nat.ne_of_lt (Nat.lt_of_lt_of_le (by have:=World.block_lt_of_cell? _ _ hw168_1;first|rwa [add_block] at this|exact this) GW173.out))) _).trans (hHeld.2.2.2.1)))),((zWb (p:=⟨gb173,_,none⟩) (by first|exact Nat.ne_of_lt (Nat.lt_of_lt_of_le (by have:=World.block_lt_of_cell? _ _ hw169_0;first|rwa [add_block] at this|exact this) GW173.out)|(rw [add_block];exact Nat.ne_of_lt (Nat.lt_of_lt_of_le (by have:=World.block_lt_of_cell? _ _ hw169_0;first|rwa [add_block] at this|exact this) GW173.out))|(show (Addr.add _ _).block ≠ _;rw [add_block];exact Nat.ne_of_lt (Nat.lt_of_lt_of_le (by have:=World.block_lt_of_cell? _ _ hw169_0;first|rwa [add_block] at this|exact this) GW173.out))|(dsimp only;exact Nat.ne_of_lt (Nat.lt_of_lt_of_le (by have:=World.block_lt_of_cell? _ _ hw169_0;first|rwa [add_block] at this|exact this) GW173.out))) _).trans (((zWb (p:=⟨gb173,_,none⟩) (by first|exact Nat.ne_of_lt (Nat.lt_of_lt_of_le (by have:=World.block_lt_of_cell? _ _ hw169_0;first|rwa [add_block] at this|exact this) GW173.out)|(rw [add_block];exact Nat.ne_of_lt (Nat.lt_of_lt_of_le (by have:=World.block_lt_of_cell? _ _ hw169_0;first|rwa [add_block] at this|exact this) GW173.out))|(show (Addr.add _ _).block ≠ _;rw [add_block];exact Nat.ne_of_lt (Nat.lt_of_lt_of_le (by have:=World.block_lt_of_cell? _ _ hw169_0;first|rwa [add_block] at this|exact this) GW173.out))|(dsimp only;exact Nat.ne_of_lt (Nat.lt_of_lt_of_le (by have:=World.block_lt_of_cell? _ _ hw169_0;first|rwa [add_block] at this|exact this) GW173.out))) _).trans (hHeld.2.2.2.2.1)))),((zWb (p:=⟨gb173,_,none⟩) (by first|exact Nat.ne_of_lt (Nat.lt_of_lt_of_le (by have:=World.block_lt_of_cell? _ _ hw169_1;first|rwa [add_block] at this|exact this) GW173.out)|(rw [add_block];exact Nat.ne_of_lt (Nat.lt_of_lt_of_le (by have:=World.block_lt_of_cell? _ _ hw169_1;first|rwa [add_block] at this|exact this) GW173.out))|(show (Addr.add _ _).block ≠ _;rw [add_block];exact Nat.ne_of_lt (Nat.lt_of_lt_of_le (by have:=World.block_lt_of_cell? _ _ hw169_1;first|rwa [add_block] at this|exact this) GW173.out))|(dsimp only;exact Nat.ne_of_lt (Nat.lt_of_lt_of_le (by have:=World.block_lt_of_cell? _ _ hw169_1;first|rwa [add_block] at this|exact this) GW173.out))) _).trans (((zWb (p:=⟨gb173,_,none⟩) (by first|exact Nat.ne_of_lt (Nat.lt_of_lt_of_le (by have:=World.block_lt_of_cell? _ _ hw169_1;first|rwa [add_block] at this|exact this) GW173.out)|(rw [add_block];exact Nat.ne_of_lt (Nat.lt_of_lt_of_le (by have:=World.block_lt_of_cell? _ _ hw169_1;first|rwa [add_block] at this|exact this) GW173.out))|(show (Addr.add _ _).block ≠ _;rw [add_block];exact Nat.ne_of_lt (Nat.lt_of_lt_of_le (by have:=World.block_lt_of_cell? _ _ hw169_1;first|rwa [add_block] at this|exact this) GW173.out))|(dsimp only;exact Nat.ne_of_lt (Nat.lt_of_lt_of_le (by have:=World.block_lt_of_cell? _ _ hw169_1;first|rwa [add_block] at this|exact this) GW173.out))) _).trans (hHeld.2.2.2.2.2))))⟩ (fun hHeld => ?_)
        clear hK K
        refine done_ (done_of HT_.out (by kernel_rfl)) ?_
        try go_wp2
        go_loopg [9,10] k2 (fun kq v9 v10 w' => ∃ (x9_3 : Bool) (x10_3 : Int),v9 = .bool x9_3 ∧ v10 = .int .i64 x10_3 ∧ Aside0 (spec_l7Is.l1 kq l2 x7_2 x9_3 x10_3 l0_0 l0_1 l1_0 l1_1 ((rd_T97 l0_1 x7_2).f0) t170 = some r) ∧ Aside0 (kq ≤ k2) ∧ Aside0 (Kd.R (Kd.int .i64) 3 w' w.heap.size (fun _ => True) (.slice Ao25 t170.length co25) t170) ∧ Aside0 (w'.heap[gb162]? = some (.cells #[(.slice A0_0 l0_0.length c0_0),(.slice (some ad168) l0_1.length c0_1)] 46 (0,0))) ∧ Aside0 (w'.heap[gb163]? = some (.cells #[(.slice A1_0 l1_0.length c1_0),(.slice A1_1 l1_1.length c1_1)] 46 (0,0))) ∧ Aside0 (w'.heap[gb173]? = some (.cells #[.int .i64 ((rd_T97 l0_1 x7_2).f0),(.slice Ao25 t170.length co25)] 97 (0,0))) ∧ Aside0 (Below w.heap.size w w'))
        case atStart => exact ⟨(false),(0),za,za,H',⟨Nat.le_refl _⟩,⟨by (with_reducible repeat (first|apply zE|apply zD|apply zH));exact zGb (zR (p:=⟨gb173,1,none⟩) (zR (p:=⟨gb173,0,none⟩) (Kd.R_types HO172.out BK173.out (by decide)) (fun _ hk => hk.2) (.int .i64 ((rd_T97 l0_1 x7_2).f0))) (fun _ hk => hk.2) (.slice Ao25 t170.length co25)) (fun _ hk => trivial)⟩,⟨by (with_reducible repeat (first|refine zF ?_ _|refine zI ?_|refine zG ?_ _));refine zUb ?_ NB162_173.out _;(with_reducible repeat (first|refine zF ?_ _|refine zI ?_|refine zG ?_ _));refine zUb ?_ NB162_173.out _;(with_reducible repeat (first|refine zF ?_ _|refine zI ?_|refine zG ?_ _));exact BK162.out⟩,⟨by (with_reducible repeat (first|refine zF ?_ _|refine zI ?_|refine zG ?_ _));refine zUb ?_ NB163_173.out _;(with_reducible repeat (first|refine zF ?_ _|refine zI ?_|refine zG ?_ _));refine zUb ?_ NB163_173.out _;(with_reducible repeat (first|refine zF ?_ _|refine zI ?_|refine zG ?_ _));exact BK163.out⟩,⟨by (with_reducible repeat (first|refine zF ?_ _|refine zI ?_|refine zG ?_ _));refine blk_put (cs:=#[.int .i64 ((rd_T97 l0_1 x7_2).f0),.slice none 0 0]) ?_ 1 _ rfl;(with_reducible repeat (first|refine zF ?_ _|refine zI ?_|refine zG ?_ _));refine blk_put (cs:=#[.int .i64 0,.slice none 0 0]) ?_ 0 _ rfl;(with_reducible repeat (first|refine zF ?_ _|refine zI ?_|refine zG ?_ _));exact BK173.out⟩,⟨zz HB⟩⟩
        case round =>
         clear H';(try clear c1);(try clear p1);(try clear q1);(try clear hx1);(try clear c2);(try clear p2);(try clear c7);(try clear c7b0);(try clear c7b1);(try clear c8);(try clear c10);(try clear c12);(try clear c14);(try clear c15);(try clear c15b0);(try clear c16);(try clear c16b0);(try clear p16);(try clear q16);(try clear hx16);(try clear c18);(try clear hcz19_0);(try clear hcz19_1);(try clear hfz19_0);(try clear hfz19_1);(try clear hx168_0);(try clear hx168_1);(try clear hx169_0);(try clear hx169_1);(try clear p168);(try clear p169);(try clear p2);(try clear q168);(try clear q169);obtain ⟨x9_3,x10_3,rfl,rfl,HA,HK3,HO_174001,BK162,BK163,BK173,HB⟩:=hrel
         cases gk with
         | zero => exact absurd HA.out (by simp [spec_l7Is.l1])
         | succ k3 =>
          have H:=HA.out;clear HA;simp only [spec_l7Is.l1] at H
          by_cases c28 : x10_3 < (l1_1.length : Int)
          ·
           rw [if_pos c28] at H;have c28b0:=decide_eq_true c28;clear c28
           by_cases c29 : x9_3 = true
           ·
            subst c29
            rw [if_pos rfl] at H
            have H':=zA H
            clear H;have hnb30:=NB163_162.out;have hnc30:=NB162_163.out;have hnb31:=NB163_173.out;have hnc31:=NB173_163.out;have hcz32_0:=zc (.slice A1_0 l1_0.length c1_0) BK163 0 rfl;have hcz32_1:=zc (.slice A1_1 l1_1.length c1_1) BK163 1 rfl;have hfz32_0:=blk_frozen BK163.out 0;have hfz32_1:=blk_frozen BK163.out 1
            try go_wp2
            have n0_:=zA (zH HO_174001.out);have n1_:=zA (zI BK162.out);have n2_:=zA (zI BK163.out);have n3_:=zA (zI BK173.out);have n4_:=zA (zJ HB.out);clear HO_174001;clear BK162;clear BK163;clear BK173;clear HB;have HO_174001:=n0_;have BK162:=n1_;have BK163:=n2_;have BK173:=n3_;have HB:=n4_;clear n0_ n1_ n2_ n3_ n4_
            refine start_ (n:=11) (S:=fun w' => True) (ds:=[]) #[false,false,false,false,false,false,false,false,false,false,false] (by kernel_rfl) rfl rfl trivial (fun hHeld => ?_);refine with_tabW spec_l7Is.tab11 spec_l7Is.bits11 (fun HT_ HW_ => ?_)
            generalize wr.drew = w33 at HO_174001 BK162 BK163 BK173 HB hHeld ⊢
            refine zut 0 53 HT_ ?_;refine zut 1 54 HT_ ?_;refine zot 2 55 HT_ ?_;refine zot 3 56 HT_ ?_;refine zot 4 57 HT_ ?_;refine zot 5 58 HT_ ?_;refine zot 6 59 HT_ ?_;refine zot 7 60 HT_ ?_;refine zot 8 61 HT_ ?_;refine zut 9 62 HT_ ?_;refine zut 10 9 HT_ ?_
            refine done_ (done_of HT_.out (by kernel_rfl)) ?_
            try go_wp2
            go_roundg k3
            case measure => have:=HJ3.out;have:=HK2.out;have:=HK3.out;omega
            case rel => exact ⟨(true),(wrap64 (x10_3 + 1)),za,za,H',⟨by have:=HJ3.out;have:=HK2.out;have:=HK3.out;omega⟩,⟨zq HO_174001⟩,⟨zx BK162⟩,⟨zx BK163⟩,⟨zx BK173⟩,⟨zz HB⟩⟩
           ·
            replace c29:=Bool.eq_false_iff.mpr c29
            subst c29
            have H1 : (if 0 ≤ x10_3 then ((spec_EqualAtoms.f k3 ((rd_T97 l0_1 x7_2).f0) t170 ((rd_T97 l1_1 x10_3).f0) ((rd_T97 l1_1 x10_3).f1)).bind fun t175 => (spec_l7Is.l1 k3 l2 x7_2 t175 (wrap64 (x10_3 + 1)) l0_0 l0_1 l1_0 l1_1 ((rd_T97 l0_1 x7_2).f0) t170)) else (none)) = some r:=by rw [if_neg (show ¬ (false = true) by decide)] at H;exact H
            clear H;have H:=H1;clear H1
            by_cases c34 : 0 ≤ x10_3
            ·
             rw [if_pos c34] at H;have c34b0:=decide_eq_true c34;clear c34;obtain ⟨t175,A350,H⟩:=zYb.mp H;(try dsimp only at H);have A35:=zA A350;clear A350
             have H':=zA H
             clear H;have hnb36:=NB163_162.out;have hnc36:=NB162_163.out;have hnb37:=NB163_173.out;have hnc37:=NB173_163.out;have hcz38_0:=zc (.slice A1_0 l1_0.length c1_0) BK163 0 rfl;have hcz38_1:=zc (.slice A1_1 l1_1.length c1_1) BK163 1 rfl;have hfz38_0:=blk_frozen BK163.out 0;have hfz38_1:=blk_frozen BK163.out 1
             try go_wp2
             have n0_:=zA (zH HO_174001.out);have n1_:=zA (zI BK162.out);have n2_:=zA (zI BK163.out);have n3_:=zA (zI BK173.out);have n4_:=zA (zJ HB.out);clear HO_174001;clear BK162;clear BK163;clear BK173;clear HB;have HO_174001:=n0_;have BK162:=n1_;have BK163:=n2_;have BK173:=n3_;have HB:=n4_;clear n0_ n1_ n2_ n3_ n4_;have p174 : 0 ≤ (x10_3 : Int):=zXb ze;have q174 : x10_3 < (l1_1.length : Int):=zXb ze;obtain ⟨ad174,A174_1,c174_1,e174,hx174_0,hx174_1,hl174_1,hi174_1⟩:=at_T97 HR1_1.out x10_3 p174 q174;have hw174_1:=hx174_1;have hw174_0:=hx174_0
             cases e174
             replace hx174_0:=zhx HB hx174_0;replace hx174_1:=zhx HB hx174_1;have HR174_1:=zA hi174_1;have HC174_1:=zA hl174_1;clear hi174_1 hl174_1;replace p174:=eq_true p174;replace q174:=eq_true q174
             refine start_ (n:=11) (S:=fun w' => w'.cell? ⟨gb173,0,none⟩ = some (.int .i64 ((rd_T97 l0_1 x7_2).f0)) ∧ w'.cell? ⟨gb173,1,none⟩ = some (.slice Ao25 t170.length co25) ∧ w'.cell? ⟨gb163,0,none⟩ = some (.slice A1_0 l1_0.length c1_0) ∧ w'.cell? ⟨gb163,1,none⟩ = some (.slice (some ad174) l1_1.length c1_1) ∧ w'.cell? (ad174.add ((x10_3).toNat * 2)) = some (.int .i64 ((rd_T97 l1_1 x10_3).f0)) ∧ w'.cell? ⟨(ad174.add ((x10_3).toNat * 2)).block,(ad174.add ((x10_3).toNat * 2)).off + 1,none⟩ = some (.slice A174_1 ((rd_T97 l1_1 x10_3).f1).length c174_1)) (ds:=[]) #[false,false,false,false,false,false,false,false,false,false,false] (by kernel_rfl) rfl rfl ⟨(zP BK173.out 0).trans rfl,(zP BK173.out 1).trans rfl,(zP BK163.out 0).trans rfl,(zP BK163.out 1).trans rfl,((HB.out.cell (World.block_lt_of_cell? w _ hw174_0)).trans hw174_0),((HB.out.cell (World.block_lt_of_cell? w _ hw174_1)).trans hw174_1)⟩ (fun hHeld => ?_);refine with_tabW spec_l7Is.tab11 spec_l7Is.bits11 (fun HT_ HW_ => ?_)
             generalize wr.drew = w39 at HO_174001 BK162 BK163 BK173 HB HR174_1 hx174_0 hx174_1 hHeld ⊢
             refine zut 0 53 HT_ ?_;refine zut 1 54 HT_ ?_;refine zut 3 56 HT_ ?_;refine zut 5 58 HT_ ?_;refine zwt 2 55 HT_ HW_ hHeld ?_;refine zwt 4 57 HT_ HW_ hHeld ?_;refine zut 6 59 HT_ ?_;refine zwt 7 60 HT_ HW_ hHeld ?_
             refine one_ (i:=8) (N:=some 61) #[true,true,true,true,true,true,true,true,true,false,false] rfl rfl (one_of HT_.out (by kernel_rfl)) (by decide) (fun K hK => ?_)
             refine goes_ Try.func84 (by kernel_rfl) rfl #[.agg #[.int .i64 ((rd_T97 l0_1 x7_2).f0),.slice Ao25 t170.length co25],.agg #[.int .i64 ((rd_T97 l1_1 x10_3).f0),.slice A174_1 ((rd_T97 l1_1 x10_3).f1).length c174_1]] (by rfl) rfl rfl (by (try simp only [zCb,zMb,zNb]);first|done|rfl|(simp only [zLb,zDb];rfl)) ?_
             with_reducible refine (spec_EqualAtoms.calls k3 ((rd_T97 l0_1 x7_2).f0) _ _ t170 ((rd_T97 l1_1 x10_3).f0) _ _ ((rd_T97 l1_1 x10_3).f1) t175 _ ?side1 ?side2 ?side3 ?side4 A35.out).mono ?_
             (case side1 => repeat (first|exact (Kd.R_reads' HO_174001.out).2.2|(with_reducible refine zBb ?_ _)|(with_reducible refine zAb ?_ _)|(with_reducible refine zX ?_)))
             (case side2 => exact (Kd.R_reads' HO_174001.out).2.1)
             (case side3 => exact zsd HR174_1 HB)
             (case side4 => exact HC174_1.out)
             rintro e w40 ⟨rfl,hb⟩
             refine ⟨_,rfl,?_⟩
             have n0_:=zA (zZ (zq HO_174001) hb);have n1_:=zbk BK162 hb;have n2_:=zbk BK163 hb;have n3_:=zbk BK173 hb;have n4_:=zA (zJb (zz HB) hb);clear HO_174001;clear BK162;clear BK163;clear BK173;clear HB;have HO_174001:=n0_;have BK162:=n1_;have BK163:=n2_;have BK173:=n3_;have HB:=n4_;clear n0_ n1_ n2_ n3_ n4_;(try clear hb);(try clear hb2);(try clear hk);(try clear hi)
             refine hK.out _ _ ⟨(zP BK173.out 0).trans rfl,(zP BK173.out 1).trans rfl,(zP BK163.out 0).trans rfl,(zP BK163.out 1).trans rfl,((HB.out.cell (World.block_lt_of_cell? w _ hw174_0)).trans hw174_0),((HB.out.cell (World.block_lt_of_cell? w _ hw174_1)).trans hw174_1)⟩ (fun hHeld => ?_)
             clear hK K
             refine norm_ (a':=?_) ?_ ?_
             rotate_left
             ·
              show Act.put _ (some 61) _ = _
              simp only [Act.put,zO,zEb,zFb,i64_w,i32_w]
              rfl
             refine zut 9 62 HT_ ?_;refine zut 10 9 HT_ ?_
             refine done_ (done_of HT_.out (by kernel_rfl)) ?_
             try go_wp2
             go_roundg k3
             case measure => have:=HJ3.out;have:=HK2.out;have:=HK3.out;omega
             case rel => exact ⟨(t175),(wrap64 (x10_3 + 1)),za,za,H',⟨by have:=HJ3.out;have:=HK2.out;have:=HK3.out;omega⟩,⟨zq HO_174001⟩,⟨zx BK162⟩,⟨zx BK163⟩,⟨zx BK173⟩,⟨zz HB⟩⟩
            ·
             rw [if_neg c34] at H
             exact absurd H (by simp)
          ·
           rw [if_neg c28] at H;have c28b0:=decide_eq_false c28;clear c28
           by_cases c41 : x9_3 = true
           ·
            subst c41
            rw [if_pos rfl] at H
            have H':=zA H
            clear H;have hnb42:=NB163_162.out;have hnc42:=NB162_163.out;have hnb43:=NB163_173.out;have hnc43:=NB173_163.out;have hcz44_0:=zc (.slice A1_0 l1_0.length c1_0) BK163 0 rfl;have hcz44_1:=zc (.slice A1_1 l1_1.length c1_1) BK163 1 rfl;have hfz44_0:=blk_frozen BK163.out 0;have hfz44_1:=blk_frozen BK163.out 1
            go_wp2
            go_roundg k3
            case measure => have:=HJ3.out;have:=HK2.out;have:=HK3.out;omega
            case rel => exact ⟨(wrap64 (x7_2 + 1)),za,H',⟨by have:=HJ3.out;have:=HK2.out;have:=HK3.out;omega⟩,⟨zx BK162⟩,⟨zx BK163⟩,⟨zz HB⟩⟩
           ·
            replace c41:=Bool.eq_false_iff.mpr c41
            subst c41
            have H1 : (some false) = some r:=by rw [if_neg (show ¬ (false = true) by decide)] at H;exact H
            clear H;have H:=H1;clear H1
            obtain rfl:=Option.some.inj H
            have hnb45:=NB163_162.out;have hnc45:=NB162_163.out;have hnb46:=NB163_173.out;have hnc46:=NB173_163.out;have hcz47_0:=zc (.slice A1_0 l1_0.length c1_0) BK163 0 rfl;have hcz47_1:=zc (.slice A1_1 l1_1.length c1_1) BK163 1 rfl;have hfz47_0:=blk_frozen BK163.out 0;have hfz47_1:=blk_frozen BK163.out 1
            go_wp2
            go_ret
            exact ⟨zrr,zz HB⟩
       ·
        rw [if_neg c16] at H
        exact absurd H (by simp)
      ·
       rw [if_neg c15] at H;have c15b0:=decide_eq_false c15;clear c15
       obtain rfl:=Option.some.inj H
       have hnb48:=NB162_163.out;have hnc48:=NB163_162.out;have hcz49_0:=zc (.slice A0_0 l0_0.length c0_0) BK162 0 rfl;have hcz49_1:=zc (.slice A0_1 l0_1.length c0_1) BK162 1 rfl;have hfz49_0:=blk_frozen BK162.out 0;have hfz49_1:=blk_frozen BK162.out 1
       go_wp2
       go_ret
       exact ⟨zrr,zz HB⟩

end Go.Proofs.Ytanbgnjfllpkgaa.QFnMappings
