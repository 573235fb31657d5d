/- Walks through the Go functions that FnMappings reaches: each call returns what the Lean function beside it says, within the bounds that the theorem names. -/
import Derived.Test.YtanbgnjfllpkgaaQFnMappingsx0
import Derived.Test.YtanbgnjfllpkgaaQFnMappingsx1
import Derived.Test.YtanbgnjfllpkgaaQFnMappingsx15
namespace Go.Proofs.Ytanbgnjfllpkgaa.QFnMappings
open Go.RowKit Go.Proofs.YtanbgnjfllpkgaaW.PrintWords Go.Proofs.YtanbgnjfllpkgaaW.PrintLast Go.Proofs.YtanbgnjfllpkgaaW.PrintMore
attribute [local go_sem] max2_int min2_int max_two min_two max_three min_three max_four min_four   -- for this text's walks alone
set_option linter.unusedVariables false
set_option linter.unusedSimpArgs false


/-! ### spec_FormatMapping: function 71 -/
mutual
def spec_FormatMapping.l0 : Nat → List Int → ByteArray → Int → Option (ByteArray)
 | 0, _, _, _ => none
 | k + 1, x0, x3, x4 => if x4 < (x0.length : Int) then (if 0 ≤ x4 then (if (rd x0 x4) = (-1000) then (spec_FormatMapping.l0 k x0 x3 (wrap64 (x4 + 1))) else ((spec_IsTerm.f (rd x0 x4)).bind fun t717 => (if t717 = true then ((spec_IsVar.f x4).bind fun t718 => (spec_FormatMapping.j1 k x0 x3 x4 (!t718))) else (spec_FormatMapping.j1 k x0 x3 x4 true)))) else (none)) else (if x3.toList = ([] : List UInt8) then (some (⟨#[110, 111, 110, 101]⟩ : ByteArray)) else (some x3))
def spec_FormatMapping.j1 : Nat → List Int → ByteArray → Int → Bool → Option (ByteArray)
 | 0, _, _, _, _ => none
 | k + 1, x0, x3, x4, x26 => if x26 = true then (some (⟨#[]⟩ : ByteArray)) else (if x3.toList = ([] : List UInt8) then ((spec_FormatTerm.f k x4).bind fun t719 => (if x3.size + t719.size ≤ 9223372036854775807 then (if (x3 ++ t719).size + 1 ≤ 9223372036854775807 then (if 0 ≤ x4 then (if x4 < (x0.length : Int) then ((spec_FormatTerm.f k (rd x0 x4)).bind fun t721 => (if ((x3 ++ t719) ++ (⟨#[61]⟩ : ByteArray)).size + t721.size ≤ 9223372036854775807 then (spec_FormatMapping.l0 k x0 (((x3 ++ t719) ++ (⟨#[61]⟩ : ByteArray)) ++ t721) (wrap64 (x4 + 1))) else (none))) else (none)) else (none)) else (none)) else (none))) else (if x3.size + 1 ≤ 9223372036854775807 then ((spec_FormatTerm.f k x4).bind fun t722 => (if (x3 ++ (⟨#[32]⟩ : ByteArray)).size + t722.size ≤ 9223372036854775807 then (if ((x3 ++ (⟨#[32]⟩ : ByteArray)) ++ t722).size + 1 ≤ 9223372036854775807 then (if 0 ≤ x4 then (if x4 < (x0.length : Int) then ((spec_FormatTerm.f k (rd x0 x4)).bind fun t724 => (if (((x3 ++ (⟨#[32]⟩ : ByteArray)) ++ t722) ++ (⟨#[61]⟩ : ByteArray)).size + t724.size ≤ 9223372036854775807 then (spec_FormatMapping.l0 k x0 ((((x3 ++ (⟨#[32]⟩ : ByteArray)) ++ t722) ++ (⟨#[61]⟩ : ByteArray)) ++ t724) (wrap64 (x4 + 1))) else (none))) else (none)) else (none)) else (none)) else (none))) else (none)))
end
def spec_FormatMapping.f (k : Nat) (l0 : List Int) : Option (ByteArray) := spec_FormatMapping.l0 k l0 (⟨#[]⟩ : ByteArray) 0
def spec_FormatMapping.T10 : Bool × List (List Nat × List Nat) := (true, [([], []), ([], []), ([1], [1]), ([0, 2], [0, 2]), ([3], [3]), ([], []), ([], []), ([5, 6], [5, 6]), ([7], [7]), ([8, 2], [8]), ([4, 9], [4, 9]), ([10, 9, 0, 1, 2, 3, 4, 5, 6, 7, 8, 9, 10], [0, 10])])
def spec_FormatMapping.B10 : List Nat := [0, 0, 2, 7, 15, 0, 0, 96, 224, 486, 1023, 2047]
theorem spec_FormatMapping.tab10 : rtab .any (opsOf Try.f71 10) = spec_FormatMapping.T10 := by kernel_rfl
theorem spec_FormatMapping.bits10 : waitsOk spec_FormatMapping.T10.2 spec_FormatMapping.B10 = true := by kernel_rfl
set_option maxHeartbeats 8000000 in
set_option maxRecDepth 100000 in
theorem spec_FormatMapping.calls (k : Nat) (A0 : Option Addr) (c0 : Nat) (l0 : List Int) (r : ByteArray) (w : World) (hr0 : Kd.C (Kd.int .i64) w A0 l0.length l0) (hc0 : l0.length ≤ c0) (h : spec_FormatMapping.f k l0 = some r) :
  Calls Try.prog 71 #[.slice A0 l0.length c0] w fun e w' => e = .returned (.string r) ∧ Below w.heap.size w w' := by
 have HR0:=zA hr0;have HC0:=zA hc0;clear hr0 hc0;have HB:=zA (Below.refl w.heap.size w)
 have H : (spec_FormatMapping.l0 k l0 (⟨#[]⟩ : ByteArray) 0) = some r:=h
 clear h
 have H':=zA H
 clear H
 go_enter Try.func71,Try.ntmps71
 go_wp2
 go_loopg [3,4] k (fun kq v3 v4 w' => ∃ (x3_1 : ByteArray) (x4_1 : Int),v3 = .string x3_1 ∧ v4 = .int .i64 x4_1 ∧ Aside0 (spec_FormatMapping.l0 kq l0 x3_1 x4_1 = some r) ∧ Aside0 (kq ≤ k) ∧ Aside0 (Below w.heap.size w w'))
 case atStart => exact ⟨((⟨#[]⟩ : ByteArray)),(0),za,za,H',⟨Nat.le_refl _⟩,⟨zz HB⟩⟩
 case round =>
  clear H';obtain ⟨x3_1,x4_1,rfl,rfl,HA,HK1,HB⟩:=hrel
  cases gk with
  | zero => exact absurd HA.out (by simp [spec_FormatMapping.l0])
  | succ k1 =>
   have H:=HA.out;clear HA;simp only [spec_FormatMapping.l0] at H
   by_cases c2 : x4_1 < (l0.length : Int)
   ·
    rw [if_pos c2] at H;have c2b0:=decide_eq_true c2;clear c2
    by_cases c3 : 0 ≤ x4_1
    ·
     rw [if_pos c3] at H;have c3b0:=decide_eq_true c3;clear c3
     by_cases c4 : (rd l0 x4_1) = (-1000)
     ·
      rw [if_pos c4] at H;have c4b0:=beq_iff_eq.mpr c4;have c4b1:=bne_eq_false_iff_eq.mpr c4;clear c4
      have H':=zA H
      clear H;have p715 : 0 ≤ (x4_1 : Int):=zXb ze;have q715 : x4_1 < (l0.length : Int):=zXb ze;obtain ⟨ad715,e715,hx715_0⟩:=Kd.at_int HR0.out x4_1 p715 q715
      cases e715
      replace hx715_0:=zhx HB hx715_0;replace p715:=eq_true p715;replace q715:=eq_true q715
      go_wp2
      go_roundg k1
      case measure => have:=HK1.out;omega
      case rel => exact ⟨(x3_1),(wrap64 (x4_1 + 1)),za,za,H',⟨by have:=HK1.out;omega⟩,⟨zz HB⟩⟩
     ·
      rw [if_neg c4] at H;have c4b0:=beq_eq_false_iff_ne.mpr c4;have c4b1:=bne_iff_ne.mpr c4;have HC5:=zA H;clear H;have p715 : 0 ≤ (x4_1 : Int):=zXb ze;have q715 : x4_1 < (l0.length : Int):=zXb ze;obtain ⟨ad715,e715,hx715_0⟩:=Kd.at_int HR0.out x4_1 p715 q715
      cases e715
      replace hx715_0:=zhx HB hx715_0;replace p715:=eq_true p715;replace q715:=eq_true q715
      go_upto_region 6 with (fail)
      go_cut [26] (fun v26 wc => ∃ (kq : Nat) (x26_4 : Bool),v26 = .bool x26_4 ∧ Aside0 (spec_FormatMapping.j1 kq l0 x3_1 x4_1 x26_4 = some r) ∧ Aside0 (kq ≤ k1) ∧ Aside0 (Below w.heap.size w wc))
      case first =>
       have H:=HC5.out;clear HC5;obtain ⟨t717,A60,H⟩:=zYb.mp H;(try dsimp only at H);have A6:=zA A60;clear A60
       by_cases c7 : t717 = true
       ·
        subst c7
        rw [if_pos rfl] at H;obtain ⟨t718,A80,H⟩:=zYb.mp H;(try dsimp only at H);have A8:=zA A80;clear A80
        have H':=zA H
        clear H;have p716 : 0 ≤ (x4_1 : Int):=zXb ze;have q716 : x4_1 < (l0.length : Int):=zXb ze;obtain ⟨ad716,e716,hx716_0⟩:=Kd.at_int HR0.out x4_1 p716 q716
        obtain rfl : ad715 = ad716:=(by injection e716)
        replace hx716_0:=zhx HB hx716_0;replace p716:=eq_true p716;replace q716:=eq_true q716
        go_wp2_with (first|((with_reducible refine gate_callee (f:=116) rfl ?_);refine zgo (some 20) Try.func116 #[.int .i64 (rd l0 x4_1)] ?_;(with_reducible refine (spec_IsTerm.calls (rd l0 x4_1) true _ A6.out).mono ?_);rintro e w' ⟨rfl,⟨nd,rfl⟩⟩;refine ⟨_,rfl,?_⟩)|(go_at_call 117;(with_reducible refine (spec_IsVar.calls x4_1 t718 _ A8.out).mono ?_);rintro e w' ⟨rfl,⟨nd,rfl⟩⟩))
        go_meet
        case rel => exact ⟨_,(!t718),za,H',⟨by have:=HK1.out;first|omega|exact Nat.le_refl _⟩,⟨zz HB⟩⟩
       ·
        replace c7:=Bool.eq_false_iff.mpr c7
        subst c7
        have H1 : (spec_FormatMapping.j1 k1 l0 x3_1 x4_1 true) = some r:=by rw [if_neg (show ¬ (false = true) by decide)] at H;exact H
        clear H;have H:=H1;clear H1
        have H':=zA H
        clear H;have p716 : 0 ≤ (x4_1 : Int):=zXb ze;have q716 : x4_1 < (l0.length : Int):=zXb ze;obtain ⟨ad716,e716,hx716_0⟩:=Kd.at_int HR0.out x4_1 p716 q716
        obtain rfl : ad715 = ad716:=(by injection e716)
        replace hx716_0:=zhx HB hx716_0;replace p716:=eq_true p716;replace q716:=eq_true q716
        go_wp2_with (first|((with_reducible refine gate_callee (f:=116) rfl ?_);refine zgo (some 20) Try.func116 #[.int .i64 (rd l0 x4_1)] ?_;(with_reducible refine (spec_IsTerm.calls (rd l0 x4_1) false _ A6.out).mono ?_);rintro e w' ⟨rfl,⟨nd,rfl⟩⟩;refine ⟨_,rfl,?_⟩))
        go_meet
        case rel => exact ⟨_,(true),za,H',⟨by have:=HK1.out;first|omega|exact Nat.le_refl _⟩,⟨zz HB⟩⟩
      case rest =>
       clear HC5;(try clear c1);(try clear c2);(try clear c2b0);(try clear p2);(try clear c3);(try clear c3b0);(try clear c4);(try clear c4b0);(try clear c4b1);(try clear p6);(try clear c7);(try clear p7);(try clear q7);(try clear hx7);(try clear hx715_0);(try clear hx716_0);(try clear p715);(try clear p716);(try clear q715);(try clear q716);obtain ⟨kq,x26_4,rfl,HA,HJ4,HB⟩:=hcut
       cases kq with
       | zero => exact absurd HA.out (by simp [spec_FormatMapping.j1])
       | succ kj4 =>
        have H:=HA.out;clear HA;simp only [spec_FormatMapping.j1] at H
        by_cases c9 : x26_4 = true
        ·
         subst c9
         rw [if_pos rfl] at H
         obtain rfl:=Option.some.inj H
         go_wp2
         go_ret
         exact ⟨zrr,zz HB⟩
        ·
         replace c9:=Bool.eq_false_iff.mpr c9
         subst c9
         have H1 : (if x3_1.toList = ([] : List UInt8) then ((spec_FormatTerm.f kj4 x4_1).bind fun t719 => (if x3_1.size + t719.size ≤ 9223372036854775807 then (if (x3_1 ++ t719).size + 1 ≤ 9223372036854775807 then (if 0 ≤ x4_1 then (if x4_1 < (l0.length : Int) then ((spec_FormatTerm.f kj4 (rd l0 x4_1)).bind fun t721 => (if ((x3_1 ++ t719) ++ (⟨#[61]⟩ : ByteArray)).size + t721.size ≤ 9223372036854775807 then (spec_FormatMapping.l0 kj4 l0 (((x3_1 ++ t719) ++ (⟨#[61]⟩ : ByteArray)) ++ t721) (wrap64 (x4_1 + 1))) else (none))) else (none)) else (none)) else (none)) else (none))) else (if x3_1.size + 1 ≤ 9223372036854775807 then ((spec_FormatTerm.f kj4 x4_1).bind fun t722 => (if (x3_1 ++ (⟨#[32]⟩ : ByteArray)).size + t722.size ≤ 9223372036854775807 then (if ((x3_1 ++ (⟨#[32]⟩ : ByteArray)) ++ t722).size + 1 ≤ 9223372036854775807 then (if 0 ≤ x4_1 then (if x4_1 < (l0.length : Int) then ((spec_FormatTerm.f kj4 (rd l0 x4_1)).bind fun t724 => (if (((x3_1 ++ (⟨#[32]⟩ : ByteArray)) ++ t722) ++ (⟨#[61]⟩ : ByteArray)).size + t724.size ≤ 9223372036854775807 then (spec_FormatMapping.l0 kj4 l0 ((((x3_1 ++ (⟨#[32]⟩ : ByteArray)) ++ t722) ++ (⟨#[61]⟩ : ByteArray)) ++ t724) (wrap64 (x4_1 + 1))) else (none))) else (none)) else (none)) else (none)) else (none))) else (none))) = some r:=by rw [if_neg (show ¬ (false = true) by decide)] at H;exact H
         clear H;have H:=H1;clear H1
         by_cases c10 : x3_1.toList = ([] : List UInt8)
         ·
          rw [if_pos c10] at H;have c10b0:=beq_iff_eq.mpr c10;have c10b1:=bne_eq_false_iff_eq.mpr c10;clear c10;obtain ⟨t719,A110,H⟩:=zYb.mp H;(try dsimp only at H);have A11:=zA A110;clear A110
          by_cases c12 : x3_1.size + t719.size ≤ 9223372036854775807
          ·
           rw [if_pos c12] at H;have c12b0:=eq_true c12;have c12b1:=decide_eq_true c12
           try have c12b2 : (9223372036854775807 < x3_1.size + t719.size) = False:=eq_false (Nat.not_lt.2 c12)
           by_cases c13 : (x3_1 ++ t719).size + 1 ≤ 9223372036854775807
           ·
            rw [if_pos c13] at H;have c13b0:=eq_true c13;have c13b1:=decide_eq_true c13
            try have c13b2 : (9223372036854775807 < (x3_1 ++ t719).size + 1) = False:=eq_false (Nat.not_lt.2 c13)
            try have c13z0 : (9223372036854775807 < x3_1.size + t719.size + 1) = False:=eq_false (by have h_:=c13;simp only [ByteArray.size_append] at h_;omega)
            try have c13z1 : (x3_1.size + t719.size + 1 ≤ 9223372036854775807) = True:=eq_true (by have h_:=c13;simp only [ByteArray.size_append] at h_;omega)
            by_cases c14 : 0 ≤ x4_1
            ·
             rw [if_pos c14] at H;have c14b0:=decide_eq_true c14;clear c14
             by_cases c15 : x4_1 < (l0.length : Int)
             ·
              rw [if_pos c15] at H;have c15b0:=decide_eq_true c15;clear c15;obtain ⟨t721,A160,H⟩:=zYb.mp H;(try dsimp only at H);have A16:=zA A160;clear A160
              by_cases c17 : ((x3_1 ++ t719) ++ (⟨#[61]⟩ : ByteArray)).size + t721.size ≤ 9223372036854775807
              ·
               rw [if_pos c17] at H;have c17b0:=eq_true c17;have c17b1:=decide_eq_true c17
               try have c17b2 : (9223372036854775807 < ((x3_1 ++ t719) ++ (⟨#[61]⟩ : ByteArray)).size + t721.size) = False:=eq_false (Nat.not_lt.2 c17)
               try have c17z0 : (9223372036854775807 < x3_1.size + t719.size + 1 + t721.size) = False:=eq_false (by have h_:=c17;have e0_ : (⟨#[61]⟩ : ByteArray).size = 1:=rfl;simp only [ByteArray.size_append] at h_;omega)
               try have c17z1 : (x3_1.size + t719.size + 1 + t721.size ≤ 9223372036854775807) = True:=eq_true (by have h_:=c17;have e0_ : (⟨#[61]⟩ : ByteArray).size = 1:=rfl;simp only [ByteArray.size_append] at h_;omega)
               have H':=zA H
               clear H
               try go_wp2
               have n0_:=zA (zJ HB.out);clear HB;have HB:=n0_;clear n0_;have p720 : 0 ≤ (x4_1 : Int):=zXb ze;have q720 : x4_1 < (l0.length : Int):=zXb ze;obtain ⟨ad720,e720,hx720_0⟩:=Kd.at_int HR0.out x4_1 p720 q720;have hw720_0:=hx720_0
               obtain rfl : ad715 = ad720:=(by injection e720)
               replace hx720_0:=zhx HB hx720_0;replace p720:=eq_true p720;replace q720:=eq_true q720
               refine start_ (n:=12) (S:=fun w' => w'.cell? (ad715.add (x4_1).toNat) = some (.int .i64 (rd l0 x4_1))) (ds:=[]) #[false,false,false,false,false,false,false,false,false,false,false,false] (by kernel_rfl) rfl rfl (((HB.out.cell (World.block_lt_of_cell? w _ hw720_0)).trans hw720_0)) (fun hHeld => ?_);refine with_tabW spec_FormatMapping.tab10 spec_FormatMapping.bits10 (fun HT_ HW_ => ?_)
               generalize wc.drew = w18 at HB hx720_0 hHeld ⊢
               refine zut 0 31 HT_ ?_;refine zut 1 32 HT_ ?_;refine zut 5 36 HT_ ?_;refine zut 6 37 HT_ ?_;refine zut 7 38 HT_ ?_
               refine take_ (i:=8) (N:=some 39) (v:=?_) (a':=?_) #[true,true,false,false,false,true,true,true,true,false,false,false] rfl rfl (take_ofW HT_.out HW_.out (by kernel_rfl)) (fun _ _ _ h => h) (Or.inl ⟨by rfl,?_⟩) hHeld ?_ ?_
               rotate_left
               ·
                intro w' s0
                go_simp
                with_reducible rfl
               rotate_left
               ·
                simp only [Act.put,zO,zEb,zFb,i64_w,i32_w]
                rfl
               refine one_ (i:=2) (N:=some 33) #[true,true,true,false,false,true,true,true,true,false,false,false] rfl rfl (one_of HT_.out (by kernel_rfl)) (by decide) (fun K hK => ?_)
               refine goes_ Try.func118 (by kernel_rfl) rfl #[.int .i64 x4_1] (by rfl) rfl rfl (by (try simp only [zCb,zMb,zNb]);first|done|rfl|(simp only [zLb,zDb];rfl)) ?_
               with_reducible refine (spec_FormatTerm.calls kj4 x4_1 t719 _ A11.out).mono ?_
               rintro e w19 ⟨rfl,hb⟩
               refine ⟨_,rfl,?_⟩
               have n0_:=zA (zJb (zz HB) hb);clear HB;have HB:=n0_;clear n0_;(try clear hb);(try clear hb2);(try clear hk);(try clear hi)
               refine hK.out _ _ (((HB.out.cell (World.block_lt_of_cell? w _ hw720_0)).trans hw720_0)) (fun hHeld => ?_)
               clear hK K
               refine norm_ (a':=?_) ?_ ?_
               rotate_left
               ·
                show Act.put _ (some 33) _ = _
                simp only [Act.put,zO,zEb,zFb,i64_w,i32_w]
                rfl
               refine zut 3 34 HT_ ?_;refine zut 4 35 HT_ ?_
               refine one_ (i:=9) (N:=some 40) #[true,true,true,true,true,true,true,true,true,true,false,false] rfl rfl (one_of HT_.out (by kernel_rfl)) (by decide) (fun K hK => ?_)
               refine goes_ Try.func118 (by kernel_rfl) rfl #[.int .i64 (rd l0 x4_1)] (by rfl) rfl rfl (by (try simp only [zCb,zMb,zNb]);first|done|rfl|(simp only [zLb,zDb];rfl)) ?_
               with_reducible refine (spec_FormatTerm.calls kj4 (rd l0 x4_1) t721 _ A16.out).mono ?_
               rintro e w20 ⟨rfl,hb⟩
               refine ⟨_,rfl,?_⟩
               have n0_:=zA (zJb (zz HB) hb);clear HB;have HB:=n0_;clear n0_;(try clear hb);(try clear hb2);(try clear hk);(try clear hi)
               refine hK.out _ _ (((HB.out.cell (World.block_lt_of_cell? w _ hw720_0)).trans hw720_0)) (fun hHeld => ?_)
               clear hK K
               refine norm_ (a':=?_) ?_ ?_
               rotate_left
               ·
                show Act.put _ (some 40) _ = _
                simp only [Act.put,zO,zEb,zFb,i64_w,i32_w]
                rfl
               refine zut 10 41 HT_ ?_;refine zut 11 3 HT_ ?_
               refine done_ (done_of HT_.out (by kernel_rfl)) ?_
               try go_wp2
               go_roundg kj4
               case measure => have:=HK1.out;have:=HJ4.out;omega
               case rel => exact ⟨(((x3_1 ++ t719) ++ (⟨#[61]⟩ : ByteArray)) ++ t721),(wrap64 (x4_1 + 1)),za,za,H',⟨by have:=HK1.out;have:=HJ4.out;omega⟩,⟨zz HB⟩⟩
              ·
               rw [if_neg c17] at H
               exact absurd H (by simp)
             ·
              rw [if_neg c15] at H
              exact absurd H (by simp)
            ·
             rw [if_neg c14] at H
             exact absurd H (by simp)
           ·
            rw [if_neg c13] at H
            exact absurd H (by simp)
          ·
           rw [if_neg c12] at H
           exact absurd H (by simp)
         ·
          rw [if_neg c10] at H;have c10b0:=beq_eq_false_iff_ne.mpr c10;have c10b1:=bne_iff_ne.mpr c10
          by_cases c21 : x3_1.size + 1 ≤ 9223372036854775807
          ·
           rw [if_pos c21] at H;have c21b0:=eq_true c21;have c21b1:=decide_eq_true c21
           try have c21b2 : (9223372036854775807 < x3_1.size + 1) = False:=eq_false (Nat.not_lt.2 c21)
           obtain ⟨t722,A220,H⟩:=zYb.mp H;(try dsimp only at H);have A22:=zA A220;clear A220
           by_cases c23 : (x3_1 ++ (⟨#[32]⟩ : ByteArray)).size + t722.size ≤ 9223372036854775807
           ·
            rw [if_pos c23] at H;have c23b0:=eq_true c23;have c23b1:=decide_eq_true c23
            try have c23b2 : (9223372036854775807 < (x3_1 ++ (⟨#[32]⟩ : ByteArray)).size + t722.size) = False:=eq_false (Nat.not_lt.2 c23)
            try have c23z0 : (9223372036854775807 < x3_1.size + 1 + t722.size) = False:=eq_false (by have h_:=c23;have e0_ : (⟨#[32]⟩ : ByteArray).size = 1:=rfl;simp only [ByteArray.size_append] at h_;omega)
            try have c23z1 : (x3_1.size + 1 + t722.size ≤ 9223372036854775807) = True:=eq_true (by have h_:=c23;have e0_ : (⟨#[32]⟩ : ByteArray).size = 1:=rfl;simp only [ByteArray.size_append] at h_;omega)
            by_cases c24 : ((x3_1 ++ (⟨#[32]⟩ : ByteArray)) ++ t722).size + 1 ≤ 9223372036854775807
            ·
             rw [if_pos c24] at H;have c24b0:=eq_true c24;have c24b1:=decide_eq_true c24
             try have c24b2 : (9223372036854775807 < ((x3_1 ++ (⟨#[32]⟩ : ByteArray)) ++ t722).size + 1) = False:=eq_false (Nat.not_lt.2 c24)
             try have c24z0 : (9223372036854775807 < x3_1.size + 1 + t722.size + 1) = False:=eq_false (by have h_:=c24;have e0_ : (⟨#[32]⟩ : ByteArray).size = 1:=rfl;simp only [ByteArray.size_append] at h_;omega)
             try have c24z1 : (x3_1.size + 1 + t722.size + 1 ≤ 9223372036854775807) = True:=eq_true (by have h_:=c24;have e0_ : (⟨#[32]⟩ : ByteArray).size = 1:=rfl;simp only [ByteArray.size_append] at h_;omega)
             by_cases c25 : 0 ≤ x4_1
             ·
              rw [if_pos c25] at H;have c25b0:=decide_eq_true c25;clear c25
              by_cases c26 : x4_1 < (l0.length : Int)
              ·
               rw [if_pos c26] at H;have c26b0:=decide_eq_true c26;clear c26;obtain ⟨t724,A270,H⟩:=zYb.mp H;(try dsimp only at H);have A27:=zA A270;clear A270
               by_cases c28 : (((x3_1 ++ (⟨#[32]⟩ : ByteArray)) ++ t722) ++ (⟨#[61]⟩ : ByteArray)).size + t724.size ≤ 9223372036854775807
               ·
                rw [if_pos c28] at H;have c28b0:=eq_true c28;have c28b1:=decide_eq_true c28
                try have c28b2 : (9223372036854775807 < (((x3_1 ++ (⟨#[32]⟩ : ByteArray)) ++ t722) ++ (⟨#[61]⟩ : ByteArray)).size + t724.size) = False:=eq_false (Nat.not_lt.2 c28)
                try have c28z0 : (9223372036854775807 < x3_1.size + 1 + t722.size + 1 + t724.size) = False:=eq_false (by have h_:=c28;have e0_ : (⟨#[32]⟩ : ByteArray).size = 1:=rfl;have e1_ : (⟨#[61]⟩ : ByteArray).size = 1:=rfl;simp only [ByteArray.size_append] at h_;omega)
                try have c28z1 : (x3_1.size + 1 + t722.size + 1 + t724.size ≤ 9223372036854775807) = True:=eq_true (by have h_:=c28;have e0_ : (⟨#[32]⟩ : ByteArray).size = 1:=rfl;have e1_ : (⟨#[61]⟩ : ByteArray).size = 1:=rfl;simp only [ByteArray.size_append] at h_;omega)
                have H':=zA H
                clear H
                try go_wp2
                have n0_:=zA (zJ HB.out);clear HB;have HB:=n0_;clear n0_;have p723 : 0 ≤ (x4_1 : Int):=zXb ze;have q723 : x4_1 < (l0.length : Int):=zXb ze;obtain ⟨ad723,e723,hx723_0⟩:=Kd.at_int HR0.out x4_1 p723 q723;have hw723_0:=hx723_0
                obtain rfl : ad715 = ad723:=(by injection e723)
                replace hx723_0:=zhx HB hx723_0;replace p723:=eq_true p723;replace q723:=eq_true q723
                refine start_ (n:=12) (S:=fun w' => w'.cell? (ad715.add (x4_1).toNat) = some (.int .i64 (rd l0 x4_1))) (ds:=[]) #[false,false,false,false,false,false,false,false,false,false,false,false] (by kernel_rfl) rfl rfl (((HB.out.cell (World.block_lt_of_cell? w _ hw723_0)).trans hw723_0)) (fun hHeld => ?_);refine with_tabW spec_FormatMapping.tab10 spec_FormatMapping.bits10 (fun HT_ HW_ => ?_)
                generalize wc.drew = w29 at HB hx723_0 hHeld ⊢
                refine zut 0 31 HT_ ?_;refine zut 1 32 HT_ ?_;refine zut 5 36 HT_ ?_;refine zut 6 37 HT_ ?_;refine zut 7 38 HT_ ?_
                refine take_ (i:=8) (N:=some 39) (v:=?_) (a':=?_) #[true,true,false,false,false,true,true,true,true,false,false,false] rfl rfl (take_ofW HT_.out HW_.out (by kernel_rfl)) (fun _ _ _ h => h) (Or.inl ⟨by rfl,?_⟩) hHeld ?_ ?_
                rotate_left
                ·
                 intro w' s0
                 go_simp
                 with_reducible rfl
                rotate_left
                ·
                 simp only [Act.put,zO,zEb,zFb,i64_w,i32_w]
                 rfl
                refine one_ (i:=2) (N:=some 33) #[true,true,true,false,false,true,true,true,true,false,false,false] rfl rfl (one_of HT_.out (by kernel_rfl)) (by decide) (fun K hK => ?_)
                refine goes_ Try.func118 (by kernel_rfl) rfl #[.int .i64 x4_1] (by rfl) rfl rfl (by (try simp only [zCb,zMb,zNb]);first|done|rfl|(simp only [zLb,zDb];rfl)) ?_
                with_reducible refine (spec_FormatTerm.calls kj4 x4_1 t722 _ A22.out).mono ?_
                rintro e w30 ⟨rfl,hb⟩
                refine ⟨_,rfl,?_⟩
                have n0_:=zA (zJb (zz HB) hb);clear HB;have HB:=n0_;clear n0_;(try clear hb);(try clear hb2);(try clear hk);(try clear hi)
                refine hK.out _ _ (((HB.out.cell (World.block_lt_of_cell? w _ hw723_0)).trans hw723_0)) (fun hHeld => ?_)
                clear hK K
                refine norm_ (a':=?_) ?_ ?_
                rotate_left
                ·
                 show Act.put _ (some 33) _ = _
                 simp only [Act.put,zO,zEb,zFb,i64_w,i32_w]
                 rfl
                refine zut 3 34 HT_ ?_;refine zut 4 35 HT_ ?_
                refine one_ (i:=9) (N:=some 40) #[true,true,true,true,true,true,true,true,true,true,false,false] rfl rfl (one_of HT_.out (by kernel_rfl)) (by decide) (fun K hK => ?_)
                refine goes_ Try.func118 (by kernel_rfl) rfl #[.int .i64 (rd l0 x4_1)] (by rfl) rfl rfl (by (try simp only [zCb,zMb,zNb]);first|done|rfl|(simp only [zLb,zDb];rfl)) ?_
                with_reducible refine (spec_FormatTerm.calls kj4 (rd l0 x4_1) t724 _ A27.out).mono ?_
                rintro e w31 ⟨rfl,hb⟩
                refine ⟨_,rfl,?_⟩
                have n0_:=zA (zJb (zz HB) hb);clear HB;have HB:=n0_;clear n0_;(try clear hb);(try clear hb2);(try clear hk);(try clear hi)
                refine hK.out _ _ (((HB.out.cell (World.block_lt_of_cell? w _ hw723_0)).trans hw723_0)) (fun hHeld => ?_)
                clear hK K
                refine norm_ (a':=?_) ?_ ?_
                rotate_left
                ·
                 show Act.put _ (some 40) _ = _
                 simp only [Act.put,zO,zEb,zFb,i64_w,i32_w]
                 rfl
                refine zut 10 41 HT_ ?_;refine zut 11 3 HT_ ?_
                refine done_ (done_of HT_.out (by kernel_rfl)) ?_
                try go_wp2
                go_roundg kj4
                case measure => have:=HK1.out;have:=HJ4.out;omega
                case rel => exact ⟨((((x3_1 ++ (⟨#[32]⟩ : ByteArray)) ++ t722) ++ (⟨#[61]⟩ : ByteArray)) ++ t724),(wrap64 (x4_1 + 1)),za,za,H',⟨by have:=HK1.out;have:=HJ4.out;omega⟩,⟨zz HB⟩⟩
               ·
                rw [if_neg c28] at H
                exact absurd H (by simp)
              ·
               rw [if_neg c26] at H
               exact absurd H (by simp)
             ·
              rw [if_neg c25] at H
              exact absurd H (by simp)
            ·
             rw [if_neg c24] at H
             exact absurd H (by simp)
           ·
            rw [if_neg c23] at H
            exact absurd H (by simp)
          ·
           rw [if_neg c21] at H
           exact absurd H (by simp)
    ·
     rw [if_neg c3] at H
     exact absurd H (by simp)
   ·
    rw [if_neg c2] at H;have c2b0:=decide_eq_false c2;clear c2
    by_cases c32 : x3_1.toList = ([] : List UInt8)
    ·
     rw [if_pos c32] at H;have c32b0:=beq_iff_eq.mpr c32;have c32b1:=bne_eq_false_iff_eq.mpr c32;clear c32
     obtain rfl:=Option.some.inj H
     go_wp2
     go_ret
     exact ⟨zrr,zz HB⟩
    ·
     rw [if_neg c32] at H;have c32b0:=beq_eq_false_iff_ne.mpr c32;have c32b1:=bne_iff_ne.mpr c32
     obtain rfl:=Option.some.inj H
     go_wp2
     go_ret
     exact ⟨zrr,zz HB⟩

-- NOT PRINTED: function 13 (laws_FnMappings)

end Go.Proofs.Ytanbgnjfllpkgaa.QFnMappings
