/- Walks through the Go functions that FnMappings reaches: each call returns what the Lean function beside it says, within the bounds that the theorem names. -/
import Derived.Test.YtanbgnjfllpkgaaQFnMappingsx0
import Derived.Test.YtanbgnjfllpkgaaQFnMappingsx7
namespace Go.Proofs.Ytanbgnjfllpkgaa.QFnMappings
open Go.RowKit Go.Proofs.YtanbgnjfllpkgaaW.PrintWords Go.Proofs.YtanbgnjfllpkgaaW.PrintLast Go.Proofs.YtanbgnjfllpkgaaW.PrintMore
attribute [local go_sem] max2_int min2_int max_two min_two max_three min_three max_four min_four   -- for this text's walks alone
set_option linter.unusedVariables false
set_option linter.unusedSimpArgs false


/-! ### impl_FormatInt: function 27 -/
mutual
def impl_FormatInt.l0 : Nat → Int → List Int → Int → Option (ByteArray)
 | 0, _, _, _ => none
 | k + 1, x0, x3, x4 => if x4 = 0 then (if x0 < 0 then (if x3.length < 140737488355328 then (impl_FormatInt.j1 k (x3 ++ [45])) else (none)) else (impl_FormatInt.j1 k x3)) else (if (Int.tmod x4 10) < 0 then (if x3.length < 140737488355328 then (impl_FormatInt.l0 k x0 (x3 ++ [(wrap64 (48 + (wrap64 (-(Int.tmod x4 10))))) % 256]) (wrap64 (Int.tdiv x4 10))) else (none)) else (if x3.length < 140737488355328 then (impl_FormatInt.l0 k x0 (x3 ++ [(wrap64 (48 + (Int.tmod x4 10))) % 256]) (wrap64 (Int.tdiv x4 10))) else (none)))
def impl_FormatInt.j1 : Nat → List Int → Option (ByteArray)
 | 0, _ => none
 | k + 1, x3 => impl_FormatInt.l1 k x3 0 (wrap64 ((x3.length : Int) - 1))
def impl_FormatInt.l1 : Nat → List Int → Int → Int → Option (ByteArray)
 | 0, _, _, _ => none
 | k + 1, x3, x6, x7 => if x6 < x7 then (if 0 ≤ x7 then (if x7 < (x3.length : Int) then (if 0 ≤ x6 then (if x6 < (x3.length : Int) then (impl_FormatInt.l1 k ((x3.set (x6 : Int).toNat (rd x3 x7)).set (x7 : Int).toNat (rd x3 x6)) (wrap64 (x6 + 1)) (wrap64 (x7 - 1))) else (none)) else (none)) else (none)) else (none)) else (some (strOfNums x3))
end
def impl_FormatInt.f (k : Nat) (a0 : Int) : Option (ByteArray) := if a0 = 0 then (some (⟨#[48]⟩ : ByteArray)) else (impl_FormatInt.l0 k a0 (([] : List Int)) a0)
def impl_FormatInt.T16 : Bool × List (List Nat × List Nat) := (true, [([], []), ([], []), ([], []), ([], []), ([], []), ([], []), ([4, 5], [4, 5]), ([6], [6]), ([], []), ([], []), ([8, 9], [8, 9]), ([10], [10]), ([0, 1, 0, 1, 4, 5, 6, 7, 11], [0, 1]), ([12, 7, 0, 1, 4, 5, 6, 7, 11], [7, 12]), ([2, 3, 0, 1, 2, 3, 4, 5, 6, 7, 8, 9, 10, 11, 12, 13], [2, 3]), ([14, 11, 13, 0, 1, 2, 3, 4, 5, 6, 7, 8, 9, 10, 11, 12, 13], [11, 14])])
def impl_FormatInt.B16 : List Nat := [0, 0, 0, 0, 0, 0, 48, 112, 0, 0, 768, 1792, 4083, 8179, 16383, 32767]
theorem impl_FormatInt.tab16 : rtab .any (opsOf Try.f27 16) = impl_FormatInt.T16 := by kernel_rfl
theorem impl_FormatInt.bits16 : waitsOk impl_FormatInt.T16.2 impl_FormatInt.B16 = true := by kernel_rfl
set_option maxHeartbeats 8000000 in
set_option maxRecDepth 100000 in
theorem impl_FormatInt.calls (k : Nat) (a0 : Int) (r : ByteArray) (w : World) (h : impl_FormatInt.f k a0 = some r) :
  Calls Try.prog 27 #[.int .i64 a0] w fun e w' => e = .returned (.string r) ∧ Below w.heap.size w w' := by
 have HB:=zA (Below.refl w.heap.size w)
 have H : (if a0 = 0 then (some (⟨#[48]⟩ : ByteArray)) else (impl_FormatInt.l0 k a0 (([] : List Int)) a0)) = some r:=h
 clear h
 by_cases c2 : a0 = 0
 ·
  rw [if_pos c2] at H;have c2b0:=beq_iff_eq.mpr c2;have c2b1:=bne_eq_false_iff_eq.mpr c2;clear c2
  obtain rfl:=Option.some.inj H
  go_enter Try.func27,Try.ntmps27
  go_wp2
  go_ret
  exact ⟨zrr,zz HB⟩
 ·
  rw [if_neg c2] at H;have c2b0:=beq_eq_false_iff_ne.mpr c2;have c2b1:=bne_iff_ne.mpr c2;obtain ⟨y668,hy668⟩ : ∃ y_ : List Int,y_ = (([] : List Int)):=⟨_,rfl⟩
  replace H : (impl_FormatInt.l0 k a0 y668 a0) = some r:=by first|(rw [hy668];with_reducible exact H)|(have H2_:=(Option.bind_some _ _).symm.trans H;rw [hy668];with_reducible exact H2_)|(have H2_:=(Option.bind_some _ _).symm.trans H;with_reducible exact H2_)|with_reducible exact H|(rw [hy668];exact H)|exact H
  have Ny668:=zA hy668;clear hy668
  have H':=zA H
  clear H
  go_enter Try.func27,Try.ntmps27
  go_wp2_with (first|((with_reducible refine gate_dst (N:=10) rfl ?_);refine Kd.R_lit (Kd.int .u8) _ 5 ?hg (N:=10) ?hd (xs:=([] : List Int)) (inner:=[]) (ok:=fun _ => True) (okp:=fun _ => True) ?hr ?hp (fun _ hk => hk) trivial (Below.refl _ _) (Nat.le_refl _) (by simp) ?_;(case hd => rfl);(case hg => rfl);(case hr => first|(go_simp;done)|(go_simp;rfl));(case hp => exact (Reps.none _ _));intro v669 w3 ho4 hb hg_ hnew_;clear hg_ hnew_;(first|rw [← Ny668.out] at ho4|(simp only [Int.reduceToNat] at ho4;rw [← Ny668.out] at ho4));have HO670:=zA (zHb ho4 (zT (zz HB)));replace HB:=zA (zJb (zz HB) hb);clear hb ho4))
  go_loopg [3,4] k (fun kq v3 v4 w' => ∃ (x3_1 : List Int) (x4_1 : Int),v4 = .int .i64 x4_1 ∧ Aside0 (impl_FormatInt.l0 kq a0 x3_1 x4_1 = some r) ∧ Aside0 (kq ≤ k) ∧ Aside0 (Kd.R (Kd.int .u8) 5 w' w.heap.size (fun _ => True) v3 x3_1) ∧ Aside0 (Below w.heap.size w w'))
  case atStart => exact ⟨(y668),(a0),za,H',⟨Nat.le_refl _⟩,⟨zq HO670⟩,⟨zz HB⟩⟩
  case round =>
   clear H';(try clear c2);(try clear c2b0);(try clear c2b1);(try clear p2);obtain ⟨x3_1,x4_1,rfl,HA,HK1,HO_3,HB⟩:=hrel
   cases gk with
   | zero => exact absurd HA.out (by simp [impl_FormatInt.l0])
   | succ k1 =>
    have H:=HA.out;clear HA;simp only [impl_FormatInt.l0] at H
    by_cases c5 : x4_1 = 0
    ·
     rw [if_pos c5] at H;have c5b0:=beq_iff_eq.mpr c5;have c5b1:=bne_eq_false_iff_eq.mpr c5;clear c5;have HC6:=zA H;clear H
     go_upto_if 29 with (fail)
     go_cut [3] (fun v3 wc => ∃ (kq : Nat) (x3_5 : List Int),Aside0 (impl_FormatInt.j1 kq x3_5 = some r) ∧ Aside0 (kq ≤ k1) ∧ Aside0 (Kd.R (Kd.int .u8) 5 wc w.heap.size (fun _ => True) v3 x3_5) ∧ Aside0 (Below w.heap.size w wc))
     case first =>
      have H:=HC6.out;clear HC6
      by_cases c7 : a0 < 0
      ·
       rw [if_pos c7] at H;have c7b0:=decide_eq_true c7;clear c7
       (first|rw [c7b0]|(simp only [i64_w,i32_w];rw [c7b0])|skip)
       by_cases c8 : x3_1.length < 140737488355328
       ·
        rw [if_pos c8] at H;have LMc8:=zA c8;clear c8;obtain ⟨y677,hy677⟩ : ∃ y_ : List Int,y_ = (x3_1 ++ [45]):=⟨_,rfl⟩
        replace H : (impl_FormatInt.j1 k1 y677) = some r:=by first|(rw [hy677];with_reducible exact H)|(have H2_:=(Option.bind_some _ _).symm.trans H;rw [hy677];with_reducible exact H2_)|(have H2_:=(Option.bind_some _ _).symm.trans H;with_reducible exact H2_)|with_reducible exact H|(rw [hy677];exact H)|exact H
        have Ny677:=zA hy677;clear hy677
        have H':=zA H
        clear H
        go_wp2_with (first|((with_reducible refine gate_builtin (b:=.append) (xs:=#[.tmp 30,.tmp 31]) rfl ?_);at_builtin;refine Kd.R_append (Kd.int .u8) (w0:=w) w.heap.size rfl (.tmp 30) (.tmp 31) 26 5 (.int .u8 0) 1 rfl Try.underlying26 info5 rfl (by decide) (by omega) u3 x3_1 45 [.int .u8 45] (fun _ => True) (fun _ => False) rfl rfl ?aP (fun _ hk => hk.elim) ?aF ?aO ?aB ?aS ?aL ?_;(case aP => exact rfl);(case aB => exact (zz HB));(case aF => exact (fun _ _ => trivial));(case aO => exact (zq HO_3));(case aS => exact (zT (zz HB)));(case aL => have:=LMc8.out;omega);intro v678 w9 ho hb hg hat;rw [← Ny677.out] at ho;replace HB:=zA (hb);have HO679:=zA (ho);clear HO_3;clear ho hb hg hat))
        go_meet
        case rel => exact ⟨_,(y677),H',⟨by have:=HK1.out;first|omega|exact Nat.le_refl _⟩,⟨zq HO679⟩,⟨zz HB⟩⟩
       ·
        rw [if_neg c8] at H
        exact absurd H (by simp)
      ·
       rw [if_neg c7] at H;have c7b0:=decide_eq_false c7;clear c7
       (first|rw [c7b0]|(simp only [i64_w,i32_w];rw [c7b0])|skip)
       have H':=zA H
       clear H
       go_wp2
       go_meet
       case rel => exact ⟨_,(x3_1),H',⟨by have:=HK1.out;first|omega|exact Nat.le_refl _⟩,⟨zq HO_3⟩,⟨zz HB⟩⟩
     case rest =>
      clear HC6;(try clear c2);(try clear c2b0);(try clear c2b1);(try clear p2);(try clear c5);(try clear c5b0);(try clear c5b1);(try clear c7);(try clear c7b0);(try clear c8);(try clear p2);obtain ⟨kq,x3_5,HA,HJ5,HO_3,HB⟩:=hcut
      cases kq with
      | zero => exact absurd HA.out (by simp [impl_FormatInt.j1])
      | succ kj5 =>
       have H:=HA.out;clear HA;simp only [impl_FormatInt.j1] at H
       have H':=zA H
       clear H;obtain ⟨Ao10,co10,eo10⟩:=Kd.R_slice HO_3.out
       subst eo10
       go_wp2
       go_loopg [6,7] kj5 (fun kq v6 v7 w' => ∃ (x3_3 : List Int) (x6_3 : Int) (x7_3 : Int),v6 = .int .i64 x6_3 ∧ v7 = .int .i64 x7_3 ∧ Aside0 (impl_FormatInt.l1 kq x3_3 x6_3 x7_3 = some r) ∧ Aside0 (kq ≤ kj5) ∧ Aside0 (Kd.R (Kd.int .u8) 5 w' w.heap.size (fun _ => True) (.slice Ao10 x3_5.length co10) x3_3) ∧ Aside0 (Below w.heap.size w w'))
       case atStart => exact ⟨(x3_5),(0),(wrap64 ((x3_5.length : Int) - 1)),za,za,H',⟨Nat.le_refl _⟩,⟨zq HO_3⟩,⟨zz HB⟩⟩
       case round =>
        clear H';(try clear c2);(try clear c2b0);(try clear c2b1);(try clear p2);(try clear c5);(try clear c5b0);(try clear c5b1);(try clear p6);(try clear c7);(try clear c7b0);(try clear c8);(try clear p2);obtain ⟨x3_3,x6_3,x7_3,rfl,rfl,HA,HK3,HO_3,HB⟩:=hrel;have hl3_3:=(Kd.R_reads' HO_3.out).1;rw [hl3_3] at HO_3;(try simp only [hl3_3])
        cases gk with
        | zero => exact absurd HA.out (by simp [impl_FormatInt.l1])
        | succ k3 =>
         have H:=HA.out;clear HA;simp only [impl_FormatInt.l1] at H
         by_cases c11 : x6_3 < x7_3
         ·
          rw [if_pos c11] at H;have c11b0:=decide_eq_true c11;clear c11
          by_cases c12 : 0 ≤ x7_3
          ·
           rw [if_pos c12] at H;have c12b0:=decide_eq_true c12;clear c12
           by_cases c13 : x7_3 < (x3_3.length : Int)
           ·
            rw [if_pos c13] at H;have c13b0:=decide_eq_true c13;clear c13
            by_cases c14 : 0 ≤ x6_3
            ·
             rw [if_pos c14] at H;have c14b0:=decide_eq_true c14;clear c14
             by_cases c15 : x6_3 < (x3_3.length : Int)
             ·
              rw [if_pos c15] at H;have c15b0:=decide_eq_true c15;clear c15;obtain ⟨y682,hy682⟩ : ∃ y_ : List Int,y_ = (x3_3.set (x6_3 : Int).toNat (rd x3_3 x7_3)):=⟨_,rfl⟩
              replace H : (impl_FormatInt.l1 k3 (y682.set (x7_3 : Int).toNat (rd x3_3 x6_3)) (wrap64 (x6_3 + 1)) (wrap64 (x7_3 - 1))) = some r:=by first|(rw [hy682];with_reducible exact H)|(have H2_:=(Option.bind_some _ _).symm.trans H;rw [hy682];with_reducible exact H2_)|(have H2_:=(Option.bind_some _ _).symm.trans H;with_reducible exact H2_)|with_reducible exact H|(rw [hy682];exact H)|exact H
              have Ny682:=zA hy682;clear hy682;obtain ⟨y683,hy683⟩ : ∃ y_ : List Int,y_ = (y682.set (x7_3 : Int).toNat (rd x3_3 x6_3)):=⟨_,rfl⟩
              replace H : (impl_FormatInt.l1 k3 y683 (wrap64 (x6_3 + 1)) (wrap64 (x7_3 - 1))) = some r:=by first|(rw [hy683];with_reducible exact H)|(have H2_:=(Option.bind_some _ _).symm.trans H;rw [hy683];with_reducible exact H2_)|(have H2_:=(Option.bind_some _ _).symm.trans H;with_reducible exact H2_)|with_reducible exact H|(rw [hy683];exact H)|exact H
              have Ny683:=zA hy683;clear hy683
              have H':=zA H
              clear H
              try go_wp2
              have n0_:=zA (zH HO_3.out);have n1_:=zA (zJ HB.out);clear HO_3;clear HB;have HO_3:=n0_;have HB:=n1_;clear n0_ n1_;have p680 : 0 ≤ (x7_3 : Int):=zXb ze;have q680 : x7_3 < (x3_3.length : Int):=zXb ze;obtain ⟨ad680,e680,hx680_0⟩:=Kd.at_int (Kd.R_reads' HO_3.out).2.2 x7_3 p680 q680
              cases e680
              replace p680:=eq_true p680;replace q680:=eq_true q680;have p681 : 0 ≤ (x6_3 : Int):=zXb ze;have q681 : x6_3 < (x3_3.length : Int):=zXb ze;obtain ⟨ad681,e681,hx681_0⟩:=Kd.at_int (Kd.R_reads' HO_3.out).2.2 x6_3 p681 q681
              obtain rfl : ad680 = ad681:=(by injection e681)
              replace p681:=eq_true p681;replace q681:=eq_true q681;have p16 : 0 ≤ (x6_3 : Int):=zXb ze;have q16 : (x6_3 : Int) < ((x3_3.length : Int) : Int):=zXb ze;obtain ⟨go16,co16,eo16,gb16,gl16,cl16,HG16⟩:=Kd.R_form HO_3.out (by omega)
              (first|cases eo16|(injection eo16 with ea_ en_ ec_;(first|subst ea_|(injection ea_ with ea_;subst ea_));subst ec_;clear en_))
              have GB16:=zA gb16;have GG16:=zA HG16;clear gb16 gl16 HG16
              (first|simp only [add_plain] at hx680_0|skip)
              (first|simp only [add_plain] at hx681_0|skip)
              obtain ⟨hx16_0,hf16_0⟩:=Kd.R_celln 0 HO_3.out (x6_3 : Int) p16 q16;replace p16:=eq_true p16;replace q16:=eq_true q16;have HP19:=Kd.R_putn HO_3.out (x6_3 : Int) (rd x3_3 x7_3);rw [← Ny682.out] at HP19;have HQ19:=zA HP19;clear HP19;have p17 : 0 ≤ (x7_3 : Int):=zXb ze;have q17 : (x7_3 : Int) < ((x3_3.length : Int) : Int):=zXb ze;obtain ⟨hx17_0,hf17_0⟩:=Kd.R_celln 0 HQ19.out (x7_3 : Int) p17 q17;replace p17:=eq_true p17;replace q17:=eq_true q17;have HP20:=Kd.R_putn HQ19.out (x7_3 : Int) (rd x3_3 x6_3);rw [← Ny683.out] at HP20;have HQ20:=zA HP20;clear HP20
              refine start_ (n:=16) (S:=fun w' => w'.cell? ⟨go16,(x7_3).toNat,none⟩ = some (.int .u8 (rd x3_3 x7_3)) ∧ w'.cell? ⟨go16,(x6_3).toNat,none⟩ = some (.int .u8 (rd x3_3 x6_3))) (ds:=[13,15]) #[false,false,false,false,false,false,false,false,false,false,false,false,false,false,false,false] (by kernel_rfl) rfl rfl ⟨hx680_0,hx681_0⟩ (fun hHeld => ?_);refine with_tabW impl_FormatInt.tab16 impl_FormatInt.bits16 (fun HT_ HW_ => ?_)
              generalize wr.drew = w18 at HO_3 HB GG16 HQ19 HQ20 hf16_0 hf17_0 hx16_0 hx17_0 hx680_0 hx681_0 hHeld ⊢
              refine zut 0 43 HT_ ?_;refine zut 1 44 HT_ ?_;refine zut 2 45 HT_ ?_;refine zut 3 46 HT_ ?_;refine zut 4 47 HT_ ?_;refine zut 5 48 HT_ ?_;refine zut 6 49 HT_ ?_;refine zut 8 51 HT_ ?_;refine zut 9 52 HT_ ?_;refine zut 10 53 HT_ ?_;refine zwt 7 50 HT_ HW_ hHeld ?_;refine zwt 11 54 HT_ HW_ hHeld ?_;refine zut 12 55 HT_ ?_
              refine last_ (i:=13) (N:=none) #[true,true,true,true,true,true,true,true,true,true,true,true,true,true,false,false] rfl rfl (one_of HT_.out (by kernel_rfl)) (by decide) (fun K hK => ?_)
              refine skip_ (w1:=?_) (by rfl) rfl ?_ ?_
              rotate_left
              ·
               go_simp
               rfl
              refine hK.out _ _ ?_
              clear hK K
              refine zut 14 56 HT_ ?_
              refine last_ (i:=15) (N:=none) #[true,true,true,true,true,true,true,true,true,true,true,true,true,true,true,true] rfl rfl (one_of HT_.out (by kernel_rfl)) (by decide) (fun K hK => ?_)
              refine skip_ (w1:=?_) (by rfl) rfl ?_ ?_
              rotate_left
              ·
               go_simp
               rfl
              refine hK.out _ _ ?_
              clear hK K
              refine done_ (done_of HT_.out (by kernel_rfl)) ?_
              try go_wp2
              (try simp only [← hl3_3])
              go_roundg k3
              case measure => have:=HK1.out;have:=HJ5.out;have:=HK3.out;omega
              case rel => exact ⟨(y683),(wrap64 (x6_3 + 1)),(wrap64 (x7_3 - 1)),za,za,H',⟨by have:=HK1.out;have:=HJ5.out;have:=HK3.out;omega⟩,⟨by (try simp only [hl3_3]);(with_reducible repeat (first|apply zE|apply zD|apply zH));exact HQ20.out⟩,⟨by repeat (first|(with_reducible first|exact HB.out|apply zK|apply zC|apply zJ|refine zB ?_ GB16.out|refine zB ?_ GB16.out)|exact HB.out)⟩⟩
             ·
              rw [if_neg c15] at H
              exact absurd H (by simp)
            ·
             rw [if_neg c14] at H
             exact absurd H (by simp)
           ·
            rw [if_neg c13] at H
            exact absurd H (by simp)
          ·
           rw [if_neg c12] at H
           exact absurd H (by simp)
         ·
          rw [if_neg c11] at H;have c11b0:=decide_eq_false c11;clear c11
          obtain rfl:=Option.some.inj H
          have hcv21:=own_string (P:=Try.prog) Try.underlying26 Try.underlying5 Try.underlying9 (Kd.own_of_R HO_3.out)
          go_wp2
          go_ret
          exact ⟨zrr,zz HB⟩
    ·
     rw [if_neg c5] at H;have c5b0:=beq_eq_false_iff_ne.mpr c5;have c5b1:=bne_iff_ne.mpr c5
     by_cases c22 : (Int.tmod x4_1 10) < 0
     ·
      rw [if_pos c22] at H;have c22b0:=decide_eq_true c22;clear c22
      by_cases c23 : x3_1.length < 140737488355328
      ·
       rw [if_pos c23] at H;have LMc23:=zA c23;clear c23;obtain ⟨y671,hy671⟩ : ∃ y_ : List Int,y_ = (x3_1 ++ [(wrap64 (48 + (wrap64 (-(Int.tmod x4_1 10))))) % 256]):=⟨_,rfl⟩
       replace H : (impl_FormatInt.l0 k1 a0 y671 (wrap64 (Int.tdiv x4_1 10))) = some r:=by first|(rw [hy671];with_reducible exact H)|(have H2_:=(Option.bind_some _ _).symm.trans H;rw [hy671];with_reducible exact H2_)|(have H2_:=(Option.bind_some _ _).symm.trans H;with_reducible exact H2_)|with_reducible exact H|(rw [hy671];exact H)|exact H
       have Ny671:=zA hy671;clear hy671
       have H':=zA H
       clear H
       go_wp2_with (first|((with_reducible refine gate_builtin (b:=.append) (xs:=#[.tmp 22,.tmp 26]) rfl ?_);at_builtin;refine Kd.R_append (Kd.int .u8) (w0:=w) w.heap.size rfl (.tmp 22) (.tmp 26) 26 5 (.int .u8 0) 1 rfl Try.underlying26 info5 rfl (by decide) (by omega) u3 x3_1 ((wrap64 (48 + (wrap64 (-(Int.tmod x4_1 10))))) % 256) [.int .u8 ((wrap64 (48 + (wrap64 (-(Int.tmod x4_1 10))))) % 256)] (fun _ => True) (fun _ => False) rfl rfl ?aP (fun _ hk => hk.elim) ?aF ?aO ?aB ?aS ?aL ?_;(case aP => exact rfl);(case aB => exact (zz HB));(case aF => exact (fun _ _ => trivial));(case aO => exact (zq HO_3));(case aS => exact (zT (zz HB)));(case aL => have:=LMc23.out;omega);intro v672 w24 ho hb hg hat;rw [← Ny671.out] at ho;replace HB:=zA (hb);have HO673:=zA (ho);clear HO_3;clear ho hb hg hat))
       go_roundg k1
       case measure => have:=HK1.out;omega
       case rel => exact ⟨(y671),(wrap64 (Int.tdiv x4_1 10)),za,H',⟨by have:=HK1.out;omega⟩,⟨zq HO673⟩,⟨zz HB⟩⟩
      ·
       rw [if_neg c23] at H
       exact absurd H (by simp)
     ·
      rw [if_neg c22] at H;have c22b0:=decide_eq_false c22;clear c22
      by_cases c25 : x3_1.length < 140737488355328
      ·
       rw [if_pos c25] at H;have LMc25:=zA c25;clear c25;obtain ⟨y674,hy674⟩ : ∃ y_ : List Int,y_ = (x3_1 ++ [(wrap64 (48 + (Int.tmod x4_1 10))) % 256]):=⟨_,rfl⟩
       replace H : (impl_FormatInt.l0 k1 a0 y674 (wrap64 (Int.tdiv x4_1 10))) = some r:=by first|(rw [hy674];with_reducible exact H)|(have H2_:=(Option.bind_some _ _).symm.trans H;rw [hy674];with_reducible exact H2_)|(have H2_:=(Option.bind_some _ _).symm.trans H;with_reducible exact H2_)|with_reducible exact H|(rw [hy674];exact H)|exact H
       have Ny674:=zA hy674;clear hy674
       have H':=zA H
       clear H
       go_wp2_with (first|((with_reducible refine gate_builtin (b:=.append) (xs:=#[.tmp 22,.tmp 26]) rfl ?_);at_builtin;refine Kd.R_append (Kd.int .u8) (w0:=w) w.heap.size rfl (.tmp 22) (.tmp 26) 26 5 (.int .u8 0) 1 rfl Try.underlying26 info5 rfl (by decide) (by omega) u3 x3_1 ((wrap64 (48 + (Int.tmod x4_1 10))) % 256) [.int .u8 ((wrap64 (48 + (Int.tmod x4_1 10))) % 256)] (fun _ => True) (fun _ => False) rfl rfl ?aP (fun _ hk => hk.elim) ?aF ?aO ?aB ?aS ?aL ?_;(case aP => exact rfl);(case aB => exact (zz HB));(case aF => exact (fun _ _ => trivial));(case aO => exact (zq HO_3));(case aS => exact (zT (zz HB)));(case aL => have:=LMc25.out;omega);intro v675 w26 ho hb hg hat;rw [← Ny674.out] at ho;replace HB:=zA (hb);have HO676:=zA (ho);clear HO_3;clear ho hb hg hat))
       go_roundg k1
       case measure => have:=HK1.out;omega
       case rel => exact ⟨(y674),(wrap64 (Int.tdiv x4_1 10)),za,H',⟨by have:=HK1.out;omega⟩,⟨zq HO676⟩,⟨zz HB⟩⟩
      ·
       rw [if_neg c25] at H
       exact absurd H (by simp)

/-! ### impl_ConstOf: function 145 -/
def impl_ConstOf.f (a0 : Int) : Option (Int) := (impl_IsTerm.f a0).bind fun t684 => (if t684 = true then ((impl_IsVar.f a0).bind fun t685 => (if t685 = true then (some (-1)) else (some (wrap64 ((-1) - a0))))) else (some (-1)))
set_option maxHeartbeats 8000000 in
set_option maxRecDepth 100000 in
theorem impl_ConstOf.calls (a0 : Int) (r : Int) (w : World) (h : impl_ConstOf.f a0 = some r) :
  Calls Try.prog 145 #[.int .i64 a0] w fun e w' => e = .returned (.int .i64 r) ∧ Drawn0 w w' := by
 have H : ((impl_IsTerm.f a0).bind fun t684 => (if t684 = true then ((impl_IsVar.f a0).bind fun t685 => (if t685 = true then (some (-1)) else (some (wrap64 ((-1) - a0))))) else (some (-1)))) = some r:=h
 clear h;obtain ⟨t684,A20,H⟩:=zYb.mp H;(try dsimp only at H);have A2:=zA A20;clear A20
 by_cases c3 : t684 = true
 ·
  subst c3
  rw [if_pos rfl] at H;obtain ⟨t685,A40,H⟩:=zYb.mp H;(try dsimp only at H);have A4:=zA A40;clear A40
  by_cases c5 : t685 = true
  ·
   subst c5
   rw [if_pos rfl] at H
   obtain rfl:=Option.some.inj H
   go_enter Try.func145,Try.ntmps145
   go_wp2_with (first|((with_reducible refine gate_callee (f:=113) rfl ?_);refine zgo (some 4) Try.func113 #[.int .i64 a0] ?_;(with_reducible refine (impl_IsTerm.calls a0 true _ A2.out).mono ?_);rintro e w' ⟨rfl,⟨nd,rfl⟩⟩;refine ⟨_,rfl,?_⟩)|(go_at_call 112;(with_reducible refine (impl_IsVar.calls a0 true _ A4.out).mono ?_);rintro e w' ⟨rfl,⟨nd,rfl⟩⟩))
   go_ret
   exact ⟨za,zdr⟩
  ·
   replace c5:=Bool.eq_false_iff.mpr c5
   subst c5
   have H1 : (some (wrap64 ((-1) - a0))) = some r:=by rw [if_neg (show ¬ (false = true) by decide)] at H;exact H
   clear H;have H:=H1;clear H1
   obtain rfl:=Option.some.inj H
   go_enter Try.func145,Try.ntmps145
   go_wp2_with (first|((with_reducible refine gate_callee (f:=113) rfl ?_);refine zgo (some 4) Try.func113 #[.int .i64 a0] ?_;(with_reducible refine (impl_IsTerm.calls a0 true _ A2.out).mono ?_);rintro e w' ⟨rfl,⟨nd,rfl⟩⟩;refine ⟨_,rfl,?_⟩)|(go_at_call 112;(with_reducible refine (impl_IsVar.calls a0 false _ A4.out).mono ?_);rintro e w' ⟨rfl,⟨nd,rfl⟩⟩))
   go_ret
   exact ⟨za,zdr⟩
 ·
  replace c3:=Bool.eq_false_iff.mpr c3
  subst c3
  have H1 : (some (-1)) = some r:=by rw [if_neg (show ¬ (false = true) by decide)] at H;exact H
  clear H;have H:=H1;clear H1
  obtain rfl:=Option.some.inj H
  go_enter Try.func145,Try.ntmps145
  go_wp2_with (first|((with_reducible refine gate_callee (f:=113) rfl ?_);refine zgo (some 4) Try.func113 #[.int .i64 a0] ?_;(with_reducible refine (impl_IsTerm.calls a0 false _ A2.out).mono ?_);rintro e w' ⟨rfl,⟨nd,rfl⟩⟩;refine ⟨_,rfl,?_⟩))
  go_ret
  exact ⟨za,zdr⟩

/-! ### impl_FormatTerm: function 114 -/
def impl_FormatTerm.f (k : Nat) (a0 : Int) : Option (ByteArray) := (impl_IsVar.f a0).bind fun t686 => (if t686 = true then ((impl_FormatInt.f k a0).bind fun t687 => (if 1 + t687.size ≤ 9223372036854775807 then (some ((⟨#[88]⟩ : ByteArray) ++ t687)) else (none))) else ((impl_IsTerm.f a0).bind fun t688 => (if t688 = true then ((impl_ConstOf.f a0).bind fun t689 => ((impl_FormatInt.f k t689).bind fun t690 => (some t690))) else (some (⟨#[]⟩ : ByteArray)))))
set_option maxHeartbeats 8000000 in
set_option maxRecDepth 100000 in
theorem impl_FormatTerm.calls (k : Nat) (a0 : Int) (r : ByteArray) (w : World) (h : impl_FormatTerm.f k a0 = some r) :
  Calls Try.prog 114 #[.int .i64 a0] w fun e w' => e = .returned (.string r) ∧ Below w.heap.size w w' := by
 have HB:=zA (Below.refl w.heap.size w)
 have H : ((impl_IsVar.f a0).bind fun t686 => (if t686 = true then ((impl_FormatInt.f k a0).bind fun t687 => (if 1 + t687.size ≤ 9223372036854775807 then (some ((⟨#[88]⟩ : ByteArray) ++ t687)) else (none))) else ((impl_IsTerm.f a0).bind fun t688 => (if t688 = true then ((impl_ConstOf.f a0).bind fun t689 => ((impl_FormatInt.f k t689).bind fun t690 => (some t690))) else (some (⟨#[]⟩ : ByteArray)))))) = some r:=h
 clear h;obtain ⟨t686,A20,H⟩:=zYb.mp H;(try dsimp only at H);have A2:=zA A20;clear A20
 by_cases c3 : t686 = true
 ·
  subst c3
  rw [if_pos rfl] at H;obtain ⟨t687,A40,H⟩:=zYb.mp H;(try dsimp only at H);have A4:=zA A40;clear A40
  by_cases c5 : 1 + t687.size ≤ 9223372036854775807
  ·
   rw [if_pos c5] at H;have c5b0:=eq_true c5;have c5b1:=decide_eq_true c5
   try have c5b2 : (9223372036854775807 < 1 + t687.size) = False:=eq_false (Nat.not_lt.2 c5)
   obtain rfl:=Option.some.inj H
   go_enter Try.func114,Try.ntmps114
   go_wp2_with (first|((with_reducible refine gate_callee (f:=112) rfl ?_);refine zgo (some 5) Try.func112 #[.int .i64 a0] ?_;(with_reducible refine (impl_IsVar.calls a0 true _ A2.out).mono ?_);rintro e w' ⟨rfl,⟨nd,rfl⟩⟩;refine ⟨_,rfl,?_⟩)|((with_reducible refine gate_callee (f:=27) rfl ?_);refine zgo (some 7) Try.func27 #[.int .i64 a0] ?_;(with_reducible refine (impl_FormatInt.calls k a0 t687 _ A4.out).mono ?_);rintro e w6 ⟨rfl,hb⟩;refine ⟨_,rfl,?_⟩;replace HB:=zA (zJb (zz HB) hb);(try clear hb);(try clear hb2);(try clear hk);(try clear hi)))
   go_ret
   exact ⟨zrr,zz HB⟩
  ·
   rw [if_neg c5] at H
   exact absurd H (by simp)
 ·
  replace c3:=Bool.eq_false_iff.mpr c3
  subst c3
  have H1 : ((impl_IsTerm.f a0).bind fun t688 => (if t688 = true then ((impl_ConstOf.f a0).bind fun t689 => ((impl_FormatInt.f k t689).bind fun t690 => (some t690))) else (some (⟨#[]⟩ : ByteArray)))) = some r:=by rw [if_neg (show ¬ (false = true) by decide)] at H;exact H
  clear H;have H:=H1;clear H1;obtain ⟨t688,A70,H⟩:=zYb.mp H;(try dsimp only at H);have A7:=zA A70;clear A70
  by_cases c8 : t688 = true
  ·
   subst c8
   rw [if_pos rfl] at H;obtain ⟨t689,A90,H⟩:=zYb.mp H;(try dsimp only at H);have A9:=zA A90;clear A90;obtain ⟨t690,A100,H⟩:=zYb.mp H;(try dsimp only at H);have A10:=zA A100;clear A100
   obtain rfl:=Option.some.inj H
   go_enter Try.func114,Try.ntmps114
   go_wp2_with (first|((with_reducible refine gate_callee (f:=112) rfl ?_);refine zgo (some 5) Try.func112 #[.int .i64 a0] ?_;(with_reducible refine (impl_IsVar.calls a0 false _ A2.out).mono ?_);rintro e w' ⟨rfl,⟨nd,rfl⟩⟩;refine ⟨_,rfl,?_⟩)|((with_reducible refine gate_callee (f:=113) rfl ?_);refine zgo (some 11) Try.func113 #[.int .i64 a0] ?_;(with_reducible refine (impl_IsTerm.calls a0 true _ A7.out).mono ?_);rintro e w' ⟨rfl,⟨nd,rfl⟩⟩;refine ⟨_,rfl,?_⟩)|((with_reducible refine gate_callee (f:=145) rfl ?_);refine zgo (some 13) Try.func145 #[.int .i64 a0] ?_;(with_reducible refine (impl_ConstOf.calls a0 t689 _ A9.out).mono ?_);rintro e w' ⟨rfl,⟨nd,rfl⟩⟩;refine ⟨_,rfl,?_⟩)|((with_reducible refine gate_callee (f:=27) rfl ?_);refine zgo (some 14) Try.func27 #[.int .i64 t689] ?_;(with_reducible refine (impl_FormatInt.calls k t689 t690 _ A10.out).mono ?_);rintro e w11 ⟨rfl,hb⟩;refine ⟨_,rfl,?_⟩;replace HB:=zA (zJb (zz HB) hb);(try clear hb);(try clear hb2);(try clear hk);(try clear hi)))
   go_ret
   exact ⟨zrr,zz HB⟩
  ·
   replace c8:=Bool.eq_false_iff.mpr c8
   subst c8
   have H1 : (some (⟨#[]⟩ : ByteArray)) = some r:=by rw [if_neg (show ¬ (false = true) by decide)] at H;exact H
   clear H;have H:=H1;clear H1
   obtain rfl:=Option.some.inj H
   go_enter Try.func114,Try.ntmps114
   go_wp2_with (first|((with_reducible refine gate_callee (f:=112) rfl ?_);refine zgo (some 5) Try.func112 #[.int .i64 a0] ?_;(with_reducible refine (impl_IsVar.calls a0 false _ A2.out).mono ?_);rintro e w' ⟨rfl,⟨nd,rfl⟩⟩;refine ⟨_,rfl,?_⟩)|((with_reducible refine gate_callee (f:=113) rfl ?_);refine zgo (some 11) Try.func113 #[.int .i64 a0] ?_;(with_reducible refine (impl_IsTerm.calls a0 false _ A7.out).mono ?_);rintro e w' ⟨rfl,⟨nd,rfl⟩⟩;refine ⟨_,rfl,?_⟩))
   go_ret
   exact ⟨zrr,zz HB⟩

/-! ### impl_glued: function 115 -/
def impl_glued.l0 : Nat → ByteArray → ByteArray → List ByteArray → Int → Int → Option (ByteArray)
 | 0, _, _, _, _, _ => none
 | k + 1, x1, x5, x8, x9, x10 => if x10 < x9 then (if 0 ≤ x10 then (if x10 < (x8.length : Int) then (if x10 > 0 then (if x5.size + x1.size ≤ 9223372036854775807 then (if (x5 ++ x1).size + (rdOf ByteArray.empty x8 x10).size ≤ 9223372036854775807 then (impl_glued.l0 k x1 ((x5 ++ x1) ++ (rdOf ByteArray.empty x8 x10)) x8 x9 (wrap64 (x10 + 1))) else (none)) else (none)) else (if x5.size + (rdOf ByteArray.empty x8 x10).size ≤ 9223372036854775807 then (impl_glued.l0 k x1 (x5 ++ (rdOf ByteArray.empty x8 x10)) x8 x9 (wrap64 (x10 + 1))) else (none))) else (none)) else (none)) else (some x5)
def impl_glued.f (k : Nat) (l0 : List ByteArray) (a1 : ByteArray) : Option (ByteArray) := impl_glued.l0 k a1 (⟨#[]⟩ : ByteArray) l0 (l0.length : Int) 0
set_option maxHeartbeats 8000000 in
set_option maxRecDepth 100000 in
theorem impl_glued.calls (k : Nat) (A0 : Option Addr) (c0 : Nat) (l0 : List ByteArray) (a1 : ByteArray) (r : ByteArray) (w : World) (hr0 : Kd.C Kd.string w A0 l0.length l0) (hc0 : l0.length ≤ c0) (h : impl_glued.f k l0 a1 = some r) :
  Calls Try.prog 115 #[.slice A0 l0.length c0, .string a1] w fun e w' => e = .returned (.string r) ∧ Drawn0 w w' := by
 have HR0:=zA hr0;have HC0:=zA hc0;clear hr0 hc0
 have H : (impl_glued.l0 k a1 (⟨#[]⟩ : ByteArray) l0 (l0.length : Int) 0) = some r:=h
 clear h
 have H':=zA H
 clear H
 go_enter Try.func115,Try.ntmps115
 go_wp2
 go_loopg [5,10] k (fun kq v5 v10 w' => ∃ (x5_1 : ByteArray) (x10_1 : Int),v5 = .string x5_1 ∧ v10 = .int .i64 x10_1 ∧ Aside0 (impl_glued.l0 kq a1 x5_1 l0 (l0.length : Int) x10_1 = some r) ∧ Aside0 (kq ≤ k) ∧ Drawn0 w w')
 case atStart => exact ⟨((⟨#[]⟩ : ByteArray)),(0),za,za,H',⟨Nat.le_refl _⟩,zdr⟩
 case round =>
  clear H';(try clear c1);(try clear p2);obtain ⟨x5_1,x10_1,rfl,rfl,HA,HK1,⟨m1,rfl⟩⟩:=hrel
  cases gk with
  | zero => exact absurd HA.out (by simp [impl_glued.l0])
  | succ k1 =>
   have H:=HA.out;clear HA;simp only [impl_glued.l0] at H
   by_cases c3 : x10_1 < (l0.length : Int)
   ·
    rw [if_pos c3] at H;have c3b0:=decide_eq_true c3;clear c3
    by_cases c4 : 0 ≤ x10_1
    ·
     rw [if_pos c4] at H;have c4b0:=decide_eq_true c4;clear c4
     by_cases c5 : x10_1 < (l0.length : Int)
     ·
      rw [if_pos c5] at H;have c5b0:=decide_eq_true c5;clear c5
      by_cases c6 : x10_1 > 0
      ·
       rw [if_pos c6] at H
       have c6b0 : decide (0 < x10_1) = true:=decide_eq_true c6
       clear c6
       by_cases c7 : x5_1.size + a1.size ≤ 9223372036854775807
       ·
        rw [if_pos c7] at H;have c7b0:=eq_true c7;have c7b1:=decide_eq_true c7
        try have c7b2 : (9223372036854775807 < x5_1.size + a1.size) = False:=eq_false (Nat.not_lt.2 c7)
        by_cases c8 : (x5_1 ++ a1).size + (rdOf ByteArray.empty l0 x10_1).size ≤ 9223372036854775807
        ·
         rw [if_pos c8] at H;have c8b0:=eq_true c8;have c8b1:=decide_eq_true c8
         try have c8b2 : (9223372036854775807 < (x5_1 ++ a1).size + (rdOf ByteArray.empty l0 x10_1).size) = False:=eq_false (Nat.not_lt.2 c8)
         try have c8z0 : (9223372036854775807 < x5_1.size + a1.size + (rdOf ByteArray.empty l0 x10_1).size) = False:=eq_false (by have h_:=c8;simp only [ByteArray.size_append] at h_;omega)
         try have c8z1 : (x5_1.size + a1.size + (rdOf ByteArray.empty l0 x10_1).size ≤ 9223372036854775807) = True:=eq_true (by have h_:=c8;simp only [ByteArray.size_append] at h_;omega)
         have H':=zA H
         clear H;have p691 : 0 ≤ (x10_1 : Int):=zXb ze;have q691 : x10_1 < (l0.length : Int):=zXb ze;obtain ⟨ad691,e691,hx691_0⟩:=Kd.at_string HR0.out x10_1 p691 q691
         cases e691
         replace p691:=eq_true p691;replace q691:=eq_true q691
         go_wp2
         go_roundg k1
         case measure => have:=HK1.out;omega
         case rel => exact ⟨((x5_1 ++ a1) ++ (rdOf ByteArray.empty l0 x10_1)),(wrap64 (x10_1 + 1)),za,za,H',⟨by have:=HK1.out;omega⟩,zdr⟩
        ·
         rw [if_neg c8] at H
         exact absurd H (by simp)
       ·
        rw [if_neg c7] at H
        exact absurd H (by simp)
      ·
       rw [if_neg c6] at H
       have c6b0 : decide (0 < x10_1) = false:=decide_eq_false c6
       clear c6
       by_cases c9 : x5_1.size + (rdOf ByteArray.empty l0 x10_1).size ≤ 9223372036854775807
       ·
        rw [if_pos c9] at H;have c9b0:=eq_true c9;have c9b1:=decide_eq_true c9
        try have c9b2 : (9223372036854775807 < x5_1.size + (rdOf ByteArray.empty l0 x10_1).size) = False:=eq_false (Nat.not_lt.2 c9)
        have H':=zA H
        clear H;have p691 : 0 ≤ (x10_1 : Int):=zXb ze;have q691 : x10_1 < (l0.length : Int):=zXb ze;obtain ⟨ad691,e691,hx691_0⟩:=Kd.at_string HR0.out x10_1 p691 q691
        cases e691
        replace p691:=eq_true p691;replace q691:=eq_true q691
        go_wp2
        go_roundg k1
        case measure => have:=HK1.out;omega
        case rel => exact ⟨(x5_1 ++ (rdOf ByteArray.empty l0 x10_1)),(wrap64 (x10_1 + 1)),za,za,H',⟨by have:=HK1.out;omega⟩,zdr⟩
       ·
        rw [if_neg c9] at H
        exact absurd H (by simp)
     ·
      rw [if_neg c5] at H
      exact absurd H (by simp)
    ·
     rw [if_neg c4] at H
     exact absurd H (by simp)
   ·
    rw [if_neg c3] at H;have c3b0:=decide_eq_false c3;clear c3
    obtain rfl:=Option.some.inj H
    go_wp2
    go_ret
    exact ⟨za,zdr⟩

end Go.Proofs.Ytanbgnjfllpkgaa.QFnMappings
