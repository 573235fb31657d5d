/- Walks through the Go functions that FnMappings reaches: each call returns what the Lean function beside it says, within the bounds that the theorem names. -/
import Derived.Test.YtanbgnjfllpkgaaQFnMappingsx0
import Derived.Test.YtanbgnjfllpkgaaQFnMappingsx1
import Derived.Test.YtanbgnjfllpkgaaQFnMappingsx7
import Derived.Test.YtanbgnjfllpkgaaQFnMappingsx14
namespace Go.Proofs.Ytanbgnjfllpkgaa.QFnMappings
open Go.RowKit Go.Proofs.YtanbgnjfllpkgaaW.PrintWords Go.Proofs.YtanbgnjfllpkgaaW.PrintLast Go.Proofs.YtanbgnjfllpkgaaW.PrintMore
attribute [local go_sem] max2_int min2_int max_two min_two max_three min_three max_four min_four   -- for this text's walks alone
set_option linter.unusedVariables false
set_option linter.unusedSimpArgs false


/-! ### impl_FormatMapping: function 70 -/
mutual
def impl_FormatMapping.l0 : Nat → List ByteArray → List Int → Int → Int → Option (ByteArray)
 | 0, _, _, _, _ => none
 | k + 1, x3, x7, x8, x9 => if x9 < x8 then (if 0 ≤ x9 then (if x9 < (x7.length : Int) then (if (rd x7 x9) = (-1000) then (impl_FormatMapping.l0 k x3 x7 x8 (wrap64 (x9 + 1))) else ((impl_IsVar.f x9).bind fun t697 => (if t697 = true then ((impl_IsTerm.f (rd x7 x9)).bind fun t698 => (impl_FormatMapping.j1 k x3 x9 (rd x7 x9) x7 x8 x9 (!t698))) else (impl_FormatMapping.j1 k x3 x9 (rd x7 x9) x7 x8 x9 true)))) else (none)) else (none)) else (if (x3.length : Int) = 0 then (some (⟨#[110, 111, 110, 101]⟩ : ByteArray)) else ((impl_glued.f k x3 (⟨#[32]⟩ : ByteArray)).bind fun t695 => (some t695)))
def impl_FormatMapping.j1 : Nat → List ByteArray → Int → Int → List Int → Int → Int → Bool → Option (ByteArray)
 | 0, _, _, _, _, _, _, _ => none
 | k + 1, x3, x4, x5, x7, x8, x9, x23 => if x23 = true then (some (⟨#[]⟩ : ByteArray)) else ((impl_FormatTerm.f k x4).bind fun t699 => (if t699.size + 1 ≤ 9223372036854775807 then ((impl_FormatTerm.f k x5).bind fun t700 => (if (t699 ++ (⟨#[61]⟩ : ByteArray)).size + t700.size ≤ 9223372036854775807 then (if x3.length < 8796093022208 then (impl_FormatMapping.l0 k (x3 ++ [(t699 ++ (⟨#[61]⟩ : ByteArray)) ++ t700]) x7 x8 (wrap64 (x9 + 1))) else (none)) else (none))) else (none)))
end
def impl_FormatMapping.f (k : Nat) (l0 : List Int) : Option (ByteArray) := impl_FormatMapping.l0 k (([] : List ByteArray)) l0 (l0.length : Int) 0
set_option maxHeartbeats 8000000 in
set_option maxRecDepth 100000 in
theorem impl_FormatMapping.calls (k : Nat) (A0 : Option Addr) (c0 : Nat) (l0 : List Int) (r : ByteArray) (w : World) (hr0 : Kd.C (Kd.int .i64) w A0 l0.length l0) (hc0 : l0.length ≤ c0) (h : impl_FormatMapping.f k l0 = some r) :
  Calls Try.prog 70 #[.slice A0 l0.length c0] w fun e w' => e = .returned (.string r) ∧ Below w.heap.size w w' := by
 have HR0:=zA hr0;have HC0:=zA hc0;clear hr0 hc0;have HB:=zA (Below.refl w.heap.size w)
 have H : (impl_FormatMapping.l0 k (([] : List ByteArray)) l0 (l0.length : Int) 0) = some r:=h
 clear h;obtain ⟨y692,hy692⟩ : ∃ y_ : List ByteArray,y_ = (([] : List ByteArray)):=⟨_,rfl⟩
 replace H : (impl_FormatMapping.l0 k y692 l0 (l0.length : Int) 0) = some r:=by first|(rw [hy692];with_reducible exact H)|(have H2_:=(Option.bind_some _ _).symm.trans H;rw [hy692];with_reducible exact H2_)|(have H2_:=(Option.bind_some _ _).symm.trans H;with_reducible exact H2_)|with_reducible exact H|(rw [hy692];exact H)|exact H
 have Ny692:=zA hy692;clear hy692
 have H':=zA H
 clear H
 go_enter Try.func70,Try.ntmps70
 go_wp2_with (first|((with_reducible refine gate_dst (N:=6) rfl ?_);refine Kd.R_lit Kd.string _ 9 ?hg (N:=6) ?hd (xs:=([] : List ByteArray)) (inner:=[]) (ok:=fun _ => True) (okp:=fun _ => True) ?hr ?hp (fun _ hk => hk) trivial (Below.refl _ _) (Nat.le_refl _) (by simp) ?_;(case hd => rfl);(case hg => rfl);(case hr => first|(go_simp;done)|(go_simp;rfl));(case hp => exact (Reps.none _ _));intro v693 w2 ho3 hb hg_ hnew_;clear hg_ hnew_;(first|rw [← Ny692.out] at ho3|(simp only [Int.reduceToNat] at ho3;rw [← Ny692.out] at ho3));have HO694:=zA (zHb ho3 (zT (zz HB)));replace HB:=zA (zJb (zz HB) hb);clear hb ho3))
 go_loopg [3,9] k (fun kq v3 v9 w' => ∃ (x3_1 : List ByteArray) (x9_1 : Int),v9 = .int .i64 x9_1 ∧ Aside0 (impl_FormatMapping.l0 kq x3_1 l0 (l0.length : Int) x9_1 = some r) ∧ Aside0 (kq ≤ k) ∧ Aside0 (Kd.R Kd.string 9 w' w.heap.size (fun _ => True) v3 x3_1) ∧ Aside0 (Below w.heap.size w w'))
 case atStart => exact ⟨(y692),(0),za,H',⟨Nat.le_refl _⟩,⟨zq HO694⟩,⟨zz HB⟩⟩
 case round =>
  clear H';(try clear p2);obtain ⟨x3_1,x9_1,rfl,HA,HK1,HO_3,HB⟩:=hrel
  cases gk with
  | zero => exact absurd HA.out (by simp [impl_FormatMapping.l0])
  | succ k1 =>
   have H:=HA.out;clear HA;simp only [impl_FormatMapping.l0] at H
   by_cases c4 : x9_1 < (l0.length : Int)
   ·
    rw [if_pos c4] at H;have c4b0:=decide_eq_true c4;clear c4
    by_cases c5 : 0 ≤ x9_1
    ·
     rw [if_pos c5] at H;have c5b0:=decide_eq_true c5;clear c5
     by_cases c6 : x9_1 < (l0.length : Int)
     ·
      rw [if_pos c6] at H;have c6b0:=decide_eq_true c6;clear c6
      by_cases c7 : (rd l0 x9_1) = (-1000)
      ·
       rw [if_pos c7] at H;have c7b0:=beq_iff_eq.mpr c7;have c7b1:=bne_eq_false_iff_eq.mpr c7;clear c7
       have H':=zA H
       clear H;have p696 : 0 ≤ (x9_1 : Int):=zXb ze;have q696 : x9_1 < (l0.length : Int):=zXb ze;obtain ⟨ad696,e696,hx696_0⟩:=Kd.at_int HR0.out x9_1 p696 q696
       cases e696
       replace hx696_0:=zhx HB hx696_0;replace p696:=eq_true p696;replace q696:=eq_true q696
       go_wp2
       go_roundg k1
       case measure => have:=HK1.out;omega
       case rel => exact ⟨(x3_1),(wrap64 (x9_1 + 1)),za,H',⟨by have:=HK1.out;omega⟩,⟨zq HO_3⟩,⟨zz HB⟩⟩
      ·
       rw [if_neg c7] at H;have c7b0:=beq_eq_false_iff_ne.mpr c7;have c7b1:=bne_iff_ne.mpr c7;have HC8:=zA H;clear H;have p696 : 0 ≤ (x9_1 : Int):=zXb ze;have q696 : x9_1 < (l0.length : Int):=zXb ze;obtain ⟨ad696,e696,hx696_0⟩:=Kd.at_int HR0.out x9_1 p696 q696
       cases e696
       replace hx696_0:=zhx HB hx696_0;replace p696:=eq_true p696;replace q696:=eq_true q696
       go_upto_region 6 with (fail)
       go_cut [23] (fun v23 wc => ∃ (kq : Nat) (x23_7 : Bool),v23 = .bool x23_7 ∧ Aside0 (impl_FormatMapping.j1 kq x3_1 x9_1 (rd l0 x9_1) l0 (l0.length : Int) x9_1 x23_7 = some r) ∧ Aside0 (kq ≤ k1) ∧ Aside0 (Kd.R Kd.string 9 wc w.heap.size (fun _ => True) u3 x3_1) ∧ Aside0 (Below w.heap.size w wc))
       case first =>
        have H:=HC8.out;clear HC8;obtain ⟨t697,A90,H⟩:=zYb.mp H;(try dsimp only at H);have A9:=zA A90;clear A90
        by_cases c10 : t697 = true
        ·
         subst c10
         rw [if_pos rfl] at H;obtain ⟨t698,A110,H⟩:=zYb.mp H;(try dsimp only at H);have A11:=zA A110;clear A110
         have H':=zA H
         clear H
         go_wp2_with (first|((with_reducible refine gate_callee (f:=112) rfl ?_);refine zgo (some 17) Try.func112 #[.int .i64 x9_1] ?_;(with_reducible refine (impl_IsVar.calls x9_1 true _ A9.out).mono ?_);rintro e w' ⟨rfl,⟨nd,rfl⟩⟩;refine ⟨_,rfl,?_⟩)|(go_at_call 113;(with_reducible refine (impl_IsTerm.calls (rd l0 x9_1) t698 _ A11.out).mono ?_);rintro e w' ⟨rfl,⟨nd,rfl⟩⟩))
         go_meet
         case rel => exact ⟨_,(!t698),za,H',⟨by have:=HK1.out;first|omega|exact Nat.le_refl _⟩,⟨zq HO_3⟩,⟨zz HB⟩⟩
        ·
         replace c10:=Bool.eq_false_iff.mpr c10
         subst c10
         have H1 : (impl_FormatMapping.j1 k1 x3_1 x9_1 (rd l0 x9_1) l0 (l0.length : Int) x9_1 true) = some r:=by rw [if_neg (show ¬ (false = true) by decide)] at H;exact H
         clear H;have H:=H1;clear H1
         have H':=zA H
         clear H
         go_wp2_with (first|((with_reducible refine gate_callee (f:=112) rfl ?_);refine zgo (some 17) Try.func112 #[.int .i64 x9_1] ?_;(with_reducible refine (impl_IsVar.calls x9_1 false _ A9.out).mono ?_);rintro e w' ⟨rfl,⟨nd,rfl⟩⟩;refine ⟨_,rfl,?_⟩))
         go_meet
         case rel => exact ⟨_,(true),za,H',⟨by have:=HK1.out;first|omega|exact Nat.le_refl _⟩,⟨zq HO_3⟩,⟨zz HB⟩⟩
       case rest =>
        clear HC8;(try clear c1);(try clear p2);(try clear c4);(try clear c4b0);(try clear c5);(try clear c5b0);(try clear c6);(try clear c6b0);(try clear p6);(try clear q6);(try clear hx6);(try clear c7);(try clear c7b0);(try clear c7b1);(try clear c10);(try clear c11);(try clear hx696_0);(try clear p2);(try clear p696);(try clear q696);obtain ⟨kq,x23_7,rfl,HA,HJ7,HO_3,HB⟩:=hcut
        cases kq with
        | zero => exact absurd HA.out (by simp [impl_FormatMapping.j1])
        | succ kj7 =>
         have H:=HA.out;clear HA;simp only [impl_FormatMapping.j1] at H
         by_cases c12 : x23_7 = true
         ·
          subst c12
          rw [if_pos rfl] at H
          obtain rfl:=Option.some.inj H
          go_wp2
          go_ret
          exact ⟨zrr,zz HB⟩
         ·
          replace c12:=Bool.eq_false_iff.mpr c12
          subst c12
          have H1 : ((impl_FormatTerm.f kj7 x9_1).bind fun t699 => (if t699.size + 1 ≤ 9223372036854775807 then ((impl_FormatTerm.f kj7 (rd l0 x9_1)).bind fun t700 => (if (t699 ++ (⟨#[61]⟩ : ByteArray)).size + t700.size ≤ 9223372036854775807 then (if x3_1.length < 8796093022208 then (impl_FormatMapping.l0 kj7 (x3_1 ++ [(t699 ++ (⟨#[61]⟩ : ByteArray)) ++ t700]) l0 (l0.length : Int) (wrap64 (x9_1 + 1))) else (none)) else (none))) else (none))) = some r:=by rw [if_neg (show ¬ (false = true) by decide)] at H;exact H
          clear H;have H:=H1;clear H1;obtain ⟨t699,A130,H⟩:=zYb.mp H;(try dsimp only at H);have A13:=zA A130;clear A130
          by_cases c14 : t699.size + 1 ≤ 9223372036854775807
          ·
           rw [if_pos c14] at H;have c14b0:=eq_true c14;have c14b1:=decide_eq_true c14
           try have c14b2 : (9223372036854775807 < t699.size + 1) = False:=eq_false (Nat.not_lt.2 c14)
           obtain ⟨t700,A150,H⟩:=zYb.mp H;(try dsimp only at H);have A15:=zA A150;clear A150
           by_cases c16 : (t699 ++ (⟨#[61]⟩ : ByteArray)).size + t700.size ≤ 9223372036854775807
           ·
            rw [if_pos c16] at H;have c16b0:=eq_true c16;have c16b1:=decide_eq_true c16
            try have c16b2 : (9223372036854775807 < (t699 ++ (⟨#[61]⟩ : ByteArray)).size + t700.size) = False:=eq_false (Nat.not_lt.2 c16)
            try have c16z0 : (9223372036854775807 < t699.size + 1 + t700.size) = False:=eq_false (by have h_:=c16;have e0_ : (⟨#[61]⟩ : ByteArray).size = 1:=rfl;simp only [ByteArray.size_append] at h_;omega)
            try have c16z1 : (t699.size + 1 + t700.size ≤ 9223372036854775807) = True:=eq_true (by have h_:=c16;have e0_ : (⟨#[61]⟩ : ByteArray).size = 1:=rfl;simp only [ByteArray.size_append] at h_;omega)
            by_cases c17 : x3_1.length < 8796093022208
            ·
             rw [if_pos c17] at H;have LMc17:=zA c17;clear c17;obtain ⟨y701,hy701⟩ : ∃ y_ : List ByteArray,y_ = (x3_1 ++ [(t699 ++ (⟨#[61]⟩ : ByteArray)) ++ t700]):=⟨_,rfl⟩
             replace H : (impl_FormatMapping.l0 kj7 y701 l0 (l0.length : Int) (wrap64 (x9_1 + 1))) = some r:=by first|(rw [hy701];with_reducible exact H)|(have H2_:=(Option.bind_some _ _).symm.trans H;rw [hy701];with_reducible exact H2_)|(have H2_:=(Option.bind_some _ _).symm.trans H;with_reducible exact H2_)|with_reducible exact H|(rw [hy701];exact H)|exact H
             have Ny701:=zA hy701;clear hy701
             have H':=zA H
             clear H
             go_wp2_with (first|((with_reducible refine gate_callee (f:=114) rfl ?_);refine zgo (some 26) Try.func114 #[.int .i64 x9_1] ?_;(with_reducible refine (impl_FormatTerm.calls kj7 x9_1 t699 _ A13.out).mono ?_);rintro e w18 ⟨rfl,hb⟩;refine ⟨_,rfl,?_⟩;replace HO_3:=zA (zZ (zq HO_3) hb);replace HB:=zA (zJb (zz HB) hb);(try clear hb);(try clear hb2);(try clear hk);(try clear hi))|((with_reducible refine gate_callee (f:=114) rfl ?_);refine zgo (some 29) Try.func114 #[.int .i64 (rd l0 x9_1)] ?_;(with_reducible refine (impl_FormatTerm.calls kj7 (rd l0 x9_1) t700 _ A15.out).mono ?_);rintro e w19 ⟨rfl,hb⟩;refine ⟨_,rfl,?_⟩;replace HO_3:=zA (zZ (zq HO_3) hb);replace HB:=zA (zJb (zz HB) hb);(try clear hb);(try clear hb2);(try clear hk);(try clear hi))|((with_reducible refine gate_builtin (b:=.append) (xs:=#[.tmp 24,.tmp 31]) rfl ?_);at_builtin;refine Kd.R_append Kd.string (w0:=w) w.heap.size rfl (.tmp 24) (.tmp 31) 117 9 (.string ⟨#[]⟩) 16 rfl Try.underlying117 info9 rfl (by decide) (by omega) u3 x3_1 ((t699 ++ (⟨#[61]⟩ : ByteArray)) ++ t700) [.string ((t699 ++ (⟨#[61]⟩ : ByteArray)) ++ t700)] (fun _ => True) (fun _ => False) rfl rfl ?aP (fun _ hk => hk.elim) ?aF ?aO ?aB ?aS ?aL ?_;(case aP => exact rfl);(case aB => exact (zz HB));(case aF => exact (fun _ _ => trivial));(case aO => exact (zq HO_3));(case aS => exact (zT (zz HB)));(case aL => have:=LMc17.out;omega);intro v702 w20 ho hb hg hat;rw [← Ny701.out] at ho;replace HB:=zA (hb);have HO703:=zA (ho);clear HO_3;clear ho hb hg hat))
             go_roundg kj7
             case measure => have:=HK1.out;have:=HJ7.out;omega
             case rel => exact ⟨(y701),(wrap64 (x9_1 + 1)),za,H',⟨by have:=HK1.out;have:=HJ7.out;omega⟩,⟨zq HO703⟩,⟨zz HB⟩⟩
            ·
             rw [if_neg c17] at H
             exact absurd H (by simp)
           ·
            rw [if_neg c16] at H
            exact absurd H (by simp)
          ·
           rw [if_neg c14] at H
           exact absurd H (by simp)
     ·
      rw [if_neg c6] at H
      exact absurd H (by simp)
    ·
     rw [if_neg c5] at H
     exact absurd H (by simp)
   ·
    rw [if_neg c4] at H;have c4b0:=decide_eq_false c4;clear c4
    by_cases c21 : (x3_1.length : Int) = 0
    ·
     rw [if_pos c21] at H;have c21b0:=beq_iff_eq.mpr c21;have c21b1:=bne_eq_false_iff_eq.mpr c21;clear c21
     obtain rfl:=Option.some.inj H
     obtain ⟨Ao22,co22,eo22⟩:=Kd.R_slice HO_3.out
     subst eo22
     go_wp2
     go_ret
     exact ⟨zrr,zz HB⟩
    ·
     rw [if_neg c21] at H;have c21b0:=beq_eq_false_iff_ne.mpr c21;have c21b1:=bne_iff_ne.mpr c21
     have c21b2 : ¬ (x3_1 = []):=fun h_ => c21 (by rw [h_];rfl)
     obtain ⟨t695,A230,H⟩:=zYb.mp H;(try dsimp only at H);have A23:=zA A230;clear A230
     obtain rfl:=Option.some.inj H
     obtain ⟨Ao24,co24,eo24⟩:=Kd.R_slice HO_3.out
     subst eo24
     go_wp2_with (first|((with_reducible refine gate_callee (f:=115) rfl ?_);refine zgo (some 38) Try.func115 #[.slice Ao24 x3_1.length co24,.string (⟨#[32]⟩ : ByteArray)] ?_;(with_reducible refine (impl_glued.calls k1 _ _ x3_1 (⟨#[32]⟩ : ByteArray) t695 _ ?side1 ?side2 A23.out).mono ?_);(case side1 => repeat (first|exact (Kd.R_reads' HO_3.out).2.2|(with_reducible refine zBb ?_ _)|(with_reducible refine zAb ?_ _)|(with_reducible refine zX ?_)));(case side2 => exact (Kd.R_reads' HO_3.out).2.1);rintro e w' ⟨rfl,⟨nd,rfl⟩⟩;refine ⟨_,rfl,?_⟩))
     go_ret
     exact ⟨zrr,zz HB⟩

/-! ### spec_FormatInt: function 29 -/
def spec_FormatInt.l0 : Nat → Int → ByteArray → Bool → Option (ByteArray)
 | 0, _, _, _ => none
 | k + 1, x0, x3, x4 => if x0 = 0 then (if x4 = true then (if 1 + x3.size ≤ 9223372036854775807 then (some ((⟨#[45]⟩ : ByteArray) ++ x3)) else (none)) else (some x3)) else (if (Int.tmod x0 10) < 0 then ((some (([(wrap64 (48 + (wrap64 (-(Int.tmod x0 10))))) % 256] : List Int) : List Int)).bind fun y704 => (if (strOfNums y704).size + x3.size ≤ 9223372036854775807 then (spec_FormatInt.l0 k (wrap64 (Int.tdiv x0 10)) ((strOfNums y704) ++ x3) x4) else (none))) else ((some (([(wrap64 (48 + (Int.tmod x0 10))) % 256] : List Int) : List Int)).bind fun y707 => (if (strOfNums y707).size + x3.size ≤ 9223372036854775807 then (spec_FormatInt.l0 k (wrap64 (Int.tdiv x0 10)) ((strOfNums y707) ++ x3) x4) else (none))))
def spec_FormatInt.f (k : Nat) (a0 : Int) : Option (ByteArray) := if a0 = 0 then (some (⟨#[48]⟩ : ByteArray)) else (spec_FormatInt.l0 k a0 (⟨#[]⟩ : ByteArray) (decide (a0 < 0)))
set_option maxHeartbeats 8000000 in
set_option maxRecDepth 100000 in
theorem spec_FormatInt.calls (k : Nat) (a0 : Int) (r : ByteArray) (w : World) (h : spec_FormatInt.f k a0 = some r) :
  Calls Try.prog 29 #[.int .i64 a0] w fun e w' => e = .returned (.string r) ∧ Below w.heap.size w w' := by
 have HB:=zA (Below.refl w.heap.size w)
 have H : (if a0 = 0 then (some (⟨#[48]⟩ : ByteArray)) else (spec_FormatInt.l0 k a0 (⟨#[]⟩ : ByteArray) (decide (a0 < 0)))) = some r:=h
 clear h
 by_cases c2 : a0 = 0
 ·
  rw [if_pos c2] at H;have c2b0:=beq_iff_eq.mpr c2;have c2b1:=bne_eq_false_iff_eq.mpr c2;clear c2
  obtain rfl:=Option.some.inj H
  go_enter Try.func29,Try.ntmps29
  go_wp2
  go_ret
  exact ⟨zrr,zz HB⟩
 ·
  rw [if_neg c2] at H;have c2b0:=beq_eq_false_iff_ne.mpr c2;have c2b1:=bne_iff_ne.mpr c2
  have H':=zA H
  clear H
  go_enter Try.func29,Try.ntmps29
  go_wp2
  generalize (decide (a0 < 0)) = ng at H' ⊢
  go_loopg [0,3] k (fun kq v0 v3 w' => ∃ (x0_1 : Int) (x3_1 : ByteArray),v0 = .int .i64 x0_1 ∧ v3 = .string x3_1 ∧ Aside0 (spec_FormatInt.l0 kq x0_1 x3_1 ng = some r) ∧ Aside0 (kq ≤ k) ∧ Aside0 (Below w.heap.size w w'))
  case atStart => exact ⟨(a0),((⟨#[]⟩ : ByteArray)),za,za,H',⟨Nat.le_refl _⟩,⟨zz HB⟩⟩
  case round =>
   clear H';(try clear c2);(try clear c2b0);(try clear c2b1);(try clear p2);obtain ⟨x0_1,x3_1,rfl,rfl,HA,HK1,HB⟩:=hrel
   cases gk with
   | zero => exact absurd HA.out (by simp [spec_FormatInt.l0])
   | succ k1 =>
    have H:=HA.out;clear HA;simp only [spec_FormatInt.l0] at H
    by_cases c3 : x0_1 = 0
    ·
     rw [if_pos c3] at H;have c3b0:=beq_iff_eq.mpr c3;have c3b1:=bne_eq_false_iff_eq.mpr c3;clear c3
     by_cases c4 : ng = true
     ·
      rw [if_pos c4] at H
      have c4b0 : ng = true:=c4
      clear c4
      subst c4b0
      by_cases c5 : 1 + x3_1.size ≤ 9223372036854775807
      ·
       rw [if_pos c5] at H;have c5b0:=eq_true c5;have c5b1:=decide_eq_true c5
       try have c5b2 : (9223372036854775807 < 1 + x3_1.size) = False:=eq_false (Nat.not_lt.2 c5)
       obtain rfl:=Option.some.inj H
       go_wp2
       go_ret
       exact ⟨zrr,zz HB⟩
      ·
       rw [if_neg c5] at H
       exact absurd H (by simp)
     ·
      rw [if_neg c4] at H
      have c4b0 : ng = false:=by simpa using c4
      clear c4
      subst c4b0
      obtain rfl:=Option.some.inj H
      go_wp2
      go_ret
      exact ⟨zrr,zz HB⟩
    ·
     rw [if_neg c3] at H;have c3b0:=beq_eq_false_iff_ne.mpr c3;have c3b1:=bne_iff_ne.mpr c3
     by_cases c6 : (Int.tmod x0_1 10) < 0
     ·
      rw [if_pos c6] at H;have c6b0:=decide_eq_true c6;clear c6;obtain ⟨y704,hy704⟩ : ∃ y_ : List Int,y_ = (([(wrap64 (48 + (wrap64 (-(Int.tmod x0_1 10))))) % 256] : List Int)):=⟨_,rfl⟩
      replace H : (if (strOfNums y704).size + x3_1.size ≤ 9223372036854775807 then (spec_FormatInt.l0 k1 (wrap64 (Int.tdiv x0_1 10)) ((strOfNums y704) ++ x3_1) ng) else (none)) = some r:=by first|(rw [hy704];with_reducible exact H)|(have H2_:=(Option.bind_some _ _).symm.trans H;rw [hy704];with_reducible exact H2_)|(have H2_:=(Option.bind_some _ _).symm.trans H;with_reducible exact H2_)|with_reducible exact H|(rw [hy704];exact H)|exact H
      have Ny704:=zA hy704;clear hy704
      by_cases c7 : (strOfNums y704).size + x3_1.size ≤ 9223372036854775807
      ·
       rw [if_pos c7] at H;have c7b0:=eq_true c7;have c7b1:=decide_eq_true c7
       try have c7b2 : (9223372036854775807 < (strOfNums y704).size + x3_1.size) = False:=eq_false (Nat.not_lt.2 c7)
       have H':=zA H
       clear H
       go_wp2_with (first|((with_reducible refine gate_dst (N:=21) rfl ?_);refine Kd.R_lit (Kd.int .u8) _ 5 ?hg (N:=21) ?hd (xs:=([(wrap64 (48 + (wrap64 (-(Int.tmod x0_1 10))))) % 256] : List Int)) (inner:=[.int .u8 ((wrap64 (48 + (wrap64 (-(Int.tmod x0_1 10))))) % 256)]) (ok:=fun _ => True) (okp:=fun _ => True) ?hr ?hp (fun _ hk => hk) trivial (Below.refl _ _) (Nat.le_refl _) (by simp) ?_;(case hd => rfl);(case hg => rfl);(case hr => first|(go_simp;done)|(go_simp;rfl));(case hp => exact (Reps.one (show Kd.M (Kd.int .u8) _ _ _ ((wrap64 (48 + (wrap64 (-(Int.tmod x0_1 10))))) % 256) [.int .u8 ((wrap64 (48 + (wrap64 (-(Int.tmod x0_1 10))))) % 256)] from rfl) (Reps.none _ _)));intro v705 w8 ho9 hb hg_ hnew_;clear hg_ hnew_;(first|rw [← Ny704.out] at ho9|(simp only [Int.reduceToNat] at ho9;rw [← Ny704.out] at ho9));have HO706:=zA (zHb ho9 (zT (zz HB)));replace HB:=zA (zJb (zz HB) hb);clear hb ho9;have hcv10:=own_string (P:=Try.prog) Try.underlying26 Try.underlying5 Try.underlying9 (Kd.own_of_R HO706.out)))
       go_roundg k1
       case measure => have:=HK1.out;omega
       case rel => exact ⟨(wrap64 (Int.tdiv x0_1 10)),((strOfNums y704) ++ x3_1),za,za,H',⟨by have:=HK1.out;omega⟩,⟨zz HB⟩⟩
      ·
       rw [if_neg c7] at H
       exact absurd H (by simp)
     ·
      rw [if_neg c6] at H;have c6b0:=decide_eq_false c6;clear c6;obtain ⟨y707,hy707⟩ : ∃ y_ : List Int,y_ = (([(wrap64 (48 + (Int.tmod x0_1 10))) % 256] : List Int)):=⟨_,rfl⟩
      replace H : (if (strOfNums y707).size + x3_1.size ≤ 9223372036854775807 then (spec_FormatInt.l0 k1 (wrap64 (Int.tdiv x0_1 10)) ((strOfNums y707) ++ x3_1) ng) else (none)) = some r:=by first|(rw [hy707];with_reducible exact H)|(have H2_:=(Option.bind_some _ _).symm.trans H;rw [hy707];with_reducible exact H2_)|(have H2_:=(Option.bind_some _ _).symm.trans H;with_reducible exact H2_)|with_reducible exact H|(rw [hy707];exact H)|exact H
      have Ny707:=zA hy707;clear hy707
      by_cases c11 : (strOfNums y707).size + x3_1.size ≤ 9223372036854775807
      ·
       rw [if_pos c11] at H;have c11b0:=eq_true c11;have c11b1:=decide_eq_true c11
       try have c11b2 : (9223372036854775807 < (strOfNums y707).size + x3_1.size) = False:=eq_false (Nat.not_lt.2 c11)
       have H':=zA H
       clear H
       go_wp2_with (first|((with_reducible refine gate_dst (N:=21) rfl ?_);refine Kd.R_lit (Kd.int .u8) _ 5 ?hg (N:=21) ?hd (xs:=([(wrap64 (48 + (Int.tmod x0_1 10))) % 256] : List Int)) (inner:=[.int .u8 ((wrap64 (48 + (Int.tmod x0_1 10))) % 256)]) (ok:=fun _ => True) (okp:=fun _ => True) ?hr ?hp (fun _ hk => hk) trivial (Below.refl _ _) (Nat.le_refl _) (by simp) ?_;(case hd => rfl);(case hg => rfl);(case hr => first|(go_simp;done)|(go_simp;rfl));(case hp => exact (Reps.one (show Kd.M (Kd.int .u8) _ _ _ ((wrap64 (48 + (Int.tmod x0_1 10))) % 256) [.int .u8 ((wrap64 (48 + (Int.tmod x0_1 10))) % 256)] from rfl) (Reps.none _ _)));intro v708 w12 ho13 hb hg_ hnew_;clear hg_ hnew_;(first|rw [← Ny707.out] at ho13|(simp only [Int.reduceToNat] at ho13;rw [← Ny707.out] at ho13));have HO709:=zA (zHb ho13 (zT (zz HB)));replace HB:=zA (zJb (zz HB) hb);clear hb ho13;have hcv14:=own_string (P:=Try.prog) Try.underlying26 Try.underlying5 Try.underlying9 (Kd.own_of_R HO709.out)))
       go_roundg k1
       case measure => have:=HK1.out;omega
       case rel => exact ⟨(wrap64 (Int.tdiv x0_1 10)),((strOfNums y707) ++ x3_1),za,za,H',⟨by have:=HK1.out;omega⟩,⟨zz HB⟩⟩
      ·
       rw [if_neg c11] at H
       exact absurd H (by simp)

/-! ### spec_FormatTerm: function 118 -/
def spec_FormatTerm.f (k : Nat) (a0 : Int) : Option (ByteArray) := (spec_IsVar.f a0).bind fun t710 => (if t710 = true then ((spec_FormatInt.f k a0).bind fun t711 => (if 1 + t711.size ≤ 9223372036854775807 then (some ((⟨#[88]⟩ : ByteArray) ++ t711)) else (none))) else ((spec_ConstOf.f a0).bind fun t712 => (if t712 ≥ 0 then ((spec_ConstOf.f a0).bind fun t713 => ((spec_FormatInt.f k t713).bind fun t714 => (some t714))) else (some (⟨#[]⟩ : ByteArray)))))
set_option maxHeartbeats 8000000 in
set_option maxRecDepth 100000 in
theorem spec_FormatTerm.calls (k : Nat) (a0 : Int) (r : ByteArray) (w : World) (h : spec_FormatTerm.f k a0 = some r) :
  Calls Try.prog 118 #[.int .i64 a0] w fun e w' => e = .returned (.string r) ∧ Below w.heap.size w w' := by
 have HB:=zA (Below.refl w.heap.size w)
 have H : ((spec_IsVar.f a0).bind fun t710 => (if t710 = true then ((spec_FormatInt.f k a0).bind fun t711 => (if 1 + t711.size ≤ 9223372036854775807 then (some ((⟨#[88]⟩ : ByteArray) ++ t711)) else (none))) else ((spec_ConstOf.f a0).bind fun t712 => (if t712 ≥ 0 then ((spec_ConstOf.f a0).bind fun t713 => ((spec_FormatInt.f k t713).bind fun t714 => (some t714))) else (some (⟨#[]⟩ : ByteArray)))))) = some r:=h
 clear h;obtain ⟨t710,A20,H⟩:=zYb.mp H;(try dsimp only at H);have A2:=zA A20;clear A20
 by_cases c3 : t710 = true
 ·
  subst c3
  rw [if_pos rfl] at H;obtain ⟨t711,A40,H⟩:=zYb.mp H;(try dsimp only at H);have A4:=zA A40;clear A40
  by_cases c5 : 1 + t711.size ≤ 9223372036854775807
  ·
   rw [if_pos c5] at H;have c5b0:=eq_true c5;have c5b1:=decide_eq_true c5
   try have c5b2 : (9223372036854775807 < 1 + t711.size) = False:=eq_false (Nat.not_lt.2 c5)
   obtain rfl:=Option.some.inj H
   go_enter Try.func118,Try.ntmps118
   go_wp2_with (first|((with_reducible refine gate_callee (f:=117) rfl ?_);refine zgo (some 5) Try.func117 #[.int .i64 a0] ?_;(with_reducible refine (spec_IsVar.calls a0 true _ A2.out).mono ?_);rintro e w' ⟨rfl,⟨nd,rfl⟩⟩;refine ⟨_,rfl,?_⟩)|((with_reducible refine gate_callee (f:=29) rfl ?_);refine zgo (some 7) Try.func29 #[.int .i64 a0] ?_;(with_reducible refine (spec_FormatInt.calls k a0 t711 _ A4.out).mono ?_);rintro e w6 ⟨rfl,hb⟩;refine ⟨_,rfl,?_⟩;replace HB:=zA (zJb (zz HB) hb);(try clear hb);(try clear hb2);(try clear hk);(try clear hi)))
   go_ret
   exact ⟨zrr,zz HB⟩
  ·
   rw [if_neg c5] at H
   exact absurd H (by simp)
 ·
  replace c3:=Bool.eq_false_iff.mpr c3
  subst c3
  have H1 : ((spec_ConstOf.f a0).bind fun t712 => (if t712 ≥ 0 then ((spec_ConstOf.f a0).bind fun t713 => ((spec_FormatInt.f k t713).bind fun t714 => (some t714))) else (some (⟨#[]⟩ : ByteArray)))) = some r:=by rw [if_neg (show ¬ (false = true) by decide)] at H;exact H
  clear H;have H:=H1;clear H1;obtain ⟨t712,A70,H⟩:=zYb.mp H;(try dsimp only at H);have A7:=zA A70;clear A70
  by_cases c8 : t712 ≥ 0
  ·
   rw [if_pos c8] at H
   have c8b0 : decide (0 ≤ t712) = true:=decide_eq_true c8
   clear c8;obtain ⟨t713,A90,H⟩:=zYb.mp H;(try dsimp only at H);have A9:=zA A90;clear A90;obtain ⟨t714,A100,H⟩:=zYb.mp H;(try dsimp only at H);have A10:=zA A100;clear A100
   obtain rfl:=Option.some.inj H
   go_enter Try.func118,Try.ntmps118
   go_wp2_with (first|((with_reducible refine gate_callee (f:=117) rfl ?_);refine zgo (some 5) Try.func117 #[.int .i64 a0] ?_;(with_reducible refine (spec_IsVar.calls a0 false _ A2.out).mono ?_);rintro e w' ⟨rfl,⟨nd,rfl⟩⟩;refine ⟨_,rfl,?_⟩)|((with_reducible refine gate_callee (f:=146) rfl ?_);refine zgo (some 11) Try.func146 #[.int .i64 a0] ?_;(with_reducible refine (spec_ConstOf.calls a0 t712 _ A7.out).mono ?_);rintro e w' ⟨rfl,⟨nd,rfl⟩⟩;refine ⟨_,rfl,?_⟩)|((with_reducible refine gate_callee (f:=146) rfl ?_);refine zgo (some 14) Try.func146 #[.int .i64 a0] ?_;(with_reducible refine (spec_ConstOf.calls a0 t713 _ A9.out).mono ?_);rintro e w' ⟨rfl,⟨nd,rfl⟩⟩;refine ⟨_,rfl,?_⟩)|((with_reducible refine gate_callee (f:=29) rfl ?_);refine zgo (some 15) Try.func29 #[.int .i64 t713] ?_;(with_reducible refine (spec_FormatInt.calls k t713 t714 _ A10.out).mono ?_);rintro e w11 ⟨rfl,hb⟩;refine ⟨_,rfl,?_⟩;replace HB:=zA (zJb (zz HB) hb);(try clear hb);(try clear hb2);(try clear hk);(try clear hi)))
   go_ret
   exact ⟨zrr,zz HB⟩
  ·
   rw [if_neg c8] at H
   have c8b0 : decide (0 ≤ t712) = false:=decide_eq_false c8
   clear c8
   obtain rfl:=Option.some.inj H
   go_enter Try.func118,Try.ntmps118
   go_wp2_with (first|((with_reducible refine gate_callee (f:=117) rfl ?_);refine zgo (some 5) Try.func117 #[.int .i64 a0] ?_;(with_reducible refine (spec_IsVar.calls a0 false _ A2.out).mono ?_);rintro e w' ⟨rfl,⟨nd,rfl⟩⟩;refine ⟨_,rfl,?_⟩)|((with_reducible refine gate_callee (f:=146) rfl ?_);refine zgo (some 11) Try.func146 #[.int .i64 a0] ?_;(with_reducible refine (spec_ConstOf.calls a0 t712 _ A7.out).mono ?_);rintro e w' ⟨rfl,⟨nd,rfl⟩⟩;refine ⟨_,rfl,?_⟩))
   go_ret
   exact ⟨zrr,zz HB⟩

end Go.Proofs.Ytanbgnjfllpkgaa.QFnMappings
