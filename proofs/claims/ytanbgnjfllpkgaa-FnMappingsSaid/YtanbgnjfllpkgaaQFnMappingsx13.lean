/- Walks through the Go functions that FnMappings reaches: each call returns what the Lean function beside it says, within the bounds that the theorem names. -/
import Derived.Test.YtanbgnjfllpkgaaQFnMappingsx0
import Derived.Test.YtanbgnjfllpkgaaQFnMappingsx5
import Derived.Test.YtanbgnjfllpkgaaQFnMappingsx8
import Derived.Test.YtanbgnjfllpkgaaQFnMappingsx9
import Derived.Test.YtanbgnjfllpkgaaQFnMappingsx10
namespace Go.Proofs.Ytanbgnjfllpkgaa.QFnMappings
open Go.RowKit Go.Proofs.YtanbgnjfllpkgaaW.PrintWords Go.Proofs.YtanbgnjfllpkgaaW.PrintLast Go.Proofs.YtanbgnjfllpkgaaW.PrintMore
attribute [local go_sem] max2_int min2_int max_two min_two max_three min_three max_four min_four   -- for this text's walks alone
set_option linter.unusedVariables false
set_option linter.unusedSimpArgs false


/-! ### laws_sameInts: function 61 -/
def laws_sameInts.l0 : Nat → List Int → List Int → Int → Option (Bool)
 | 0, _, _, _ => none
 | k + 1, x0, x1, x5 => if x5 < (x0.length : Int) then (if 0 ≤ x5 then (if x5 < (x1.length : Int) then (if (rd x0 x5) = (rd x1 x5) then (laws_sameInts.l0 k x0 x1 (wrap64 (x5 + 1))) else (some false)) else (none)) else (none)) else (some true)
def laws_sameInts.f (k : Nat) (l0 : List Int) (l1 : List Int) : Option (Bool) := if (l0.length : Int) = (l1.length : Int) then (laws_sameInts.l0 k l0 l1 0) else (some false)
set_option maxHeartbeats 8000000 in
set_option maxRecDepth 100000 in
theorem laws_sameInts.calls (k : Nat) (A0 : Option Addr) (c0 : Nat) (l0 : List Int) (A1 : Option Addr) (c1 : Nat) (l1 : List Int) (r : Bool) (w : World) (hr0 : Kd.C (Kd.int .i64) w A0 l0.length l0) (hc0 : l0.length ≤ c0) (hr1 : Kd.C (Kd.int .i64) w A1 l1.length l1) (hc1 : l1.length ≤ c1) (h : laws_sameInts.f k l0 l1 = some r) :
  Calls Try.prog 61 #[.slice A0 l0.length c0, .slice A1 l1.length c1] w fun e w' => e = .returned (.bool r) ∧ Drawn0 w w' := by
 have HR0:=zA hr0;have HC0:=zA hc0;clear hr0 hc0;have HR1:=zA hr1;have HC1:=zA hc1;clear hr1 hc1
 have H : (if (l0.length : Int) = (l1.length : Int) then (laws_sameInts.l0 k l0 l1 0) else (some false)) = some r:=h
 clear h
 by_cases c3 : (l0.length : Int) = (l1.length : Int)
 ·
  rw [if_pos c3] at H;have c3b0:=beq_iff_eq.mpr c3;have c3b1:=bne_eq_false_iff_eq.mpr c3
  have c3b2 : (l0.length == l1.length) = true:=by first|simpa using c3|(simp at c3 ⊢;omega)
  clear c3
  have H':=zA H
  clear H
  go_enter Try.func61,Try.ntmps61
  go_wp2
  repeat (go_quiet (fail);try go_wp2)
  go_loopg [5] k (fun kq v5 w' => ∃ (x5_1 : Int),v5 = .int .i64 x5_1 ∧ Aside0 (laws_sameInts.l0 kq l0 l1 x5_1 = some r) ∧ Aside0 (kq ≤ k) ∧ Drawn0 w w')
  case atStart => exact ⟨(0),za,H',⟨Nat.le_refl _⟩,zdr⟩
  case round =>
   clear H';(try clear c1);(try clear p2);(try clear c3);(try clear c3b0);(try clear c3b1);(try clear c3b2);obtain ⟨x5_1,rfl,HA,HK1,⟨m1,rfl⟩⟩:=hrel
   cases gk with
   | zero => exact absurd HA.out (by simp [laws_sameInts.l0])
   | succ k1 =>
    have H:=HA.out;clear HA;simp only [laws_sameInts.l0] at H
    by_cases c4 : x5_1 < (l0.length : Int)
    ·
     rw [if_pos c4] at H;have c4b0:=decide_eq_true c4;clear c4
     by_cases c5 : 0 ≤ x5_1
     ·
      rw [if_pos c5] at H;have c5b0:=decide_eq_true c5;clear c5
      by_cases c6 : x5_1 < (l1.length : Int)
      ·
       rw [if_pos c6] at H;have c6b0:=decide_eq_true c6;clear c6
       by_cases c7 : (rd l0 x5_1) = (rd l1 x5_1)
       ·
        rw [if_pos c7] at H;have c7b0:=beq_iff_eq.mpr c7;have c7b1:=bne_eq_false_iff_eq.mpr c7;clear c7
        have H':=zA H
        clear H;have p579 : 0 ≤ (x5_1 : Int):=zXb ze;have q579 : x5_1 < (l0.length : Int):=zXb ze;obtain ⟨ad579,e579,hx579_0⟩:=Kd.at_int HR0.out x5_1 p579 q579
        cases e579
        replace p579:=eq_true p579;replace q579:=eq_true q579;have p580 : 0 ≤ (x5_1 : Int):=zXb ze;have q580 : x5_1 < (l1.length : Int):=zXb ze;obtain ⟨ad580,e580,hx580_0⟩:=Kd.at_int HR1.out x5_1 p580 q580
        cases e580
        replace p580:=eq_true p580;replace q580:=eq_true q580
        go_wp2
        repeat (go_quiet (fail);try go_wp2)
        go_roundg k1
        case measure => have:=HK1.out;omega
        case rel => exact ⟨(wrap64 (x5_1 + 1)),za,H',⟨by have:=HK1.out;omega⟩,zdr⟩
       ·
        rw [if_neg c7] at H;have c7b0:=beq_eq_false_iff_ne.mpr c7;have c7b1:=bne_iff_ne.mpr c7
        obtain rfl:=Option.some.inj H
        have p579 : 0 ≤ (x5_1 : Int):=zXb ze;have q579 : x5_1 < (l0.length : Int):=zXb ze;obtain ⟨ad579,e579,hx579_0⟩:=Kd.at_int HR0.out x5_1 p579 q579
        cases e579
        replace p579:=eq_true p579;replace q579:=eq_true q579;have p580 : 0 ≤ (x5_1 : Int):=zXb ze;have q580 : x5_1 < (l1.length : Int):=zXb ze;obtain ⟨ad580,e580,hx580_0⟩:=Kd.at_int HR1.out x5_1 p580 q580
        cases e580
        replace p580:=eq_true p580;replace q580:=eq_true q580
        go_wp2
        repeat (go_quiet (fail);try go_wp2)
        go_ret
        exact ⟨za,zdr⟩
      ·
       rw [if_neg c6] at H
       exact absurd H (by simp)
     ·
      rw [if_neg c5] at H
      exact absurd H (by simp)
    ·
     rw [if_neg c4] at H;have c4b0:=decide_eq_false c4;clear c4
     obtain rfl:=Option.some.inj H
     go_wp2
     repeat (go_quiet (fail);try go_wp2)
     go_ret
     exact ⟨za,zdr⟩
 ·
  rw [if_neg c3] at H;have c3b0:=beq_eq_false_iff_ne.mpr c3;have c3b1:=bne_iff_ne.mpr c3
  have c3b2 : (l0.length == l1.length) = false:=by first|simpa using c3|(simp at c3 ⊢;omega)
  obtain rfl:=Option.some.inj H
  go_enter Try.func61,Try.ntmps61
  go_wp2
  repeat (go_quiet (fail);try go_wp2)
  go_ret
  exact ⟨za,zdr⟩

/-! ### impl_ComposeMappings: function 62 -/
def impl_ComposeMappings.l0 : Nat → List Int → List Int → List Int → Int → Int → Option (List Int)
 | 0, _, _, _, _, _ => none
 | k + 1, x1, x5, x9, x10, x11 => if x11 < x10 then (if 0 ≤ x11 then (if x11 < (x9.length : Int) then (if (rd x9 x11) = (-1000) then (if x5.length < 17592186044416 then (impl_ComposeMappings.l0 k x1 (x5 ++ [rd x9 x11]) x9 x10 (wrap64 (x11 + 1))) else (none)) else ((impl_ApplyMapping.f x1 (rd x9 x11)).bind fun t588 => (if x5.length < 17592186044416 then (impl_ComposeMappings.l0 k x1 (x5 ++ [t588]) x9 x10 (wrap64 (x11 + 1))) else (none)))) else (none)) else (none)) else (some x5)
def impl_ComposeMappings.f (k : Nat) (l0 : List Int) (l1 : List Int) : Option (List Int) := impl_ComposeMappings.l0 k l1 (([] : List Int)) l0 (l0.length : Int) 0
set_option maxHeartbeats 8000000 in
set_option maxRecDepth 100000 in
theorem impl_ComposeMappings.calls (k : Nat) (A0 : Option Addr) (c0 : Nat) (l0 : List Int) (A1 : Option Addr) (c1 : Nat) (l1 : List Int) (r : List Int) (w : World) (hr0 : Kd.C (Kd.int .i64) w A0 l0.length l0) (hc0 : l0.length ≤ c0) (hr1 : Kd.C (Kd.int .i64) w A1 l1.length l1) (hc1 : l1.length ≤ c1) (h : impl_ComposeMappings.f k l0 l1 = some r) :
  Calls Try.prog 62 #[.slice A0 l0.length c0, .slice A1 l1.length c1] w fun e w' => ∃ v0_ : Value, e = .returned (v0_) ∧ Kd.R (Kd.int .i64) 3 w' w.heap.size (fun _ => True) v0_ r ∧ Below w.heap.size w w' := by
 have HR0:=zA hr0;have HC0:=zA hc0;clear hr0 hc0;have HR1:=zA hr1;have HC1:=zA hc1;clear hr1 hc1;have HB:=zA (Below.refl w.heap.size w)
 have H : (impl_ComposeMappings.l0 k l1 (([] : List Int)) l0 (l0.length : Int) 0) = some r:=h
 clear h;obtain ⟨y581,hy581⟩ : ∃ y_ : List Int,y_ = (([] : List Int)):=⟨_,rfl⟩
 replace H : (impl_ComposeMappings.l0 k l1 y581 l0 (l0.length : Int) 0) = some r:=by first|(rw [hy581];with_reducible exact H)|(have H2_:=(Option.bind_some _ _).symm.trans H;rw [hy581];with_reducible exact H2_)|(have H2_:=(Option.bind_some _ _).symm.trans H;with_reducible exact H2_)|with_reducible exact H|(rw [hy581];exact H)|exact H
 have Ny581:=zA hy581;clear hy581
 have H':=zA H
 clear H
 go_enter Try.func62,Try.ntmps62
 go_wp2_with (first|((with_reducible refine gate_dst (N:=8) rfl ?_);refine Kd.R_lit (Kd.int .i64) _ 3 ?hg (N:=8) ?hd (xs:=([] : List Int)) (inner:=[]) (ok:=fun _ => True) (okp:=fun _ => True) ?hr ?hp (fun _ hk => hk) trivial (Below.refl _ _) (Nat.le_refl _) (by simp) ?_;(case hd => rfl);(case hg => rfl);(case hr => first|(go_simp;done)|(go_simp;rfl));(case hp => exact (Reps.none _ _));intro v582 w3 ho4 hb hg_ hnew_;clear hg_ hnew_;(first|rw [← Ny581.out] at ho4|(simp only [Int.reduceToNat] at ho4;rw [← Ny581.out] at ho4));have HO583:=zA (zHb ho4 (zT (zz HB)));replace HB:=zA (zJb (zz HB) hb);clear hb ho4))
 go_loopg [5,11] k (fun kq v5 v11 w' => ∃ (x5_1 : List Int) (x11_1 : Int),v11 = .int .i64 x11_1 ∧ Aside0 (impl_ComposeMappings.l0 kq l1 x5_1 l0 (l0.length : Int) x11_1 = some r) ∧ Aside0 (kq ≤ k) ∧ Aside0 (Kd.R (Kd.int .i64) 3 w' w.heap.size (fun _ => True) v5 x5_1) ∧ Aside0 (Below w.heap.size w w'))
 case atStart => exact ⟨(y581),(0),za,H',⟨Nat.le_refl _⟩,⟨zq HO583⟩,⟨zz HB⟩⟩
 case round =>
  clear H';(try clear c1);(try clear p2);obtain ⟨x5_1,x11_1,rfl,HA,HK1,HO_5,HB⟩:=hrel
  cases gk with
  | zero => exact absurd HA.out (by simp [impl_ComposeMappings.l0])
  | succ k1 =>
   have H:=HA.out;clear HA;simp only [impl_ComposeMappings.l0] at H
   by_cases c5 : x11_1 < (l0.length : Int)
   ·
    rw [if_pos c5] at H;have c5b0:=decide_eq_true c5;clear c5
    by_cases c6 : 0 ≤ x11_1
    ·
     rw [if_pos c6] at H;have c6b0:=decide_eq_true c6;clear c6
     by_cases c7 : x11_1 < (l0.length : Int)
     ·
      rw [if_pos c7] at H;have c7b0:=decide_eq_true c7;clear c7
      by_cases c8 : (rd l0 x11_1) = (-1000)
      ·
       rw [if_pos c8] at H;have c8b0:=beq_iff_eq.mpr c8;have c8b1:=bne_eq_false_iff_eq.mpr c8;clear c8
       by_cases c9 : x5_1.length < 17592186044416
       ·
        rw [if_pos c9] at H;have LMc9:=zA c9;clear c9;obtain ⟨y585,hy585⟩ : ∃ y_ : List Int,y_ = (x5_1 ++ [rd l0 x11_1]):=⟨_,rfl⟩
        replace H : (impl_ComposeMappings.l0 k1 l1 y585 l0 (l0.length : Int) (wrap64 (x11_1 + 1))) = some r:=by first|(rw [hy585];with_reducible exact H)|(have H2_:=(Option.bind_some _ _).symm.trans H;rw [hy585];with_reducible exact H2_)|(have H2_:=(Option.bind_some _ _).symm.trans H;with_reducible exact H2_)|with_reducible exact H|(rw [hy585];exact H)|exact H
        have Ny585:=zA hy585;clear hy585
        have H':=zA H
        clear H;have p584 : 0 ≤ (x11_1 : Int):=zXb ze;have q584 : x11_1 < (l0.length : Int):=zXb ze;obtain ⟨ad584,e584,hx584_0⟩:=Kd.at_int HR0.out x11_1 p584 q584
        cases e584
        replace hx584_0:=zhx HB hx584_0;replace p584:=eq_true p584;replace q584:=eq_true q584
        go_wp2_with (first|((with_reducible refine gate_builtin (b:=.append) (xs:=#[.tmp 20,.tmp 22]) rfl ?_);at_builtin;refine Kd.R_append (Kd.int .i64) (w0:=w) w.heap.size rfl (.tmp 20) (.tmp 22) 38 3 (.int .i64 0) 8 rfl Try.underlying38 info3 rfl (by decide) (by omega) u5 x5_1 (rd l0 x11_1) [.int .i64 (rd l0 x11_1)] (fun _ => True) (fun _ => False) rfl rfl ?aP (fun _ hk => hk.elim) ?aF ?aO ?aB ?aS ?aL ?_;(case aP => exact rfl);(case aB => exact (zz HB));(case aF => exact (fun _ _ => trivial));(case aO => exact (zq HO_5));(case aS => exact (zT (zz HB)));(case aL => have:=LMc9.out;omega);intro v586 w10 ho hb hg hat;rw [← Ny585.out] at ho;replace HB:=zA (hb);have HO587:=zA (ho);clear HO_5;clear ho hb hg hat))
        go_roundg k1
        case measure => have:=HK1.out;omega
        case rel => exact ⟨(y585),(wrap64 (x11_1 + 1)),za,H',⟨by have:=HK1.out;omega⟩,⟨zq HO587⟩,⟨zz HB⟩⟩
       ·
        rw [if_neg c9] at H
        exact absurd H (by simp)
      ·
       rw [if_neg c8] at H;have c8b0:=beq_eq_false_iff_ne.mpr c8;have c8b1:=bne_iff_ne.mpr c8;obtain ⟨t588,A110,H⟩:=zYb.mp H;(try dsimp only at H);have A11:=zA A110;clear A110
       by_cases c12 : x5_1.length < 17592186044416
       ·
        rw [if_pos c12] at H;have LMc12:=zA c12;clear c12;obtain ⟨y589,hy589⟩ : ∃ y_ : List Int,y_ = (x5_1 ++ [t588]):=⟨_,rfl⟩
        replace H : (impl_ComposeMappings.l0 k1 l1 y589 l0 (l0.length : Int) (wrap64 (x11_1 + 1))) = some r:=by first|(rw [hy589];with_reducible exact H)|(have H2_:=(Option.bind_some _ _).symm.trans H;rw [hy589];with_reducible exact H2_)|(have H2_:=(Option.bind_some _ _).symm.trans H;with_reducible exact H2_)|with_reducible exact H|(rw [hy589];exact H)|exact H
        have Ny589:=zA hy589;clear hy589
        have H':=zA H
        clear H;have p584 : 0 ≤ (x11_1 : Int):=zXb ze;have q584 : x11_1 < (l0.length : Int):=zXb ze;obtain ⟨ad584,e584,hx584_0⟩:=Kd.at_int HR0.out x11_1 p584 q584
        cases e584
        replace hx584_0:=zhx HB hx584_0;replace p584:=eq_true p584;replace q584:=eq_true q584
        go_wp2_with (first|((with_reducible refine gate_callee (f:=67) rfl ?_);refine zgo (some 19) Try.func67 #[.slice A1 l1.length c1,.int .i64 (rd l0 x11_1)] ?_;(with_reducible refine (impl_ApplyMapping.calls _ _ l1 (rd l0 x11_1) t588 _ ?side1 ?side2 A11.out).mono ?_);(case side1 => exact zsd HR1 HB);(case side2 => exact HC1.out);rintro e w' ⟨rfl,⟨nd,rfl⟩⟩;refine ⟨_,rfl,?_⟩)|((with_reducible refine gate_builtin (b:=.append) (xs:=#[.tmp 20,.tmp 22]) rfl ?_);at_builtin;refine Kd.R_append (Kd.int .i64) (w0:=w) w.heap.size rfl (.tmp 20) (.tmp 22) 38 3 (.int .i64 0) 8 rfl Try.underlying38 info3 rfl (by decide) (by omega) u5 x5_1 t588 [.int .i64 t588] (fun _ => True) (fun _ => False) rfl rfl ?aP (fun _ hk => hk.elim) ?aF ?aO ?aB ?aS ?aL ?_;(case aP => exact rfl);(case aB => exact (zz HB));(case aF => exact (fun _ _ => trivial));(case aO => exact (zq HO_5));(case aS => exact (zT (zz HB)));(case aL => have:=LMc12.out;omega);intro v590 w13 ho hb hg hat;rw [← Ny589.out] at ho;replace HB:=zA (hb);have HO591:=zA (ho);clear HO_5;clear ho hb hg hat))
        go_roundg k1
        case measure => have:=HK1.out;omega
        case rel => exact ⟨(y589),(wrap64 (x11_1 + 1)),za,H',⟨by have:=HK1.out;omega⟩,⟨zq HO591⟩,⟨zz HB⟩⟩
       ·
        rw [if_neg c12] at H
        exact absurd H (by simp)
     ·
      rw [if_neg c7] at H
      exact absurd H (by simp)
    ·
     rw [if_neg c6] at H
     exact absurd H (by simp)
   ·
    rw [if_neg c5] at H;have c5b0:=decide_eq_false c5;clear c5
    obtain rfl:=Option.some.inj H
    go_wp2
    go_ret
    exact ⟨_,zrr,zq HO_5,zz HB⟩

-- NOT PRINTED: function 63 (spec_DrawIsMapping)

/-! ### spec_l7Mapping: function 111 -/
def spec_l7Mapping.l0 : Nat → List Int → Int → List Int → Int → Int → Option (List Int × Int × Int)
 | 0, _, _, _, _, _ => none
 | k + 1, x3, x4, x1000, x1001, x1002 => if x4 > 0 then ((spec_l1Below.f x1000 x1001 x1002 20).bind fun bt605 => ((spec_l2Term.f x1000 bt605.2.1 bt605.2.2).bind fun bt608 => (if 0 ≤ bt605.1 then (if bt605.1 < (x3.length : Int) then (spec_l7Mapping.l0 k (x3.set (bt605.1 : Int).toNat bt608.1) (wrap64 (x4 - 1)) x1000 bt608.2.1 bt608.2.2) else (none)) else (none)))) else (some (x3, x1001, x1002))
def spec_l7Mapping.f (k : Nat) (s0_0 : List Int) (s0_1 : Int) (s0_2 : Int) : Option (List Int × Int × Int) := (spec_l7Empty.f k).bind fun t599 => ((spec_l1Below.f s0_0 s0_1 s0_2 5).bind fun bt602 => (spec_l7Mapping.l0 k t599 bt602.1 s0_0 bt602.2.1 bt602.2.2))
set_option maxHeartbeats 8000000 in
set_option maxRecDepth 100000 in
theorem spec_l7Mapping.calls (k : Nat) (g : Nat) (s0_0 : List Int) (s0_1 : Int) (s0_2 : Int) (r1 : List Int) (r2 : Int) (r3 : Int) (w0 w : World) (hI : IsS121 w0 w g s0_0 s0_1 s0_2) (hB : Below w0.heap.size w0 w) (h : spec_l7Mapping.f k s0_0 s0_1 s0_2 = some (r1, r2, r3)) :
  Calls Try.prog 111 #[.pointer (some ⟨g, 0, none⟩)] w fun e w' => ∃ v0_ : Value, e = .returned (v0_) ∧ Kd.R (Kd.int .i64) 3 w' w.heap.size (fun _ => True) v0_ r1 ∧ IsS121 w0 w' g s0_0 r2 r3 ∧ Below w0.heap.size w0 w' ∧ KeepBut w w' g none := by
 have HI0:=zA hI;have HK:=zA (KeepBut.refl w g none);have HL:=zA hB.size;clear hI;have HW0:=zA hB.size;have HB:=zA hB;clear hB
 have H : ((spec_l7Empty.f k).bind fun t599 => ((spec_l1Below.f s0_0 s0_1 s0_2 5).bind fun bt602 => (spec_l7Mapping.l0 k t599 bt602.1 s0_0 bt602.2.1 bt602.2.2))) = some (r1,r2,r3):=h
 clear h;obtain ⟨t599,A20,H⟩:=zYb.mp H;(try dsimp only at H);have A2:=zA A20;clear A20;replace H:=zYb.mp H;obtain ⟨⟨t602,t603,t604⟩,A30,H⟩:=H;(try dsimp only at H);have A3:=zA A30;clear A30
 have H':=zA H
 clear H
 go_enter Try.func111,Try.ntmps111
 go_wp2_with (first|((with_reducible refine gate_callee (f:=108) rfl ?_);refine zgo (some 5) Try.func108 #[] ?_;(with_reducible refine (spec_l7Empty.calls k  t599 _ A2.out).mono ?_);rintro e w4 ⟨v600,rfl,ho0,hb⟩;refine ⟨_,rfl,?_⟩;have HO601:=zA (zHb ho0 (keep_size (w:=w) (g:=g) (row:=none) (zks HK)));replace HK:=zA (KeepBut.trans (zks HK) (KeepBut.of_below hb g none) (.inl rfl));replace HB:=zA (zJb (zbs HB HI0) hb);replace HI0:=zA (IsS121.below (zis HI0) hb);(try clear hb);(try clear hb2);(try clear hk);(try clear hi);(try clear ho0))|((with_reducible refine gate_callee (f:=79) rfl ?_);refine zgo (some 7) Try.func79 #[.pointer (some ⟨g,0,none⟩),.int .i64 5] ?_;(with_reducible refine (spec_l1Below.calls g s0_0 s0_1 s0_2 5 t602 t603 t604 w0 _ ?side1 ?side2 A3.out).mono ?_);(case side1 => exact zis HI0);(case side2 => exact zbs HB HI0);rintro e w5 ⟨rfl,hi,hb,hk⟩;refine ⟨_,rfl,?_⟩;replace HO601:=zA (zGb (Kd.R_keep (IsS121.apart (show IsS121 w0 _ g s0_0 s0_1 s0_2 from zis HI0) (zq HO601) (by decide)) hk (fun _ h => h.2)) (fun _ h => h.1));replace HK:=zA (KeepBut.trans (zks HK) hk (.inl rfl));replace HB:=zA (hb);replace HI0:=zA (hi);(try clear hb);(try clear hb2);(try clear hk);(try clear hi)))
 go_loopg [4] k (fun kq v4 w' => ∃ (x3_1 : List Int) (x4_1 : Int) (x1001_1 : Int) (x1002_1 : Int),v4 = .int .i64 x4_1 ∧ Aside0 (spec_l7Mapping.l0 kq x3_1 x4_1 s0_0 x1001_1 x1002_1 = some (r1,r2,r3)) ∧ Aside0 (kq ≤ k) ∧ Aside0 (Kd.R (Kd.int .i64) 3 w' w.heap.size (fun _ => True) v600 x3_1) ∧ Aside0 (IsS121 w0 w' g s0_0 x1001_1 x1002_1) ∧ Aside0 (KeepBut w w' g none) ∧ Aside0 (Below w0.heap.size w0 w'))
 case atStart => exact ⟨(t599),(t602),(t603),(t604),za,H',⟨Nat.le_refl _⟩,⟨zq HO601⟩,⟨zis HI0⟩,⟨zks HK⟩,⟨zbs HB HI0⟩⟩
 case round =>
  clear H';(try clear c1);(try clear p2);obtain ⟨x3_1,x4_1,x1001_1,x1002_1,rfl,HA,HK1,HO_3,HI0,HK,HB⟩:=hrel
  cases gk with
  | zero => exact absurd HA.out (by simp [spec_l7Mapping.l0])
  | succ k1 =>
   have H:=HA.out;clear HA;simp only [spec_l7Mapping.l0] at H
   by_cases c6 : x4_1 > 0
   ·
    rw [if_pos c6] at H
    have c6b0 : decide (0 < x4_1) = true:=decide_eq_true c6
    clear c6;replace H:=zYb.mp H;obtain ⟨⟨t605,t606,t607⟩,A70,H⟩:=H;(try dsimp only at H);have A7:=zA A70;clear A70;replace H:=zYb.mp H;obtain ⟨⟨t608,t609,t610⟩,A80,H⟩:=H;(try dsimp only at H);have A8:=zA A80;clear A80
    by_cases c9 : 0 ≤ t605
    ·
     rw [if_pos c9] at H;have c9b0:=decide_eq_true c9;clear c9
     by_cases c10 : t605 < (x3_1.length : Int)
     ·
      rw [if_pos c10] at H;have c10b0:=decide_eq_true c10;clear c10;obtain ⟨y611,hy611⟩ : ∃ y_ : List Int,y_ = (x3_1.set (t605 : Int).toNat t608):=⟨_,rfl⟩
      replace H : (spec_l7Mapping.l0 k1 y611 (wrap64 (x4_1 - 1)) s0_0 t609 t610) = some (r1,r2,r3):=by first|(rw [hy611];with_reducible exact H)|(have H2_:=(Option.bind_some _ _).symm.trans H;rw [hy611];with_reducible exact H2_)|(have H2_:=(Option.bind_some _ _).symm.trans H;with_reducible exact H2_)|with_reducible exact H|(rw [hy611];exact H)|exact H
      have Ny611:=zA hy611;clear hy611
      have H':=zA H
      clear H
      go_wp2_with (first|((with_reducible refine gate_callee (f:=79) rfl ?_);refine zgo (some 14) Try.func79 #[.pointer (some ⟨g,0,none⟩),.int .i64 20] ?_;(with_reducible refine (spec_l1Below.calls g s0_0 x1001_1 x1002_1 20 t605 t606 t607 w0 _ ?side1 ?side2 A7.out).mono ?_);(case side1 => exact zis HI0);(case side2 => exact zbs HB HI0);rintro e w12 ⟨rfl,hi,hb,hk⟩;refine ⟨_,rfl,?_⟩;replace HO_3:=zA (zGb (Kd.R_keep (IsS121.apart (show IsS121 w0 _ g s0_0 x1001_1 x1002_1 from zis HI0) (zq HO_3) (by decide)) hk (fun _ h => h.2)) (fun _ h => h.1));replace HK:=zA (KeepBut.trans (zks HK) hk (.inl rfl));replace HB:=zA (hb);replace HI0:=zA (hi);(try clear hb);(try clear hb2);(try clear hk);(try clear hi))|((with_reducible refine gate_callee (f:=144) rfl ?_);refine zgo (some 16) Try.func144 #[.pointer (some ⟨g,0,none⟩)] ?_;(with_reducible refine (spec_l2Term.calls g s0_0 t606 t607 t608 t609 t610 w0 _ ?side1 ?side2 A8.out).mono ?_);(case side1 => exact zis HI0);(case side2 => exact zbs HB HI0);rintro e w13 ⟨rfl,hi,hb,hk⟩;refine ⟨_,rfl,?_⟩;replace HO_3:=zA (zGb (Kd.R_keep (IsS121.apart (show IsS121 w0 _ g s0_0 t606 t607 from zis HI0) (zq HO_3) (by decide)) hk (fun _ h => h.2)) (fun _ h => h.1));replace HK:=zA (KeepBut.trans (zks HK) hk (.inl rfl));replace HB:=zA (hb);replace HI0:=zA (hi);(try clear hb);(try clear hb2);(try clear hk);(try clear hi);have p11 : 0 ≤ (t605 : Int):=zXb ze;have q11 : (t605 : Int) < ((x3_1.length : Int) : Int):=zXb ze;obtain ⟨go11,co11,eo11,gb11,gl11,cl11,HG11⟩:=Kd.R_form HO_3.out (by omega);(first|cases eo11|(injection eo11 with ea_ en_ ec_;(first|subst ea_|(injection ea_ with ea_;subst ea_));subst ec_;clear en_));have GB11:=zA gb11;have GG11:=zA HG11;clear gb11 gl11 HG11;obtain ⟨hx11_0,hf11_0⟩:=Kd.R_celln 0 HO_3.out (t605 : Int) p11 q11;replace p11:=eq_true p11;replace q11:=eq_true q11;obtain ⟨hy14_,hz14_⟩:=Kd.R_celln 0 HO_3.out (t605 : Int) (zXb ze) (zXb ze);have HP14:=Kd.R_putg HO_3.out (t605 : Int) t608)|((with_reducible refine gate_store (t:=3) (p:=17) rfl ?_);refine store_event (t:=3) (p:=17) (v:=?vo_w15) (w1:=(w13.setCell ⟨go11,(t605 : Int).toNat,none⟩ (.int .i64 t608))) ?hg ?ho ?hn ?hr ?_;(case ho => rfl);(case hg => rfl);(case hn => rfl);(case hr => first|(go_simp;done)|(go_simp;rfl));intro w15 hw;have hg : w13.grownBy w15 (some go11):=(by rw [hw];exact HP14.2);have hp_ : Kd.R (Kd.int .i64) 3 w15 w.heap.size (fun _ => True) (.slice (some ⟨go11,0,none⟩) x3_1.length co11) y611:=(by rw [hw,Ny611.out];exact HP14.1);clear HP14;replace HI0:=zA (IsS121.grown (zis HI0) hg (IsS121.own_ne HI0.out HO_3.out (by decide)));replace HB:=zA ((by rw [hw];exact zB (HB.out) (Nat.le_trans HL.out GB11.out) : Below w0.heap.size w0 w15));replace HK:=zA (KeepBut.trans (zks HK) (KeepBut.of_grown hg g) (Kd.R_base2 HO_3.out));replace HO_3:=zA (hp_);clear hg hw hp_))
      go_roundg k1
      case measure => have:=HK1.out;omega
      case rel => exact ⟨(y611),(wrap64 (x4_1 - 1)),(t609),(t610),za,H',⟨by have:=HK1.out;omega⟩,⟨zq HO_3⟩,⟨zis HI0⟩,⟨zks HK⟩,⟨zbs HB HI0⟩⟩
     ·
      rw [if_neg c10] at H
      exact absurd H (by simp)
    ·
     rw [if_neg c9] at H
     exact absurd H (by simp)
   ·
    rw [if_neg c6] at H
    have c6b0 : decide (0 < x4_1) = false:=decide_eq_false c6
    clear c6;simp only [Option.some.injEq,Prod.mk.injEq] at H;obtain ⟨rfl,rfl,rfl⟩:=H
    go_wp2
    go_ret
    exact ⟨_,zrr,zq HO_3,zis HI0,zbs HB HI0,zks HK⟩

/-! ### spec_DrawApplyMapping: function 64 -/
def spec_DrawApplyMapping.f (k : Nat) (l0 : List Int) : Option (List Int × Int) := (spec_l1New.f k l0).bind fun bt612 => ((spec_l7Mapping.f k bt612.1 bt612.2.1 bt612.2.2).bind fun bt616 => ((spec_l2Any.f bt612.1 bt616.2.1 bt616.2.2).bind fun bt621 => (some (bt616.1, bt621.1))))
set_option maxHeartbeats 8000000 in
set_option maxRecDepth 100000 in
theorem spec_DrawApplyMapping.calls (k : Nat) (A0 : Option Addr) (c0 : Nat) (l0 : List Int) (r1 : List Int) (r2 : Int) (w : World) (hr0 : Kd.C (Kd.int .u8) w A0 l0.length l0) (hc0 : l0.length ≤ c0) (h : spec_DrawApplyMapping.f k l0 = some (r1, r2)) :
  Calls Try.prog 64 #[.slice A0 l0.length c0] w fun e w' => ∃ v0_ : Value, e = .returned (.tuple #[v0_, .int .i64 r2]) ∧ Kd.R (Kd.int .i64) 3 w' w.heap.size (fun _ => True) v0_ r1 ∧ Below w.heap.size w w' := by
 have HR0:=zA hr0;have HC0:=zA hc0;clear hr0 hc0;have HB:=zA (Below.refl w.heap.size w)
 have H : ((spec_l1New.f k l0).bind fun bt612 => ((spec_l7Mapping.f k bt612.1 bt612.2.1 bt612.2.2).bind fun bt616 => ((spec_l2Any.f bt612.1 bt616.2.1 bt616.2.2).bind fun bt621 => (some (bt616.1,bt621.1))))) = some (r1,r2):=h
 clear h;replace H:=zYb.mp H;obtain ⟨⟨t612,t613,t614⟩,A20,H⟩:=H;(try dsimp only at H);have A2:=zA A20;clear A20;replace H:=zYb.mp H;obtain ⟨⟨t616,t619,t620⟩,A30,H⟩:=H;(try dsimp only at H);have A3:=zA A30;clear A30;replace H:=zYb.mp H;obtain ⟨⟨t621,t622,t623⟩,A40,H⟩:=H;(try dsimp only at H);have A4:=zA A40;clear A40;simp only [Option.some.injEq,Prod.mk.injEq] at H;obtain ⟨rfl,rfl⟩:=H
 go_enter Try.func64,Try.ntmps64
 go_wp2_with (first|((with_reducible refine gate_callee (f:=75) rfl ?_);refine zgo (some 7) Try.func75 #[.slice A0 l0.length c0] ?_;(with_reducible refine (spec_l1New.calls k _ _ l0 t612 t613 t614 w _ ?side1 ?side2 ?side3 A2.out).mono ?_);(case side1 => repeat (first|(with_reducible first|exact HB.out|apply zK|apply zC|apply zJ)|exact HB.out));(case side2 => exact HR0.out);(case side3 => exact HC0.out);rintro e w5 ⟨g615,rfl,hi,hb,hb2⟩;refine ⟨_,rfl,?_⟩;replace HB:=zA (hb);have HI615:=zA (hi);(try clear hb);(try clear hb2);(try clear hk);(try clear hi))|((with_reducible refine gate_callee (f:=111) rfl ?_);refine zgo (some 9) Try.func111 #[.pointer (some ⟨g615,0,none⟩)] ?_;(with_reducible refine (spec_l7Mapping.calls k g615 t612 t613 t614 t616 t619 t620 w _ ?side1 ?side2 A3.out).mono ?_);(case side1 => exact zis HI615);(case side2 => exact zbs HB HI615);rintro e w6 ⟨v617,rfl,ho0,hi,hb,hk⟩;refine ⟨_,rfl,?_⟩;have HO618:=zA (zHb ho0 (zT (zbs HB HI615)));replace HB:=zA (hb);replace HI615:=zA (hi);(try clear hb);(try clear hb2);(try clear hk);(try clear hi);(try clear ho0))|((with_reducible refine gate_callee (f:=110) rfl ?_);refine zgo (some 12) Try.func110 #[.pointer (some ⟨g615,0,none⟩)] ?_;(with_reducible refine (spec_l2Any.calls g615 t612 t619 t620 t621 t622 t623 w _ ?side1 ?side2 A4.out).mono ?_);(case side1 => exact zis HI615);(case side2 => exact zbs HB HI615);rintro e w7 ⟨rfl,hi,hb,hk⟩;refine ⟨_,rfl,?_⟩;replace HO618:=zA (zGb (Kd.R_keep (IsS121.apart (show IsS121 w _ g615 t612 t619 t620 from zis HI615) (zq HO618) (by decide)) hk (fun _ h => h.2)) (fun _ h => h.1));replace HB:=zA (hb);replace HI615:=zA (hi);(try clear hb);(try clear hb2);(try clear hk);(try clear hi)))
 go_ret2
 exact ⟨_,zrr,zq HO618,zbs HB HI615⟩

/-! ### spec_DrawComposeMappings: function 65 -/
def spec_DrawComposeMappings.f (k : Nat) (l0 : List Int) : Option (List Int × List Int) := (spec_l1New.f k l0).bind fun bt624 => ((spec_l7Mapping.f k bt624.1 bt624.2.1 bt624.2.2).bind fun bt628 => ((spec_l7Mapping.f k bt624.1 bt628.2.1 bt628.2.2).bind fun bt633 => (some (bt628.1, bt633.1))))
set_option maxHeartbeats 8000000 in
set_option maxRecDepth 100000 in
theorem spec_DrawComposeMappings.calls (k : Nat) (A0 : Option Addr) (c0 : Nat) (l0 : List Int) (r1 : List Int) (r2 : List Int) (w : World) (hr0 : Kd.C (Kd.int .u8) w A0 l0.length l0) (hc0 : l0.length ≤ c0) (h : spec_DrawComposeMappings.f k l0 = some (r1, r2)) :
  Calls Try.prog 65 #[.slice A0 l0.length c0] w fun e w' => ∃ v0_ v1_ : Value, e = .returned (.tuple #[v0_, v1_]) ∧ Kd.R (Kd.int .i64) 3 w' w.heap.size (fun k_ => some k_ ≠ (v1_ : Value).ownBlock) v0_ r1 ∧ Kd.R (Kd.int .i64) 3 w' w.heap.size (fun k_ => some k_ ≠ (v0_ : Value).ownBlock) v1_ r2 ∧ Below w.heap.size w w' := by
 have HR0:=zA hr0;have HC0:=zA hc0;clear hr0 hc0;have HB:=zA (Below.refl w.heap.size w)
 have H : ((spec_l1New.f k l0).bind fun bt624 => ((spec_l7Mapping.f k bt624.1 bt624.2.1 bt624.2.2).bind fun bt628 => ((spec_l7Mapping.f k bt624.1 bt628.2.1 bt628.2.2).bind fun bt633 => (some (bt628.1,bt633.1))))) = some (r1,r2):=h
 clear h;replace H:=zYb.mp H;obtain ⟨⟨t624,t625,t626⟩,A20,H⟩:=H;(try dsimp only at H);have A2:=zA A20;clear A20;replace H:=zYb.mp H;obtain ⟨⟨t628,t631,t632⟩,A30,H⟩:=H;(try dsimp only at H);have A3:=zA A30;clear A30;replace H:=zYb.mp H;obtain ⟨⟨t633,t636,t637⟩,A40,H⟩:=H;(try dsimp only at H);have A4:=zA A40;clear A40;simp only [Option.some.injEq,Prod.mk.injEq] at H;obtain ⟨rfl,rfl⟩:=H
 go_enter Try.func65,Try.ntmps65
 go_wp2_with (first|((with_reducible refine gate_callee (f:=75) rfl ?_);refine zgo (some 7) Try.func75 #[.slice A0 l0.length c0] ?_;(with_reducible refine (spec_l1New.calls k _ _ l0 t624 t625 t626 w _ ?side1 ?side2 ?side3 A2.out).mono ?_);(case side1 => repeat (first|(with_reducible first|exact HB.out|apply zK|apply zC|apply zJ)|exact HB.out));(case side2 => exact HR0.out);(case side3 => exact HC0.out);rintro e w5 ⟨g627,rfl,hi,hb,hb2⟩;refine ⟨_,rfl,?_⟩;replace HB:=zA (hb);have HI627:=zA (hi);(try clear hb);(try clear hb2);(try clear hk);(try clear hi))|((with_reducible refine gate_callee (f:=111) rfl ?_);refine zgo (some 9) Try.func111 #[.pointer (some ⟨g627,0,none⟩)] ?_;(with_reducible refine (spec_l7Mapping.calls k g627 t624 t625 t626 t628 t631 t632 w _ ?side1 ?side2 A3.out).mono ?_);(case side1 => exact zis HI627);(case side2 => exact zbs HB HI627);rintro e w6 ⟨v629,rfl,ho0,hi,hb,hk⟩;refine ⟨_,rfl,?_⟩;have HO630:=zA (zHb ho0 (zT (zbs HB HI627)));replace HB:=zA (hb);replace HI627:=zA (hi);(try clear hb);(try clear hb2);(try clear hk);(try clear hi);(try clear ho0))|((with_reducible refine gate_callee (f:=111) rfl ?_);refine zgo (some 12) Try.func111 #[.pointer (some ⟨g627,0,none⟩)] ?_;(with_reducible refine (spec_l7Mapping.calls k g627 t624 t631 t632 t633 t636 t637 w _ ?side1 ?side2 A4.out).mono ?_);(case side1 => exact zis HI627);(case side2 => exact zbs HB HI627);rintro e w7 ⟨v634,rfl,ho0,hi,hb,hk⟩;refine ⟨_,rfl,?_⟩;have HO635:=zA (zHb (zQb ho0 (zOb (zq HO630))) (zT (zbs HB HI627)));replace HO630:=zA (zGb (Kd.R_told (Kd.R_oldK (IsS121.apart (show IsS121 w _ g627 t624 t631 t632 from zis HI627) (zq HO630) (by decide)) hk) (zW ho0)) (fun _ h_ => h_.1));replace HB:=zA (hb);replace HI627:=zA (hi);(try clear hb);(try clear hb2);(try clear hk);(try clear hi);(try clear ho0)))
 go_ret2
 exact ⟨_,_,zrr,by (with_reducible repeat (first|apply zE|apply zD|apply zH));exact zGb HO630.out (fun _ hk => hk.2),by (with_reducible repeat (first|apply zE|apply zD|apply zH));exact zGb HO635.out (fun _ hk => hk.2),zbs HB HI627⟩

/-! ### spec_DrawFormatMapping: function 66 -/
def spec_DrawFormatMapping.f (k : Nat) (l0 : List Int) : Option (List Int) := (spec_l1New.f k l0).bind fun bt638 => ((spec_l7Mapping.f k bt638.1 bt638.2.1 bt638.2.2).bind fun bt642 => ((spec_l1Once.f bt638.1 bt642.2.1 bt642.2.2 6).bind fun bt647 => (if bt647.1 = true then ((spec_l2Any.f bt638.1 bt647.2.1 bt647.2.2).bind fun bt650 => (if bt642.1.length < 17592186044416 then (some (bt642.1 ++ [bt650.1])) else (none))) else (some bt642.1))))
set_option maxHeartbeats 8000000 in
set_option maxRecDepth 100000 in
theorem spec_DrawFormatMapping.calls (k : Nat) (A0 : Option Addr) (c0 : Nat) (l0 : List Int) (r : List Int) (w : World) (hr0 : Kd.C (Kd.int .u8) w A0 l0.length l0) (hc0 : l0.length ≤ c0) (h : spec_DrawFormatMapping.f k l0 = some r) :
  Calls Try.prog 66 #[.slice A0 l0.length c0] w fun e w' => ∃ v0_ : Value, e = .returned (v0_) ∧ Kd.R (Kd.int .i64) 3 w' w.heap.size (fun _ => True) v0_ r ∧ Below w.heap.size w w' := by
 have HR0:=zA hr0;have HC0:=zA hc0;clear hr0 hc0;have HB:=zA (Below.refl w.heap.size w)
 have H : ((spec_l1New.f k l0).bind fun bt638 => ((spec_l7Mapping.f k bt638.1 bt638.2.1 bt638.2.2).bind fun bt642 => ((spec_l1Once.f bt638.1 bt642.2.1 bt642.2.2 6).bind fun bt647 => (if bt647.1 = true then ((spec_l2Any.f bt638.1 bt647.2.1 bt647.2.2).bind fun bt650 => (if bt642.1.length < 17592186044416 then (some (bt642.1 ++ [bt650.1])) else (none))) else (some bt642.1))))) = some r:=h
 clear h;replace H:=zYb.mp H;obtain ⟨⟨t638,t639,t640⟩,A20,H⟩:=H;(try dsimp only at H);have A2:=zA A20;clear A20;replace H:=zYb.mp H;obtain ⟨⟨t642,t645,t646⟩,A30,H⟩:=H;(try dsimp only at H);have A3:=zA A30;clear A30;replace H:=zYb.mp H;obtain ⟨⟨t647,t648,t649⟩,A40,H⟩:=H;(try dsimp only at H);have A4:=zA A40;clear A40
 by_cases c5 : t647 = true
 ·
  subst c5
  rw [if_pos rfl] at H;replace H:=zYb.mp H;obtain ⟨⟨t650,t651,t652⟩,A60,H⟩:=H;(try dsimp only at H);have A6:=zA A60;clear A60
  by_cases c7 : t642.length < 17592186044416
  ·
   rw [if_pos c7] at H;have LMc7:=zA c7;clear c7;obtain ⟨y653,hy653⟩ : ∃ y_ : List Int,y_ = (t642 ++ [t650]):=⟨_,rfl⟩
   replace H : (some y653) = some r:=by first|(rw [hy653];with_reducible exact H)|(have H2_:=(Option.bind_some _ _).symm.trans H;rw [hy653];with_reducible exact H2_)|(have H2_:=(Option.bind_some _ _).symm.trans H;with_reducible exact H2_)|with_reducible exact H|(rw [hy653];exact H)|exact H
   have Ny653:=zA hy653;clear hy653
   obtain rfl:=Option.some.inj H
   go_enter Try.func66,Try.ntmps66
   go_wp2_with (first|((with_reducible refine gate_callee (f:=75) rfl ?_);refine zgo (some 6) Try.func75 #[.slice A0 l0.length c0] ?_;(with_reducible refine (spec_l1New.calls k _ _ l0 t638 t639 t640 w _ ?side1 ?side2 ?side3 A2.out).mono ?_);(case side1 => repeat (first|(with_reducible first|exact HB.out|apply zK|apply zC|apply zJ)|exact HB.out));(case side2 => exact HR0.out);(case side3 => exact HC0.out);rintro e w8 ⟨g641,rfl,hi,hb,hb2⟩;refine ⟨_,rfl,?_⟩;replace HB:=zA (hb);have HI641:=zA (hi);(try clear hb);(try clear hb2);(try clear hk);(try clear hi))|((with_reducible refine gate_callee (f:=111) rfl ?_);refine zgo (some 8) Try.func111 #[.pointer (some ⟨g641,0,none⟩)] ?_;(with_reducible refine (spec_l7Mapping.calls k g641 t638 t639 t640 t642 t645 t646 w _ ?side1 ?side2 A3.out).mono ?_);(case side1 => exact zis HI641);(case side2 => exact zbs HB HI641);rintro e w9 ⟨v643,rfl,ho0,hi,hb,hk⟩;refine ⟨_,rfl,?_⟩;have HO644:=zA (zHb ho0 (zT (zbs HB HI641)));replace HB:=zA (hb);replace HI641:=zA (hi);(try clear hb);(try clear hb2);(try clear hk);(try clear hi);(try clear ho0))|((with_reducible refine gate_callee (f:=109) rfl ?_);refine zgo (some 10) Try.func109 #[.pointer (some ⟨g641,0,none⟩),.int .i64 6] ?_;(with_reducible refine (spec_l1Once.calls g641 t638 t645 t646 6 true t648 t649 w _ ?side1 ?side2 A4.out).mono ?_);(case side1 => exact zis HI641);(case side2 => exact zbs HB HI641);rintro e w10 ⟨rfl,hi,hb,hk⟩;refine ⟨_,rfl,?_⟩;replace HO644:=zA (zGb (Kd.R_keep (IsS121.apart (show IsS121 w _ g641 t638 t645 t646 from zis HI641) (zq HO644) (by decide)) hk (fun _ h => h.2)) (fun _ h => h.1));replace HB:=zA (hb);replace HI641:=zA (hi);(try clear hb);(try clear hb2);(try clear hk);(try clear hi))|((with_reducible refine gate_callee (f:=110) rfl ?_);refine zgo (some 13) Try.func110 #[.pointer (some ⟨g641,0,none⟩)] ?_;(with_reducible refine (spec_l2Any.calls g641 t638 t648 t649 t650 t651 t652 w _ ?side1 ?side2 A6.out).mono ?_);(case side1 => exact zis HI641);(case side2 => exact zbs HB HI641);rintro e w11 ⟨rfl,hi,hb,hk⟩;refine ⟨_,rfl,?_⟩;replace HO644:=zA (zGb (Kd.R_keep (IsS121.apart (show IsS121 w _ g641 t638 t648 t649 from zis HI641) (zq HO644) (by decide)) hk (fun _ h => h.2)) (fun _ h => h.1));replace HB:=zA (hb);replace HI641:=zA (hi);(try clear hb);(try clear hb2);(try clear hk);(try clear hi))|((with_reducible refine gate_builtin (b:=.append) (xs:=#[.tmp 11,.tmp 14]) rfl ?_);at_builtin;refine Kd.R_append (Kd.int .i64) (w0:=w) w.heap.size rfl (.tmp 11) (.tmp 14) 38 3 (.int .i64 0) 8 rfl Try.underlying38 info3 rfl (by decide) (by omega) v643 t642 t650 [.int .i64 t650] (fun _ => True) (fun _ => False) rfl rfl ?aP (fun _ hk => hk.elim) ?aF ?aO ?aB ?aS ?aL ?_;(case aP => exact rfl);(case aB => exact (zbs HB HI641));(case aF => exact (fun _ _ => trivial));(case aO => exact (zq HO644));(case aS => exact (zT (zbs HB HI641)));(case aL => have:=LMc7.out;omega);intro v654 w12 ho hb hg hat;rw [← Ny653.out] at ho;replace HI641:=zA (IsS121.grown (zis HI641) hg (IsS121.own_ne HI641.out HO644.out (by decide)));replace HB:=zA (hb);have HO655:=zA (ho);clear HO644;clear ho hb hg hat))
   go_ret
   exact ⟨_,zrr,zq HO655,zbs HB HI641⟩
  ·
   rw [if_neg c7] at H
   exact absurd H (by simp)
 ·
  replace c5:=Bool.eq_false_iff.mpr c5
  subst c5
  have H1 : (some t642) = some r:=by rw [if_neg (show ¬ (false = true) by decide)] at H;exact H
  clear H;have H:=H1;clear H1
  obtain rfl:=Option.some.inj H
  go_enter Try.func66,Try.ntmps66
  go_wp2_with (first|((with_reducible refine gate_callee (f:=75) rfl ?_);refine zgo (some 6) Try.func75 #[.slice A0 l0.length c0] ?_;(with_reducible refine (spec_l1New.calls k _ _ l0 t638 t639 t640 w _ ?side1 ?side2 ?side3 A2.out).mono ?_);(case side1 => repeat (first|(with_reducible first|exact HB.out|apply zK|apply zC|apply zJ)|exact HB.out));(case side2 => exact HR0.out);(case side3 => exact HC0.out);rintro e w13 ⟨g641,rfl,hi,hb,hb2⟩;refine ⟨_,rfl,?_⟩;replace HB:=zA (hb);have HI641:=zA (hi);(try clear hb);(try clear hb2);(try clear hk);(try clear hi))|((with_reducible refine gate_callee (f:=111) rfl ?_);refine zgo (some 8) Try.func111 #[.pointer (some ⟨g641,0,none⟩)] ?_;(with_reducible refine (spec_l7Mapping.calls k g641 t638 t639 t640 t642 t645 t646 w _ ?side1 ?side2 A3.out).mono ?_);(case side1 => exact zis HI641);(case side2 => exact zbs HB HI641);rintro e w14 ⟨v643,rfl,ho0,hi,hb,hk⟩;refine ⟨_,rfl,?_⟩;have HO644:=zA (zHb ho0 (zT (zbs HB HI641)));replace HB:=zA (hb);replace HI641:=zA (hi);(try clear hb);(try clear hb2);(try clear hk);(try clear hi);(try clear ho0))|((with_reducible refine gate_callee (f:=109) rfl ?_);refine zgo (some 10) Try.func109 #[.pointer (some ⟨g641,0,none⟩),.int .i64 6] ?_;(with_reducible refine (spec_l1Once.calls g641 t638 t645 t646 6 false t648 t649 w _ ?side1 ?side2 A4.out).mono ?_);(case side1 => exact zis HI641);(case side2 => exact zbs HB HI641);rintro e w15 ⟨rfl,hi,hb,hk⟩;refine ⟨_,rfl,?_⟩;replace HO644:=zA (zGb (Kd.R_keep (IsS121.apart (show IsS121 w _ g641 t638 t645 t646 from zis HI641) (zq HO644) (by decide)) hk (fun _ h => h.2)) (fun _ h => h.1));replace HB:=zA (hb);replace HI641:=zA (hi);(try clear hb);(try clear hb2);(try clear hk);(try clear hi)))
  go_ret
  exact ⟨_,zrr,zq HO644,zbs HB HI641⟩

/-! ### spec_ComposeMappings: function 69 -/
def spec_ComposeMappings.l0 : Nat → List Int → List Int → List Int → Int → Option (List Int)
 | 0, _, _, _, _ => none
 | k + 1, x0, x1, x5, x6 => if x6 < (x0.length : Int) then (if 0 ≤ x6 then (if (rd x0 x6) = (-1000) then (if x5.length < 17592186044416 then (spec_ComposeMappings.l0 k x0 x1 (x5 ++ [(-1000)]) (wrap64 (x6 + 1))) else (none)) else ((spec_ApplyMapping.f x1 (rd x0 x6)).bind fun t664 => (if x5.length < 17592186044416 then (spec_ComposeMappings.l0 k x0 x1 (x5 ++ [t664]) (wrap64 (x6 + 1))) else (none)))) else (none)) else (some x5)
def spec_ComposeMappings.f (k : Nat) (l0 : List Int) (l1 : List Int) : Option (List Int) := spec_ComposeMappings.l0 k l0 l1 (([] : List Int)) 0
set_option maxHeartbeats 8000000 in
set_option maxRecDepth 100000 in
theorem spec_ComposeMappings.calls (k : Nat) (A0 : Option Addr) (c0 : Nat) (l0 : List Int) (A1 : Option Addr) (c1 : Nat) (l1 : List Int) (r : List Int) (w : World) (hr0 : Kd.C (Kd.int .i64) w A0 l0.length l0) (hc0 : l0.length ≤ c0) (hr1 : Kd.C (Kd.int .i64) w A1 l1.length l1) (hc1 : l1.length ≤ c1) (h : spec_ComposeMappings.f k l0 l1 = some r) :
  Calls Try.prog 69 #[.slice A0 l0.length c0, .slice A1 l1.length c1] w fun e w' => ∃ v0_ : Value, e = .returned (v0_) ∧ Kd.R (Kd.int .i64) 3 w' w.heap.size (fun _ => True) v0_ r ∧ Below w.heap.size w w' := by
 have HR0:=zA hr0;have HC0:=zA hc0;clear hr0 hc0;have HR1:=zA hr1;have HC1:=zA hc1;clear hr1 hc1;have HB:=zA (Below.refl w.heap.size w)
 have H : (spec_ComposeMappings.l0 k l0 l1 (([] : List Int)) 0) = some r:=h
 clear h;obtain ⟨y656,hy656⟩ : ∃ y_ : List Int,y_ = (([] : List Int)):=⟨_,rfl⟩
 replace H : (spec_ComposeMappings.l0 k l0 l1 y656 0) = some r:=by first|(rw [hy656];with_reducible exact H)|(have H2_:=(Option.bind_some _ _).symm.trans H;rw [hy656];with_reducible exact H2_)|(have H2_:=(Option.bind_some _ _).symm.trans H;with_reducible exact H2_)|with_reducible exact H|(rw [hy656];exact H)|exact H
 have Ny656:=zA hy656;clear hy656
 have H':=zA H
 clear H
 go_enter Try.func69,Try.ntmps69
 go_wp2_with (first|((with_reducible refine gate_dst (N:=7) rfl ?_);refine Kd.R_lit (Kd.int .i64) _ 3 ?hg (N:=7) ?hd (xs:=([] : List Int)) (inner:=[]) (ok:=fun _ => True) (okp:=fun _ => True) ?hr ?hp (fun _ hk => hk) trivial (Below.refl _ _) (Nat.le_refl _) (by simp) ?_;(case hd => rfl);(case hg => rfl);(case hr => first|(go_simp;done)|(go_simp;rfl));(case hp => exact (Reps.none _ _));intro v657 w3 ho4 hb hg_ hnew_;clear hg_ hnew_;(first|rw [← Ny656.out] at ho4|(simp only [Int.reduceToNat] at ho4;rw [← Ny656.out] at ho4));have HO658:=zA (zHb ho4 (zT (zz HB)));replace HB:=zA (zJb (zz HB) hb);clear hb ho4))
 go_loopg [5,6] k (fun kq v5 v6 w' => ∃ (x5_1 : List Int) (x6_1 : Int),v6 = .int .i64 x6_1 ∧ Aside0 (spec_ComposeMappings.l0 kq l0 l1 x5_1 x6_1 = some r) ∧ Aside0 (kq ≤ k) ∧ Aside0 (Kd.R (Kd.int .i64) 3 w' w.heap.size (fun _ => True) v5 x5_1) ∧ Aside0 (Below w.heap.size w w'))
 case atStart => exact ⟨(y656),(0),za,H',⟨Nat.le_refl _⟩,⟨zq HO658⟩,⟨zz HB⟩⟩
 case round =>
  clear H';(try clear c1);(try clear p2);obtain ⟨x5_1,x6_1,rfl,HA,HK1,HO_5,HB⟩:=hrel
  cases gk with
  | zero => exact absurd HA.out (by simp [spec_ComposeMappings.l0])
  | succ k1 =>
   have H:=HA.out;clear HA;simp only [spec_ComposeMappings.l0] at H
   by_cases c5 : x6_1 < (l0.length : Int)
   ·
    rw [if_pos c5] at H;have c5b0:=decide_eq_true c5;clear c5
    by_cases c6 : 0 ≤ x6_1
    ·
     rw [if_pos c6] at H;have c6b0:=decide_eq_true c6;clear c6
     by_cases c7 : (rd l0 x6_1) = (-1000)
     ·
      rw [if_pos c7] at H;have c7b0:=beq_iff_eq.mpr c7;have c7b1:=bne_eq_false_iff_eq.mpr c7;clear c7
      by_cases c8 : x5_1.length < 17592186044416
      ·
       rw [if_pos c8] at H;have LMc8:=zA c8;clear c8;obtain ⟨y660,hy660⟩ : ∃ y_ : List Int,y_ = (x5_1 ++ [(-1000)]):=⟨_,rfl⟩
       replace H : (spec_ComposeMappings.l0 k1 l0 l1 y660 (wrap64 (x6_1 + 1))) = some r:=by first|(rw [hy660];with_reducible exact H)|(have H2_:=(Option.bind_some _ _).symm.trans H;rw [hy660];with_reducible exact H2_)|(have H2_:=(Option.bind_some _ _).symm.trans H;with_reducible exact H2_)|with_reducible exact H|(rw [hy660];exact H)|exact H
       have Ny660:=zA hy660;clear hy660
       have H':=zA H
       clear H;have p659 : 0 ≤ (x6_1 : Int):=zXb ze;have q659 : x6_1 < (l0.length : Int):=zXb ze;obtain ⟨ad659,e659,hx659_0⟩:=Kd.at_int HR0.out x6_1 p659 q659
       cases e659
       replace hx659_0:=zhx HB hx659_0;replace p659:=eq_true p659;replace q659:=eq_true q659
       go_wp2_with (first|((with_reducible refine gate_builtin (b:=.append) (xs:=#[.tmp 19,.tmp 20]) rfl ?_);at_builtin;refine Kd.R_append (Kd.int .i64) (w0:=w) w.heap.size rfl (.tmp 19) (.tmp 20) 38 3 (.int .i64 0) 8 rfl Try.underlying38 info3 rfl (by decide) (by omega) u5 x5_1 (-1000) [.int .i64 (-1000)] (fun _ => True) (fun _ => False) rfl rfl ?aP (fun _ hk => hk.elim) ?aF ?aO ?aB ?aS ?aL ?_;(case aP => exact rfl);(case aB => exact (zz HB));(case aF => exact (fun _ _ => trivial));(case aO => exact (zq HO_5));(case aS => exact (zT (zz HB)));(case aL => have:=LMc8.out;omega);intro v661 w9 ho hb hg hat;rw [← Ny660.out] at ho;replace HB:=zA (hb);have HO662:=zA (ho);clear HO_5;clear ho hb hg hat))
       go_roundg k1
       case measure => have:=HK1.out;omega
       case rel => exact ⟨(y660),(wrap64 (x6_1 + 1)),za,H',⟨by have:=HK1.out;omega⟩,⟨zq HO662⟩,⟨zz HB⟩⟩
      ·
       rw [if_neg c8] at H
       exact absurd H (by simp)
     ·
      rw [if_neg c7] at H;have c7b0:=beq_eq_false_iff_ne.mpr c7;have c7b1:=bne_iff_ne.mpr c7;obtain ⟨t664,A100,H⟩:=zYb.mp H;(try dsimp only at H);have A10:=zA A100;clear A100
      by_cases c11 : x5_1.length < 17592186044416
      ·
       rw [if_pos c11] at H;have LMc11:=zA c11;clear c11;obtain ⟨y665,hy665⟩ : ∃ y_ : List Int,y_ = (x5_1 ++ [t664]):=⟨_,rfl⟩
       replace H : (spec_ComposeMappings.l0 k1 l0 l1 y665 (wrap64 (x6_1 + 1))) = some r:=by first|(rw [hy665];with_reducible exact H)|(have H2_:=(Option.bind_some _ _).symm.trans H;rw [hy665];with_reducible exact H2_)|(have H2_:=(Option.bind_some _ _).symm.trans H;with_reducible exact H2_)|with_reducible exact H|(rw [hy665];exact H)|exact H
       have Ny665:=zA hy665;clear hy665
       have H':=zA H
       clear H;have p659 : 0 ≤ (x6_1 : Int):=zXb ze;have q659 : x6_1 < (l0.length : Int):=zXb ze;obtain ⟨ad659,e659,hx659_0⟩:=Kd.at_int HR0.out x6_1 p659 q659
       cases e659
       replace hx659_0:=zhx HB hx659_0;replace p659:=eq_true p659;replace q659:=eq_true q659;have p663 : 0 ≤ (x6_1 : Int):=zXb ze;have q663 : x6_1 < (l0.length : Int):=zXb ze;obtain ⟨ad663,e663,hx663_0⟩:=Kd.at_int HR0.out x6_1 p663 q663
       obtain rfl : ad659 = ad663:=(by injection e663)
       replace hx663_0:=zhx HB hx663_0;replace p663:=eq_true p663;replace q663:=eq_true q663
       go_wp2_with (first|((with_reducible refine gate_callee (f:=68) rfl ?_);refine zgo (some 28) Try.func68 #[.slice A1 l1.length c1,.int .i64 (rd l0 x6_1)] ?_;(with_reducible refine (spec_ApplyMapping.calls _ _ l1 (rd l0 x6_1) t664 _ ?side1 ?side2 A10.out).mono ?_);(case side1 => exact zsd HR1 HB);(case side2 => exact HC1.out);rintro e w' ⟨rfl,⟨nd,rfl⟩⟩;refine ⟨_,rfl,?_⟩)|((with_reducible refine gate_builtin (b:=.append) (xs:=#[.tmp 22,.tmp 29]) rfl ?_);at_builtin;refine Kd.R_append (Kd.int .i64) (w0:=w) w.heap.size rfl (.tmp 22) (.tmp 29) 38 3 (.int .i64 0) 8 rfl Try.underlying38 info3 rfl (by decide) (by omega) u5 x5_1 t664 [.int .i64 t664] (fun _ => True) (fun _ => False) rfl rfl ?aP (fun _ hk => hk.elim) ?aF ?aO ?aB ?aS ?aL ?_;(case aP => exact rfl);(case aB => exact (zz HB));(case aF => exact (fun _ _ => trivial));(case aO => exact (zq HO_5));(case aS => exact (zT (zz HB)));(case aL => have:=LMc11.out;omega);intro v666 w12 ho hb hg hat;rw [← Ny665.out] at ho;replace HB:=zA (hb);have HO667:=zA (ho);clear HO_5;clear ho hb hg hat))
       go_roundg k1
       case measure => have:=HK1.out;omega
       case rel => exact ⟨(y665),(wrap64 (x6_1 + 1)),za,H',⟨by have:=HK1.out;omega⟩,⟨zq HO667⟩,⟨zz HB⟩⟩
      ·
       rw [if_neg c11] at H
       exact absurd H (by simp)
    ·
     rw [if_neg c6] at H
     exact absurd H (by simp)
   ·
    rw [if_neg c5] at H;have c5b0:=decide_eq_false c5;clear c5
    obtain rfl:=Option.some.inj H
    go_wp2
    go_ret
    exact ⟨_,zrr,zq HO_5,zz HB⟩

end Go.Proofs.Ytanbgnjfllpkgaa.QFnMappings
