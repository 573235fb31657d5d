/- Walks through the Go functions that FnExactParseQuery reaches: each call returns what the Lean function beside it says, within the bounds that the theorem names. -/
import Derived.Test.YtpfpappamlgnoaaQFnExactParseQueryx0
import Derived.Test.YtpfpappamlgnoaaQFnExactParseQueryx16
namespace Go.Proofs.Ytpfpappamlgnoaa.QFnExactParseQuery
open Go.RowKit Go.Proofs.YtpfpappamlgnoaaW.PrintWords Go.Proofs.YtpfpappamlgnoaaW.PrintLast Go.Proofs.YtpfpappamlgnoaaW.PrintMore
attribute [local go_sem] max2_int min2_int max_two min_two max_three min_three max_four min_four   -- for this text's walks alone
set_option linter.unusedVariables false
set_option linter.unusedSimpArgs false


/-! ### laws_heldAtomS: function 122 -/
def laws_heldAtomS.l0 : Nat → List (S38) → Int → Int → Option (Int)
 | 0, _, _, _ => none
 | k + 1, x0, x1, x5 => if x5 < (x0.length : Int) then (if 0 ≤ x5 then (if ((rd_T38 x0 x5).f0) = x1 then ((laws_heldIntS.f k ((rd_T38 x0 x5).f1) (wrap64 (x1 + 1))).bind fun t461 => (if t461 < 0 then (some (-1)) else (laws_heldAtomS.l0 k x0 t461 (wrap64 (x5 + 1))))) else (some (-1))) else (none)) else (some x1)
def laws_heldAtomS.f (k : Nat) (l0 : List (S38)) (a1 : Int) : Option (Int) := laws_heldAtomS.l0 k l0 a1 0
theorem laws_heldAtomS.mono_l : ∀ k, (∀ y0 y1 y2, LeO (laws_heldAtomS.l0 k y0 y1 y2) (laws_heldAtomS.l0 (k + 1) y0 y1 y2))
 | 0 => fun _ _ _ r h => by simp [laws_heldAtomS.l0] at h
 | k + 1 => by
  have ih0:=laws_heldAtomS.mono_l k
  ·
   intro y0 y1 y2
   unfold laws_heldAtomS.l0
   repeat' first
   | (with_reducible exact ih0 _ _ _)
   | (with_reducible exact laws_heldIntS.mono _ _ _)
   | (with_reducible exact LeO.refl _)
   | (with_reducible exact LeO.none _)
   | (with_reducible refine LeO.ite ?_ ?_)
   | (with_reducible refine LeO.bind ?_ (fun _ => ?_))
   | exact ih0 _ _ _
   | exact LeO.none _
   | refine LeO.ite ?_ ?_
   | refine LeO.bind ?_ (fun _ => ?_)
theorem laws_heldAtomS.mono : ∀ a0 a1 k, LeO (laws_heldAtomS.f k a0 a1) (laws_heldAtomS.f (k + 1) a0 a1) := by
 intro a0 a1 k
 have ih0:=laws_heldAtomS.mono_l k
 unfold laws_heldAtomS.f
 repeat' first
   | (with_reducible exact ih0 _ _ _)
   | (with_reducible exact laws_heldIntS.mono _ _ _)
   | (with_reducible exact LeO.refl _)
   | (with_reducible exact LeO.none _)
   | (with_reducible refine LeO.ite ?_ ?_)
   | (with_reducible refine LeO.bind ?_ (fun _ => ?_))
   | exact ih0 _ _ _
   | exact LeO.none _
   | refine LeO.ite ?_ ?_
   | refine LeO.bind ?_ (fun _ => ?_)
set_option maxHeartbeats 8000000 in
set_option maxRecDepth 100000 in
theorem laws_heldAtomS.calls (k : Nat) (A0 : Option Addr) (c0 : Nat) (l0 : List (S38)) (a1 : Int) (r : Int) (w : World) (hr0 : Kd.C k38 w A0 l0.length l0) (hc0 : l0.length ≤ c0) (h : laws_heldAtomS.f k l0 a1 = some r) :
  Calls Try.prog 122 #[.slice A0 l0.length c0, .int .i64 a1] w fun e w' => e = .returned (.int .i64 r) ∧ Drawn0 w w' := by
 have HR0:=zA hr0;have HC0:=zA hc0;clear hr0 hc0
 have H : (laws_heldAtomS.l0 k l0 a1 0) = some r:=h
 clear h
 have H':=zA H
 clear H
 go_enter Try.func122,Try.ntmps122
 go_wp2
 go_loopg [1,5] k (fun kq v1 v5 w' => ∃ (x1_1 : Int) (x5_1 : Int),v1 = .int .i64 x1_1 ∧ v5 = .int .i64 x5_1 ∧ Aside0 (laws_heldAtomS.l0 kq l0 x1_1 x5_1 = some r) ∧ Aside0 (kq ≤ k) ∧ Drawn0 w w')
 case atStart => exact ⟨(a1),(0),za,za,H',⟨Nat.le_refl _⟩,by repeat (first|exact Drawn0.refl _|apply Drawn0.step)⟩
 case round =>
  clear H';(try clear c1);(try clear p2);obtain ⟨x1_1,x5_1,rfl,rfl,HA,HK1,⟨m1,rfl⟩⟩:=hrel
  cases gk with
  | zero => exact absurd HA.out (by simp [laws_heldAtomS.l0])
  | succ k1 =>
   have H:=HA.out;clear HA;simp only [laws_heldAtomS.l0] at H
   by_cases c3 : x5_1 < (l0.length : Int)
   ·
    rw [if_pos c3] at H;have c3b0:=decide_eq_true c3;clear c3
    by_cases c4 : 0 ≤ x5_1
    ·
     rw [if_pos c4] at H;have c4b0:=decide_eq_true c4;clear c4
     by_cases c5 : ((rd_T38 l0 x5_1).f0) = x1_1
     ·
      rw [if_pos c5] at H;have c5b0:=beq_iff_eq.mpr c5;have c5b1:=bne_eq_false_iff_eq.mpr c5;clear c5;replace H:=Option.bind_eq_some_iff.mp H;obtain ⟨t461,A60,H⟩:=H;(try dsimp only at H);have A6:=zA A60;clear A60
      by_cases c7 : t461 < 0
      ·
       rw [if_pos c7] at H;have c7b0:=decide_eq_true c7;clear c7
       obtain rfl:=Option.some.inj H
       have p459 : 0 ≤ (x5_1 : Int):=zXb ze;have q459 : x5_1 < (l0.length : Int):=zXb ze;obtain ⟨ad459,A459_1,c459_1,e459,hx459_0,hx459_1,hl459_1,hi459_1⟩:=at_T38 HR0.out x5_1 p459 q459
       cases e459
       have HR459_1:=zA hi459_1;have HC459_1:=zA hl459_1;clear hi459_1 hl459_1;replace p459:=eq_true p459;replace q459:=eq_true q459;have p460 : 0 ≤ (x5_1 : Int):=zXb ze;have q460 : x5_1 < (l0.length : Int):=zXb ze;obtain ⟨ad460,A460_1,c460_1,e460,hx460_0,hx460_1,hl460_1,hi460_1⟩:=at_T38 HR0.out x5_1 p460 q460
       obtain rfl : ad459 = ad460:=(by injection e460)
       have HR460_1:=zA hi460_1;have HC460_1:=zA hl460_1;clear hi460_1 hl460_1;replace p460:=eq_true p460;replace q460:=eq_true q460;have ea_:=Option.some.inj (hx459_1.symm.trans hx460_1)
       injection ea_ with ea_ en_ ec_
       subst ea_
       subst ec_
       clear en_
       go_wp2_with (first|((with_reducible refine gate_callee (f:=38) rfl ?_);refine goesL_ (some 27) rfl rfl Try.func38 (by kernel_rfl) rfl #[.slice A459_1 ((rd_T38 l0 x5_1).f1).length c459_1,.int .i64 (wrap64 (x1_1 + 1))] rfl (by (try simp only [zCb,zMb,zNb]);first|done|rfl|(simp only [zLb,zDb];rfl)) ?_;(with_reducible refine (laws_heldIntS.calls k1 _ _ ((rd_T38 l0 x5_1).f1) (wrap64 (x1_1 + 1)) t461 _ ?side1 ?side2 A6.out).mono ?_);(case side1 => repeat (first|exact HR460_1.out|(with_reducible refine zBb ?_ _)|(with_reducible refine zAb ?_ _)|(with_reducible refine zX ?_)));(case side2 => exact HC460_1.out);rintro e w' ⟨rfl,⟨nd,rfl⟩⟩;refine ⟨_,rfl,?_⟩))
       go_ret
       exact ⟨by first|rfl|(simp;done)|(simp [*];done),by repeat (first|exact Drawn0.refl _|apply Drawn0.step)⟩
      ·
       rw [if_neg c7] at H;have c7b0:=decide_eq_false c7;clear c7
       have H':=zA H
       clear H;have p459 : 0 ≤ (x5_1 : Int):=zXb ze;have q459 : x5_1 < (l0.length : Int):=zXb ze;obtain ⟨ad459,A459_1,c459_1,e459,hx459_0,hx459_1,hl459_1,hi459_1⟩:=at_T38 HR0.out x5_1 p459 q459
       cases e459
       have HR459_1:=zA hi459_1;have HC459_1:=zA hl459_1;clear hi459_1 hl459_1;replace p459:=eq_true p459;replace q459:=eq_true q459;have p460 : 0 ≤ (x5_1 : Int):=zXb ze;have q460 : x5_1 < (l0.length : Int):=zXb ze;obtain ⟨ad460,A460_1,c460_1,e460,hx460_0,hx460_1,hl460_1,hi460_1⟩:=at_T38 HR0.out x5_1 p460 q460
       obtain rfl : ad459 = ad460:=(by injection e460)
       have HR460_1:=zA hi460_1;have HC460_1:=zA hl460_1;clear hi460_1 hl460_1;replace p460:=eq_true p460;replace q460:=eq_true q460;have ea_:=Option.some.inj (hx459_1.symm.trans hx460_1)
       injection ea_ with ea_ en_ ec_
       subst ea_
       subst ec_
       clear en_
       go_wp2_with (first|((with_reducible refine gate_callee (f:=38) rfl ?_);refine goesL_ (some 27) rfl rfl Try.func38 (by kernel_rfl) rfl #[.slice A459_1 ((rd_T38 l0 x5_1).f1).length c459_1,.int .i64 (wrap64 (x1_1 + 1))] rfl (by (try simp only [zCb,zMb,zNb]);first|done|rfl|(simp only [zLb,zDb];rfl)) ?_;(with_reducible refine (laws_heldIntS.calls k1 _ _ ((rd_T38 l0 x5_1).f1) (wrap64 (x1_1 + 1)) t461 _ ?side1 ?side2 A6.out).mono ?_);(case side1 => repeat (first|exact HR460_1.out|(with_reducible refine zBb ?_ _)|(with_reducible refine zAb ?_ _)|(with_reducible refine zX ?_)));(case side2 => exact HC460_1.out);rintro e w' ⟨rfl,⟨nd,rfl⟩⟩;refine ⟨_,rfl,?_⟩))
       go_roundg k1
       case measure => have:=HK1.out;omega
       case rel => exact ⟨(t461),(wrap64 (x5_1 + 1)),za,za,H',⟨by have:=HK1.out;omega⟩,by repeat (first|exact Drawn0.refl _|apply Drawn0.step)⟩
     ·
      rw [if_neg c5] at H;have c5b0:=beq_eq_false_iff_ne.mpr c5;have c5b1:=bne_iff_ne.mpr c5
      obtain rfl:=Option.some.inj H
      have p459 : 0 ≤ (x5_1 : Int):=zXb ze;have q459 : x5_1 < (l0.length : Int):=zXb ze;obtain ⟨ad459,A459_1,c459_1,e459,hx459_0,hx459_1,hl459_1,hi459_1⟩:=at_T38 HR0.out x5_1 p459 q459
      cases e459
      have HR459_1:=zA hi459_1;have HC459_1:=zA hl459_1;clear hi459_1 hl459_1;replace p459:=eq_true p459;replace q459:=eq_true q459
      go_wp2
      go_ret
      exact ⟨by first|rfl|(simp;done)|(simp [*];done),by repeat (first|exact Drawn0.refl _|apply Drawn0.step)⟩
    ·
     rw [if_neg c4] at H
     exact absurd H (by simp)
   ·
    rw [if_neg c3] at H;have c3b0:=decide_eq_false c3;clear c3
    obtain rfl:=Option.some.inj H
    go_wp2
    go_ret
    exact ⟨by first|rfl|(simp;done)|(simp [*];done),by repeat (first|exact Drawn0.refl _|apply Drawn0.step)⟩

/-! ### laws_heldQuery: function 69 -/
def laws_heldQuery.f (k : Nat) (l0_0 : List Int) (l0_1 : List (S38)) (a1 : Int) : Option (Int) := (laws_heldIntS.f k l0_0 a1).bind fun t463 => (if t463 < 0 then (some (-1)) else ((laws_heldAtomS.f k l0_1 t463).bind fun t464 => (if t464 < 0 then (some (-1)) else (some t464))))
theorem laws_heldQuery.mono : ∀ a0 a1 a2 k, LeO (laws_heldQuery.f k a0 a1 a2) (laws_heldQuery.f (k + 1) a0 a1 a2) := by
 intro a0 a1 a2 k
 unfold laws_heldQuery.f
 repeat' first
   | (with_reducible exact laws_heldAtomS.mono _ _ _)
   | (with_reducible exact laws_heldIntS.mono _ _ _)
   | (with_reducible exact LeO.refl _)
   | (with_reducible exact LeO.none _)
   | (with_reducible refine LeO.ite ?_ ?_)
   | (with_reducible refine LeO.bind ?_ (fun _ => ?_))
   | exact LeO.none _
   | refine LeO.ite ?_ ?_
   | refine LeO.bind ?_ (fun _ => ?_)
set_option maxHeartbeats 8000000 in
set_option maxRecDepth 100000 in
theorem laws_heldQuery.calls (k : Nat) (A0_0 : Option Addr) (c0_0 : Nat) (l0_0 : List Int) (A0_1 : Option Addr) (c0_1 : Nat) (l0_1 : List (S38)) (a1 : Int) (r : Int) (w : World) (hr0_0 : Kd.C (Kd.int .i64) w A0_0 l0_0.length l0_0) (hc0_0 : l0_0.length ≤ c0_0) (hr0_1 : Kd.C k38 w A0_1 l0_1.length l0_1) (hc0_1 : l0_1.length ≤ c0_1) (h : laws_heldQuery.f k l0_0 l0_1 a1 = some r) :
  Calls Try.prog 69 #[.agg #[.slice A0_0 l0_0.length c0_0, .slice A0_1 l0_1.length c0_1], .int .i64 a1] w fun e w' => e = .returned (.int .i64 r) ∧ Below w.heap.size w w' := by
 have hu49:=Try.underlying49;have HR0_0:=zA hr0_0;have HC0_0:=zA hc0_0;clear hr0_0 hc0_0;have HR0_1:=zA hr0_1;have HC0_1:=zA hc0_1;clear hr0_1 hc0_1;have HB:=zA (Below.refl w.heap.size w)
 have H : ((laws_heldIntS.f k l0_0 a1).bind fun t463 => (if t463 < 0 then (some (-1)) else ((laws_heldAtomS.f k l0_1 t463).bind fun t464 => (if t464 < 0 then (some (-1)) else (some t464))))) = some r:=h
 clear h;replace H:=Option.bind_eq_some_iff.mp H;obtain ⟨t463,A30,H⟩:=H;(try dsimp only at H);have A3:=zA A30;clear A30
 by_cases c4 : t463 < 0
 ·
  rw [if_pos c4] at H;have c4b0:=decide_eq_true c4;clear c4
  obtain rfl:=Option.some.inj H
  go_enter Try.func69,Try.ntmps69
  go_wp2_with (first|((with_reducible refine gate_dst (N:=2) rfl ?_);refine box_event ?hg (N:=2) ?hd (cs:=#[.slice A0_0 l0_0.length c0_0,.slice A0_1 l0_1.length c0_1]) (t:=49) ?hr ?_;(case hd => rfl);(case hg => rfl);(case hr => first|(go_simp;done)|(go_simp;rfl));intro gb462 hg w5 hbox hb;have BK462:=zA (hbox);have GW462:=zA ((by rw [hg];exact (zT (zz HB)) : w.heap.size ≤ gb462));have GE462:=zA ((by rw [hg];exact (zT (zz HB)) : w.heap.size ≤ gb462));replace HB:=zA (zJb (zz HB) hb);clear hb hbox hg;have hcz6_0:=zc (.slice A0_0 l0_0.length c0_0) BK462 0 rfl;have hcz6_1:=zc (.slice A0_1 l0_1.length c0_1) BK462 1 rfl;have hfz6_0:=blk_frozen BK462.out 0;have hfz6_1:=blk_frozen BK462.out 1)|((with_reducible refine gate_callee (f:=38) rfl ?_);refine goesL_ (some 8) rfl rfl Try.func38 (by kernel_rfl) rfl #[.slice A0_0 l0_0.length c0_0,.int .i64 a1] rfl (by (try simp only [zCb,zMb,zNb]);first|done|rfl|(simp only [zLb,zDb];rfl)) ?_;(with_reducible refine (laws_heldIntS.calls k _ _ l0_0 a1 t463 _ ?side1 ?side2 A3.out).mono ?_);(case side1 => repeat (first|exact (zKb HR0_0.out HB.out)|(with_reducible refine zBb ?_ _)|(with_reducible refine zAb ?_ _)|(with_reducible refine zX ?_)));(case side2 => exact HC0_0.out);rintro e w' ⟨rfl,⟨nd,rfl⟩⟩;refine ⟨_,rfl,?_⟩))
  go_ret
  exact ⟨by first|rfl|(simp [errW_none,errW_some] <;> rfl)|(simp [*,errW_none,errW_some] <;> rfl),zz HB⟩
 ·
  rw [if_neg c4] at H;have c4b0:=decide_eq_false c4;clear c4;replace H:=Option.bind_eq_some_iff.mp H;obtain ⟨t464,A70,H⟩:=H;(try dsimp only at H);have A7:=zA A70;clear A70
  by_cases c8 : t464 < 0
  ·
   rw [if_pos c8] at H;have c8b0:=decide_eq_true c8;clear c8
   obtain rfl:=Option.some.inj H
   go_enter Try.func69,Try.ntmps69
   go_wp2_with (first|((with_reducible refine gate_dst (N:=2) rfl ?_);refine box_event ?hg (N:=2) ?hd (cs:=#[.slice A0_0 l0_0.length c0_0,.slice A0_1 l0_1.length c0_1]) (t:=49) ?hr ?_;(case hd => rfl);(case hg => rfl);(case hr => first|(go_simp;done)|(go_simp;rfl));intro gb462 hg w9 hbox hb;have BK462:=zA (hbox);have GW462:=zA ((by rw [hg];exact (zT (zz HB)) : w.heap.size ≤ gb462));have GE462:=zA ((by rw [hg];exact (zT (zz HB)) : w.heap.size ≤ gb462));replace HB:=zA (zJb (zz HB) hb);clear hb hbox hg;have hcz10_0:=zc (.slice A0_0 l0_0.length c0_0) BK462 0 rfl;have hcz10_1:=zc (.slice A0_1 l0_1.length c0_1) BK462 1 rfl;have hfz10_0:=blk_frozen BK462.out 0;have hfz10_1:=blk_frozen BK462.out 1)|((with_reducible refine gate_callee (f:=38) rfl ?_);refine goesL_ (some 8) rfl rfl Try.func38 (by kernel_rfl) rfl #[.slice A0_0 l0_0.length c0_0,.int .i64 a1] rfl (by (try simp only [zCb,zMb,zNb]);first|done|rfl|(simp only [zLb,zDb];rfl)) ?_;(with_reducible refine (laws_heldIntS.calls k _ _ l0_0 a1 t463 _ ?side1 ?side2 A3.out).mono ?_);(case side1 => repeat (first|exact (zKb HR0_0.out HB.out)|(with_reducible refine zBb ?_ _)|(with_reducible refine zAb ?_ _)|(with_reducible refine zX ?_)));(case side2 => exact HC0_0.out);rintro e w' ⟨rfl,⟨nd,rfl⟩⟩;refine ⟨_,rfl,?_⟩)|((with_reducible refine gate_callee (f:=122) rfl ?_);refine goesL_ (some 14) rfl rfl Try.func122 (by kernel_rfl) rfl #[.slice A0_1 l0_1.length c0_1,.int .i64 t463] rfl (by (try simp only [zCb,zMb,zNb]);first|done|rfl|(simp only [zLb,zDb];rfl)) ?_;(with_reducible refine (laws_heldAtomS.calls k _ _ l0_1 t463 t464 _ ?side1 ?side2 A7.out).mono ?_);(case side1 => repeat (first|exact (zKb HR0_1.out (zz HB))|(with_reducible refine zBb ?_ _)|(with_reducible refine zAb ?_ _)|(with_reducible refine zX ?_)));(case side2 => exact HC0_1.out);rintro e w' ⟨rfl,⟨nd,rfl⟩⟩;refine ⟨_,rfl,?_⟩))
   go_ret
   exact ⟨by first|rfl|(simp [errW_none,errW_some] <;> rfl)|(simp [*,errW_none,errW_some] <;> rfl),zz HB⟩
  ·
   rw [if_neg c8] at H;have c8b0:=decide_eq_false c8;clear c8
   obtain rfl:=Option.some.inj H
   go_enter Try.func69,Try.ntmps69
   go_wp2_with (first|((with_reducible refine gate_dst (N:=2) rfl ?_);refine box_event ?hg (N:=2) ?hd (cs:=#[.slice A0_0 l0_0.length c0_0,.slice A0_1 l0_1.length c0_1]) (t:=49) ?hr ?_;(case hd => rfl);(case hg => rfl);(case hr => first|(go_simp;done)|(go_simp;rfl));intro gb462 hg w11 hbox hb;have BK462:=zA (hbox);have GW462:=zA ((by rw [hg];exact (zT (zz HB)) : w.heap.size ≤ gb462));have GE462:=zA ((by rw [hg];exact (zT (zz HB)) : w.heap.size ≤ gb462));replace HB:=zA (zJb (zz HB) hb);clear hb hbox hg;have hcz12_0:=zc (.slice A0_0 l0_0.length c0_0) BK462 0 rfl;have hcz12_1:=zc (.slice A0_1 l0_1.length c0_1) BK462 1 rfl;have hfz12_0:=blk_frozen BK462.out 0;have hfz12_1:=blk_frozen BK462.out 1)|((with_reducible refine gate_callee (f:=38) rfl ?_);refine goesL_ (some 8) rfl rfl Try.func38 (by kernel_rfl) rfl #[.slice A0_0 l0_0.length c0_0,.int .i64 a1] rfl (by (try simp only [zCb,zMb,zNb]);first|done|rfl|(simp only [zLb,zDb];rfl)) ?_;(with_reducible refine (laws_heldIntS.calls k _ _ l0_0 a1 t463 _ ?side1 ?side2 A3.out).mono ?_);(case side1 => repeat (first|exact (zKb HR0_0.out HB.out)|(with_reducible refine zBb ?_ _)|(with_reducible refine zAb ?_ _)|(with_reducible refine zX ?_)));(case side2 => exact HC0_0.out);rintro e w' ⟨rfl,⟨nd,rfl⟩⟩;refine ⟨_,rfl,?_⟩)|((with_reducible refine gate_callee (f:=122) rfl ?_);refine goesL_ (some 14) rfl rfl Try.func122 (by kernel_rfl) rfl #[.slice A0_1 l0_1.length c0_1,.int .i64 t463] rfl (by (try simp only [zCb,zMb,zNb]);first|done|rfl|(simp only [zLb,zDb];rfl)) ?_;(with_reducible refine (laws_heldAtomS.calls k _ _ l0_1 t463 t464 _ ?side1 ?side2 A7.out).mono ?_);(case side1 => repeat (first|exact (zKb HR0_1.out (zz HB))|(with_reducible refine zBb ?_ _)|(with_reducible refine zAb ?_ _)|(with_reducible refine zX ?_)));(case side2 => exact HC0_1.out);rintro e w' ⟨rfl,⟨nd,rfl⟩⟩;refine ⟨_,rfl,?_⟩))
   go_ret
   exact ⟨by first|rfl|(simp [errW_none,errW_some] <;> rfl)|(simp [*,errW_none,errW_some] <;> rfl),zz HB⟩

-- NOT PRINTED: function 14 (laws_FnExactParseQuery)

end Go.Proofs.Ytpfpappamlgnoaa.QFnExactParseQuery
