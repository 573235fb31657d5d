/- Walks through the Go functions that FnExactIsAnswer reaches: each call returns what the Lean function beside it says, within the bounds that the theorem names. -/
import Derived.Test.YtfelabhakgcifaaQFnExactIsAnswerx0
import Derived.Test.YtfelabhakgcifaaQFnExactIsAnswerx14
import Derived.Test.YtfelabhakgcifaaQFnExactIsAnswerx15
namespace Go.Proofs.Ytfelabhakgcifaa.QFnExactIsAnswer
open Go.RowKit Go.Proofs.YtfelabhakgcifaaW.PrintWords Go.Proofs.YtfelabhakgcifaaW.PrintLast Go.Proofs.YtfelabhakgcifaaW.PrintMore
attribute [local go_sem] max2_int min2_int max_two min_two max_three min_three max_four min_four   -- for this text's walks alone
set_option linter.unusedVariables false
set_option linter.unusedSimpArgs false


/-! ### impl_IsTerm: function 133 -/
def impl_IsTerm.f (a0 : Int) : Option (Bool) := (impl_within.f a0 (-80) 19).bind fun t377 => (some t377)
set_option maxHeartbeats 8000000 in
set_option maxRecDepth 100000 in
theorem impl_IsTerm.calls (a0 : Int) (r : Bool) (w : World) (h : impl_IsTerm.f a0 = some r) :
  Calls Try.prog 133 #[.int .i64 a0] w fun e w' => e = .returned (.bool r) ∧ Drawn0 w w' := by
 have H : ((impl_within.f a0 (-80) 19).bind fun t377 => (some t377)) = some r:=h
 clear h;replace H:=Option.bind_eq_some_iff.mp H;obtain ⟨t377,A20,H⟩:=H;(try dsimp only at H);have A2:=zA A20;clear A20
 obtain rfl:=Option.some.inj H
 go_enter Try.func133,Try.ntmps133
 go_wp2_with (first|((with_reducible refine gate_callee (f:=92) rfl ?_);refine goesL_ (some 4) rfl rfl Try.func92 (by kernel_rfl) rfl #[.int .i64 a0,.int .i64 (-80),.int .i64 19] rfl (by (try simp only [zCb,zMb,zNb]);first|done|rfl|(simp only [zLb,zDb];rfl)) ?_;(with_reducible refine (impl_within.calls a0 (-80) 19 t377 _ A2.out).mono ?_);rintro e w' ⟨rfl,⟨nd,rfl⟩⟩;refine ⟨_,rfl,?_⟩))
 go_ret
 exact ⟨by first|rfl|(simp;done)|(simp [*];done),by repeat (first|exact Drawn0.refl _|apply Drawn0.step)⟩

/-! ### impl_areTerms: function 101 -/
def impl_areTerms.l0 : Nat → List Int → Int → Int → Option (Bool)
 | 0, _, _, _ => none
 | k + 1, x5, x6, x7 => if x7 < x6 then (if 0 ≤ x7 then (if x7 < (x5.length : Int) then ((impl_IsTerm.f (rd x5 x7)).bind fun t379 => (if t379 = true then (impl_areTerms.l0 k x5 x6 (wrap64 (x7 + 1))) else (some false))) else (none)) else (none)) else (some true)
def impl_areTerms.f (k : Nat) (l0 : List Int) : Option (Bool) := impl_areTerms.l0 k l0 (l0.length : Int) 0
theorem impl_areTerms.mono_l : ∀ k, (∀ y0 y1 y2, LeO (impl_areTerms.l0 k y0 y1 y2) (impl_areTerms.l0 (k + 1) y0 y1 y2))
 | 0 => fun _ _ _ r h => by simp [impl_areTerms.l0] at h
 | k + 1 => by
  have ih0:=impl_areTerms.mono_l k
  ·
   intro y0 y1 y2
   unfold impl_areTerms.l0
   repeat' first
   | (with_reducible exact ih0 _ _ _)
   | (with_reducible exact LeO.refl _)
   | (with_reducible exact LeO.none _)
   | (with_reducible refine LeO.ite ?_ ?_)
   | (with_reducible refine LeO.bind ?_ (fun _ => ?_))
   | exact ih0 _ _ _
   | exact LeO.none _
   | refine LeO.ite ?_ ?_
   | refine LeO.bind ?_ (fun _ => ?_)
theorem impl_areTerms.mono : ∀ a0 k, LeO (impl_areTerms.f k a0) (impl_areTerms.f (k + 1) a0) := by
 intro a0 k
 have ih0:=impl_areTerms.mono_l k
 unfold impl_areTerms.f
 repeat' first
   | (with_reducible exact ih0 _ _ _)
   | (with_reducible exact LeO.refl _)
   | (with_reducible exact LeO.none _)
   | (with_reducible refine LeO.ite ?_ ?_)
   | (with_reducible refine LeO.bind ?_ (fun _ => ?_))
   | exact ih0 _ _ _
   | exact LeO.none _
   | refine LeO.ite ?_ ?_
   | refine LeO.bind ?_ (fun _ => ?_)
set_option maxHeartbeats 8000000 in
set_option maxRecDepth 100000 in
theorem impl_areTerms.calls (k : Nat) (A0 : Option Addr) (c0 : Nat) (l0 : List Int) (r : Bool) (w : World) (hr0 : Kd.C (Kd.int .i64) w A0 l0.length l0) (hc0 : l0.length ≤ c0) (h : impl_areTerms.f k l0 = some r) :
  Calls Try.prog 101 #[.slice A0 l0.length c0] w fun e w' => e = .returned (.bool r) ∧ Drawn0 w w' := by
 have HR0:=zA hr0;have HC0:=zA hc0;clear hr0 hc0
 have H : (impl_areTerms.l0 k l0 (l0.length : Int) 0) = some r:=h
 clear h
 have H':=zA H
 clear H
 go_enter Try.func101,Try.ntmps101
 go_wp2
 go_loopg [7] k (fun kq v7 w' => ∃ (x7_1 : Int),v7 = .int .i64 x7_1 ∧ Aside0 (impl_areTerms.l0 kq l0 (l0.length : Int) x7_1 = some r) ∧ Aside0 (kq ≤ k) ∧ Drawn0 w w')
 case atStart => exact ⟨(0),za,H',⟨Nat.le_refl _⟩,by repeat (first|exact Drawn0.refl _|apply Drawn0.step)⟩
 case round =>
  clear H';(try clear c1);obtain ⟨x7_1,rfl,HA,HK1,⟨m1,rfl⟩⟩:=hrel
  cases gk with
  | zero => exact absurd HA.out (by simp [impl_areTerms.l0])
  | succ k1 =>
   have H:=HA.out;clear HA;simp only [impl_areTerms.l0] at H
   by_cases c2 : x7_1 < (l0.length : Int)
   ·
    rw [if_pos c2] at H;have c2b0:=decide_eq_true c2;clear c2
    by_cases c3 : 0 ≤ x7_1
    ·
     rw [if_pos c3] at H;have c3b0:=decide_eq_true c3;clear c3
     by_cases c4 : x7_1 < (l0.length : Int)
     ·
      rw [if_pos c4] at H;have c4b0:=decide_eq_true c4;clear c4;replace H:=Option.bind_eq_some_iff.mp H;obtain ⟨t379,A50,H⟩:=H;(try dsimp only at H);have A5:=zA A50;clear A50
      by_cases c6 : t379 = true
      ·
       subst c6
       rw [if_pos rfl] at H
       have H':=zA H
       clear H;have p378 : 0 ≤ (x7_1 : Int):=zXb ze;have q378 : x7_1 < (l0.length : Int):=zXb ze;obtain ⟨ad378,e378,hx378_0⟩:=Kd.at_int HR0.out x7_1 p378 q378
       cases e378
       replace p378:=eq_true p378;replace q378:=eq_true q378
       go_wp2_with (first|((with_reducible refine gate_callee (f:=133) rfl ?_);refine goesL_ (some 12) rfl rfl Try.func133 (by kernel_rfl) rfl #[.int .i64 (rd l0 x7_1)] rfl (by (try simp only [zCb,zMb,zNb]);first|done|rfl|(simp only [zLb,zDb];rfl)) ?_;(with_reducible refine (impl_IsTerm.calls (rd l0 x7_1) true _ A5.out).mono ?_);rintro e w' ⟨rfl,⟨nd,rfl⟩⟩;refine ⟨_,rfl,?_⟩))
       go_roundg k1
       case measure => have:=HK1.out;omega
       case rel => exact ⟨(wrap64 (x7_1 + 1)),za,H',⟨by have:=HK1.out;omega⟩,by repeat (first|exact Drawn0.refl _|apply Drawn0.step)⟩
      ·
       replace c6:=Bool.eq_false_iff.mpr c6
       subst c6
       have H1 : (some false) = some r:=by rw [if_neg (show ¬ (false = true) by decide)] at H;exact H
       clear H;have H:=H1;clear H1
       obtain rfl:=Option.some.inj H
       have p378 : 0 ≤ (x7_1 : Int):=zXb ze;have q378 : x7_1 < (l0.length : Int):=zXb ze;obtain ⟨ad378,e378,hx378_0⟩:=Kd.at_int HR0.out x7_1 p378 q378
       cases e378
       replace p378:=eq_true p378;replace q378:=eq_true q378
       go_wp2_with (first|((with_reducible refine gate_callee (f:=133) rfl ?_);refine goesL_ (some 12) rfl rfl Try.func133 (by kernel_rfl) rfl #[.int .i64 (rd l0 x7_1)] rfl (by (try simp only [zCb,zMb,zNb]);first|done|rfl|(simp only [zLb,zDb];rfl)) ?_;(with_reducible refine (impl_IsTerm.calls (rd l0 x7_1) false _ A5.out).mono ?_);rintro e w' ⟨rfl,⟨nd,rfl⟩⟩;refine ⟨_,rfl,?_⟩))
       go_ret
       exact ⟨by first|rfl|(simp;done)|(simp [*];done),by repeat (first|exact Drawn0.refl _|apply Drawn0.step)⟩
     ·
      rw [if_neg c4] at H
      exact absurd H (by simp)
    ·
     rw [if_neg c3] at H
     exact absurd H (by simp)
   ·
    rw [if_neg c2] at H;have c2b0:=decide_eq_false c2;clear c2
    obtain rfl:=Option.some.inj H
    go_wp2
    go_ret
    exact ⟨by first|rfl|(simp;done)|(simp [*];done),by repeat (first|exact Drawn0.refl _|apply Drawn0.step)⟩

/-! ### impl_IsAtom: function 102 -/
def impl_IsAtom.f (k : Nat) (l0_0 : List Int) (a1_0 : Int) (l1_1 : List Int) : Option (Bool) := (impl_Schema_takes.f k l0_0 a1_0 (l1_1.length : Int)).bind fun t382 => (if t382 = true then ((impl_areTerms.f k l1_1).bind fun t383 => (some t383)) else (some false))
theorem impl_IsAtom.mono : ∀ a0 a1 a2 k, LeO (impl_IsAtom.f k a0 a1 a2) (impl_IsAtom.f (k + 1) a0 a1 a2) := by
 intro a0 a1 a2 k
 unfold impl_IsAtom.f
 repeat' first
   | (with_reducible exact impl_Schema_takes.mono _ _ _ _)
   | (with_reducible exact impl_areTerms.mono _ _)
   | (with_reducible exact LeO.refl _)
   | (with_reducible exact LeO.none _)
   | (with_reducible refine LeO.ite ?_ ?_)
   | (with_reducible refine LeO.bind ?_ (fun _ => ?_))
   | exact LeO.none _
   | refine LeO.ite ?_ ?_
   | refine LeO.bind ?_ (fun _ => ?_)
set_option maxHeartbeats 8000000 in
set_option maxRecDepth 100000 in
theorem impl_IsAtom.calls (k : Nat) (A0_0 : Option Addr) (c0_0 : Nat) (l0_0 : List Int) (a1_0 : Int) (A1_1 : Option Addr) (c1_1 : Nat) (l1_1 : List Int) (r : Bool) (w : World) (hr0_0 : Kd.C (Kd.int .i64) w A0_0 l0_0.length l0_0) (hc0_0 : l0_0.length ≤ c0_0) (hr1_1 : Kd.C (Kd.int .i64) w A1_1 l1_1.length l1_1) (hc1_1 : l1_1.length ≤ c1_1) (h : impl_IsAtom.f k l0_0 a1_0 l1_1 = some r) :
  Calls Try.prog 102 #[.agg #[.slice A0_0 l0_0.length c0_0], .agg #[.int .i64 a1_0, .slice A1_1 l1_1.length c1_1]] w fun e w' => e = .returned (.bool r) ∧ Below w.heap.size w w' := by
 have hu34:=Try.underlying34;have hu115:=Try.underlying115;have HR0_0:=zA hr0_0;have HC0_0:=zA hc0_0;clear hr0_0 hc0_0;have HR1_1:=zA hr1_1;have HC1_1:=zA hc1_1;clear hr1_1 hc1_1;have HB:=zA (Below.refl w.heap.size w)
 have H : ((impl_Schema_takes.f k l0_0 a1_0 (l1_1.length : Int)).bind fun t382 => (if t382 = true then ((impl_areTerms.f k l1_1).bind fun t383 => (some t383)) else (some false))) = some r:=h
 clear h;replace H:=Option.bind_eq_some_iff.mp H;obtain ⟨t382,A30,H⟩:=H;(try dsimp only at H);have A3:=zA A30;clear A30
 by_cases c4 : t382 = true
 ·
  subst c4
  rw [if_pos rfl] at H;replace H:=Option.bind_eq_some_iff.mp H;obtain ⟨t383,A50,H⟩:=H;(try dsimp only at H);have A5:=zA A50;clear A50
  obtain rfl:=Option.some.inj H
  go_enter Try.func102,Try.ntmps102
  go_wp2_with (first|((with_reducible refine gate_dst (N:=2) rfl ?_);refine box_event ?hg (N:=2) ?hd (cs:=#[.slice A0_0 l0_0.length c0_0]) (t:=34) ?hr ?_;(case hd => rfl);(case hg => rfl);(case hr => first|(go_simp;done)|(go_simp;rfl));intro gb380 hg w6 hbox hb;have BK380:=zA (hbox);have GW380:=zA ((by rw [hg];exact (zT (zz HB)) : w.heap.size ≤ gb380));have GE380:=zA ((by rw [hg];exact (zT (zz HB)) : w.heap.size ≤ gb380));replace HB:=zA (zJb (zz HB) hb);clear hb hbox hg)|((with_reducible refine gate_dst (N:=3) rfl ?_);refine box_event ?hg (N:=3) ?hd (cs:=#[.int .i64 a1_0,.slice A1_1 l1_1.length c1_1]) (t:=115) ?hr ?_;(case hd => rfl);(case hg => rfl);(case hr => first|(go_simp;done)|(go_simp;rfl));intro gb381 hg w7 hbox hb;have BK381:=zA (hbox);have GW381:=zA ((by rw [hg];exact (zT (zz HB)) : w.heap.size ≤ gb381));have GE381:=zA ((by rw [hg];exact (zT (zz HB)) : w.heap.size ≤ gb381));replace HB:=zA (zJb (zz HB) hb);have NB380_381:=zA ((by rw [hg];exact Nat.ne_of_lt (blk_lt (g:=gb380) (o:=.cells #[.slice A0_0 l0_0.length c0_0] 34 (0,0)) (zx BK380)) : gb380 ≠ gb381));have NB381_380:=zA ((by rw [hg];exact Nat.ne_of_gt (blk_lt (g:=gb380) (o:=.cells #[.slice A0_0 l0_0.length c0_0] 34 (0,0)) (zx BK380)) : gb381 ≠ gb380));replace BK380:=zA (zQ (g:=gb380) (o:=.cells #[.slice A0_0 l0_0.length c0_0] 34 (0,0)) (zx BK380) hb);clear hb hbox hg;have hnb8:=NB380_381.out;have hnc8:=NB381_380.out;have hcz9_0:=zc (.slice A0_0 l0_0.length c0_0) BK380 0 rfl;have hfz9_0:=blk_frozen BK380.out 0;have hcz10_0:=zc (.int .i64 a1_0) BK381 0 rfl;have hcz10_1:=zc (.slice A1_1 l1_1.length c1_1) BK381 1 rfl;have hfz10_0:=blk_frozen BK381.out 0;have hfz10_1:=blk_frozen BK381.out 1)|((with_reducible refine gate_callee (f:=65) rfl ?_);refine goesL_ (some 11) rfl rfl Try.func65 (by kernel_rfl) rfl #[.agg #[.slice A0_0 l0_0.length c0_0],.int .i64 a1_0,.int .i64 (l1_1.length : Int)] rfl (by (try simp only [zCb,zMb,zNb]);first|done|rfl|(simp only [zLb,zDb];rfl)) ?_;(with_reducible refine (impl_Schema_takes.calls k _ _ l0_0 a1_0 (l1_1.length : Int) true _ ?side1 ?side2 A3.out).mono ?_);(case side1 => exact zsd HR0_0 HB);(case side2 => exact HC0_0.out);rintro e w11 ⟨rfl,hb⟩;refine ⟨_,rfl,?_⟩;replace BK380:=zA (zQ (g:=gb380) (o:=.cells #[.slice A0_0 l0_0.length c0_0] 34 (0,0)) (zx BK380) hb);replace BK381:=zA (zQ (g:=gb381) (o:=.cells #[.int .i64 a1_0,.slice A1_1 l1_1.length c1_1] 115 (0,0)) (zx BK381) hb);replace HB:=zA (zJb (zz HB) hb);(try clear hb);(try clear hb2);(try clear hk);(try clear hi);have hcz12_0:=zc (.int .i64 a1_0) BK381 0 rfl;have hcz12_1:=zc (.slice A1_1 l1_1.length c1_1) BK381 1 rfl;have hfz12_0:=blk_frozen BK381.out 0;have hfz12_1:=blk_frozen BK381.out 1)|(go_at_call 101;(with_reducible refine (impl_areTerms.calls k _ _ l1_1 t383 _ ?side1 ?side2 A5.out).mono ?_);(case side1 => exact zsd HR1_1 HB);(case side2 => exact HC1_1.out);rintro e w' ⟨rfl,⟨nd,rfl⟩⟩))
  go_ret
  exact ⟨by first|rfl|(simp [errW_none,errW_some] <;> rfl)|(simp [*,errW_none,errW_some] <;> rfl),zz HB⟩
 ·
  replace c4:=Bool.eq_false_iff.mpr c4
  subst c4
  have H1 : (some false) = some r:=by rw [if_neg (show ¬ (false = true) by decide)] at H;exact H
  clear H;have H:=H1;clear H1
  obtain rfl:=Option.some.inj H
  go_enter Try.func102,Try.ntmps102
  go_wp2_with (first|((with_reducible refine gate_dst (N:=2) rfl ?_);refine box_event ?hg (N:=2) ?hd (cs:=#[.slice A0_0 l0_0.length c0_0]) (t:=34) ?hr ?_;(case hd => rfl);(case hg => rfl);(case hr => first|(go_simp;done)|(go_simp;rfl));intro gb380 hg w13 hbox hb;have BK380:=zA (hbox);have GW380:=zA ((by rw [hg];exact (zT (zz HB)) : w.heap.size ≤ gb380));have GE380:=zA ((by rw [hg];exact (zT (zz HB)) : w.heap.size ≤ gb380));replace HB:=zA (zJb (zz HB) hb);clear hb hbox hg)|((with_reducible refine gate_dst (N:=3) rfl ?_);refine box_event ?hg (N:=3) ?hd (cs:=#[.int .i64 a1_0,.slice A1_1 l1_1.length c1_1]) (t:=115) ?hr ?_;(case hd => rfl);(case hg => rfl);(case hr => first|(go_simp;done)|(go_simp;rfl));intro gb381 hg w14 hbox hb;have BK381:=zA (hbox);have GW381:=zA ((by rw [hg];exact (zT (zz HB)) : w.heap.size ≤ gb381));have GE381:=zA ((by rw [hg];exact (zT (zz HB)) : w.heap.size ≤ gb381));replace HB:=zA (zJb (zz HB) hb);have NB380_381:=zA ((by rw [hg];exact Nat.ne_of_lt (blk_lt (g:=gb380) (o:=.cells #[.slice A0_0 l0_0.length c0_0] 34 (0,0)) (zx BK380)) : gb380 ≠ gb381));have NB381_380:=zA ((by rw [hg];exact Nat.ne_of_gt (blk_lt (g:=gb380) (o:=.cells #[.slice A0_0 l0_0.length c0_0] 34 (0,0)) (zx BK380)) : gb381 ≠ gb380));replace BK380:=zA (zQ (g:=gb380) (o:=.cells #[.slice A0_0 l0_0.length c0_0] 34 (0,0)) (zx BK380) hb);clear hb hbox hg;have hnb15:=NB380_381.out;have hnc15:=NB381_380.out;have hcz16_0:=zc (.slice A0_0 l0_0.length c0_0) BK380 0 rfl;have hfz16_0:=blk_frozen BK380.out 0;have hcz17_0:=zc (.int .i64 a1_0) BK381 0 rfl;have hcz17_1:=zc (.slice A1_1 l1_1.length c1_1) BK381 1 rfl;have hfz17_0:=blk_frozen BK381.out 0;have hfz17_1:=blk_frozen BK381.out 1)|((with_reducible refine gate_callee (f:=65) rfl ?_);refine goesL_ (some 11) rfl rfl Try.func65 (by kernel_rfl) rfl #[.agg #[.slice A0_0 l0_0.length c0_0],.int .i64 a1_0,.int .i64 (l1_1.length : Int)] rfl (by (try simp only [zCb,zMb,zNb]);first|done|rfl|(simp only [zLb,zDb];rfl)) ?_;(with_reducible refine (impl_Schema_takes.calls k _ _ l0_0 a1_0 (l1_1.length : Int) false _ ?side1 ?side2 A3.out).mono ?_);(case side1 => exact zsd HR0_0 HB);(case side2 => exact HC0_0.out);rintro e w18 ⟨rfl,hb⟩;refine ⟨_,rfl,?_⟩;replace BK380:=zA (zQ (g:=gb380) (o:=.cells #[.slice A0_0 l0_0.length c0_0] 34 (0,0)) (zx BK380) hb);replace BK381:=zA (zQ (g:=gb381) (o:=.cells #[.int .i64 a1_0,.slice A1_1 l1_1.length c1_1] 115 (0,0)) (zx BK381) hb);replace HB:=zA (zJb (zz HB) hb);(try clear hb);(try clear hb2);(try clear hk);(try clear hi)))
  go_ret
  exact ⟨by first|rfl|(simp [errW_none,errW_some] <;> rfl)|(simp [*,errW_none,errW_some] <;> rfl),zz HB⟩

/-! ### impl_IsVar: function 134 -/
def impl_IsVar.f (a0 : Int) : Option (Bool) := (impl_within.f a0 0 19).bind fun t384 => (some t384)
set_option maxHeartbeats 8000000 in
set_option maxRecDepth 100000 in
theorem impl_IsVar.calls (a0 : Int) (r : Bool) (w : World) (h : impl_IsVar.f a0 = some r) :
  Calls Try.prog 134 #[.int .i64 a0] w fun e w' => e = .returned (.bool r) ∧ Drawn0 w w' := by
 have H : ((impl_within.f a0 0 19).bind fun t384 => (some t384)) = some r:=h
 clear h;replace H:=Option.bind_eq_some_iff.mp H;obtain ⟨t384,A20,H⟩:=H;(try dsimp only at H);have A2:=zA A20;clear A20
 obtain rfl:=Option.some.inj H
 go_enter Try.func134,Try.ntmps134
 go_wp2_with (first|((with_reducible refine gate_callee (f:=92) rfl ?_);refine goesL_ (some 4) rfl rfl Try.func92 (by kernel_rfl) rfl #[.int .i64 a0,.int .i64 0,.int .i64 19] rfl (by (try simp only [zCb,zMb,zNb]);first|done|rfl|(simp only [zLb,zDb];rfl)) ?_;(with_reducible refine (impl_within.calls a0 0 19 t384 _ A2.out).mono ?_);rintro e w' ⟨rfl,⟨nd,rfl⟩⟩;refine ⟨_,rfl,?_⟩))
 go_ret
 exact ⟨by first|rfl|(simp;done)|(simp [*];done),by repeat (first|exact Drawn0.refl _|apply Drawn0.step)⟩

/-! ### slices_Index_int_int: function 164 -/
def slices_Index_int_int.l0 : Nat → List Int → Int → Int → Int → Option (Int)
 | 0, _, _, _, _ => none
 | k + 1, x0, x1, x7, x8 => if x8 < x7 then (if 0 ≤ x8 then (if x8 < (x0.length : Int) then (if x1 = (rd x0 x8) then (some x8) else (slices_Index_int_int.l0 k x0 x1 x7 (wrap64 (x8 + 1)))) else (none)) else (none)) else (some (-1))
def slices_Index_int_int.f (k : Nat) (l0 : List Int) (a1 : Int) : Option (Int) := slices_Index_int_int.l0 k l0 a1 (l0.length : Int) 0
theorem slices_Index_int_int.mono_l : ∀ k, (∀ y0 y1 y2 y3, LeO (slices_Index_int_int.l0 k y0 y1 y2 y3) (slices_Index_int_int.l0 (k + 1) y0 y1 y2 y3))
 | 0 => fun _ _ _ _ r h => by simp [slices_Index_int_int.l0] at h
 | k + 1 => by
  have ih0:=slices_Index_int_int.mono_l k
  ·
   intro y0 y1 y2 y3
   unfold slices_Index_int_int.l0
   repeat' first
   | (with_reducible exact ih0 _ _ _ _)
   | (with_reducible exact LeO.refl _)
   | (with_reducible exact LeO.none _)
   | (with_reducible refine LeO.ite ?_ ?_)
   | (with_reducible refine LeO.bind ?_ (fun _ => ?_))
   | exact ih0 _ _ _ _
   | exact LeO.none _
   | refine LeO.ite ?_ ?_
   | refine LeO.bind ?_ (fun _ => ?_)
theorem slices_Index_int_int.mono : ∀ a0 a1 k, LeO (slices_Index_int_int.f k a0 a1) (slices_Index_int_int.f (k + 1) a0 a1) := by
 intro a0 a1 k
 have ih0:=slices_Index_int_int.mono_l k
 unfold slices_Index_int_int.f
 repeat' first
   | (with_reducible exact ih0 _ _ _ _)
   | (with_reducible exact LeO.refl _)
   | (with_reducible exact LeO.none _)
   | (with_reducible refine LeO.ite ?_ ?_)
   | (with_reducible refine LeO.bind ?_ (fun _ => ?_))
   | exact ih0 _ _ _ _
   | exact LeO.none _
   | refine LeO.ite ?_ ?_
   | refine LeO.bind ?_ (fun _ => ?_)
set_option maxHeartbeats 8000000 in
set_option maxRecDepth 100000 in
theorem slices_Index_int_int.calls (k : Nat) (A0 : Option Addr) (c0 : Nat) (l0 : List Int) (a1 : Int) (r : Int) (w : World) (hr0 : Kd.C (Kd.int .i64) w A0 l0.length l0) (hc0 : l0.length ≤ c0) (h : slices_Index_int_int.f k l0 a1 = some r) :
  Calls Try.prog 164 #[.slice A0 l0.length c0, .int .i64 a1] w fun e w' => e = .returned (.int .i64 r) ∧ Drawn0 w w' := by
 have HR0:=zA hr0;have HC0:=zA hc0;clear hr0 hc0
 have H : (slices_Index_int_int.l0 k l0 a1 (l0.length : Int) 0) = some r:=h
 clear h
 have H':=zA H
 clear H
 go_enter Try.func164,Try.ntmps164
 go_wp2
 go_loopg [8] k (fun kq v8 w' => ∃ (x8_1 : Int),v8 = .int .i64 x8_1 ∧ Aside0 (slices_Index_int_int.l0 kq l0 a1 (l0.length : Int) x8_1 = some r) ∧ Aside0 (kq ≤ k) ∧ Drawn0 w w')
 case atStart => exact ⟨(0),za,H',⟨Nat.le_refl _⟩,by repeat (first|exact Drawn0.refl _|apply Drawn0.step)⟩
 case round =>
  clear H';(try clear c1);(try clear p2);obtain ⟨x8_1,rfl,HA,HK1,⟨m1,rfl⟩⟩:=hrel
  cases gk with
  | zero => exact absurd HA.out (by simp [slices_Index_int_int.l0])
  | succ k1 =>
   have H:=HA.out;clear HA;simp only [slices_Index_int_int.l0] at H
   by_cases c3 : x8_1 < (l0.length : Int)
   ·
    rw [if_pos c3] at H;have c3b0:=decide_eq_true c3;clear c3
    by_cases c4 : 0 ≤ x8_1
    ·
     rw [if_pos c4] at H;have c4b0:=decide_eq_true c4;clear c4
     by_cases c5 : x8_1 < (l0.length : Int)
     ·
      rw [if_pos c5] at H;have c5b0:=decide_eq_true c5;clear c5
      by_cases c6 : a1 = (rd l0 x8_1)
      ·
       rw [if_pos c6] at H;have c6b0:=beq_iff_eq.mpr c6;have c6b1:=bne_eq_false_iff_eq.mpr c6;clear c6
       obtain rfl:=Option.some.inj H
       have p385 : 0 ≤ (x8_1 : Int):=zXb ze;have q385 : x8_1 < (l0.length : Int):=zXb ze;obtain ⟨ad385,e385,hx385_0⟩:=Kd.at_int HR0.out x8_1 p385 q385
       cases e385
       replace p385:=eq_true p385;replace q385:=eq_true q385
       go_wp2
       go_ret
       exact ⟨by first|rfl|(simp;done)|(simp [*];done),by repeat (first|exact Drawn0.refl _|apply Drawn0.step)⟩
      ·
       rw [if_neg c6] at H;have c6b0:=beq_eq_false_iff_ne.mpr c6;have c6b1:=bne_iff_ne.mpr c6
       have H':=zA H
       clear H;have p385 : 0 ≤ (x8_1 : Int):=zXb ze;have q385 : x8_1 < (l0.length : Int):=zXb ze;obtain ⟨ad385,e385,hx385_0⟩:=Kd.at_int HR0.out x8_1 p385 q385
       cases e385
       replace p385:=eq_true p385;replace q385:=eq_true q385
       go_wp2
       go_roundg k1
       case measure => have:=HK1.out;omega
       case rel => exact ⟨(wrap64 (x8_1 + 1)),za,H',⟨by have:=HK1.out;omega⟩,by repeat (first|exact Drawn0.refl _|apply Drawn0.step)⟩
     ·
      rw [if_neg c5] at H
      exact absurd H (by simp)
    ·
     rw [if_neg c4] at H
     exact absurd H (by simp)
   ·
    rw [if_neg c3] at H;have c3b0:=decide_eq_false c3;clear c3
    obtain rfl:=Option.some.inj H
    go_wp2
    go_ret
    exact ⟨by first|rfl|(simp;done)|(simp [*];done),by repeat (first|exact Drawn0.refl _|apply Drawn0.step)⟩

/-! ### slices_Contains_int_int: function 157 -/
def slices_Contains_int_int.f (k : Nat) (l0 : List Int) (a1 : Int) : Option (Bool) := (slices_Index_int_int.f k l0 a1).bind fun t386 => (some (decide (t386 ≥ 0)))
theorem slices_Contains_int_int.mono : ∀ a0 a1 k, LeO (slices_Contains_int_int.f k a0 a1) (slices_Contains_int_int.f (k + 1) a0 a1) := by
 intro a0 a1 k
 unfold slices_Contains_int_int.f
 repeat' first
   | (with_reducible exact slices_Index_int_int.mono _ _ _)
   | (with_reducible exact LeO.refl _)
   | (with_reducible exact LeO.none _)
   | (with_reducible refine LeO.ite ?_ ?_)
   | (with_reducible refine LeO.bind ?_ (fun _ => ?_))
   | exact LeO.none _
   | refine LeO.ite ?_ ?_
   | refine LeO.bind ?_ (fun _ => ?_)
set_option maxHeartbeats 8000000 in
set_option maxRecDepth 100000 in
theorem slices_Contains_int_int.calls (k : Nat) (A0 : Option Addr) (c0 : Nat) (l0 : List Int) (a1 : Int) (r : Bool) (w : World) (hr0 : Kd.C (Kd.int .i64) w A0 l0.length l0) (hc0 : l0.length ≤ c0) (h : slices_Contains_int_int.f k l0 a1 = some r) :
  Calls Try.prog 157 #[.slice A0 l0.length c0, .int .i64 a1] w fun e w' => e = .returned (.bool r) ∧ Drawn0 w w' := by
 have HR0:=zA hr0;have HC0:=zA hc0;clear hr0 hc0
 have H : ((slices_Index_int_int.f k l0 a1).bind fun t386 => (some (decide (t386 ≥ 0)))) = some r:=h
 clear h;replace H:=Option.bind_eq_some_iff.mp H;obtain ⟨t386,A30,H⟩:=H;(try dsimp only at H);have A3:=zA A30;clear A30
 obtain rfl:=Option.some.inj H
 go_enter Try.func157,Try.ntmps157
 go_wp2_with (first|((with_reducible refine gate_callee (f:=164) rfl ?_);refine goesL_ (some 7) rfl rfl Try.func164 (by kernel_rfl) rfl #[.slice A0 l0.length c0,.int .i64 a1] rfl (by (try simp only [zCb,zMb,zNb]);first|done|rfl|(simp only [zLb,zDb];rfl)) ?_;(with_reducible refine (slices_Index_int_int.calls k _ _ l0 a1 t386 _ ?side1 ?side2 A3.out).mono ?_);(case side1 => repeat (first|exact HR0.out|(with_reducible refine zBb ?_ _)|(with_reducible refine zAb ?_ _)|(with_reducible refine zX ?_)));(case side2 => exact HC0.out);rintro e w' ⟨rfl,⟨nd,rfl⟩⟩;refine ⟨_,rfl,?_⟩))
 go_ret
 exact ⟨by first|rfl|(simp;done)|(simp [*];done),by repeat (first|exact Drawn0.refl _|apply Drawn0.step)⟩

/-! ### impl_Query_occurs: function 135 -/
def impl_Query_occurs.l0 : Nat → Int → List (S115) → Int → Int → Option (Bool)
 | 0, _, _, _, _ => none
 | k + 1, x1, x8, x9, x10 => if x10 < x9 then (if 0 ≤ x10 then (if x10 < (x8.length : Int) then ((slices_Contains_int_int.f k ((rd_T115 x8 x10).f1) x1).bind fun t390 => (if t390 = true then (some true) else (impl_Query_occurs.l0 k x1 x8 x9 (wrap64 (x10 + 1))))) else (none)) else (none)) else (some false)
def impl_Query_occurs.f (k : Nat) (l0_0 : List Int) (l0_1 : List (S115)) (a1 : Int) : Option (Bool) := impl_Query_occurs.l0 k a1 l0_1 (l0_1.length : Int) 0
theorem impl_Query_occurs.mono_l : ∀ k, (∀ y0 y1 y2 y3, LeO (impl_Query_occurs.l0 k y0 y1 y2 y3) (impl_Query_occurs.l0 (k + 1) y0 y1 y2 y3))
 | 0 => fun _ _ _ _ r h => by simp [impl_Query_occurs.l0] at h
 | k + 1 => by
  have ih0:=impl_Query_occurs.mono_l k
  ·
   intro y0 y1 y2 y3
   unfold impl_Query_occurs.l0
   repeat' first
   | (with_reducible exact ih0 _ _ _ _)
   | (with_reducible exact slices_Contains_int_int.mono _ _ _)
   | (with_reducible exact LeO.refl _)
   | (with_reducible exact LeO.none _)
   | (with_reducible refine LeO.ite ?_ ?_)
   | (with_reducible refine LeO.bind ?_ (fun _ => ?_))
   | exact ih0 _ _ _ _
   | exact LeO.none _
   | refine LeO.ite ?_ ?_
   | refine LeO.bind ?_ (fun _ => ?_)
theorem impl_Query_occurs.mono : ∀ a0 a1 a2 k, LeO (impl_Query_occurs.f k a0 a1 a2) (impl_Query_occurs.f (k + 1) a0 a1 a2) := by
 intro a0 a1 a2 k
 have ih0:=impl_Query_occurs.mono_l k
 unfold impl_Query_occurs.f
 repeat' first
   | (with_reducible exact ih0 _ _ _ _)
   | (with_reducible exact slices_Contains_int_int.mono _ _ _)
   | (with_reducible exact LeO.refl _)
   | (with_reducible exact LeO.none _)
   | (with_reducible refine LeO.ite ?_ ?_)
   | (with_reducible refine LeO.bind ?_ (fun _ => ?_))
   | exact ih0 _ _ _ _
   | exact LeO.none _
   | refine LeO.ite ?_ ?_
   | refine LeO.bind ?_ (fun _ => ?_)
set_option maxHeartbeats 8000000 in
set_option maxRecDepth 100000 in
theorem impl_Query_occurs.calls (k : Nat) (A0_0 : Option Addr) (c0_0 : Nat) (l0_0 : List Int) (A0_1 : Option Addr) (c0_1 : Nat) (l0_1 : List (S115)) (a1 : Int) (r : Bool) (w : World) (hr0_0 : Kd.C (Kd.int .i64) w A0_0 l0_0.length l0_0) (hc0_0 : l0_0.length ≤ c0_0) (hr0_1 : Kd.C k115 w A0_1 l0_1.length l0_1) (hc0_1 : l0_1.length ≤ c0_1) (h : impl_Query_occurs.f k l0_0 l0_1 a1 = some r) :
  Calls Try.prog 135 #[.agg #[.slice A0_0 l0_0.length c0_0, .slice A0_1 l0_1.length c0_1], .int .i64 a1] w fun e w' => e = .returned (.bool r) ∧ Below w.heap.size w w' := by
 have hu61:=Try.underlying61;have hu115:=Try.underlying115;have HR0_0:=zA hr0_0;have HC0_0:=zA hc0_0;clear hr0_0 hc0_0;have HR0_1:=zA hr0_1;have HC0_1:=zA hc0_1;clear hr0_1 hc0_1;have HB:=zA (Below.refl w.heap.size w)
 have H : (impl_Query_occurs.l0 k a1 l0_1 (l0_1.length : Int) 0) = some r:=h
 clear h
 have H':=zA H
 clear H
 go_enter Try.func135,Try.ntmps135
 go_wp2_with (first|((with_reducible refine gate_dst (N:=2) rfl ?_);refine box_event ?hg (N:=2) ?hd (cs:=#[.slice A0_0 l0_0.length c0_0,.slice A0_1 l0_1.length c0_1]) (t:=61) ?hr ?_;(case hd => rfl);(case hg => rfl);(case hr => first|(go_simp;done)|(go_simp;rfl));intro gb387 hg w3 hbox hb;have BK387:=zA (hbox);have GW387:=zA ((by rw [hg];exact (zT (zz HB)) : w.heap.size ≤ gb387));have GE387:=zA ((by rw [hg];exact (zT (zz HB)) : w.heap.size ≤ gb387));replace HB:=zA (zJb (zz HB) hb);clear hb hbox hg;have hcz4_0:=zc (.slice A0_0 l0_0.length c0_0) BK387 0 rfl;have hcz4_1:=zc (.slice A0_1 l0_1.length c0_1) BK387 1 rfl;have hfz4_0:=blk_frozen BK387.out 0;have hfz4_1:=blk_frozen BK387.out 1))
 go_loopg [10] k (fun kq v10 w' => ∃ (x10_1 : Int),v10 = .int .i64 x10_1 ∧ Aside0 (impl_Query_occurs.l0 kq a1 l0_1 (l0_1.length : Int) x10_1 = some r) ∧ Aside0 (kq ≤ k) ∧ Aside0 (w'.heap[gb387]? = some (.cells #[(.slice A0_0 l0_0.length c0_0),(.slice A0_1 l0_1.length c0_1)] 61 (0,0))) ∧ Aside0 (Below w.heap.size w w'))
 case atStart => exact ⟨(0),za,H',⟨Nat.le_refl _⟩,⟨zx BK387⟩,⟨zz HB⟩⟩
 case round =>
  clear H';(try clear c1);(try clear p2);(try clear hcz4_0);(try clear hcz4_1);(try clear hfz4_0);(try clear hfz4_1);obtain ⟨x10_1,rfl,HA,HK1,BK387,HB⟩:=hrel
  cases gk with
  | zero => exact absurd HA.out (by simp [impl_Query_occurs.l0])
  | succ k1 =>
   have H:=HA.out;clear HA;simp only [impl_Query_occurs.l0] at H
   by_cases c5 : x10_1 < (l0_1.length : Int)
   ·
    rw [if_pos c5] at H;have c5b0:=decide_eq_true c5;clear c5
    by_cases c6 : 0 ≤ x10_1
    ·
     rw [if_pos c6] at H;have c6b0:=decide_eq_true c6;clear c6
     by_cases c7 : x10_1 < (l0_1.length : Int)
     ·
      rw [if_pos c7] at H;have c7b0:=decide_eq_true c7;clear c7;replace H:=Option.bind_eq_some_iff.mp H;obtain ⟨t390,A80,H⟩:=H;(try dsimp only at H);have A8:=zA A80;clear A80
      by_cases c9 : t390 = true
      ·
       subst c9
       rw [if_pos rfl] at H
       obtain rfl:=Option.some.inj H
       have p388 : 0 ≤ (x10_1 : Int):=zXb ze;have q388 : x10_1 < (l0_1.length : Int):=zXb ze;obtain ⟨ad388,A388_1,c388_1,e388,hx388_0,hx388_1,hl388_1,hi388_1⟩:=at_T115 HR0_1.out x10_1 p388 q388
       cases e388
       replace hx388_0:=(HB.out.cell (World.block_lt_of_cell? w _ hx388_0)).trans hx388_0;replace hx388_1:=(HB.out.cell (World.block_lt_of_cell? w _ hx388_1)).trans hx388_1;have HR388_1:=zA hi388_1;have HC388_1:=zA hl388_1;clear hi388_1 hl388_1;replace p388:=eq_true p388;replace q388:=eq_true q388
       go_wp2_with (first|((with_reducible refine gate_dst (N:=6) rfl ?_);refine box_event ?hg (N:=6) ?hd (cs:=#[.int .i64 0,.slice none 0 0]) (t:=115) ?hr ?_;(case hd => rfl);(case hg => rfl);(case hr => first|(go_simp;done)|(go_simp;rfl));intro gb389 hg w10 hbox hb;have BK389:=zA (hbox);have GW389:=zA ((by rw [hg];exact (zT (zz HB)) : w.heap.size ≤ gb389));have GE389:=zA ((by rw [hg];exact (zT (zz HB)) : w.heap.size ≤ gb389));replace HB:=zA (zJb (zz HB) hb);have NB387_389:=zA ((by rw [hg];exact Nat.ne_of_lt (blk_lt (g:=gb387) (o:=.cells #[.slice A0_0 l0_0.length c0_0,.slice (some ad388) l0_1.length c0_1] 61 (0,0)) (zx BK387)) : gb387 ≠ gb389));have NB389_387:=zA ((by rw [hg];exact Nat.ne_of_gt (blk_lt (g:=gb387) (o:=.cells #[.slice A0_0 l0_0.length c0_0,.slice (some ad388) l0_1.length c0_1] 61 (0,0)) (zx BK387)) : gb389 ≠ gb387));replace BK387:=zA (zQ (g:=gb387) (o:=.cells #[.slice A0_0 l0_0.length c0_0,.slice (some ad388) l0_1.length c0_1] 61 (0,0)) (zx BK387) hb);clear hb hbox hg;have hnb11:=NB389_387.out;have hnc11:=NB387_389.out;have hcz12_0:=zc (.int .i64 0) BK389 0 rfl;have hcz12_1:=zc (.slice none 0 0) BK389 1 rfl;have hfz12_0:=blk_frozen BK389.out 0;have hfz12_1:=blk_frozen BK389.out 1)|((with_reducible refine gate_callee (f:=157) rfl ?_);refine goesL_ (some 17) rfl rfl Try.func157 (by kernel_rfl) rfl #[.slice A388_1 ((rd_T115 l0_1 x10_1).f1).length c388_1,.int .i64 a1] rfl (by (try simp only [zCb,zMb,zNb]);first|done|rfl|(simp only [zLb,zDb];rfl)) ?_;(with_reducible refine (slices_Contains_int_int.calls k1 _ _ ((rd_T115 l0_1 x10_1).f1) a1 true _ ?side1 ?side2 A8.out).mono ?_);(case side1 => exact zKb HR388_1.out (zz HB));(case side2 => exact HC388_1.out);rintro e w' ⟨rfl,⟨nd,rfl⟩⟩;refine ⟨_,rfl,?_⟩))
       go_ret
       exact ⟨by first|rfl|(simp [errW_none,errW_some] <;> rfl)|(simp [*,errW_none,errW_some] <;> rfl),zz HB⟩
      ·
       replace c9:=Bool.eq_false_iff.mpr c9
       subst c9
       have H1 : (impl_Query_occurs.l0 k1 a1 l0_1 (l0_1.length : Int) (wrap64 (x10_1 + 1))) = some r:=by rw [if_neg (show ¬ (false = true) by decide)] at H;exact H
       clear H;have H:=H1;clear H1
       have H':=zA H
       clear H;have p388 : 0 ≤ (x10_1 : Int):=zXb ze;have q388 : x10_1 < (l0_1.length : Int):=zXb ze;obtain ⟨ad388,A388_1,c388_1,e388,hx388_0,hx388_1,hl388_1,hi388_1⟩:=at_T115 HR0_1.out x10_1 p388 q388
       cases e388
       replace hx388_0:=(HB.out.cell (World.block_lt_of_cell? w _ hx388_0)).trans hx388_0;replace hx388_1:=(HB.out.cell (World.block_lt_of_cell? w _ hx388_1)).trans hx388_1;have HR388_1:=zA hi388_1;have HC388_1:=zA hl388_1;clear hi388_1 hl388_1;replace p388:=eq_true p388;replace q388:=eq_true q388
       go_wp2_with (first|((with_reducible refine gate_dst (N:=6) rfl ?_);refine box_event ?hg (N:=6) ?hd (cs:=#[.int .i64 0,.slice none 0 0]) (t:=115) ?hr ?_;(case hd => rfl);(case hg => rfl);(case hr => first|(go_simp;done)|(go_simp;rfl));intro gb389 hg w13 hbox hb;have BK389:=zA (hbox);have GW389:=zA ((by rw [hg];exact (zT (zz HB)) : w.heap.size ≤ gb389));have GE389:=zA ((by rw [hg];exact (zT (zz HB)) : w.heap.size ≤ gb389));replace HB:=zA (zJb (zz HB) hb);have NB387_389:=zA ((by rw [hg];exact Nat.ne_of_lt (blk_lt (g:=gb387) (o:=.cells #[.slice A0_0 l0_0.length c0_0,.slice (some ad388) l0_1.length c0_1] 61 (0,0)) (zx BK387)) : gb387 ≠ gb389));have NB389_387:=zA ((by rw [hg];exact Nat.ne_of_gt (blk_lt (g:=gb387) (o:=.cells #[.slice A0_0 l0_0.length c0_0,.slice (some ad388) l0_1.length c0_1] 61 (0,0)) (zx BK387)) : gb389 ≠ gb387));replace BK387:=zA (zQ (g:=gb387) (o:=.cells #[.slice A0_0 l0_0.length c0_0,.slice (some ad388) l0_1.length c0_1] 61 (0,0)) (zx BK387) hb);clear hb hbox hg;have hnb14:=NB389_387.out;have hnc14:=NB387_389.out;have hcz15_0:=zc (.int .i64 0) BK389 0 rfl;have hcz15_1:=zc (.slice none 0 0) BK389 1 rfl;have hfz15_0:=blk_frozen BK389.out 0;have hfz15_1:=blk_frozen BK389.out 1)|((with_reducible refine gate_callee (f:=157) rfl ?_);refine goesL_ (some 17) rfl rfl Try.func157 (by kernel_rfl) rfl #[.slice A388_1 ((rd_T115 l0_1 x10_1).f1).length c388_1,.int .i64 a1] rfl (by (try simp only [zCb,zMb,zNb]);first|done|rfl|(simp only [zLb,zDb];rfl)) ?_;(with_reducible refine (slices_Contains_int_int.calls k1 _ _ ((rd_T115 l0_1 x10_1).f1) a1 false _ ?side1 ?side2 A8.out).mono ?_);(case side1 => exact zKb HR388_1.out (zz HB));(case side2 => exact HC388_1.out);rintro e w' ⟨rfl,⟨nd,rfl⟩⟩;refine ⟨_,rfl,?_⟩))
       go_roundg k1
       case measure => have:=HK1.out;omega
       case rel => exact ⟨(wrap64 (x10_1 + 1)),za,H',⟨by have:=HK1.out;omega⟩,⟨by (with_reducible repeat (first|refine zF ?_ _|refine zI ?_|refine zG ?_ _));refine zUb ?_ NB387_389.out _;(with_reducible repeat (first|refine zF ?_ _|refine zI ?_|refine zG ?_ _));refine zUb ?_ NB387_389.out _;(with_reducible repeat (first|refine zF ?_ _|refine zI ?_|refine zG ?_ _));exact BK387.out⟩,⟨zz HB⟩⟩
     ·
      rw [if_neg c7] at H
      exact absurd H (by simp)
    ·
     rw [if_neg c6] at H
     exact absurd H (by simp)
   ·
    rw [if_neg c5] at H;have c5b0:=decide_eq_false c5;clear c5
    obtain rfl:=Option.some.inj H
    go_wp2
    go_ret
    exact ⟨by first|rfl|(simp [errW_none,errW_some] <;> rfl)|(simp [*,errW_none,errW_some] <;> rfl),zz HB⟩

/-! ### impl_Query_isSafe: function 103 -/
def impl_Query_isSafe.l0 : Nat → List Int → Int → Int → List Int → List (S115) → Option (Bool)
 | 0, _, _, _, _, _ => none
 | k + 1, x6, x7, x8, x392000, x392001 => if x8 < x7 then (if 0 ≤ x8 then (if x8 < (x6.length : Int) then ((impl_IsVar.f (rd x6 x8)).bind fun t393 => (if t393 = true then ((impl_Query_occurs.f k x392000 x392001 (rd x6 x8)).bind fun t394 => (if t394 = true then (impl_Query_isSafe.l0 k x6 x7 (wrap64 (x8 + 1)) x392000 x392001) else (some false))) else (impl_Query_isSafe.l0 k x6 x7 (wrap64 (x8 + 1)) x392000 x392001))) else (none)) else (none)) else (some true)
def impl_Query_isSafe.f (k : Nat) (l0_0 : List Int) (l0_1 : List (S115)) : Option (Bool) := impl_Query_isSafe.l0 k l0_0 (l0_0.length : Int) 0 l0_0 l0_1
theorem impl_Query_isSafe.mono_l : ∀ k, (∀ y0 y1 y2 y3 y4, LeO (impl_Query_isSafe.l0 k y0 y1 y2 y3 y4) (impl_Query_isSafe.l0 (k + 1) y0 y1 y2 y3 y4))
 | 0 => fun _ _ _ _ _ r h => by simp [impl_Query_isSafe.l0] at h
 | k + 1 => by
  have ih0:=impl_Query_isSafe.mono_l k
  ·
   intro y0 y1 y2 y3 y4
   unfold impl_Query_isSafe.l0
   repeat' first
   | (with_reducible exact ih0 _ _ _ _ _)
   | (with_reducible exact impl_Query_occurs.mono _ _ _ _)
   | (with_reducible exact LeO.refl _)
   | (with_reducible exact LeO.none _)
   | (with_reducible refine LeO.ite ?_ ?_)
   | (with_reducible refine LeO.bind ?_ (fun _ => ?_))
   | exact ih0 _ _ _ _ _
   | exact LeO.none _
   | refine LeO.ite ?_ ?_
   | refine LeO.bind ?_ (fun _ => ?_)
theorem impl_Query_isSafe.mono : ∀ a0 a1 k, LeO (impl_Query_isSafe.f k a0 a1) (impl_Query_isSafe.f (k + 1) a0 a1) := by
 intro a0 a1 k
 have ih0:=impl_Query_isSafe.mono_l k
 unfold impl_Query_isSafe.f
 repeat' first
   | (with_reducible exact ih0 _ _ _ _ _)
   | (with_reducible exact impl_Query_occurs.mono _ _ _ _)
   | (with_reducible exact LeO.refl _)
   | (with_reducible exact LeO.none _)
   | (with_reducible refine LeO.ite ?_ ?_)
   | (with_reducible refine LeO.bind ?_ (fun _ => ?_))
   | exact ih0 _ _ _ _ _
   | exact LeO.none _
   | refine LeO.ite ?_ ?_
   | refine LeO.bind ?_ (fun _ => ?_)
set_option maxHeartbeats 8000000 in
set_option maxRecDepth 100000 in
theorem impl_Query_isSafe.calls (k : Nat) (A0_0 : Option Addr) (c0_0 : Nat) (l0_0 : List Int) (A0_1 : Option Addr) (c0_1 : Nat) (l0_1 : List (S115)) (r : Bool) (w : World) (hr0_0 : Kd.C (Kd.int .i64) w A0_0 l0_0.length l0_0) (hc0_0 : l0_0.length ≤ c0_0) (hr0_1 : Kd.C k115 w A0_1 l0_1.length l0_1) (hc0_1 : l0_1.length ≤ c0_1) (h : impl_Query_isSafe.f k l0_0 l0_1 = some r) :
  Calls Try.prog 103 #[.agg #[.slice A0_0 l0_0.length c0_0, .slice A0_1 l0_1.length c0_1]] w fun e w' => e = .returned (.bool r) ∧ Below w.heap.size w w' := by
 have hu61:=Try.underlying61;have HR0_0:=zA hr0_0;have HC0_0:=zA hc0_0;clear hr0_0 hc0_0;have HR0_1:=zA hr0_1;have HC0_1:=zA hc0_1;clear hr0_1 hc0_1;have HB:=zA (Below.refl w.heap.size w)
 have H : (impl_Query_isSafe.l0 k l0_0 (l0_0.length : Int) 0 l0_0 l0_1) = some r:=h
 clear h
 have H':=zA H
 clear H
 go_enter Try.func103,Try.ntmps103
 go_wp2_with (first|((with_reducible refine gate_dst (N:=1) rfl ?_);refine box_event ?hg (N:=1) ?hd (cs:=#[.slice A0_0 l0_0.length c0_0,.slice A0_1 l0_1.length c0_1]) (t:=61) ?hr ?_;(case hd => rfl);(case hg => rfl);(case hr => first|(go_simp;done)|(go_simp;rfl));intro gb391 hg w2 hbox hb;have BK391:=zA (hbox);have GW391:=zA ((by rw [hg];exact (zT (zz HB)) : w.heap.size ≤ gb391));have GE391:=zA ((by rw [hg];exact (zT (zz HB)) : w.heap.size ≤ gb391));replace HB:=zA (zJb (zz HB) hb);clear hb hbox hg;have hcz3_0:=zc (.slice A0_0 l0_0.length c0_0) BK391 0 rfl;have hcz3_1:=zc (.slice A0_1 l0_1.length c0_1) BK391 1 rfl;have hfz3_0:=blk_frozen BK391.out 0;have hfz3_1:=blk_frozen BK391.out 1))
 go_loopg [8] k (fun kq v8 w' => ∃ (x8_1 : Int),v8 = .int .i64 x8_1 ∧ Aside0 (impl_Query_isSafe.l0 kq l0_0 (l0_0.length : Int) x8_1 l0_0 l0_1 = some r) ∧ Aside0 (kq ≤ k) ∧ Aside0 (w'.heap[gb391]? = some (.cells #[(.slice A0_0 l0_0.length c0_0),(.slice A0_1 l0_1.length c0_1)] 61 (0,0))) ∧ Aside0 (Below w.heap.size w w'))
 case atStart => exact ⟨(0),za,H',⟨Nat.le_refl _⟩,⟨zx BK391⟩,⟨zz HB⟩⟩
 case round =>
  clear H';(try clear c1);(try clear p2);(try clear hcz3_0);(try clear hcz3_1);(try clear hfz3_0);(try clear hfz3_1);obtain ⟨x8_1,rfl,HA,HK1,BK391,HB⟩:=hrel
  cases gk with
  | zero => exact absurd HA.out (by simp [impl_Query_isSafe.l0])
  | succ k1 =>
   have H:=HA.out;clear HA;simp only [impl_Query_isSafe.l0] at H
   by_cases c4 : x8_1 < (l0_0.length : Int)
   ·
    rw [if_pos c4] at H;have c4b0:=decide_eq_true c4;clear c4
    by_cases c5 : 0 ≤ x8_1
    ·
     rw [if_pos c5] at H;have c5b0:=decide_eq_true c5;clear c5
     by_cases c6 : x8_1 < (l0_0.length : Int)
     ·
      rw [if_pos c6] at H;have c6b0:=decide_eq_true c6;clear c6;replace H:=Option.bind_eq_some_iff.mp H;obtain ⟨t393,A70,H⟩:=H;(try dsimp only at H);have A7:=zA A70;clear A70
      by_cases c8 : t393 = true
      ·
       subst c8
       rw [if_pos rfl] at H;replace H:=Option.bind_eq_some_iff.mp H;obtain ⟨t394,A90,H⟩:=H;(try dsimp only at H);have A9:=zA A90;clear A90
       by_cases c10 : t394 = true
       ·
        subst c10
        rw [if_pos rfl] at H
        have H':=zA H
        clear H;have p392 : 0 ≤ (x8_1 : Int):=zXb ze;have q392 : x8_1 < (l0_0.length : Int):=zXb ze;obtain ⟨ad392,e392,hx392_0⟩:=Kd.at_int HR0_0.out x8_1 p392 q392
        cases e392
        replace hx392_0:=(HB.out.cell (World.block_lt_of_cell? w _ hx392_0)).trans hx392_0;replace p392:=eq_true p392;replace q392:=eq_true q392
        go_wp2_with (first|((with_reducible refine gate_callee (f:=134) rfl ?_);refine goesL_ (some 13) rfl rfl Try.func134 (by kernel_rfl) rfl #[.int .i64 (rd l0_0 x8_1)] rfl (by (try simp only [zCb,zMb,zNb]);first|done|rfl|(simp only [zLb,zDb];rfl)) ?_;(with_reducible refine (impl_IsVar.calls (rd l0_0 x8_1) true _ A7.out).mono ?_);rintro e w' ⟨rfl,⟨nd,rfl⟩⟩;refine ⟨_,rfl,?_⟩;have hcz11_0:=zc (.slice (some ad392) l0_0.length c0_0) BK391 0 rfl;have hcz11_1:=zc (.slice A0_1 l0_1.length c0_1) BK391 1 rfl;have hfz11_0:=blk_frozen BK391.out 0;have hfz11_1:=blk_frozen BK391.out 1)|(go_at_call 135;(with_reducible refine (impl_Query_occurs.calls k1 _ _ l0_0 _ _ l0_1 (rd l0_0 x8_1) true _ ?side1 ?side2 ?side3 ?side4 A9.out).mono ?_);(case side1 => repeat (first|exact (zKb HR0_0.out (zz HB))|(with_reducible refine zBb ?_ _)|(with_reducible refine zAb ?_ _)|(with_reducible refine zX ?_)));(case side2 => exact HC0_0.out);(case side3 => repeat (first|exact (zKb HR0_1.out (zz HB))|(with_reducible refine zBb ?_ _)|(with_reducible refine zAb ?_ _)|(with_reducible refine zX ?_)));(case side4 => exact HC0_1.out);rintro e w12 ⟨rfl,hb⟩;replace BK391:=zA (zQ (g:=gb391) (o:=.cells #[.slice (some ad392) l0_0.length c0_0,.slice A0_1 l0_1.length c0_1] 61 (0,0)) (zx BK391) hb);replace HB:=zA (zJb (zz HB) hb);(try clear hb);(try clear hb2);(try clear hk);(try clear hi)))
        go_roundg k1
        case measure => have:=HK1.out;omega
        case rel => exact ⟨(wrap64 (x8_1 + 1)),za,H',⟨by have:=HK1.out;omega⟩,⟨zx BK391⟩,⟨zz HB⟩⟩
       ·
        replace c10:=Bool.eq_false_iff.mpr c10
        subst c10
        have H1 : (some false) = some r:=by rw [if_neg (show ¬ (false = true) by decide)] at H;exact H
        clear H;have H:=H1;clear H1
        obtain rfl:=Option.some.inj H
        have p392 : 0 ≤ (x8_1 : Int):=zXb ze;have q392 : x8_1 < (l0_0.length : Int):=zXb ze;obtain ⟨ad392,e392,hx392_0⟩:=Kd.at_int HR0_0.out x8_1 p392 q392
        cases e392
        replace hx392_0:=(HB.out.cell (World.block_lt_of_cell? w _ hx392_0)).trans hx392_0;replace p392:=eq_true p392;replace q392:=eq_true q392
        go_wp2_with (first|((with_reducible refine gate_callee (f:=134) rfl ?_);refine goesL_ (some 13) rfl rfl Try.func134 (by kernel_rfl) rfl #[.int .i64 (rd l0_0 x8_1)] rfl (by (try simp only [zCb,zMb,zNb]);first|done|rfl|(simp only [zLb,zDb];rfl)) ?_;(with_reducible refine (impl_IsVar.calls (rd l0_0 x8_1) true _ A7.out).mono ?_);rintro e w' ⟨rfl,⟨nd,rfl⟩⟩;refine ⟨_,rfl,?_⟩;have hcz13_0:=zc (.slice (some ad392) l0_0.length c0_0) BK391 0 rfl;have hcz13_1:=zc (.slice A0_1 l0_1.length c0_1) BK391 1 rfl;have hfz13_0:=blk_frozen BK391.out 0;have hfz13_1:=blk_frozen BK391.out 1)|(go_at_call 135;(with_reducible refine (impl_Query_occurs.calls k1 _ _ l0_0 _ _ l0_1 (rd l0_0 x8_1) false _ ?side1 ?side2 ?side3 ?side4 A9.out).mono ?_);(case side1 => repeat (first|exact (zKb HR0_0.out (zz HB))|(with_reducible refine zBb ?_ _)|(with_reducible refine zAb ?_ _)|(with_reducible refine zX ?_)));(case side2 => exact HC0_0.out);(case side3 => repeat (first|exact (zKb HR0_1.out (zz HB))|(with_reducible refine zBb ?_ _)|(with_reducible refine zAb ?_ _)|(with_reducible refine zX ?_)));(case side4 => exact HC0_1.out);rintro e w14 ⟨rfl,hb⟩;replace BK391:=zA (zQ (g:=gb391) (o:=.cells #[.slice (some ad392) l0_0.length c0_0,.slice A0_1 l0_1.length c0_1] 61 (0,0)) (zx BK391) hb);replace HB:=zA (zJb (zz HB) hb);(try clear hb);(try clear hb2);(try clear hk);(try clear hi)))
        go_ret
        exact ⟨by first|rfl|(simp [errW_none,errW_some] <;> rfl)|(simp [*,errW_none,errW_some] <;> rfl),zz HB⟩
      ·
       replace c8:=Bool.eq_false_iff.mpr c8
       subst c8
       have H1 : (impl_Query_isSafe.l0 k1 l0_0 (l0_0.length : Int) (wrap64 (x8_1 + 1)) l0_0 l0_1) = some r:=by rw [if_neg (show ¬ (false = true) by decide)] at H;exact H
       clear H;have H:=H1;clear H1
       have H':=zA H
       clear H;have p392 : 0 ≤ (x8_1 : Int):=zXb ze;have q392 : x8_1 < (l0_0.length : Int):=zXb ze;obtain ⟨ad392,e392,hx392_0⟩:=Kd.at_int HR0_0.out x8_1 p392 q392
       cases e392
       replace hx392_0:=(HB.out.cell (World.block_lt_of_cell? w _ hx392_0)).trans hx392_0;replace p392:=eq_true p392;replace q392:=eq_true q392
       go_wp2_with (first|((with_reducible refine gate_callee (f:=134) rfl ?_);refine goesL_ (some 13) rfl rfl Try.func134 (by kernel_rfl) rfl #[.int .i64 (rd l0_0 x8_1)] rfl (by (try simp only [zCb,zMb,zNb]);first|done|rfl|(simp only [zLb,zDb];rfl)) ?_;(with_reducible refine (impl_IsVar.calls (rd l0_0 x8_1) false _ A7.out).mono ?_);rintro e w' ⟨rfl,⟨nd,rfl⟩⟩;refine ⟨_,rfl,?_⟩))
       go_roundg k1
       case measure => have:=HK1.out;omega
       case rel => exact ⟨(wrap64 (x8_1 + 1)),za,H',⟨by have:=HK1.out;omega⟩,⟨zx BK391⟩,⟨zz HB⟩⟩
     ·
      rw [if_neg c6] at H
      exact absurd H (by simp)
    ·
     rw [if_neg c5] at H
     exact absurd H (by simp)
   ·
    rw [if_neg c4] at H;have c4b0:=decide_eq_false c4;clear c4
    obtain rfl:=Option.some.inj H
    go_wp2
    go_ret
    exact ⟨by first|rfl|(simp [errW_none,errW_some] <;> rfl)|(simp [*,errW_none,errW_some] <;> rfl),zz HB⟩

end Go.Proofs.Ytfelabhakgcifaa.QFnExactIsAnswer
