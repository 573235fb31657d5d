/- Walks through the Go functions that FnExactIsAnswer reaches: each call returns what the Lean function beside it says, within the bounds that the theorem names. -/
import Derived.Test.YtfelabhakgcifaaQFnExactIsAnswerx0
namespace Go.Proofs.Ytfelabhakgcifaa.QFnExactIsAnswer
open Go.RowKit Go.Proofs.YtfelabhakgcifaaW.PrintWords Go.Proofs.YtfelabhakgcifaaW.PrintLast Go.Proofs.YtfelabhakgcifaaW.PrintMore
attribute [local go_sem] max2_int min2_int max_two min_two max_three min_three max_four min_four   -- for this text's walks alone
set_option linter.unusedVariables false
set_option linter.unusedSimpArgs false


/-! ### spec_l2Less: function 93 -/
mutual
def spec_l2Less.l0 : Nat → List Int → List Int → Int → Option (Bool)
 | 0, _, _, _ => none
 | k + 1, x0, x1, x5 => if x5 < (x0.length : Int) then (spec_l2Less.j1 k x0 x1 x5 (decide (x5 < (x1.length : Int)))) else (spec_l2Less.j1 k x0 x1 x5 false)
def spec_l2Less.j1 : Nat → List Int → List Int → Int → Bool → Option (Bool)
 | 0, _, _, _, _ => none
 | k + 1, x0, x1, x5, x15 => if x15 = true then (if 0 ≤ x5 then (if x5 < (x0.length : Int) then (if x5 < (x1.length : Int) then (if (rd x0 x5) = (rd x1 x5) then (spec_l2Less.l0 k x0 x1 (wrap64 (x5 + 1))) else (some (decide ((rd x0 x5) < (rd x1 x5))))) else (none)) else (none)) else (none)) else (some (decide ((x0.length : Int) < (x1.length : Int))))
end
def spec_l2Less.f (k : Nat) (l0 : List Int) (l1 : List Int) : Option (Bool) := spec_l2Less.l0 k l0 l1 0
theorem spec_l2Less.mono_l : ∀ k, (∀ y0 y1 y2, LeO (spec_l2Less.l0 k y0 y1 y2) (spec_l2Less.l0 (k + 1) y0 y1 y2)) ∧ (∀ y0 y1 y2 y3, LeO (spec_l2Less.j1 k y0 y1 y2 y3) (spec_l2Less.j1 (k + 1) y0 y1 y2 y3))
 | 0 => ⟨fun _ _ _ r h => by simp [spec_l2Less.l0] at h, fun _ _ _ _ r h => by simp [spec_l2Less.j1] at h⟩
 | k + 1 => by
  obtain ⟨ih0,ih1⟩:=spec_l2Less.mono_l k
  refine ⟨?_,?_⟩
  (intros;unfold spec_l2Less.l0;rotate_left)
  (intros;unfold spec_l2Less.j1;rotate_left)
  all_goals repeat' first
  | (with_reducible exact ih0 _ _ _)
  | (with_reducible exact ih1 _ _ _ _)
  | (with_reducible exact LeO.refl _)
  | (with_reducible exact LeO.none _)
  | (with_reducible refine LeO.ite ?_ ?_)
  | (with_reducible refine LeO.bind ?_ (fun _ => ?_))
  | exact ih0 _ _ _
  | exact ih1 _ _ _ _
  | exact LeO.none _
  | refine LeO.ite ?_ ?_
  | refine LeO.bind ?_ (fun _ => ?_)
theorem spec_l2Less.mono : ∀ a0 a1 k, LeO (spec_l2Less.f k a0 a1) (spec_l2Less.f (k + 1) a0 a1) := by
 intro a0 a1 k
 obtain ⟨ih0,ih1⟩:=spec_l2Less.mono_l k
 unfold spec_l2Less.f
 repeat' first
   | (with_reducible exact ih0 _ _ _)
   | (with_reducible exact ih1 _ _ _ _)
   | (with_reducible exact LeO.refl _)
   | (with_reducible exact LeO.none _)
   | (with_reducible refine LeO.ite ?_ ?_)
   | (with_reducible refine LeO.bind ?_ (fun _ => ?_))
   | exact ih0 _ _ _
   | exact ih1 _ _ _ _
   | exact LeO.none _
   | refine LeO.ite ?_ ?_
   | refine LeO.bind ?_ (fun _ => ?_)
set_option maxHeartbeats 8000000 in
set_option maxRecDepth 100000 in
theorem spec_l2Less.calls (k : Nat) (A0 : Option Addr) (c0 : Nat) (l0 : List Int) (A1 : Option Addr) (c1 : Nat) (l1 : List Int) (r : Bool) (w : World) (hr0 : Kd.C (Kd.int .i64) w A0 l0.length l0) (hc0 : l0.length ≤ c0) (hr1 : Kd.C (Kd.int .i64) w A1 l1.length l1) (hc1 : l1.length ≤ c1) (h : spec_l2Less.f k l0 l1 = some r) :
  Calls Try.prog 93 #[.slice A0 l0.length c0, .slice A1 l1.length c1] w fun e w' => e = .returned (.bool r) ∧ Drawn0 w w' := by
 have HR0:=zA hr0;have HC0:=zA hc0;clear hr0 hc0;have HR1:=zA hr1;have HC1:=zA hc1;clear hr1 hc1
 have H : (spec_l2Less.l0 k l0 l1 0) = some r:=h
 clear h
 have H':=zA H
 clear H
 go_enter Try.func93,Try.ntmps93
 go_wp2
 repeat (go_quiet (fail);try go_wp2)
 go_loopg [5] k (fun kq v5 w' => ∃ (x5_1 : Int),v5 = .int .i64 x5_1 ∧ Aside0 (spec_l2Less.l0 kq l0 l1 x5_1 = some r) ∧ Aside0 (kq ≤ k) ∧ Drawn0 w w')
 case atStart => exact ⟨(0),za,H',⟨Nat.le_refl _⟩,by repeat (first|exact Drawn0.refl _|apply Drawn0.step)⟩
 case round =>
  clear H';(try clear c1);(try clear p2);obtain ⟨x5_1,rfl,HA,HK1,⟨m1,rfl⟩⟩:=hrel
  cases gk with
  | zero => exact absurd HA.out (by simp [spec_l2Less.l0])
  | succ k1 =>
   have H:=HA.out;clear HA;simp only [spec_l2Less.l0] at H;have HC3:=zA H;clear H
   go_upto_region 2 with (fail)
   repeat (go_quiet (fail);go_upto_region 2 with (fail))
   go_cut [15] (fun v15 wc => ∃ (kq : Nat) (x15_2 : Bool),v15 = .bool x15_2 ∧ Aside0 (spec_l2Less.j1 kq l0 l1 x5_1 x15_2 = some r) ∧ Aside0 (kq ≤ k1) ∧ Drawn0 w wc)
   case first =>
    have H:=HC3.out;clear HC3
    by_cases c4 : x5_1 < (l0.length : Int)
    ·
     rw [if_pos c4] at H;have c4b0:=decide_eq_true c4;clear c4
     (first|rw [c4b0]|(simp only [i64_w,i32_w];rw [c4b0])|skip)
     have H':=zA H
     clear H
     go_wp2
     repeat (go_quiet (fail);try go_wp2)
     go_meet
     case rel => exact ⟨_,(decide (x5_1 < (l1.length : Int))),za,H',⟨by have:=HK1.out;first|omega|exact Nat.le_refl _⟩,by repeat (first|exact Drawn0.refl _|apply Drawn0.step)⟩
    ·
     rw [if_neg c4] at H;have c4b0:=decide_eq_false c4;clear c4
     (first|rw [c4b0]|(simp only [i64_w,i32_w];rw [c4b0])|skip)
     have H':=zA H
     clear H
     go_wp2
     repeat (go_quiet (fail);try go_wp2)
     go_meet
     case rel => exact ⟨_,(false),za,H',⟨by have:=HK1.out;first|omega|exact Nat.le_refl _⟩,by repeat (first|exact Drawn0.refl _|apply Drawn0.step)⟩
   case rest =>
    clear HC3;(try clear c1);(try clear p2);(try clear c4);(try clear c4b0);(try clear p2);obtain ⟨kq,x15_2,rfl,HA,HJ2,⟨mc2,rfl⟩⟩:=hcut
    cases kq with
    | zero => exact absurd HA.out (by simp [spec_l2Less.j1])
    | succ kj2 =>
     have H:=HA.out;clear HA;simp only [spec_l2Less.j1] at H
     by_cases c5 : x15_2 = true
     ·
      subst c5
      rw [if_pos rfl] at H
      by_cases c6 : 0 ≤ x5_1
      ·
       rw [if_pos c6] at H;have c6b0:=decide_eq_true c6;clear c6
       by_cases c7 : x5_1 < (l0.length : Int)
       ·
        rw [if_pos c7] at H;have c7b0:=decide_eq_true c7;clear c7
        by_cases c8 : x5_1 < (l1.length : Int)
        ·
         rw [if_pos c8] at H;have c8b0:=decide_eq_true c8;clear c8
         by_cases c9 : (rd l0 x5_1) = (rd l1 x5_1)
         ·
          rw [if_pos c9] at H;have c9b0:=beq_iff_eq.mpr c9;have c9b1:=bne_eq_false_iff_eq.mpr c9;clear c9
          have H':=zA H
          clear H;have p200 : 0 ≤ (x5_1 : Int):=zXb ze;have q200 : x5_1 < (l0.length : Int):=zXb ze;obtain ⟨ad200,e200,hx200_0⟩:=Kd.at_int HR0.out x5_1 p200 q200
          cases e200
          replace p200:=eq_true p200;replace q200:=eq_true q200;have p201 : 0 ≤ (x5_1 : Int):=zXb ze;have q201 : x5_1 < (l1.length : Int):=zXb ze;obtain ⟨ad201,e201,hx201_0⟩:=Kd.at_int HR1.out x5_1 p201 q201
          cases e201
          replace p201:=eq_true p201;replace q201:=eq_true q201
          go_wp2
          repeat (go_quiet (fail);try go_wp2)
          go_roundg kj2
          case measure => have:=HK1.out;have:=HJ2.out;omega
          case rel => exact ⟨(wrap64 (x5_1 + 1)),za,H',⟨by have:=HK1.out;have:=HJ2.out;omega⟩,by repeat (first|exact Drawn0.refl _|apply Drawn0.step)⟩
         ·
          rw [if_neg c9] at H;have c9b0:=beq_eq_false_iff_ne.mpr c9;have c9b1:=bne_iff_ne.mpr c9
          obtain rfl:=Option.some.inj H
          have p200 : 0 ≤ (x5_1 : Int):=zXb ze;have q200 : x5_1 < (l0.length : Int):=zXb ze;obtain ⟨ad200,e200,hx200_0⟩:=Kd.at_int HR0.out x5_1 p200 q200
          cases e200
          replace p200:=eq_true p200;replace q200:=eq_true q200;have p201 : 0 ≤ (x5_1 : Int):=zXb ze;have q201 : x5_1 < (l1.length : Int):=zXb ze;obtain ⟨ad201,e201,hx201_0⟩:=Kd.at_int HR1.out x5_1 p201 q201
          cases e201
          replace p201:=eq_true p201;replace q201:=eq_true q201;have p202 : 0 ≤ (x5_1 : Int):=zXb ze;have q202 : x5_1 < (l0.length : Int):=zXb ze;obtain ⟨ad202,e202,hx202_0⟩:=Kd.at_int HR0.out x5_1 p202 q202
          obtain rfl : ad200 = ad202:=(by injection e202)
          replace p202:=eq_true p202;replace q202:=eq_true q202;have p203 : 0 ≤ (x5_1 : Int):=zXb ze;have q203 : x5_1 < (l1.length : Int):=zXb ze;obtain ⟨ad203,e203,hx203_0⟩:=Kd.at_int HR1.out x5_1 p203 q203
          obtain rfl : ad201 = ad203:=(by injection e203)
          replace p203:=eq_true p203;replace q203:=eq_true q203
          go_wp2
          repeat (go_quiet (fail);try go_wp2)
          go_ret
          exact ⟨by first|rfl|(simp;done)|(simp [*];done),by repeat (first|exact Drawn0.refl _|apply Drawn0.step)⟩
        ·
         rw [if_neg c8] at H
         exact absurd H (by simp)
       ·
        rw [if_neg c7] at H
        exact absurd H (by simp)
      ·
       rw [if_neg c6] at H
       exact absurd H (by simp)
     ·
      replace c5:=Bool.eq_false_iff.mpr c5
      subst c5
      have H1 : (some (decide ((l0.length : Int) < (l1.length : Int)))) = some r:=by rw [if_neg (show ¬ (false = true) by decide)] at H;exact H
      clear H;have H:=H1;clear H1
      obtain rfl:=Option.some.inj H
      go_wp2
      repeat (go_quiet (fail);try go_wp2)
      go_ret
      exact ⟨by first|rfl|(simp;done)|(simp [*];done),by repeat (first|exact Drawn0.refl _|apply Drawn0.step)⟩

/-! ### spec_l5Less: function 60 -/
def spec_l5Less.f (k : Nat) (a0_0 : Int) (l0_1 : List Int) (a1_0 : Int) (l1_1 : List Int) : Option (Bool) := if a0_0 = a1_0 then ((spec_l2Less.f k l0_1 l1_1).bind fun t206 => (some t206)) else (some (decide (a0_0 < a1_0)))
theorem spec_l5Less.mono : ∀ a0 a1 a2 a3 k, LeO (spec_l5Less.f k a0 a1 a2 a3) (spec_l5Less.f (k + 1) a0 a1 a2 a3) := by
 intro a0 a1 a2 a3 k
 unfold spec_l5Less.f
 repeat' first
   | (with_reducible exact spec_l2Less.mono _ _ _)
   | (with_reducible exact LeO.refl _)
   | (with_reducible exact LeO.none _)
   | (with_reducible refine LeO.ite ?_ ?_)
   | (with_reducible refine LeO.bind ?_ (fun _ => ?_))
   | exact LeO.none _
   | refine LeO.ite ?_ ?_
   | refine LeO.bind ?_ (fun _ => ?_)
set_option maxHeartbeats 8000000 in
set_option maxRecDepth 100000 in
theorem spec_l5Less.calls (k : Nat) (a0_0 : Int) (A0_1 : Option Addr) (c0_1 : Nat) (l0_1 : List Int) (a1_0 : Int) (A1_1 : Option Addr) (c1_1 : Nat) (l1_1 : List Int) (r : Bool) (w : World) (hr0_1 : Kd.C (Kd.int .i64) w A0_1 l0_1.length l0_1) (hc0_1 : l0_1.length ≤ c0_1) (hr1_1 : Kd.C (Kd.int .i64) w A1_1 l1_1.length l1_1) (hc1_1 : l1_1.length ≤ c1_1) (h : spec_l5Less.f k a0_0 l0_1 a1_0 l1_1 = some r) :
  Calls Try.prog 60 #[.agg #[.int .i64 a0_0, .slice A0_1 l0_1.length c0_1], .agg #[.int .i64 a1_0, .slice A1_1 l1_1.length c1_1]] w fun e w' => e = .returned (.bool r) ∧ Below w.heap.size w w' := by
 have hu37:=Try.underlying37;have HR0_1:=zA hr0_1;have HC0_1:=zA hc0_1;clear hr0_1 hc0_1;have HR1_1:=zA hr1_1;have HC1_1:=zA hc1_1;clear hr1_1 hc1_1;have HB:=zA (Below.refl w.heap.size w)
 have H : (if a0_0 = a1_0 then ((spec_l2Less.f k l0_1 l1_1).bind fun t206 => (some t206)) else (some (decide (a0_0 < a1_0)))) = some r:=h
 clear h
 by_cases c3 : a0_0 = a1_0
 ·
  rw [if_pos c3] at H;have c3b0:=beq_iff_eq.mpr c3;have c3b1:=bne_eq_false_iff_eq.mpr c3;clear c3;replace H:=Option.bind_eq_some_iff.mp H;obtain ⟨t206,A40,H⟩:=H;(try dsimp only at H);have A4:=zA A40;clear A40
  obtain rfl:=Option.some.inj H
  go_enter Try.func60,Try.ntmps60
  go_wp2_with (first|((with_reducible refine gate_dst (N:=2) rfl ?_);refine box_event ?hg (N:=2) ?hd (cs:=#[.int .i64 a0_0,.slice A0_1 l0_1.length c0_1]) (t:=37) ?hr ?_;(case hd => rfl);(case hg => rfl);(case hr => first|(go_simp;done)|(go_simp;rfl));intro gb204 hg w5 hbox hb;have BK204:=zA (hbox);have GW204:=zA ((by rw [hg];exact (zT (zz HB)) : w.heap.size ≤ gb204));have GE204:=zA ((by rw [hg];exact (zT (zz HB)) : w.heap.size ≤ gb204));replace HB:=zA (zJb (zz HB) hb);clear hb hbox hg)|((with_reducible refine gate_dst (N:=3) rfl ?_);refine box_event ?hg (N:=3) ?hd (cs:=#[.int .i64 a1_0,.slice A1_1 l1_1.length c1_1]) (t:=37) ?hr ?_;(case hd => rfl);(case hg => rfl);(case hr => first|(go_simp;done)|(go_simp;rfl));intro gb205 hg w6 hbox hb;have BK205:=zA (hbox);have GW205:=zA ((by rw [hg];exact (zT (zz HB)) : w.heap.size ≤ gb205));have GE205:=zA ((by rw [hg];exact (zT (zz HB)) : w.heap.size ≤ gb205));replace HB:=zA (zJb (zz HB) hb);have NB204_205:=zA ((by rw [hg];exact Nat.ne_of_lt (blk_lt (g:=gb204) (o:=.cells #[.int .i64 a0_0,.slice A0_1 l0_1.length c0_1] 37 (0,0)) (zx BK204)) : gb204 ≠ gb205));have NB205_204:=zA ((by rw [hg];exact Nat.ne_of_gt (blk_lt (g:=gb204) (o:=.cells #[.int .i64 a0_0,.slice A0_1 l0_1.length c0_1] 37 (0,0)) (zx BK204)) : gb205 ≠ gb204));replace BK204:=zA (zQ (g:=gb204) (o:=.cells #[.int .i64 a0_0,.slice A0_1 l0_1.length c0_1] 37 (0,0)) (zx BK204) hb);clear hb hbox hg;have hnb7:=NB204_205.out;have hnc7:=NB205_204.out;have hcz8_0:=zc (.int .i64 a0_0) BK204 0 rfl;have hcz8_1:=zc (.slice A0_1 l0_1.length c0_1) BK204 1 rfl;have hfz8_0:=blk_frozen BK204.out 0;have hfz8_1:=blk_frozen BK204.out 1;have hcz9_0:=zc (.int .i64 a1_0) BK205 0 rfl;have hcz9_1:=zc (.slice A1_1 l1_1.length c1_1) BK205 1 rfl;have hfz9_0:=blk_frozen BK205.out 0;have hfz9_1:=blk_frozen BK205.out 1)|((with_reducible refine gate_callee (f:=93) rfl ?_);refine goesL_ (some 19) rfl rfl Try.func93 (by kernel_rfl) rfl #[.slice A0_1 l0_1.length c0_1,.slice A1_1 l1_1.length c1_1] rfl (by (try simp only [zCb,zMb,zNb]);first|done|rfl|(simp only [zLb,zDb];rfl)) ?_;(with_reducible refine (spec_l2Less.calls k _ _ l0_1 _ _ l1_1 t206 _ ?side1 ?side2 ?side3 ?side4 A4.out).mono ?_);(case side1 => exact zsd HR0_1 HB);(case side2 => exact HC0_1.out);(case side3 => exact zsd HR1_1 HB);(case side4 => exact HC1_1.out);rintro e w' ⟨rfl,⟨nd,rfl⟩⟩;refine ⟨_,rfl,?_⟩))
  go_ret
  exact ⟨by first|rfl|(simp [errW_none,errW_some] <;> rfl)|(simp [*,errW_none,errW_some] <;> rfl),zz HB⟩
 ·
  rw [if_neg c3] at H;have c3b0:=beq_eq_false_iff_ne.mpr c3;have c3b1:=bne_iff_ne.mpr c3
  obtain rfl:=Option.some.inj H
  go_enter Try.func60,Try.ntmps60
  go_wp2_with (first|((with_reducible refine gate_dst (N:=2) rfl ?_);refine box_event ?hg (N:=2) ?hd (cs:=#[.int .i64 a0_0,.slice A0_1 l0_1.length c0_1]) (t:=37) ?hr ?_;(case hd => rfl);(case hg => rfl);(case hr => first|(go_simp;done)|(go_simp;rfl));intro gb204 hg w10 hbox hb;have BK204:=zA (hbox);have GW204:=zA ((by rw [hg];exact (zT (zz HB)) : w.heap.size ≤ gb204));have GE204:=zA ((by rw [hg];exact (zT (zz HB)) : w.heap.size ≤ gb204));replace HB:=zA (zJb (zz HB) hb);clear hb hbox hg)|((with_reducible refine gate_dst (N:=3) rfl ?_);refine box_event ?hg (N:=3) ?hd (cs:=#[.int .i64 a1_0,.slice A1_1 l1_1.length c1_1]) (t:=37) ?hr ?_;(case hd => rfl);(case hg => rfl);(case hr => first|(go_simp;done)|(go_simp;rfl));intro gb205 hg w11 hbox hb;have BK205:=zA (hbox);have GW205:=zA ((by rw [hg];exact (zT (zz HB)) : w.heap.size ≤ gb205));have GE205:=zA ((by rw [hg];exact (zT (zz HB)) : w.heap.size ≤ gb205));replace HB:=zA (zJb (zz HB) hb);have NB204_205:=zA ((by rw [hg];exact Nat.ne_of_lt (blk_lt (g:=gb204) (o:=.cells #[.int .i64 a0_0,.slice A0_1 l0_1.length c0_1] 37 (0,0)) (zx BK204)) : gb204 ≠ gb205));have NB205_204:=zA ((by rw [hg];exact Nat.ne_of_gt (blk_lt (g:=gb204) (o:=.cells #[.int .i64 a0_0,.slice A0_1 l0_1.length c0_1] 37 (0,0)) (zx BK204)) : gb205 ≠ gb204));replace BK204:=zA (zQ (g:=gb204) (o:=.cells #[.int .i64 a0_0,.slice A0_1 l0_1.length c0_1] 37 (0,0)) (zx BK204) hb);clear hb hbox hg;have hnb12:=NB204_205.out;have hnc12:=NB205_204.out;have hcz13_0:=zc (.int .i64 a0_0) BK204 0 rfl;have hcz13_1:=zc (.slice A0_1 l0_1.length c0_1) BK204 1 rfl;have hfz13_0:=blk_frozen BK204.out 0;have hfz13_1:=blk_frozen BK204.out 1;have hcz14_0:=zc (.int .i64 a1_0) BK205 0 rfl;have hcz14_1:=zc (.slice A1_1 l1_1.length c1_1) BK205 1 rfl;have hfz14_0:=blk_frozen BK205.out 0;have hfz14_1:=blk_frozen BK205.out 1))
  go_ret
  exact ⟨by first|rfl|(simp [errW_none,errW_some] <;> rfl)|(simp [*,errW_none,errW_some] <;> rfl),zz HB⟩

end Go.Proofs.Ytfelabhakgcifaa.QFnExactIsAnswer
