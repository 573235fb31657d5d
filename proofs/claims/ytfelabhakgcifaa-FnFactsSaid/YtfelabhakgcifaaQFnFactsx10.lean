/- Walks through the Go functions that FnFacts reaches: each call returns what the Lean function beside it says, within the bounds that the theorem names. -/
import Derived.Test.YtfelabhakgcifaaQFnFactsx0
namespace Go.Proofs.Ytfelabhakgcifaa.QFnFacts
open Go.RowKit Go.Proofs.YtfelabhakgcifaaW.PrintWords Go.Proofs.YtfelabhakgcifaaW.PrintLast Go.Proofs.YtfelabhakgcifaaW.PrintMore
attribute [local go_sem] max2_int min2_int max_two min_two max_three min_three max_four min_four   -- for this text's walks alone
set_option linter.unusedVariables false
set_option linter.unusedSimpArgs false


/-! ### slices_Equal_int_int: function 94 -/
def slices_Equal_int_int.l0 : Nat → List Int → List Int → Int → Int → Option (Bool)
 | 0, _, _, _, _ => none
 | k + 1, x0, x1, x12, x13 => if x13 < x12 then (if 0 ≤ x13 then (if x13 < (x0.length : Int) then (if x13 < (x1.length : Int) then (if (rd x0 x13) = (rd x1 x13) then (slices_Equal_int_int.l0 k x0 x1 x12 (wrap64 (x13 + 1))) else (some false)) else (none)) else (none)) else (none)) else (some true)
def slices_Equal_int_int.f (k : Nat) (l0 : List Int) (l1 : List Int) : Option (Bool) := if (l0.length : Int) = (l1.length : Int) then (slices_Equal_int_int.l0 k l0 l1 (l0.length : Int) 0) else (some false)
theorem slices_Equal_int_int.mono_l : ∀ k, (∀ y0 y1 y2 y3, LeO (slices_Equal_int_int.l0 k y0 y1 y2 y3) (slices_Equal_int_int.l0 (k + 1) y0 y1 y2 y3))
 | 0 => fun _ _ _ _ r h => by simp [slices_Equal_int_int.l0] at h
 | k + 1 => by
  have ih0:=slices_Equal_int_int.mono_l k
  ·
   intro y0 y1 y2 y3
   unfold slices_Equal_int_int.l0
   repeat' first
   | (with_reducible exact ih0 _ _ _ _)
   | (with_reducible exact LeO.refl _)
   | (with_reducible exact LeO.none _)
   | (with_reducible refine LeO.ite ?_ ?_)
   | (with_reducible refine LeO.bind ?_ (fun _ => ?_))
   | exact ih0 _ _ _ _
   | exact LeO.none _
   | refine LeO.ite ?_ ?_
   | refine LeO.bind ?_ (fun _ => ?_)
theorem slices_Equal_int_int.mono : ∀ a0 a1 k, LeO (slices_Equal_int_int.f k a0 a1) (slices_Equal_int_int.f (k + 1) a0 a1) := by
 intro a0 a1 k
 have ih0:=slices_Equal_int_int.mono_l k
 unfold slices_Equal_int_int.f
 repeat' first
   | (with_reducible exact ih0 _ _ _ _)
   | (with_reducible exact LeO.refl _)
   | (with_reducible exact LeO.none _)
   | (with_reducible refine LeO.ite ?_ ?_)
   | (with_reducible refine LeO.bind ?_ (fun _ => ?_))
   | exact ih0 _ _ _ _
   | exact LeO.none _
   | refine LeO.ite ?_ ?_
   | refine LeO.bind ?_ (fun _ => ?_)
set_option maxHeartbeats 8000000 in
set_option maxRecDepth 100000 in
theorem slices_Equal_int_int.calls (k : Nat) (A0 : Option Addr) (c0 : Nat) (l0 : List Int) (A1 : Option Addr) (c1 : Nat) (l1 : List Int) (r : Bool) (w : World) (hr0 : Kd.C (Kd.int .i64) w A0 l0.length l0) (hc0 : l0.length ≤ c0) (hr1 : Kd.C (Kd.int .i64) w A1 l1.length l1) (hc1 : l1.length ≤ c1) (h : slices_Equal_int_int.f k l0 l1 = some r) :
  Calls Try.prog 94 #[.slice A0 l0.length c0, .slice A1 l1.length c1] w fun e w' => e = .returned (.bool r) ∧ Drawn0 w w' := by
 have HR0:=zA hr0;have HC0:=zA hc0;clear hr0 hc0;have HR1:=zA hr1;have HC1:=zA hc1;clear hr1 hc1
 have H : (if (l0.length : Int) = (l1.length : Int) then (slices_Equal_int_int.l0 k l0 l1 (l0.length : Int) 0) else (some false)) = some r:=h
 clear h
 by_cases c3 : (l0.length : Int) = (l1.length : Int)
 ·
  rw [if_pos c3] at H;have c3b0:=beq_iff_eq.mpr c3;have c3b1:=bne_eq_false_iff_eq.mpr c3
  have c3b2 : (l0.length == l1.length) = true:=by first|simpa using c3|(simp at c3 ⊢;omega)
  clear c3
  have H':=zA H
  clear H
  go_enter Try.func94,Try.ntmps94
  go_wp2
  repeat (go_quiet (fail);try go_wp2)
  go_loopg [13] k (fun kq v13 w' => ∃ (x13_1 : Int),v13 = .int .i64 x13_1 ∧ Aside0 (slices_Equal_int_int.l0 kq l0 l1 (l0.length : Int) x13_1 = some r) ∧ Aside0 (kq ≤ k) ∧ Drawn0 w w')
  case atStart => exact ⟨(0),za,H',⟨Nat.le_refl _⟩,by repeat (first|exact Drawn0.refl _|apply Drawn0.step)⟩
  case round =>
   clear H';(try clear c1);(try clear p2);(try clear c3);(try clear c3b0);(try clear c3b1);(try clear c3b2);obtain ⟨x13_1,rfl,HA,HK1,⟨m1,rfl⟩⟩:=hrel
   cases gk with
   | zero => exact absurd HA.out (by simp [slices_Equal_int_int.l0])
   | succ k1 =>
    have H:=HA.out;clear HA;simp only [slices_Equal_int_int.l0] at H
    by_cases c4 : x13_1 < (l0.length : Int)
    ·
     rw [if_pos c4] at H;have c4b0:=decide_eq_true c4;clear c4
     by_cases c5 : 0 ≤ x13_1
     ·
      rw [if_pos c5] at H;have c5b0:=decide_eq_true c5;clear c5
      by_cases c6 : x13_1 < (l0.length : Int)
      ·
       rw [if_pos c6] at H;have c6b0:=decide_eq_true c6;clear c6
       by_cases c7 : x13_1 < (l1.length : Int)
       ·
        rw [if_pos c7] at H;have c7b0:=decide_eq_true c7;clear c7
        by_cases c8 : (rd l0 x13_1) = (rd l1 x13_1)
        ·
         rw [if_pos c8] at H;have c8b0:=beq_iff_eq.mpr c8;have c8b1:=bne_eq_false_iff_eq.mpr c8;clear c8
         have H':=zA H
         clear H;have p240 : 0 ≤ (x13_1 : Int):=zXb ze;have q240 : x13_1 < (l0.length : Int):=zXb ze;obtain ⟨ad240,e240,hx240_0⟩:=Kd.at_int HR0.out x13_1 p240 q240
         cases e240
         replace p240:=eq_true p240;replace q240:=eq_true q240;have p241 : 0 ≤ (x13_1 : Int):=zXb ze;have q241 : x13_1 < (l1.length : Int):=zXb ze;obtain ⟨ad241,e241,hx241_0⟩:=Kd.at_int HR1.out x13_1 p241 q241
         cases e241
         replace p241:=eq_true p241;replace q241:=eq_true q241
         go_wp2
         repeat (go_quiet (fail);try go_wp2)
         go_roundg k1
         case measure => have:=HK1.out;omega
         case rel => exact ⟨(wrap64 (x13_1 + 1)),za,H',⟨by have:=HK1.out;omega⟩,by repeat (first|exact Drawn0.refl _|apply Drawn0.step)⟩
        ·
         rw [if_neg c8] at H;have c8b0:=beq_eq_false_iff_ne.mpr c8;have c8b1:=bne_iff_ne.mpr c8
         obtain rfl:=Option.some.inj H
         have p240 : 0 ≤ (x13_1 : Int):=zXb ze;have q240 : x13_1 < (l0.length : Int):=zXb ze;obtain ⟨ad240,e240,hx240_0⟩:=Kd.at_int HR0.out x13_1 p240 q240
         cases e240
         replace p240:=eq_true p240;replace q240:=eq_true q240;have p241 : 0 ≤ (x13_1 : Int):=zXb ze;have q241 : x13_1 < (l1.length : Int):=zXb ze;obtain ⟨ad241,e241,hx241_0⟩:=Kd.at_int HR1.out x13_1 p241 q241
         cases e241
         replace p241:=eq_true p241;replace q241:=eq_true q241
         go_wp2
         repeat (go_quiet (fail);try go_wp2)
         go_ret
         exact ⟨by first|rfl|(simp;done)|(simp [*];done),by repeat (first|exact Drawn0.refl _|apply Drawn0.step)⟩
       ·
        rw [if_neg c7] at H
        exact absurd H (by simp)
      ·
       rw [if_neg c6] at H
       exact absurd H (by simp)
     ·
      rw [if_neg c5] at H
      exact absurd H (by simp)
    ·
     rw [if_neg c4] at H;have c4b0:=decide_eq_false c4;clear c4
     obtain rfl:=Option.some.inj H
     go_wp2
     repeat (go_quiet (fail);try go_wp2)
     go_ret
     exact ⟨by first|rfl|(simp;done)|(simp [*];done),by repeat (first|exact Drawn0.refl _|apply Drawn0.step)⟩
 ·
  rw [if_neg c3] at H;have c3b0:=beq_eq_false_iff_ne.mpr c3;have c3b1:=bne_iff_ne.mpr c3
  have c3b2 : (l0.length == l1.length) = false:=by first|simpa using c3|(simp at c3 ⊢;omega)
  obtain rfl:=Option.some.inj H
  go_enter Try.func94,Try.ntmps94
  go_wp2
  repeat (go_quiet (fail);try go_wp2)
  go_ret
  exact ⟨by first|rfl|(simp;done)|(simp [*];done),by repeat (first|exact Drawn0.refl _|apply Drawn0.step)⟩

/-! ### impl_equalFact: function 62 -/
def impl_equalFact.f (k : Nat) (a0_0 : Int) (l0_1 : List Int) (a1_0 : Int) (l1_1 : List Int) : Option (Bool) := if a0_0 = a1_0 then ((slices_Equal_int_int.f k l0_1 l1_1).bind fun t244 => (some t244)) else (some false)
theorem impl_equalFact.mono : ∀ a0 a1 a2 a3 k, LeO (impl_equalFact.f k a0 a1 a2 a3) (impl_equalFact.f (k + 1) a0 a1 a2 a3) := by
 intro a0 a1 a2 a3 k
 unfold impl_equalFact.f
 repeat' first
   | (with_reducible exact slices_Equal_int_int.mono _ _ _)
   | (with_reducible exact LeO.refl _)
   | (with_reducible exact LeO.none _)
   | (with_reducible refine LeO.ite ?_ ?_)
   | (with_reducible refine LeO.bind ?_ (fun _ => ?_))
   | exact LeO.none _
   | refine LeO.ite ?_ ?_
   | refine LeO.bind ?_ (fun _ => ?_)
set_option maxHeartbeats 8000000 in
set_option maxRecDepth 100000 in
theorem impl_equalFact.calls (k : Nat) (a0_0 : Int) (A0_1 : Option Addr) (c0_1 : Nat) (l0_1 : List Int) (a1_0 : Int) (A1_1 : Option Addr) (c1_1 : Nat) (l1_1 : List Int) (r : Bool) (w : World) (hr0_1 : Kd.C (Kd.int .i64) w A0_1 l0_1.length l0_1) (hc0_1 : l0_1.length ≤ c0_1) (hr1_1 : Kd.C (Kd.int .i64) w A1_1 l1_1.length l1_1) (hc1_1 : l1_1.length ≤ c1_1) (h : impl_equalFact.f k a0_0 l0_1 a1_0 l1_1 = some r) :
  Calls Try.prog 62 #[.agg #[.int .i64 a0_0, .slice A0_1 l0_1.length c0_1], .agg #[.int .i64 a1_0, .slice A1_1 l1_1.length c1_1]] w fun e w' => e = .returned (.bool r) ∧ Below w.heap.size w w' := by
 have hu37:=Try.underlying37;have HR0_1:=zA hr0_1;have HC0_1:=zA hc0_1;clear hr0_1 hc0_1;have HR1_1:=zA hr1_1;have HC1_1:=zA hc1_1;clear hr1_1 hc1_1;have HB:=zA (Below.refl w.heap.size w)
 have H : (if a0_0 = a1_0 then ((slices_Equal_int_int.f k l0_1 l1_1).bind fun t244 => (some t244)) else (some false)) = some r:=h
 clear h
 by_cases c3 : a0_0 = a1_0
 ·
  rw [if_pos c3] at H;have c3b0:=beq_iff_eq.mpr c3;have c3b1:=bne_eq_false_iff_eq.mpr c3;clear c3;replace H:=Option.bind_eq_some_iff.mp H;obtain ⟨t244,A40,H⟩:=H;(try dsimp only at H);have A4:=zA A40;clear A40
  obtain rfl:=Option.some.inj H
  go_enter Try.func62,Try.ntmps62
  go_wp2_with (first|((with_reducible refine gate_dst (N:=2) rfl ?_);refine box_event ?hg (N:=2) ?hd (cs:=#[.int .i64 a0_0,.slice A0_1 l0_1.length c0_1]) (t:=37) ?hr ?_;(case hd => rfl);(case hg => rfl);(case hr => first|(go_simp;done)|(go_simp;rfl));intro gb242 hg w5 hbox hb;have BK242:=zA (hbox);have GW242:=zA ((by rw [hg];exact (zT (zz HB)) : w.heap.size ≤ gb242));have GE242:=zA ((by rw [hg];exact (zT (zz HB)) : w.heap.size ≤ gb242));replace HB:=zA (zJb (zz HB) hb);clear hb hbox hg)|((with_reducible refine gate_dst (N:=3) rfl ?_);refine box_event ?hg (N:=3) ?hd (cs:=#[.int .i64 a1_0,.slice A1_1 l1_1.length c1_1]) (t:=37) ?hr ?_;(case hd => rfl);(case hg => rfl);(case hr => first|(go_simp;done)|(go_simp;rfl));intro gb243 hg w6 hbox hb;have BK243:=zA (hbox);have GW243:=zA ((by rw [hg];exact (zT (zz HB)) : w.heap.size ≤ gb243));have GE243:=zA ((by rw [hg];exact (zT (zz HB)) : w.heap.size ≤ gb243));replace HB:=zA (zJb (zz HB) hb);have NB242_243:=zA ((by rw [hg];exact Nat.ne_of_lt (blk_lt (g:=gb242) (o:=.cells #[.int .i64 a0_0,.slice A0_1 l0_1.length c0_1] 37 (0,0)) (zx BK242)) : gb242 ≠ gb243));have NB243_242:=zA ((by rw [hg];exact Nat.ne_of_gt (blk_lt (g:=gb242) (o:=.cells #[.int .i64 a0_0,.slice A0_1 l0_1.length c0_1] 37 (0,0)) (zx BK242)) : gb243 ≠ gb242));replace BK242:=zA (zQ (g:=gb242) (o:=.cells #[.int .i64 a0_0,.slice A0_1 l0_1.length c0_1] 37 (0,0)) (zx BK242) hb);clear hb hbox hg;have hnb7:=NB242_243.out;have hnc7:=NB243_242.out;have hcz8_0:=zc (.int .i64 a0_0) BK242 0 rfl;have hcz8_1:=zc (.slice A0_1 l0_1.length c0_1) BK242 1 rfl;have hfz8_0:=blk_frozen BK242.out 0;have hfz8_1:=blk_frozen BK242.out 1;have hcz9_0:=zc (.int .i64 a1_0) BK243 0 rfl;have hcz9_1:=zc (.slice A1_1 l1_1.length c1_1) BK243 1 rfl;have hfz9_0:=blk_frozen BK243.out 0;have hfz9_1:=blk_frozen BK243.out 1)|(go_at_call 94;(with_reducible refine (slices_Equal_int_int.calls k _ _ l0_1 _ _ l1_1 t244 _ ?side1 ?side2 ?side3 ?side4 A4.out).mono ?_);(case side1 => repeat (first|exact (zKb HR0_1.out HB.out)|(with_reducible refine zBb ?_ _)|(with_reducible refine zAb ?_ _)|(with_reducible refine zX ?_)));(case side2 => exact HC0_1.out);(case side3 => repeat (first|exact (zKb HR1_1.out HB.out)|(with_reducible refine zBb ?_ _)|(with_reducible refine zAb ?_ _)|(with_reducible refine zX ?_)));(case side4 => exact HC1_1.out);rintro e w' ⟨rfl,⟨nd,rfl⟩⟩))
  go_ret
  exact ⟨by first|rfl|(simp [errW_none,errW_some] <;> rfl)|(simp [*,errW_none,errW_some] <;> rfl),zz HB⟩
 ·
  rw [if_neg c3] at H;have c3b0:=beq_eq_false_iff_ne.mpr c3;have c3b1:=bne_iff_ne.mpr c3
  obtain rfl:=Option.some.inj H
  go_enter Try.func62,Try.ntmps62
  go_wp2_with (first|((with_reducible refine gate_dst (N:=2) rfl ?_);refine box_event ?hg (N:=2) ?hd (cs:=#[.int .i64 a0_0,.slice A0_1 l0_1.length c0_1]) (t:=37) ?hr ?_;(case hd => rfl);(case hg => rfl);(case hr => first|(go_simp;done)|(go_simp;rfl));intro gb242 hg w10 hbox hb;have BK242:=zA (hbox);have GW242:=zA ((by rw [hg];exact (zT (zz HB)) : w.heap.size ≤ gb242));have GE242:=zA ((by rw [hg];exact (zT (zz HB)) : w.heap.size ≤ gb242));replace HB:=zA (zJb (zz HB) hb);clear hb hbox hg)|((with_reducible refine gate_dst (N:=3) rfl ?_);refine box_event ?hg (N:=3) ?hd (cs:=#[.int .i64 a1_0,.slice A1_1 l1_1.length c1_1]) (t:=37) ?hr ?_;(case hd => rfl);(case hg => rfl);(case hr => first|(go_simp;done)|(go_simp;rfl));intro gb243 hg w11 hbox hb;have BK243:=zA (hbox);have GW243:=zA ((by rw [hg];exact (zT (zz HB)) : w.heap.size ≤ gb243));have GE243:=zA ((by rw [hg];exact (zT (zz HB)) : w.heap.size ≤ gb243));replace HB:=zA (zJb (zz HB) hb);have NB242_243:=zA ((by rw [hg];exact Nat.ne_of_lt (blk_lt (g:=gb242) (o:=.cells #[.int .i64 a0_0,.slice A0_1 l0_1.length c0_1] 37 (0,0)) (zx BK242)) : gb242 ≠ gb243));have NB243_242:=zA ((by rw [hg];exact Nat.ne_of_gt (blk_lt (g:=gb242) (o:=.cells #[.int .i64 a0_0,.slice A0_1 l0_1.length c0_1] 37 (0,0)) (zx BK242)) : gb243 ≠ gb242));replace BK242:=zA (zQ (g:=gb242) (o:=.cells #[.int .i64 a0_0,.slice A0_1 l0_1.length c0_1] 37 (0,0)) (zx BK242) hb);clear hb hbox hg;have hnb12:=NB242_243.out;have hnc12:=NB243_242.out;have hcz13_0:=zc (.int .i64 a0_0) BK242 0 rfl;have hcz13_1:=zc (.slice A0_1 l0_1.length c0_1) BK242 1 rfl;have hfz13_0:=blk_frozen BK242.out 0;have hfz13_1:=blk_frozen BK242.out 1;have hcz14_0:=zc (.int .i64 a1_0) BK243 0 rfl;have hcz14_1:=zc (.slice A1_1 l1_1.length c1_1) BK243 1 rfl;have hfz14_0:=blk_frozen BK243.out 0;have hfz14_1:=blk_frozen BK243.out 1))
  go_ret
  exact ⟨by first|rfl|(simp [errW_none,errW_some] <;> rfl)|(simp [*,errW_none,errW_some] <;> rfl),zz HB⟩

/-! ### impl_HasFact: function 29 -/
def impl_HasFact.l0 : Nat → List (S37) → Int → Int → Int → List Int → Option (Bool)
 | 0, _, _, _, _, _ => none
 | k + 1, x7, x8, x9, x246000, x246001 => if x9 < x8 then (if 0 ≤ x9 then (if x9 < (x7.length : Int) then ((impl_equalFact.f k ((rd_T37 x7 x9).f0) ((rd_T37 x7 x9).f1) x246000 x246001).bind fun t248 => (if t248 = true then (some true) else (impl_HasFact.l0 k x7 x8 (wrap64 (x9 + 1)) x246000 x246001))) else (none)) else (none)) else (some false)
def impl_HasFact.f (k : Nat) (l0 : List (S37)) (a1_0 : Int) (l1_1 : List Int) : Option (Bool) := impl_HasFact.l0 k l0 (l0.length : Int) 0 a1_0 l1_1
theorem impl_HasFact.mono_l : ∀ k, (∀ y0 y1 y2 y3 y4, LeO (impl_HasFact.l0 k y0 y1 y2 y3 y4) (impl_HasFact.l0 (k + 1) y0 y1 y2 y3 y4))
 | 0 => fun _ _ _ _ _ r h => by simp [impl_HasFact.l0] at h
 | k + 1 => by
  have ih0:=impl_HasFact.mono_l k
  ·
   intro y0 y1 y2 y3 y4
   unfold impl_HasFact.l0
   repeat' first
   | (with_reducible exact ih0 _ _ _ _ _)
   | (with_reducible exact impl_equalFact.mono _ _ _ _ _)
   | (with_reducible exact LeO.refl _)
   | (with_reducible exact LeO.none _)
   | (with_reducible refine LeO.ite ?_ ?_)
   | (with_reducible refine LeO.bind ?_ (fun _ => ?_))
   | exact ih0 _ _ _ _ _
   | exact LeO.none _
   | refine LeO.ite ?_ ?_
   | refine LeO.bind ?_ (fun _ => ?_)
theorem impl_HasFact.mono : ∀ a0 a1 a2 k, LeO (impl_HasFact.f k a0 a1 a2) (impl_HasFact.f (k + 1) a0 a1 a2) := by
 intro a0 a1 a2 k
 have ih0:=impl_HasFact.mono_l k
 unfold impl_HasFact.f
 repeat' first
   | (with_reducible exact ih0 _ _ _ _ _)
   | (with_reducible exact impl_equalFact.mono _ _ _ _ _)
   | (with_reducible exact LeO.refl _)
   | (with_reducible exact LeO.none _)
   | (with_reducible refine LeO.ite ?_ ?_)
   | (with_reducible refine LeO.bind ?_ (fun _ => ?_))
   | exact ih0 _ _ _ _ _
   | exact LeO.none _
   | refine LeO.ite ?_ ?_
   | refine LeO.bind ?_ (fun _ => ?_)
set_option maxHeartbeats 8000000 in
set_option maxRecDepth 100000 in
theorem impl_HasFact.calls (k : Nat) (A0 : Option Addr) (c0 : Nat) (l0 : List (S37)) (a1_0 : Int) (A1_1 : Option Addr) (c1_1 : Nat) (l1_1 : List Int) (r : Bool) (w : World) (hr0 : Kd.C k37 w A0 l0.length l0) (hc0 : l0.length ≤ c0) (hr1_1 : Kd.C (Kd.int .i64) w A1_1 l1_1.length l1_1) (hc1_1 : l1_1.length ≤ c1_1) (h : impl_HasFact.f k l0 a1_0 l1_1 = some r) :
  Calls Try.prog 29 #[.slice A0 l0.length c0, .agg #[.int .i64 a1_0, .slice A1_1 l1_1.length c1_1]] w fun e w' => e = .returned (.bool r) ∧ Below w.heap.size w w' := by
 have hu37:=Try.underlying37;have HR0:=zA hr0;have HC0:=zA hc0;clear hr0 hc0;have HR1_1:=zA hr1_1;have HC1_1:=zA hc1_1;clear hr1_1 hc1_1;have HB:=zA (Below.refl w.heap.size w)
 have H : (impl_HasFact.l0 k l0 (l0.length : Int) 0 a1_0 l1_1) = some r:=h
 clear h
 have H':=zA H
 clear H
 go_enter Try.func29,Try.ntmps29
 go_wp2_with (first|((with_reducible refine gate_dst (N:=3) rfl ?_);refine box_event ?hg (N:=3) ?hd (cs:=#[.int .i64 a1_0,.slice A1_1 l1_1.length c1_1]) (t:=37) ?hr ?_;(case hd => rfl);(case hg => rfl);(case hr => first|(go_simp;done)|(go_simp;rfl));intro gb245 hg w3 hbox hb;have BK245:=zA (hbox);have GW245:=zA ((by rw [hg];exact (zT (zz HB)) : w.heap.size ≤ gb245));have GE245:=zA ((by rw [hg];exact (zT (zz HB)) : w.heap.size ≤ gb245));replace HB:=zA (zJb (zz HB) hb);clear hb hbox hg))
 go_loopg [9] k (fun kq v9 w' => ∃ (x9_1 : Int),v9 = .int .i64 x9_1 ∧ Aside0 (impl_HasFact.l0 kq l0 (l0.length : Int) x9_1 a1_0 l1_1 = some r) ∧ Aside0 (kq ≤ k) ∧ Aside0 (w'.heap[gb245]? = some (.cells #[.int .i64 a1_0,(.slice A1_1 l1_1.length c1_1)] 37 (0,0))) ∧ Aside0 (Below w.heap.size w w'))
 case atStart => exact ⟨(0),za,H',⟨Nat.le_refl _⟩,⟨zx BK245⟩,⟨zz HB⟩⟩
 case round =>
  clear H';(try clear c1);(try clear c2);(try clear p2);obtain ⟨x9_1,rfl,HA,HK1,BK245,HB⟩:=hrel
  cases gk with
  | zero => exact absurd HA.out (by simp [impl_HasFact.l0])
  | succ k1 =>
   have H:=HA.out;clear HA;simp only [impl_HasFact.l0] at H
   by_cases c4 : x9_1 < (l0.length : Int)
   ·
    rw [if_pos c4] at H;have c4b0:=decide_eq_true c4;clear c4
    by_cases c5 : 0 ≤ x9_1
    ·
     rw [if_pos c5] at H;have c5b0:=decide_eq_true c5;clear c5
     by_cases c6 : x9_1 < (l0.length : Int)
     ·
      rw [if_pos c6] at H;have c6b0:=decide_eq_true c6;clear c6;replace H:=Option.bind_eq_some_iff.mp H;obtain ⟨t248,A70,H⟩:=H;(try dsimp only at H);have A7:=zA A70;clear A70
      by_cases c8 : t248 = true
      ·
       subst c8
       rw [if_pos rfl] at H
       obtain rfl:=Option.some.inj H
       have p246 : 0 ≤ (x9_1 : Int):=zXb ze;have q246 : x9_1 < (l0.length : Int):=zXb ze;obtain ⟨ad246,A246_1,c246_1,e246,hx246_0,hx246_1,hl246_1,hi246_1⟩:=at_T37 HR0.out x9_1 p246 q246
       cases e246
       replace hx246_0:=(HB.out.cell (World.block_lt_of_cell? w _ hx246_0)).trans hx246_0;replace hx246_1:=(HB.out.cell (World.block_lt_of_cell? w _ hx246_1)).trans hx246_1;have HR246_1:=zA hi246_1;have HC246_1:=zA hl246_1;clear hi246_1 hl246_1;replace p246:=eq_true p246;replace q246:=eq_true q246
       go_wp2_with (first|((with_reducible refine gate_dst (N:=6) rfl ?_);refine box_event ?hg (N:=6) ?hd (cs:=#[.int .i64 0,.slice none 0 0]) (t:=37) ?hr ?_;(case hd => rfl);(case hg => rfl);(case hr => first|(go_simp;done)|(go_simp;rfl));intro gb247 hg w9 hbox hb;have BK247:=zA (hbox);have GW247:=zA ((by rw [hg];exact (zT (zz HB)) : w.heap.size ≤ gb247));have GE247:=zA ((by rw [hg];exact (zT (zz HB)) : w.heap.size ≤ gb247));replace HB:=zA (zJb (zz HB) hb);have NB245_247:=zA ((by rw [hg];exact Nat.ne_of_lt (blk_lt (g:=gb245) (o:=.cells #[.int .i64 a1_0,.slice A1_1 l1_1.length c1_1] 37 (0,0)) (zx BK245)) : gb245 ≠ gb247));have NB247_245:=zA ((by rw [hg];exact Nat.ne_of_gt (blk_lt (g:=gb245) (o:=.cells #[.int .i64 a1_0,.slice A1_1 l1_1.length c1_1] 37 (0,0)) (zx BK245)) : gb247 ≠ gb245));replace BK245:=zA (zQ (g:=gb245) (o:=.cells #[.int .i64 a1_0,.slice A1_1 l1_1.length c1_1] 37 (0,0)) (zx BK245) hb);clear hb hbox hg;have hnb10:=NB247_245.out;have hnc10:=NB245_247.out;have hcz11_0:=zc (.int .i64 0) BK247 0 rfl;have hcz11_1:=zc (.slice none 0 0) BK247 1 rfl;have hfz11_0:=blk_frozen BK247.out 0;have hfz11_1:=blk_frozen BK247.out 1;have hcz12_0:=zc (.int .i64 a1_0) BK245 0 rfl;have hcz12_1:=zc (.slice A1_1 l1_1.length c1_1) BK245 1 rfl;have hfz12_0:=blk_frozen BK245.out 0;have hfz12_1:=blk_frozen BK245.out 1)|((with_reducible refine gate_callee (f:=62) rfl ?_);refine goesL_ (some 15) rfl rfl Try.func62 (by kernel_rfl) rfl #[.agg #[.int .i64 ((rd_T37 l0 x9_1).f0),.slice A246_1 ((rd_T37 l0 x9_1).f1).length c246_1],.agg #[.int .i64 a1_0,.slice A1_1 l1_1.length c1_1]] rfl (by (try simp only [zCb,zMb,zNb]);first|done|rfl|(simp only [zLb,zDb];rfl)) ?_;(with_reducible refine (impl_equalFact.calls k1 ((rd_T37 l0 x9_1).f0) _ _ ((rd_T37 l0 x9_1).f1) a1_0 _ _ l1_1 true _ ?side1 ?side2 ?side3 ?side4 A7.out).mono ?_);(case side1 => exact zKb HR246_1.out (zz HB));(case side2 => exact HC246_1.out);(case side3 => exact zKb HR1_1.out (zz HB));(case side4 => exact HC1_1.out);rintro e w13 ⟨rfl,hb⟩;refine ⟨_,rfl,?_⟩;replace BK245:=zA (zQ (g:=gb245) (o:=.cells #[.int .i64 a1_0,.slice A1_1 l1_1.length c1_1] 37 (0,0)) (by (with_reducible repeat (first|refine zF ?_ _|refine zI ?_|refine zG ?_ _));refine zUb ?_ NB245_247.out _;(with_reducible repeat (first|refine zF ?_ _|refine zI ?_|refine zG ?_ _));refine zUb ?_ NB245_247.out _;(with_reducible repeat (first|refine zF ?_ _|refine zI ?_|refine zG ?_ _));exact BK245.out) hb);replace BK247:=zA (zQ (g:=gb247) (o:=.cells #[.int .i64 ((rd_T37 l0 x9_1).f0),.slice A246_1 ((rd_T37 l0 x9_1).f1).length c246_1] 37 (0,0)) (by (with_reducible repeat (first|refine zF ?_ _|refine zI ?_|refine zG ?_ _));refine blk_put (cs:=#[.int .i64 ((rd_T37 l0 x9_1).f0),.slice none 0 0]) ?_ 1 _ rfl;(with_reducible repeat (first|refine zF ?_ _|refine zI ?_|refine zG ?_ _));refine blk_put (cs:=#[.int .i64 0,.slice none 0 0]) ?_ 0 _ rfl;(with_reducible repeat (first|refine zF ?_ _|refine zI ?_|refine zG ?_ _));exact BK247.out) hb);replace HB:=zA (zJb (zz HB) hb);(try clear hb);(try clear hb2);(try clear hk);(try clear hi)))
       go_ret
       exact ⟨by first|rfl|(simp [errW_none,errW_some] <;> rfl)|(simp [*,errW_none,errW_some] <;> rfl),zz HB⟩
      ·
       replace c8:=Bool.eq_false_iff.mpr c8
       subst c8
       have H1 : (impl_HasFact.l0 k1 l0 (l0.length : Int) (wrap64 (x9_1 + 1)) a1_0 l1_1) = some r:=by rw [if_neg (show ¬ (false = true) by decide)] at H;exact H
       clear H;have H:=H1;clear H1
       have H':=zA H
       clear H;have p246 : 0 ≤ (x9_1 : Int):=zXb ze;have q246 : x9_1 < (l0.length : Int):=zXb ze;obtain ⟨ad246,A246_1,c246_1,e246,hx246_0,hx246_1,hl246_1,hi246_1⟩:=at_T37 HR0.out x9_1 p246 q246
       cases e246
       replace hx246_0:=(HB.out.cell (World.block_lt_of_cell? w _ hx246_0)).trans hx246_0;replace hx246_1:=(HB.out.cell (World.block_lt_of_cell? w _ hx246_1)).trans hx246_1;have HR246_1:=zA hi246_1;have HC246_1:=zA hl246_1;clear hi246_1 hl246_1;replace p246:=eq_true p246;replace q246:=eq_true q246
       go_wp2_with (first|((with_reducible refine gate_dst (N:=6) rfl ?_);refine box_event ?hg (N:=6) ?hd (cs:=#[.int .i64 0,.slice none 0 0]) (t:=37) ?hr ?_;(case hd => rfl);(case hg => rfl);(case hr => first|(go_simp;done)|(go_simp;rfl));intro gb247 hg w14 hbox hb;have BK247:=zA (hbox);have GW247:=zA ((by rw [hg];exact (zT (zz HB)) : w.heap.size ≤ gb247));have GE247:=zA ((by rw [hg];exact (zT (zz HB)) : w.heap.size ≤ gb247));replace HB:=zA (zJb (zz HB) hb);have NB245_247:=zA ((by rw [hg];exact Nat.ne_of_lt (blk_lt (g:=gb245) (o:=.cells #[.int .i64 a1_0,.slice A1_1 l1_1.length c1_1] 37 (0,0)) (zx BK245)) : gb245 ≠ gb247));have NB247_245:=zA ((by rw [hg];exact Nat.ne_of_gt (blk_lt (g:=gb245) (o:=.cells #[.int .i64 a1_0,.slice A1_1 l1_1.length c1_1] 37 (0,0)) (zx BK245)) : gb247 ≠ gb245));replace BK245:=zA (zQ (g:=gb245) (o:=.cells #[.int .i64 a1_0,.slice A1_1 l1_1.length c1_1] 37 (0,0)) (zx BK245) hb);clear hb hbox hg;have hnb15:=NB247_245.out;have hnc15:=NB245_247.out;have hcz16_0:=zc (.int .i64 0) BK247 0 rfl;have hcz16_1:=zc (.slice none 0 0) BK247 1 rfl;have hfz16_0:=blk_frozen BK247.out 0;have hfz16_1:=blk_frozen BK247.out 1;have hcz17_0:=zc (.int .i64 a1_0) BK245 0 rfl;have hcz17_1:=zc (.slice A1_1 l1_1.length c1_1) BK245 1 rfl;have hfz17_0:=blk_frozen BK245.out 0;have hfz17_1:=blk_frozen BK245.out 1)|((with_reducible refine gate_callee (f:=62) rfl ?_);refine goesL_ (some 15) rfl rfl Try.func62 (by kernel_rfl) rfl #[.agg #[.int .i64 ((rd_T37 l0 x9_1).f0),.slice A246_1 ((rd_T37 l0 x9_1).f1).length c246_1],.agg #[.int .i64 a1_0,.slice A1_1 l1_1.length c1_1]] rfl (by (try simp only [zCb,zMb,zNb]);first|done|rfl|(simp only [zLb,zDb];rfl)) ?_;(with_reducible refine (impl_equalFact.calls k1 ((rd_T37 l0 x9_1).f0) _ _ ((rd_T37 l0 x9_1).f1) a1_0 _ _ l1_1 false _ ?side1 ?side2 ?side3 ?side4 A7.out).mono ?_);(case side1 => exact zKb HR246_1.out (zz HB));(case side2 => exact HC246_1.out);(case side3 => exact zKb HR1_1.out (zz HB));(case side4 => exact HC1_1.out);rintro e w18 ⟨rfl,hb⟩;refine ⟨_,rfl,?_⟩;replace BK245:=zA (zQ (g:=gb245) (o:=.cells #[.int .i64 a1_0,.slice A1_1 l1_1.length c1_1] 37 (0,0)) (by (with_reducible repeat (first|refine zF ?_ _|refine zI ?_|refine zG ?_ _));refine zUb ?_ NB245_247.out _;(with_reducible repeat (first|refine zF ?_ _|refine zI ?_|refine zG ?_ _));refine zUb ?_ NB245_247.out _;(with_reducible repeat (first|refine zF ?_ _|refine zI ?_|refine zG ?_ _));exact BK245.out) hb);replace BK247:=zA (zQ (g:=gb247) (o:=.cells #[.int .i64 ((rd_T37 l0 x9_1).f0),.slice A246_1 ((rd_T37 l0 x9_1).f1).length c246_1] 37 (0,0)) (by (with_reducible repeat (first|refine zF ?_ _|refine zI ?_|refine zG ?_ _));refine blk_put (cs:=#[.int .i64 ((rd_T37 l0 x9_1).f0),.slice none 0 0]) ?_ 1 _ rfl;(with_reducible repeat (first|refine zF ?_ _|refine zI ?_|refine zG ?_ _));refine blk_put (cs:=#[.int .i64 0,.slice none 0 0]) ?_ 0 _ rfl;(with_reducible repeat (first|refine zF ?_ _|refine zI ?_|refine zG ?_ _));exact BK247.out) hb);replace HB:=zA (zJb (zz HB) hb);(try clear hb);(try clear hb2);(try clear hk);(try clear hi)))
       go_roundg k1
       case measure => have:=HK1.out;omega
       case rel => exact ⟨(wrap64 (x9_1 + 1)),za,H',⟨by have:=HK1.out;omega⟩,⟨zx BK245⟩,⟨zz HB⟩⟩
     ·
      rw [if_neg c6] at H
      exact absurd H (by simp)
    ·
     rw [if_neg c5] at H
     exact absurd H (by simp)
   ·
    rw [if_neg c4] at H;have c4b0:=decide_eq_false c4;clear c4
    obtain rfl:=Option.some.inj H
    go_wp2
    go_ret
    exact ⟨by first|rfl|(simp [errW_none,errW_some] <;> rfl)|(simp [*,errW_none,errW_some] <;> rfl),zz HB⟩

/-! ### impl_copyInts: function 83 -/
def impl_copyInts.f (l0 : List Int) : Option (List Int) := (some (([] : List Int) : List Int)).bind fun y249 => (if y249.length + l0.length < 17592186044416 then (some (y249 ++ l0)) else (none))
set_option maxHeartbeats 8000000 in
set_option maxRecDepth 100000 in
theorem impl_copyInts.calls (A0 : Option Addr) (c0 : Nat) (l0 : List Int) (r : List Int) (w : World) (hr0 : Kd.C (Kd.int .i64) w A0 l0.length l0) (hc0 : l0.length ≤ c0) (h : impl_copyInts.f l0 = some r) :
  Calls Try.prog 83 #[.slice A0 l0.length c0] w fun e w' => ∃ v0_ : Value, e = .returned (v0_) ∧ Kd.R (Kd.int .i64) 3 w' w.heap.size (fun _ => True) v0_ r ∧ Below w.heap.size w w' := by
 have HR0:=zA hr0;have HC0:=zA hc0;clear hr0 hc0;have HB:=zA (Below.refl w.heap.size w)
 have H : ((some (([] : List Int) : List Int)).bind fun y249 => (if y249.length + l0.length < 17592186044416 then (some (y249 ++ l0)) else (none))) = some r:=h
 clear h;obtain ⟨y249,hy249⟩ : ∃ y_ : List Int,y_ = (([] : List Int)):=⟨_,rfl⟩
 replace H : (if y249.length + l0.length < 17592186044416 then (some (y249 ++ l0)) else (none)) = some r:=by first|(rw [hy249];with_reducible exact H)|(have H2_:=(Option.bind_some _ _).symm.trans H;rw [hy249];with_reducible exact H2_)|(have H2_:=(Option.bind_some _ _).symm.trans H;with_reducible exact H2_)|with_reducible exact H|(rw [hy249];exact H)|exact H
 have Ny249:=zA hy249;clear hy249
 by_cases c2 : y249.length + l0.length < 17592186044416
 ·
  rw [if_pos c2] at H;have LMc2:=zA c2;clear c2;obtain ⟨y252,hy252⟩ : ∃ y_ : List Int,y_ = (y249 ++ l0):=⟨_,rfl⟩
  replace H : (some y252) = some r:=by first|(rw [hy252];with_reducible exact H)|(have H2_:=(Option.bind_some _ _).symm.trans H;rw [hy252];with_reducible exact H2_)|(have H2_:=(Option.bind_some _ _).symm.trans H;with_reducible exact H2_)|with_reducible exact H|(rw [hy252];exact H)|exact H
  have Ny252:=zA hy252;clear hy252
  obtain rfl:=Option.some.inj H
  go_enter Try.func83,Try.ntmps83
  go_wp2_with (first|((with_reducible refine gate_dst (N:=3) rfl ?_);refine Kd.R_lit (Kd.int .i64) _ 3 ?hg (N:=3) ?hd (xs:=([] : List Int)) (inner:=[]) (ok:=fun _ => True) (okp:=fun _ => True) ?hr ?hp (fun _ hk => hk) trivial (Below.refl _ _) (Nat.le_refl _) (by simp) ?_;(case hd => rfl);(case hg => rfl);(case hr => first|(go_simp;done)|(go_simp;rfl));(case hp => exact (Reps.none _ _));intro v250 w3 ho4 hb hg_ hnew_;clear hg_ hnew_;(first|rw [← Ny249.out] at ho4|(simp only [Int.reduceToNat] at ho4;rw [← Ny249.out] at ho4));have HO251:=zA (zHb ho4 (zT (zz HB)));replace HB:=zA (zJb (zz HB) hb);clear hb ho4)|((with_reducible refine gate_builtin (b:=.append) (xs:=#[.tmp 3,.tmp 4]) rfl ?_);at_builtin;refine Kd.R_append_rows (Kd.int .i64) (w0:=w) w.heap.size rfl (.tmp 3) (.tmp 4) 22 3 (.int .i64 0) 8 rfl Try.underlying22 info3 rfl (by decide) (by omega) v250 y249 l0 _ _ _ (fun _ => True) (fun _ => False) rfl rfl ?aO ?aR (fun _ _ h => h) (fun _ h => h.elim) ?aF ?aB ?aS ?aL ?_;(case aR => repeat (first|exact (zKb HR0.out HB.out)|(with_reducible refine zBb ?_ _)|(with_reducible refine zAb ?_ _)|(with_reducible refine zX ?_)));(case aB => exact (zz HB));(case aF => exact (fun _ _ => trivial));(case aO => exact (zq HO251));(case aS => exact (zT (zz HB)));(case aL => have:=LMc2.out;omega);intro v253 w5 ho hb hg hat;rw [← Ny252.out] at ho;replace HB:=zA (hb);have HO254:=zA (ho);clear HO251;clear ho hb hg hat))
  go_ret
  exact ⟨_,by first|rfl|(simp [errW_none,errW_some] <;> rfl)|(simp [*,errW_none,errW_some] <;> rfl),zq HO254,zz HB⟩
 ·
  rw [if_neg c2] at H
  exact absurd H (by simp)

/-! ### impl_copyFact: function 52 -/
def impl_copyFact.f (a0_0 : Int) (l0_1 : List Int) : Option (Int × List Int) := (impl_copyInts.f l0_1).bind fun t257 => (some (a0_0, t257))
set_option maxHeartbeats 8000000 in
set_option maxRecDepth 100000 in
theorem impl_copyFact.calls (a0_0 : Int) (A0_1 : Option Addr) (c0_1 : Nat) (l0_1 : List Int) (r1 : Int) (r2 : List Int) (w : World) (hr0_1 : Kd.C (Kd.int .i64) w A0_1 l0_1.length l0_1) (hc0_1 : l0_1.length ≤ c0_1) (h : impl_copyFact.f a0_0 l0_1 = some (r1, r2)) :
  Calls Try.prog 52 #[.agg #[.int .i64 a0_0, .slice A0_1 l0_1.length c0_1]] w fun e w' => ∃ v1_ : Value, e = .returned (.agg #[.int .i64 r1, v1_]) ∧ Kd.R (Kd.int .i64) 3 w' w.heap.size (fun _ => True) v1_ r2 ∧ Below w.heap.size w w' := by
 have hu37:=Try.underlying37;have HR0_1:=zA hr0_1;have HC0_1:=zA hc0_1;clear hr0_1 hc0_1;have HB:=zA (Below.refl w.heap.size w)
 have H : ((impl_copyInts.f l0_1).bind fun t257 => (some (a0_0,t257))) = some (r1,r2):=h
 clear h;replace H:=Option.bind_eq_some_iff.mp H;obtain ⟨t257,A20,H⟩:=H;(try dsimp only at H);have A2:=zA A20;clear A20;simp only [Option.some.injEq,Prod.mk.injEq] at H;obtain ⟨rfl,rfl⟩:=H
 go_enter Try.func52,Try.ntmps52
 try go_wp2_with (first|((with_reducible refine gate_dst (N:=1) rfl ?_);refine box_event ?hg (N:=1) ?hd (cs:=#[.int .i64 a0_0,.slice A0_1 l0_1.length c0_1]) (t:=37) ?hr ?_;(case hd => rfl);(case hg => rfl);(case hr => first|(go_simp;done)|(go_simp;rfl));intro gb255 hg w3 hbox hb;have BK255:=zA (hbox);have GW255:=zA ((by rw [hg];exact (zT (zz HB)) : w.heap.size ≤ gb255));have GE255:=zA ((by rw [hg];exact (zT (zz HB)) : w.heap.size ≤ gb255));replace HB:=zA (zJb (zz HB) hb);clear hb hbox hg)|((with_reducible refine gate_dst (N:=2) rfl ?_);refine box_event ?hg (N:=2) ?hd (cs:=#[.int .i64 0,.slice none 0 0]) (t:=37) ?hr ?_;(case hd => rfl);(case hg => rfl);(case hr => first|(go_simp;done)|(go_simp;rfl));intro gb256 hg w4 hbox hb;have BK256:=zA (hbox);have GW256:=zA ((by rw [hg];exact (zT (zz HB)) : w.heap.size ≤ gb256));have GE256:=zA ((by rw [hg];exact (zT (zz HB)) : w.heap.size ≤ gb256));replace HB:=zA (zJb (zz HB) hb);have NB255_256:=zA ((by rw [hg];exact Nat.ne_of_lt (blk_lt (g:=gb255) (o:=.cells #[.int .i64 a0_0,.slice A0_1 l0_1.length c0_1] 37 (0,0)) (zx BK255)) : gb255 ≠ gb256));have NB256_255:=zA ((by rw [hg];exact Nat.ne_of_gt (blk_lt (g:=gb255) (o:=.cells #[.int .i64 a0_0,.slice A0_1 l0_1.length c0_1] 37 (0,0)) (zx BK255)) : gb256 ≠ gb255));replace BK255:=zA (zQ (g:=gb255) (o:=.cells #[.int .i64 a0_0,.slice A0_1 l0_1.length c0_1] 37 (0,0)) (zx BK255) hb);clear hb hbox hg))
 have n0_:=zA (zI BK255.out);have n1_:=zA (zI BK256.out);have n2_:=zA (zJ HB.out);clear BK255;clear BK256;clear HB;have BK255:=n0_;have BK256:=n1_;have HB:=n2_;clear n0_ n1_ n2_
 refine start_ (n:=7) (S:=fun w' => w'.cell? ⟨gb255,0,none⟩ = some (.int .i64 a0_0) ∧ w'.cell? ⟨gb255,1,none⟩ = some (.slice A0_1 l0_1.length c0_1)) (ds:=[]) #[false,false,false,false,false,false,false] (by kernel_rfl) rfl rfl ⟨(zP BK255.out 0).trans rfl,(zP BK255.out 1).trans rfl⟩ (fun hHeld => ?_)
 generalize w4.drew = w5 at BK255 BK256 HB hHeld ⊢
 refine pure_ (i:=0) (N:=some 3) (v:=?_) (a':=?_) #[true,false,false,false,false,false,false] rfl rfl (by kernel_rfl) (fun _ _ _ h => h) (Or.inl ⟨by rfl,?_⟩) ?_ ?_
 rotate_left
 ·
  intro w'
  go_simp
  with_reducible rfl
 rotate_left
 ·
  simp only [Act.put,zO,zEb,zFb,i64_w,i32_w]
  rfl
 refine pure_ (i:=2) (N:=some 5) (v:=?_) (a':=?_) #[true,false,true,false,false,false,false] rfl rfl (by kernel_rfl) (fun _ _ _ h => h) (Or.inl ⟨by rfl,?_⟩) ?_ ?_
 rotate_left
 ·
  intro w'
  go_simp
  with_reducible rfl
 rotate_left
 ·
  simp only [Act.put,zO,zEb,zFb,i64_w,i32_w]
  rfl
 refine take_ (i:=1) (N:=some 4) (v:=?_) (a':=?_) #[true,true,true,false,false,false,false] rfl rfl (by kernel_rfl) (fun _ _ _ h => h) (Or.inl ⟨by rfl,?_⟩) hHeld ?_ ?_
 rotate_left
 ·
  rintro w' ⟨s0,s1⟩
  go_simp
  with_reducible rfl
 rotate_left
 ·
  simp only [Act.put,zO,zEb,zFb,i64_w,i32_w]
  rfl
 refine take_ (i:=3) (N:=some 6) (v:=?_) (a':=?_) #[true,true,true,true,false,false,false] rfl rfl (by kernel_rfl) (fun _ _ _ h => h) (Or.inl ⟨by rfl,?_⟩) hHeld ?_ ?_
 rotate_left
 ·
  rintro w' ⟨s0,s1⟩
  go_simp
  with_reducible rfl
 rotate_left
 ·
  simp only [Act.put,zO,zEb,zFb,i64_w,i32_w]
  rfl
 refine one_ (i:=4) (N:=some 7) #[true,true,true,true,true,false,false] rfl rfl (by kernel_rfl) (by decide) (fun K hK => ?_)
 refine goes_ Try.func83 (by kernel_rfl) rfl #[.slice A0_1 l0_1.length c0_1] (by rfl) rfl rfl (by (try simp only [zCb,zMb,zNb]);first|done|rfl|(simp only [zLb,zDb];rfl)) ?_
 with_reducible refine (impl_copyInts.calls _ _ l0_1 t257 _ ?side1 ?side2 A2.out).mono ?_
 (case side1 => repeat (first|exact (zKb HR0_1.out HB.out)|(with_reducible refine zBb ?_ _)|(with_reducible refine zAb ?_ _)|(with_reducible refine zX ?_)))
 (case side2 => exact HC0_1.out)
 rintro e w6 ⟨v258,rfl,ho0,hb⟩
 refine ⟨_,rfl,?_⟩
 have n0_:=zA (zHb ho0 (zT (zz HB)));have n1_:=zA (zQ (g:=gb255) (o:=.cells #[.int .i64 a0_0,.slice A0_1 l0_1.length c0_1] 37 (0,0)) (zx BK255) hb);have n2_:=zA (zQ (g:=gb256) (o:=.cells #[.int .i64 0,.slice none 0 0] 37 (0,0)) (zx BK256) hb);have n3_:=zA (zJb (zz HB) hb);clear BK255;clear BK256;clear HB;have HO259:=n0_;have BK255:=n1_;have BK256:=n2_;have HB:=n3_;clear n0_ n1_ n2_ n3_;(try clear hb);(try clear hb2);(try clear hk);(try clear hi);(try clear ho0);obtain ⟨Ao7,co7,eo7⟩:=Kd.R_slice HO259.out
 (first|subst eo7|(injection eo7 with f1_ f2_ f3_;have f4_:=f1_.symm;have f5_:=f3_.symm;clear f1_ f2_ f3_;subst f4_;subst f5_))
 refine hK.out _ _ ⟨(zP BK255.out 0).trans rfl,(zP BK255.out 1).trans rfl⟩ (fun hHeld => ?_)
 clear hK K
 refine norm_ (a':=?_) ?_ ?_
 rotate_left
 ·
  show Act.put _ (some 7) _ = _
  simp only [Act.put,zO,zEb,zFb,i64_w,i32_w]
  rfl
 refine pure_ (i:=5) (N:=some 8) (v:=?_) (a':=?_) #[true,true,true,true,true,true,false] rfl rfl (by kernel_rfl) (fun _ _ _ h => h) (Or.inl ⟨by rfl,?_⟩) ?_ ?_
 rotate_left
 ·
  intro w'
  go_simp
  with_reducible rfl
 rotate_left
 ·
  simp only [Act.put,zO,zEb,zFb,i64_w,i32_w]
  rfl
 refine one_ (i:=6) (N:=none) #[true,true,true,true,true,true,true] rfl rfl (by kernel_rfl) (by decide) (fun K hK => ?_)
 have hs8 : w6.cell? ⟨gb256,0,none⟩ = some (.int .i64 0):=(zP BK256.out 0).trans rfl
 have hfs8:=blk_frozen BK256.out 0;have hns8_0:=NB255_256.out;have hms8_0:=NB256_255.out
 have hs9 : w6.cell? ⟨gb256,1,none⟩ = some (.slice none 0 0):=(zP BK256.out 1).trans rfl
 have hfs9:=blk_frozen BK256.out 1;have hns9_0:=NB255_256.out;have hms9_0:=NB256_255.out
 refine skip_ (w1:=?_) (by rfl) rfl ?_ ?_
 rotate_left
 ·
  go_simp
  rfl
 refine hK.out _ _ ⟨((zWb (p:=⟨gb256,_,none⟩) NB255_256.out _).trans (((zWb (p:=⟨gb256,_,none⟩) NB255_256.out _).trans (hHeld.1)))),((zWb (p:=⟨gb256,_,none⟩) NB255_256.out _).trans (((zWb (p:=⟨gb256,_,none⟩) NB255_256.out _).trans (hHeld.2))))⟩ (fun hHeld => ?_)
 clear hK K
 refine done_ (by kernel_rfl) ?_
 try go_wp2
 refine bodyPost_ret (results_cell_row rfl _ _ gb256 37 #[.int .i64 a0_0,.slice Ao7 t257.length co7] (0,0) _ rfl (by (with_reducible repeat (first|refine zF ?_ _|refine zI ?_|refine zG ?_ _));refine blk_put (cs:=#[.int .i64 a0_0,.slice none 0 0]) ?_ 1 _ rfl;(with_reducible repeat (first|refine zF ?_ _|refine zI ?_|refine zG ?_ _));refine blk_put (cs:=#[.int .i64 0,.slice none 0 0]) ?_ 0 _ rfl;(with_reducible repeat (first|refine zF ?_ _|refine zI ?_|refine zG ?_ _));exact BK256.out) Try.underlying37 rfl (by kernel_rfl)) rfl ?_
 exact ⟨_,by first|rfl|(simp [errW_none,errW_some] <;> rfl)|(simp [*,errW_none,errW_some] <;> rfl),by (with_reducible repeat (first|apply zE|apply zD|apply zH));exact zGb (zR (p:=⟨gb256,1,none⟩) (zR (p:=⟨gb256,0,none⟩) (Kd.R_types HO259.out BK256.out (by decide)) (fun _ hk => hk.2) (.int .i64 a0_0)) (fun _ hk => hk.2) (.slice Ao7 t257.length co7)) (fun _ hk => trivial),zz HB⟩

/-! ### impl_copyFacts: function 51 -/
def impl_copyFacts.l0 : Nat → List (S37) → List (S37) → Int → Int → Option ((List (S37)))
 | 0, _, _, _, _ => none
 | k + 1, x3, x7, x8, x9 => if x9 < x8 then (if 0 ≤ x9 then (if x9 < (x7.length : Int) then ((impl_copyFact.f ((rd_T37 x7 x9).f0) ((rd_T37 x7 x9).f1)).bind fun bt265 => (if x3.length < 4398046511104 then (impl_copyFacts.l0 k (x3 ++ [(⟨bt265.1, bt265.2⟩ : S37)]) x7 x8 (wrap64 (x9 + 1))) else (none))) else (none)) else (none)) else (some x3)
def impl_copyFacts.f (k : Nat) (l0 : List (S37)) : Option ((List (S37))) := impl_copyFacts.l0 k (([] : List (S37))) l0 (l0.length : Int) 0
theorem impl_copyFacts.mono_l : ∀ k, (∀ y0 y1 y2 y3, LeO (impl_copyFacts.l0 k y0 y1 y2 y3) (impl_copyFacts.l0 (k + 1) y0 y1 y2 y3))
 | 0 => fun _ _ _ _ r h => by simp [impl_copyFacts.l0] at h
 | k + 1 => by
  have ih0:=impl_copyFacts.mono_l k
  ·
   intro y0 y1 y2 y3
   unfold impl_copyFacts.l0
   repeat' first
   | (with_reducible exact ih0 _ _ _ _)
   | (with_reducible exact LeO.refl _)
   | (with_reducible exact LeO.none _)
   | (with_reducible refine LeO.ite ?_ ?_)
   | (with_reducible refine LeO.bind ?_ (fun _ => ?_))
   | exact ih0 _ _ _ _
   | exact LeO.none _
   | refine LeO.ite ?_ ?_
   | refine LeO.bind ?_ (fun _ => ?_)
theorem impl_copyFacts.mono : ∀ a0 k, LeO (impl_copyFacts.f k a0) (impl_copyFacts.f (k + 1) a0) := by
 intro a0 k
 have ih0:=impl_copyFacts.mono_l k
 unfold impl_copyFacts.f
 repeat' first
   | (with_reducible exact ih0 _ _ _ _)
   | (with_reducible exact LeO.refl _)
   | (with_reducible exact LeO.none _)
   | (with_reducible refine LeO.ite ?_ ?_)
   | (with_reducible refine LeO.bind ?_ (fun _ => ?_))
   | exact ih0 _ _ _ _
   | exact LeO.none _
   | refine LeO.ite ?_ ?_
   | refine LeO.bind ?_ (fun _ => ?_)
set_option maxHeartbeats 8000000 in
set_option maxRecDepth 100000 in
theorem impl_copyFacts.calls (k : Nat) (A0 : Option Addr) (c0 : Nat) (l0 : List (S37)) (r : List (S37)) (w : World) (hr0 : Kd.C k37 w A0 l0.length l0) (hc0 : l0.length ≤ c0) (h : impl_copyFacts.f k l0 = some r) :
  Calls Try.prog 51 #[.slice A0 l0.length c0] w fun e w' => ∃ v0_ : Value, e = .returned (v0_) ∧ Kd.S k37 37 w' w.heap.size (fun _ => True) v0_ r ∧ Below w.heap.size w w' := by
 have hu37:=Try.underlying37;have HR0:=zA hr0;have HC0:=zA hc0;clear hr0 hc0;have HB:=zA (Below.refl w.heap.size w)
 have H : (impl_copyFacts.l0 k (([] : List (S37))) l0 (l0.length : Int) 0) = some r:=h
 clear h;obtain ⟨y260,hy260⟩ : ∃ y_ : List (S37),y_ = (([] : List (S37))):=⟨_,rfl⟩
 replace H : (impl_copyFacts.l0 k y260 l0 (l0.length : Int) 0) = some r:=by first|(rw [hy260];with_reducible exact H)|(have H2_:=(Option.bind_some _ _).symm.trans H;rw [hy260];with_reducible exact H2_)|(have H2_:=(Option.bind_some _ _).symm.trans H;with_reducible exact H2_)|with_reducible exact H|(rw [hy260];exact H)|exact H
 have Ny260:=zA hy260;clear hy260
 have H':=zA H
 clear H
 go_enter Try.func51,Try.ntmps51
 go_wp2_with (first|((with_reducible refine gate_dst (N:=6) rfl ?_);refine Kd.S_lit k37 _ 37 ?hg (N:=6) ?hd (xs:=([] : List (S37))) (inner:=[]) (ok:=fun _ => True) (okp:=fun _ => True) ?hr ?hp (fun _ hk => hk) trivial (Below.refl _ _) (Nat.le_refl _) (by simp) ?_;(case hd => rfl);(case hg => rfl);(case hr => first|(go_simp;done)|(go_simp;rfl));(case hp => exact (Reps.none _ _));intro v261 w2 ho3 hb hg_ hnew_;clear hg_ hnew_;(first|rw [← Ny260.out] at ho3|(simp only [Int.reduceToNat] at ho3;rw [← Ny260.out] at ho3));have HO262:=zA (zIb ho3 (zT (zz HB)));replace HB:=zA (zJb (zz HB) hb);clear hb ho3))
 go_loopg [3,9] k (fun kq v3 v9 w' => ∃ (x3_1 : List (S37)) (x9_1 : Int),v9 = .int .i64 x9_1 ∧ Aside0 (impl_copyFacts.l0 kq x3_1 l0 (l0.length : Int) x9_1 = some r) ∧ Aside0 (kq ≤ k) ∧ Aside0 (Kd.S k37 37 w' w.heap.size (fun _ => True) v3 x3_1) ∧ Aside0 (Below w.heap.size w w'))
 case atStart => exact ⟨(y260),(0),za,H',⟨Nat.le_refl _⟩,⟨zy HO262⟩,⟨zz HB⟩⟩
 case round =>
  clear H';(try clear p2);obtain ⟨x3_1,x9_1,rfl,HA,HK1,HO_3,HB⟩:=hrel
  cases gk with
  | zero => exact absurd HA.out (by simp [impl_copyFacts.l0])
  | succ k1 =>
   have H:=HA.out;clear HA;simp only [impl_copyFacts.l0] at H
   by_cases c4 : x9_1 < (l0.length : Int)
   ·
    rw [if_pos c4] at H;have c4b0:=decide_eq_true c4;clear c4
    by_cases c5 : 0 ≤ x9_1
    ·
     rw [if_pos c5] at H;have c5b0:=decide_eq_true c5;clear c5
     by_cases c6 : x9_1 < (l0.length : Int)
     ·
      rw [if_pos c6] at H;have c6b0:=decide_eq_true c6;clear c6;replace H:=Option.bind_eq_some_iff.mp H;obtain ⟨⟨t265,t266⟩,A70,H⟩:=H;(try dsimp only at H);have A7:=zA A70;clear A70
      by_cases c8 : x3_1.length < 4398046511104
      ·
       rw [if_pos c8] at H;have LMc8:=zA c8;clear c8;obtain ⟨y269,hy269⟩ : ∃ y_ : List (S37),y_ = (x3_1 ++ [(⟨t265,t266⟩ : S37)]):=⟨_,rfl⟩
       replace H : (impl_copyFacts.l0 k1 y269 l0 (l0.length : Int) (wrap64 (x9_1 + 1))) = some r:=by first|(rw [hy269];with_reducible exact H)|(have H2_:=(Option.bind_some _ _).symm.trans H;rw [hy269];with_reducible exact H2_)|(have H2_:=(Option.bind_some _ _).symm.trans H;with_reducible exact H2_)|with_reducible exact H|(rw [hy269];exact H)|exact H
       have Ny269:=zA hy269;clear hy269
       have H':=zA H
       clear H;have p263 : 0 ≤ (x9_1 : Int):=zXb ze;have q263 : x9_1 < (l0.length : Int):=zXb ze;obtain ⟨ad263,A263_1,c263_1,e263,hx263_0,hx263_1,hl263_1,hi263_1⟩:=at_T37 HR0.out x9_1 p263 q263
       cases e263
       replace hx263_0:=(HB.out.cell (World.block_lt_of_cell? w _ hx263_0)).trans hx263_0;replace hx263_1:=(HB.out.cell (World.block_lt_of_cell? w _ hx263_1)).trans hx263_1;have HR263_1:=zA hi263_1;have HC263_1:=zA hl263_1;clear hi263_1 hl263_1;replace p263:=eq_true p263;replace q263:=eq_true q263
       go_wp2_with (first|((with_reducible refine gate_dst (N:=5) rfl ?_);refine box_event ?hg (N:=5) ?hd (cs:=#[.int .i64 0,.slice none 0 0]) (t:=37) ?hr ?_;(case hd => rfl);(case hg => rfl);(case hr => first|(go_simp;done)|(go_simp;rfl));intro gb264 hg w9 hbox hb;replace HO_3:=zA (zY (Kd.S_elderB (zy HO_3) gb264 (Nat.le_of_eq hg.symm)) hb);have BK264:=zA (hbox);have GW264:=zA ((by rw [hg];exact (zT (zz HB)) : w.heap.size ≤ gb264));have GE264:=zA ((by rw [hg];exact (zT (zz HB)) : w.heap.size ≤ gb264));replace HB:=zA (zJb (zz HB) hb);clear hb hbox hg;have hcz10_0:=zc (.int .i64 0) BK264 0 rfl;have hcz10_1:=zc (.slice none 0 0) BK264 1 rfl;have hfz10_0:=blk_frozen BK264.out 0;have hfz10_1:=blk_frozen BK264.out 1)|((with_reducible refine gate_callee (f:=52) rfl ?_);refine goesL_ (some 15) rfl rfl Try.func52 (by kernel_rfl) rfl #[.agg #[.int .i64 ((rd_T37 l0 x9_1).f0),.slice A263_1 ((rd_T37 l0 x9_1).f1).length c263_1]] rfl (by (try simp only [zCb,zMb,zNb]);first|done|rfl|(simp only [zLb,zDb];rfl)) ?_;(with_reducible refine (impl_copyFact.calls ((rd_T37 l0 x9_1).f0) _ _ ((rd_T37 l0 x9_1).f1) t265 t266 _ ?side1 ?side2 A7.out).mono ?_);(case side1 => exact zKb HR263_1.out (zz HB));(case side2 => exact HC263_1.out);rintro e w11 ⟨v267,rfl,ho0,hb⟩;refine ⟨_,rfl,?_⟩;replace HO_3:=zA (zSb (by (with_reducible repeat (first|apply zM|apply zL|apply zN));exact (zS (zVb (p:=⟨gb264,1,none⟩) (zVb (p:=⟨gb264,0,none⟩) (zS HO_3.out (fun k_ hk => (⟨hk,hk.2⟩ : _ ∧ k_ ≠ gb264))) (fun _ hk => hk.2) (.int .i64 ((rd_T37 l0 x9_1).f0))) (fun _ hk => hk.2) (.slice A263_1 ((rd_T37 l0 x9_1).f1).length c263_1)) (fun _ h_ => h_.1))) (zW ho0) hb);have HO268:=zA (zHb ho0 (zT (zz HB)));replace BK264:=zA (zQ (g:=gb264) (o:=.cells #[.int .i64 ((rd_T37 l0 x9_1).f0),.slice A263_1 ((rd_T37 l0 x9_1).f1).length c263_1] 37 (0,0)) (by (with_reducible repeat (first|refine zF ?_ _|refine zI ?_|refine zG ?_ _));refine blk_put (cs:=#[.int .i64 ((rd_T37 l0 x9_1).f0),.slice none 0 0]) ?_ 1 _ rfl;(with_reducible repeat (first|refine zF ?_ _|refine zI ?_|refine zG ?_ _));refine blk_put (cs:=#[.int .i64 0,.slice none 0 0]) ?_ 0 _ rfl;(with_reducible repeat (first|refine zF ?_ _|refine zI ?_|refine zG ?_ _));exact BK264.out) hb);replace HB:=zA (zJb (zz HB) hb);(try clear hb);(try clear hb2);(try clear hk);(try clear hi);(try clear ho0);obtain ⟨Ao13,co13,eo13⟩:=Kd.R_slice HO268.out;subst eo13)|((with_reducible refine gate_builtin (b:=.append) (xs:=#[.tmp 13,.tmp 16]) rfl ?_);at_builtin;refine Kd.S_append k37 (w0:=w) w.heap.size rfl (.tmp 13) (.tmp 16) 31 37 (.agg #[(.int .i64 0),(.slice none 0 0)]) 32 rfl Try.underlying31 info37 rfl (by decide) (by omega) u3 x3_1 (⟨t265,t266⟩ : S37) [.int .i64 t265,.slice Ao13 t266.length co13] (fun k_ => k_ ≠ gb264) (fun k_ => some k_ = (.slice Ao13 t266.length co13 : Value).ownBlock) rfl rfl ?aP (fun k_ hk_ => ((zGb (ok':=fun k_ => ((fun k_ => k_ ≠ gb264)) k_ ∧ some k_ ≠ (u3 : Value).ownBlock) (Kd.R_types (Kd.R_apart' (HO268.out) (Kd.S_typed HO_3.out) (by decide)) BK264.out (by decide)) (fun k_ hk => ⟨hk.2,hk.1.2⟩))).1 k_ hk_.symm) ?aF ?aO ?aB ?aS ?aL ?_;(case aP => exact k37_mkM _ _ _ (⟨t265,t266⟩ : S37) (zGb (Kd.R_tight rfl (zGb (ok':=fun k_ => ((fun k_ => k_ ≠ gb264)) k_ ∧ some k_ ≠ (u3 : Value).ownBlock) (Kd.R_types (Kd.R_apart' (HO268.out) (Kd.S_typed HO_3.out) (by decide)) BK264.out (by decide)) (fun k_ hk => ⟨hk.2,hk.1.2⟩))) (fun _ h_ => h_)));(case aB => exact (zz HB));(case aF => exact (fun k_ hk => Kd.freshB (g:=gb264) (o:=.cells #[.int .i64 ((rd_T37 l0 x9_1).f0),.slice A263_1 ((rd_T37 l0 x9_1).f1).length c263_1] 37 (0,0)) (zx BK264) k_ hk));(case aO => exact (by (with_reducible repeat (first|apply zM|apply zL|apply zN));exact zS HO_3.out (fun k_ hk => ⟨hk.1.2,fun e_ => hk.2 e_⟩)));(case aS => exact (zT (zz HB)));(case aL => have:=LMc8.out;omega);intro v270 w12 ho hb hg hat;rw [← Ny269.out] at ho;replace BK264:=zA (blk_grown (g:=gb264) (o:=.cells #[.int .i64 ((rd_T37 l0 x9_1).f0),.slice A263_1 ((rd_T37 l0 x9_1).f1).length c263_1] 37 (0,0)) (zx BK264) hg (Kd.S_away HO_3.out (fun _ hk => hk.1.2)));replace HB:=zA (hb);have HO271:=zA (ho);clear HO_3 HO268;clear ho hb hg hat))
       go_roundg k1
       case measure => have:=HK1.out;omega
       case rel => exact ⟨(y269),(wrap64 (x9_1 + 1)),za,H',⟨by have:=HK1.out;omega⟩,⟨by (with_reducible repeat (first|apply zM|apply zL|apply zN));exact zS HO271.out (fun _ hk => trivial)⟩,⟨zz HB⟩⟩
      ·
       rw [if_neg c8] at H
       exact absurd H (by simp)
     ·
      rw [if_neg c6] at H
      exact absurd H (by simp)
    ·
     rw [if_neg c5] at H
     exact absurd H (by simp)
   ·
    rw [if_neg c4] at H;have c4b0:=decide_eq_false c4;clear c4
    obtain rfl:=Option.some.inj H
    go_wp2
    go_ret
    exact ⟨_,by first|rfl|(simp [errW_none,errW_some] <;> rfl)|(simp [*,errW_none,errW_some] <;> rfl),zy HO_3,zz HB⟩

-- NOT PRINTED: function 53 (impl_Fact_53)

-- NOT PRINTED: function 14 (impl_AddFact)

/-! ### laws_big: function 22 -/
def laws_big.f (l0 : List Int) : Option (Bool) := some (decide ((l0.length : Int) > 1048576))
set_option maxHeartbeats 8000000 in
set_option maxRecDepth 100000 in
theorem laws_big.calls (A0 : Option Addr) (c0 : Nat) (l0 : List Int) (r : Bool) (w : World) (hr0 : Kd.C (Kd.int .u8) w A0 l0.length l0) (hc0 : l0.length ≤ c0) (h : laws_big.f l0 = some r) :
  Calls Try.prog 22 #[.slice A0 l0.length c0] w fun e w' => e = .returned (.bool r) ∧ Drawn0 w w' := by
 have HR0:=zA hr0;have HC0:=zA hc0;clear hr0 hc0
 have H : (some (decide ((l0.length : Int) > 1048576))) = some r:=h
 clear h
 obtain rfl:=Option.some.inj H
 go_enter Try.func22,Try.ntmps22
 go_wp2
 go_ret
 exact ⟨by first|rfl|(simp;done)|(simp [*];done),by repeat (first|exact Drawn0.refl _|apply Drawn0.step)⟩

/-- A state of type 139 at block g of W; what its slices lead to came in by w0. -/
def IsS139 (w0 W : World) (g : Nat) (f0 : List Int) (f1 : Int) (f2 : Int) : Prop := ∃ A0 c0, W.heap[g]? = some (.cells #[.slice A0 f0.length c0, .int .i64 f1, .int .i64 f2] 139 (0, 0)) ∧ w0.heap.size ≤ g ∧ Kd.C (Kd.int .u8) w0 A0 f0.length f0
theorem IsS139.grown {w0 W : World} {g : Nat} {f0 : List Int} {f1 : Int} {f2 : Int} {W1 : World} {row : Option Nat} (h : IsS139 w0 W g f0 f1 f2) (hw : W.grownBy W1 row) (hne : some g ≠ row) : IsS139 w0 W1 g f0 f1 f2 := by
 obtain ⟨A0,c0,hb,hg,hr0⟩:=h
 exact ⟨A0,c0,blk_grown hb hw hne,hg,hr0⟩
theorem IsS139.own_neN {w0 W : World} {g : Nat} {f0 : List Int} {f1 : Int} {f2 : Int} {α : Type} {d : Kd α} {e : Nat} {base : Nat} {ok : Nat → Prop} {v : Value} {xs : List α} (h : IsS139 w0 W g f0 f1 f2) (ho : Kd.N d e W base ok v xs) (ht : e ≠ 139) : some g ≠ v.ownBlock := by
 obtain ⟨A0,c0,hb,hg,hr0⟩:=h
 exact Kd.N_ne ho hb ht
theorem IsS139.fresh {w0 W : World} {g : Nat} {f0 : List Int} {f1 : Int} {f2 : Int} (h : IsS139 w0 W g f0 f1 f2) : ∀ k, W.heap.size ≤ k → k ≠ g := by
 obtain ⟨A0,c0,hb,hg,hr0⟩:=h
 exact Kd.freshB hb
theorem IsS139.kept {w0 W : World} {g : Nat} {f0 : List Int} {f1 : Int} {f2 : Int} {W1 : World} {S : Nat → Prop} (h : IsS139 w0 W g f0 f1 f2) (hk : Kept W W1 S) (hne : ¬ S g) : IsS139 w0 W1 g f0 f1 f2 := by
 obtain ⟨A0,c0,hb,hg,hr0⟩:=h
 exact ⟨A0,c0,blk_kept hb hk hne,hg,hr0⟩
theorem IsS139.below {w0 W : World} {g : Nat} {f0 : List Int} {f1 : Int} {f2 : Int} {W1 : World} (h : IsS139 w0 W g f0 f1 f2) (hw : Below W.heap.size W W1) : IsS139 w0 W1 g f0 f1 f2 := h.grown (grown_of_below hw none) (by simp)
theorem IsS139.alloc {w0 W : World} {g : Nat} {f0 : List Int} {f1 : Int} {f2 : Int} (h : IsS139 w0 W g f0 f1 f2) (o : Obj) : IsS139 w0 (W.alloc o) g f0 f1 f2 := h.below (zK (Below.refl _ _) o)
theorem IsS139.drewN {w0 W : World} {g : Nat} {f0 : List Int} {f1 : Int} {f2 : Int} (h : IsS139 w0 W g f0 f1 f2) (m : Nat) : IsS139 w0 (W.drewN m) g f0 f1 f2 := h
theorem IsS139.drew {w0 W : World} {g : Nat} {f0 : List Int} {f1 : Int} {f2 : Int} (h : IsS139 w0 W g f0 f1 f2) : IsS139 w0 W.drew g f0 f1 f2 := h
theorem IsS139.at_ {w0 W : World} {g : Nat} {f0 : List Int} {f1 : Int} {f2 : Int} {w' : World} {m : Nat} (hq : W.drewN m = w') (h : IsS139 w0 W g f0 f1 f2) : IsS139 w0 w' g f0 f1 f2 := by subst hq; exact IsS139.drewN h m
theorem IsS139.apart {w0 W : World} {g : Nat} {f0 : List Int} {f1 : Int} {f2 : Int} {α : Type} {d : Kd α} {e : Nat} {base : Nat} {ok : Nat → Prop} {v : Value} {xs : List α} (h : IsS139 w0 W g f0 f1 f2) (ho : d.R e W base ok v xs) (ht : ∀ q, q ∈ e :: d.E → q ≠ 139) : d.R e W base (fun k => ok k ∧ k ≠ g) v xs := by
 obtain ⟨A0,c0,hb,hg,hr0⟩:=h
 exact Kd.R_types ho hb ht
theorem IsS139.own_ne {w0 W : World} {g : Nat} {f0 : List Int} {f1 : Int} {f2 : Int} {α : Type} {d : Kd α} {e : Nat} {base : Nat} {ok : Nat → Prop} {v : Value} {xs : List α} (h : IsS139 w0 W g f0 f1 f2) (ho : d.R e W base ok v xs) (ht : e ≠ 139) : some g ≠ v.ownBlock := by
 obtain ⟨A0,c0,hb,hg,hr0⟩:=h
 exact Kd.R_ne ho hb ht
theorem IsS139.apartQ {w0 W : World} {g : Nat} {f0 : List Int} {f1 : Int} {f2 : Int} {α : Type} {d : Kd α} {e : Nat} {base : Nat} {ok : Nat → Prop} {v : Value} {xs : List α} (h : IsS139 w0 W g f0 f1 f2) (ho : d.Q e W base ok v xs) (ht : ∀ q, q ∈ e :: d.E → q ≠ 139) : d.Q e W base (fun k => ok k ∧ k ≠ g) v xs := by
 obtain ⟨A0,c0,hb,hg,hr0⟩:=h
 exact Kd.Q_types ho hb ht
theorem IsS139.own_neQ {w0 W : World} {g : Nat} {f0 : List Int} {f1 : Int} {f2 : Int} {α : Type} {d : Kd α} {e : Nat} {base : Nat} {ok : Nat → Prop} {v : Value} {xs : List α} (h : IsS139 w0 W g f0 f1 f2) (ho : d.Q e W base ok v xs) (ht : e ≠ 139) : some g ≠ v.ownBlock := by
 obtain ⟨A0,c0,hb,hg,hr0⟩:=h
 exact Kd.Q_ne ho hb ht
theorem IsS139.apartS {w0 W : World} {g : Nat} {f0 : List Int} {f1 : Int} {f2 : Int} {α : Type} {d : Kd α} {e : Nat} {base : Nat} {ok : Nat → Prop} {v : Value} {xs : List α} (h : IsS139 w0 W g f0 f1 f2) (ho : d.S e W base ok v xs) (ht : ∀ q, q ∈ e :: d.E → q ≠ 139) : d.S e W base (fun k => ok k ∧ k ≠ g) v xs := by
 obtain ⟨A0,c0,hb,hg,hr0⟩:=h
 exact Kd.S_types ho hb ht
theorem IsS139.own_neS {w0 W : World} {g : Nat} {f0 : List Int} {f1 : Int} {f2 : Int} {α : Type} {d : Kd α} {e : Nat} {base : Nat} {ok : Nat → Prop} {v : Value} {xs : List α} (h : IsS139 w0 W g f0 f1 f2) (ho : d.S e W base ok v xs) (ht : e ≠ 139) : some g ≠ v.ownBlock := by
 obtain ⟨A0,c0,hb,hg,hr0⟩:=h
 exact Kd.S_ne ho hb ht
theorem IsS139.lt {w0 W : World} {g : Nat} {f0 : List Int} {f1 : Int} {f2 : Int} (h : IsS139 w0 W g f0 f1 f2) : g < W.heap.size := by
 obtain ⟨A0,c0,hb,hg,hr0⟩:=h
 exact blk_lt hb
theorem IsS139.ge {w0 W : World} {g : Nat} {f0 : List Int} {f1 : Int} {f2 : Int} (h : IsS139 w0 W g f0 f1 f2) : w0.heap.size ≤ g := by
 obtain ⟨A0,c0,hb,hg,hr0⟩:=h
 exact hg
theorem IsS139.ne_blk {w0 W : World} {g : Nat} {f0 : List Int} {f1 : Int} {f2 : Int} {a : Nat} {cs : Array Value} {t : TypeId} {fr : Nat × Nat} (h : IsS139 w0 W g f0 f1 f2) (hb2 : W.heap[a]? = some (.cells cs t fr)) (ht : t ≠ 139) : g ≠ a := by
 obtain ⟨A0,c0,hb,hg,hr0⟩:=h
 rintro rfl
 rw [hb] at hb2
 injection hb2 with hb2
 injection hb2 with _ ht2
 exact ht ht2.symm
theorem IsS139.far {w0 W : World} {g : Nat} {f0 : List Int} {f1 : Int} {f2 : Int} {p : Addr} (h : IsS139 w0 W g f0 f1 f2) (hne : g ≠ p.block) (u : Value) : IsS139 w0 (W.setCell p u) g f0 f1 f2 := by
 obtain ⟨A0,c0,hb,hg,hr0⟩:=h
 exact ⟨A0,c0,zUb hb hne u,hg,hr0⟩
theorem cellS139_0 {W : World} {g : Nat} {A0 : Option Addr} {c0 : Nat} {f0 : List Int} {f1 : Int} {f2 : Int} (h : W.heap[g]? = some (.cells #[.slice A0 f0.length c0, .int .i64 f1, .int .i64 f2] 139 (0, 0))) : W.cell? ⟨g, 0, none⟩ = some (.slice A0 f0.length c0) := (zP h 0).trans rfl
theorem cellS139_1 {W : World} {g : Nat} {A0 : Option Addr} {c0 : Nat} {f0 : List Int} {f1 : Int} {f2 : Int} (h : W.heap[g]? = some (.cells #[.slice A0 f0.length c0, .int .i64 f1, .int .i64 f2] 139 (0, 0))) : W.cell? ⟨g, 1, none⟩ = some (.int .i64 f1) := (zP h 1).trans rfl
theorem IsS139.set_1 {w0 W : World} {g : Nat} {f0 : List Int} {f1 : Int} {f2 : Int} (h : IsS139 w0 W g f0 f1 f2) (x : Int) : IsS139 w0 (W.setCell ⟨g, 1, none⟩ (.int .i64 x)) g f0 x f2 := by
 obtain ⟨A0,c0,hb,hg,hr0⟩:=h
 exact ⟨A0,c0,by simpa using blk_set hb 1 (.int .i64 x),hg,hr0⟩
theorem cellS139_2 {W : World} {g : Nat} {A0 : Option Addr} {c0 : Nat} {f0 : List Int} {f1 : Int} {f2 : Int} (h : W.heap[g]? = some (.cells #[.slice A0 f0.length c0, .int .i64 f1, .int .i64 f2] 139 (0, 0))) : W.cell? ⟨g, 2, none⟩ = some (.int .i64 f2) := (zP h 2).trans rfl
theorem IsS139.set_2 {w0 W : World} {g : Nat} {f0 : List Int} {f1 : Int} {f2 : Int} (h : IsS139 w0 W g f0 f1 f2) (x : Int) : IsS139 w0 (W.setCell ⟨g, 2, none⟩ (.int .i64 x)) g f0 f1 x := by
 obtain ⟨A0,c0,hb,hg,hr0⟩:=h
 exact ⟨A0,c0,by simpa using blk_set hb 2 (.int .i64 x),hg,hr0⟩
theorem IsS139.new (w0 W : World) (A0 : Option Addr) (c0 : Nat) (f0 : List Int) (f1 : Int) (f2 : Int) (hB : Below w0.heap.size w0 W) (hr0 : Kd.C (Kd.int .u8) w0 A0 f0.length f0) : IsS139 w0 (W.alloc (.cells #[.slice A0 f0.length c0, .int .i64 f1, .int .i64 f2] 139)) W.heap.size f0 f1 f2 := ⟨A0, c0, by simpa using heap_alloc_new W _, hB.size, hr0⟩

/-! ### spec_l1New: function 86 -/
def spec_l1New.l0 : Nat → List Int → Int → Int → Option (List Int × Int × Int)
 | 0, _, _, _ => none
 | k + 1, x0, x3, x4 => if x4 < (x0.length : Int) then (if x4 < 4000 then (if 0 ≤ x4 then (spec_l1New.l0 k x0 (Go.bits .and .i64 (wrap64 ((wrap64 ((wrap64 (x3 * 131)) + (wrap64 (rd x0 x4)))) + 7)) 1073741823) (wrap64 (x4 + 1))) else (none)) else (some (x0, 0, x3))) else (some (x0, 0, x3))
def spec_l1New.f (k : Nat) (l0 : List Int) : Option (List Int × Int × Int) := spec_l1New.l0 k l0 (wrap64 (10101 + (l0.length : Int))) 0
theorem spec_l1New.mono_l : ∀ k, (∀ y0 y1 y2, LeO (spec_l1New.l0 k y0 y1 y2) (spec_l1New.l0 (k + 1) y0 y1 y2))
 | 0 => fun _ _ _ r h => by simp [spec_l1New.l0] at h
 | k + 1 => by
  have ih0:=spec_l1New.mono_l k
  ·
   intro y0 y1 y2
   unfold spec_l1New.l0
   repeat' first
   | (with_reducible exact ih0 _ _ _)
   | (with_reducible exact LeO.refl _)
   | (with_reducible exact LeO.none _)
   | (with_reducible refine LeO.ite ?_ ?_)
   | (with_reducible refine LeO.bind ?_ (fun _ => ?_))
   | exact ih0 _ _ _
   | exact LeO.none _
   | refine LeO.ite ?_ ?_
   | refine LeO.bind ?_ (fun _ => ?_)
theorem spec_l1New.mono : ∀ a0 k, LeO (spec_l1New.f k a0) (spec_l1New.f (k + 1) a0) := by
 intro a0 k
 have ih0:=spec_l1New.mono_l k
 unfold spec_l1New.f
 repeat' first
   | (with_reducible exact ih0 _ _ _)
   | (with_reducible exact LeO.refl _)
   | (with_reducible exact LeO.none _)
   | (with_reducible refine LeO.ite ?_ ?_)
   | (with_reducible refine LeO.bind ?_ (fun _ => ?_))
   | exact ih0 _ _ _
   | exact LeO.none _
   | refine LeO.ite ?_ ?_
   | refine LeO.bind ?_ (fun _ => ?_)
set_option maxHeartbeats 8000000 in
set_option maxRecDepth 100000 in
theorem spec_l1New.calls (k : Nat) (A0 : Option Addr) (c0 : Nat) (l0 : List Int) (r1 : List Int) (r2 : Int) (r3 : Int) (w0 w : World) (hB : Below w0.heap.size w0 w) (hr0 : Kd.C (Kd.int .u8) w0 A0 l0.length l0) (hc0 : l0.length ≤ c0) (h : spec_l1New.f k l0 = some (r1, r2, r3)) :
  Calls Try.prog 86 #[.slice A0 l0.length c0] w fun e w' => ∃ g_ : Nat, e = .returned (.pointer (some ⟨g_, 0, none⟩)) ∧ IsS139 w0 w' g_ r1 r2 r3 ∧ Below w0.heap.size w0 w' ∧ Below w.heap.size w w' := by
 have hu139:=Try.underlying139;have HR0:=zA hr0;have HC0:=zA hc0;clear hr0 hc0;have HBW:=zA (Below.refl w.heap.size w);have HW0:=zA hB.size;have HB:=zA hB;clear hB
 have H : (spec_l1New.l0 k l0 (wrap64 (10101 + (l0.length : Int))) 0) = some (r1,r2,r3):=h
 clear h
 have H':=zA H
 clear H
 go_enter Try.func86,Try.ntmps86
 go_wp2
 go_loopg [3,4] k (fun kq v3 v4 w' => ∃ (x3_1 : Int) (x4_1 : Int),v3 = .int .i64 x3_1 ∧ v4 = .int .i64 x4_1 ∧ Aside0 (spec_l1New.l0 kq l0 x3_1 x4_1 = some (r1,r2,r3)) ∧ Aside0 (kq ≤ k) ∧ Aside0 (Below w0.heap.size w0 w') ∧ Aside0 (Below w.heap.size w w'))
 case atStart => exact ⟨(wrap64 (10101 + (l0.length : Int))),(0),za,za,H',⟨Nat.le_refl _⟩,⟨zz HB⟩,⟨zz HBW⟩⟩
 case round =>
  clear H';obtain ⟨x3_1,x4_1,rfl,rfl,HA,HK1,HB,HBW⟩:=hrel
  cases gk with
  | zero => exact absurd HA.out (by simp [spec_l1New.l0])
  | succ k1 =>
   have H:=HA.out;clear HA;simp only [spec_l1New.l0] at H
   by_cases c2 : x4_1 < (l0.length : Int)
   ·
    rw [if_pos c2] at H;have c2b0:=decide_eq_true c2;clear c2
    by_cases c3 : x4_1 < 4000
    ·
     rw [if_pos c3] at H;have c3b0:=decide_eq_true c3;clear c3
     by_cases c4 : 0 ≤ x4_1
     ·
      rw [if_pos c4] at H;have c4b0:=decide_eq_true c4;clear c4
      have H':=zA H
      clear H;have p287 : 0 ≤ (x4_1 : Int):=zXb ze;have q287 : x4_1 < (l0.length : Int):=zXb ze;obtain ⟨ad287,e287,hx287_0⟩:=Kd.at_int HR0.out x4_1 p287 q287
      cases e287
      replace hx287_0:=pw_cell_below HB.out hx287_0;replace p287:=eq_true p287;replace q287:=eq_true q287
      go_wp2
      go_roundg k1
      case measure => have:=HK1.out;omega
      case rel => exact ⟨(Go.bits .and .i64 (wrap64 ((wrap64 ((wrap64 (x3_1 * 131)) + (wrap64 (rd l0 x4_1)))) + 7)) 1073741823),(wrap64 (x4_1 + 1)),za,za,H',⟨by have:=HK1.out;omega⟩,⟨zz HB⟩,⟨zz HBW⟩⟩
     ·
      rw [if_neg c4] at H
      exact absurd H (by simp)
    ·
     rw [if_neg c3] at H;have c3b0:=decide_eq_false c3;clear c3;simp only [Option.some.injEq,Prod.mk.injEq] at H;obtain ⟨rfl,rfl,rfl⟩:=H
     go_wp2_with (first|((with_reducible refine gate_dst (N:=31) rfl ?_);refine box_event ?hg (N:=31) ?hd (cs:=#[.slice A0 l0.length c0,.int .i64 0,.int .i64 x3_1]) (t:=139) ?hr ?_;(case hd => rfl);(case hg => rfl);(case hr => first|(go_simp;done)|(go_simp;rfl));intro gb288 hg w5 hbox hb;replace HB:=zA (zJb (zz HB) hb);have BK288:=zA (hbox);have GW288:=zA ((by rw [hg];exact (zT (zz HBW)) : w.heap.size ≤ gb288));have GE288:=zA ((Nat.le_trans HW0.out (by rw [hg];exact (zT (zz HBW)) : w.heap.size ≤ gb288) : w0.heap.size ≤ gb288));replace HBW:=zA (zJb HBW.out hb);clear hb hbox hg))
     go_ret
     exact ⟨_,rfl,(show IsS139 w0 _ gb288 l0 0 x3_1 from ⟨_,_,zx BK288,GE288.out,HR0.out⟩),zz HB,by repeat (first|(with_reducible first|exact HBW.out|apply zK|apply zC|apply zJ|refine zB ?_ GW288.out)|exact HBW.out)⟩
   ·
    rw [if_neg c2] at H;have c2b0:=decide_eq_false c2;clear c2;simp only [Option.some.injEq,Prod.mk.injEq] at H;obtain ⟨rfl,rfl,rfl⟩:=H
    go_wp2_with (first|((with_reducible refine gate_dst (N:=31) rfl ?_);refine box_event ?hg (N:=31) ?hd (cs:=#[.slice A0 l0.length c0,.int .i64 0,.int .i64 x3_1]) (t:=139) ?hr ?_;(case hd => rfl);(case hg => rfl);(case hr => first|(go_simp;done)|(go_simp;rfl));intro gb289 hg w6 hbox hb;replace HB:=zA (zJb (zz HB) hb);have BK289:=zA (hbox);have GW289:=zA ((by rw [hg];exact (zT (zz HBW)) : w.heap.size ≤ gb289));have GE289:=zA ((Nat.le_trans HW0.out (by rw [hg];exact (zT (zz HBW)) : w.heap.size ≤ gb289) : w0.heap.size ≤ gb289));replace HBW:=zA (zJb HBW.out hb);clear hb hbox hg))
    go_ret
    exact ⟨_,rfl,(show IsS139 w0 _ gb289 l0 0 x3_1 from ⟨_,_,zx BK289,GE289.out,HR0.out⟩),zz HB,by repeat (first|(with_reducible first|exact HBW.out|apply zK|apply zC|apply zJ|refine zB ?_ GW289.out)|exact HBW.out)⟩

/-! ### spec_l1Byte: function 124 -/
def spec_l1Byte.f (s0_0 : List Int) (s0_1 : Int) (s0_2 : Int) : Option (Int × Int × Int) := if s0_1 < (s0_0.length : Int) then (if 0 ≤ s0_1 then (some (Go.bits .and .i64 (wrap64 ((Go.bits .and .i64 (Go.bits .xor .i64 ((wrap64 ((wrap64 (s0_2 * 6364136223846793005)) + 1442695040888963407)) / 8589934592) ((wrap64 ((wrap64 (s0_2 * 6364136223846793005)) + 1442695040888963407)) / 35184372088832)) 255) + (wrap64 (rd s0_0 s0_1)))) 255, wrap64 (s0_1 + 1), wrap64 ((wrap64 (s0_2 * 6364136223846793005)) + 1442695040888963407))) else (none)) else (some (Go.bits .and .i64 (Go.bits .xor .i64 ((wrap64 ((wrap64 (s0_2 * 6364136223846793005)) + 1442695040888963407)) / 8589934592) ((wrap64 ((wrap64 (s0_2 * 6364136223846793005)) + 1442695040888963407)) / 35184372088832)) 255, s0_1, wrap64 ((wrap64 (s0_2 * 6364136223846793005)) + 1442695040888963407)))
set_option maxHeartbeats 8000000 in
set_option maxRecDepth 100000 in
theorem spec_l1Byte.calls (g : Nat) (s0_0 : List Int) (s0_1 : Int) (s0_2 : Int) (r1 : Int) (r2 : Int) (r3 : Int) (w0 w : World) (hI : IsS139 w0 w g s0_0 s0_1 s0_2) (hB : Below w0.heap.size w0 w) (h : spec_l1Byte.f s0_0 s0_1 s0_2 = some (r1, r2, r3)) :
  Calls Try.prog 124 #[.pointer (some ⟨g, 0, none⟩)] w fun e w' => e = .returned (.int .i64 r1) ∧ IsS139 w0 w' g s0_0 r2 r3 ∧ Below w0.heap.size w0 w' ∧ KeepBut w w' g none := by
 have HI0:=zA hI;have HK:=zA (KeepBut.refl w g none);have HL:=zA hB.size;clear hI;have HW0:=zA hB.size;have HB:=zA hB;clear hB
 have H : (if s0_1 < (s0_0.length : Int) then (if 0 ≤ s0_1 then (some (Go.bits .and .i64 (wrap64 ((Go.bits .and .i64 (Go.bits .xor .i64 ((wrap64 ((wrap64 (s0_2 * 6364136223846793005)) + 1442695040888963407)) / 8589934592) ((wrap64 ((wrap64 (s0_2 * 6364136223846793005)) + 1442695040888963407)) / 35184372088832)) 255) + (wrap64 (rd s0_0 s0_1)))) 255,wrap64 (s0_1 + 1),wrap64 ((wrap64 (s0_2 * 6364136223846793005)) + 1442695040888963407))) else (none)) else (some (Go.bits .and .i64 (Go.bits .xor .i64 ((wrap64 ((wrap64 (s0_2 * 6364136223846793005)) + 1442695040888963407)) / 8589934592) ((wrap64 ((wrap64 (s0_2 * 6364136223846793005)) + 1442695040888963407)) / 35184372088832)) 255,s0_1,wrap64 ((wrap64 (s0_2 * 6364136223846793005)) + 1442695040888963407)))) = some (r1,r2,r3):=h
 clear h
 by_cases c2 : s0_1 < (s0_0.length : Int)
 ·
  rw [if_pos c2] at H;have c2b0:=decide_eq_true c2;clear c2
  by_cases c3 : 0 ≤ s0_1
  ·
   rw [if_pos c3] at H;have c3b0:=decide_eq_true c3;clear c3;simp only [Option.some.injEq,Prod.mk.injEq] at H;obtain ⟨rfl,rfl,rfl⟩:=H;obtain ⟨ASz4_0,cSz4_0,HGz4,hgz4,HSz4_0⟩:=HI0.out;have hcz4_0:=cellS139_0 HGz4;have hcz4_1:=cellS139_1 HGz4;have hcz4_2:=cellS139_2 HGz4;have hfz4_1:=blk_frozen HGz4 1;have hfz4_2:=blk_frozen HGz4 2;clear HGz4 hgz4;have p290 : 0 ≤ (s0_1 : Int):=zXb ze;have q290 : s0_1 < (s0_0.length : Int):=zXb ze;obtain ⟨ad290,e290,hx290_0⟩:=Kd.at_int HSz4_0 s0_1 p290 q290
   cases e290
   have hn290_0 : ad290.block ≠ g:=Nat.ne_of_lt (Nat.lt_of_lt_of_le (by have:=World.block_lt_of_cell? _ _ hx290_0;first|rwa [add_block] at this|exact this) (IsS139.ge HI0.out));replace hx290_0:=pw_cell_below HB.out hx290_0;replace hx290_0:=(zWb (p:=⟨g,2,none⟩) (by first|(rw [add_block];exact hn290_0)|(show (Addr.add _ _).block ≠ _;rw [add_block];exact hn290_0)|exact hn290_0) (.int .i64 (wrap64 ((wrap64 (s0_2 * 6364136223846793005)) + 1442695040888963407)))).trans hx290_0;(try have hy290_0:=fun (n_ : Nat) => (show (((w.drewN n_).setCell ⟨g,2,none⟩ (.int .i64 (wrap64 ((wrap64 (s0_2 * 6364136223846793005)) + 1442695040888963407))))).cell? _ = some _ from hx290_0));clear hn290_0;replace p290:=eq_true p290;replace q290:=eq_true q290
   go_enter Try.func124,Try.ntmps124
   go_wp2
   repeat (go_quiet (fail);try go_wp2)
   go_ret
   exact ⟨by first|rfl|(simp [errW_none,errW_some] <;> rfl)|(simp [*,errW_none,errW_some] <;> rfl),by repeat (first|(with_reducible first|exact HI0.out|apply IsS139.alloc|apply IsS139.drewN|apply IsS139.drew|apply IsS139.set_1|apply IsS139.set_2)|exact HI0.out),by repeat (first|(with_reducible first|exact HB.out|apply zK|apply zC|apply zJ|refine zB ?_ (IsS139.ge HI0.out))|exact HB.out),by repeat (first|(with_reducible first|exact HK.out|apply KeepBut.set_|apply keep_drewN|apply keep_drew|apply keep_alloc)|exact HK.out)⟩
  ·
   rw [if_neg c3] at H
   exact absurd H (by simp)
 ·
  rw [if_neg c2] at H;have c2b0:=decide_eq_false c2;clear c2;simp only [Option.some.injEq,Prod.mk.injEq] at H;obtain ⟨rfl,rfl,rfl⟩:=H;obtain ⟨ASz5_0,cSz5_0,HGz5,hgz5,HSz5_0⟩:=HI0.out;have hcz5_0:=cellS139_0 HGz5;have hcz5_1:=cellS139_1 HGz5;have hcz5_2:=cellS139_2 HGz5;have hfz5_1:=blk_frozen HGz5 1;have hfz5_2:=blk_frozen HGz5 2;clear HGz5 hgz5
  go_enter Try.func124,Try.ntmps124
  go_wp2
  repeat (go_quiet (fail);try go_wp2)
  go_ret
  exact ⟨by first|rfl|(simp [errW_none,errW_some] <;> rfl)|(simp [*,errW_none,errW_some] <;> rfl),by repeat (first|(with_reducible first|exact HI0.out|apply IsS139.alloc|apply IsS139.drewN|apply IsS139.drew|apply IsS139.set_1|apply IsS139.set_2)|exact HI0.out),by repeat (first|(with_reducible first|exact HB.out|apply zK|apply zC|apply zJ|refine zB ?_ (IsS139.ge HI0.out))|exact HB.out),by repeat (first|(with_reducible first|exact HK.out|apply KeepBut.set_|apply keep_drewN|apply keep_drew|apply keep_alloc)|exact HK.out)⟩

end Go.Proofs.Ytfelabhakgcifaa.QFnFacts
