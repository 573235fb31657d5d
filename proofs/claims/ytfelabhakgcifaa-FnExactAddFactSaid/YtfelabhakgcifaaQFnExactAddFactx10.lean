/- Walks through the Go functions that FnExactAddFact reaches: each call returns what the Lean function beside it says, within the bounds that the theorem names. -/
import Derived.Test.YtfelabhakgcifaaQFnExactAddFactx0
namespace Go.Proofs.Ytfelabhakgcifaa.QFnExactAddFact
open Go.RowKit Go.Proofs.YtfelabhakgcifaaW.PrintWords Go.Proofs.YtfelabhakgcifaaW.PrintLast Go.Proofs.YtfelabhakgcifaaW.PrintMore
attribute [local go_sem] max2_int min2_int max_two min_two max_three min_three max_four min_four   -- for this text's walks alone
set_option linter.unusedVariables false
set_option linter.unusedSimpArgs false


/-! ### slices_Equal_int_int: function 94 -/
def slices_Equal_int_int.l0 : Nat → List Int → List Int → Int → Int → Option (Bool)
 | 0, _, _, _, _ => none
 | k + 1, x0, x1, x12, x13 => if x13 < x12 then (if 0 ≤ x13 then (if x13 < (x0.length : Int) then (if x13 < (x1.length : Int) then (if (rd x0 x13) = (rd x1 x13) then (slices_Equal_int_int.l0 k x0 x1 x12 (wrap64 (x13 + 1))) else (some false)) else (none)) else (none)) else (none)) else (some true)
def slices_Equal_int_int.f (k : Nat) (l0 : List Int) (l1 : List Int) : Option (Bool) := if (l0.length : Int) = (l1.length : Int) then (slices_Equal_int_int.l0 k l0 l1 (l0.length : Int) 0) else (some false)
theorem slices_Equal_int_int.mono_l : ∀ k, (∀ y0 y1 y2 y3, LeO (slices_Equal_int_int.l0 k y0 y1 y2 y3) (slices_Equal_int_int.l0 (k + 1) y0 y1 y2 y3))
 | 0 => fun _ _ _ _ r h => by simp [slices_Equal_int_int.l0] at h
 | k + 1 => by
  have ih0:=slices_Equal_int_int.mono_l k
  ·
   intro y0 y1 y2 y3
   unfold slices_Equal_int_int.l0
   repeat' first
   | (with_reducible exact ih0 _ _ _ _)
   | (with_reducible exact LeO.refl _)
   | (with_reducible exact LeO.none _)
   | (with_reducible refine LeO.ite ?_ ?_)
   | (with_reducible refine LeO.bind ?_ (fun _ => ?_))
   | exact ih0 _ _ _ _
   | exact LeO.none _
   | refine LeO.ite ?_ ?_
   | refine LeO.bind ?_ (fun _ => ?_)
theorem slices_Equal_int_int.mono : ∀ a0 a1 k, LeO (slices_Equal_int_int.f k a0 a1) (slices_Equal_int_int.f (k + 1) a0 a1) := by
 intro a0 a1 k
 have ih0:=slices_Equal_int_int.mono_l k
 unfold slices_Equal_int_int.f
 repeat' first
   | (with_reducible exact ih0 _ _ _ _)
   | (with_reducible exact LeO.refl _)
   | (with_reducible exact LeO.none _)
   | (with_reducible refine LeO.ite ?_ ?_)
   | (with_reducible refine LeO.bind ?_ (fun _ => ?_))
   | exact ih0 _ _ _ _
   | exact LeO.none _
   | refine LeO.ite ?_ ?_
   | refine LeO.bind ?_ (fun _ => ?_)
set_option maxHeartbeats 8000000 in
set_option maxRecDepth 100000 in
theorem slices_Equal_int_int.calls (k : Nat) (A0 : Option Addr) (c0 : Nat) (l0 : List Int) (A1 : Option Addr) (c1 : Nat) (l1 : List Int) (r : Bool) (w : World) (hr0 : Kd.C (Kd.int .i64) w A0 l0.length l0) (hc0 : l0.length ≤ c0) (hr1 : Kd.C (Kd.int .i64) w A1 l1.length l1) (hc1 : l1.length ≤ c1) (h : slices_Equal_int_int.f k l0 l1 = some r) :
  Calls Try.prog 94 #[.slice A0 l0.length c0, .slice A1 l1.length c1] w fun e w' => e = .returned (.bool r) ∧ Drawn0 w w' := by
 have HR0:=zA hr0;have HC0:=zA hc0;clear hr0 hc0;have HR1:=zA hr1;have HC1:=zA hc1;clear hr1 hc1
 have H : (if (l0.length : Int) = (l1.length : Int) then (slices_Equal_int_int.l0 k l0 l1 (l0.length : Int) 0) else (some false)) = some r:=h
 clear h
 by_cases c3 : (l0.length : Int) = (l1.length : Int)
 ·
  rw [if_pos c3] at H;have c3b0:=beq_iff_eq.mpr c3;have c3b1:=bne_eq_false_iff_eq.mpr c3
  have c3b2 : (l0.length == l1.length) = true:=by first|simpa using c3|(simp at c3 ⊢;omega)
  clear c3
  have H':=zA H
  clear H
  go_enter Try.func94,Try.ntmps94
  go_wp2
  repeat (go_quiet (fail);try go_wp2)
  go_loopg [13] k (fun kq v13 w' => ∃ (x13_1 : Int),v13 = .int .i64 x13_1 ∧ Aside0 (slices_Equal_int_int.l0 kq l0 l1 (l0.length : Int) x13_1 = some r) ∧ Aside0 (kq ≤ k) ∧ Drawn0 w w')
  case atStart => exact ⟨(0),za,H',⟨Nat.le_refl _⟩,by repeat (first|exact Drawn0.refl _|apply Drawn0.step)⟩
  case round =>
   clear H';(try clear c1);(try clear p2);(try clear c3);(try clear c3b0);(try clear c3b1);(try clear c3b2);obtain ⟨x13_1,rfl,HA,HK1,⟨m1,rfl⟩⟩:=hrel
   cases gk with
   | zero => exact absurd HA.out (by simp [slices_Equal_int_int.l0])
   | succ k1 =>
    have H:=HA.out;clear HA;simp only [slices_Equal_int_int.l0] at H
    by_cases c4 : x13_1 < (l0.length : Int)
    ·
     rw [if_pos c4] at H;have c4b0:=decide_eq_true c4;clear c4
     by_cases c5 : 0 ≤ x13_1
     ·
      rw [if_pos c5] at H;have c5b0:=decide_eq_true c5;clear c5
      by_cases c6 : x13_1 < (l0.length : Int)
      ·
       rw [if_pos c6] at H;have c6b0:=decide_eq_true c6;clear c6
       by_cases c7 : x13_1 < (l1.length : Int)
       ·
        rw [if_pos c7] at H;have c7b0:=decide_eq_true c7;clear c7
        by_cases c8 : (rd l0 x13_1) = (rd l1 x13_1)
        ·
         rw [if_pos c8] at H;have c8b0:=beq_iff_eq.mpr c8;have c8b1:=bne_eq_false_iff_eq.mpr c8;clear c8
         have H':=zA H
         clear H;have p272 : 0 ≤ (x13_1 : Int):=zXb ze;have q272 : x13_1 < (l0.length : Int):=zXb ze;obtain ⟨ad272,e272,hx272_0⟩:=Kd.at_int HR0.out x13_1 p272 q272
         cases e272
         replace p272:=eq_true p272;replace q272:=eq_true q272;have p273 : 0 ≤ (x13_1 : Int):=zXb ze;have q273 : x13_1 < (l1.length : Int):=zXb ze;obtain ⟨ad273,e273,hx273_0⟩:=Kd.at_int HR1.out x13_1 p273 q273
         cases e273
         replace p273:=eq_true p273;replace q273:=eq_true q273
         go_wp2
         repeat (go_quiet (fail);try go_wp2)
         go_roundg k1
         case measure => have:=HK1.out;omega
         case rel => exact ⟨(wrap64 (x13_1 + 1)),za,H',⟨by have:=HK1.out;omega⟩,by repeat (first|exact Drawn0.refl _|apply Drawn0.step)⟩
        ·
         rw [if_neg c8] at H;have c8b0:=beq_eq_false_iff_ne.mpr c8;have c8b1:=bne_iff_ne.mpr c8
         obtain rfl:=Option.some.inj H
         have p272 : 0 ≤ (x13_1 : Int):=zXb ze;have q272 : x13_1 < (l0.length : Int):=zXb ze;obtain ⟨ad272,e272,hx272_0⟩:=Kd.at_int HR0.out x13_1 p272 q272
         cases e272
         replace p272:=eq_true p272;replace q272:=eq_true q272;have p273 : 0 ≤ (x13_1 : Int):=zXb ze;have q273 : x13_1 < (l1.length : Int):=zXb ze;obtain ⟨ad273,e273,hx273_0⟩:=Kd.at_int HR1.out x13_1 p273 q273
         cases e273
         replace p273:=eq_true p273;replace q273:=eq_true q273
         go_wp2
         repeat (go_quiet (fail);try go_wp2)
         go_ret
         exact ⟨by first|rfl|(simp;done)|(simp [*];done),by repeat (first|exact Drawn0.refl _|apply Drawn0.step)⟩
       ·
        rw [if_neg c7] at H
        exact absurd H (by simp)
      ·
       rw [if_neg c6] at H
       exact absurd H (by simp)
     ·
      rw [if_neg c5] at H
      exact absurd H (by simp)
    ·
     rw [if_neg c4] at H;have c4b0:=decide_eq_false c4;clear c4
     obtain rfl:=Option.some.inj H
     go_wp2
     repeat (go_quiet (fail);try go_wp2)
     go_ret
     exact ⟨by first|rfl|(simp;done)|(simp [*];done),by repeat (first|exact Drawn0.refl _|apply Drawn0.step)⟩
 ·
  rw [if_neg c3] at H;have c3b0:=beq_eq_false_iff_ne.mpr c3;have c3b1:=bne_iff_ne.mpr c3
  have c3b2 : (l0.length == l1.length) = false:=by first|simpa using c3|(simp at c3 ⊢;omega)
  obtain rfl:=Option.some.inj H
  go_enter Try.func94,Try.ntmps94
  go_wp2
  repeat (go_quiet (fail);try go_wp2)
  go_ret
  exact ⟨by first|rfl|(simp;done)|(simp [*];done),by repeat (first|exact Drawn0.refl _|apply Drawn0.step)⟩

/-! ### impl_equalFact: function 62 -/
def impl_equalFact.f (k : Nat) (a0_0 : Int) (l0_1 : List Int) (a1_0 : Int) (l1_1 : List Int) : Option (Bool) := if a0_0 = a1_0 then ((slices_Equal_int_int.f k l0_1 l1_1).bind fun t276 => (some t276)) else (some false)
theorem impl_equalFact.mono : ∀ a0 a1 a2 a3 k, LeO (impl_equalFact.f k a0 a1 a2 a3) (impl_equalFact.f (k + 1) a0 a1 a2 a3) := by
 intro a0 a1 a2 a3 k
 unfold impl_equalFact.f
 repeat' first
   | (with_reducible exact slices_Equal_int_int.mono _ _ _)
   | (with_reducible exact LeO.refl _)
   | (with_reducible exact LeO.none _)
   | (with_reducible refine LeO.ite ?_ ?_)
   | (with_reducible refine LeO.bind ?_ (fun _ => ?_))
   | exact LeO.none _
   | refine LeO.ite ?_ ?_
   | refine LeO.bind ?_ (fun _ => ?_)
set_option maxHeartbeats 8000000 in
set_option maxRecDepth 100000 in
theorem impl_equalFact.calls (k : Nat) (a0_0 : Int) (A0_1 : Option Addr) (c0_1 : Nat) (l0_1 : List Int) (a1_0 : Int) (A1_1 : Option Addr) (c1_1 : Nat) (l1_1 : List Int) (r : Bool) (w : World) (hr0_1 : Kd.C (Kd.int .i64) w A0_1 l0_1.length l0_1) (hc0_1 : l0_1.length ≤ c0_1) (hr1_1 : Kd.C (Kd.int .i64) w A1_1 l1_1.length l1_1) (hc1_1 : l1_1.length ≤ c1_1) (h : impl_equalFact.f k a0_0 l0_1 a1_0 l1_1 = some r) :
  Calls Try.prog 62 #[.agg #[.int .i64 a0_0, .slice A0_1 l0_1.length c0_1], .agg #[.int .i64 a1_0, .slice A1_1 l1_1.length c1_1]] w fun e w' => e = .returned (.bool r) ∧ Below w.heap.size w w' := by
 have hu37:=Try.underlying37;have HR0_1:=zA hr0_1;have HC0_1:=zA hc0_1;clear hr0_1 hc0_1;have HR1_1:=zA hr1_1;have HC1_1:=zA hc1_1;clear hr1_1 hc1_1;have HB:=zA (Below.refl w.heap.size w)
 have H : (if a0_0 = a1_0 then ((slices_Equal_int_int.f k l0_1 l1_1).bind fun t276 => (some t276)) else (some false)) = some r:=h
 clear h
 by_cases c3 : a0_0 = a1_0
 ·
  rw [if_pos c3] at H;have c3b0:=beq_iff_eq.mpr c3;have c3b1:=bne_eq_false_iff_eq.mpr c3;clear c3;replace H:=Option.bind_eq_some_iff.mp H;obtain ⟨t276,A40,H⟩:=H;(try dsimp only at H);have A4:=zA A40;clear A40
  obtain rfl:=Option.some.inj H
  go_enter Try.func62,Try.ntmps62
  go_wp2_with (first|((with_reducible refine gate_dst (N:=2) rfl ?_);refine box_event ?hg (N:=2) ?hd (cs:=#[.int .i64 a0_0,.slice A0_1 l0_1.length c0_1]) (t:=37) ?hr ?_;(case hd => rfl);(case hg => rfl);(case hr => first|(go_simp;done)|(go_simp;rfl));intro gb274 hg w5 hbox hb;have BK274:=zA (hbox);have GW274:=zA ((by rw [hg];exact (zT (zz HB)) : w.heap.size ≤ gb274));have GE274:=zA ((by rw [hg];exact (zT (zz HB)) : w.heap.size ≤ gb274));replace HB:=zA (zJb (zz HB) hb);clear hb hbox hg)|((with_reducible refine gate_dst (N:=3) rfl ?_);refine box_event ?hg (N:=3) ?hd (cs:=#[.int .i64 a1_0,.slice A1_1 l1_1.length c1_1]) (t:=37) ?hr ?_;(case hd => rfl);(case hg => rfl);(case hr => first|(go_simp;done)|(go_simp;rfl));intro gb275 hg w6 hbox hb;have BK275:=zA (hbox);have GW275:=zA ((by rw [hg];exact (zT (zz HB)) : w.heap.size ≤ gb275));have GE275:=zA ((by rw [hg];exact (zT (zz HB)) : w.heap.size ≤ gb275));replace HB:=zA (zJb (zz HB) hb);have NB274_275:=zA ((by rw [hg];exact Nat.ne_of_lt (blk_lt (g:=gb274) (o:=.cells #[.int .i64 a0_0,.slice A0_1 l0_1.length c0_1] 37 (0,0)) (zx BK274)) : gb274 ≠ gb275));have NB275_274:=zA ((by rw [hg];exact Nat.ne_of_gt (blk_lt (g:=gb274) (o:=.cells #[.int .i64 a0_0,.slice A0_1 l0_1.length c0_1] 37 (0,0)) (zx BK274)) : gb275 ≠ gb274));replace BK274:=zA (zQ (g:=gb274) (o:=.cells #[.int .i64 a0_0,.slice A0_1 l0_1.length c0_1] 37 (0,0)) (zx BK274) hb);clear hb hbox hg;have hnb7:=NB274_275.out;have hnc7:=NB275_274.out;have hcz8_0:=zc (.int .i64 a0_0) BK274 0 rfl;have hcz8_1:=zc (.slice A0_1 l0_1.length c0_1) BK274 1 rfl;have hfz8_0:=blk_frozen BK274.out 0;have hfz8_1:=blk_frozen BK274.out 1;have hcz9_0:=zc (.int .i64 a1_0) BK275 0 rfl;have hcz9_1:=zc (.slice A1_1 l1_1.length c1_1) BK275 1 rfl;have hfz9_0:=blk_frozen BK275.out 0;have hfz9_1:=blk_frozen BK275.out 1)|(go_at_call 94;(with_reducible refine (slices_Equal_int_int.calls k _ _ l0_1 _ _ l1_1 t276 _ ?side1 ?side2 ?side3 ?side4 A4.out).mono ?_);(case side1 => repeat (first|exact (zKb HR0_1.out HB.out)|(with_reducible refine zBb ?_ _)|(with_reducible refine zAb ?_ _)|(with_reducible refine zX ?_)));(case side2 => exact HC0_1.out);(case side3 => repeat (first|exact (zKb HR1_1.out HB.out)|(with_reducible refine zBb ?_ _)|(with_reducible refine zAb ?_ _)|(with_reducible refine zX ?_)));(case side4 => exact HC1_1.out);rintro e w' ⟨rfl,⟨nd,rfl⟩⟩))
  go_ret
  exact ⟨by first|rfl|(simp [errW_none,errW_some] <;> rfl)|(simp [*,errW_none,errW_some] <;> rfl),zz HB⟩
 ·
  rw [if_neg c3] at H;have c3b0:=beq_eq_false_iff_ne.mpr c3;have c3b1:=bne_iff_ne.mpr c3
  obtain rfl:=Option.some.inj H
  go_enter Try.func62,Try.ntmps62
  go_wp2_with (first|((with_reducible refine gate_dst (N:=2) rfl ?_);refine box_event ?hg (N:=2) ?hd (cs:=#[.int .i64 a0_0,.slice A0_1 l0_1.length c0_1]) (t:=37) ?hr ?_;(case hd => rfl);(case hg => rfl);(case hr => first|(go_simp;done)|(go_simp;rfl));intro gb274 hg w10 hbox hb;have BK274:=zA (hbox);have GW274:=zA ((by rw [hg];exact (zT (zz HB)) : w.heap.size ≤ gb274));have GE274:=zA ((by rw [hg];exact (zT (zz HB)) : w.heap.size ≤ gb274));replace HB:=zA (zJb (zz HB) hb);clear hb hbox hg)|((with_reducible refine gate_dst (N:=3) rfl ?_);refine box_event ?hg (N:=3) ?hd (cs:=#[.int .i64 a1_0,.slice A1_1 l1_1.length c1_1]) (t:=37) ?hr ?_;(case hd => rfl);(case hg => rfl);(case hr => first|(go_simp;done)|(go_simp;rfl));intro gb275 hg w11 hbox hb;have BK275:=zA (hbox);have GW275:=zA ((by rw [hg];exact (zT (zz HB)) : w.heap.size ≤ gb275));have GE275:=zA ((by rw [hg];exact (zT (zz HB)) : w.heap.size ≤ gb275));replace HB:=zA (zJb (zz HB) hb);have NB274_275:=zA ((by rw [hg];exact Nat.ne_of_lt (blk_lt (g:=gb274) (o:=.cells #[.int .i64 a0_0,.slice A0_1 l0_1.length c0_1] 37 (0,0)) (zx BK274)) : gb274 ≠ gb275));have NB275_274:=zA ((by rw [hg];exact Nat.ne_of_gt (blk_lt (g:=gb274) (o:=.cells #[.int .i64 a0_0,.slice A0_1 l0_1.length c0_1] 37 (0,0)) (zx BK274)) : gb275 ≠ gb274));replace BK274:=zA (zQ (g:=gb274) (o:=.cells #[.int .i64 a0_0,.slice A0_1 l0_1.length c0_1] 37 (0,0)) (zx BK274) hb);clear hb hbox hg;have hnb12:=NB274_275.out;have hnc12:=NB275_274.out;have hcz13_0:=zc (.int .i64 a0_0) BK274 0 rfl;have hcz13_1:=zc (.slice A0_1 l0_1.length c0_1) BK274 1 rfl;have hfz13_0:=blk_frozen BK274.out 0;have hfz13_1:=blk_frozen BK274.out 1;have hcz14_0:=zc (.int .i64 a1_0) BK275 0 rfl;have hcz14_1:=zc (.slice A1_1 l1_1.length c1_1) BK275 1 rfl;have hfz14_0:=blk_frozen BK275.out 0;have hfz14_1:=blk_frozen BK275.out 1))
  go_ret
  exact ⟨by first|rfl|(simp [errW_none,errW_some] <;> rfl)|(simp [*,errW_none,errW_some] <;> rfl),zz HB⟩

/-! ### impl_HasFact: function 29 -/
def impl_HasFact.l0 : Nat → List (S37) → Int → Int → Int → List Int → Option (Bool)
 | 0, _, _, _, _, _ => none
 | k + 1, x7, x8, x9, x278000, x278001 => if x9 < x8 then (if 0 ≤ x9 then (if x9 < (x7.length : Int) then ((impl_equalFact.f k ((rd_T37 x7 x9).f0) ((rd_T37 x7 x9).f1) x278000 x278001).bind fun t280 => (if t280 = true then (some true) else (impl_HasFact.l0 k x7 x8 (wrap64 (x9 + 1)) x278000 x278001))) else (none)) else (none)) else (some false)
def impl_HasFact.f (k : Nat) (l0 : List (S37)) (a1_0 : Int) (l1_1 : List Int) : Option (Bool) := impl_HasFact.l0 k l0 (l0.length : Int) 0 a1_0 l1_1
theorem impl_HasFact.mono_l : ∀ k, (∀ y0 y1 y2 y3 y4, LeO (impl_HasFact.l0 k y0 y1 y2 y3 y4) (impl_HasFact.l0 (k + 1) y0 y1 y2 y3 y4))
 | 0 => fun _ _ _ _ _ r h => by simp [impl_HasFact.l0] at h
 | k + 1 => by
  have ih0:=impl_HasFact.mono_l k
  ·
   intro y0 y1 y2 y3 y4
   unfold impl_HasFact.l0
   repeat' first
   | (with_reducible exact ih0 _ _ _ _ _)
   | (with_reducible exact impl_equalFact.mono _ _ _ _ _)
   | (with_reducible exact LeO.refl _)
   | (with_reducible exact LeO.none _)
   | (with_reducible refine LeO.ite ?_ ?_)
   | (with_reducible refine LeO.bind ?_ (fun _ => ?_))
   | exact ih0 _ _ _ _ _
   | exact LeO.none _
   | refine LeO.ite ?_ ?_
   | refine LeO.bind ?_ (fun _ => ?_)
theorem impl_HasFact.mono : ∀ a0 a1 a2 k, LeO (impl_HasFact.f k a0 a1 a2) (impl_HasFact.f (k + 1) a0 a1 a2) := by
 intro a0 a1 a2 k
 have ih0:=impl_HasFact.mono_l k
 unfold impl_HasFact.f
 repeat' first
   | (with_reducible exact ih0 _ _ _ _ _)
   | (with_reducible exact impl_equalFact.mono _ _ _ _ _)
   | (with_reducible exact LeO.refl _)
   | (with_reducible exact LeO.none _)
   | (with_reducible refine LeO.ite ?_ ?_)
   | (with_reducible refine LeO.bind ?_ (fun _ => ?_))
   | exact ih0 _ _ _ _ _
   | exact LeO.none _
   | refine LeO.ite ?_ ?_
   | refine LeO.bind ?_ (fun _ => ?_)
set_option maxHeartbeats 8000000 in
set_option maxRecDepth 100000 in
theorem impl_HasFact.calls (k : Nat) (A0 : Option Addr) (c0 : Nat) (l0 : List (S37)) (a1_0 : Int) (A1_1 : Option Addr) (c1_1 : Nat) (l1_1 : List Int) (r : Bool) (w : World) (hr0 : Kd.C k37 w A0 l0.length l0) (hc0 : l0.length ≤ c0) (hr1_1 : Kd.C (Kd.int .i64) w A1_1 l1_1.length l1_1) (hc1_1 : l1_1.length ≤ c1_1) (h : impl_HasFact.f k l0 a1_0 l1_1 = some r) :
  Calls Try.prog 29 #[.slice A0 l0.length c0, .agg #[.int .i64 a1_0, .slice A1_1 l1_1.length c1_1]] w fun e w' => e = .returned (.bool r) ∧ Below w.heap.size w w' := by
 have hu37:=Try.underlying37;have HR0:=zA hr0;have HC0:=zA hc0;clear hr0 hc0;have HR1_1:=zA hr1_1;have HC1_1:=zA hc1_1;clear hr1_1 hc1_1;have HB:=zA (Below.refl w.heap.size w)
 have H : (impl_HasFact.l0 k l0 (l0.length : Int) 0 a1_0 l1_1) = some r:=h
 clear h
 have H':=zA H
 clear H
 go_enter Try.func29,Try.ntmps29
 go_wp2_with (first|((with_reducible refine gate_dst (N:=3) rfl ?_);refine box_event ?hg (N:=3) ?hd (cs:=#[.int .i64 a1_0,.slice A1_1 l1_1.length c1_1]) (t:=37) ?hr ?_;(case hd => rfl);(case hg => rfl);(case hr => first|(go_simp;done)|(go_simp;rfl));intro gb277 hg w3 hbox hb;have BK277:=zA (hbox);have GW277:=zA ((by rw [hg];exact (zT (zz HB)) : w.heap.size ≤ gb277));have GE277:=zA ((by rw [hg];exact (zT (zz HB)) : w.heap.size ≤ gb277));replace HB:=zA (zJb (zz HB) hb);clear hb hbox hg))
 go_loopg [9] k (fun kq v9 w' => ∃ (x9_1 : Int),v9 = .int .i64 x9_1 ∧ Aside0 (impl_HasFact.l0 kq l0 (l0.length : Int) x9_1 a1_0 l1_1 = some r) ∧ Aside0 (kq ≤ k) ∧ Aside0 (w'.heap[gb277]? = some (.cells #[.int .i64 a1_0,(.slice A1_1 l1_1.length c1_1)] 37 (0,0))) ∧ Aside0 (Below w.heap.size w w'))
 case atStart => exact ⟨(0),za,H',⟨Nat.le_refl _⟩,⟨zx BK277⟩,⟨zz HB⟩⟩
 case round =>
  clear H';(try clear c1);(try clear c2);(try clear p2);obtain ⟨x9_1,rfl,HA,HK1,BK277,HB⟩:=hrel
  cases gk with
  | zero => exact absurd HA.out (by simp [impl_HasFact.l0])
  | succ k1 =>
   have H:=HA.out;clear HA;simp only [impl_HasFact.l0] at H
   by_cases c4 : x9_1 < (l0.length : Int)
   ·
    rw [if_pos c4] at H;have c4b0:=decide_eq_true c4;clear c4
    by_cases c5 : 0 ≤ x9_1
    ·
     rw [if_pos c5] at H;have c5b0:=decide_eq_true c5;clear c5
     by_cases c6 : x9_1 < (l0.length : Int)
     ·
      rw [if_pos c6] at H;have c6b0:=decide_eq_true c6;clear c6;replace H:=Option.bind_eq_some_iff.mp H;obtain ⟨t280,A70,H⟩:=H;(try dsimp only at H);have A7:=zA A70;clear A70
      by_cases c8 : t280 = true
      ·
       subst c8
       rw [if_pos rfl] at H
       obtain rfl:=Option.some.inj H
       have p278 : 0 ≤ (x9_1 : Int):=zXb ze;have q278 : x9_1 < (l0.length : Int):=zXb ze;obtain ⟨ad278,A278_1,c278_1,e278,hx278_0,hx278_1,hl278_1,hi278_1⟩:=at_T37 HR0.out x9_1 p278 q278
       cases e278
       replace hx278_0:=(HB.out.cell (World.block_lt_of_cell? w _ hx278_0)).trans hx278_0;replace hx278_1:=(HB.out.cell (World.block_lt_of_cell? w _ hx278_1)).trans hx278_1;have HR278_1:=zA hi278_1;have HC278_1:=zA hl278_1;clear hi278_1 hl278_1;replace p278:=eq_true p278;replace q278:=eq_true q278
       go_wp2_with (first|((with_reducible refine gate_dst (N:=6) rfl ?_);refine box_event ?hg (N:=6) ?hd (cs:=#[.int .i64 0,.slice none 0 0]) (t:=37) ?hr ?_;(case hd => rfl);(case hg => rfl);(case hr => first|(go_simp;done)|(go_simp;rfl));intro gb279 hg w9 hbox hb;have BK279:=zA (hbox);have GW279:=zA ((by rw [hg];exact (zT (zz HB)) : w.heap.size ≤ gb279));have GE279:=zA ((by rw [hg];exact (zT (zz HB)) : w.heap.size ≤ gb279));replace HB:=zA (zJb (zz HB) hb);have NB277_279:=zA ((by rw [hg];exact Nat.ne_of_lt (blk_lt (g:=gb277) (o:=.cells #[.int .i64 a1_0,.slice A1_1 l1_1.length c1_1] 37 (0,0)) (zx BK277)) : gb277 ≠ gb279));have NB279_277:=zA ((by rw [hg];exact Nat.ne_of_gt (blk_lt (g:=gb277) (o:=.cells #[.int .i64 a1_0,.slice A1_1 l1_1.length c1_1] 37 (0,0)) (zx BK277)) : gb279 ≠ gb277));replace BK277:=zA (zQ (g:=gb277) (o:=.cells #[.int .i64 a1_0,.slice A1_1 l1_1.length c1_1] 37 (0,0)) (zx BK277) hb);clear hb hbox hg;have hnb10:=NB279_277.out;have hnc10:=NB277_279.out;have hcz11_0:=zc (.int .i64 0) BK279 0 rfl;have hcz11_1:=zc (.slice none 0 0) BK279 1 rfl;have hfz11_0:=blk_frozen BK279.out 0;have hfz11_1:=blk_frozen BK279.out 1;have hcz12_0:=zc (.int .i64 a1_0) BK277 0 rfl;have hcz12_1:=zc (.slice A1_1 l1_1.length c1_1) BK277 1 rfl;have hfz12_0:=blk_frozen BK277.out 0;have hfz12_1:=blk_frozen BK277.out 1)|((with_reducible refine gate_callee (f:=62) rfl ?_);refine goesL_ (some 15) rfl rfl Try.func62 (by kernel_rfl) rfl #[.agg #[.int .i64 ((rd_T37 l0 x9_1).f0),.slice A278_1 ((rd_T37 l0 x9_1).f1).length c278_1],.agg #[.int .i64 a1_0,.slice A1_1 l1_1.length c1_1]] rfl (by (try simp only [zCb,zMb,zNb]);first|done|rfl|(simp only [zLb,zDb];rfl)) ?_;(with_reducible refine (impl_equalFact.calls k1 ((rd_T37 l0 x9_1).f0) _ _ ((rd_T37 l0 x9_1).f1) a1_0 _ _ l1_1 true _ ?side1 ?side2 ?side3 ?side4 A7.out).mono ?_);(case side1 => exact zKb HR278_1.out (zz HB));(case side2 => exact HC278_1.out);(case side3 => exact zKb HR1_1.out (zz HB));(case side4 => exact HC1_1.out);rintro e w13 ⟨rfl,hb⟩;refine ⟨_,rfl,?_⟩;replace BK277:=zA (zQ (g:=gb277) (o:=.cells #[.int .i64 a1_0,.slice A1_1 l1_1.length c1_1] 37 (0,0)) (by (with_reducible repeat (first|refine zF ?_ _|refine zI ?_|refine zG ?_ _));refine zUb ?_ NB277_279.out _;(with_reducible repeat (first|refine zF ?_ _|refine zI ?_|refine zG ?_ _));refine zUb ?_ NB277_279.out _;(with_reducible repeat (first|refine zF ?_ _|refine zI ?_|refine zG ?_ _));exact BK277.out) hb);replace BK279:=zA (zQ (g:=gb279) (o:=.cells #[.int .i64 ((rd_T37 l0 x9_1).f0),.slice A278_1 ((rd_T37 l0 x9_1).f1).length c278_1] 37 (0,0)) (by (with_reducible repeat (first|refine zF ?_ _|refine zI ?_|refine zG ?_ _));refine blk_put (cs:=#[.int .i64 ((rd_T37 l0 x9_1).f0),.slice none 0 0]) ?_ 1 _ rfl;(with_reducible repeat (first|refine zF ?_ _|refine zI ?_|refine zG ?_ _));refine blk_put (cs:=#[.int .i64 0,.slice none 0 0]) ?_ 0 _ rfl;(with_reducible repeat (first|refine zF ?_ _|refine zI ?_|refine zG ?_ _));exact BK279.out) hb);replace HB:=zA (zJb (zz HB) hb);(try clear hb);(try clear hb2);(try clear hk);(try clear hi)))
       go_ret
       exact ⟨by first|rfl|(simp [errW_none,errW_some] <;> rfl)|(simp [*,errW_none,errW_some] <;> rfl),zz HB⟩
      ·
       replace c8:=Bool.eq_false_iff.mpr c8
       subst c8
       have H1 : (impl_HasFact.l0 k1 l0 (l0.length : Int) (wrap64 (x9_1 + 1)) a1_0 l1_1) = some r:=by rw [if_neg (show ¬ (false = true) by decide)] at H;exact H
       clear H;have H:=H1;clear H1
       have H':=zA H
       clear H;have p278 : 0 ≤ (x9_1 : Int):=zXb ze;have q278 : x9_1 < (l0.length : Int):=zXb ze;obtain ⟨ad278,A278_1,c278_1,e278,hx278_0,hx278_1,hl278_1,hi278_1⟩:=at_T37 HR0.out x9_1 p278 q278
       cases e278
       replace hx278_0:=(HB.out.cell (World.block_lt_of_cell? w _ hx278_0)).trans hx278_0;replace hx278_1:=(HB.out.cell (World.block_lt_of_cell? w _ hx278_1)).trans hx278_1;have HR278_1:=zA hi278_1;have HC278_1:=zA hl278_1;clear hi278_1 hl278_1;replace p278:=eq_true p278;replace q278:=eq_true q278
       go_wp2_with (first|((with_reducible refine gate_dst (N:=6) rfl ?_);refine box_event ?hg (N:=6) ?hd (cs:=#[.int .i64 0,.slice none 0 0]) (t:=37) ?hr ?_;(case hd => rfl);(case hg => rfl);(case hr => first|(go_simp;done)|(go_simp;rfl));intro gb279 hg w14 hbox hb;have BK279:=zA (hbox);have GW279:=zA ((by rw [hg];exact (zT (zz HB)) : w.heap.size ≤ gb279));have GE279:=zA ((by rw [hg];exact (zT (zz HB)) : w.heap.size ≤ gb279));replace HB:=zA (zJb (zz HB) hb);have NB277_279:=zA ((by rw [hg];exact Nat.ne_of_lt (blk_lt (g:=gb277) (o:=.cells #[.int .i64 a1_0,.slice A1_1 l1_1.length c1_1] 37 (0,0)) (zx BK277)) : gb277 ≠ gb279));have NB279_277:=zA ((by rw [hg];exact Nat.ne_of_gt (blk_lt (g:=gb277) (o:=.cells #[.int .i64 a1_0,.slice A1_1 l1_1.length c1_1] 37 (0,0)) (zx BK277)) : gb279 ≠ gb277));replace BK277:=zA (zQ (g:=gb277) (o:=.cells #[.int .i64 a1_0,.slice A1_1 l1_1.length c1_1] 37 (0,0)) (zx BK277) hb);clear hb hbox hg;have hnb15:=NB279_277.out;have hnc15:=NB277_279.out;have hcz16_0:=zc (.int .i64 0) BK279 0 rfl;have hcz16_1:=zc (.slice none 0 0) BK279 1 rfl;have hfz16_0:=blk_frozen BK279.out 0;have hfz16_1:=blk_frozen BK279.out 1;have hcz17_0:=zc (.int .i64 a1_0) BK277 0 rfl;have hcz17_1:=zc (.slice A1_1 l1_1.length c1_1) BK277 1 rfl;have hfz17_0:=blk_frozen BK277.out 0;have hfz17_1:=blk_frozen BK277.out 1)|((with_reducible refine gate_callee (f:=62) rfl ?_);refine goesL_ (some 15) rfl rfl Try.func62 (by kernel_rfl) rfl #[.agg #[.int .i64 ((rd_T37 l0 x9_1).f0),.slice A278_1 ((rd_T37 l0 x9_1).f1).length c278_1],.agg #[.int .i64 a1_0,.slice A1_1 l1_1.length c1_1]] rfl (by (try simp only [zCb,zMb,zNb]);first|done|rfl|(simp only [zLb,zDb];rfl)) ?_;(with_reducible refine (impl_equalFact.calls k1 ((rd_T37 l0 x9_1).f0) _ _ ((rd_T37 l0 x9_1).f1) a1_0 _ _ l1_1 false _ ?side1 ?side2 ?side3 ?side4 A7.out).mono ?_);(case side1 => exact zKb HR278_1.out (zz HB));(case side2 => exact HC278_1.out);(case side3 => exact zKb HR1_1.out (zz HB));(case side4 => exact HC1_1.out);rintro e w18 ⟨rfl,hb⟩;refine ⟨_,rfl,?_⟩;replace BK277:=zA (zQ (g:=gb277) (o:=.cells #[.int .i64 a1_0,.slice A1_1 l1_1.length c1_1] 37 (0,0)) (by (with_reducible repeat (first|refine zF ?_ _|refine zI ?_|refine zG ?_ _));refine zUb ?_ NB277_279.out _;(with_reducible repeat (first|refine zF ?_ _|refine zI ?_|refine zG ?_ _));refine zUb ?_ NB277_279.out _;(with_reducible repeat (first|refine zF ?_ _|refine zI ?_|refine zG ?_ _));exact BK277.out) hb);replace BK279:=zA (zQ (g:=gb279) (o:=.cells #[.int .i64 ((rd_T37 l0 x9_1).f0),.slice A278_1 ((rd_T37 l0 x9_1).f1).length c278_1] 37 (0,0)) (by (with_reducible repeat (first|refine zF ?_ _|refine zI ?_|refine zG ?_ _));refine blk_put (cs:=#[.int .i64 ((rd_T37 l0 x9_1).f0),.slice none 0 0]) ?_ 1 _ rfl;(with_reducible repeat (first|refine zF ?_ _|refine zI ?_|refine zG ?_ _));refine blk_put (cs:=#[.int .i64 0,.slice none 0 0]) ?_ 0 _ rfl;(with_reducible repeat (first|refine zF ?_ _|refine zI ?_|refine zG ?_ _));exact BK279.out) hb);replace HB:=zA (zJb (zz HB) hb);(try clear hb);(try clear hb2);(try clear hk);(try clear hi)))
       go_roundg k1
       case measure => have:=HK1.out;omega
       case rel => exact ⟨(wrap64 (x9_1 + 1)),za,H',⟨by have:=HK1.out;omega⟩,⟨zx BK277⟩,⟨zz HB⟩⟩
     ·
      rw [if_neg c6] at H
      exact absurd H (by simp)
    ·
     rw [if_neg c5] at H
     exact absurd H (by simp)
   ·
    rw [if_neg c4] at H;have c4b0:=decide_eq_false c4;clear c4
    obtain rfl:=Option.some.inj H
    go_wp2
    go_ret
    exact ⟨by first|rfl|(simp [errW_none,errW_some] <;> rfl)|(simp [*,errW_none,errW_some] <;> rfl),zz HB⟩

/-! ### impl_copyInts: function 83 -/
def impl_copyInts.f (l0 : List Int) : Option (List Int) := (some (([] : List Int) : List Int)).bind fun y281 => (if y281.length + l0.length < 17592186044416 then (some (y281 ++ l0)) else (none))
set_option maxHeartbeats 8000000 in
set_option maxRecDepth 100000 in
theorem impl_copyInts.calls (A0 : Option Addr) (c0 : Nat) (l0 : List Int) (r : List Int) (w : World) (hr0 : Kd.C (Kd.int .i64) w A0 l0.length l0) (hc0 : l0.length ≤ c0) (h : impl_copyInts.f l0 = some r) :
  Calls Try.prog 83 #[.slice A0 l0.length c0] w fun e w' => ∃ v0_ : Value, e = .returned (v0_) ∧ Kd.R (Kd.int .i64) 3 w' w.heap.size (fun _ => True) v0_ r ∧ Below w.heap.size w w' := by
 have HR0:=zA hr0;have HC0:=zA hc0;clear hr0 hc0;have HB:=zA (Below.refl w.heap.size w)
 have H : ((some (([] : List Int) : List Int)).bind fun y281 => (if y281.length + l0.length < 17592186044416 then (some (y281 ++ l0)) else (none))) = some r:=h
 clear h;obtain ⟨y281,hy281⟩ : ∃ y_ : List Int,y_ = (([] : List Int)):=⟨_,rfl⟩
 replace H : (if y281.length + l0.length < 17592186044416 then (some (y281 ++ l0)) else (none)) = some r:=by first|(rw [hy281];with_reducible exact H)|(have H2_:=(Option.bind_some _ _).symm.trans H;rw [hy281];with_reducible exact H2_)|(have H2_:=(Option.bind_some _ _).symm.trans H;with_reducible exact H2_)|with_reducible exact H|(rw [hy281];exact H)|exact H
 have Ny281:=zA hy281;clear hy281
 by_cases c2 : y281.length + l0.length < 17592186044416
 ·
  rw [if_pos c2] at H;have LMc2:=zA c2;clear c2;obtain ⟨y284,hy284⟩ : ∃ y_ : List Int,y_ = (y281 ++ l0):=⟨_,rfl⟩
  replace H : (some y284) = some r:=by first|(rw [hy284];with_reducible exact H)|(have H2_:=(Option.bind_some _ _).symm.trans H;rw [hy284];with_reducible exact H2_)|(have H2_:=(Option.bind_some _ _).symm.trans H;with_reducible exact H2_)|with_reducible exact H|(rw [hy284];exact H)|exact H
  have Ny284:=zA hy284;clear hy284
  obtain rfl:=Option.some.inj H
  go_enter Try.func83,Try.ntmps83
  go_wp2_with (first|((with_reducible refine gate_dst (N:=3) rfl ?_);refine Kd.R_lit (Kd.int .i64) _ 3 ?hg (N:=3) ?hd (xs:=([] : List Int)) (inner:=[]) (ok:=fun _ => True) (okp:=fun _ => True) ?hr ?hp (fun _ hk => hk) trivial (Below.refl _ _) (Nat.le_refl _) (by simp) ?_;(case hd => rfl);(case hg => rfl);(case hr => first|(go_simp;done)|(go_simp;rfl));(case hp => exact (Reps.none _ _));intro v282 w3 ho4 hb hg_ hnew_;clear hg_ hnew_;(first|rw [← Ny281.out] at ho4|(simp only [Int.reduceToNat] at ho4;rw [← Ny281.out] at ho4));have HO283:=zA (zHb ho4 (zT (zz HB)));replace HB:=zA (zJb (zz HB) hb);clear hb ho4)|((with_reducible refine gate_builtin (b:=.append) (xs:=#[.tmp 3,.tmp 4]) rfl ?_);at_builtin;refine Kd.R_append_rows (Kd.int .i64) (w0:=w) w.heap.size rfl (.tmp 3) (.tmp 4) 22 3 (.int .i64 0) 8 rfl Try.underlying22 info3 rfl (by decide) (by omega) v282 y281 l0 _ _ _ (fun _ => True) (fun _ => False) rfl rfl ?aO ?aR (fun _ _ h => h) (fun _ h => h.elim) ?aF ?aB ?aS ?aL ?_;(case aR => repeat (first|exact (zKb HR0.out HB.out)|(with_reducible refine zBb ?_ _)|(with_reducible refine zAb ?_ _)|(with_reducible refine zX ?_)));(case aB => exact (zz HB));(case aF => exact (fun _ _ => trivial));(case aO => exact (zq HO283));(case aS => exact (zT (zz HB)));(case aL => have:=LMc2.out;omega);intro v285 w5 ho hb hg hat;rw [← Ny284.out] at ho;replace HB:=zA (hb);have HO286:=zA (ho);clear HO283;clear ho hb hg hat))
  go_ret
  exact ⟨_,by first|rfl|(simp [errW_none,errW_some] <;> rfl)|(simp [*,errW_none,errW_some] <;> rfl),zq HO286,zz HB⟩
 ·
  rw [if_neg c2] at H
  exact absurd H (by simp)

/-! ### impl_copyFact: function 52 -/
def impl_copyFact.f (a0_0 : Int) (l0_1 : List Int) : Option (Int × List Int) := (impl_copyInts.f l0_1).bind fun t289 => (some (a0_0, t289))
set_option maxHeartbeats 8000000 in
set_option maxRecDepth 100000 in
theorem impl_copyFact.calls (a0_0 : Int) (A0_1 : Option Addr) (c0_1 : Nat) (l0_1 : List Int) (r1 : Int) (r2 : List Int) (w : World) (hr0_1 : Kd.C (Kd.int .i64) w A0_1 l0_1.length l0_1) (hc0_1 : l0_1.length ≤ c0_1) (h : impl_copyFact.f a0_0 l0_1 = some (r1, r2)) :
  Calls Try.prog 52 #[.agg #[.int .i64 a0_0, .slice A0_1 l0_1.length c0_1]] w fun e w' => ∃ v1_ : Value, e = .returned (.agg #[.int .i64 r1, v1_]) ∧ Kd.R (Kd.int .i64) 3 w' w.heap.size (fun _ => True) v1_ r2 ∧ Below w.heap.size w w' := by
 have hu37:=Try.underlying37;have HR0_1:=zA hr0_1;have HC0_1:=zA hc0_1;clear hr0_1 hc0_1;have HB:=zA (Below.refl w.heap.size w)
 have H : ((impl_copyInts.f l0_1).bind fun t289 => (some (a0_0,t289))) = some (r1,r2):=h
 clear h;replace H:=Option.bind_eq_some_iff.mp H;obtain ⟨t289,A20,H⟩:=H;(try dsimp only at H);have A2:=zA A20;clear A20;simp only [Option.some.injEq,Prod.mk.injEq] at H;obtain ⟨rfl,rfl⟩:=H
 go_enter Try.func52,Try.ntmps52
 try go_wp2_with (first|((with_reducible refine gate_dst (N:=1) rfl ?_);refine box_event ?hg (N:=1) ?hd (cs:=#[.int .i64 a0_0,.slice A0_1 l0_1.length c0_1]) (t:=37) ?hr ?_;(case hd => rfl);(case hg => rfl);(case hr => first|(go_simp;done)|(go_simp;rfl));intro gb287 hg w3 hbox hb;have BK287:=zA (hbox);have GW287:=zA ((by rw [hg];exact (zT (zz HB)) : w.heap.size ≤ gb287));have GE287:=zA ((by rw [hg];exact (zT (zz HB)) : w.heap.size ≤ gb287));replace HB:=zA (zJb (zz HB) hb);clear hb hbox hg)|((with_reducible refine gate_dst (N:=2) rfl ?_);refine box_event ?hg (N:=2) ?hd (cs:=#[.int .i64 0,.slice none 0 0]) (t:=37) ?hr ?_;(case hd => rfl);(case hg => rfl);(case hr => first|(go_simp;done)|(go_simp;rfl));intro gb288 hg w4 hbox hb;have BK288:=zA (hbox);have GW288:=zA ((by rw [hg];exact (zT (zz HB)) : w.heap.size ≤ gb288));have GE288:=zA ((by rw [hg];exact (zT (zz HB)) : w.heap.size ≤ gb288));replace HB:=zA (zJb (zz HB) hb);have NB287_288:=zA ((by rw [hg];exact Nat.ne_of_lt (blk_lt (g:=gb287) (o:=.cells #[.int .i64 a0_0,.slice A0_1 l0_1.length c0_1] 37 (0,0)) (zx BK287)) : gb287 ≠ gb288));have NB288_287:=zA ((by rw [hg];exact Nat.ne_of_gt (blk_lt (g:=gb287) (o:=.cells #[.int .i64 a0_0,.slice A0_1 l0_1.length c0_1] 37 (0,0)) (zx BK287)) : gb288 ≠ gb287));replace BK287:=zA (zQ (g:=gb287) (o:=.cells #[.int .i64 a0_0,.slice A0_1 l0_1.length c0_1] 37 (0,0)) (zx BK287) hb);clear hb hbox hg))
 have n0_:=zA (zI BK287.out);have n1_:=zA (zI BK288.out);have n2_:=zA (zJ HB.out);clear BK287;clear BK288;clear HB;have BK287:=n0_;have BK288:=n1_;have HB:=n2_;clear n0_ n1_ n2_
 refine start_ (n:=7) (S:=fun w' => w'.cell? ⟨gb287,0,none⟩ = some (.int .i64 a0_0) ∧ w'.cell? ⟨gb287,1,none⟩ = some (.slice A0_1 l0_1.length c0_1)) (ds:=[]) #[false,false,false,false,false,false,false] (by kernel_rfl) rfl rfl ⟨(zP BK287.out 0).trans rfl,(zP BK287.out 1).trans rfl⟩ (fun hHeld => ?_)
 generalize w4.drew = w5 at BK287 BK288 HB hHeld ⊢
 refine pure_ (i:=0) (N:=some 3) (v:=?_) (a':=?_) #[true,false,false,false,false,false,false] rfl rfl (by kernel_rfl) (fun _ _ _ h => h) (Or.inl ⟨by rfl,?_⟩) ?_ ?_
 rotate_left
 ·
  intro w'
  go_simp
  with_reducible rfl
 rotate_left
 ·
  simp only [Act.put,zO,zEb,zFb,i64_w,i32_w]
  rfl
 refine pure_ (i:=2) (N:=some 5) (v:=?_) (a':=?_) #[true,false,true,false,false,false,false] rfl rfl (by kernel_rfl) (fun _ _ _ h => h) (Or.inl ⟨by rfl,?_⟩) ?_ ?_
 rotate_left
 ·
  intro w'
  go_simp
  with_reducible rfl
 rotate_left
 ·
  simp only [Act.put,zO,zEb,zFb,i64_w,i32_w]
  rfl
 refine take_ (i:=1) (N:=some 4) (v:=?_) (a':=?_) #[true,true,true,false,false,false,false] rfl rfl (by kernel_rfl) (fun _ _ _ h => h) (Or.inl ⟨by rfl,?_⟩) hHeld ?_ ?_
 rotate_left
 ·
  rintro w' ⟨s0,s1⟩
  go_simp
  with_reducible rfl
 rotate_left
 ·
  simp only [Act.put,zO,zEb,zFb,i64_w,i32_w]
  rfl
 refine take_ (i:=3) (N:=some 6) (v:=?_) (a':=?_) #[true,true,true,true,false,false,false] rfl rfl (by kernel_rfl) (fun _ _ _ h => h) (Or.inl ⟨by rfl,?_⟩) hHeld ?_ ?_
 rotate_left
 ·
  rintro w' ⟨s0,s1⟩
  go_simp
  with_reducible rfl
 rotate_left
 ·
  simp only [Act.put,zO,zEb,zFb,i64_w,i32_w]
  rfl
 refine one_ (i:=4) (N:=some 7) #[true,true,true,true,true,false,false] rfl rfl (by kernel_rfl) (by decide) (fun K hK => ?_)
 refine goes_ Try.func83 (by kernel_rfl) rfl #[.slice A0_1 l0_1.length c0_1] (by rfl) rfl rfl (by (try simp only [zCb,zMb,zNb]);first|done|rfl|(simp only [zLb,zDb];rfl)) ?_
 with_reducible refine (impl_copyInts.calls _ _ l0_1 t289 _ ?side1 ?side2 A2.out).mono ?_
 (case side1 => repeat (first|exact (zKb HR0_1.out HB.out)|(with_reducible refine zBb ?_ _)|(with_reducible refine zAb ?_ _)|(with_reducible refine zX ?_)))
 (case side2 => exact HC0_1.out)
 rintro e w6 ⟨v290,rfl,ho0,hb⟩
 refine ⟨_,rfl,?_⟩
 have n0_:=zA (zHb ho0 (zT (zz HB)));have n1_:=zA (zQ (g:=gb287) (o:=.cells #[.int .i64 a0_0,.slice A0_1 l0_1.length c0_1] 37 (0,0)) (zx BK287) hb);have n2_:=zA (zQ (g:=gb288) (o:=.cells #[.int .i64 0,.slice none 0 0] 37 (0,0)) (zx BK288) hb);have n3_:=zA (zJb (zz HB) hb);clear BK287;clear BK288;clear HB;have HO291:=n0_;have BK287:=n1_;have BK288:=n2_;have HB:=n3_;clear n0_ n1_ n2_ n3_;(try clear hb);(try clear hb2);(try clear hk);(try clear hi);(try clear ho0);obtain ⟨Ao7,co7,eo7⟩:=Kd.R_slice HO291.out
 (first|subst eo7|(injection eo7 with f1_ f2_ f3_;have f4_:=f1_.symm;have f5_:=f3_.symm;clear f1_ f2_ f3_;subst f4_;subst f5_))
 refine hK.out _ _ ⟨(zP BK287.out 0).trans rfl,(zP BK287.out 1).trans rfl⟩ (fun hHeld => ?_)
 clear hK K
 refine norm_ (a':=?_) ?_ ?_
 rotate_left
 ·
  show Act.put _ (some 7) _ = _
  simp only [Act.put,zO,zEb,zFb,i64_w,i32_w]
  rfl
 refine pure_ (i:=5) (N:=some 8) (v:=?_) (a':=?_) #[true,true,true,true,true,true,false] rfl rfl (by kernel_rfl) (fun _ _ _ h => h) (Or.inl ⟨by rfl,?_⟩) ?_ ?_
 rotate_left
 ·
  intro w'
  go_simp
  with_reducible rfl
 rotate_left
 ·
  simp only [Act.put,zO,zEb,zFb,i64_w,i32_w]
  rfl
 refine one_ (i:=6) (N:=none) #[true,true,true,true,true,true,true] rfl rfl (by kernel_rfl) (by decide) (fun K hK => ?_)
 have hs8 : w6.cell? ⟨gb288,0,none⟩ = some (.int .i64 0):=(zP BK288.out 0).trans rfl
 have hfs8:=blk_frozen BK288.out 0;have hns8_0:=NB287_288.out;have hms8_0:=NB288_287.out
 have hs9 : w6.cell? ⟨gb288,1,none⟩ = some (.slice none 0 0):=(zP BK288.out 1).trans rfl
 have hfs9:=blk_frozen BK288.out 1;have hns9_0:=NB287_288.out;have hms9_0:=NB288_287.out
 refine skip_ (w1:=?_) (by rfl) rfl ?_ ?_
 rotate_left
 ·
  go_simp
  rfl
 refine hK.out _ _ ⟨((zWb (p:=⟨gb288,_,none⟩) NB287_288.out _).trans (((zWb (p:=⟨gb288,_,none⟩) NB287_288.out _).trans (hHeld.1)))),((zWb (p:=⟨gb288,_,none⟩) NB287_288.out _).trans (((zWb (p:=⟨gb288,_,none⟩) NB287_288.out _).trans (hHeld.2))))⟩ (fun hHeld => ?_)
 clear hK K
 refine done_ (by kernel_rfl) ?_
 try go_wp2
 refine bodyPost_ret (results_cell_row rfl _ _ gb288 37 #[.int .i64 a0_0,.slice Ao7 t289.length co7] (0,0) _ rfl (by (with_reducible repeat (first|refine zF ?_ _|refine zI ?_|refine zG ?_ _));refine blk_put (cs:=#[.int .i64 a0_0,.slice none 0 0]) ?_ 1 _ rfl;(with_reducible repeat (first|refine zF ?_ _|refine zI ?_|refine zG ?_ _));refine blk_put (cs:=#[.int .i64 0,.slice none 0 0]) ?_ 0 _ rfl;(with_reducible repeat (first|refine zF ?_ _|refine zI ?_|refine zG ?_ _));exact BK288.out) Try.underlying37 rfl (by kernel_rfl)) rfl ?_
 exact ⟨_,by first|rfl|(simp [errW_none,errW_some] <;> rfl)|(simp [*,errW_none,errW_some] <;> rfl),by (with_reducible repeat (first|apply zE|apply zD|apply zH));exact zGb (zR (p:=⟨gb288,1,none⟩) (zR (p:=⟨gb288,0,none⟩) (Kd.R_types HO291.out BK288.out (by decide)) (fun _ hk => hk.2) (.int .i64 a0_0)) (fun _ hk => hk.2) (.slice Ao7 t289.length co7)) (fun _ hk => trivial),zz HB⟩

/-! ### impl_copyFacts: function 51 -/
def impl_copyFacts.l0 : Nat → List (S37) → List (S37) → Int → Int → Option ((List (S37)))
 | 0, _, _, _, _ => none
 | k + 1, x3, x7, x8, x9 => if x9 < x8 then (if 0 ≤ x9 then (if x9 < (x7.length : Int) then ((impl_copyFact.f ((rd_T37 x7 x9).f0) ((rd_T37 x7 x9).f1)).bind fun bt297 => (if x3.length < 4398046511104 then (impl_copyFacts.l0 k (x3 ++ [(⟨bt297.1, bt297.2⟩ : S37)]) x7 x8 (wrap64 (x9 + 1))) else (none))) else (none)) else (none)) else (some x3)
def impl_copyFacts.f (k : Nat) (l0 : List (S37)) : Option ((List (S37))) := impl_copyFacts.l0 k (([] : List (S37))) l0 (l0.length : Int) 0
theorem impl_copyFacts.mono_l : ∀ k, (∀ y0 y1 y2 y3, LeO (impl_copyFacts.l0 k y0 y1 y2 y3) (impl_copyFacts.l0 (k + 1) y0 y1 y2 y3))
 | 0 => fun _ _ _ _ r h => by simp [impl_copyFacts.l0] at h
 | k + 1 => by
  have ih0:=impl_copyFacts.mono_l k
  ·
   intro y0 y1 y2 y3
   unfold impl_copyFacts.l0
   repeat' first
   | (with_reducible exact ih0 _ _ _ _)
   | (with_reducible exact LeO.refl _)
   | (with_reducible exact LeO.none _)
   | (with_reducible refine LeO.ite ?_ ?_)
   | (with_reducible refine LeO.bind ?_ (fun _ => ?_))
   | exact ih0 _ _ _ _
   | exact LeO.none _
   | refine LeO.ite ?_ ?_
   | refine LeO.bind ?_ (fun _ => ?_)
theorem impl_copyFacts.mono : ∀ a0 k, LeO (impl_copyFacts.f k a0) (impl_copyFacts.f (k + 1) a0) := by
 intro a0 k
 have ih0:=impl_copyFacts.mono_l k
 unfold impl_copyFacts.f
 repeat' first
   | (with_reducible exact ih0 _ _ _ _)
   | (with_reducible exact LeO.refl _)
   | (with_reducible exact LeO.none _)
   | (with_reducible refine LeO.ite ?_ ?_)
   | (with_reducible refine LeO.bind ?_ (fun _ => ?_))
   | exact ih0 _ _ _ _
   | exact LeO.none _
   | refine LeO.ite ?_ ?_
   | refine LeO.bind ?_ (fun _ => ?_)
set_option maxHeartbeats 8000000 in
set_option maxRecDepth 100000 in
theorem impl_copyFacts.calls (k : Nat) (A0 : Option Addr) (c0 : Nat) (l0 : List (S37)) (r : List (S37)) (w : World) (hr0 : Kd.C k37 w A0 l0.length l0) (hc0 : l0.length ≤ c0) (h : impl_copyFacts.f k l0 = some r) :
  Calls Try.prog 51 #[.slice A0 l0.length c0] w fun e w' => ∃ v0_ : Value, e = .returned (v0_) ∧ Kd.S k37 37 w' w.heap.size (fun _ => True) v0_ r ∧ Below w.heap.size w w' := by
 have hu37:=Try.underlying37;have HR0:=zA hr0;have HC0:=zA hc0;clear hr0 hc0;have HB:=zA (Below.refl w.heap.size w)
 have H : (impl_copyFacts.l0 k (([] : List (S37))) l0 (l0.length : Int) 0) = some r:=h
 clear h;obtain ⟨y292,hy292⟩ : ∃ y_ : List (S37),y_ = (([] : List (S37))):=⟨_,rfl⟩
 replace H : (impl_copyFacts.l0 k y292 l0 (l0.length : Int) 0) = some r:=by first|(rw [hy292];with_reducible exact H)|(have H2_:=(Option.bind_some _ _).symm.trans H;rw [hy292];with_reducible exact H2_)|(have H2_:=(Option.bind_some _ _).symm.trans H;with_reducible exact H2_)|with_reducible exact H|(rw [hy292];exact H)|exact H
 have Ny292:=zA hy292;clear hy292
 have H':=zA H
 clear H
 go_enter Try.func51,Try.ntmps51
 go_wp2_with (first|((with_reducible refine gate_dst (N:=6) rfl ?_);refine Kd.S_lit k37 _ 37 ?hg (N:=6) ?hd (xs:=([] : List (S37))) (inner:=[]) (ok:=fun _ => True) (okp:=fun _ => True) ?hr ?hp (fun _ hk => hk) trivial (Below.refl _ _) (Nat.le_refl _) (by simp) ?_;(case hd => rfl);(case hg => rfl);(case hr => first|(go_simp;done)|(go_simp;rfl));(case hp => exact (Reps.none _ _));intro v293 w2 ho3 hb hg_ hnew_;clear hg_ hnew_;(first|rw [← Ny292.out] at ho3|(simp only [Int.reduceToNat] at ho3;rw [← Ny292.out] at ho3));have HO294:=zA (zIb ho3 (zT (zz HB)));replace HB:=zA (zJb (zz HB) hb);clear hb ho3))
 go_loopg [3,9] k (fun kq v3 v9 w' => ∃ (x3_1 : List (S37)) (x9_1 : Int),v9 = .int .i64 x9_1 ∧ Aside0 (impl_copyFacts.l0 kq x3_1 l0 (l0.length : Int) x9_1 = some r) ∧ Aside0 (kq ≤ k) ∧ Aside0 (Kd.S k37 37 w' w.heap.size (fun _ => True) v3 x3_1) ∧ Aside0 (Below w.heap.size w w'))
 case atStart => exact ⟨(y292),(0),za,H',⟨Nat.le_refl _⟩,⟨zy HO294⟩,⟨zz HB⟩⟩
 case round =>
  clear H';(try clear p2);obtain ⟨x3_1,x9_1,rfl,HA,HK1,HO_3,HB⟩:=hrel
  cases gk with
  | zero => exact absurd HA.out (by simp [impl_copyFacts.l0])
  | succ k1 =>
   have H:=HA.out;clear HA;simp only [impl_copyFacts.l0] at H
   by_cases c4 : x9_1 < (l0.length : Int)
   ·
    rw [if_pos c4] at H;have c4b0:=decide_eq_true c4;clear c4
    by_cases c5 : 0 ≤ x9_1
    ·
     rw [if_pos c5] at H;have c5b0:=decide_eq_true c5;clear c5
     by_cases c6 : x9_1 < (l0.length : Int)
     ·
      rw [if_pos c6] at H;have c6b0:=decide_eq_true c6;clear c6;replace H:=Option.bind_eq_some_iff.mp H;obtain ⟨⟨t297,t298⟩,A70,H⟩:=H;(try dsimp only at H);have A7:=zA A70;clear A70
      by_cases c8 : x3_1.length < 4398046511104
      ·
       rw [if_pos c8] at H;have LMc8:=zA c8;clear c8;obtain ⟨y301,hy301⟩ : ∃ y_ : List (S37),y_ = (x3_1 ++ [(⟨t297,t298⟩ : S37)]):=⟨_,rfl⟩
       replace H : (impl_copyFacts.l0 k1 y301 l0 (l0.length : Int) (wrap64 (x9_1 + 1))) = some r:=by first|(rw [hy301];with_reducible exact H)|(have H2_:=(Option.bind_some _ _).symm.trans H;rw [hy301];with_reducible exact H2_)|(have H2_:=(Option.bind_some _ _).symm.trans H;with_reducible exact H2_)|with_reducible exact H|(rw [hy301];exact H)|exact H
       have Ny301:=zA hy301;clear hy301
       have H':=zA H
       clear H;have p295 : 0 ≤ (x9_1 : Int):=zXb ze;have q295 : x9_1 < (l0.length : Int):=zXb ze;obtain ⟨ad295,A295_1,c295_1,e295,hx295_0,hx295_1,hl295_1,hi295_1⟩:=at_T37 HR0.out x9_1 p295 q295
       cases e295
       replace hx295_0:=(HB.out.cell (World.block_lt_of_cell? w _ hx295_0)).trans hx295_0;replace hx295_1:=(HB.out.cell (World.block_lt_of_cell? w _ hx295_1)).trans hx295_1;have HR295_1:=zA hi295_1;have HC295_1:=zA hl295_1;clear hi295_1 hl295_1;replace p295:=eq_true p295;replace q295:=eq_true q295
       go_wp2_with (first|((with_reducible refine gate_dst (N:=5) rfl ?_);refine box_event ?hg (N:=5) ?hd (cs:=#[.int .i64 0,.slice none 0 0]) (t:=37) ?hr ?_;(case hd => rfl);(case hg => rfl);(case hr => first|(go_simp;done)|(go_simp;rfl));intro gb296 hg w9 hbox hb;replace HO_3:=zA (zY (Kd.S_elderB (zy HO_3) gb296 (Nat.le_of_eq hg.symm)) hb);have BK296:=zA (hbox);have GW296:=zA ((by rw [hg];exact (zT (zz HB)) : w.heap.size ≤ gb296));have GE296:=zA ((by rw [hg];exact (zT (zz HB)) : w.heap.size ≤ gb296));replace HB:=zA (zJb (zz HB) hb);clear hb hbox hg;have hcz10_0:=zc (.int .i64 0) BK296 0 rfl;have hcz10_1:=zc (.slice none 0 0) BK296 1 rfl;have hfz10_0:=blk_frozen BK296.out 0;have hfz10_1:=blk_frozen BK296.out 1)|((with_reducible refine gate_callee (f:=52) rfl ?_);refine goesL_ (some 15) rfl rfl Try.func52 (by kernel_rfl) rfl #[.agg #[.int .i64 ((rd_T37 l0 x9_1).f0),.slice A295_1 ((rd_T37 l0 x9_1).f1).length c295_1]] rfl (by (try simp only [zCb,zMb,zNb]);first|done|rfl|(simp only [zLb,zDb];rfl)) ?_;(with_reducible refine (impl_copyFact.calls ((rd_T37 l0 x9_1).f0) _ _ ((rd_T37 l0 x9_1).f1) t297 t298 _ ?side1 ?side2 A7.out).mono ?_);(case side1 => exact zKb HR295_1.out (zz HB));(case side2 => exact HC295_1.out);rintro e w11 ⟨v299,rfl,ho0,hb⟩;refine ⟨_,rfl,?_⟩;replace HO_3:=zA (zSb (by (with_reducible repeat (first|apply zM|apply zL|apply zN));exact (zS (zVb (p:=⟨gb296,1,none⟩) (zVb (p:=⟨gb296,0,none⟩) (zS HO_3.out (fun k_ hk => (⟨hk,hk.2⟩ : _ ∧ k_ ≠ gb296))) (fun _ hk => hk.2) (.int .i64 ((rd_T37 l0 x9_1).f0))) (fun _ hk => hk.2) (.slice A295_1 ((rd_T37 l0 x9_1).f1).length c295_1)) (fun _ h_ => h_.1))) (zW ho0) hb);have HO300:=zA (zHb ho0 (zT (zz HB)));replace BK296:=zA (zQ (g:=gb296) (o:=.cells #[.int .i64 ((rd_T37 l0 x9_1).f0),.slice A295_1 ((rd_T37 l0 x9_1).f1).length c295_1] 37 (0,0)) (by (with_reducible repeat (first|refine zF ?_ _|refine zI ?_|refine zG ?_ _));refine blk_put (cs:=#[.int .i64 ((rd_T37 l0 x9_1).f0),.slice none 0 0]) ?_ 1 _ rfl;(with_reducible repeat (first|refine zF ?_ _|refine zI ?_|refine zG ?_ _));refine blk_put (cs:=#[.int .i64 0,.slice none 0 0]) ?_ 0 _ rfl;(with_reducible repeat (first|refine zF ?_ _|refine zI ?_|refine zG ?_ _));exact BK296.out) hb);replace HB:=zA (zJb (zz HB) hb);(try clear hb);(try clear hb2);(try clear hk);(try clear hi);(try clear ho0);obtain ⟨Ao13,co13,eo13⟩:=Kd.R_slice HO300.out;subst eo13)|((with_reducible refine gate_builtin (b:=.append) (xs:=#[.tmp 13,.tmp 16]) rfl ?_);at_builtin;refine Kd.S_append k37 (w0:=w) w.heap.size rfl (.tmp 13) (.tmp 16) 31 37 (.agg #[(.int .i64 0),(.slice none 0 0)]) 32 rfl Try.underlying31 info37 rfl (by decide) (by omega) u3 x3_1 (⟨t297,t298⟩ : S37) [.int .i64 t297,.slice Ao13 t298.length co13] (fun k_ => k_ ≠ gb296) (fun k_ => some k_ = (.slice Ao13 t298.length co13 : Value).ownBlock) rfl rfl ?aP (fun k_ hk_ => ((zGb (ok':=fun k_ => ((fun k_ => k_ ≠ gb296)) k_ ∧ some k_ ≠ (u3 : Value).ownBlock) (Kd.R_types (Kd.R_apart' (HO300.out) (Kd.S_typed HO_3.out) (by decide)) BK296.out (by decide)) (fun k_ hk => ⟨hk.2,hk.1.2⟩))).1 k_ hk_.symm) ?aF ?aO ?aB ?aS ?aL ?_;(case aP => exact k37_mkM _ _ _ (⟨t297,t298⟩ : S37) (zGb (Kd.R_tight rfl (zGb (ok':=fun k_ => ((fun k_ => k_ ≠ gb296)) k_ ∧ some k_ ≠ (u3 : Value).ownBlock) (Kd.R_types (Kd.R_apart' (HO300.out) (Kd.S_typed HO_3.out) (by decide)) BK296.out (by decide)) (fun k_ hk => ⟨hk.2,hk.1.2⟩))) (fun _ h_ => h_)));(case aB => exact (zz HB));(case aF => exact (fun k_ hk => Kd.freshB (g:=gb296) (o:=.cells #[.int .i64 ((rd_T37 l0 x9_1).f0),.slice A295_1 ((rd_T37 l0 x9_1).f1).length c295_1] 37 (0,0)) (zx BK296) k_ hk));(case aO => exact (by (with_reducible repeat (first|apply zM|apply zL|apply zN));exact zS HO_3.out (fun k_ hk => ⟨hk.1.2,fun e_ => hk.2 e_⟩)));(case aS => exact (zT (zz HB)));(case aL => have:=LMc8.out;omega);intro v302 w12 ho hb hg hat;rw [← Ny301.out] at ho;replace BK296:=zA (blk_grown (g:=gb296) (o:=.cells #[.int .i64 ((rd_T37 l0 x9_1).f0),.slice A295_1 ((rd_T37 l0 x9_1).f1).length c295_1] 37 (0,0)) (zx BK296) hg (Kd.S_away HO_3.out (fun _ hk => hk.1.2)));replace HB:=zA (hb);have HO303:=zA (ho);clear HO_3 HO300;clear ho hb hg hat))
       go_roundg k1
       case measure => have:=HK1.out;omega
       case rel => exact ⟨(y301),(wrap64 (x9_1 + 1)),za,H',⟨by have:=HK1.out;omega⟩,⟨by (with_reducible repeat (first|apply zM|apply zL|apply zN));exact zS HO303.out (fun _ hk => trivial)⟩,⟨zz HB⟩⟩
      ·
       rw [if_neg c8] at H
       exact absurd H (by simp)
     ·
      rw [if_neg c6] at H
      exact absurd H (by simp)
    ·
     rw [if_neg c5] at H
     exact absurd H (by simp)
   ·
    rw [if_neg c4] at H;have c4b0:=decide_eq_false c4;clear c4
    obtain rfl:=Option.some.inj H
    go_wp2
    go_ret
    exact ⟨_,by first|rfl|(simp [errW_none,errW_some] <;> rfl)|(simp [*,errW_none,errW_some] <;> rfl),zy HO_3,zz HB⟩

-- NOT PRINTED: function 53 (impl_Fact)

-- NOT PRINTED: function 14 (impl_AddFact)

/-! ### laws_eqIntS: function 46 -/
def laws_eqIntS.l0 : Nat → List Int → List Int → Int → Option (Bool)
 | 0, _, _, _ => none
 | k + 1, x0, x1, x5 => if x5 < (x0.length : Int) then (if 0 ≤ x5 then (if x5 < (x1.length : Int) then (if (rd x0 x5) = (rd x1 x5) then (laws_eqIntS.l0 k x0 x1 (wrap64 (x5 + 1))) else (some false)) else (none)) else (none)) else (some true)
def laws_eqIntS.f (k : Nat) (l0 : List Int) (l1 : List Int) : Option (Bool) := if (l0.length : Int) = (l1.length : Int) then (laws_eqIntS.l0 k l0 l1 0) else (some false)
theorem laws_eqIntS.mono_l : ∀ k, (∀ y0 y1 y2, LeO (laws_eqIntS.l0 k y0 y1 y2) (laws_eqIntS.l0 (k + 1) y0 y1 y2))
 | 0 => fun _ _ _ r h => by simp [laws_eqIntS.l0] at h
 | k + 1 => by
  have ih0:=laws_eqIntS.mono_l k
  ·
   intro y0 y1 y2
   unfold laws_eqIntS.l0
   repeat' first
   | (with_reducible exact ih0 _ _ _)
   | (with_reducible exact LeO.refl _)
   | (with_reducible exact LeO.none _)
   | (with_reducible refine LeO.ite ?_ ?_)
   | (with_reducible refine LeO.bind ?_ (fun _ => ?_))
   | exact ih0 _ _ _
   | exact LeO.none _
   | refine LeO.ite ?_ ?_
   | refine LeO.bind ?_ (fun _ => ?_)
theorem laws_eqIntS.mono : ∀ a0 a1 k, LeO (laws_eqIntS.f k a0 a1) (laws_eqIntS.f (k + 1) a0 a1) := by
 intro a0 a1 k
 have ih0:=laws_eqIntS.mono_l k
 unfold laws_eqIntS.f
 repeat' first
   | (with_reducible exact ih0 _ _ _)
   | (with_reducible exact LeO.refl _)
   | (with_reducible exact LeO.none _)
   | (with_reducible refine LeO.ite ?_ ?_)
   | (with_reducible refine LeO.bind ?_ (fun _ => ?_))
   | exact ih0 _ _ _
   | exact LeO.none _
   | refine LeO.ite ?_ ?_
   | refine LeO.bind ?_ (fun _ => ?_)
set_option maxHeartbeats 8000000 in
set_option maxRecDepth 100000 in
theorem laws_eqIntS.calls (k : Nat) (A0 : Option Addr) (c0 : Nat) (l0 : List Int) (A1 : Option Addr) (c1 : Nat) (l1 : List Int) (r : Bool) (w : World) (hr0 : Kd.C (Kd.int .i64) w A0 l0.length l0) (hc0 : l0.length ≤ c0) (hr1 : Kd.C (Kd.int .i64) w A1 l1.length l1) (hc1 : l1.length ≤ c1) (h : laws_eqIntS.f k l0 l1 = some r) :
  Calls Try.prog 46 #[.slice A0 l0.length c0, .slice A1 l1.length c1] w fun e w' => e = .returned (.bool r) ∧ Drawn0 w w' := by
 have HR0:=zA hr0;have HC0:=zA hc0;clear hr0 hc0;have HR1:=zA hr1;have HC1:=zA hc1;clear hr1 hc1
 have H : (if (l0.length : Int) = (l1.length : Int) then (laws_eqIntS.l0 k l0 l1 0) else (some false)) = some r:=h
 clear h
 by_cases c3 : (l0.length : Int) = (l1.length : Int)
 ·
  rw [if_pos c3] at H;have c3b0:=beq_iff_eq.mpr c3;have c3b1:=bne_eq_false_iff_eq.mpr c3
  have c3b2 : (l0.length == l1.length) = true:=by first|simpa using c3|(simp at c3 ⊢;omega)
  clear c3
  have H':=zA H
  clear H
  go_enter Try.func46,Try.ntmps46
  go_wp2
  repeat (go_quiet (fail);try go_wp2)
  go_loopg [5] k (fun kq v5 w' => ∃ (x5_1 : Int),v5 = .int .i64 x5_1 ∧ Aside0 (laws_eqIntS.l0 kq l0 l1 x5_1 = some r) ∧ Aside0 (kq ≤ k) ∧ Drawn0 w w')
  case atStart => exact ⟨(0),za,H',⟨Nat.le_refl _⟩,by repeat (first|exact Drawn0.refl _|apply Drawn0.step)⟩
  case round =>
   clear H';(try clear c1);(try clear p2);(try clear c3);(try clear c3b0);(try clear c3b1);(try clear c3b2);obtain ⟨x5_1,rfl,HA,HK1,⟨m1,rfl⟩⟩:=hrel
   cases gk with
   | zero => exact absurd HA.out (by simp [laws_eqIntS.l0])
   | succ k1 =>
    have H:=HA.out;clear HA;simp only [laws_eqIntS.l0] at H
    by_cases c4 : x5_1 < (l0.length : Int)
    ·
     rw [if_pos c4] at H;have c4b0:=decide_eq_true c4;clear c4
     by_cases c5 : 0 ≤ x5_1
     ·
      rw [if_pos c5] at H;have c5b0:=decide_eq_true c5;clear c5
      by_cases c6 : x5_1 < (l1.length : Int)
      ·
       rw [if_pos c6] at H;have c6b0:=decide_eq_true c6;clear c6
       by_cases c7 : (rd l0 x5_1) = (rd l1 x5_1)
       ·
        rw [if_pos c7] at H;have c7b0:=beq_iff_eq.mpr c7;have c7b1:=bne_eq_false_iff_eq.mpr c7;clear c7
        have H':=zA H
        clear H;have p319 : 0 ≤ (x5_1 : Int):=zXb ze;have q319 : x5_1 < (l0.length : Int):=zXb ze;obtain ⟨ad319,e319,hx319_0⟩:=Kd.at_int HR0.out x5_1 p319 q319
        cases e319
        replace p319:=eq_true p319;replace q319:=eq_true q319;have p320 : 0 ≤ (x5_1 : Int):=zXb ze;have q320 : x5_1 < (l1.length : Int):=zXb ze;obtain ⟨ad320,e320,hx320_0⟩:=Kd.at_int HR1.out x5_1 p320 q320
        cases e320
        replace p320:=eq_true p320;replace q320:=eq_true q320
        go_wp2
        repeat (go_quiet (fail);try go_wp2)
        go_roundg k1
        case measure => have:=HK1.out;omega
        case rel => exact ⟨(wrap64 (x5_1 + 1)),za,H',⟨by have:=HK1.out;omega⟩,by repeat (first|exact Drawn0.refl _|apply Drawn0.step)⟩
       ·
        rw [if_neg c7] at H;have c7b0:=beq_eq_false_iff_ne.mpr c7;have c7b1:=bne_iff_ne.mpr c7
        obtain rfl:=Option.some.inj H
        have p319 : 0 ≤ (x5_1 : Int):=zXb ze;have q319 : x5_1 < (l0.length : Int):=zXb ze;obtain ⟨ad319,e319,hx319_0⟩:=Kd.at_int HR0.out x5_1 p319 q319
        cases e319
        replace p319:=eq_true p319;replace q319:=eq_true q319;have p320 : 0 ≤ (x5_1 : Int):=zXb ze;have q320 : x5_1 < (l1.length : Int):=zXb ze;obtain ⟨ad320,e320,hx320_0⟩:=Kd.at_int HR1.out x5_1 p320 q320
        cases e320
        replace p320:=eq_true p320;replace q320:=eq_true q320
        go_wp2
        repeat (go_quiet (fail);try go_wp2)
        go_ret
        exact ⟨by first|rfl|(simp;done)|(simp [*];done),by repeat (first|exact Drawn0.refl _|apply Drawn0.step)⟩
      ·
       rw [if_neg c6] at H
       exact absurd H (by simp)
     ·
      rw [if_neg c5] at H
      exact absurd H (by simp)
    ·
     rw [if_neg c4] at H;have c4b0:=decide_eq_false c4;clear c4
     obtain rfl:=Option.some.inj H
     go_wp2
     repeat (go_quiet (fail);try go_wp2)
     go_ret
     exact ⟨by first|rfl|(simp;done)|(simp [*];done),by repeat (first|exact Drawn0.refl _|apply Drawn0.step)⟩
 ·
  rw [if_neg c3] at H;have c3b0:=beq_eq_false_iff_ne.mpr c3;have c3b1:=bne_iff_ne.mpr c3
  have c3b2 : (l0.length == l1.length) = false:=by first|simpa using c3|(simp at c3 ⊢;omega)
  obtain rfl:=Option.some.inj H
  go_enter Try.func46,Try.ntmps46
  go_wp2
  repeat (go_quiet (fail);try go_wp2)
  go_ret
  exact ⟨by first|rfl|(simp;done)|(simp [*];done),by repeat (first|exact Drawn0.refl _|apply Drawn0.step)⟩

/-! ### laws_eqFact: function 17 -/
def laws_eqFact.f (k : Nat) (a0_0 : Int) (l0_1 : List Int) (a1_0 : Int) (l1_1 : List Int) : Option (Bool) := if a0_0 = a1_0 then ((laws_eqIntS.f k l0_1 l1_1).bind fun t323 => (if t323 = true then (some true) else (some false))) else (some false)
theorem laws_eqFact.mono : ∀ a0 a1 a2 a3 k, LeO (laws_eqFact.f k a0 a1 a2 a3) (laws_eqFact.f (k + 1) a0 a1 a2 a3) := by
 intro a0 a1 a2 a3 k
 unfold laws_eqFact.f
 repeat' first
   | (with_reducible exact laws_eqIntS.mono _ _ _)
   | (with_reducible exact LeO.refl _)
   | (with_reducible exact LeO.none _)
   | (with_reducible refine LeO.ite ?_ ?_)
   | (with_reducible refine LeO.bind ?_ (fun _ => ?_))
   | exact LeO.none _
   | refine LeO.ite ?_ ?_
   | refine LeO.bind ?_ (fun _ => ?_)
set_option maxHeartbeats 8000000 in
set_option maxRecDepth 100000 in
theorem laws_eqFact.calls (k : Nat) (a0_0 : Int) (A0_1 : Option Addr) (c0_1 : Nat) (l0_1 : List Int) (a1_0 : Int) (A1_1 : Option Addr) (c1_1 : Nat) (l1_1 : List Int) (r : Bool) (w : World) (hr0_1 : Kd.C (Kd.int .i64) w A0_1 l0_1.length l0_1) (hc0_1 : l0_1.length ≤ c0_1) (hr1_1 : Kd.C (Kd.int .i64) w A1_1 l1_1.length l1_1) (hc1_1 : l1_1.length ≤ c1_1) (h : laws_eqFact.f k a0_0 l0_1 a1_0 l1_1 = some r) :
  Calls Try.prog 17 #[.agg #[.int .i64 a0_0, .slice A0_1 l0_1.length c0_1], .agg #[.int .i64 a1_0, .slice A1_1 l1_1.length c1_1]] w fun e w' => e = .returned (.bool r) ∧ Below w.heap.size w w' := by
 have hu37:=Try.underlying37;have HR0_1:=zA hr0_1;have HC0_1:=zA hc0_1;clear hr0_1 hc0_1;have HR1_1:=zA hr1_1;have HC1_1:=zA hc1_1;clear hr1_1 hc1_1;have HB:=zA (Below.refl w.heap.size w)
 have H : (if a0_0 = a1_0 then ((laws_eqIntS.f k l0_1 l1_1).bind fun t323 => (if t323 = true then (some true) else (some false))) else (some false)) = some r:=h
 clear h
 by_cases c3 : a0_0 = a1_0
 ·
  rw [if_pos c3] at H;have c3b0:=beq_iff_eq.mpr c3;have c3b1:=bne_eq_false_iff_eq.mpr c3;clear c3;replace H:=Option.bind_eq_some_iff.mp H;obtain ⟨t323,A40,H⟩:=H;(try dsimp only at H);have A4:=zA A40;clear A40
  by_cases c5 : t323 = true
  ·
   subst c5
   rw [if_pos rfl] at H
   obtain rfl:=Option.some.inj H
   go_enter Try.func17,Try.ntmps17
   go_wp2_with (first|((with_reducible refine gate_dst (N:=2) rfl ?_);refine box_event ?hg (N:=2) ?hd (cs:=#[.int .i64 a0_0,.slice A0_1 l0_1.length c0_1]) (t:=37) ?hr ?_;(case hd => rfl);(case hg => rfl);(case hr => first|(go_simp;done)|(go_simp;rfl));intro gb321 hg w6 hbox hb;have BK321:=zA (hbox);have GW321:=zA ((by rw [hg];exact (zT (zz HB)) : w.heap.size ≤ gb321));have GE321:=zA ((by rw [hg];exact (zT (zz HB)) : w.heap.size ≤ gb321));replace HB:=zA (zJb (zz HB) hb);clear hb hbox hg)|((with_reducible refine gate_dst (N:=3) rfl ?_);refine box_event ?hg (N:=3) ?hd (cs:=#[.int .i64 a1_0,.slice A1_1 l1_1.length c1_1]) (t:=37) ?hr ?_;(case hd => rfl);(case hg => rfl);(case hr => first|(go_simp;done)|(go_simp;rfl));intro gb322 hg w7 hbox hb;have BK322:=zA (hbox);have GW322:=zA ((by rw [hg];exact (zT (zz HB)) : w.heap.size ≤ gb322));have GE322:=zA ((by rw [hg];exact (zT (zz HB)) : w.heap.size ≤ gb322));replace HB:=zA (zJb (zz HB) hb);have NB321_322:=zA ((by rw [hg];exact Nat.ne_of_lt (blk_lt (g:=gb321) (o:=.cells #[.int .i64 a0_0,.slice A0_1 l0_1.length c0_1] 37 (0,0)) (zx BK321)) : gb321 ≠ gb322));have NB322_321:=zA ((by rw [hg];exact Nat.ne_of_gt (blk_lt (g:=gb321) (o:=.cells #[.int .i64 a0_0,.slice A0_1 l0_1.length c0_1] 37 (0,0)) (zx BK321)) : gb322 ≠ gb321));replace BK321:=zA (zQ (g:=gb321) (o:=.cells #[.int .i64 a0_0,.slice A0_1 l0_1.length c0_1] 37 (0,0)) (zx BK321) hb);clear hb hbox hg;have hnb8:=NB321_322.out;have hnc8:=NB322_321.out;have hcz9_0:=zc (.int .i64 a0_0) BK321 0 rfl;have hcz9_1:=zc (.slice A0_1 l0_1.length c0_1) BK321 1 rfl;have hfz9_0:=blk_frozen BK321.out 0;have hfz9_1:=blk_frozen BK321.out 1;have hcz10_0:=zc (.int .i64 a1_0) BK322 0 rfl;have hcz10_1:=zc (.slice A1_1 l1_1.length c1_1) BK322 1 rfl;have hfz10_0:=blk_frozen BK322.out 0;have hfz10_1:=blk_frozen BK322.out 1)|((with_reducible refine gate_callee (f:=46) rfl ?_);refine goesL_ (some 14) rfl rfl Try.func46 (by kernel_rfl) rfl #[.slice A0_1 l0_1.length c0_1,.slice A1_1 l1_1.length c1_1] rfl (by (try simp only [zCb,zMb,zNb]);first|done|rfl|(simp only [zLb,zDb];rfl)) ?_;(with_reducible refine (laws_eqIntS.calls k _ _ l0_1 _ _ l1_1 true _ ?side1 ?side2 ?side3 ?side4 A4.out).mono ?_);(case side1 => repeat (first|exact (zKb HR0_1.out HB.out)|(with_reducible refine zBb ?_ _)|(with_reducible refine zAb ?_ _)|(with_reducible refine zX ?_)));(case side2 => exact HC0_1.out);(case side3 => repeat (first|exact (zKb HR1_1.out HB.out)|(with_reducible refine zBb ?_ _)|(with_reducible refine zAb ?_ _)|(with_reducible refine zX ?_)));(case side4 => exact HC1_1.out);rintro e w' ⟨rfl,⟨nd,rfl⟩⟩;refine ⟨_,rfl,?_⟩))
   go_ret
   exact ⟨by first|rfl|(simp [errW_none,errW_some] <;> rfl)|(simp [*,errW_none,errW_some] <;> rfl),zz HB⟩
  ·
   replace c5:=Bool.eq_false_iff.mpr c5
   subst c5
   have H1 : (some false) = some r:=by rw [if_neg (show ¬ (false = true) by decide)] at H;exact H
   clear H;have H:=H1;clear H1
   obtain rfl:=Option.some.inj H
   go_enter Try.func17,Try.ntmps17
   go_wp2_with (first|((with_reducible refine gate_dst (N:=2) rfl ?_);refine box_event ?hg (N:=2) ?hd (cs:=#[.int .i64 a0_0,.slice A0_1 l0_1.length c0_1]) (t:=37) ?hr ?_;(case hd => rfl);(case hg => rfl);(case hr => first|(go_simp;done)|(go_simp;rfl));intro gb321 hg w11 hbox hb;have BK321:=zA (hbox);have GW321:=zA ((by rw [hg];exact (zT (zz HB)) : w.heap.size ≤ gb321));have GE321:=zA ((by rw [hg];exact (zT (zz HB)) : w.heap.size ≤ gb321));replace HB:=zA (zJb (zz HB) hb);clear hb hbox hg)|((with_reducible refine gate_dst (N:=3) rfl ?_);refine box_event ?hg (N:=3) ?hd (cs:=#[.int .i64 a1_0,.slice A1_1 l1_1.length c1_1]) (t:=37) ?hr ?_;(case hd => rfl);(case hg => rfl);(case hr => first|(go_simp;done)|(go_simp;rfl));intro gb322 hg w12 hbox hb;have BK322:=zA (hbox);have GW322:=zA ((by rw [hg];exact (zT (zz HB)) : w.heap.size ≤ gb322));have GE322:=zA ((by rw [hg];exact (zT (zz HB)) : w.heap.size ≤ gb322));replace HB:=zA (zJb (zz HB) hb);have NB321_322:=zA ((by rw [hg];exact Nat.ne_of_lt (blk_lt (g:=gb321) (o:=.cells #[.int .i64 a0_0,.slice A0_1 l0_1.length c0_1] 37 (0,0)) (zx BK321)) : gb321 ≠ gb322));have NB322_321:=zA ((by rw [hg];exact Nat.ne_of_gt (blk_lt (g:=gb321) (o:=.cells #[.int .i64 a0_0,.slice A0_1 l0_1.length c0_1] 37 (0,0)) (zx BK321)) : gb322 ≠ gb321));replace BK321:=zA (zQ (g:=gb321) (o:=.cells #[.int .i64 a0_0,.slice A0_1 l0_1.length c0_1] 37 (0,0)) (zx BK321) hb);clear hb hbox hg;have hnb13:=NB321_322.out;have hnc13:=NB322_321.out;have hcz14_0:=zc (.int .i64 a0_0) BK321 0 rfl;have hcz14_1:=zc (.slice A0_1 l0_1.length c0_1) BK321 1 rfl;have hfz14_0:=blk_frozen BK321.out 0;have hfz14_1:=blk_frozen BK321.out 1;have hcz15_0:=zc (.int .i64 a1_0) BK322 0 rfl;have hcz15_1:=zc (.slice A1_1 l1_1.length c1_1) BK322 1 rfl;have hfz15_0:=blk_frozen BK322.out 0;have hfz15_1:=blk_frozen BK322.out 1)|((with_reducible refine gate_callee (f:=46) rfl ?_);refine goesL_ (some 14) rfl rfl Try.func46 (by kernel_rfl) rfl #[.slice A0_1 l0_1.length c0_1,.slice A1_1 l1_1.length c1_1] rfl (by (try simp only [zCb,zMb,zNb]);first|done|rfl|(simp only [zLb,zDb];rfl)) ?_;(with_reducible refine (laws_eqIntS.calls k _ _ l0_1 _ _ l1_1 false _ ?side1 ?side2 ?side3 ?side4 A4.out).mono ?_);(case side1 => repeat (first|exact (zKb HR0_1.out HB.out)|(with_reducible refine zBb ?_ _)|(with_reducible refine zAb ?_ _)|(with_reducible refine zX ?_)));(case side2 => exact HC0_1.out);(case side3 => repeat (first|exact (zKb HR1_1.out HB.out)|(with_reducible refine zBb ?_ _)|(with_reducible refine zAb ?_ _)|(with_reducible refine zX ?_)));(case side4 => exact HC1_1.out);rintro e w' ⟨rfl,⟨nd,rfl⟩⟩;refine ⟨_,rfl,?_⟩))
   go_ret
   exact ⟨by first|rfl|(simp [errW_none,errW_some] <;> rfl)|(simp [*,errW_none,errW_some] <;> rfl),zz HB⟩
 ·
  rw [if_neg c3] at H;have c3b0:=beq_eq_false_iff_ne.mpr c3;have c3b1:=bne_iff_ne.mpr c3
  obtain rfl:=Option.some.inj H
  go_enter Try.func17,Try.ntmps17
  go_wp2_with (first|((with_reducible refine gate_dst (N:=2) rfl ?_);refine box_event ?hg (N:=2) ?hd (cs:=#[.int .i64 a0_0,.slice A0_1 l0_1.length c0_1]) (t:=37) ?hr ?_;(case hd => rfl);(case hg => rfl);(case hr => first|(go_simp;done)|(go_simp;rfl));intro gb321 hg w16 hbox hb;have BK321:=zA (hbox);have GW321:=zA ((by rw [hg];exact (zT (zz HB)) : w.heap.size ≤ gb321));have GE321:=zA ((by rw [hg];exact (zT (zz HB)) : w.heap.size ≤ gb321));replace HB:=zA (zJb (zz HB) hb);clear hb hbox hg)|((with_reducible refine gate_dst (N:=3) rfl ?_);refine box_event ?hg (N:=3) ?hd (cs:=#[.int .i64 a1_0,.slice A1_1 l1_1.length c1_1]) (t:=37) ?hr ?_;(case hd => rfl);(case hg => rfl);(case hr => first|(go_simp;done)|(go_simp;rfl));intro gb322 hg w17 hbox hb;have BK322:=zA (hbox);have GW322:=zA ((by rw [hg];exact (zT (zz HB)) : w.heap.size ≤ gb322));have GE322:=zA ((by rw [hg];exact (zT (zz HB)) : w.heap.size ≤ gb322));replace HB:=zA (zJb (zz HB) hb);have NB321_322:=zA ((by rw [hg];exact Nat.ne_of_lt (blk_lt (g:=gb321) (o:=.cells #[.int .i64 a0_0,.slice A0_1 l0_1.length c0_1] 37 (0,0)) (zx BK321)) : gb321 ≠ gb322));have NB322_321:=zA ((by rw [hg];exact Nat.ne_of_gt (blk_lt (g:=gb321) (o:=.cells #[.int .i64 a0_0,.slice A0_1 l0_1.length c0_1] 37 (0,0)) (zx BK321)) : gb322 ≠ gb321));replace BK321:=zA (zQ (g:=gb321) (o:=.cells #[.int .i64 a0_0,.slice A0_1 l0_1.length c0_1] 37 (0,0)) (zx BK321) hb);clear hb hbox hg;have hnb18:=NB321_322.out;have hnc18:=NB322_321.out;have hcz19_0:=zc (.int .i64 a0_0) BK321 0 rfl;have hcz19_1:=zc (.slice A0_1 l0_1.length c0_1) BK321 1 rfl;have hfz19_0:=blk_frozen BK321.out 0;have hfz19_1:=blk_frozen BK321.out 1;have hcz20_0:=zc (.int .i64 a1_0) BK322 0 rfl;have hcz20_1:=zc (.slice A1_1 l1_1.length c1_1) BK322 1 rfl;have hfz20_0:=blk_frozen BK322.out 0;have hfz20_1:=blk_frozen BK322.out 1))
  go_ret
  exact ⟨by first|rfl|(simp [errW_none,errW_some] <;> rfl)|(simp [*,errW_none,errW_some] <;> rfl),zz HB⟩

end Go.Proofs.Ytfelabhakgcifaa.QFnExactAddFact
