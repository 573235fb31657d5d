/- Walks through the Go functions that FnFacts reaches: each call returns what the Lean function beside it says, within the bounds that the theorem names. -/
import Derived.Test.YtfelabhakgcifaaQFnFactsx0
namespace Go.Proofs.Ytfelabhakgcifaa.QFnFacts
open Go.RowKit Go.Proofs.YtfelabhakgcifaaW.PrintWords Go.Proofs.YtfelabhakgcifaaW.PrintLast Go.Proofs.YtfelabhakgcifaaW.PrintMore
attribute [local go_sem] max2_int min2_int max_two min_two max_three min_three max_four min_four   -- for this text's walks alone
set_option linter.unusedVariables false
set_option linter.unusedSimpArgs false


/-! ### spec_l2Ints: function 91 -/
def spec_l2Ints.l0 : Nat → List Int → List Int → Int → Option (Bool)
 | 0, _, _, _ => none
 | k + 1, x0, x1, x5 => if x5 < (x0.length : Int) then (if 0 ≤ x5 then (if x5 < (x1.length : Int) then (if (rd x0 x5) = (rd x1 x5) then (spec_l2Ints.l0 k x0 x1 (wrap64 (x5 + 1))) else (some false)) else (none)) else (none)) else (some true)
def spec_l2Ints.f (k : Nat) (l0 : List Int) (l1 : List Int) : Option (Bool) := if (l0.length : Int) = (l1.length : Int) then (spec_l2Ints.l0 k l0 l1 0) else (some false)
theorem spec_l2Ints.mono_l : ∀ k, (∀ y0 y1 y2, LeO (spec_l2Ints.l0 k y0 y1 y2) (spec_l2Ints.l0 (k + 1) y0 y1 y2))
 | 0 => fun _ _ _ r h => by simp [spec_l2Ints.l0] at h
 | k + 1 => by
  have ih0:=spec_l2Ints.mono_l k
  ·
   intro y0 y1 y2
   unfold spec_l2Ints.l0
   repeat' first
   | (with_reducible exact ih0 _ _ _)
   | (with_reducible exact LeO.refl _)
   | (with_reducible exact LeO.none _)
   | (with_reducible refine LeO.ite ?_ ?_)
   | (with_reducible refine LeO.bind ?_ (fun _ => ?_))
   | exact ih0 _ _ _
   | exact LeO.none _
   | refine LeO.ite ?_ ?_
   | refine LeO.bind ?_ (fun _ => ?_)
theorem spec_l2Ints.mono : ∀ a0 a1 k, LeO (spec_l2Ints.f k a0 a1) (spec_l2Ints.f (k + 1) a0 a1) := by
 intro a0 a1 k
 have ih0:=spec_l2Ints.mono_l k
 unfold spec_l2Ints.f
 repeat' first
   | (with_reducible exact ih0 _ _ _)
   | (with_reducible exact LeO.refl _)
   | (with_reducible exact LeO.none _)
   | (with_reducible refine LeO.ite ?_ ?_)
   | (with_reducible refine LeO.bind ?_ (fun _ => ?_))
   | exact ih0 _ _ _
   | exact LeO.none _
   | refine LeO.ite ?_ ?_
   | refine LeO.bind ?_ (fun _ => ?_)
set_option maxHeartbeats 8000000 in
set_option maxRecDepth 100000 in
theorem spec_l2Ints.calls (k : Nat) (A0 : Option Addr) (c0 : Nat) (l0 : List Int) (A1 : Option Addr) (c1 : Nat) (l1 : List Int) (r : Bool) (w : World) (hr0 : Kd.C (Kd.int .i64) w A0 l0.length l0) (hc0 : l0.length ≤ c0) (hr1 : Kd.C (Kd.int .i64) w A1 l1.length l1) (hc1 : l1.length ≤ c1) (h : spec_l2Ints.f k l0 l1 = some r) :
  Calls Try.prog 91 #[.slice A0 l0.length c0, .slice A1 l1.length c1] w fun e w' => e = .returned (.bool r) ∧ Drawn0 w w' := by
 have HR0:=zA hr0;have HC0:=zA hc0;clear hr0 hc0;have HR1:=zA hr1;have HC1:=zA hc1;clear hr1 hc1
 have H : (if (l0.length : Int) = (l1.length : Int) then (spec_l2Ints.l0 k l0 l1 0) else (some false)) = some r:=h
 clear h
 by_cases c3 : (l0.length : Int) = (l1.length : Int)
 ·
  rw [if_pos c3] at H;have c3b0:=beq_iff_eq.mpr c3;have c3b1:=bne_eq_false_iff_eq.mpr c3
  have c3b2 : (l0.length == l1.length) = true:=by first|simpa using c3|(simp at c3 ⊢;omega)
  clear c3
  have H':=zA H
  clear H
  go_enter Try.func91,Try.ntmps91
  go_wp2
  repeat (go_quiet (fail);try go_wp2)
  go_loopg [5] k (fun kq v5 w' => ∃ (x5_1 : Int),v5 = .int .i64 x5_1 ∧ Aside0 (spec_l2Ints.l0 kq l0 l1 x5_1 = some r) ∧ Aside0 (kq ≤ k) ∧ Drawn0 w w')
  case atStart => exact ⟨(0),za,H',⟨Nat.le_refl _⟩,by repeat (first|exact Drawn0.refl _|apply Drawn0.step)⟩
  case round =>
   clear H';(try clear c1);(try clear p2);(try clear c3);(try clear c3b0);(try clear c3b1);(try clear c3b2);obtain ⟨x5_1,rfl,HA,HK1,⟨m1,rfl⟩⟩:=hrel
   cases gk with
   | zero => exact absurd HA.out (by simp [spec_l2Ints.l0])
   | succ k1 =>
    have H:=HA.out;clear HA;simp only [spec_l2Ints.l0] at H
    by_cases c4 : x5_1 < (l0.length : Int)
    ·
     rw [if_pos c4] at H;have c4b0:=decide_eq_true c4;clear c4
     by_cases c5 : 0 ≤ x5_1
     ·
      rw [if_pos c5] at H;have c5b0:=decide_eq_true c5;clear c5
      by_cases c6 : x5_1 < (l1.length : Int)
      ·
       rw [if_pos c6] at H;have c6b0:=decide_eq_true c6;clear c6
       by_cases c7 : (rd l0 x5_1) = (rd l1 x5_1)
       ·
        rw [if_pos c7] at H;have c7b0:=beq_iff_eq.mpr c7;have c7b1:=bne_eq_false_iff_eq.mpr c7;clear c7
        have H':=zA H
        clear H;have p126 : 0 ≤ (x5_1 : Int):=zXb ze;have q126 : x5_1 < (l0.length : Int):=zXb ze;obtain ⟨ad126,e126,hx126_0⟩:=Kd.at_int HR0.out x5_1 p126 q126
        cases e126
        replace p126:=eq_true p126;replace q126:=eq_true q126;have p127 : 0 ≤ (x5_1 : Int):=zXb ze;have q127 : x5_1 < (l1.length : Int):=zXb ze;obtain ⟨ad127,e127,hx127_0⟩:=Kd.at_int HR1.out x5_1 p127 q127
        cases e127
        replace p127:=eq_true p127;replace q127:=eq_true q127
        go_wp2
        repeat (go_quiet (fail);try go_wp2)
        go_roundg k1
        case measure => have:=HK1.out;omega
        case rel => exact ⟨(wrap64 (x5_1 + 1)),za,H',⟨by have:=HK1.out;omega⟩,by repeat (first|exact Drawn0.refl _|apply Drawn0.step)⟩
       ·
        rw [if_neg c7] at H;have c7b0:=beq_eq_false_iff_ne.mpr c7;have c7b1:=bne_iff_ne.mpr c7
        obtain rfl:=Option.some.inj H
        have p126 : 0 ≤ (x5_1 : Int):=zXb ze;have q126 : x5_1 < (l0.length : Int):=zXb ze;obtain ⟨ad126,e126,hx126_0⟩:=Kd.at_int HR0.out x5_1 p126 q126
        cases e126
        replace p126:=eq_true p126;replace q126:=eq_true q126;have p127 : 0 ≤ (x5_1 : Int):=zXb ze;have q127 : x5_1 < (l1.length : Int):=zXb ze;obtain ⟨ad127,e127,hx127_0⟩:=Kd.at_int HR1.out x5_1 p127 q127
        cases e127
        replace p127:=eq_true p127;replace q127:=eq_true q127
        go_wp2
        repeat (go_quiet (fail);try go_wp2)
        go_ret
        exact ⟨by first|rfl|(simp;done)|(simp [*];done),by repeat (first|exact Drawn0.refl _|apply Drawn0.step)⟩
      ·
       rw [if_neg c6] at H
       exact absurd H (by simp)
     ·
      rw [if_neg c5] at H
      exact absurd H (by simp)
    ·
     rw [if_neg c4] at H;have c4b0:=decide_eq_false c4;clear c4
     obtain rfl:=Option.some.inj H
     go_wp2
     repeat (go_quiet (fail);try go_wp2)
     go_ret
     exact ⟨by first|rfl|(simp;done)|(simp [*];done),by repeat (first|exact Drawn0.refl _|apply Drawn0.step)⟩
 ·
  rw [if_neg c3] at H;have c3b0:=beq_eq_false_iff_ne.mpr c3;have c3b1:=bne_iff_ne.mpr c3
  have c3b2 : (l0.length == l1.length) = false:=by first|simpa using c3|(simp at c3 ⊢;omega)
  obtain rfl:=Option.some.inj H
  go_enter Try.func91,Try.ntmps91
  go_wp2
  repeat (go_quiet (fail);try go_wp2)
  go_ret
  exact ⟨by first|rfl|(simp;done)|(simp [*];done),by repeat (first|exact Drawn0.refl _|apply Drawn0.step)⟩

/-! ### spec_l5Same: function 58 -/
def spec_l5Same.f (k : Nat) (a0_0 : Int) (l0_1 : List Int) (a1_0 : Int) (l1_1 : List Int) : Option (Bool) := if a0_0 = a1_0 then ((spec_l2Ints.f k l0_1 l1_1).bind fun t130 => (some t130)) else (some false)
theorem spec_l5Same.mono : ∀ a0 a1 a2 a3 k, LeO (spec_l5Same.f k a0 a1 a2 a3) (spec_l5Same.f (k + 1) a0 a1 a2 a3) := by
 intro a0 a1 a2 a3 k
 unfold spec_l5Same.f
 repeat' first
   | (with_reducible exact spec_l2Ints.mono _ _ _)
   | (with_reducible exact LeO.refl _)
   | (with_reducible exact LeO.none _)
   | (with_reducible refine LeO.ite ?_ ?_)
   | (with_reducible refine LeO.bind ?_ (fun _ => ?_))
   | exact LeO.none _
   | refine LeO.ite ?_ ?_
   | refine LeO.bind ?_ (fun _ => ?_)
set_option maxHeartbeats 8000000 in
set_option maxRecDepth 100000 in
theorem spec_l5Same.calls (k : Nat) (a0_0 : Int) (A0_1 : Option Addr) (c0_1 : Nat) (l0_1 : List Int) (a1_0 : Int) (A1_1 : Option Addr) (c1_1 : Nat) (l1_1 : List Int) (r : Bool) (w : World) (hr0_1 : Kd.C (Kd.int .i64) w A0_1 l0_1.length l0_1) (hc0_1 : l0_1.length ≤ c0_1) (hr1_1 : Kd.C (Kd.int .i64) w A1_1 l1_1.length l1_1) (hc1_1 : l1_1.length ≤ c1_1) (h : spec_l5Same.f k a0_0 l0_1 a1_0 l1_1 = some r) :
  Calls Try.prog 58 #[.agg #[.int .i64 a0_0, .slice A0_1 l0_1.length c0_1], .agg #[.int .i64 a1_0, .slice A1_1 l1_1.length c1_1]] w fun e w' => e = .returned (.bool r) ∧ Below w.heap.size w w' := by
 have hu37:=Try.underlying37;have HR0_1:=zA hr0_1;have HC0_1:=zA hc0_1;clear hr0_1 hc0_1;have HR1_1:=zA hr1_1;have HC1_1:=zA hc1_1;clear hr1_1 hc1_1;have HB:=zA (Below.refl w.heap.size w)
 have H : (if a0_0 = a1_0 then ((spec_l2Ints.f k l0_1 l1_1).bind fun t130 => (some t130)) else (some false)) = some r:=h
 clear h
 by_cases c3 : a0_0 = a1_0
 ·
  rw [if_pos c3] at H;have c3b0:=beq_iff_eq.mpr c3;have c3b1:=bne_eq_false_iff_eq.mpr c3;clear c3;replace H:=Option.bind_eq_some_iff.mp H;obtain ⟨t130,A40,H⟩:=H;(try dsimp only at H);have A4:=zA A40;clear A40
  obtain rfl:=Option.some.inj H
  go_enter Try.func58,Try.ntmps58
  go_wp2_with (first|((with_reducible refine gate_dst (N:=2) rfl ?_);refine box_event ?hg (N:=2) ?hd (cs:=#[.int .i64 a0_0,.slice A0_1 l0_1.length c0_1]) (t:=37) ?hr ?_;(case hd => rfl);(case hg => rfl);(case hr => first|(go_simp;done)|(go_simp;rfl));intro gb128 hg w5 hbox hb;have BK128:=zA (hbox);have GW128:=zA ((by rw [hg];exact (zT (zz HB)) : w.heap.size ≤ gb128));have GE128:=zA ((by rw [hg];exact (zT (zz HB)) : w.heap.size ≤ gb128));replace HB:=zA (zJb (zz HB) hb);clear hb hbox hg)|((with_reducible refine gate_dst (N:=3) rfl ?_);refine box_event ?hg (N:=3) ?hd (cs:=#[.int .i64 a1_0,.slice A1_1 l1_1.length c1_1]) (t:=37) ?hr ?_;(case hd => rfl);(case hg => rfl);(case hr => first|(go_simp;done)|(go_simp;rfl));intro gb129 hg w6 hbox hb;have BK129:=zA (hbox);have GW129:=zA ((by rw [hg];exact (zT (zz HB)) : w.heap.size ≤ gb129));have GE129:=zA ((by rw [hg];exact (zT (zz HB)) : w.heap.size ≤ gb129));replace HB:=zA (zJb (zz HB) hb);have NB128_129:=zA ((by rw [hg];exact Nat.ne_of_lt (blk_lt (g:=gb128) (o:=.cells #[.int .i64 a0_0,.slice A0_1 l0_1.length c0_1] 37 (0,0)) (zx BK128)) : gb128 ≠ gb129));have NB129_128:=zA ((by rw [hg];exact Nat.ne_of_gt (blk_lt (g:=gb128) (o:=.cells #[.int .i64 a0_0,.slice A0_1 l0_1.length c0_1] 37 (0,0)) (zx BK128)) : gb129 ≠ gb128));replace BK128:=zA (zQ (g:=gb128) (o:=.cells #[.int .i64 a0_0,.slice A0_1 l0_1.length c0_1] 37 (0,0)) (zx BK128) hb);clear hb hbox hg;have hnb7:=NB128_129.out;have hnc7:=NB129_128.out;have hcz8_0:=zc (.int .i64 a0_0) BK128 0 rfl;have hcz8_1:=zc (.slice A0_1 l0_1.length c0_1) BK128 1 rfl;have hfz8_0:=blk_frozen BK128.out 0;have hfz8_1:=blk_frozen BK128.out 1;have hcz9_0:=zc (.int .i64 a1_0) BK129 0 rfl;have hcz9_1:=zc (.slice A1_1 l1_1.length c1_1) BK129 1 rfl;have hfz9_0:=blk_frozen BK129.out 0;have hfz9_1:=blk_frozen BK129.out 1)|(go_at_call 91;(with_reducible refine (spec_l2Ints.calls k _ _ l0_1 _ _ l1_1 t130 _ ?side1 ?side2 ?side3 ?side4 A4.out).mono ?_);(case side1 => repeat (first|exact (zKb HR0_1.out HB.out)|(with_reducible refine zBb ?_ _)|(with_reducible refine zAb ?_ _)|(with_reducible refine zX ?_)));(case side2 => exact HC0_1.out);(case side3 => repeat (first|exact (zKb HR1_1.out HB.out)|(with_reducible refine zBb ?_ _)|(with_reducible refine zAb ?_ _)|(with_reducible refine zX ?_)));(case side4 => exact HC1_1.out);rintro e w' ⟨rfl,⟨nd,rfl⟩⟩))
  go_ret
  exact ⟨by first|rfl|(simp [errW_none,errW_some] <;> rfl)|(simp [*,errW_none,errW_some] <;> rfl),zz HB⟩
 ·
  rw [if_neg c3] at H;have c3b0:=beq_eq_false_iff_ne.mpr c3;have c3b1:=bne_iff_ne.mpr c3
  obtain rfl:=Option.some.inj H
  go_enter Try.func58,Try.ntmps58
  go_wp2_with (first|((with_reducible refine gate_dst (N:=2) rfl ?_);refine box_event ?hg (N:=2) ?hd (cs:=#[.int .i64 a0_0,.slice A0_1 l0_1.length c0_1]) (t:=37) ?hr ?_;(case hd => rfl);(case hg => rfl);(case hr => first|(go_simp;done)|(go_simp;rfl));intro gb128 hg w10 hbox hb;have BK128:=zA (hbox);have GW128:=zA ((by rw [hg];exact (zT (zz HB)) : w.heap.size ≤ gb128));have GE128:=zA ((by rw [hg];exact (zT (zz HB)) : w.heap.size ≤ gb128));replace HB:=zA (zJb (zz HB) hb);clear hb hbox hg)|((with_reducible refine gate_dst (N:=3) rfl ?_);refine box_event ?hg (N:=3) ?hd (cs:=#[.int .i64 a1_0,.slice A1_1 l1_1.length c1_1]) (t:=37) ?hr ?_;(case hd => rfl);(case hg => rfl);(case hr => first|(go_simp;done)|(go_simp;rfl));intro gb129 hg w11 hbox hb;have BK129:=zA (hbox);have GW129:=zA ((by rw [hg];exact (zT (zz HB)) : w.heap.size ≤ gb129));have GE129:=zA ((by rw [hg];exact (zT (zz HB)) : w.heap.size ≤ gb129));replace HB:=zA (zJb (zz HB) hb);have NB128_129:=zA ((by rw [hg];exact Nat.ne_of_lt (blk_lt (g:=gb128) (o:=.cells #[.int .i64 a0_0,.slice A0_1 l0_1.length c0_1] 37 (0,0)) (zx BK128)) : gb128 ≠ gb129));have NB129_128:=zA ((by rw [hg];exact Nat.ne_of_gt (blk_lt (g:=gb128) (o:=.cells #[.int .i64 a0_0,.slice A0_1 l0_1.length c0_1] 37 (0,0)) (zx BK128)) : gb129 ≠ gb128));replace BK128:=zA (zQ (g:=gb128) (o:=.cells #[.int .i64 a0_0,.slice A0_1 l0_1.length c0_1] 37 (0,0)) (zx BK128) hb);clear hb hbox hg;have hnb12:=NB128_129.out;have hnc12:=NB129_128.out;have hcz13_0:=zc (.int .i64 a0_0) BK128 0 rfl;have hcz13_1:=zc (.slice A0_1 l0_1.length c0_1) BK128 1 rfl;have hfz13_0:=blk_frozen BK128.out 0;have hfz13_1:=blk_frozen BK128.out 1;have hcz14_0:=zc (.int .i64 a1_0) BK129 0 rfl;have hcz14_1:=zc (.slice A1_1 l1_1.length c1_1) BK129 1 rfl;have hfz14_0:=blk_frozen BK129.out 0;have hfz14_1:=blk_frozen BK129.out 1))
  go_ret
  exact ⟨by first|rfl|(simp [errW_none,errW_some] <;> rfl)|(simp [*,errW_none,errW_some] <;> rfl),zz HB⟩

/-! ### spec_HasFact: function 48 -/
def spec_HasFact.l0 : Nat → List (S37) → Int → Int → List Int → Option (Bool)
 | 0, _, _, _, _ => none
 | k + 1, x0, x5, x132000, x132001 => if x5 < (x0.length : Int) then (if 0 ≤ x5 then ((spec_l5Same.f k ((rd_T37 x0 x5).f0) ((rd_T37 x0 x5).f1) x132000 x132001).bind fun t133 => (if t133 = true then (some true) else (spec_HasFact.l0 k x0 (wrap64 (x5 + 1)) x132000 x132001))) else (none)) else (some false)
def spec_HasFact.f (k : Nat) (l0 : List (S37)) (a1_0 : Int) (l1_1 : List Int) : Option (Bool) := spec_HasFact.l0 k l0 0 a1_0 l1_1
theorem spec_HasFact.mono_l : ∀ k, (∀ y0 y1 y2 y3, LeO (spec_HasFact.l0 k y0 y1 y2 y3) (spec_HasFact.l0 (k + 1) y0 y1 y2 y3))
 | 0 => fun _ _ _ _ r h => by simp [spec_HasFact.l0] at h
 | k + 1 => by
  have ih0:=spec_HasFact.mono_l k
  ·
   intro y0 y1 y2 y3
   unfold spec_HasFact.l0
   repeat' first
   | (with_reducible exact ih0 _ _ _ _)
   | (with_reducible exact spec_l5Same.mono _ _ _ _ _)
   | (with_reducible exact LeO.refl _)
   | (with_reducible exact LeO.none _)
   | (with_reducible refine LeO.ite ?_ ?_)
   | (with_reducible refine LeO.bind ?_ (fun _ => ?_))
   | exact ih0 _ _ _ _
   | exact LeO.none _
   | refine LeO.ite ?_ ?_
   | refine LeO.bind ?_ (fun _ => ?_)
theorem spec_HasFact.mono : ∀ a0 a1 a2 k, LeO (spec_HasFact.f k a0 a1 a2) (spec_HasFact.f (k + 1) a0 a1 a2) := by
 intro a0 a1 a2 k
 have ih0:=spec_HasFact.mono_l k
 unfold spec_HasFact.f
 repeat' first
   | (with_reducible exact ih0 _ _ _ _)
   | (with_reducible exact spec_l5Same.mono _ _ _ _ _)
   | (with_reducible exact LeO.refl _)
   | (with_reducible exact LeO.none _)
   | (with_reducible refine LeO.ite ?_ ?_)
   | (with_reducible refine LeO.bind ?_ (fun _ => ?_))
   | exact ih0 _ _ _ _
   | exact LeO.none _
   | refine LeO.ite ?_ ?_
   | refine LeO.bind ?_ (fun _ => ?_)
set_option maxHeartbeats 8000000 in
set_option maxRecDepth 100000 in
theorem spec_HasFact.calls (k : Nat) (A0 : Option Addr) (c0 : Nat) (l0 : List (S37)) (a1_0 : Int) (A1_1 : Option Addr) (c1_1 : Nat) (l1_1 : List Int) (r : Bool) (w : World) (hr0 : Kd.C k37 w A0 l0.length l0) (hc0 : l0.length ≤ c0) (hr1_1 : Kd.C (Kd.int .i64) w A1_1 l1_1.length l1_1) (hc1_1 : l1_1.length ≤ c1_1) (h : spec_HasFact.f k l0 a1_0 l1_1 = some r) :
  Calls Try.prog 48 #[.slice A0 l0.length c0, .agg #[.int .i64 a1_0, .slice A1_1 l1_1.length c1_1]] w fun e w' => e = .returned (.bool r) ∧ Below w.heap.size w w' := by
 have hu37:=Try.underlying37;have HR0:=zA hr0;have HC0:=zA hc0;clear hr0 hc0;have HR1_1:=zA hr1_1;have HC1_1:=zA hc1_1;clear hr1_1 hc1_1;have HB:=zA (Below.refl w.heap.size w)
 have H : (spec_HasFact.l0 k l0 0 a1_0 l1_1) = some r:=h
 clear h
 have H':=zA H
 clear H
 go_enter Try.func48,Try.ntmps48
 go_wp2_with (first|((with_reducible refine gate_dst (N:=3) rfl ?_);refine box_event ?hg (N:=3) ?hd (cs:=#[.int .i64 a1_0,.slice A1_1 l1_1.length c1_1]) (t:=37) ?hr ?_;(case hd => rfl);(case hg => rfl);(case hr => first|(go_simp;done)|(go_simp;rfl));intro gb131 hg w3 hbox hb;have BK131:=zA (hbox);have GW131:=zA ((by rw [hg];exact (zT (zz HB)) : w.heap.size ≤ gb131));have GE131:=zA ((by rw [hg];exact (zT (zz HB)) : w.heap.size ≤ gb131));replace HB:=zA (zJb (zz HB) hb);clear hb hbox hg))
 go_loopg [5] k (fun kq v5 w' => ∃ (x5_1 : Int),v5 = .int .i64 x5_1 ∧ Aside0 (spec_HasFact.l0 kq l0 x5_1 a1_0 l1_1 = some r) ∧ Aside0 (kq ≤ k) ∧ Aside0 (w'.heap[gb131]? = some (.cells #[.int .i64 a1_0,(.slice A1_1 l1_1.length c1_1)] 37 (0,0))) ∧ Aside0 (Below w.heap.size w w'))
 case atStart => exact ⟨(0),za,H',⟨Nat.le_refl _⟩,⟨zx BK131⟩,⟨zz HB⟩⟩
 case round =>
  clear H';(try clear c1);(try clear p2);obtain ⟨x5_1,rfl,HA,HK1,BK131,HB⟩:=hrel
  cases gk with
  | zero => exact absurd HA.out (by simp [spec_HasFact.l0])
  | succ k1 =>
   have H:=HA.out;clear HA;simp only [spec_HasFact.l0] at H
   by_cases c4 : x5_1 < (l0.length : Int)
   ·
    rw [if_pos c4] at H;have c4b0:=decide_eq_true c4;clear c4
    by_cases c5 : 0 ≤ x5_1
    ·
     rw [if_pos c5] at H;have c5b0:=decide_eq_true c5;clear c5;replace H:=Option.bind_eq_some_iff.mp H;obtain ⟨t133,A60,H⟩:=H;(try dsimp only at H);have A6:=zA A60;clear A60
     by_cases c7 : t133 = true
     ·
      subst c7
      rw [if_pos rfl] at H
      obtain rfl:=Option.some.inj H
      try go_wp2
      have n0_:=zA (zI BK131.out);have n1_:=zA (zJ HB.out);clear BK131;clear HB;have BK131:=n0_;have HB:=n1_;clear n0_ n1_;have p132 : 0 ≤ (x5_1 : Int):=zXb ze;have q132 : x5_1 < (l0.length : Int):=zXb ze;obtain ⟨ad132,A132_1,c132_1,e132,hx132_0,hx132_1,hl132_1,hi132_1⟩:=at_T37 HR0.out x5_1 p132 q132;have hw132_1:=hx132_1;have hw132_0:=hx132_0
      cases e132
      replace hx132_0:=(HB.out.cell (World.block_lt_of_cell? w _ hx132_0)).trans hx132_0;replace hx132_1:=(HB.out.cell (World.block_lt_of_cell? w _ hx132_1)).trans hx132_1;have HR132_1:=zA hi132_1;have HC132_1:=zA hl132_1;clear hi132_1 hl132_1;replace p132:=eq_true p132;replace q132:=eq_true q132
      refine start_ (n:=6) (S:=fun w' => w'.cell? ⟨gb131,0,none⟩ = some (.int .i64 a1_0) ∧ w'.cell? ⟨gb131,1,none⟩ = some (.slice A1_1 l1_1.length c1_1) ∧ w'.cell? (ad132.add ((x5_1).toNat * 2)) = some (.int .i64 ((rd_T37 l0 x5_1).f0)) ∧ w'.cell? ⟨(ad132.add ((x5_1).toNat * 2)).block,(ad132.add ((x5_1).toNat * 2)).off + 1,none⟩ = some (.slice A132_1 ((rd_T37 l0 x5_1).f1).length c132_1)) (ds:=[]) #[false,false,false,false,false,false] (by kernel_rfl) rfl rfl ⟨(zP BK131.out 0).trans rfl,(zP BK131.out 1).trans rfl,((HB.out.cell (World.block_lt_of_cell? w _ hw132_0)).trans hw132_0),((HB.out.cell (World.block_lt_of_cell? w _ hw132_1)).trans hw132_1)⟩ (fun hHeld => ?_)
      generalize wr.drew = w8 at BK131 HB HR132_1 hx132_0 hx132_1 hHeld ⊢
      refine pure_ (i:=0) (N:=some 12) (v:=?_) (a':=?_) #[true,false,false,false,false,false] rfl rfl (by kernel_rfl) (fun _ _ _ h => h) (Or.inl ⟨by rfl,?_⟩) ?_ ?_
      rotate_left
      ·
       intro w'
       go_simp
       with_reducible rfl
      rotate_left
      ·
       simp only [Act.put,zO,zEb,zFb,i64_w,i32_w]
       rfl
      refine pure_ (i:=1) (N:=some 13) (v:=?_) (a':=?_) #[true,true,false,false,false,false] rfl rfl (by kernel_rfl) (fun _ _ _ h => h) (Or.inl ⟨by rfl,?_⟩) ?_ ?_
      rotate_left
      ·
       intro w'
       go_simp
       with_reducible rfl
      rotate_left
      ·
       simp only [Act.put,zO,zEb,zFb,i64_w,i32_w]
       rfl
      refine pure_ (i:=2) (N:=some 14) (v:=?_) (a':=?_) #[true,true,true,false,false,false] rfl rfl (by kernel_rfl) (fun _ _ _ h => h) (Or.inl ⟨by rfl,?_⟩) ?_ ?_
      rotate_left
      ·
       intro w'
       go_simp
       with_reducible rfl
      rotate_left
      ·
       simp only [Act.put,zO,zEb,zFb,i64_w,i32_w]
       rfl
      refine take_ (i:=3) (N:=some 15) (v:=?_) (a':=?_) #[true,true,true,true,false,false] rfl rfl (by kernel_rfl) (fun _ _ _ h => h) (Or.inl ⟨by rfl,?_⟩) hHeld ?_ ?_
      rotate_left
      ·
       rintro w' ⟨s0,s1,s2,s3⟩
       go_simp
       with_reducible rfl
      rotate_left
      ·
       simp only [Act.put,zO,zEb,zFb,i64_w,i32_w]
       rfl
      refine take_ (i:=4) (N:=some 16) (v:=?_) (a':=?_) #[true,true,true,true,true,false] rfl rfl (by kernel_rfl) (fun _ _ _ h => h) (Or.inl ⟨by rfl,?_⟩) hHeld ?_ ?_
      rotate_left
      ·
       rintro w' ⟨s0,s1,s2,s3⟩
       go_simp
       with_reducible rfl
      rotate_left
      ·
       simp only [Act.put,zO,zEb,zFb,i64_w,i32_w]
       rfl
      refine one_ (i:=5) (N:=some 17) #[true,true,true,true,true,true] rfl rfl (by kernel_rfl) (by decide) (fun K hK => ?_)
      refine goes_ Try.func58 (by kernel_rfl) rfl #[.agg #[.int .i64 ((rd_T37 l0 x5_1).f0),.slice A132_1 ((rd_T37 l0 x5_1).f1).length c132_1],.agg #[.int .i64 a1_0,.slice A1_1 l1_1.length c1_1]] (by rfl) rfl rfl (by (try simp only [zCb,zMb,zNb]);first|done|rfl|(simp only [zLb,zDb];rfl)) ?_
      with_reducible refine (spec_l5Same.calls k1 ((rd_T37 l0 x5_1).f0) _ _ ((rd_T37 l0 x5_1).f1) a1_0 _ _ l1_1 true _ ?side1 ?side2 ?side3 ?side4 A6.out).mono ?_
      (case side1 => repeat (first|exact (zKb HR132_1.out HB.out)|(with_reducible refine zBb ?_ _)|(with_reducible refine zAb ?_ _)|(with_reducible refine zX ?_)))
      (case side2 => exact HC132_1.out)
      (case side3 => repeat (first|exact (zKb HR1_1.out HB.out)|(with_reducible refine zBb ?_ _)|(with_reducible refine zAb ?_ _)|(with_reducible refine zX ?_)))
      (case side4 => exact HC1_1.out)
      rintro e w9 ⟨rfl,hb⟩
      refine ⟨_,rfl,?_⟩
      have n0_:=zA (zQ (g:=gb131) (o:=.cells #[.int .i64 a1_0,.slice A1_1 l1_1.length c1_1] 37 (0,0)) (zx BK131) hb);have n1_:=zA (zJb (zz HB) hb);clear BK131;clear HB;have BK131:=n0_;have HB:=n1_;clear n0_ n1_;(try clear hb);(try clear hb2);(try clear hk);(try clear hi)
      refine hK.out _ _ ⟨(zP BK131.out 0).trans rfl,(zP BK131.out 1).trans rfl,((HB.out.cell (World.block_lt_of_cell? w _ hw132_0)).trans hw132_0),((HB.out.cell (World.block_lt_of_cell? w _ hw132_1)).trans hw132_1)⟩ (fun hHeld => ?_)
      clear hK K
      refine norm_ (a':=?_) ?_ ?_
      rotate_left
      ·
       show Act.put _ (some 17) _ = _
       simp only [Act.put,zO,zEb,zFb,i64_w,i32_w]
       rfl
      refine done_ (by kernel_rfl) ?_
      try go_wp2
      go_ret
      exact ⟨by first|rfl|(simp [errW_none,errW_some] <;> rfl)|(simp [*,errW_none,errW_some] <;> rfl),zz HB⟩
     ·
      replace c7:=Bool.eq_false_iff.mpr c7
      subst c7
      have H1 : (spec_HasFact.l0 k1 l0 (wrap64 (x5_1 + 1)) a1_0 l1_1) = some r:=by rw [if_neg (show ¬ (false = true) by decide)] at H;exact H
      clear H;have H:=H1;clear H1
      have H':=zA H
      clear H
      try go_wp2
      have n0_:=zA (zI BK131.out);have n1_:=zA (zJ HB.out);clear BK131;clear HB;have BK131:=n0_;have HB:=n1_;clear n0_ n1_;have p132 : 0 ≤ (x5_1 : Int):=zXb ze;have q132 : x5_1 < (l0.length : Int):=zXb ze;obtain ⟨ad132,A132_1,c132_1,e132,hx132_0,hx132_1,hl132_1,hi132_1⟩:=at_T37 HR0.out x5_1 p132 q132;have hw132_1:=hx132_1;have hw132_0:=hx132_0
      cases e132
      replace hx132_0:=(HB.out.cell (World.block_lt_of_cell? w _ hx132_0)).trans hx132_0;replace hx132_1:=(HB.out.cell (World.block_lt_of_cell? w _ hx132_1)).trans hx132_1;have HR132_1:=zA hi132_1;have HC132_1:=zA hl132_1;clear hi132_1 hl132_1;replace p132:=eq_true p132;replace q132:=eq_true q132
      refine start_ (n:=6) (S:=fun w' => w'.cell? ⟨gb131,0,none⟩ = some (.int .i64 a1_0) ∧ w'.cell? ⟨gb131,1,none⟩ = some (.slice A1_1 l1_1.length c1_1) ∧ w'.cell? (ad132.add ((x5_1).toNat * 2)) = some (.int .i64 ((rd_T37 l0 x5_1).f0)) ∧ w'.cell? ⟨(ad132.add ((x5_1).toNat * 2)).block,(ad132.add ((x5_1).toNat * 2)).off + 1,none⟩ = some (.slice A132_1 ((rd_T37 l0 x5_1).f1).length c132_1)) (ds:=[]) #[false,false,false,false,false,false] (by kernel_rfl) rfl rfl ⟨(zP BK131.out 0).trans rfl,(zP BK131.out 1).trans rfl,((HB.out.cell (World.block_lt_of_cell? w _ hw132_0)).trans hw132_0),((HB.out.cell (World.block_lt_of_cell? w _ hw132_1)).trans hw132_1)⟩ (fun hHeld => ?_)
      generalize wr.drew = w10 at BK131 HB HR132_1 hx132_0 hx132_1 hHeld ⊢
      refine pure_ (i:=0) (N:=some 12) (v:=?_) (a':=?_) #[true,false,false,false,false,false] rfl rfl (by kernel_rfl) (fun _ _ _ h => h) (Or.inl ⟨by rfl,?_⟩) ?_ ?_
      rotate_left
      ·
       intro w'
       go_simp
       with_reducible rfl
      rotate_left
      ·
       simp only [Act.put,zO,zEb,zFb,i64_w,i32_w]
       rfl
      refine pure_ (i:=1) (N:=some 13) (v:=?_) (a':=?_) #[true,true,false,false,false,false] rfl rfl (by kernel_rfl) (fun _ _ _ h => h) (Or.inl ⟨by rfl,?_⟩) ?_ ?_
      rotate_left
      ·
       intro w'
       go_simp
       with_reducible rfl
      rotate_left
      ·
       simp only [Act.put,zO,zEb,zFb,i64_w,i32_w]
       rfl
      refine pure_ (i:=2) (N:=some 14) (v:=?_) (a':=?_) #[true,true,true,false,false,false] rfl rfl (by kernel_rfl) (fun _ _ _ h => h) (Or.inl ⟨by rfl,?_⟩) ?_ ?_
      rotate_left
      ·
       intro w'
       go_simp
       with_reducible rfl
      rotate_left
      ·
       simp only [Act.put,zO,zEb,zFb,i64_w,i32_w]
       rfl
      refine take_ (i:=3) (N:=some 15) (v:=?_) (a':=?_) #[true,true,true,true,false,false] rfl rfl (by kernel_rfl) (fun _ _ _ h => h) (Or.inl ⟨by rfl,?_⟩) hHeld ?_ ?_
      rotate_left
      ·
       rintro w' ⟨s0,s1,s2,s3⟩
       go_simp
       with_reducible rfl
      rotate_left
      ·
       simp only [Act.put,zO,zEb,zFb,i64_w,i32_w]
       rfl
      refine take_ (i:=4) (N:=some 16) (v:=?_) (a':=?_) #[true,true,true,true,true,false] rfl rfl (by kernel_rfl) (fun _ _ _ h => h) (Or.inl ⟨by rfl,?_⟩) hHeld ?_ ?_
      rotate_left
      ·
       rintro w' ⟨s0,s1,s2,s3⟩
       go_simp
       with_reducible rfl
      rotate_left
      ·
       simp only [Act.put,zO,zEb,zFb,i64_w,i32_w]
       rfl
      refine one_ (i:=5) (N:=some 17) #[true,true,true,true,true,true] rfl rfl (by kernel_rfl) (by decide) (fun K hK => ?_)
      refine goes_ Try.func58 (by kernel_rfl) rfl #[.agg #[.int .i64 ((rd_T37 l0 x5_1).f0),.slice A132_1 ((rd_T37 l0 x5_1).f1).length c132_1],.agg #[.int .i64 a1_0,.slice A1_1 l1_1.length c1_1]] (by rfl) rfl rfl (by (try simp only [zCb,zMb,zNb]);first|done|rfl|(simp only [zLb,zDb];rfl)) ?_
      with_reducible refine (spec_l5Same.calls k1 ((rd_T37 l0 x5_1).f0) _ _ ((rd_T37 l0 x5_1).f1) a1_0 _ _ l1_1 false _ ?side1 ?side2 ?side3 ?side4 A6.out).mono ?_
      (case side1 => repeat (first|exact (zKb HR132_1.out HB.out)|(with_reducible refine zBb ?_ _)|(with_reducible refine zAb ?_ _)|(with_reducible refine zX ?_)))
      (case side2 => exact HC132_1.out)
      (case side3 => repeat (first|exact (zKb HR1_1.out HB.out)|(with_reducible refine zBb ?_ _)|(with_reducible refine zAb ?_ _)|(with_reducible refine zX ?_)))
      (case side4 => exact HC1_1.out)
      rintro e w11 ⟨rfl,hb⟩
      refine ⟨_,rfl,?_⟩
      have n0_:=zA (zQ (g:=gb131) (o:=.cells #[.int .i64 a1_0,.slice A1_1 l1_1.length c1_1] 37 (0,0)) (zx BK131) hb);have n1_:=zA (zJb (zz HB) hb);clear BK131;clear HB;have BK131:=n0_;have HB:=n1_;clear n0_ n1_;(try clear hb);(try clear hb2);(try clear hk);(try clear hi)
      refine hK.out _ _ ⟨(zP BK131.out 0).trans rfl,(zP BK131.out 1).trans rfl,((HB.out.cell (World.block_lt_of_cell? w _ hw132_0)).trans hw132_0),((HB.out.cell (World.block_lt_of_cell? w _ hw132_1)).trans hw132_1)⟩ (fun hHeld => ?_)
      clear hK K
      refine norm_ (a':=?_) ?_ ?_
      rotate_left
      ·
       show Act.put _ (some 17) _ = _
       simp only [Act.put,zO,zEb,zFb,i64_w,i32_w]
       rfl
      refine done_ (by kernel_rfl) ?_
      try go_wp2
      go_roundg k1
      case measure => have:=HK1.out;omega
      case rel => exact ⟨(wrap64 (x5_1 + 1)),za,H',⟨by have:=HK1.out;omega⟩,⟨zx BK131⟩,⟨zz HB⟩⟩
    ·
     rw [if_neg c5] at H
     exact absurd H (by simp)
   ·
    rw [if_neg c4] at H;have c4b0:=decide_eq_false c4;clear c4
    obtain rfl:=Option.some.inj H
    go_wp2
    go_ret
    exact ⟨by first|rfl|(simp [errW_none,errW_some] <;> rfl)|(simp [*,errW_none,errW_some] <;> rfl),zz HB⟩

/-! ### spec_l5Copy: function 64 -/
def spec_l5Copy.f (a0_0 : Int) (l0_1 : List Int) : Option (Int × List Int) := (some (([] : List Int) : List Int)).bind fun y136 => (if y136.length + l0_1.length < 17592186044416 then (some (a0_0, (y136 ++ l0_1))) else (none))
def spec_l5Copy.T1 : Bool × List (List Nat × List Nat) := (true, [([], []), ([0], [0]), ([], []), ([], []), ([3], [3]), ([2, 4], [2, 4]), ([1, 5], [1, 5]), ([6, 5, 0, 1, 2, 3, 4, 5, 6], [6])])
def spec_l5Copy.B1 : List Nat := [0, 1, 0, 0, 8, 28, 63, 127]
theorem spec_l5Copy.tab1 : rtab .any (opsOf Try.f64 1) = spec_l5Copy.T1 := by kernel_rfl
theorem spec_l5Copy.bits1 : waitsOk spec_l5Copy.T1.2 spec_l5Copy.B1 = true := by kernel_rfl
set_option maxHeartbeats 8000000 in
set_option maxRecDepth 100000 in
theorem spec_l5Copy.calls (a0_0 : Int) (A0_1 : Option Addr) (c0_1 : Nat) (l0_1 : List Int) (r1 : Int) (r2 : List Int) (w : World) (hr0_1 : Kd.C (Kd.int .i64) w A0_1 l0_1.length l0_1) (hc0_1 : l0_1.length ≤ c0_1) (h : spec_l5Copy.f a0_0 l0_1 = some (r1, r2)) :
  Calls Try.prog 64 #[.agg #[.int .i64 a0_0, .slice A0_1 l0_1.length c0_1]] w fun e w' => ∃ v1_ : Value, e = .returned (.agg #[.int .i64 r1, v1_]) ∧ Kd.R (Kd.int .i64) 3 w' w.heap.size (fun _ => True) v1_ r2 ∧ Below w.heap.size w w' := by
 have hu37:=Try.underlying37;have HR0_1:=zA hr0_1;have HC0_1:=zA hc0_1;clear hr0_1 hc0_1;have HB:=zA (Below.refl w.heap.size w)
 have H : ((some (([] : List Int) : List Int)).bind fun y136 => (if y136.length + l0_1.length < 17592186044416 then (some (a0_0,(y136 ++ l0_1))) else (none))) = some (r1,r2):=h
 clear h;obtain ⟨y136,hy136⟩ : ∃ y_ : List Int,y_ = (([] : List Int)):=⟨_,rfl⟩
 replace H : (if y136.length + l0_1.length < 17592186044416 then (some (a0_0,(y136 ++ l0_1))) else (none)) = some (r1,r2):=by first|(rw [hy136];with_reducible exact H)|(have H2_:=(Option.bind_some _ _).symm.trans H;rw [hy136];with_reducible exact H2_)|(have H2_:=(Option.bind_some _ _).symm.trans H;with_reducible exact H2_)|with_reducible exact H|(rw [hy136];exact H)|exact H
 have Ny136:=zA hy136;clear hy136
 by_cases c2 : y136.length + l0_1.length < 17592186044416
 ·
  rw [if_pos c2] at H;have LMc2:=zA c2;clear c2;obtain ⟨y139,hy139⟩ : ∃ y_ : List Int,y_ = (y136 ++ l0_1):=⟨_,rfl⟩
  replace H : (some (a0_0,y139)) = some (r1,r2):=by first|(rw [hy139];with_reducible exact H)|(have H2_:=(Option.bind_some _ _).symm.trans H;rw [hy139];with_reducible exact H2_)|(have H2_:=(Option.bind_some _ _).symm.trans H;with_reducible exact H2_)|with_reducible exact H|(rw [hy139];exact H)|exact H
  have Ny139:=zA hy139;clear hy139;simp only [Option.some.injEq,Prod.mk.injEq] at H;obtain ⟨rfl,rfl⟩:=H
  go_enter Try.func64,Try.ntmps64
  try go_wp2_with (first|((with_reducible refine gate_dst (N:=1) rfl ?_);refine box_event ?hg (N:=1) ?hd (cs:=#[.int .i64 a0_0,.slice A0_1 l0_1.length c0_1]) (t:=37) ?hr ?_;(case hd => rfl);(case hg => rfl);(case hr => first|(go_simp;done)|(go_simp;rfl));intro gb134 hg w3 hbox hb;have BK134:=zA (hbox);have GW134:=zA ((by rw [hg];exact (zT (zz HB)) : w.heap.size ≤ gb134));have GE134:=zA ((by rw [hg];exact (zT (zz HB)) : w.heap.size ≤ gb134));replace HB:=zA (zJb (zz HB) hb);clear hb hbox hg)|((with_reducible refine gate_dst (N:=2) rfl ?_);refine box_event ?hg (N:=2) ?hd (cs:=#[.int .i64 0,.slice none 0 0]) (t:=37) ?hr ?_;(case hd => rfl);(case hg => rfl);(case hr => first|(go_simp;done)|(go_simp;rfl));intro gb135 hg w4 hbox hb;have BK135:=zA (hbox);have GW135:=zA ((by rw [hg];exact (zT (zz HB)) : w.heap.size ≤ gb135));have GE135:=zA ((by rw [hg];exact (zT (zz HB)) : w.heap.size ≤ gb135));replace HB:=zA (zJb (zz HB) hb);have NB134_135:=zA ((by rw [hg];exact Nat.ne_of_lt (blk_lt (g:=gb134) (o:=.cells #[.int .i64 a0_0,.slice A0_1 l0_1.length c0_1] 37 (0,0)) (zx BK134)) : gb134 ≠ gb135));have NB135_134:=zA ((by rw [hg];exact Nat.ne_of_gt (blk_lt (g:=gb134) (o:=.cells #[.int .i64 a0_0,.slice A0_1 l0_1.length c0_1] 37 (0,0)) (zx BK134)) : gb135 ≠ gb134));replace BK134:=zA (zQ (g:=gb134) (o:=.cells #[.int .i64 a0_0,.slice A0_1 l0_1.length c0_1] 37 (0,0)) (zx BK134) hb);clear hb hbox hg))
  have n0_:=zA (zI BK134.out);have n1_:=zA (zI BK135.out);have n2_:=zA (zJ HB.out);clear BK134;clear BK135;clear HB;have BK134:=n0_;have BK135:=n1_;have HB:=n2_;clear n0_ n1_ n2_
  refine start_ (n:=8) (S:=fun w' => w'.cell? ⟨gb134,0,none⟩ = some (.int .i64 a0_0) ∧ w'.cell? ⟨gb134,1,none⟩ = some (.slice A0_1 l0_1.length c0_1)) (ds:=[]) #[false,false,false,false,false,false,false,false] (by kernel_rfl) rfl rfl ⟨(zP BK134.out 0).trans rfl,(zP BK134.out 1).trans rfl⟩ (fun hHeld => ?_);refine with_tabW spec_l5Copy.tab1 spec_l5Copy.bits1 (fun HT_ HW_ => ?_)
  generalize w4.drew = w5 at BK134 BK135 HB hHeld ⊢
  refine pure_ (i:=0) (N:=some 3) (v:=?_) (a':=?_) #[true,false,false,false,false,false,false,false] rfl rfl (any_of HT_.out (by kernel_rfl)) (fun _ _ _ h => h) (Or.inl ⟨by rfl,?_⟩) ?_ ?_
  rotate_left
  ·
   intro w'
   go_simp
   with_reducible rfl
  rotate_left
  ·
   simp only [Act.put,zO,zEb,zFb,i64_w,i32_w]
   rfl
  refine pure_ (i:=3) (N:=some 6) (v:=?_) (a':=?_) #[true,false,false,true,false,false,false,false] rfl rfl (any_of HT_.out (by kernel_rfl)) (fun _ _ _ h => h) (Or.inl ⟨by rfl,?_⟩) ?_ ?_
  rotate_left
  ·
   intro w'
   go_simp
   with_reducible rfl
  rotate_left
  ·
   simp only [Act.put,zO,zEb,zFb,i64_w,i32_w]
   rfl
  refine take_ (i:=1) (N:=some 4) (v:=?_) (a':=?_) #[true,true,false,true,false,false,false,false] rfl rfl (take_ofW HT_.out HW_.out (by kernel_rfl)) (fun _ _ _ h => h) (Or.inl ⟨by rfl,?_⟩) hHeld ?_ ?_
  rotate_left
  ·
   rintro w' ⟨s0,s1⟩
   go_simp
   with_reducible rfl
  rotate_left
  ·
   simp only [Act.put,zO,zEb,zFb,i64_w,i32_w]
   rfl
  refine take_ (i:=4) (N:=some 7) (v:=?_) (a':=?_) #[true,true,false,true,true,false,false,false] rfl rfl (take_ofW HT_.out HW_.out (by kernel_rfl)) (fun _ _ _ h => h) (Or.inl ⟨by rfl,?_⟩) hHeld ?_ ?_
  rotate_left
  ·
   rintro w' ⟨s0,s1⟩
   go_simp
   with_reducible rfl
  rotate_left
  ·
   simp only [Act.put,zO,zEb,zFb,i64_w,i32_w]
   rfl
  refine one_ (i:=2) (N:=some 5) #[true,true,true,true,true,false,false,false] rfl rfl (one_of HT_.out (by kernel_rfl)) (by decide) (fun K hK => ?_)
  refine Kd.R_lit_step (Kd.int .i64) _ 3 ?hg (N:=5) ?hd (xs:=([] : List Int)) (inner:=[]) (ok:=fun _ => True) (okp:=fun _ => True) ?hr ?hp (fun _ hk => hk) trivial (Below.refl _ _) (Nat.le_refl _) (by simp) ?_;(case hd => rfl);(case hg => rfl);(case hr => first|(go_simp;done)|(go_simp;rfl));(case hp => exact (Reps.none _ _))
  intro v137 w6 ho7 hb hg_ hnew_
  clear hg_ hnew_
  (first|rw [← Ny136.out] at ho7|(simp only [Int.reduceToNat] at ho7;rw [← Ny136.out] at ho7))
  have n0_:=zA (zHb ho7 (zT (zz HB)));have n1_:=zA (zQ (g:=gb134) (o:=.cells #[.int .i64 a0_0,.slice A0_1 l0_1.length c0_1] 37 (0,0)) (zx BK134) hb);have n2_:=zA (zQ (g:=gb135) (o:=.cells #[.int .i64 0,.slice none 0 0] 37 (0,0)) (zx BK135) hb);have n3_:=zA (zJb (zz HB) hb);clear BK134;clear BK135;clear HB;have HO138:=n0_;have BK134:=n1_;have BK135:=n2_;have HB:=n3_;clear n0_ n1_ n2_ n3_;clear hb ho7
  refine hK.out _ _ ⟨(zP BK134.out 0).trans rfl,(zP BK134.out 1).trans rfl⟩ (fun hHeld => ?_)
  clear hK K
  refine norm_ (a':=?_) ?_ ?_
  rotate_left
  ·
   show Act.put _ (some 5) _ = _
   simp only [Act.put,zO,zEb,zFb,i64_w,i32_w]
   rfl
  refine one_ (i:=5) (N:=some 8) #[true,true,true,true,true,true,false,false] rfl rfl (one_of HT_.out (by kernel_rfl)) (by decide) (fun K hK => ?_)
  refine Kd.R_append_rows_step (Kd.int .i64) (w0:=w) w.heap.size (by rfl) (.tmp 5) (.tmp 7) 22 3 (.int .i64 0) 8 rfl Try.underlying22 info3 rfl (by decide) (by omega) v137 y136 l0_1 _ _ _ (fun _ => True) (fun _ => False) rfl rfl ?aO ?aR (fun _ _ h => h) (fun _ h => h.elim) ?aF ?aB ?aS ?aL ?_
  (case aR => repeat (first|exact (zKb HR0_1.out HB.out)|(with_reducible refine zBb ?_ _)|(with_reducible refine zAb ?_ _)|(with_reducible refine zX ?_)))
  (case aB => exact (zz HB))
  (case aF => exact (fun _ _ => trivial))
  (case aO => exact (zq HO138))
  (case aS => exact (zT (zz HB)))
  (case aL => have:=LMc2.out;omega)
  intro v140 w8 ho hb hg hat
  rw [← Ny139.out] at ho;have n0_:=zA (blk_grown (g:=gb134) (o:=.cells #[.int .i64 a0_0,.slice A0_1 l0_1.length c0_1] 37 (0,0)) (zx BK134) hg (Kd.R_ne HO138.out BK134.out (by decide)));have n1_:=zA (blk_grown (g:=gb135) (o:=.cells #[.int .i64 0,.slice none 0 0] 37 (0,0)) (zx BK135) hg (Kd.R_ne HO138.out BK135.out (by decide)));have n2_:=zA (hb);have n3_:=zA (ho);clear BK134;clear BK135;clear HB;clear HO138;have BK134:=n0_;have BK135:=n1_;have HB:=n2_;have HO141:=n3_;clear n0_ n1_ n2_ n3_;clear ho hb hg hat;obtain ⟨Ao9,co9,eo9⟩:=Kd.R_slice HO141.out
  (first|subst eo9|(injection eo9 with f1_ f2_ f3_;have f4_:=f1_.symm;have f5_:=f3_.symm;clear f1_ f2_ f3_;subst f4_;subst f5_))
  refine hK.out _ _ ⟨(zP BK134.out 0).trans rfl,(zP BK134.out 1).trans rfl⟩ (fun hHeld => ?_)
  clear hK K
  refine norm_ (a':=?_) ?_ ?_
  rotate_left
  ·
   show Act.put _ (some 8) _ = _
   simp only [Act.put,zO,zEb,zFb,i64_w,i32_w]
   rfl
  refine pure_ (i:=6) (N:=some 9) (v:=?_) (a':=?_) #[true,true,true,true,true,true,true,false] rfl rfl (any_of HT_.out (by kernel_rfl)) (fun _ _ _ h => h) (Or.inl ⟨by rfl,?_⟩) ?_ ?_
  rotate_left
  ·
   intro w'
   go_simp
   with_reducible rfl
  rotate_left
  ·
   simp only [Act.put,zO,zEb,zFb,i64_w,i32_w]
   rfl
  refine one_ (i:=7) (N:=none) #[true,true,true,true,true,true,true,true] rfl rfl (one_of HT_.out (by kernel_rfl)) (by decide) (fun K hK => ?_)
  have hs10 : w8.cell? ⟨gb135,0,none⟩ = some (.int .i64 0):=(zP BK135.out 0).trans rfl
  have hfs10:=blk_frozen BK135.out 0;have hns10_0:=NB134_135.out;have hms10_0:=NB135_134.out
  have hs11 : w8.cell? ⟨gb135,1,none⟩ = some (.slice none 0 0):=(zP BK135.out 1).trans rfl
  have hfs11:=blk_frozen BK135.out 1;have hns11_0:=NB134_135.out;have hms11_0:=NB135_134.out
  refine skip_ (w1:=?_) (by rfl) rfl ?_ ?_
  rotate_left
  ·
   go_simp
   rfl
  refine hK.out _ _ ⟨((zWb (p:=⟨gb135,_,none⟩) NB134_135.out _).trans (((zWb (p:=⟨gb135,_,none⟩) NB134_135.out _).trans (hHeld.1)))),((zWb (p:=⟨gb135,_,none⟩) NB134_135.out _).trans (((zWb (p:=⟨gb135,_,none⟩) NB134_135.out _).trans (hHeld.2))))⟩ (fun hHeld => ?_)
  clear hK K
  refine done_ (done_of HT_.out (by kernel_rfl)) ?_
  try go_wp2
  refine bodyPost_ret (results_cell_row rfl _ _ gb135 37 #[.int .i64 a0_0,.slice Ao9 y139.length co9] (0,0) _ rfl (by (with_reducible repeat (first|refine zF ?_ _|refine zI ?_|refine zG ?_ _));refine blk_put (cs:=#[.int .i64 a0_0,.slice none 0 0]) ?_ 1 _ rfl;(with_reducible repeat (first|refine zF ?_ _|refine zI ?_|refine zG ?_ _));refine blk_put (cs:=#[.int .i64 0,.slice none 0 0]) ?_ 0 _ rfl;(with_reducible repeat (first|refine zF ?_ _|refine zI ?_|refine zG ?_ _));exact BK135.out) Try.underlying37 rfl (by kernel_rfl)) rfl ?_
  exact ⟨_,by first|rfl|(simp [errW_none,errW_some] <;> rfl)|(simp [*,errW_none,errW_some] <;> rfl),by (with_reducible repeat (first|apply zE|apply zD|apply zH));exact zGb (zR (p:=⟨gb135,1,none⟩) (zR (p:=⟨gb135,0,none⟩) (Kd.R_types HO141.out BK135.out (by decide)) (fun _ hk => hk.2) (.int .i64 a0_0)) (fun _ hk => hk.2) (.slice Ao9 y139.length co9)) (fun _ hk => trivial),zz HB⟩
 ·
  rw [if_neg c2] at H
  exact absurd H (by simp)

/-! ### spec_l5All: function 49 -/
def spec_l5All.l0 : Nat → List (S37) → List (S37) → Int → Option ((List (S37)))
 | 0, _, _, _ => none
 | k + 1, x0, x3, x4 => if x4 < (x0.length : Int) then (if 0 ≤ x4 then ((spec_l5Copy.f ((rd_T37 x0 x4).f0) ((rd_T37 x0 x4).f1)).bind fun bt146 => (if x3.length < 4398046511104 then (spec_l5All.l0 k x0 (x3 ++ [(⟨bt146.1, bt146.2⟩ : S37)]) (wrap64 (x4 + 1))) else (none))) else (none)) else (some x3)
def spec_l5All.f (k : Nat) (l0 : List (S37)) : Option ((List (S37))) := spec_l5All.l0 k l0 (([] : List (S37))) 0
theorem spec_l5All.mono_l : ∀ k, (∀ y0 y1 y2, LeO (spec_l5All.l0 k y0 y1 y2) (spec_l5All.l0 (k + 1) y0 y1 y2))
 | 0 => fun _ _ _ r h => by simp [spec_l5All.l0] at h
 | k + 1 => by
  have ih0:=spec_l5All.mono_l k
  ·
   intro y0 y1 y2
   unfold spec_l5All.l0
   repeat' first
   | (with_reducible exact ih0 _ _ _)
   | (with_reducible exact LeO.refl _)
   | (with_reducible exact LeO.none _)
   | (with_reducible refine LeO.ite ?_ ?_)
   | (with_reducible refine LeO.bind ?_ (fun _ => ?_))
   | exact ih0 _ _ _
   | exact LeO.none _
   | refine LeO.ite ?_ ?_
   | refine LeO.bind ?_ (fun _ => ?_)
theorem spec_l5All.mono : ∀ a0 k, LeO (spec_l5All.f k a0) (spec_l5All.f (k + 1) a0) := by
 intro a0 k
 have ih0:=spec_l5All.mono_l k
 unfold spec_l5All.f
 repeat' first
   | (with_reducible exact ih0 _ _ _)
   | (with_reducible exact LeO.refl _)
   | (with_reducible exact LeO.none _)
   | (with_reducible refine LeO.ite ?_ ?_)
   | (with_reducible refine LeO.bind ?_ (fun _ => ?_))
   | exact ih0 _ _ _
   | exact LeO.none _
   | refine LeO.ite ?_ ?_
   | refine LeO.bind ?_ (fun _ => ?_)
set_option maxHeartbeats 8000000 in
set_option maxRecDepth 100000 in
theorem spec_l5All.calls (k : Nat) (A0 : Option Addr) (c0 : Nat) (l0 : List (S37)) (r : List (S37)) (w : World) (hr0 : Kd.C k37 w A0 l0.length l0) (hc0 : l0.length ≤ c0) (h : spec_l5All.f k l0 = some r) :
  Calls Try.prog 49 #[.slice A0 l0.length c0] w fun e w' => ∃ v0_ : Value, e = .returned (v0_) ∧ Kd.S k37 37 w' w.heap.size (fun _ => True) v0_ r ∧ Below w.heap.size w w' := by
 have hu37:=Try.underlying37;have HR0:=zA hr0;have HC0:=zA hc0;clear hr0 hc0;have HB:=zA (Below.refl w.heap.size w)
 have H : (spec_l5All.l0 k l0 (([] : List (S37))) 0) = some r:=h
 clear h;obtain ⟨y142,hy142⟩ : ∃ y_ : List (S37),y_ = (([] : List (S37))):=⟨_,rfl⟩
 replace H : (spec_l5All.l0 k l0 y142 0) = some r:=by first|(rw [hy142];with_reducible exact H)|(have H2_:=(Option.bind_some _ _).symm.trans H;rw [hy142];with_reducible exact H2_)|(have H2_:=(Option.bind_some _ _).symm.trans H;with_reducible exact H2_)|with_reducible exact H|(rw [hy142];exact H)|exact H
 have Ny142:=zA hy142;clear hy142
 have H':=zA H
 clear H
 go_enter Try.func49,Try.ntmps49
 go_wp2_with (first|((with_reducible refine gate_dst (N:=6) rfl ?_);refine Kd.S_lit k37 _ 37 ?hg (N:=6) ?hd (xs:=([] : List (S37))) (inner:=[]) (ok:=fun _ => True) (okp:=fun _ => True) ?hr ?hp (fun _ hk => hk) trivial (Below.refl _ _) (Nat.le_refl _) (by simp) ?_;(case hd => rfl);(case hg => rfl);(case hr => first|(go_simp;done)|(go_simp;rfl));(case hp => exact (Reps.none _ _));intro v143 w2 ho3 hb hg_ hnew_;clear hg_ hnew_;(first|rw [← Ny142.out] at ho3|(simp only [Int.reduceToNat] at ho3;rw [← Ny142.out] at ho3));have HO144:=zA (zIb ho3 (zT (zz HB)));replace HB:=zA (zJb (zz HB) hb);clear hb ho3))
 go_loopg [3,4] k (fun kq v3 v4 w' => ∃ (x3_1 : List (S37)) (x4_1 : Int),v4 = .int .i64 x4_1 ∧ Aside0 (spec_l5All.l0 kq l0 x3_1 x4_1 = some r) ∧ Aside0 (kq ≤ k) ∧ Aside0 (Kd.S k37 37 w' w.heap.size (fun _ => True) v3 x3_1) ∧ Aside0 (Below w.heap.size w w'))
 case atStart => exact ⟨(y142),(0),za,H',⟨Nat.le_refl _⟩,⟨zy HO144⟩,⟨zz HB⟩⟩
 case round =>
  clear H';(try clear p2);obtain ⟨x3_1,x4_1,rfl,HA,HK1,HO_3,HB⟩:=hrel
  cases gk with
  | zero => exact absurd HA.out (by simp [spec_l5All.l0])
  | succ k1 =>
   have H:=HA.out;clear HA;simp only [spec_l5All.l0] at H
   by_cases c4 : x4_1 < (l0.length : Int)
   ·
    rw [if_pos c4] at H;have c4b0:=decide_eq_true c4;clear c4
    by_cases c5 : 0 ≤ x4_1
    ·
     rw [if_pos c5] at H;have c5b0:=decide_eq_true c5;clear c5;replace H:=Option.bind_eq_some_iff.mp H;obtain ⟨⟨t146,t147⟩,A60,H⟩:=H;(try dsimp only at H);have A6:=zA A60;clear A60
     by_cases c7 : x3_1.length < 4398046511104
     ·
      rw [if_pos c7] at H;have LMc7:=zA c7;clear c7;obtain ⟨y151,hy151⟩ : ∃ y_ : List (S37),y_ = (x3_1 ++ [(⟨t146,t147⟩ : S37)]):=⟨_,rfl⟩
      replace H : (spec_l5All.l0 k1 l0 y151 (wrap64 (x4_1 + 1))) = some r:=by first|(rw [hy151];with_reducible exact H)|(have H2_:=(Option.bind_some _ _).symm.trans H;rw [hy151];with_reducible exact H2_)|(have H2_:=(Option.bind_some _ _).symm.trans H;with_reducible exact H2_)|with_reducible exact H|(rw [hy151];exact H)|exact H
      have Ny151:=zA hy151;clear hy151
      have H':=zA H
      clear H;have p145 : 0 ≤ (x4_1 : Int):=zXb ze;have q145 : x4_1 < (l0.length : Int):=zXb ze;obtain ⟨ad145,A145_1,c145_1,e145,hx145_0,hx145_1,hl145_1,hi145_1⟩:=at_T37 HR0.out x4_1 p145 q145
      cases e145
      replace hx145_0:=(HB.out.cell (World.block_lt_of_cell? w _ hx145_0)).trans hx145_0;replace hx145_1:=(HB.out.cell (World.block_lt_of_cell? w _ hx145_1)).trans hx145_1;have HR145_1:=zA hi145_1;have HC145_1:=zA hl145_1;clear hi145_1 hl145_1;replace p145:=eq_true p145;replace q145:=eq_true q145
      go_wp2_with (first|((with_reducible refine gate_callee (f:=64) rfl ?_);refine goesL_ (some 17) rfl rfl Try.func64 (by kernel_rfl) rfl #[.agg #[.int .i64 ((rd_T37 l0 x4_1).f0),.slice A145_1 ((rd_T37 l0 x4_1).f1).length c145_1]] rfl (by (try simp only [zCb,zMb,zNb]);first|done|rfl|(simp only [zLb,zDb];rfl)) ?_;(with_reducible refine (spec_l5Copy.calls ((rd_T37 l0 x4_1).f0) _ _ ((rd_T37 l0 x4_1).f1) t146 t147 _ ?side1 ?side2 A6.out).mono ?_);(case side1 => repeat (first|exact (zKb HR145_1.out HB.out)|(with_reducible refine zBb ?_ _)|(with_reducible refine zAb ?_ _)|(with_reducible refine zX ?_)));(case side2 => exact HC145_1.out);rintro e w8 ⟨v148,rfl,ho0,hb⟩;refine ⟨_,rfl,?_⟩;replace HO_3:=zA (zSb (zy HO_3) (zW ho0) hb);have HO149:=zA (zHb ho0 (zT (zz HB)));replace HB:=zA (zJb (zz HB) hb);(try clear hb);(try clear hb2);(try clear hk);(try clear hi);(try clear ho0))|((with_reducible refine gate_dst (N:=5) rfl ?_);refine box_event ?hg (N:=5) ?hd (cs:=#[.int .i64 0,.slice none 0 0]) (t:=37) ?hr ?_;(case hd => rfl);(case hg => rfl);(case hr => first|(go_simp;done)|(go_simp;rfl));intro gb150 hg w9 hbox hb;replace HO_3:=zA (zY (Kd.S_elderB (zy HO_3) gb150 (Nat.le_of_eq hg.symm)) hb);replace HO149:=zA (zZ (zq HO149) hb);have BK150:=zA (hbox);have GW150:=zA ((by rw [hg];exact (zT (zz HB)) : w.heap.size ≤ gb150));have GE150:=zA ((by rw [hg];exact (zT (zz HB)) : w.heap.size ≤ gb150));replace HB:=zA (zJb (zz HB) hb);clear hb hbox hg;have hcz10_0:=zc (.int .i64 0) BK150 0 rfl;have hcz10_1:=zc (.slice none 0 0) BK150 1 rfl;have hfz10_0:=blk_frozen BK150.out 0;have hfz10_1:=blk_frozen BK150.out 1;obtain ⟨Ao11,co11,eo11⟩:=Kd.R_slice HO149.out;subst eo11)|((with_reducible refine gate_store (t:=37) (p:=5) rfl ?_);refine store_event (t:=37) (p:=5) (v:=?vo_w12) (w1:=((w9.setCell ⟨gb150,0,none⟩ (.int .i64 t146)).setCell ⟨gb150,1,none⟩ (.slice Ao11 t147.length co11))) ?hg ?ho ?hn ?hr ?_;(case ho => rfl);(case hg => rfl);(case hn => rfl);(case hr => first|(go_simp;done)|(go_simp;rfl));intro w12 hw;replace HO_3 : Aside0 (Kd.S k37 37 w12 w.heap.size (fun k_ => some k_ ≠ (.slice Ao11 t147.length co11 : Value).ownBlock ∧ k_ ≠ gb150) u3 x3_1):=⟨(by rw [hw];exact (by (with_reducible repeat (first|apply zM|apply zL|apply zN));exact zS (zVb (p:=⟨gb150,1,none⟩) (zVb (p:=⟨gb150,0,none⟩) (zS HO_3.out (fun k_ hk => (⟨hk,hk.2⟩ : _ ∧ k_ ≠ gb150))) (fun _ hk => hk.2) (.int .i64 t146)) (fun _ hk => hk.2) (.slice Ao11 t147.length co11)) (fun _ hk => ⟨hk.1.1.2,hk.1.2⟩)))⟩;replace HO149 : Aside0 (Kd.R (Kd.int .i64) 3 w12 w.heap.size (fun _ => True) (.slice Ao11 t147.length co11) t147):=⟨(by rw [hw];exact (by (with_reducible repeat (first|apply zE|apply zD|apply zH));exact zGb (zR (p:=⟨gb150,1,none⟩) (zR (p:=⟨gb150,0,none⟩) (Kd.R_types HO149.out BK150.out (by decide)) (fun _ hk => hk.2) (.int .i64 t146)) (fun _ hk => hk.2) (.slice Ao11 t147.length co11)) (fun _ hk => trivial)))⟩;replace BK150 : Aside0 (w12.heap[gb150]? = some (.cells #[.int .i64 t146,.slice Ao11 t147.length co11] 37 (0,0))):=⟨(by rw [hw];exact (by (with_reducible repeat (first|refine zF ?_ _|refine zI ?_|refine zG ?_ _));refine blk_put (cs:=#[.int .i64 t146,.slice none 0 0]) ?_ 1 _ rfl;(with_reducible repeat (first|refine zF ?_ _|refine zI ?_|refine zG ?_ _));refine blk_put (cs:=#[.int .i64 0,.slice none 0 0]) ?_ 0 _ rfl;(with_reducible repeat (first|refine zF ?_ _|refine zI ?_|refine zG ?_ _));exact BK150.out))⟩;replace HB : Aside0 (Below w.heap.size w w12):=⟨(by rw [hw];exact (zz HB))⟩;clear hw;have hcz13_0:=zc (.int .i64 t146) BK150 0 rfl;have hcz13_1:=zc (.slice Ao11 t147.length co11) BK150 1 rfl;have hfz13_0:=blk_frozen BK150.out 0;have hfz13_1:=blk_frozen BK150.out 1)|((with_reducible refine gate_builtin (b:=.append) (xs:=#[.tmp 18,.tmp 20]) rfl ?_);at_builtin;refine Kd.S_append k37 (w0:=w) w.heap.size rfl (.tmp 18) (.tmp 20) 31 37 (.agg #[(.int .i64 0),(.slice none 0 0)]) 32 rfl Try.underlying31 info37 rfl (by decide) (by omega) u3 x3_1 (⟨t146,t147⟩ : S37) [.int .i64 t146,.slice Ao11 t147.length co11] (fun k_ => k_ ≠ gb150) (fun k_ => some k_ = (.slice Ao11 t147.length co11 : Value).ownBlock) rfl rfl ?aP (fun k_ hk_ => ((zGb (ok':=fun k_ => ((fun k_ => k_ ≠ gb150)) k_ ∧ some k_ ≠ (u3 : Value).ownBlock) (Kd.R_types (Kd.R_apart' (HO149.out) (Kd.S_typed HO_3.out) (by decide)) BK150.out (by decide)) (fun k_ hk => ⟨hk.2,hk.1.2⟩))).1 k_ hk_.symm) ?aF ?aO ?aB ?aS ?aL ?_;(case aP => exact k37_mkM _ _ _ (⟨t146,t147⟩ : S37) (zGb (Kd.R_tight rfl (zGb (ok':=fun k_ => ((fun k_ => k_ ≠ gb150)) k_ ∧ some k_ ≠ (u3 : Value).ownBlock) (Kd.R_types (Kd.R_apart' (HO149.out) (Kd.S_typed HO_3.out) (by decide)) BK150.out (by decide)) (fun k_ hk => ⟨hk.2,hk.1.2⟩))) (fun _ h_ => h_)));(case aB => exact (zz HB));(case aF => exact (fun k_ hk => Kd.freshB (g:=gb150) (o:=.cells #[.int .i64 t146,.slice Ao11 t147.length co11] 37 (0,0)) (zx BK150) k_ hk));(case aO => exact (by (with_reducible repeat (first|apply zM|apply zL|apply zN));exact zS HO_3.out (fun k_ hk => ⟨hk.2,fun e_ => hk.1 e_⟩)));(case aS => exact (zT (zz HB)));(case aL => have:=LMc7.out;omega);intro v152 w14 ho hb hg hat;rw [← Ny151.out] at ho;replace BK150:=zA (blk_grown (g:=gb150) (o:=.cells #[.int .i64 t146,.slice Ao11 t147.length co11] 37 (0,0)) (zx BK150) hg (Kd.S_away HO_3.out (fun _ hk => hk.2)));replace HB:=zA (hb);have HO153:=zA (ho);clear HO_3 HO149;clear ho hb hg hat))
      go_roundg k1
      case measure => have:=HK1.out;omega
      case rel => exact ⟨(y151),(wrap64 (x4_1 + 1)),za,H',⟨by have:=HK1.out;omega⟩,⟨by (with_reducible repeat (first|apply zM|apply zL|apply zN));exact zS HO153.out (fun _ hk => trivial)⟩,⟨zz HB⟩⟩
     ·
      rw [if_neg c7] at H
      exact absurd H (by simp)
    ·
     rw [if_neg c5] at H
     exact absurd H (by simp)
   ·
    rw [if_neg c4] at H;have c4b0:=decide_eq_false c4;clear c4
    obtain rfl:=Option.some.inj H
    go_wp2
    go_ret
    exact ⟨_,by first|rfl|(simp [errW_none,errW_some] <;> rfl)|(simp [*,errW_none,errW_some] <;> rfl),zy HO_3,zz HB⟩

end Go.Proofs.Ytfelabhakgcifaa.QFnFacts
