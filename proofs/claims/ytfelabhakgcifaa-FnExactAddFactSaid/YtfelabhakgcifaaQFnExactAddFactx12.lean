/- Walks through the Go functions that FnExactAddFact reaches: each call returns what the Lean function beside it says, within the bounds that the theorem names. -/
import Derived.Test.YtfelabhakgcifaaQFnExactAddFactx0
import Derived.Test.YtfelabhakgcifaaQFnExactAddFactx11
namespace Go.Proofs.Ytfelabhakgcifaa.QFnExactAddFact
open Go.RowKit Go.Proofs.YtfelabhakgcifaaW.PrintWords Go.Proofs.YtfelabhakgcifaaW.PrintLast Go.Proofs.YtfelabhakgcifaaW.PrintMore
attribute [local go_sem] max2_int min2_int max_two min_two max_three min_three max_four min_four   -- for this text's walks alone
set_option linter.unusedVariables false
set_option linter.unusedSimpArgs false


/-! ### laws_heldFactS: function 21 -/
def laws_heldFactS.l0 : Nat → List (S37) → Int → Int → Option (Int)
 | 0, _, _, _ => none
 | k + 1, x0, x1, x5 => if x5 < (x0.length : Int) then (if 0 ≤ x5 then (if ((rd_T37 x0 x5).f0) = x1 then ((laws_heldIntS.f k ((rd_T37 x0 x5).f1) (wrap64 (x1 + 1))).bind fun t340 => (if t340 < 0 then (some (-1)) else (laws_heldFactS.l0 k x0 t340 (wrap64 (x5 + 1))))) else (some (-1))) else (none)) else (some x1)
def laws_heldFactS.f (k : Nat) (l0 : List (S37)) (a1 : Int) : Option (Int) := laws_heldFactS.l0 k l0 a1 0
theorem laws_heldFactS.mono_l : ∀ k, (∀ y0 y1 y2, LeO (laws_heldFactS.l0 k y0 y1 y2) (laws_heldFactS.l0 (k + 1) y0 y1 y2))
 | 0 => fun _ _ _ r h => by simp [laws_heldFactS.l0] at h
 | k + 1 => by
  have ih0:=laws_heldFactS.mono_l k
  ·
   intro y0 y1 y2
   unfold laws_heldFactS.l0
   repeat' first
   | (with_reducible exact ih0 _ _ _)
   | (with_reducible exact laws_heldIntS.mono _ _ _)
   | (with_reducible exact LeO.refl _)
   | (with_reducible exact LeO.none _)
   | (with_reducible refine LeO.ite ?_ ?_)
   | (with_reducible refine LeO.bind ?_ (fun _ => ?_))
   | exact ih0 _ _ _
   | exact LeO.none _
   | refine LeO.ite ?_ ?_
   | refine LeO.bind ?_ (fun _ => ?_)
theorem laws_heldFactS.mono : ∀ a0 a1 k, LeO (laws_heldFactS.f k a0 a1) (laws_heldFactS.f (k + 1) a0 a1) := by
 intro a0 a1 k
 have ih0:=laws_heldFactS.mono_l k
 unfold laws_heldFactS.f
 repeat' first
   | (with_reducible exact ih0 _ _ _)
   | (with_reducible exact laws_heldIntS.mono _ _ _)
   | (with_reducible exact LeO.refl _)
   | (with_reducible exact LeO.none _)
   | (with_reducible refine LeO.ite ?_ ?_)
   | (with_reducible refine LeO.bind ?_ (fun _ => ?_))
   | exact ih0 _ _ _
   | exact LeO.none _
   | refine LeO.ite ?_ ?_
   | refine LeO.bind ?_ (fun _ => ?_)
set_option maxHeartbeats 8000000 in
set_option maxRecDepth 100000 in
theorem laws_heldFactS.calls (k : Nat) (A0 : Option Addr) (c0 : Nat) (l0 : List (S37)) (a1 : Int) (r : Int) (w : World) (hr0 : Kd.C k37 w A0 l0.length l0) (hc0 : l0.length ≤ c0) (h : laws_heldFactS.f k l0 a1 = some r) :
  Calls Try.prog 21 #[.slice A0 l0.length c0, .int .i64 a1] w fun e w' => e = .returned (.int .i64 r) ∧ Drawn0 w w' := by
 have HR0:=zA hr0;have HC0:=zA hc0;clear hr0 hc0
 have H : (laws_heldFactS.l0 k l0 a1 0) = some r:=h
 clear h
 have H':=zA H
 clear H
 go_enter Try.func21,Try.ntmps21
 go_wp2
 go_loopg [1,5] k (fun kq v1 v5 w' => ∃ (x1_1 : Int) (x5_1 : Int),v1 = .int .i64 x1_1 ∧ v5 = .int .i64 x5_1 ∧ Aside0 (laws_heldFactS.l0 kq l0 x1_1 x5_1 = some r) ∧ Aside0 (kq ≤ k) ∧ Drawn0 w w')
 case atStart => exact ⟨(a1),(0),za,za,H',⟨Nat.le_refl _⟩,by repeat (first|exact Drawn0.refl _|apply Drawn0.step)⟩
 case round =>
  clear H';(try clear c2);(try clear p2);obtain ⟨x1_1,x5_1,rfl,rfl,HA,HK1,⟨m1,rfl⟩⟩:=hrel
  cases gk with
  | zero => exact absurd HA.out (by simp [laws_heldFactS.l0])
  | succ k1 =>
   have H:=HA.out;clear HA;simp only [laws_heldFactS.l0] at H
   by_cases c3 : x5_1 < (l0.length : Int)
   ·
    rw [if_pos c3] at H;have c3b0:=decide_eq_true c3;clear c3
    by_cases c4 : 0 ≤ x5_1
    ·
     rw [if_pos c4] at H;have c4b0:=decide_eq_true c4;clear c4
     by_cases c5 : ((rd_T37 l0 x5_1).f0) = x1_1
     ·
      rw [if_pos c5] at H;have c5b0:=beq_iff_eq.mpr c5;have c5b1:=bne_eq_false_iff_eq.mpr c5;clear c5;replace H:=Option.bind_eq_some_iff.mp H;obtain ⟨t340,A60,H⟩:=H;(try dsimp only at H);have A6:=zA A60;clear A60
      by_cases c7 : t340 < 0
      ·
       rw [if_pos c7] at H;have c7b0:=decide_eq_true c7;clear c7
       obtain rfl:=Option.some.inj H
       have p338 : 0 ≤ (x5_1 : Int):=zXb ze;have q338 : x5_1 < (l0.length : Int):=zXb ze;obtain ⟨ad338,A338_1,c338_1,e338,hx338_0,hx338_1,hl338_1,hi338_1⟩:=at_T37 HR0.out x5_1 p338 q338
       cases e338
       have HR338_1:=zA hi338_1;have HC338_1:=zA hl338_1;clear hi338_1 hl338_1;replace p338:=eq_true p338;replace q338:=eq_true q338;have p339 : 0 ≤ (x5_1 : Int):=zXb ze;have q339 : x5_1 < (l0.length : Int):=zXb ze;obtain ⟨ad339,A339_1,c339_1,e339,hx339_0,hx339_1,hl339_1,hi339_1⟩:=at_T37 HR0.out x5_1 p339 q339
       obtain rfl : ad338 = ad339:=(by injection e339)
       have HR339_1:=zA hi339_1;have HC339_1:=zA hl339_1;clear hi339_1 hl339_1;replace p339:=eq_true p339;replace q339:=eq_true q339;have ea_:=Option.some.inj (hx338_1.symm.trans hx339_1)
       injection ea_ with ea_ en_ ec_
       subst ea_
       subst ec_
       clear en_
       go_wp2_with (first|((with_reducible refine gate_callee (f:=56) rfl ?_);refine goesL_ (some 27) rfl rfl Try.func56 (by kernel_rfl) rfl #[.slice A338_1 ((rd_T37 l0 x5_1).f1).length c338_1,.int .i64 (wrap64 (x1_1 + 1))] rfl (by (try simp only [zCb,zMb,zNb]);first|done|rfl|(simp only [zLb,zDb];rfl)) ?_;(with_reducible refine (laws_heldIntS.calls k1 _ _ ((rd_T37 l0 x5_1).f1) (wrap64 (x1_1 + 1)) t340 _ ?side1 ?side2 A6.out).mono ?_);(case side1 => repeat (first|exact HR339_1.out|(with_reducible refine zBb ?_ _)|(with_reducible refine zAb ?_ _)|(with_reducible refine zX ?_)));(case side2 => exact HC339_1.out);rintro e w' ⟨rfl,⟨nd,rfl⟩⟩;refine ⟨_,rfl,?_⟩))
       go_ret
       exact ⟨by first|rfl|(simp;done)|(simp [*];done),by repeat (first|exact Drawn0.refl _|apply Drawn0.step)⟩
      ·
       rw [if_neg c7] at H;have c7b0:=decide_eq_false c7;clear c7
       have H':=zA H
       clear H;have p338 : 0 ≤ (x5_1 : Int):=zXb ze;have q338 : x5_1 < (l0.length : Int):=zXb ze;obtain ⟨ad338,A338_1,c338_1,e338,hx338_0,hx338_1,hl338_1,hi338_1⟩:=at_T37 HR0.out x5_1 p338 q338
       cases e338
       have HR338_1:=zA hi338_1;have HC338_1:=zA hl338_1;clear hi338_1 hl338_1;replace p338:=eq_true p338;replace q338:=eq_true q338;have p339 : 0 ≤ (x5_1 : Int):=zXb ze;have q339 : x5_1 < (l0.length : Int):=zXb ze;obtain ⟨ad339,A339_1,c339_1,e339,hx339_0,hx339_1,hl339_1,hi339_1⟩:=at_T37 HR0.out x5_1 p339 q339
       obtain rfl : ad338 = ad339:=(by injection e339)
       have HR339_1:=zA hi339_1;have HC339_1:=zA hl339_1;clear hi339_1 hl339_1;replace p339:=eq_true p339;replace q339:=eq_true q339;have ea_:=Option.some.inj (hx338_1.symm.trans hx339_1)
       injection ea_ with ea_ en_ ec_
       subst ea_
       subst ec_
       clear en_
       go_wp2_with (first|((with_reducible refine gate_callee (f:=56) rfl ?_);refine goesL_ (some 27) rfl rfl Try.func56 (by kernel_rfl) rfl #[.slice A338_1 ((rd_T37 l0 x5_1).f1).length c338_1,.int .i64 (wrap64 (x1_1 + 1))] rfl (by (try simp only [zCb,zMb,zNb]);first|done|rfl|(simp only [zLb,zDb];rfl)) ?_;(with_reducible refine (laws_heldIntS.calls k1 _ _ ((rd_T37 l0 x5_1).f1) (wrap64 (x1_1 + 1)) t340 _ ?side1 ?side2 A6.out).mono ?_);(case side1 => repeat (first|exact HR339_1.out|(with_reducible refine zBb ?_ _)|(with_reducible refine zAb ?_ _)|(with_reducible refine zX ?_)));(case side2 => exact HC339_1.out);rintro e w' ⟨rfl,⟨nd,rfl⟩⟩;refine ⟨_,rfl,?_⟩))
       go_roundg k1
       case measure => have:=HK1.out;omega
       case rel => exact ⟨(t340),(wrap64 (x5_1 + 1)),za,za,H',⟨by have:=HK1.out;omega⟩,by repeat (first|exact Drawn0.refl _|apply Drawn0.step)⟩
     ·
      rw [if_neg c5] at H;have c5b0:=beq_eq_false_iff_ne.mpr c5;have c5b1:=bne_iff_ne.mpr c5
      obtain rfl:=Option.some.inj H
      have p338 : 0 ≤ (x5_1 : Int):=zXb ze;have q338 : x5_1 < (l0.length : Int):=zXb ze;obtain ⟨ad338,A338_1,c338_1,e338,hx338_0,hx338_1,hl338_1,hi338_1⟩:=at_T37 HR0.out x5_1 p338 q338
      cases e338
      have HR338_1:=zA hi338_1;have HC338_1:=zA hl338_1;clear hi338_1 hl338_1;replace p338:=eq_true p338;replace q338:=eq_true q338
      go_wp2
      go_ret
      exact ⟨by first|rfl|(simp;done)|(simp [*];done),by repeat (first|exact Drawn0.refl _|apply Drawn0.step)⟩
    ·
     rw [if_neg c4] at H
     exact absurd H (by simp)
   ·
    rw [if_neg c3] at H;have c3b0:=decide_eq_false c3;clear c3
    obtain rfl:=Option.some.inj H
    go_wp2
    go_ret
    exact ⟨by first|rfl|(simp;done)|(simp [*];done),by repeat (first|exact Drawn0.refl _|apply Drawn0.step)⟩

-- NOT PRINTED: function 3 (laws_FnExactAddFact)

end Go.Proofs.Ytfelabhakgcifaa.QFnExactAddFact
