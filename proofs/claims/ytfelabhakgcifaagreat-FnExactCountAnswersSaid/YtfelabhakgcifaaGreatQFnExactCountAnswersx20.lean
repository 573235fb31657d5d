/- Walks through the Go functions that FnExactCountAnswers reaches: each call returns what the Lean function beside it says, within the bounds that the theorem names. -/
import Derived.Test.YtfelabhakgcifaaGreatQFnExactCountAnswersx0
import Derived.Test.YtfelabhakgcifaaGreatQFnExactCountAnswersx19
namespace Go.Proofs.YtfelabhakgcifaaGreat.QFnExactCountAnswers
open Go.RowKit Go.Proofs.YtfelabhakgcifaaGreatW.PrintWords Go.Proofs.YtfelabhakgcifaaGreatW.PrintLast Go.Proofs.YtfelabhakgcifaaGreatW.PrintMore
attribute [local go_sem] max2_int min2_int max_two min_two max_three min_three max_four min_four   -- for this text's walks alone
set_option linter.unusedVariables false
set_option linter.unusedSimpArgs false


/-! ### laws_heldCountedS: function 26 -/
def laws_heldCountedS.l0 : Nat → List (S75) → Int → Int → Option (Int)
 | 0, _, _, _ => none
 | k + 1, x0, x1, x5 => if x5 < (x0.length : Int) then (if 0 ≤ x5 then ((laws_heldIntS.f k ((rd_T75 x0 x5).f0) x1).bind fun t430 => (if t430 < 0 then (some (-1)) else (if ((rd_T75 x0 x5).f1) = t430 then (laws_heldCountedS.l0 k x0 (wrap64 (t430 + 1)) (wrap64 (x5 + 1))) else (some (-1))))) else (none)) else (some x1)
def laws_heldCountedS.f (k : Nat) (l0 : List (S75)) (a1 : Int) : Option (Int) := laws_heldCountedS.l0 k l0 a1 0
set_option maxHeartbeats 8000000 in
set_option maxRecDepth 100000 in
theorem laws_heldCountedS.calls (k : Nat) (A0 : Option Addr) (c0 : Nat) (l0 : List (S75)) (a1 : Int) (r : Int) (w : World) (hr0 : Kd.C k75 w A0 l0.length l0) (hc0 : l0.length ≤ c0) (h : laws_heldCountedS.f k l0 a1 = some r) :
  Calls Tryz.prog 26 #[.slice A0 l0.length c0, .int .i64 a1] w fun e w' => e = .returned (.int .i64 r) ∧ Drawn0 w w' := by
 have HR0:=zA hr0;have HC0:=zA hc0;clear hr0 hc0
 have H : (laws_heldCountedS.l0 k l0 a1 0) = some r:=h
 clear h
 have H':=zA H
 clear H
 go_enter Tryz.func26,Tryz.ntmps26
 go_wp2
 go_loopg [1,5] k (fun kq v1 v5 w' => ∃ (x1_1 : Int) (x5_1 : Int),v1 = .int .i64 x1_1 ∧ v5 = .int .i64 x5_1 ∧ Aside0 (laws_heldCountedS.l0 kq l0 x1_1 x5_1 = some r) ∧ Aside0 (kq ≤ k) ∧ Drawn0 w w')
 case atStart => exact ⟨(a1),(0),za,za,H',⟨Nat.le_refl _⟩,by repeat (first|exact Drawn0.refl _|apply Drawn0.step)⟩
 case round =>
  clear H';(try clear c2);(try clear p2);obtain ⟨x1_1,x5_1,rfl,rfl,HA,HK1,⟨m1,rfl⟩⟩:=hrel
  cases gk with
  | zero => exact absurd HA.out (by simp [laws_heldCountedS.l0])
  | succ k1 =>
   have H:=HA.out;clear HA;simp only [laws_heldCountedS.l0] at H
   by_cases c3 : x5_1 < (l0.length : Int)
   ·
    rw [if_pos c3] at H;have c3b0:=decide_eq_true c3;clear c3
    by_cases c4 : 0 ≤ x5_1
    ·
     rw [if_pos c4] at H;have c4b0:=decide_eq_true c4;clear c4;replace H:=Option.bind_eq_some_iff.mp H;obtain ⟨t430,A50,H⟩:=H;(try dsimp only at H);have A5:=zA A50;clear A50
     by_cases c6 : t430 < 0
     ·
      rw [if_pos c6] at H;have c6b0:=decide_eq_true c6;clear c6
      obtain rfl:=Option.some.inj H
      have p429 : 0 ≤ (x5_1 : Int):=zXb ze;have q429 : x5_1 < (l0.length : Int):=zXb ze;obtain ⟨ad429,A429_0,c429_0,e429,hx429_0,hx429_1,hl429_0,hi429_0⟩:=at_T75 HR0.out x5_1 p429 q429
      cases e429
      have HR429_0:=zA hi429_0;have HC429_0:=zA hl429_0;clear hi429_0 hl429_0;replace p429:=eq_true p429;replace q429:=eq_true q429
      go_wp2_with (first|((with_reducible refine gate_callee (f:=45) rfl ?_);refine goesL_ (some 18) rfl rfl Tryz.func45 (by kernel_rfl) rfl #[.slice A429_0 ((rd_T75 l0 x5_1).f0).length c429_0,.int .i64 x1_1] rfl (by (try simp only [zCb,zMb,zNb]);first|done|rfl|(simp only [zLb,zDb];rfl)) ?_;(with_reducible refine (laws_heldIntS.calls k1 _ _ ((rd_T75 l0 x5_1).f0) x1_1 t430 _ ?side1 ?side2 A5.out).mono ?_);(case side1 => repeat (first|exact HR429_0.out|(with_reducible refine zBb ?_ _)|(with_reducible refine zAb ?_ _)|(with_reducible refine zX ?_)));(case side2 => exact HC429_0.out);rintro e w' ⟨rfl,⟨nd,rfl⟩⟩;refine ⟨_,rfl,?_⟩))
      go_ret
      exact ⟨by first|rfl|(simp;done)|(simp [*];done),by repeat (first|exact Drawn0.refl _|apply Drawn0.step)⟩
     ·
      rw [if_neg c6] at H;have c6b0:=decide_eq_false c6;clear c6
      by_cases c7 : ((rd_T75 l0 x5_1).f1) = t430
      ·
       rw [if_pos c7] at H;have c7b0:=beq_iff_eq.mpr c7;have c7b1:=bne_eq_false_iff_eq.mpr c7;clear c7
       have H':=zA H
       clear H;have p429 : 0 ≤ (x5_1 : Int):=zXb ze;have q429 : x5_1 < (l0.length : Int):=zXb ze;obtain ⟨ad429,A429_0,c429_0,e429,hx429_0,hx429_1,hl429_0,hi429_0⟩:=at_T75 HR0.out x5_1 p429 q429
       cases e429
       have HR429_0:=zA hi429_0;have HC429_0:=zA hl429_0;clear hi429_0 hl429_0;replace p429:=eq_true p429;replace q429:=eq_true q429
       go_wp2_with (first|((with_reducible refine gate_callee (f:=45) rfl ?_);refine goesL_ (some 18) rfl rfl Tryz.func45 (by kernel_rfl) rfl #[.slice A429_0 ((rd_T75 l0 x5_1).f0).length c429_0,.int .i64 x1_1] rfl (by (try simp only [zCb,zMb,zNb]);first|done|rfl|(simp only [zLb,zDb];rfl)) ?_;(with_reducible refine (laws_heldIntS.calls k1 _ _ ((rd_T75 l0 x5_1).f0) x1_1 t430 _ ?side1 ?side2 A5.out).mono ?_);(case side1 => repeat (first|exact HR429_0.out|(with_reducible refine zBb ?_ _)|(with_reducible refine zAb ?_ _)|(with_reducible refine zX ?_)));(case side2 => exact HC429_0.out);rintro e w' ⟨rfl,⟨nd,rfl⟩⟩;refine ⟨_,rfl,?_⟩;have p431 : 0 ≤ (x5_1 : Int):=zXb ze;have q431 : x5_1 < (l0.length : Int):=zXb ze;obtain ⟨ad431,A431_0,c431_0,e431,hx431_0,hx431_1,hl431_0,hi431_0⟩:=at_T75 HR0.out x5_1 p431 q431;obtain rfl : ad429 = ad431:=(by injection e431);have HR431_0:=zA hi431_0;have HC431_0:=zA hl431_0;clear hi431_0 hl431_0;replace p431:=eq_true p431;replace q431:=eq_true q431;have ea_:=Option.some.inj (hx429_0.symm.trans hx431_0);injection ea_ with ea_ en_ ec_;subst ea_;subst ec_;clear en_))
       go_roundg k1
       case measure => have:=HK1.out;omega
       case rel => exact ⟨(wrap64 (t430 + 1)),(wrap64 (x5_1 + 1)),za,za,H',⟨by have:=HK1.out;omega⟩,by repeat (first|exact Drawn0.refl _|apply Drawn0.step)⟩
      ·
       rw [if_neg c7] at H;have c7b0:=beq_eq_false_iff_ne.mpr c7;have c7b1:=bne_iff_ne.mpr c7
       obtain rfl:=Option.some.inj H
       have p429 : 0 ≤ (x5_1 : Int):=zXb ze;have q429 : x5_1 < (l0.length : Int):=zXb ze;obtain ⟨ad429,A429_0,c429_0,e429,hx429_0,hx429_1,hl429_0,hi429_0⟩:=at_T75 HR0.out x5_1 p429 q429
       cases e429
       have HR429_0:=zA hi429_0;have HC429_0:=zA hl429_0;clear hi429_0 hl429_0;replace p429:=eq_true p429;replace q429:=eq_true q429
       go_wp2_with (first|((with_reducible refine gate_callee (f:=45) rfl ?_);refine goesL_ (some 18) rfl rfl Tryz.func45 (by kernel_rfl) rfl #[.slice A429_0 ((rd_T75 l0 x5_1).f0).length c429_0,.int .i64 x1_1] rfl (by (try simp only [zCb,zMb,zNb]);first|done|rfl|(simp only [zLb,zDb];rfl)) ?_;(with_reducible refine (laws_heldIntS.calls k1 _ _ ((rd_T75 l0 x5_1).f0) x1_1 t430 _ ?side1 ?side2 A5.out).mono ?_);(case side1 => repeat (first|exact HR429_0.out|(with_reducible refine zBb ?_ _)|(with_reducible refine zAb ?_ _)|(with_reducible refine zX ?_)));(case side2 => exact HC429_0.out);rintro e w' ⟨rfl,⟨nd,rfl⟩⟩;refine ⟨_,rfl,?_⟩;have p431 : 0 ≤ (x5_1 : Int):=zXb ze;have q431 : x5_1 < (l0.length : Int):=zXb ze;obtain ⟨ad431,A431_0,c431_0,e431,hx431_0,hx431_1,hl431_0,hi431_0⟩:=at_T75 HR0.out x5_1 p431 q431;obtain rfl : ad429 = ad431:=(by injection e431);have HR431_0:=zA hi431_0;have HC431_0:=zA hl431_0;clear hi431_0 hl431_0;replace p431:=eq_true p431;replace q431:=eq_true q431;have ea_:=Option.some.inj (hx429_0.symm.trans hx431_0);injection ea_ with ea_ en_ ec_;subst ea_;subst ec_;clear en_))
       go_ret
       exact ⟨by first|rfl|(simp;done)|(simp [*];done),by repeat (first|exact Drawn0.refl _|apply Drawn0.step)⟩
    ·
     rw [if_neg c4] at H
     exact absurd H (by simp)
   ·
    rw [if_neg c3] at H;have c3b0:=decide_eq_false c3;clear c3
    obtain rfl:=Option.some.inj H
    go_wp2
    go_ret
    exact ⟨by first|rfl|(simp;done)|(simp [*];done),by repeat (first|exact Drawn0.refl _|apply Drawn0.step)⟩

-- NOT PRINTED: function 4 (laws_FnExactCountAnswers)

end Go.Proofs.YtfelabhakgcifaaGreat.QFnExactCountAnswers
