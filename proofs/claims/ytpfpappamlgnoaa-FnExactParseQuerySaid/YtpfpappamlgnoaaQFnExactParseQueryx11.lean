/- Walks through the Go functions that FnExactParseQuery reaches: each call returns what the Lean function beside it says, within the bounds that the theorem names. -/
import Derived.Test.YtpfpappamlgnoaaQFnExactParseQueryx0
import Derived.Test.YtpfpappamlgnoaaQFnExactParseQueryx9
import Derived.Test.YtpfpappamlgnoaaQFnExactParseQueryx10
namespace Go.Proofs.Ytpfpappamlgnoaa.QFnExactParseQuery
open Go.RowKit Go.Proofs.YtpfpappamlgnoaaW.PrintWords Go.Proofs.YtpfpappamlgnoaaW.PrintLast Go.Proofs.YtpfpappamlgnoaaW.PrintMore
attribute [local go_sem] max2_int min2_int max_two min_two max_three min_three max_four min_four   -- for this text's walks alone
set_option linter.unusedVariables false
set_option linter.unusedSimpArgs false


/-! ### impl_ParseInt: function 82 -/
mutual
def impl_ParseInt.j0 : Nat → ByteArray → Int → Bool → Option (Int × Bool)
 | 0, _, _, _ => none
 | k + 1, x0, x4, x14 => if x14 = true then (impl_ParseInt.j1 k x0 1) else (impl_ParseInt.j1 k x0 x4)
def impl_ParseInt.j1 : Nat → ByteArray → Int → Option (Int × Bool)
 | 0, _, _ => none
 | k + 1, x0, x4 => (impl_within.f (wrap64 ((x0.size : Int) - x4)) 1 9).bind fun t313 => (if t313 = true then (impl_ParseInt.l0 k x0 x4 0 x4) else (some (0, false)))
def impl_ParseInt.l0 : Nat → ByteArray → Int → Int → Int → Option (Int × Bool)
 | 0, _, _, _, _ => none
 | k + 1, x0, x4, x5, x6 => if x6 < (x0.size : Int) then (if 0 ≤ x6 then (if (bt x0 x6) < 48 then (some (0, false)) else (if (bt x0 x6) > 57 then (some (0, false)) else (impl_ParseInt.l0 k x0 x4 (wrap64 ((wrap64 (10 * x5)) + (((bt x0 x6) - 48) % 256))) (wrap64 (x6 + 1))))) else (none)) else (if x4 = 1 then ((impl_FormatInt.f k (wrap64 (-x5))).bind fun t314 => (if t314.toList = x0.toList then (some (wrap64 (-x5), true)) else (some (0, false)))) else ((impl_FormatInt.f k x5).bind fun t315 => (if t315.toList = x0.toList then (some (x5, true)) else (some (0, false)))))
end
def impl_ParseInt.f (k : Nat) (a0 : ByteArray) : Option (Int × Bool) := if (a0.size : Int) > 0 then (if 0 < (a0.size : Int) then (impl_ParseInt.j0 k a0 0 ((bt a0 0) == 45)) else (none)) else (impl_ParseInt.j0 k a0 0 false)
theorem impl_ParseInt.mono_l : ∀ k, (∀ y0 y1 y2, LeO (impl_ParseInt.j0 k y0 y1 y2) (impl_ParseInt.j0 (k + 1) y0 y1 y2)) ∧ (∀ y0 y1, LeO (impl_ParseInt.j1 k y0 y1) (impl_ParseInt.j1 (k + 1) y0 y1)) ∧ (∀ y0 y1 y2 y3, LeO (impl_ParseInt.l0 k y0 y1 y2 y3) (impl_ParseInt.l0 (k + 1) y0 y1 y2 y3))
 | 0 => ⟨fun _ _ _ r h => by simp [impl_ParseInt.j0] at h, fun _ _ r h => by simp [impl_ParseInt.j1] at h, fun _ _ _ _ r h => by simp [impl_ParseInt.l0] at h⟩
 | k + 1 => by
  obtain ⟨ih0,ih1,ih2⟩:=impl_ParseInt.mono_l k
  refine ⟨?_,?_,?_⟩
  (intros;unfold impl_ParseInt.j0;rotate_left)
  (intros;unfold impl_ParseInt.j1;rotate_left)
  (intros;unfold impl_ParseInt.l0;rotate_left)
  all_goals repeat' first
  | (with_reducible exact ih0 _ _ _)
  | (with_reducible exact ih1 _ _)
  | (with_reducible exact ih2 _ _ _ _)
  | (with_reducible exact impl_FormatInt.mono _ _)
  | (with_reducible exact LeO.refl _)
  | (with_reducible exact LeO.none _)
  | (with_reducible refine LeO.ite ?_ ?_)
  | (with_reducible refine LeO.bind ?_ (fun _ => ?_))
  | exact ih0 _ _ _
  | exact ih1 _ _
  | exact ih2 _ _ _ _
  | exact LeO.none _
  | refine LeO.ite ?_ ?_
  | refine LeO.bind ?_ (fun _ => ?_)
theorem impl_ParseInt.mono : ∀ a0 k, LeO (impl_ParseInt.f k a0) (impl_ParseInt.f (k + 1) a0) := by
 intro a0 k
 obtain ⟨ih0,ih1,ih2⟩:=impl_ParseInt.mono_l k
 unfold impl_ParseInt.f
 repeat' first
   | (with_reducible exact ih0 _ _ _)
   | (with_reducible exact ih1 _ _)
   | (with_reducible exact ih2 _ _ _ _)
   | (with_reducible exact impl_FormatInt.mono _ _)
   | (with_reducible exact LeO.refl _)
   | (with_reducible exact LeO.none _)
   | (with_reducible refine LeO.ite ?_ ?_)
   | (with_reducible refine LeO.bind ?_ (fun _ => ?_))
   | exact ih0 _ _ _
   | exact ih1 _ _
   | exact ih2 _ _ _ _
   | exact LeO.none _
   | refine LeO.ite ?_ ?_
   | refine LeO.bind ?_ (fun _ => ?_)
set_option maxHeartbeats 8000000 in
set_option maxRecDepth 100000 in
theorem impl_ParseInt.calls (k : Nat) (a0 : ByteArray) (r1 : Int) (r2 : Bool) (w : World) (h : impl_ParseInt.f k a0 = some (r1, r2)) :
  Calls Try.prog 82 #[.string a0] w fun e w' => e = .returned (.tuple #[.int .i64 r1, .bool r2]) ∧ Below w.heap.size w w' := by
 have HB:=zA (Below.refl w.heap.size w)
 have H : (if (a0.size : Int) > 0 then (if 0 < (a0.size : Int) then (impl_ParseInt.j0 k a0 0 ((bt a0 0) == 45)) else (none)) else (impl_ParseInt.j0 k a0 0 false)) = some (r1,r2):=h
 clear h;have HC2:=zA H;clear H
 go_enter Try.func82,Try.ntmps82
 go_upto_region 2 with (fail)
 go_cut [14] (fun v14 wc => ∃ (kq : Nat) (x14_1 : Bool),v14 = .bool x14_1 ∧ Aside0 (impl_ParseInt.j0 kq a0 0 x14_1 = some (r1,r2)) ∧ Aside0 (kq ≤ k) ∧ Aside0 (Below w.heap.size w wc))
 case first =>
  have H:=HC2.out;clear HC2
  by_cases c3 : (a0.size : Int) > 0
  ·
   rw [if_pos c3] at H
   have c3b0 : decide (0 < (a0.size : Int)) = true:=decide_eq_true c3
   have c3b1 : decide (0 < a0.size) = true:=decide_eq_true (by omega)
   clear c3
   (first|rw [c3b0]|(simp only [i64_w,i32_w];rw [c3b0])|skip)
   by_cases c4 : 0 < (a0.size : Int)
   ·
    rw [if_pos c4] at H;have c4b0:=decide_eq_true c4
    have c4b1 : decide (0 < a0.size) = true:=decide_eq_true (by omega)
    clear c4
    have H':=zA H
    clear H;have p5 : 0 ≤ (0 : Int):=(by omega);have q5 : 0 < a0.size:=(by have : (0 : Int) < (a0.size : Int):=zXb ze;omega)
    have hx5 : ∀ h : 0 < a0.size,((a0[0]'h).toNat : Int) = bt a0 0:=bt_at a0 0
    clear p5
    have qi5 : (0 < (a0.size : Int)) = True:=eq_true (zXb ze)
    replace q5:=eq_true q5
    go_wp2
    go_meet
    case rel => exact ⟨_,(((bt a0 0) == 45)),za,H',⟨by first|omega|exact Nat.le_refl _⟩,⟨zz HB⟩⟩
   ·
    rw [if_neg c4] at H
    exact absurd H (by simp)
  ·
   rw [if_neg c3] at H
   have c3b0 : decide (0 < (a0.size : Int)) = false:=decide_eq_false c3
   have c3b1 : decide (0 < a0.size) = false:=decide_eq_false (by omega)
   clear c3
   (first|rw [c3b0]|(simp only [i64_w,i32_w];rw [c3b0])|skip)
   have H':=zA H
   clear H
   go_wp2
   go_meet
   case rel => exact ⟨_,(false),za,H',⟨by first|omega|exact Nat.le_refl _⟩,⟨zz HB⟩⟩
 case rest =>
  clear HC2;(try clear p2);(try clear c3);(try clear c3b0);(try clear c3b1);(try clear c4);(try clear c4b0);(try clear c4b1);(try clear p5);(try clear q5);(try clear hx5);(try clear qi5);(try clear p5);(try clear q5);obtain ⟨kq,x14_1,rfl,HA,HJ1,HB⟩:=hcut
  cases kq with
  | zero => exact absurd HA.out (by simp [impl_ParseInt.j0])
  | succ kj1 =>
   have H:=HA.out;clear HA;simp only [impl_ParseInt.j0] at H;have HC6:=zA H;clear H
   go_upto_if 14 with (fail)
   go_cut [4] (fun v4 wc => ∃ (kq : Nat) (x4_5 : Int),v4 = .int .i64 x4_5 ∧ Aside0 (impl_ParseInt.j1 kq a0 x4_5 = some (r1,r2)) ∧ Aside0 (kq ≤ kj1) ∧ Aside0 (Below w.heap.size w wc))
   case first =>
    have H:=HC6.out;clear HC6
    by_cases c7 : x14_1 = true
    ·
     subst c7
     rw [if_pos rfl] at H
     have H':=zA H
     clear H
     go_wp2
     go_meet
     case rel => exact ⟨_,(1),za,H',⟨by have:=HJ1.out;first|omega|exact Nat.le_refl _⟩,⟨zz HB⟩⟩
    ·
     replace c7:=Bool.eq_false_iff.mpr c7
     subst c7
     have H1 : (impl_ParseInt.j1 kj1 a0 0) = some (r1,r2):=by rw [if_neg (show ¬ (false = true) by decide)] at H;exact H
     clear H;have H:=H1;clear H1
     have H':=zA H
     clear H
     go_wp2
     go_meet
     case rel => exact ⟨_,(0),za,H',⟨by have:=HJ1.out;first|omega|exact Nat.le_refl _⟩,⟨zz HB⟩⟩
   case rest =>
    clear HC6;(try clear p2);(try clear c3);(try clear c3b0);(try clear c3b1);(try clear c4);(try clear c4b0);(try clear c4b1);(try clear p5);(try clear q5);(try clear hx5);(try clear qi5);(try clear c7);(try clear p2);(try clear p5);(try clear q5);obtain ⟨kq,x4_5,rfl,HA,HJ5,HB⟩:=hcut
    cases kq with
    | zero => exact absurd HA.out (by simp [impl_ParseInt.j1])
    | succ kj5 =>
     have H:=HA.out;clear HA;simp only [impl_ParseInt.j1] at H;replace H:=Option.bind_eq_some_iff.mp H;obtain ⟨t313,A80,H⟩:=H;(try dsimp only at H);have A8:=zA A80;clear A80
     by_cases c9 : t313 = true
     ·
      subst c9
      rw [if_pos rfl] at H
      have H':=zA H
      clear H
      go_wp2_with (first|((with_reducible refine gate_callee (f:=88) rfl ?_);refine goesL_ (some 19) rfl rfl Try.func88 (by kernel_rfl) rfl #[.int .i64 (wrap64 ((a0.size : Int) - x4_5)),.int .i64 1,.int .i64 9] rfl (by (try simp only [zCb,zMb,zNb]);first|done|rfl|(simp only [zLb,zDb];rfl)) ?_;(with_reducible refine (impl_within.calls (wrap64 ((a0.size : Int) - x4_5)) 1 9 true _ A8.out).mono ?_);rintro e w' ⟨rfl,⟨nd,rfl⟩⟩;refine ⟨_,rfl,?_⟩))
      go_loopg [5,6] kj5 (fun kq v5 v6 w' => ∃ (x5_3 : Int) (x6_3 : Int),v5 = .int .i64 x5_3 ∧ v6 = .int .i64 x6_3 ∧ Aside0 (impl_ParseInt.l0 kq a0 x4_5 x5_3 x6_3 = some (r1,r2)) ∧ Aside0 (kq ≤ kj5) ∧ Aside0 (Below w.heap.size w w'))
      case atStart => exact ⟨(0),(x4_5),za,za,H',⟨Nat.le_refl _⟩,⟨zz HB⟩⟩
      case round =>
       clear H';(try clear p2);(try clear c3);(try clear c3b0);(try clear c3b1);(try clear c4);(try clear c4b0);(try clear c4b1);(try clear p5);(try clear q5);(try clear hx5);(try clear qi5);(try clear p6);(try clear c7);(try clear c8);(try clear c9);(try clear p2);(try clear p5);(try clear q5);obtain ⟨x5_3,x6_3,rfl,rfl,HA,HK3,HB⟩:=hrel
       cases gk with
       | zero => exact absurd HA.out (by simp [impl_ParseInt.l0])
       | succ k3 =>
        have H:=HA.out;clear HA;simp only [impl_ParseInt.l0] at H
        by_cases c10 : x6_3 < (a0.size : Int)
        ·
         rw [if_pos c10] at H;have c10b0:=decide_eq_true c10;clear c10
         by_cases c11 : 0 ≤ x6_3
         ·
          rw [if_pos c11] at H;have c11b0:=decide_eq_true c11;clear c11
          by_cases c13 : (bt a0 x6_3) < 48
          ·
           rw [if_pos c13] at H;have c13b0:=decide_eq_true c13;clear c13;simp only [Option.some.injEq,Prod.mk.injEq] at H;obtain ⟨rfl,rfl⟩:=H;have p12 : 0 ≤ (x6_3 : Int):=zXb ze;have q12 : x6_3 < (a0.size : Int):=zXb ze;have hx12:=bt_at a0 x6_3;replace p12:=eq_true p12;replace q12:=eq_true q12
           go_wp2
           go_ret2
           exact ⟨by first|rfl|(simp [errW_none,errW_some] <;> rfl)|(simp [*,errW_none,errW_some] <;> rfl),zz HB⟩
          ·
           rw [if_neg c13] at H;have c13b0:=decide_eq_false c13;clear c13
           by_cases c15 : (bt a0 x6_3) > 57
           ·
            rw [if_pos c15] at H
            have c15b0 : decide (57 < (bt a0 x6_3)) = true:=decide_eq_true c15
            clear c15;simp only [Option.some.injEq,Prod.mk.injEq] at H;obtain ⟨rfl,rfl⟩:=H;have p12 : 0 ≤ (x6_3 : Int):=zXb ze;have q12 : x6_3 < (a0.size : Int):=zXb ze;have hx12:=bt_at a0 x6_3;replace p12:=eq_true p12;replace q12:=eq_true q12;have p14 : 0 ≤ (x6_3 : Int):=zXb ze;have q14 : x6_3 < (a0.size : Int):=zXb ze;have hx14:=bt_at a0 x6_3;replace p14:=eq_true p14;replace q14:=eq_true q14
            go_wp2
            go_ret2
            exact ⟨by first|rfl|(simp [errW_none,errW_some] <;> rfl)|(simp [*,errW_none,errW_some] <;> rfl),zz HB⟩
           ·
            rw [if_neg c15] at H
            have c15b0 : decide (57 < (bt a0 x6_3)) = false:=decide_eq_false c15
            clear c15
            have H':=zA H
            clear H;have p12 : 0 ≤ (x6_3 : Int):=zXb ze;have q12 : x6_3 < (a0.size : Int):=zXb ze;have hx12:=bt_at a0 x6_3;replace p12:=eq_true p12;replace q12:=eq_true q12;have p14 : 0 ≤ (x6_3 : Int):=zXb ze;have q14 : x6_3 < (a0.size : Int):=zXb ze;have hx14:=bt_at a0 x6_3;replace p14:=eq_true p14;replace q14:=eq_true q14;have p16 : 0 ≤ (x6_3 : Int):=zXb ze;have q16 : x6_3 < (a0.size : Int):=zXb ze;have hx16:=bt_at a0 x6_3;replace p16:=eq_true p16;replace q16:=eq_true q16
            go_wp2
            go_roundg k3
            case measure => have:=HJ1.out;have:=HJ5.out;have:=HK3.out;omega
            case rel => exact ⟨(wrap64 ((wrap64 (10 * x5_3)) + (((bt a0 x6_3) - 48) % 256))),(wrap64 (x6_3 + 1)),za,za,H',⟨by have:=HJ1.out;have:=HJ5.out;have:=HK3.out;omega⟩,⟨zz HB⟩⟩
         ·
          rw [if_neg c11] at H
          exact absurd H (by simp)
        ·
         rw [if_neg c10] at H;have c10b0:=decide_eq_false c10;clear c10
         by_cases c17 : x4_5 = 1
         ·
          rw [if_pos c17] at H;have c17b0:=beq_iff_eq.mpr c17;have c17b1:=bne_eq_false_iff_eq.mpr c17;clear c17;replace H:=Option.bind_eq_some_iff.mp H;obtain ⟨t314,A180,H⟩:=H;(try dsimp only at H);have A18:=zA A180;clear A180
          by_cases c19 : t314.toList = a0.toList
          ·
           rw [if_pos c19] at H;have c19b0:=beq_iff_eq.mpr c19;have c19b1:=bne_eq_false_iff_eq.mpr c19;clear c19;simp only [Option.some.injEq,Prod.mk.injEq] at H;obtain ⟨rfl,rfl⟩:=H
           go_wp2_with (first|((with_reducible refine gate_callee (f:=90) rfl ?_);refine goesL_ (some 51) rfl rfl Try.func90 (by kernel_rfl) rfl #[.int .i64 (wrap64 (-x5_3))] rfl (by (try simp only [zCb,zMb,zNb]);first|done|rfl|(simp only [zLb,zDb];rfl)) ?_;(with_reducible refine (impl_FormatInt.calls k3 (wrap64 (-x5_3)) t314 _ A18.out).mono ?_);rintro e w20 ⟨rfl,hb⟩;refine ⟨_,rfl,?_⟩;replace HB:=zA (zJb (zz HB) hb);(try clear hb);(try clear hb2);(try clear hk);(try clear hi)))
           go_ret2
           exact ⟨by first|rfl|(simp [errW_none,errW_some] <;> rfl)|(simp [*,errW_none,errW_some] <;> rfl),zz HB⟩
          ·
           rw [if_neg c19] at H;have c19b0:=beq_eq_false_iff_ne.mpr c19;have c19b1:=bne_iff_ne.mpr c19;simp only [Option.some.injEq,Prod.mk.injEq] at H;obtain ⟨rfl,rfl⟩:=H
           go_wp2_with (first|((with_reducible refine gate_callee (f:=90) rfl ?_);refine goesL_ (some 51) rfl rfl Try.func90 (by kernel_rfl) rfl #[.int .i64 (wrap64 (-x5_3))] rfl (by (try simp only [zCb,zMb,zNb]);first|done|rfl|(simp only [zLb,zDb];rfl)) ?_;(with_reducible refine (impl_FormatInt.calls k3 (wrap64 (-x5_3)) t314 _ A18.out).mono ?_);rintro e w21 ⟨rfl,hb⟩;refine ⟨_,rfl,?_⟩;replace HB:=zA (zJb (zz HB) hb);(try clear hb);(try clear hb2);(try clear hk);(try clear hi)))
           go_ret2
           exact ⟨by first|rfl|(simp [errW_none,errW_some] <;> rfl)|(simp [*,errW_none,errW_some] <;> rfl),zz HB⟩
         ·
          rw [if_neg c17] at H;have c17b0:=beq_eq_false_iff_ne.mpr c17;have c17b1:=bne_iff_ne.mpr c17;replace H:=Option.bind_eq_some_iff.mp H;obtain ⟨t315,A220,H⟩:=H;(try dsimp only at H);have A22:=zA A220;clear A220
          by_cases c23 : t315.toList = a0.toList
          ·
           rw [if_pos c23] at H;have c23b0:=beq_iff_eq.mpr c23;have c23b1:=bne_eq_false_iff_eq.mpr c23;clear c23;simp only [Option.some.injEq,Prod.mk.injEq] at H;obtain ⟨rfl,rfl⟩:=H
           go_wp2_with (first|((with_reducible refine gate_callee (f:=90) rfl ?_);refine goesL_ (some 51) rfl rfl Try.func90 (by kernel_rfl) rfl #[.int .i64 x5_3] rfl (by (try simp only [zCb,zMb,zNb]);first|done|rfl|(simp only [zLb,zDb];rfl)) ?_;(with_reducible refine (impl_FormatInt.calls k3 x5_3 t315 _ A22.out).mono ?_);rintro e w24 ⟨rfl,hb⟩;refine ⟨_,rfl,?_⟩;replace HB:=zA (zJb (zz HB) hb);(try clear hb);(try clear hb2);(try clear hk);(try clear hi)))
           go_ret2
           exact ⟨by first|rfl|(simp [errW_none,errW_some] <;> rfl)|(simp [*,errW_none,errW_some] <;> rfl),zz HB⟩
          ·
           rw [if_neg c23] at H;have c23b0:=beq_eq_false_iff_ne.mpr c23;have c23b1:=bne_iff_ne.mpr c23;simp only [Option.some.injEq,Prod.mk.injEq] at H;obtain ⟨rfl,rfl⟩:=H
           go_wp2_with (first|((with_reducible refine gate_callee (f:=90) rfl ?_);refine goesL_ (some 51) rfl rfl Try.func90 (by kernel_rfl) rfl #[.int .i64 x5_3] rfl (by (try simp only [zCb,zMb,zNb]);first|done|rfl|(simp only [zLb,zDb];rfl)) ?_;(with_reducible refine (impl_FormatInt.calls k3 x5_3 t315 _ A22.out).mono ?_);rintro e w25 ⟨rfl,hb⟩;refine ⟨_,rfl,?_⟩;replace HB:=zA (zJb (zz HB) hb);(try clear hb);(try clear hb2);(try clear hk);(try clear hi)))
           go_ret2
           exact ⟨by first|rfl|(simp [errW_none,errW_some] <;> rfl)|(simp [*,errW_none,errW_some] <;> rfl),zz HB⟩
     ·
      replace c9:=Bool.eq_false_iff.mpr c9
      subst c9
      have H1 : (some (0,false)) = some (r1,r2):=by rw [if_neg (show ¬ (false = true) by decide)] at H;exact H
      clear H;have H:=H1;clear H1;simp only [Option.some.injEq,Prod.mk.injEq] at H;obtain ⟨rfl,rfl⟩:=H
      go_wp2_with (first|((with_reducible refine gate_callee (f:=88) rfl ?_);refine goesL_ (some 19) rfl rfl Try.func88 (by kernel_rfl) rfl #[.int .i64 (wrap64 ((a0.size : Int) - x4_5)),.int .i64 1,.int .i64 9] rfl (by (try simp only [zCb,zMb,zNb]);first|done|rfl|(simp only [zLb,zDb];rfl)) ?_;(with_reducible refine (impl_within.calls (wrap64 ((a0.size : Int) - x4_5)) 1 9 false _ A8.out).mono ?_);rintro e w' ⟨rfl,⟨nd,rfl⟩⟩;refine ⟨_,rfl,?_⟩))
      go_ret2
      exact ⟨by first|rfl|(simp [errW_none,errW_some] <;> rfl)|(simp [*,errW_none,errW_some] <;> rfl),zz HB⟩

/-! ### impl_MakeConst: function 83 -/
def impl_MakeConst.f (a0 : Int) : Option (Int) := (impl_within.f a0 0 79).bind fun t316 => (if t316 = true then (some (wrap64 ((-1) - a0))) else (some 0))
set_option maxHeartbeats 8000000 in
set_option maxRecDepth 100000 in
theorem impl_MakeConst.calls (a0 : Int) (r : Int) (w : World) (h : impl_MakeConst.f a0 = some r) :
  Calls Try.prog 83 #[.int .i64 a0] w fun e w' => e = .returned (.int .i64 r) ∧ Drawn0 w w' := by
 have H : ((impl_within.f a0 0 79).bind fun t316 => (if t316 = true then (some (wrap64 ((-1) - a0))) else (some 0))) = some r:=h
 clear h;replace H:=Option.bind_eq_some_iff.mp H;obtain ⟨t316,A20,H⟩:=H;(try dsimp only at H);have A2:=zA A20;clear A20
 by_cases c3 : t316 = true
 ·
  subst c3
  rw [if_pos rfl] at H
  obtain rfl:=Option.some.inj H
  go_enter Try.func83,Try.ntmps83
  go_wp2_with (first|((with_reducible refine gate_callee (f:=88) rfl ?_);refine goesL_ (some 4) rfl rfl Try.func88 (by kernel_rfl) rfl #[.int .i64 a0,.int .i64 0,.int .i64 79] rfl (by (try simp only [zCb,zMb,zNb]);first|done|rfl|(simp only [zLb,zDb];rfl)) ?_;(with_reducible refine (impl_within.calls a0 0 79 true _ A2.out).mono ?_);rintro e w' ⟨rfl,⟨nd,rfl⟩⟩;refine ⟨_,rfl,?_⟩))
  go_ret
  exact ⟨by first|rfl|(simp;done)|(simp [*];done),by repeat (first|exact Drawn0.refl _|apply Drawn0.step)⟩
 ·
  replace c3:=Bool.eq_false_iff.mpr c3
  subst c3
  have H1 : (some 0) = some r:=by rw [if_neg (show ¬ (false = true) by decide)] at H;exact H
  clear H;have H:=H1;clear H1
  obtain rfl:=Option.some.inj H
  go_enter Try.func83,Try.ntmps83
  go_wp2_with (first|((with_reducible refine gate_callee (f:=88) rfl ?_);refine goesL_ (some 4) rfl rfl Try.func88 (by kernel_rfl) rfl #[.int .i64 a0,.int .i64 0,.int .i64 79] rfl (by (try simp only [zCb,zMb,zNb]);first|done|rfl|(simp only [zLb,zDb];rfl)) ?_;(with_reducible refine (impl_within.calls a0 0 79 false _ A2.out).mono ?_);rintro e w' ⟨rfl,⟨nd,rfl⟩⟩;refine ⟨_,rfl,?_⟩))
  go_ret
  exact ⟨by first|rfl|(simp;done)|(simp [*];done),by repeat (first|exact Drawn0.refl _|apply Drawn0.step)⟩

/-! ### impl_ParseTerm: function 25 -/
def impl_ParseTerm.j0 : Nat → ByteArray → Bool → Option (Int × Bool)
 | 0, _, _ => none
 | k + 1, x0, x14 => if x14 = true then (if 1 ≤ (x0.size : Int) then ((impl_ParseInt.f k (x0.extract 1 x0.size)).bind fun bt317 => (if x0.toList = ([] : List UInt8) then (some (0, false)) else ((impl_FormatTerm.f k bt317.1).bind fun t319 => (if t319.toList = x0.toList then (some (bt317.1, true)) else (some (0, false)))))) else (none)) else ((impl_ParseInt.f k x0).bind fun bt320 => ((impl_MakeConst.f bt320.1).bind fun t322 => (if x0.toList = ([] : List UInt8) then (some (0, false)) else ((impl_FormatTerm.f k t322).bind fun t323 => (if t323.toList = x0.toList then (some (t322, true)) else (some (0, false)))))))
def impl_ParseTerm.f (k : Nat) (a0 : ByteArray) : Option (Int × Bool) := if (a0.size : Int) > 0 then (if 0 < (a0.size : Int) then (impl_ParseTerm.j0 k a0 ((bt a0 0) == 88)) else (none)) else (impl_ParseTerm.j0 k a0 false)
theorem impl_ParseTerm.mono_l : ∀ k, (∀ y0 y1, LeO (impl_ParseTerm.j0 k y0 y1) (impl_ParseTerm.j0 (k + 1) y0 y1))
 | 0 => fun _ _ r h => by simp [impl_ParseTerm.j0] at h
 | k + 1 => by
  have ih0:=impl_ParseTerm.mono_l k
  ·
   intro y0 y1
   unfold impl_ParseTerm.j0
   repeat' first
   | (with_reducible exact ih0 _ _)
   | (with_reducible exact impl_FormatTerm.mono _ _)
   | (with_reducible exact impl_ParseInt.mono _ _)
   | (with_reducible exact LeO.refl _)
   | (with_reducible exact LeO.none _)
   | (with_reducible refine LeO.ite ?_ ?_)
   | (with_reducible refine LeO.bind ?_ (fun _ => ?_))
   | exact ih0 _ _
   | exact LeO.none _
   | refine LeO.ite ?_ ?_
   | refine LeO.bind ?_ (fun _ => ?_)
theorem impl_ParseTerm.mono : ∀ a0 k, LeO (impl_ParseTerm.f k a0) (impl_ParseTerm.f (k + 1) a0) := by
 intro a0 k
 have ih0:=impl_ParseTerm.mono_l k
 unfold impl_ParseTerm.f
 repeat' first
   | (with_reducible exact ih0 _ _)
   | (with_reducible exact impl_FormatTerm.mono _ _)
   | (with_reducible exact impl_ParseInt.mono _ _)
   | (with_reducible exact LeO.refl _)
   | (with_reducible exact LeO.none _)
   | (with_reducible refine LeO.ite ?_ ?_)
   | (with_reducible refine LeO.bind ?_ (fun _ => ?_))
   | exact ih0 _ _
   | exact LeO.none _
   | refine LeO.ite ?_ ?_
   | refine LeO.bind ?_ (fun _ => ?_)
set_option maxHeartbeats 8000000 in
set_option maxRecDepth 100000 in
theorem impl_ParseTerm.calls (k : Nat) (a0 : ByteArray) (r1 : Int) (r2 : Bool) (w : World) (h : impl_ParseTerm.f k a0 = some (r1, r2)) :
  Calls Try.prog 25 #[.string a0] w fun e w' => e = .returned (.tuple #[.int .i64 r1, .bool r2]) ∧ Below w.heap.size w w' := by
 have HB:=zA (Below.refl w.heap.size w)
 have H : (if (a0.size : Int) > 0 then (if 0 < (a0.size : Int) then (impl_ParseTerm.j0 k a0 ((bt a0 0) == 88)) else (none)) else (impl_ParseTerm.j0 k a0 false)) = some (r1,r2):=h
 clear h;have HC2:=zA H;clear H
 go_enter Try.func25,Try.ntmps25
 go_upto_region 2 with (fail)
 go_cut [14] (fun v14 wc => ∃ (kq : Nat) (x14_1 : Bool),v14 = .bool x14_1 ∧ Aside0 (impl_ParseTerm.j0 kq a0 x14_1 = some (r1,r2)) ∧ Aside0 (kq ≤ k) ∧ Aside0 (Below w.heap.size w wc))
 case first =>
  have H:=HC2.out;clear HC2
  by_cases c3 : (a0.size : Int) > 0
  ·
   rw [if_pos c3] at H
   have c3b0 : decide (0 < (a0.size : Int)) = true:=decide_eq_true c3
   have c3b1 : decide (0 < a0.size) = true:=decide_eq_true (by omega)
   clear c3
   (first|rw [c3b0]|(simp only [i64_w,i32_w];rw [c3b0])|skip)
   by_cases c4 : 0 < (a0.size : Int)
   ·
    rw [if_pos c4] at H;have c4b0:=decide_eq_true c4
    have c4b1 : decide (0 < a0.size) = true:=decide_eq_true (by omega)
    clear c4
    have H':=zA H
    clear H;have p5 : 0 ≤ (0 : Int):=(by omega);have q5 : 0 < a0.size:=(by have : (0 : Int) < (a0.size : Int):=zXb ze;omega)
    have hx5 : ∀ h : 0 < a0.size,((a0[0]'h).toNat : Int) = bt a0 0:=bt_at a0 0
    clear p5
    have qi5 : (0 < (a0.size : Int)) = True:=eq_true (zXb ze)
    replace q5:=eq_true q5
    go_wp2
    go_meet
    case rel => exact ⟨_,(((bt a0 0) == 88)),za,H',⟨by first|omega|exact Nat.le_refl _⟩,⟨zz HB⟩⟩
   ·
    rw [if_neg c4] at H
    exact absurd H (by simp)
  ·
   rw [if_neg c3] at H
   have c3b0 : decide (0 < (a0.size : Int)) = false:=decide_eq_false c3
   have c3b1 : decide (0 < a0.size) = false:=decide_eq_false (by omega)
   clear c3
   (first|rw [c3b0]|(simp only [i64_w,i32_w];rw [c3b0])|skip)
   have H':=zA H
   clear H
   go_wp2
   go_meet
   case rel => exact ⟨_,(false),za,H',⟨by first|omega|exact Nat.le_refl _⟩,⟨zz HB⟩⟩
 case rest =>
  clear HC2;(try clear c2);(try clear p2);(try clear c3);(try clear c3b0);(try clear c3b1);(try clear c4);(try clear c4b0);(try clear c4b1);(try clear p5);(try clear q5);(try clear hx5);(try clear qi5);(try clear p5);(try clear q5);obtain ⟨kq,x14_1,rfl,HA,HJ1,HB⟩:=hcut
  cases kq with
  | zero => exact absurd HA.out (by simp [impl_ParseTerm.j0])
  | succ kj1 =>
   have H:=HA.out;clear HA;simp only [impl_ParseTerm.j0] at H
   by_cases c6 : x14_1 = true
   ·
    subst c6
    rw [if_pos rfl] at H
    by_cases c7 : 1 ≤ (a0.size : Int)
    ·
     rw [if_pos c7] at H;have c7b0:=eq_true c7;have c7b1:=decide_eq_true c7;clear c7;replace H:=Option.bind_eq_some_iff.mp H;obtain ⟨⟨t317,t318⟩,A80,H⟩:=H;(try dsimp only at H);have A8:=zA A80;clear A80
     by_cases c9 : a0.toList = ([] : List UInt8)
     ·
      rw [if_pos c9] at H;have c9b0:=beq_iff_eq.mpr c9;have c9b1:=bne_eq_false_iff_eq.mpr c9;clear c9;simp only [Option.some.injEq,Prod.mk.injEq] at H;obtain ⟨rfl,rfl⟩:=H
      go_wp2_with (first|((with_reducible refine gate_callee (f:=82) rfl ?_);refine goesL_ (some 18) rfl rfl Try.func82 (by kernel_rfl) rfl #[.string (a0.extract 1 a0.size)] rfl (by (try simp only [zCb,zMb,zNb]);first|done|rfl|(simp only [zLb,zDb];rfl)) ?_;(with_reducible refine (impl_ParseInt.calls kj1 (a0.extract 1 a0.size) t317 t318 _ A8.out).mono ?_);rintro e w10 ⟨rfl,hb⟩;refine ⟨_,rfl,?_⟩;replace HB:=zA (zJb (zz HB) hb);(try clear hb);(try clear hb2);(try clear hk);(try clear hi)))
      go_ret2
      exact ⟨by first|rfl|(simp [errW_none,errW_some] <;> rfl)|(simp [*,errW_none,errW_some] <;> rfl),zz HB⟩
     ·
      rw [if_neg c9] at H;have c9b0:=beq_eq_false_iff_ne.mpr c9;have c9b1:=bne_iff_ne.mpr c9;replace H:=Option.bind_eq_some_iff.mp H;obtain ⟨t319,A110,H⟩:=H;(try dsimp only at H);have A11:=zA A110;clear A110
      by_cases c12 : t319.toList = a0.toList
      ·
       rw [if_pos c12] at H;have c12b0:=beq_iff_eq.mpr c12;have c12b1:=bne_eq_false_iff_eq.mpr c12;clear c12;simp only [Option.some.injEq,Prod.mk.injEq] at H;obtain ⟨rfl,rfl⟩:=H
       go_wp2_with (first|((with_reducible refine gate_callee (f:=82) rfl ?_);refine goesL_ (some 18) rfl rfl Try.func82 (by kernel_rfl) rfl #[.string (a0.extract 1 a0.size)] rfl (by (try simp only [zCb,zMb,zNb]);first|done|rfl|(simp only [zLb,zDb];rfl)) ?_;(with_reducible refine (impl_ParseInt.calls kj1 (a0.extract 1 a0.size) t317 t318 _ A8.out).mono ?_);rintro e w13 ⟨rfl,hb⟩;refine ⟨_,rfl,?_⟩;replace HB:=zA (zJb (zz HB) hb);(try clear hb);(try clear hb2);(try clear hk);(try clear hi))|(go_at_call 75;(with_reducible refine (impl_FormatTerm.calls kj1 t317 t319 _ A11.out).mono ?_);rintro e w14 ⟨rfl,hb⟩;replace HB:=zA (zJb (zz HB) hb);(try clear hb);(try clear hb2);(try clear hk);(try clear hi)))
       go_ret2
       exact ⟨by first|rfl|(simp [errW_none,errW_some] <;> rfl)|(simp [*,errW_none,errW_some] <;> rfl),zz HB⟩
      ·
       rw [if_neg c12] at H;have c12b0:=beq_eq_false_iff_ne.mpr c12;have c12b1:=bne_iff_ne.mpr c12;simp only [Option.some.injEq,Prod.mk.injEq] at H;obtain ⟨rfl,rfl⟩:=H
       go_wp2_with (first|((with_reducible refine gate_callee (f:=82) rfl ?_);refine goesL_ (some 18) rfl rfl Try.func82 (by kernel_rfl) rfl #[.string (a0.extract 1 a0.size)] rfl (by (try simp only [zCb,zMb,zNb]);first|done|rfl|(simp only [zLb,zDb];rfl)) ?_;(with_reducible refine (impl_ParseInt.calls kj1 (a0.extract 1 a0.size) t317 t318 _ A8.out).mono ?_);rintro e w15 ⟨rfl,hb⟩;refine ⟨_,rfl,?_⟩;replace HB:=zA (zJb (zz HB) hb);(try clear hb);(try clear hb2);(try clear hk);(try clear hi))|(go_at_call 75;(with_reducible refine (impl_FormatTerm.calls kj1 t317 t319 _ A11.out).mono ?_);rintro e w16 ⟨rfl,hb⟩;replace HB:=zA (zJb (zz HB) hb);(try clear hb);(try clear hb2);(try clear hk);(try clear hi)))
       go_ret2
       exact ⟨by first|rfl|(simp [errW_none,errW_some] <;> rfl)|(simp [*,errW_none,errW_some] <;> rfl),zz HB⟩
    ·
     rw [if_neg c7] at H
     exact absurd H (by simp)
   ·
    replace c6:=Bool.eq_false_iff.mpr c6
    subst c6
    have H1 : ((impl_ParseInt.f kj1 a0).bind fun bt320 => ((impl_MakeConst.f bt320.1).bind fun t322 => (if a0.toList = ([] : List UInt8) then (some (0,false)) else ((impl_FormatTerm.f kj1 t322).bind fun t323 => (if t323.toList = a0.toList then (some (t322,true)) else (some (0,false))))))) = some (r1,r2):=by rw [if_neg (show ¬ (false = true) by decide)] at H;exact H
    clear H;have H:=H1;clear H1;replace H:=Option.bind_eq_some_iff.mp H;obtain ⟨⟨t320,t321⟩,A170,H⟩:=H;(try dsimp only at H);have A17:=zA A170;clear A170;replace H:=Option.bind_eq_some_iff.mp H;obtain ⟨t322,A180,H⟩:=H;(try dsimp only at H);have A18:=zA A180;clear A180
    by_cases c19 : a0.toList = ([] : List UInt8)
    ·
     rw [if_pos c19] at H;have c19b0:=beq_iff_eq.mpr c19;have c19b1:=bne_eq_false_iff_eq.mpr c19;clear c19;simp only [Option.some.injEq,Prod.mk.injEq] at H;obtain ⟨rfl,rfl⟩:=H
     go_wp2_with (first|((with_reducible refine gate_callee (f:=82) rfl ?_);refine goesL_ (some 23) rfl rfl Try.func82 (by kernel_rfl) rfl #[.string a0] rfl (by (try simp only [zCb,zMb,zNb]);first|done|rfl|(simp only [zLb,zDb];rfl)) ?_;(with_reducible refine (impl_ParseInt.calls kj1 a0 t320 t321 _ A17.out).mono ?_);rintro e w20 ⟨rfl,hb⟩;refine ⟨_,rfl,?_⟩;replace HB:=zA (zJb (zz HB) hb);(try clear hb);(try clear hb2);(try clear hk);(try clear hi))|((with_reducible refine gate_callee (f:=83) rfl ?_);refine goesL_ (some 27) rfl rfl Try.func83 (by kernel_rfl) rfl #[.int .i64 t320] rfl (by (try simp only [zCb,zMb,zNb]);first|done|rfl|(simp only [zLb,zDb];rfl)) ?_;(with_reducible refine (impl_MakeConst.calls t320 t322 _ A18.out).mono ?_);rintro e w' ⟨rfl,⟨nd,rfl⟩⟩;refine ⟨_,rfl,?_⟩))
     go_ret2
     exact ⟨by first|rfl|(simp [errW_none,errW_some] <;> rfl)|(simp [*,errW_none,errW_some] <;> rfl),zz HB⟩
    ·
     rw [if_neg c19] at H;have c19b0:=beq_eq_false_iff_ne.mpr c19;have c19b1:=bne_iff_ne.mpr c19;replace H:=Option.bind_eq_some_iff.mp H;obtain ⟨t323,A210,H⟩:=H;(try dsimp only at H);have A21:=zA A210;clear A210
     by_cases c22 : t323.toList = a0.toList
     ·
      rw [if_pos c22] at H;have c22b0:=beq_iff_eq.mpr c22;have c22b1:=bne_eq_false_iff_eq.mpr c22;clear c22;simp only [Option.some.injEq,Prod.mk.injEq] at H;obtain ⟨rfl,rfl⟩:=H
      go_wp2_with (first|((with_reducible refine gate_callee (f:=82) rfl ?_);refine goesL_ (some 23) rfl rfl Try.func82 (by kernel_rfl) rfl #[.string a0] rfl (by (try simp only [zCb,zMb,zNb]);first|done|rfl|(simp only [zLb,zDb];rfl)) ?_;(with_reducible refine (impl_ParseInt.calls kj1 a0 t320 t321 _ A17.out).mono ?_);rintro e w23 ⟨rfl,hb⟩;refine ⟨_,rfl,?_⟩;replace HB:=zA (zJb (zz HB) hb);(try clear hb);(try clear hb2);(try clear hk);(try clear hi))|((with_reducible refine gate_callee (f:=83) rfl ?_);refine goesL_ (some 27) rfl rfl Try.func83 (by kernel_rfl) rfl #[.int .i64 t320] rfl (by (try simp only [zCb,zMb,zNb]);first|done|rfl|(simp only [zLb,zDb];rfl)) ?_;(with_reducible refine (impl_MakeConst.calls t320 t322 _ A18.out).mono ?_);rintro e w' ⟨rfl,⟨nd,rfl⟩⟩;refine ⟨_,rfl,?_⟩)|(go_at_call 75;(with_reducible refine (impl_FormatTerm.calls kj1 t322 t323 _ A21.out).mono ?_);rintro e w24 ⟨rfl,hb⟩;replace HB:=zA (zJb (zz HB) hb);(try clear hb);(try clear hb2);(try clear hk);(try clear hi)))
      go_ret2
      exact ⟨by first|rfl|(simp [errW_none,errW_some] <;> rfl)|(simp [*,errW_none,errW_some] <;> rfl),zz HB⟩
     ·
      rw [if_neg c22] at H;have c22b0:=beq_eq_false_iff_ne.mpr c22;have c22b1:=bne_iff_ne.mpr c22;simp only [Option.some.injEq,Prod.mk.injEq] at H;obtain ⟨rfl,rfl⟩:=H
      go_wp2_with (first|((with_reducible refine gate_callee (f:=82) rfl ?_);refine goesL_ (some 23) rfl rfl Try.func82 (by kernel_rfl) rfl #[.string a0] rfl (by (try simp only [zCb,zMb,zNb]);first|done|rfl|(simp only [zLb,zDb];rfl)) ?_;(with_reducible refine (impl_ParseInt.calls kj1 a0 t320 t321 _ A17.out).mono ?_);rintro e w25 ⟨rfl,hb⟩;refine ⟨_,rfl,?_⟩;replace HB:=zA (zJb (zz HB) hb);(try clear hb);(try clear hb2);(try clear hk);(try clear hi))|((with_reducible refine gate_callee (f:=83) rfl ?_);refine goesL_ (some 27) rfl rfl Try.func83 (by kernel_rfl) rfl #[.int .i64 t320] rfl (by (try simp only [zCb,zMb,zNb]);first|done|rfl|(simp only [zLb,zDb];rfl)) ?_;(with_reducible refine (impl_MakeConst.calls t320 t322 _ A18.out).mono ?_);rintro e w' ⟨rfl,⟨nd,rfl⟩⟩;refine ⟨_,rfl,?_⟩)|(go_at_call 75;(with_reducible refine (impl_FormatTerm.calls kj1 t322 t323 _ A21.out).mono ?_);rintro e w26 ⟨rfl,hb⟩;replace HB:=zA (zJb (zz HB) hb);(try clear hb);(try clear hb2);(try clear hk);(try clear hi)))
      go_ret2
      exact ⟨by first|rfl|(simp [errW_none,errW_some] <;> rfl)|(simp [*,errW_none,errW_some] <;> rfl),zz HB⟩

/-! ### impl_areTerms: function 89 -/
def impl_areTerms.l0 : Nat → List Int → Int → Int → Option (Bool)
 | 0, _, _, _ => none
 | k + 1, x5, x6, x7 => if x7 < x6 then (if 0 ≤ x7 then (if x7 < (x5.length : Int) then ((impl_IsTerm.f (rd x5 x7)).bind fun t325 => (if t325 = true then (impl_areTerms.l0 k x5 x6 (wrap64 (x7 + 1))) else (some false))) else (none)) else (none)) else (some true)
def impl_areTerms.f (k : Nat) (l0 : List Int) : Option (Bool) := impl_areTerms.l0 k l0 (l0.length : Int) 0
theorem impl_areTerms.mono_l : ∀ k, (∀ y0 y1 y2, LeO (impl_areTerms.l0 k y0 y1 y2) (impl_areTerms.l0 (k + 1) y0 y1 y2))
 | 0 => fun _ _ _ r h => by simp [impl_areTerms.l0] at h
 | k + 1 => by
  have ih0:=impl_areTerms.mono_l k
  ·
   intro y0 y1 y2
   unfold impl_areTerms.l0
   repeat' first
   | (with_reducible exact ih0 _ _ _)
   | (with_reducible exact LeO.refl _)
   | (with_reducible exact LeO.none _)
   | (with_reducible refine LeO.ite ?_ ?_)
   | (with_reducible refine LeO.bind ?_ (fun _ => ?_))
   | exact ih0 _ _ _
   | exact LeO.none _
   | refine LeO.ite ?_ ?_
   | refine LeO.bind ?_ (fun _ => ?_)
theorem impl_areTerms.mono : ∀ a0 k, LeO (impl_areTerms.f k a0) (impl_areTerms.f (k + 1) a0) := by
 intro a0 k
 have ih0:=impl_areTerms.mono_l k
 unfold impl_areTerms.f
 repeat' first
   | (with_reducible exact ih0 _ _ _)
   | (with_reducible exact LeO.refl _)
   | (with_reducible exact LeO.none _)
   | (with_reducible refine LeO.ite ?_ ?_)
   | (with_reducible refine LeO.bind ?_ (fun _ => ?_))
   | exact ih0 _ _ _
   | exact LeO.none _
   | refine LeO.ite ?_ ?_
   | refine LeO.bind ?_ (fun _ => ?_)
set_option maxHeartbeats 8000000 in
set_option maxRecDepth 100000 in
theorem impl_areTerms.calls (k : Nat) (A0 : Option Addr) (c0 : Nat) (l0 : List Int) (r : Bool) (w : World) (hr0 : Kd.C (Kd.int .i64) w A0 l0.length l0) (hc0 : l0.length ≤ c0) (h : impl_areTerms.f k l0 = some r) :
  Calls Try.prog 89 #[.slice A0 l0.length c0] w fun e w' => e = .returned (.bool r) ∧ Drawn0 w w' := by
 have HR0:=zA hr0;have HC0:=zA hc0;clear hr0 hc0
 have H : (impl_areTerms.l0 k l0 (l0.length : Int) 0) = some r:=h
 clear h
 have H':=zA H
 clear H
 go_enter Try.func89,Try.ntmps89
 go_wp2
 go_loopg [7] k (fun kq v7 w' => ∃ (x7_1 : Int),v7 = .int .i64 x7_1 ∧ Aside0 (impl_areTerms.l0 kq l0 (l0.length : Int) x7_1 = some r) ∧ Aside0 (kq ≤ k) ∧ Drawn0 w w')
 case atStart => exact ⟨(0),za,H',⟨Nat.le_refl _⟩,by repeat (first|exact Drawn0.refl _|apply Drawn0.step)⟩
 case round =>
  clear H';obtain ⟨x7_1,rfl,HA,HK1,⟨m1,rfl⟩⟩:=hrel
  cases gk with
  | zero => exact absurd HA.out (by simp [impl_areTerms.l0])
  | succ k1 =>
   have H:=HA.out;clear HA;simp only [impl_areTerms.l0] at H
   by_cases c2 : x7_1 < (l0.length : Int)
   ·
    rw [if_pos c2] at H;have c2b0:=decide_eq_true c2;clear c2
    by_cases c3 : 0 ≤ x7_1
    ·
     rw [if_pos c3] at H;have c3b0:=decide_eq_true c3;clear c3
     by_cases c4 : x7_1 < (l0.length : Int)
     ·
      rw [if_pos c4] at H;have c4b0:=decide_eq_true c4;clear c4;replace H:=Option.bind_eq_some_iff.mp H;obtain ⟨t325,A50,H⟩:=H;(try dsimp only at H);have A5:=zA A50;clear A50
      by_cases c6 : t325 = true
      ·
       subst c6
       rw [if_pos rfl] at H
       have H':=zA H
       clear H;have p324 : 0 ≤ (x7_1 : Int):=zXb ze;have q324 : x7_1 < (l0.length : Int):=zXb ze;obtain ⟨ad324,e324,hx324_0⟩:=Kd.at_int HR0.out x7_1 p324 q324
       cases e324
       replace p324:=eq_true p324;replace q324:=eq_true q324
       go_wp2_with (first|((with_reducible refine gate_callee (f:=74) rfl ?_);refine goesL_ (some 12) rfl rfl Try.func74 (by kernel_rfl) rfl #[.int .i64 (rd l0 x7_1)] rfl (by (try simp only [zCb,zMb,zNb]);first|done|rfl|(simp only [zLb,zDb];rfl)) ?_;(with_reducible refine (impl_IsTerm.calls (rd l0 x7_1) true _ A5.out).mono ?_);rintro e w' ⟨rfl,⟨nd,rfl⟩⟩;refine ⟨_,rfl,?_⟩))
       go_roundg k1
       case measure => have:=HK1.out;omega
       case rel => exact ⟨(wrap64 (x7_1 + 1)),za,H',⟨by have:=HK1.out;omega⟩,by repeat (first|exact Drawn0.refl _|apply Drawn0.step)⟩
      ·
       replace c6:=Bool.eq_false_iff.mpr c6
       subst c6
       have H1 : (some false) = some r:=by rw [if_neg (show ¬ (false = true) by decide)] at H;exact H
       clear H;have H:=H1;clear H1
       obtain rfl:=Option.some.inj H
       have p324 : 0 ≤ (x7_1 : Int):=zXb ze;have q324 : x7_1 < (l0.length : Int):=zXb ze;obtain ⟨ad324,e324,hx324_0⟩:=Kd.at_int HR0.out x7_1 p324 q324
       cases e324
       replace p324:=eq_true p324;replace q324:=eq_true q324
       go_wp2_with (first|((with_reducible refine gate_callee (f:=74) rfl ?_);refine goesL_ (some 12) rfl rfl Try.func74 (by kernel_rfl) rfl #[.int .i64 (rd l0 x7_1)] rfl (by (try simp only [zCb,zMb,zNb]);first|done|rfl|(simp only [zLb,zDb];rfl)) ?_;(with_reducible refine (impl_IsTerm.calls (rd l0 x7_1) false _ A5.out).mono ?_);rintro e w' ⟨rfl,⟨nd,rfl⟩⟩;refine ⟨_,rfl,?_⟩))
       go_ret
       exact ⟨by first|rfl|(simp;done)|(simp [*];done),by repeat (first|exact Drawn0.refl _|apply Drawn0.step)⟩
     ·
      rw [if_neg c4] at H
      exact absurd H (by simp)
    ·
     rw [if_neg c3] at H
     exact absurd H (by simp)
   ·
    rw [if_neg c2] at H;have c2b0:=decide_eq_false c2;clear c2
    obtain rfl:=Option.some.inj H
    go_wp2
    go_ret
    exact ⟨by first|rfl|(simp;done)|(simp [*];done),by repeat (first|exact Drawn0.refl _|apply Drawn0.step)⟩

end Go.Proofs.Ytpfpappamlgnoaa.QFnExactParseQuery
