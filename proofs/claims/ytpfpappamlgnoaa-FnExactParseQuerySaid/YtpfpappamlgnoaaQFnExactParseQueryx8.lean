/- Walks through the Go functions that FnExactParseQuery reaches: each call returns what the Lean function beside it says, within the bounds that the theorem names. -/
import Derived.Test.YtpfpappamlgnoaaQFnExactParseQueryx0
import Derived.Test.YtpfpappamlgnoaaQFnExactParseQueryx6
import Derived.Test.YtpfpappamlgnoaaQFnExactParseQueryx7
namespace Go.Proofs.Ytpfpappamlgnoaa.QFnExactParseQuery
open Go.RowKit Go.Proofs.YtpfpappamlgnoaaW.PrintWords Go.Proofs.YtpfpappamlgnoaaW.PrintLast Go.Proofs.YtpfpappamlgnoaaW.PrintMore
attribute [local go_sem] max2_int min2_int max_two min_two max_three min_three max_four min_four   -- for this text's walks alone
set_option linter.unusedVariables false
set_option linter.unusedSimpArgs false


/-! ### spec_ParseTerm: function 24 -/
mutual
def spec_ParseTerm.j0 : Nat → ByteArray → Int → Bool → Option (Int × Bool)
 | 0, _, _, _ => none
 | k + 1, x0, x4, x16 => if x16 = true then (if 1 ≤ (x0.size : Int) then ((spec_ParseInt.f k (x0.extract 1 x0.size)).bind fun bt209 => (if bt209.2 = true then (if x0.toList = ([] : List UInt8) then (some (0, false)) else ((spec_FormatTerm.f k bt209.1).bind fun t211 => (if t211.toList = x0.toList then (some (bt209.1, true)) else (some (0, false))))) else (if x0.toList = ([] : List UInt8) then (some (0, false)) else ((spec_FormatTerm.f k x4).bind fun t212 => (if t212.toList = x0.toList then (some (x4, true)) else (some (0, false))))))) else (none)) else ((spec_ParseInt.f k x0).bind fun bt213 => (if bt213.2 = true then (spec_ParseTerm.j1 k x0 x4 bt213.1 (decide (bt213.1 ≥ 0))) else (spec_ParseTerm.j1 k x0 x4 bt213.1 false)))
def spec_ParseTerm.j1 : Nat → ByteArray → Int → Int → Bool → Option (Int × Bool)
 | 0, _, _, _, _ => none
 | k + 1, x0, x4, x7, x34 => if x34 = true then (if x0.toList = ([] : List UInt8) then (some (0, false)) else ((spec_FormatTerm.f k (wrap64 ((-1) - x7))).bind fun t215 => (if t215.toList = x0.toList then (some (wrap64 ((-1) - x7), true)) else (some (0, false))))) else (if x0.toList = ([] : List UInt8) then (some (0, false)) else ((spec_FormatTerm.f k x4).bind fun t216 => (if t216.toList = x0.toList then (some (x4, true)) else (some (0, false)))))
end
def spec_ParseTerm.f (k : Nat) (a0 : ByteArray) : Option (Int × Bool) := if (a0.size : Int) > 1 then (if 0 < (a0.size : Int) then (spec_ParseTerm.j0 k a0 (-1000) ((bt a0 0) == 88)) else (none)) else (spec_ParseTerm.j0 k a0 (-1000) false)
theorem spec_ParseTerm.mono_l : ∀ k, (∀ y0 y1 y2, LeO (spec_ParseTerm.j0 k y0 y1 y2) (spec_ParseTerm.j0 (k + 1) y0 y1 y2)) ∧ (∀ y0 y1 y2 y3, LeO (spec_ParseTerm.j1 k y0 y1 y2 y3) (spec_ParseTerm.j1 (k + 1) y0 y1 y2 y3))
 | 0 => ⟨fun _ _ _ r h => by simp [spec_ParseTerm.j0] at h, fun _ _ _ _ r h => by simp [spec_ParseTerm.j1] at h⟩
 | k + 1 => by
  obtain ⟨ih0,ih1⟩:=spec_ParseTerm.mono_l k
  refine ⟨?_,?_⟩
  (intros;unfold spec_ParseTerm.j0;rotate_left)
  (intros;unfold spec_ParseTerm.j1;rotate_left)
  all_goals repeat' first
  | (with_reducible exact ih0 _ _ _)
  | (with_reducible exact ih1 _ _ _ _)
  | (with_reducible exact spec_FormatTerm.mono _ _)
  | (with_reducible exact spec_ParseInt.mono _ _)
  | (with_reducible exact LeO.refl _)
  | (with_reducible exact LeO.none _)
  | (with_reducible refine LeO.ite ?_ ?_)
  | (with_reducible refine LeO.bind ?_ (fun _ => ?_))
  | exact ih0 _ _ _
  | exact ih1 _ _ _ _
  | exact LeO.none _
  | refine LeO.ite ?_ ?_
  | refine LeO.bind ?_ (fun _ => ?_)
theorem spec_ParseTerm.mono : ∀ a0 k, LeO (spec_ParseTerm.f k a0) (spec_ParseTerm.f (k + 1) a0) := by
 intro a0 k
 obtain ⟨ih0,ih1⟩:=spec_ParseTerm.mono_l k
 unfold spec_ParseTerm.f
 repeat' first
   | (with_reducible exact ih0 _ _ _)
   | (with_reducible exact ih1 _ _ _ _)
   | (with_reducible exact spec_FormatTerm.mono _ _)
   | (with_reducible exact spec_ParseInt.mono _ _)
   | (with_reducible exact LeO.refl _)
   | (with_reducible exact LeO.none _)
   | (with_reducible refine LeO.ite ?_ ?_)
   | (with_reducible refine LeO.bind ?_ (fun _ => ?_))
   | exact ih0 _ _ _
   | exact ih1 _ _ _ _
   | exact LeO.none _
   | refine LeO.ite ?_ ?_
   | refine LeO.bind ?_ (fun _ => ?_)
set_option maxHeartbeats 8000000 in
set_option maxRecDepth 100000 in
theorem spec_ParseTerm.calls (k : Nat) (a0 : ByteArray) (r1 : Int) (r2 : Bool) (w : World) (h : spec_ParseTerm.f k a0 = some (r1, r2)) :
  Calls Try.prog 24 #[.string a0] w fun e w' => e = .returned (.tuple #[.int .i64 r1, .bool r2]) ∧ Below w.heap.size w w' := by
 have HB:=zA (Below.refl w.heap.size w)
 have H : (if (a0.size : Int) > 1 then (if 0 < (a0.size : Int) then (spec_ParseTerm.j0 k a0 (-1000) ((bt a0 0) == 88)) else (none)) else (spec_ParseTerm.j0 k a0 (-1000) false)) = some (r1,r2):=h
 clear h;have HC2:=zA H;clear H
 go_enter Try.func24,Try.ntmps24
 go_upto_region 2 with (fail)
 go_cut [16] (fun v16 wc => ∃ (kq : Nat) (x16_1 : Bool),v16 = .bool x16_1 ∧ Aside0 (spec_ParseTerm.j0 kq a0 (-1000) x16_1 = some (r1,r2)) ∧ Aside0 (kq ≤ k) ∧ Aside0 (Below w.heap.size w wc))
 case first =>
  have H:=HC2.out;clear HC2
  by_cases c3 : (a0.size : Int) > 1
  ·
   rw [if_pos c3] at H
   have c3b0 : decide (1 < (a0.size : Int)) = true:=decide_eq_true c3
   have c3b1 : decide (1 < a0.size) = true:=decide_eq_true (by omega)
   clear c3
   (first|rw [c3b0]|(simp only [i64_w,i32_w];rw [c3b0])|skip)
   by_cases c4 : 0 < (a0.size : Int)
   ·
    rw [if_pos c4] at H;have c4b0:=decide_eq_true c4
    have c4b1 : decide (0 < a0.size) = true:=decide_eq_true (by omega)
    clear c4
    have H':=zA H
    clear H;have p5 : 0 ≤ (0 : Int):=(by omega);have q5 : 0 < a0.size:=(by have : (0 : Int) < (a0.size : Int):=zXb ze;omega)
    have hx5 : ∀ h : 0 < a0.size,((a0[0]'h).toNat : Int) = bt a0 0:=bt_at a0 0
    clear p5
    have qi5 : (0 < (a0.size : Int)) = True:=eq_true (zXb ze)
    replace q5:=eq_true q5
    go_wp2
    go_meet
    case rel => exact ⟨_,(((bt a0 0) == 88)),za,H',⟨by first|omega|exact Nat.le_refl _⟩,⟨zz HB⟩⟩
   ·
    rw [if_neg c4] at H
    exact absurd H (by simp)
  ·
   rw [if_neg c3] at H
   have c3b0 : decide (1 < (a0.size : Int)) = false:=decide_eq_false c3
   have c3b1 : decide (1 < a0.size) = false:=decide_eq_false (by omega)
   clear c3
   (first|rw [c3b0]|(simp only [i64_w,i32_w];rw [c3b0])|skip)
   have H':=zA H
   clear H
   go_wp2
   go_meet
   case rel => exact ⟨_,(false),za,H',⟨by first|omega|exact Nat.le_refl _⟩,⟨zz HB⟩⟩
 case rest =>
  clear HC2;(try clear c2);(try clear p2);(try clear c3);(try clear c3b0);(try clear c3b1);(try clear c4);(try clear c4b0);(try clear c4b1);(try clear p5);(try clear q5);(try clear hx5);(try clear qi5);(try clear p5);(try clear q5);obtain ⟨kq,x16_1,rfl,HA,HJ1,HB⟩:=hcut
  cases kq with
  | zero => exact absurd HA.out (by simp [spec_ParseTerm.j0])
  | succ kj1 =>
   have H:=HA.out;clear HA;simp only [spec_ParseTerm.j0] at H
   by_cases c6 : x16_1 = true
   ·
    subst c6
    rw [if_pos rfl] at H
    by_cases c7 : 1 ≤ (a0.size : Int)
    ·
     rw [if_pos c7] at H;have c7b0:=eq_true c7;have c7b1:=decide_eq_true c7;clear c7;replace H:=Option.bind_eq_some_iff.mp H;obtain ⟨⟨t209,t210⟩,A80,H⟩:=H;(try dsimp only at H);have A8:=zA A80;clear A80
     by_cases c9 : t210 = true
     ·
      subst c9
      rw [if_pos rfl] at H
      by_cases c10 : a0.toList = ([] : List UInt8)
      ·
       rw [if_pos c10] at H;have c10b0:=beq_iff_eq.mpr c10;have c10b1:=bne_eq_false_iff_eq.mpr c10;clear c10;simp only [Option.some.injEq,Prod.mk.injEq] at H;obtain ⟨rfl,rfl⟩:=H
       go_wp2_with (first|((with_reducible refine gate_callee (f:=81) rfl ?_);refine goesL_ (some 20) rfl rfl Try.func81 (by kernel_rfl) rfl #[.string (a0.extract 1 a0.size)] rfl (by (try simp only [zCb,zMb,zNb]);first|done|rfl|(simp only [zLb,zDb];rfl)) ?_;(with_reducible refine (spec_ParseInt.calls kj1 (a0.extract 1 a0.size) t209 true _ A8.out).mono ?_);rintro e w11 ⟨rfl,hb⟩;refine ⟨_,rfl,?_⟩;replace HB:=zA (zJb (zz HB) hb);(try clear hb);(try clear hb2);(try clear hk);(try clear hi)))
       go_ret2
       exact ⟨by first|rfl|(simp [errW_none,errW_some] <;> rfl)|(simp [*,errW_none,errW_some] <;> rfl),zz HB⟩
      ·
       rw [if_neg c10] at H;have c10b0:=beq_eq_false_iff_ne.mpr c10;have c10b1:=bne_iff_ne.mpr c10;replace H:=Option.bind_eq_some_iff.mp H;obtain ⟨t211,A120,H⟩:=H;(try dsimp only at H);have A12:=zA A120;clear A120
       by_cases c13 : t211.toList = a0.toList
       ·
        rw [if_pos c13] at H;have c13b0:=beq_iff_eq.mpr c13;have c13b1:=bne_eq_false_iff_eq.mpr c13;clear c13;simp only [Option.some.injEq,Prod.mk.injEq] at H;obtain ⟨rfl,rfl⟩:=H
        go_wp2_with (first|((with_reducible refine gate_callee (f:=81) rfl ?_);refine goesL_ (some 20) rfl rfl Try.func81 (by kernel_rfl) rfl #[.string (a0.extract 1 a0.size)] rfl (by (try simp only [zCb,zMb,zNb]);first|done|rfl|(simp only [zLb,zDb];rfl)) ?_;(with_reducible refine (spec_ParseInt.calls kj1 (a0.extract 1 a0.size) t209 true _ A8.out).mono ?_);rintro e w14 ⟨rfl,hb⟩;refine ⟨_,rfl,?_⟩;replace HB:=zA (zJb (zz HB) hb);(try clear hb);(try clear hb2);(try clear hk);(try clear hi))|(go_at_call 72;(with_reducible refine (spec_FormatTerm.calls kj1 t209 t211 _ A12.out).mono ?_);rintro e w15 ⟨rfl,hb⟩;replace HB:=zA (zJb (zz HB) hb);(try clear hb);(try clear hb2);(try clear hk);(try clear hi)))
        go_ret2
        exact ⟨by first|rfl|(simp [errW_none,errW_some] <;> rfl)|(simp [*,errW_none,errW_some] <;> rfl),zz HB⟩
       ·
        rw [if_neg c13] at H;have c13b0:=beq_eq_false_iff_ne.mpr c13;have c13b1:=bne_iff_ne.mpr c13;simp only [Option.some.injEq,Prod.mk.injEq] at H;obtain ⟨rfl,rfl⟩:=H
        go_wp2_with (first|((with_reducible refine gate_callee (f:=81) rfl ?_);refine goesL_ (some 20) rfl rfl Try.func81 (by kernel_rfl) rfl #[.string (a0.extract 1 a0.size)] rfl (by (try simp only [zCb,zMb,zNb]);first|done|rfl|(simp only [zLb,zDb];rfl)) ?_;(with_reducible refine (spec_ParseInt.calls kj1 (a0.extract 1 a0.size) t209 true _ A8.out).mono ?_);rintro e w16 ⟨rfl,hb⟩;refine ⟨_,rfl,?_⟩;replace HB:=zA (zJb (zz HB) hb);(try clear hb);(try clear hb2);(try clear hk);(try clear hi))|(go_at_call 72;(with_reducible refine (spec_FormatTerm.calls kj1 t209 t211 _ A12.out).mono ?_);rintro e w17 ⟨rfl,hb⟩;replace HB:=zA (zJb (zz HB) hb);(try clear hb);(try clear hb2);(try clear hk);(try clear hi)))
        go_ret2
        exact ⟨by first|rfl|(simp [errW_none,errW_some] <;> rfl)|(simp [*,errW_none,errW_some] <;> rfl),zz HB⟩
     ·
      replace c9:=Bool.eq_false_iff.mpr c9
      subst c9
      have H1 : (if a0.toList = ([] : List UInt8) then (some (0,false)) else ((spec_FormatTerm.f kj1 (-1000)).bind fun t212 => (if t212.toList = a0.toList then (some ((-1000),true)) else (some (0,false))))) = some (r1,r2):=by rw [if_neg (show ¬ (false = true) by decide)] at H;exact H
      clear H;have H:=H1;clear H1
      by_cases c18 : a0.toList = ([] : List UInt8)
      ·
       rw [if_pos c18] at H;have c18b0:=beq_iff_eq.mpr c18;have c18b1:=bne_eq_false_iff_eq.mpr c18;clear c18;simp only [Option.some.injEq,Prod.mk.injEq] at H;obtain ⟨rfl,rfl⟩:=H
       go_wp2_with (first|((with_reducible refine gate_callee (f:=81) rfl ?_);refine goesL_ (some 20) rfl rfl Try.func81 (by kernel_rfl) rfl #[.string (a0.extract 1 a0.size)] rfl (by (try simp only [zCb,zMb,zNb]);first|done|rfl|(simp only [zLb,zDb];rfl)) ?_;(with_reducible refine (spec_ParseInt.calls kj1 (a0.extract 1 a0.size) t209 false _ A8.out).mono ?_);rintro e w19 ⟨rfl,hb⟩;refine ⟨_,rfl,?_⟩;replace HB:=zA (zJb (zz HB) hb);(try clear hb);(try clear hb2);(try clear hk);(try clear hi)))
       go_ret2
       exact ⟨by first|rfl|(simp [errW_none,errW_some] <;> rfl)|(simp [*,errW_none,errW_some] <;> rfl),zz HB⟩
      ·
       rw [if_neg c18] at H;have c18b0:=beq_eq_false_iff_ne.mpr c18;have c18b1:=bne_iff_ne.mpr c18;replace H:=Option.bind_eq_some_iff.mp H;obtain ⟨t212,A200,H⟩:=H;(try dsimp only at H);have A20:=zA A200;clear A200
       by_cases c21 : t212.toList = a0.toList
       ·
        rw [if_pos c21] at H;have c21b0:=beq_iff_eq.mpr c21;have c21b1:=bne_eq_false_iff_eq.mpr c21;clear c21;simp only [Option.some.injEq,Prod.mk.injEq] at H;obtain ⟨rfl,rfl⟩:=H
        go_wp2_with (first|((with_reducible refine gate_callee (f:=81) rfl ?_);refine goesL_ (some 20) rfl rfl Try.func81 (by kernel_rfl) rfl #[.string (a0.extract 1 a0.size)] rfl (by (try simp only [zCb,zMb,zNb]);first|done|rfl|(simp only [zLb,zDb];rfl)) ?_;(with_reducible refine (spec_ParseInt.calls kj1 (a0.extract 1 a0.size) t209 false _ A8.out).mono ?_);rintro e w22 ⟨rfl,hb⟩;refine ⟨_,rfl,?_⟩;replace HB:=zA (zJb (zz HB) hb);(try clear hb);(try clear hb2);(try clear hk);(try clear hi))|(go_at_call 72;(with_reducible refine (spec_FormatTerm.calls kj1 (-1000) t212 _ A20.out).mono ?_);rintro e w23 ⟨rfl,hb⟩;replace HB:=zA (zJb (zz HB) hb);(try clear hb);(try clear hb2);(try clear hk);(try clear hi)))
        go_ret2
        exact ⟨by first|rfl|(simp [errW_none,errW_some] <;> rfl)|(simp [*,errW_none,errW_some] <;> rfl),zz HB⟩
       ·
        rw [if_neg c21] at H;have c21b0:=beq_eq_false_iff_ne.mpr c21;have c21b1:=bne_iff_ne.mpr c21;simp only [Option.some.injEq,Prod.mk.injEq] at H;obtain ⟨rfl,rfl⟩:=H
        go_wp2_with (first|((with_reducible refine gate_callee (f:=81) rfl ?_);refine goesL_ (some 20) rfl rfl Try.func81 (by kernel_rfl) rfl #[.string (a0.extract 1 a0.size)] rfl (by (try simp only [zCb,zMb,zNb]);first|done|rfl|(simp only [zLb,zDb];rfl)) ?_;(with_reducible refine (spec_ParseInt.calls kj1 (a0.extract 1 a0.size) t209 false _ A8.out).mono ?_);rintro e w24 ⟨rfl,hb⟩;refine ⟨_,rfl,?_⟩;replace HB:=zA (zJb (zz HB) hb);(try clear hb);(try clear hb2);(try clear hk);(try clear hi))|(go_at_call 72;(with_reducible refine (spec_FormatTerm.calls kj1 (-1000) t212 _ A20.out).mono ?_);rintro e w25 ⟨rfl,hb⟩;replace HB:=zA (zJb (zz HB) hb);(try clear hb);(try clear hb2);(try clear hk);(try clear hi)))
        go_ret2
        exact ⟨by first|rfl|(simp [errW_none,errW_some] <;> rfl)|(simp [*,errW_none,errW_some] <;> rfl),zz HB⟩
    ·
     rw [if_neg c7] at H
     exact absurd H (by simp)
   ·
    replace c6:=Bool.eq_false_iff.mpr c6
    subst c6
    have H1 : ((spec_ParseInt.f kj1 a0).bind fun bt213 => (if bt213.2 = true then (spec_ParseTerm.j1 kj1 a0 (-1000) bt213.1 (decide (bt213.1 ≥ 0))) else (spec_ParseTerm.j1 kj1 a0 (-1000) bt213.1 false))) = some (r1,r2):=by rw [if_neg (show ¬ (false = true) by decide)] at H;exact H
    clear H;have H:=H1;clear H1;replace H:=Option.bind_eq_some_iff.mp H;obtain ⟨⟨t213,t214⟩,A260,H⟩:=H;(try dsimp only at H);have A26:=zA A260;clear A260;have HC27:=zA H;clear H
    go_upto_region 7 with (first|((with_reducible refine gate_callee (f:=81) rfl ?_);refine goesL_ (some 27) rfl rfl Try.func81 (by kernel_rfl) rfl #[.string a0] rfl (by (try simp only [zCb,zMb,zNb]);first|done|rfl|(simp only [zLb,zDb];rfl)) ?_;(with_reducible refine (spec_ParseInt.calls kj1 a0 t213 t214 _ A26.out).mono ?_);rintro e w28 ⟨rfl,hb⟩;refine ⟨_,rfl,?_⟩;replace HB:=zA (zJb (zz HB) hb);(try clear hb);(try clear hb2);(try clear hk);(try clear hi)))
    (try simp only [Act.put,zO,zEb,zFb])
    go_cut [34] (fun v34 wc => ∃ (kq : Nat) (x34_26 : Bool),v34 = .bool x34_26 ∧ Aside0 (spec_ParseTerm.j1 kq a0 (-1000) t213 x34_26 = some (r1,r2)) ∧ Aside0 (kq ≤ kj1) ∧ Aside0 (Below w.heap.size w wc))
    case first =>
     have H:=HC27.out;clear HC27
     by_cases c29 : t214 = true
     ·
      subst c29
      rw [if_pos rfl] at H
      have H':=zA H
      clear H
      go_wp2
      go_meet
      case rel => exact ⟨_,(decide (t213 ≥ 0)),za,H',⟨by have:=HJ1.out;first|omega|exact Nat.le_refl _⟩,⟨zz HB⟩⟩
     ·
      replace c29:=Bool.eq_false_iff.mpr c29
      subst c29
      have H1 : (spec_ParseTerm.j1 kj1 a0 (-1000) t213 false) = some (r1,r2):=by rw [if_neg (show ¬ (false = true) by decide)] at H;exact H
      clear H;have H:=H1;clear H1
      have H':=zA H
      clear H
      go_wp2
      go_meet
      case rel => exact ⟨_,(false),za,H',⟨by have:=HJ1.out;first|omega|exact Nat.le_refl _⟩,⟨zz HB⟩⟩
    case rest =>
     clear HC27;(try clear c1);(try clear c2);(try clear p2);(try clear c3);(try clear c3b0);(try clear c3b1);(try clear c4);(try clear c4b0);(try clear c4b1);(try clear p5);(try clear q5);(try clear hx5);(try clear qi5);(try clear c6);(try clear c7);(try clear c7b0);(try clear c7b1);(try clear c8);(try clear c9);(try clear c10);(try clear c10b0);(try clear c10b1);(try clear c13);(try clear c13b0);(try clear c13b1);(try clear c18);(try clear c18b0);(try clear c18b1);(try clear c21);(try clear c21b0);(try clear c21b1);(try clear c24);(try clear c29);(try clear p2);(try clear p5);(try clear q5);obtain ⟨kq,x34_26,rfl,HA,HJ26,HB⟩:=hcut
     cases kq with
     | zero => exact absurd HA.out (by simp [spec_ParseTerm.j1])
     | succ kj26 =>
      have H:=HA.out;clear HA;simp only [spec_ParseTerm.j1] at H
      by_cases c30 : x34_26 = true
      ·
       subst c30
       rw [if_pos rfl] at H
       by_cases c31 : a0.toList = ([] : List UInt8)
       ·
        rw [if_pos c31] at H;have c31b0:=beq_iff_eq.mpr c31;have c31b1:=bne_eq_false_iff_eq.mpr c31;clear c31;simp only [Option.some.injEq,Prod.mk.injEq] at H;obtain ⟨rfl,rfl⟩:=H
        go_wp2
        go_ret2
        exact ⟨by first|rfl|(simp [errW_none,errW_some] <;> rfl)|(simp [*,errW_none,errW_some] <;> rfl),zz HB⟩
       ·
        rw [if_neg c31] at H;have c31b0:=beq_eq_false_iff_ne.mpr c31;have c31b1:=bne_iff_ne.mpr c31;replace H:=Option.bind_eq_some_iff.mp H;obtain ⟨t215,A320,H⟩:=H;(try dsimp only at H);have A32:=zA A320;clear A320
        by_cases c33 : t215.toList = a0.toList
        ·
         rw [if_pos c33] at H;have c33b0:=beq_iff_eq.mpr c33;have c33b1:=bne_eq_false_iff_eq.mpr c33;clear c33;simp only [Option.some.injEq,Prod.mk.injEq] at H;obtain ⟨rfl,rfl⟩:=H
         go_wp2_with (first|(go_at_call 72;(with_reducible refine (spec_FormatTerm.calls kj26 (wrap64 ((-1) - t213)) t215 _ A32.out).mono ?_);rintro e w34 ⟨rfl,hb⟩;replace HB:=zA (zJb (zz HB) hb);(try clear hb);(try clear hb2);(try clear hk);(try clear hi)))
         go_ret2
         exact ⟨by first|rfl|(simp [errW_none,errW_some] <;> rfl)|(simp [*,errW_none,errW_some] <;> rfl),zz HB⟩
        ·
         rw [if_neg c33] at H;have c33b0:=beq_eq_false_iff_ne.mpr c33;have c33b1:=bne_iff_ne.mpr c33;simp only [Option.some.injEq,Prod.mk.injEq] at H;obtain ⟨rfl,rfl⟩:=H
         go_wp2_with (first|(go_at_call 72;(with_reducible refine (spec_FormatTerm.calls kj26 (wrap64 ((-1) - t213)) t215 _ A32.out).mono ?_);rintro e w35 ⟨rfl,hb⟩;replace HB:=zA (zJb (zz HB) hb);(try clear hb);(try clear hb2);(try clear hk);(try clear hi)))
         go_ret2
         exact ⟨by first|rfl|(simp [errW_none,errW_some] <;> rfl)|(simp [*,errW_none,errW_some] <;> rfl),zz HB⟩
      ·
       replace c30:=Bool.eq_false_iff.mpr c30
       subst c30
       have H1 : (if a0.toList = ([] : List UInt8) then (some (0,false)) else ((spec_FormatTerm.f kj26 (-1000)).bind fun t216 => (if t216.toList = a0.toList then (some ((-1000),true)) else (some (0,false))))) = some (r1,r2):=by rw [if_neg (show ¬ (false = true) by decide)] at H;exact H
       clear H;have H:=H1;clear H1
       by_cases c36 : a0.toList = ([] : List UInt8)
       ·
        rw [if_pos c36] at H;have c36b0:=beq_iff_eq.mpr c36;have c36b1:=bne_eq_false_iff_eq.mpr c36;clear c36;simp only [Option.some.injEq,Prod.mk.injEq] at H;obtain ⟨rfl,rfl⟩:=H
        go_wp2
        go_ret2
        exact ⟨by first|rfl|(simp [errW_none,errW_some] <;> rfl)|(simp [*,errW_none,errW_some] <;> rfl),zz HB⟩
       ·
        rw [if_neg c36] at H;have c36b0:=beq_eq_false_iff_ne.mpr c36;have c36b1:=bne_iff_ne.mpr c36;replace H:=Option.bind_eq_some_iff.mp H;obtain ⟨t216,A370,H⟩:=H;(try dsimp only at H);have A37:=zA A370;clear A370
        by_cases c38 : t216.toList = a0.toList
        ·
         rw [if_pos c38] at H;have c38b0:=beq_iff_eq.mpr c38;have c38b1:=bne_eq_false_iff_eq.mpr c38;clear c38;simp only [Option.some.injEq,Prod.mk.injEq] at H;obtain ⟨rfl,rfl⟩:=H
         go_wp2_with (first|(go_at_call 72;(with_reducible refine (spec_FormatTerm.calls kj26 (-1000) t216 _ A37.out).mono ?_);rintro e w39 ⟨rfl,hb⟩;replace HB:=zA (zJb (zz HB) hb);(try clear hb);(try clear hb2);(try clear hk);(try clear hi)))
         go_ret2
         exact ⟨by first|rfl|(simp [errW_none,errW_some] <;> rfl)|(simp [*,errW_none,errW_some] <;> rfl),zz HB⟩
        ·
         rw [if_neg c38] at H;have c38b0:=beq_eq_false_iff_ne.mpr c38;have c38b1:=bne_iff_ne.mpr c38;simp only [Option.some.injEq,Prod.mk.injEq] at H;obtain ⟨rfl,rfl⟩:=H
         go_wp2_with (first|(go_at_call 72;(with_reducible refine (spec_FormatTerm.calls kj26 (-1000) t216 _ A37.out).mono ?_);rintro e w40 ⟨rfl,hb⟩;replace HB:=zA (zJb (zz HB) hb);(try clear hb);(try clear hb2);(try clear hk);(try clear hi)))
         go_ret2
         exact ⟨by first|rfl|(simp [errW_none,errW_some] <;> rfl)|(simp [*,errW_none,errW_some] <;> rfl),zz HB⟩

/-! ### spec_l2Cut: function 108 -/
def spec_l2Cut.l0 : Nat → ByteArray → Int → List ByteArray → ByteArray → Int → Option (List ByteArray)
 | 0, _, _, _, _, _ => none
 | k + 1, x0, x1, x5, x6, x7 => if x7 < (x0.size : Int) then (if 0 ≤ x7 then (if (bt x0 x7) = x1 then (if x5.length < 8796093022208 then (spec_l2Cut.l0 k x0 x1 (x5 ++ [x6]) (⟨#[]⟩ : ByteArray) (wrap64 (x7 + 1))) else (none)) else (if x7 ≤ (wrap64 (x7 + 1)) then (if (wrap64 (x7 + 1)) ≤ (x0.size : Int) then (if x6.size + (x0.extract (x7 : Int).toNat ((wrap64 (x7 + 1)) : Int).toNat).size ≤ 9223372036854775807 then (spec_l2Cut.l0 k x0 x1 x5 (x6 ++ (x0.extract (x7 : Int).toNat ((wrap64 (x7 + 1)) : Int).toNat)) (wrap64 (x7 + 1))) else (none)) else (none)) else (none))) else (none)) else (if x5.length < 8796093022208 then (some (x5 ++ [x6])) else (none))
def spec_l2Cut.f (k : Nat) (a0 : ByteArray) (a1 : Int) : Option (List ByteArray) := spec_l2Cut.l0 k a0 a1 (([] : List ByteArray)) (⟨#[]⟩ : ByteArray) 0
theorem spec_l2Cut.mono_l : ∀ k, (∀ y0 y1 y2 y3 y4, LeO (spec_l2Cut.l0 k y0 y1 y2 y3 y4) (spec_l2Cut.l0 (k + 1) y0 y1 y2 y3 y4))
 | 0 => fun _ _ _ _ _ r h => by simp [spec_l2Cut.l0] at h
 | k + 1 => by
  have ih0:=spec_l2Cut.mono_l k
  ·
   intro y0 y1 y2 y3 y4
   unfold spec_l2Cut.l0
   repeat' first
   | (with_reducible exact ih0 _ _ _ _ _)
   | (with_reducible exact LeO.refl _)
   | (with_reducible exact LeO.none _)
   | (with_reducible refine LeO.ite ?_ ?_)
   | (with_reducible refine LeO.bind ?_ (fun _ => ?_))
   | exact ih0 _ _ _ _ _
   | exact LeO.none _
   | refine LeO.ite ?_ ?_
   | refine LeO.bind ?_ (fun _ => ?_)
theorem spec_l2Cut.mono : ∀ a0 a1 k, LeO (spec_l2Cut.f k a0 a1) (spec_l2Cut.f (k + 1) a0 a1) := by
 intro a0 a1 k
 have ih0:=spec_l2Cut.mono_l k
 unfold spec_l2Cut.f
 repeat' first
   | (with_reducible exact ih0 _ _ _ _ _)
   | (with_reducible exact LeO.refl _)
   | (with_reducible exact LeO.none _)
   | (with_reducible refine LeO.ite ?_ ?_)
   | (with_reducible refine LeO.bind ?_ (fun _ => ?_))
   | exact ih0 _ _ _ _ _
   | exact LeO.none _
   | refine LeO.ite ?_ ?_
   | refine LeO.bind ?_ (fun _ => ?_)
set_option maxHeartbeats 8000000 in
set_option maxRecDepth 100000 in
theorem spec_l2Cut.calls (k : Nat) (a0 : ByteArray) (a1 : Int) (r : List ByteArray) (w : World) (h : spec_l2Cut.f k a0 a1 = some r) :
  Calls Try.prog 108 #[.string a0, .int .u8 a1] w fun e w' => ∃ v0_ : Value, e = .returned (v0_) ∧ Kd.R Kd.string 9 w' w.heap.size (fun _ => True) v0_ r ∧ Below w.heap.size w w' := by
 have HB:=zA (Below.refl w.heap.size w)
 have H : (spec_l2Cut.l0 k a0 a1 (([] : List ByteArray)) (⟨#[]⟩ : ByteArray) 0) = some r:=h
 clear h;obtain ⟨y217,hy217⟩ : ∃ y_ : List ByteArray,y_ = (([] : List ByteArray)):=⟨_,rfl⟩
 replace H : (spec_l2Cut.l0 k a0 a1 y217 (⟨#[]⟩ : ByteArray) 0) = some r:=by first|(rw [hy217];with_reducible exact H)|(have H2_:=(Option.bind_some _ _).symm.trans H;rw [hy217];with_reducible exact H2_)|(have H2_:=(Option.bind_some _ _).symm.trans H;with_reducible exact H2_)|with_reducible exact H|(rw [hy217];exact H)|exact H
 have Ny217:=zA hy217;clear hy217
 have H':=zA H
 clear H
 go_enter Try.func108,Try.ntmps108
 go_wp2_with (first|((with_reducible refine gate_dst (N:=8) rfl ?_);refine Kd.R_lit Kd.string _ 9 ?hg (N:=8) ?hd (xs:=([] : List ByteArray)) (inner:=[]) (ok:=fun _ => True) (okp:=fun _ => True) ?hr ?hp (fun _ hk => hk) trivial (Below.refl _ _) (Nat.le_refl _) (by simp) ?_;(case hd => rfl);(case hg => rfl);(case hr => first|(go_simp;done)|(go_simp;rfl));(case hp => exact (Reps.none _ _));intro v218 w3 ho4 hb hg_ hnew_;clear hg_ hnew_;(first|rw [← Ny217.out] at ho4|(simp only [Int.reduceToNat] at ho4;rw [← Ny217.out] at ho4));have HO219:=zA (zHb ho4 (zT (zz HB)));replace HB:=zA (zJb (zz HB) hb);clear hb ho4))
 go_loopg [5,6,7] k (fun kq v5 v6 v7 w' => ∃ (x5_1 : List ByteArray) (x6_1 : ByteArray) (x7_1 : Int),v6 = .string x6_1 ∧ v7 = .int .i64 x7_1 ∧ Aside0 (spec_l2Cut.l0 kq a0 a1 x5_1 x6_1 x7_1 = some r) ∧ Aside0 (kq ≤ k) ∧ Aside0 (Kd.R Kd.string 9 w' w.heap.size (fun _ => True) v5 x5_1) ∧ Aside0 (Below w.heap.size w w'))
 case atStart => exact ⟨(y217),((⟨#[]⟩ : ByteArray)),(0),za,za,H',⟨Nat.le_refl _⟩,⟨zq HO219⟩,⟨zz HB⟩⟩
 case round =>
  clear H';(try clear c1);(try clear p2);obtain ⟨x5_1,x6_1,x7_1,rfl,rfl,HA,HK1,HO_5,HB⟩:=hrel
  cases gk with
  | zero => exact absurd HA.out (by simp [spec_l2Cut.l0])
  | succ k1 =>
   have H:=HA.out;clear HA;simp only [spec_l2Cut.l0] at H
   by_cases c5 : x7_1 < (a0.size : Int)
   ·
    rw [if_pos c5] at H;have c5b0:=decide_eq_true c5;clear c5
    by_cases c6 : 0 ≤ x7_1
    ·
     rw [if_pos c6] at H;have c6b0:=decide_eq_true c6;clear c6
     by_cases c8 : (bt a0 x7_1) = a1
     ·
      rw [if_pos c8] at H;have c8b0:=beq_iff_eq.mpr c8;have c8b1:=bne_eq_false_iff_eq.mpr c8;clear c8
      by_cases c9 : x5_1.length < 8796093022208
      ·
       rw [if_pos c9] at H;have LMc9:=zA c9;clear c9;obtain ⟨y220,hy220⟩ : ∃ y_ : List ByteArray,y_ = (x5_1 ++ [x6_1]):=⟨_,rfl⟩
       replace H : (spec_l2Cut.l0 k1 a0 a1 y220 (⟨#[]⟩ : ByteArray) (wrap64 (x7_1 + 1))) = some r:=by first|(rw [hy220];with_reducible exact H)|(have H2_:=(Option.bind_some _ _).symm.trans H;rw [hy220];with_reducible exact H2_)|(have H2_:=(Option.bind_some _ _).symm.trans H;with_reducible exact H2_)|with_reducible exact H|(rw [hy220];exact H)|exact H
       have Ny220:=zA hy220;clear hy220
       have H':=zA H
       clear H;have p7 : 0 ≤ (x7_1 : Int):=zXb ze;have q7 : x7_1 < (a0.size : Int):=zXb ze;have hx7:=bt_at a0 x7_1;replace p7:=eq_true p7;replace q7:=eq_true q7
       go_wp2_with (first|((with_reducible refine gate_builtin (b:=.append) (xs:=#[.tmp 20,.tmp 22]) rfl ?_);at_builtin;refine Kd.R_append Kd.string (w0:=w) w.heap.size rfl (.tmp 20) (.tmp 22) 92 9 (.string ⟨#[]⟩) 16 rfl Try.underlying92 info9 rfl (by decide) (by omega) u5 x5_1 x6_1 [.string x6_1] (fun _ => True) (fun _ => False) rfl rfl ?aP (fun _ hk => hk.elim) ?aF ?aO ?aB ?aS ?aL ?_;(case aP => exact rfl);(case aB => exact (zz HB));(case aF => exact (fun _ _ => trivial));(case aO => exact (zq HO_5));(case aS => exact (zT (zz HB)));(case aL => have:=LMc9.out;omega);intro v221 w10 ho hb hg hat;rw [← Ny220.out] at ho;replace HB:=zA (hb);have HO222:=zA (ho);clear HO_5;clear ho hb hg hat))
       go_roundg k1
       case measure => have:=HK1.out;omega
       case rel => exact ⟨(y220),((⟨#[]⟩ : ByteArray)),(wrap64 (x7_1 + 1)),za,za,H',⟨by have:=HK1.out;omega⟩,⟨zq HO222⟩,⟨zz HB⟩⟩
      ·
       rw [if_neg c9] at H
       exact absurd H (by simp)
     ·
      rw [if_neg c8] at H;have c8b0:=beq_eq_false_iff_ne.mpr c8;have c8b1:=bne_iff_ne.mpr c8;have c11b0:=eq_true (zXb ze : 0 ≤ x7_1)
      by_cases c12 : x7_1 ≤ (wrap64 (x7_1 + 1))
      ·
       rw [if_pos c12] at H;have c12b0:=eq_true c12;have c12b1:=decide_eq_true c12
       by_cases c13 : (wrap64 (x7_1 + 1)) ≤ (a0.size : Int)
       ·
        rw [if_pos c13] at H;have c13b0:=eq_true c13;have c13b1:=decide_eq_true c13
        by_cases c14 : x6_1.size + (a0.extract (x7_1 : Int).toNat ((wrap64 (x7_1 + 1)) : Int).toNat).size ≤ 9223372036854775807
        ·
         rw [if_pos c14] at H;have c14b0:=eq_true c14;have c14b1:=decide_eq_true c14
         try have c14b2 : (9223372036854775807 < x6_1.size + (a0.extract (x7_1 : Int).toNat ((wrap64 (x7_1 + 1)) : Int).toNat).size) = False:=eq_false (Nat.not_lt.2 c14)
         have H':=zA H
         clear H;have p7 : 0 ≤ (x7_1 : Int):=zXb ze;have q7 : x7_1 < (a0.size : Int):=zXb ze;have hx7:=bt_at a0 x7_1;replace p7:=eq_true p7;replace q7:=eq_true q7
         go_wp2
         go_roundg k1
         case measure => have:=HK1.out;omega
         case rel => exact ⟨(x5_1),(x6_1 ++ (a0.extract (x7_1 : Int).toNat ((wrap64 (x7_1 + 1)) : Int).toNat)),(wrap64 (x7_1 + 1)),za,za,H',⟨by have:=HK1.out;omega⟩,⟨zq HO_5⟩,⟨zz HB⟩⟩
        ·
         rw [if_neg c14] at H
         exact absurd H (by simp)
       ·
        rw [if_neg c13] at H
        exact absurd H (by simp)
      ·
       rw [if_neg c12] at H
       exact absurd H (by simp)
    ·
     rw [if_neg c6] at H
     exact absurd H (by simp)
   ·
    rw [if_neg c5] at H;have c5b0:=decide_eq_false c5;clear c5
    by_cases c15 : x5_1.length < 8796093022208
    ·
     rw [if_pos c15] at H;have LMc15:=zA c15;clear c15;obtain ⟨y223,hy223⟩ : ∃ y_ : List ByteArray,y_ = (x5_1 ++ [x6_1]):=⟨_,rfl⟩
     replace H : (some y223) = some r:=by first|(rw [hy223];with_reducible exact H)|(have H2_:=(Option.bind_some _ _).symm.trans H;rw [hy223];with_reducible exact H2_)|(have H2_:=(Option.bind_some _ _).symm.trans H;with_reducible exact H2_)|with_reducible exact H|(rw [hy223];exact H)|exact H
     have Ny223:=zA hy223;clear hy223
     obtain rfl:=Option.some.inj H
     go_wp2_with (first|((with_reducible refine gate_builtin (b:=.append) (xs:=#[.tmp 31,.tmp 33]) rfl ?_);at_builtin;refine Kd.R_append Kd.string (w0:=w) w.heap.size rfl (.tmp 31) (.tmp 33) 92 9 (.string ⟨#[]⟩) 16 rfl Try.underlying92 info9 rfl (by decide) (by omega) u5 x5_1 x6_1 [.string x6_1] (fun _ => True) (fun _ => False) rfl rfl ?aP (fun _ hk => hk.elim) ?aF ?aO ?aB ?aS ?aL ?_;(case aP => exact rfl);(case aB => exact (zz HB));(case aF => exact (fun _ _ => trivial));(case aO => exact (zq HO_5));(case aS => exact (zT (zz HB)));(case aL => have:=LMc15.out;omega);intro v224 w16 ho hb hg hat;rw [← Ny223.out] at ho;replace HB:=zA (hb);have HO225:=zA (ho);clear HO_5;clear ho hb hg hat))
     go_ret
     exact ⟨_,by first|rfl|(simp [errW_none,errW_some] <;> rfl)|(simp [*,errW_none,errW_some] <;> rfl),zq HO225,zz HB⟩
    ·
     rw [if_neg c15] at H
     exact absurd H (by simp)

/-! ### spec_l3Args: function 112 -/
def spec_l3Args.l0 : Nat → List Int → List ByteArray → Int → Option (List Int)
 | 0, _, _, _ => none
 | k + 1, x3, x4, x5 => if x5 < (x4.length : Int) then (if 0 ≤ x5 then ((spec_ParseTerm.f k (rdOf ByteArray.empty x4 x5)).bind fun bt233 => (if bt233.2 = true then (if x3.length < 17592186044416 then (spec_l3Args.l0 k (x3 ++ [bt233.1]) x4 (wrap64 (x5 + 1))) else (none)) else (if x3.length < 17592186044416 then (spec_l3Args.l0 k (x3 ++ [(-1000)]) x4 (wrap64 (x5 + 1))) else (none)))) else (none)) else (some x3)
def spec_l3Args.f (k : Nat) (a0 : ByteArray) : Option (List Int) := (some (([] : List Int) : List Int)).bind fun y226 => (if a0.toList = ([] : List UInt8) then (some y226) else ((spec_l2Cut.f k a0 44).bind fun t229 => (spec_l3Args.l0 k y226 t229 0)))
theorem spec_l3Args.mono_l : ∀ k, (∀ y0 y1 y2, LeO (spec_l3Args.l0 k y0 y1 y2) (spec_l3Args.l0 (k + 1) y0 y1 y2))
 | 0 => fun _ _ _ r h => by simp [spec_l3Args.l0] at h
 | k + 1 => by
  have ih0:=spec_l3Args.mono_l k
  ·
   intro y0 y1 y2
   unfold spec_l3Args.l0
   repeat' first
   | (with_reducible exact ih0 _ _ _)
   | (with_reducible exact spec_ParseTerm.mono _ _)
   | (with_reducible exact spec_l2Cut.mono _ _ _)
   | (with_reducible exact LeO.refl _)
   | (with_reducible exact LeO.none _)
   | (with_reducible refine LeO.ite ?_ ?_)
   | (with_reducible refine LeO.bind ?_ (fun _ => ?_))
   | exact ih0 _ _ _
   | exact LeO.none _
   | refine LeO.ite ?_ ?_
   | refine LeO.bind ?_ (fun _ => ?_)
theorem spec_l3Args.mono : ∀ a0 k, LeO (spec_l3Args.f k a0) (spec_l3Args.f (k + 1) a0) := by
 intro a0 k
 have ih0:=spec_l3Args.mono_l k
 unfold spec_l3Args.f
 repeat' first
   | (with_reducible exact ih0 _ _ _)
   | (with_reducible exact spec_ParseTerm.mono _ _)
   | (with_reducible exact spec_l2Cut.mono _ _ _)
   | (with_reducible exact LeO.refl _)
   | (with_reducible exact LeO.none _)
   | (with_reducible refine LeO.ite ?_ ?_)
   | (with_reducible refine LeO.bind ?_ (fun _ => ?_))
   | exact ih0 _ _ _
   | exact LeO.none _
   | refine LeO.ite ?_ ?_
   | refine LeO.bind ?_ (fun _ => ?_)
set_option maxHeartbeats 8000000 in
set_option maxRecDepth 100000 in
theorem spec_l3Args.calls (k : Nat) (a0 : ByteArray) (r : List Int) (w : World) (h : spec_l3Args.f k a0 = some r) :
  Calls Try.prog 112 #[.string a0] w fun e w' => ∃ v0_ : Value, e = .returned (v0_) ∧ Kd.R (Kd.int .i64) 3 w' w.heap.size (fun _ => True) v0_ r ∧ Below w.heap.size w w' := by
 have HB:=zA (Below.refl w.heap.size w)
 have H : ((some (([] : List Int) : List Int)).bind fun y226 => (if a0.toList = ([] : List UInt8) then (some y226) else ((spec_l2Cut.f k a0 44).bind fun t229 => (spec_l3Args.l0 k y226 t229 0)))) = some r:=h
 clear h;obtain ⟨y226,hy226⟩ : ∃ y_ : List Int,y_ = (([] : List Int)):=⟨_,rfl⟩
 replace H : (if a0.toList = ([] : List UInt8) then (some y226) else ((spec_l2Cut.f k a0 44).bind fun t229 => (spec_l3Args.l0 k y226 t229 0))) = some r:=by first|(rw [hy226];with_reducible exact H)|(have H2_:=(Option.bind_some _ _).symm.trans H;rw [hy226];with_reducible exact H2_)|(have H2_:=(Option.bind_some _ _).symm.trans H;with_reducible exact H2_)|with_reducible exact H|(rw [hy226];exact H)|exact H
 have Ny226:=zA hy226;clear hy226
 by_cases c2 : a0.toList = ([] : List UInt8)
 ·
  rw [if_pos c2] at H;have c2b0:=beq_iff_eq.mpr c2;have c2b1:=bne_eq_false_iff_eq.mpr c2;clear c2
  obtain rfl:=Option.some.inj H
  go_enter Try.func112,Try.ntmps112
  go_wp2_with (first|((with_reducible refine gate_dst (N:=8) rfl ?_);refine Kd.R_lit (Kd.int .i64) _ 3 ?hg (N:=8) ?hd (xs:=([] : List Int)) (inner:=[]) (ok:=fun _ => True) (okp:=fun _ => True) ?hr ?hp (fun _ hk => hk) trivial (Below.refl _ _) (Nat.le_refl _) (by simp) ?_;(case hd => rfl);(case hg => rfl);(case hr => first|(go_simp;done)|(go_simp;rfl));(case hp => exact (Reps.none _ _));intro v227 w3 ho4 hb hg_ hnew_;clear hg_ hnew_;(first|rw [← Ny226.out] at ho4|(simp only [Int.reduceToNat] at ho4;rw [← Ny226.out] at ho4));have HO228:=zA (zHb ho4 (zT (zz HB)));replace HB:=zA (zJb (zz HB) hb);clear hb ho4))
  go_ret
  exact ⟨_,by first|rfl|(simp [errW_none,errW_some] <;> rfl)|(simp [*,errW_none,errW_some] <;> rfl),zq HO228,zz HB⟩
 ·
  rw [if_neg c2] at H;have c2b0:=beq_eq_false_iff_ne.mpr c2;have c2b1:=bne_iff_ne.mpr c2;replace H:=Option.bind_eq_some_iff.mp H;obtain ⟨t229,A50,H⟩:=H;(try dsimp only at H);have A5:=zA A50;clear A50
  have H':=zA H
  clear H
  go_enter Try.func112,Try.ntmps112
  go_wp2_with (first|((with_reducible refine gate_dst (N:=8) rfl ?_);refine Kd.R_lit (Kd.int .i64) _ 3 ?hg (N:=8) ?hd (xs:=([] : List Int)) (inner:=[]) (ok:=fun _ => True) (okp:=fun _ => True) ?hr ?hp (fun _ hk => hk) trivial (Below.refl _ _) (Nat.le_refl _) (by simp) ?_;(case hd => rfl);(case hg => rfl);(case hr => first|(go_simp;done)|(go_simp;rfl));(case hp => exact (Reps.none _ _));intro v227 w6 ho7 hb hg_ hnew_;clear hg_ hnew_;(first|rw [← Ny226.out] at ho7|(simp only [Int.reduceToNat] at ho7;rw [← Ny226.out] at ho7));have HO228:=zA (zHb ho7 (zT (zz HB)));replace HB:=zA (zJb (zz HB) hb);clear hb ho7)|((with_reducible refine gate_callee (f:=108) rfl ?_);refine goesL_ (some 13) rfl rfl Try.func108 (by kernel_rfl) rfl #[.string a0,.int .u8 44] rfl (by (try simp only [zCb,zMb,zNb]);first|done|rfl|(simp only [zLb,zDb];rfl)) ?_;(with_reducible refine (spec_l2Cut.calls k a0 44 t229 _ A5.out).mono ?_);rintro e w8 ⟨v230,rfl,ho0,hb⟩;refine ⟨_,rfl,?_⟩;replace HO228:=zA (zZ (zq HO228) hb);have HO231:=zA (zHb ho0 (zT (zz HB)));replace HB:=zA (zJb (zz HB) hb);(try clear hb);(try clear hb2);(try clear hk);(try clear hi);(try clear ho0)))
  go_loopg [3,5] k (fun kq v3 v5 w' => ∃ (x3_1 : List Int) (x5_1 : Int),v5 = .int .i64 x5_1 ∧ Aside0 (spec_l3Args.l0 kq x3_1 t229 x5_1 = some r) ∧ Aside0 (kq ≤ k) ∧ Aside0 (Kd.R (Kd.int .i64) 3 w' w.heap.size (fun _ => True) v3 x3_1) ∧ Aside0 (Kd.R Kd.string 9 w' w.heap.size (fun _ => True) v230 t229) ∧ Aside0 (Below w.heap.size w w'))
  case atStart => exact ⟨(y226),(0),za,H',⟨Nat.le_refl _⟩,⟨zq HO228⟩,⟨zq HO231⟩,⟨zz HB⟩⟩
  case round =>
   clear H';(try clear c1);(try clear c2);(try clear c2b0);(try clear c2b1);(try clear p2);obtain ⟨x3_1,x5_1,rfl,HA,HK1,HO_3,HO_4,HB⟩:=hrel
   cases gk with
   | zero => exact absurd HA.out (by simp [spec_l3Args.l0])
   | succ k1 =>
    have H:=HA.out;clear HA;simp only [spec_l3Args.l0] at H
    by_cases c9 : x5_1 < (t229.length : Int)
    ·
     rw [if_pos c9] at H;have c9b0:=decide_eq_true c9;clear c9
     by_cases c10 : 0 ≤ x5_1
     ·
      rw [if_pos c10] at H;have c10b0:=decide_eq_true c10;clear c10;replace H:=Option.bind_eq_some_iff.mp H;obtain ⟨⟨t233,t234⟩,A110,H⟩:=H;(try dsimp only at H);have A11:=zA A110;clear A110
      by_cases c12 : t234 = true
      ·
       subst c12
       rw [if_pos rfl] at H
       by_cases c13 : x3_1.length < 17592186044416
       ·
        rw [if_pos c13] at H;have LMc13:=zA c13;clear c13;obtain ⟨y235,hy235⟩ : ∃ y_ : List Int,y_ = (x3_1 ++ [t233]):=⟨_,rfl⟩
        replace H : (spec_l3Args.l0 k1 y235 t229 (wrap64 (x5_1 + 1))) = some r:=by first|(rw [hy235];with_reducible exact H)|(have H2_:=(Option.bind_some _ _).symm.trans H;rw [hy235];with_reducible exact H2_)|(have H2_:=(Option.bind_some _ _).symm.trans H;with_reducible exact H2_)|with_reducible exact H|(rw [hy235];exact H)|exact H
        have Ny235:=zA hy235;clear hy235
        have H':=zA H
        clear H;obtain ⟨Ao14,co14,eo14⟩:=Kd.R_slice HO_4.out
        subst eo14
        have p232 : 0 ≤ (x5_1 : Int):=zXb ze;have q232 : x5_1 < (t229.length : Int):=zXb ze;obtain ⟨ad232,e232,hx232_0⟩:=Kd.at_string (Kd.R_reads' HO_4.out).2.2 x5_1 p232 q232
        cases e232
        replace p232:=eq_true p232;replace q232:=eq_true q232
        go_wp2_with (first|((with_reducible refine gate_callee (f:=24) rfl ?_);refine goesL_ (some 25) rfl rfl Try.func24 (by kernel_rfl) rfl #[.string (rdOf ByteArray.empty t229 x5_1)] rfl (by (try simp only [zCb,zMb,zNb]);first|done|rfl|(simp only [zLb,zDb];rfl)) ?_;(with_reducible refine (spec_ParseTerm.calls k1 (rdOf ByteArray.empty t229 x5_1) t233 true _ A11.out).mono ?_);rintro e w15 ⟨rfl,hb⟩;refine ⟨_,rfl,?_⟩;replace HO_3:=zA (zZ (zq HO_3) hb);replace HO_4:=zA (zZ (zq HO_4) hb);replace HB:=zA (zJb (zz HB) hb);(try clear hb);(try clear hb2);(try clear hk);(try clear hi))|((with_reducible refine gate_builtin (b:=.append) (xs:=#[.tmp 30,.tmp 32]) rfl ?_);at_builtin;refine Kd.R_append (Kd.int .i64) (w0:=w) w.heap.size rfl (.tmp 30) (.tmp 32) 22 3 (.int .i64 0) 8 rfl Try.underlying22 info3 rfl (by decide) (by omega) u3 x3_1 t233 [.int .i64 t233] (fun _ => True) (fun _ => False) rfl rfl ?aP (fun _ hk => hk.elim) ?aF ?aO ?aB ?aS ?aL ?_;(case aP => exact rfl);(case aB => exact (zz HB));(case aF => exact (fun _ _ => trivial));(case aO => exact (zq HO_3));(case aS => exact (zT (zz HB)));(case aL => have:=LMc13.out;omega);intro v236 w16 ho hb hg hat;rw [← Ny235.out] at ho;replace HO_4:=zA (Kd.R_over' (zq HO_4) (Kd.R_typed (zq HO_3)) (by decide) hg);replace HB:=zA (hb);have HO237:=zA (ho);clear HO_3;clear ho hb hg hat))
        go_roundg k1
        case measure => have:=HK1.out;omega
        case rel => exact ⟨(y235),(wrap64 (x5_1 + 1)),za,H',⟨by have:=HK1.out;omega⟩,⟨zq HO237⟩,⟨zq HO_4⟩,⟨zz HB⟩⟩
       ·
        rw [if_neg c13] at H
        exact absurd H (by simp)
      ·
       replace c12:=Bool.eq_false_iff.mpr c12
       subst c12
       have H1 : (if x3_1.length < 17592186044416 then (spec_l3Args.l0 k1 (x3_1 ++ [(-1000)]) t229 (wrap64 (x5_1 + 1))) else (none)) = some r:=by rw [if_neg (show ¬ (false = true) by decide)] at H;exact H
       clear H;have H:=H1;clear H1
       by_cases c17 : x3_1.length < 17592186044416
       ·
        rw [if_pos c17] at H;have LMc17:=zA c17;clear c17;obtain ⟨y238,hy238⟩ : ∃ y_ : List Int,y_ = (x3_1 ++ [(-1000)]):=⟨_,rfl⟩
        replace H : (spec_l3Args.l0 k1 y238 t229 (wrap64 (x5_1 + 1))) = some r:=by first|(rw [hy238];with_reducible exact H)|(have H2_:=(Option.bind_some _ _).symm.trans H;rw [hy238];with_reducible exact H2_)|(have H2_:=(Option.bind_some _ _).symm.trans H;with_reducible exact H2_)|with_reducible exact H|(rw [hy238];exact H)|exact H
        have Ny238:=zA hy238;clear hy238
        have H':=zA H
        clear H;obtain ⟨Ao18,co18,eo18⟩:=Kd.R_slice HO_4.out
        subst eo18
        have p232 : 0 ≤ (x5_1 : Int):=zXb ze;have q232 : x5_1 < (t229.length : Int):=zXb ze;obtain ⟨ad232,e232,hx232_0⟩:=Kd.at_string (Kd.R_reads' HO_4.out).2.2 x5_1 p232 q232
        cases e232
        replace p232:=eq_true p232;replace q232:=eq_true q232
        go_wp2_with (first|((with_reducible refine gate_callee (f:=24) rfl ?_);refine goesL_ (some 25) rfl rfl Try.func24 (by kernel_rfl) rfl #[.string (rdOf ByteArray.empty t229 x5_1)] rfl (by (try simp only [zCb,zMb,zNb]);first|done|rfl|(simp only [zLb,zDb];rfl)) ?_;(with_reducible refine (spec_ParseTerm.calls k1 (rdOf ByteArray.empty t229 x5_1) t233 false _ A11.out).mono ?_);rintro e w19 ⟨rfl,hb⟩;refine ⟨_,rfl,?_⟩;replace HO_3:=zA (zZ (zq HO_3) hb);replace HO_4:=zA (zZ (zq HO_4) hb);replace HB:=zA (zJb (zz HB) hb);(try clear hb);(try clear hb2);(try clear hk);(try clear hi))|((with_reducible refine gate_builtin (b:=.append) (xs:=#[.tmp 30,.tmp 32]) rfl ?_);at_builtin;refine Kd.R_append (Kd.int .i64) (w0:=w) w.heap.size rfl (.tmp 30) (.tmp 32) 22 3 (.int .i64 0) 8 rfl Try.underlying22 info3 rfl (by decide) (by omega) u3 x3_1 (-1000) [.int .i64 (-1000)] (fun _ => True) (fun _ => False) rfl rfl ?aP (fun _ hk => hk.elim) ?aF ?aO ?aB ?aS ?aL ?_;(case aP => exact rfl);(case aB => exact (zz HB));(case aF => exact (fun _ _ => trivial));(case aO => exact (zq HO_3));(case aS => exact (zT (zz HB)));(case aL => have:=LMc17.out;omega);intro v239 w20 ho hb hg hat;rw [← Ny238.out] at ho;replace HO_4:=zA (Kd.R_over' (zq HO_4) (Kd.R_typed (zq HO_3)) (by decide) hg);replace HB:=zA (hb);have HO240:=zA (ho);clear HO_3;clear ho hb hg hat))
        go_roundg k1
        case measure => have:=HK1.out;omega
        case rel => exact ⟨(y238),(wrap64 (x5_1 + 1)),za,H',⟨by have:=HK1.out;omega⟩,⟨zq HO240⟩,⟨zq HO_4⟩,⟨zz HB⟩⟩
       ·
        rw [if_neg c17] at H
        exact absurd H (by simp)
     ·
      rw [if_neg c10] at H
      exact absurd H (by simp)
    ·
     rw [if_neg c9] at H;have c9b0:=decide_eq_false c9;clear c9
     obtain rfl:=Option.some.inj H
     obtain ⟨Ao21,co21,eo21⟩:=Kd.R_slice HO_4.out
     subst eo21
     go_wp2
     go_ret
     exact ⟨_,by first|rfl|(simp [errW_none,errW_some] <;> rfl)|(simp [*,errW_none,errW_some] <;> rfl),zq HO_3,zz HB⟩

/-! ### spec_ParseAtom: function 57 -/
def spec_ParseAtom.f (k : Nat) (a0 : ByteArray) : Option (Int × List Int × Bool) := if (a0.size : Int) < 4 then (some (0, ([] : List Int), false)) else (if 1 ≤ 2 then (if 2 ≤ (a0.size : Int) then ((spec_ParseInt.f k (a0.extract 1 2)).bind fun bt242 => (if 3 ≤ (wrap64 ((a0.size : Int) - 1)) then (if (wrap64 ((a0.size : Int) - 1)) ≤ (a0.size : Int) then ((spec_l3Args.f k (a0.extract 3 ((wrap64 ((a0.size : Int) - 1)) : Int).toNat)).bind fun t244 => (if bt242.2 = true then ((spec_FormatAtom.f k bt242.1 t244).bind fun t248 => (if t248.toList = a0.toList then (some (bt242.1, t244, true)) else (some (0, ([] : List Int), false)))) else (some (0, ([] : List Int), false)))) else (none)) else (none))) else (none)) else (none))
theorem spec_ParseAtom.mono : ∀ a0 k, LeO (spec_ParseAtom.f k a0) (spec_ParseAtom.f (k + 1) a0) := by
 intro a0 k
 unfold spec_ParseAtom.f
 repeat' first
   | (with_reducible exact spec_FormatAtom.mono _ _ _)
   | (with_reducible exact spec_ParseInt.mono _ _)
   | (with_reducible exact spec_l3Args.mono _ _)
   | (with_reducible exact LeO.refl _)
   | (with_reducible exact LeO.none _)
   | (with_reducible refine LeO.ite ?_ ?_)
   | (with_reducible refine LeO.bind ?_ (fun _ => ?_))
   | exact LeO.none _
   | refine LeO.ite ?_ ?_
   | refine LeO.bind ?_ (fun _ => ?_)
set_option maxHeartbeats 8000000 in
set_option maxRecDepth 100000 in
theorem spec_ParseAtom.calls (k : Nat) (a0 : ByteArray) (r1 : Int) (r2 : List Int) (r3 : Bool) (w : World) (h : spec_ParseAtom.f k a0 = some (r1, r2, r3)) :
  Calls Try.prog 57 #[.string a0] w fun e w' => ∃ v1_ : Value, e = .returned (.tuple #[.agg #[.int .i64 r1, v1_], .bool r3]) ∧ Kd.R (Kd.int .i64) 3 w' w.heap.size (fun _ => True) v1_ r2 ∧ Below w.heap.size w w' := by
 have hu38:=Try.underlying38;have HB:=zA (Below.refl w.heap.size w)
 have H : (if (a0.size : Int) < 4 then (some (0,([] : List Int),false)) else (if 1 ≤ 2 then (if 2 ≤ (a0.size : Int) then ((spec_ParseInt.f k (a0.extract 1 2)).bind fun bt242 => (if 3 ≤ (wrap64 ((a0.size : Int) - 1)) then (if (wrap64 ((a0.size : Int) - 1)) ≤ (a0.size : Int) then ((spec_l3Args.f k (a0.extract 3 ((wrap64 ((a0.size : Int) - 1)) : Int).toNat)).bind fun t244 => (if bt242.2 = true then ((spec_FormatAtom.f k bt242.1 t244).bind fun t248 => (if t248.toList = a0.toList then (some (bt242.1,t244,true)) else (some (0,([] : List Int),false)))) else (some (0,([] : List Int),false)))) else (none)) else (none))) else (none)) else (none))) = some (r1,r2,r3):=h
 clear h
 by_cases c2 : (a0.size : Int) < 4
 ·
  rw [if_pos c2] at H;have c2b0:=decide_eq_true c2
  have c2b1 : decide (a0.size < 4) = true:=decide_eq_true (by omega)
  clear c2;simp only [Option.some.injEq,Prod.mk.injEq] at H;obtain ⟨rfl,rfl,rfl⟩:=H
  go_enter Try.func57,Try.ntmps57
  go_wp2_with (first|((with_reducible refine gate_dst (N:=2) rfl ?_);refine box_event ?hg (N:=2) ?hd (cs:=#[.int .i64 0,.slice none 0 0]) (t:=38) ?hr ?_;(case hd => rfl);(case hg => rfl);(case hr => first|(go_simp;done)|(go_simp;rfl));intro gb241 hg w3 hbox hb;have BK241:=zA (hbox);have GW241:=zA ((by rw [hg];exact (zT (zz HB)) : w.heap.size ≤ gb241));have GE241:=zA ((by rw [hg];exact (zT (zz HB)) : w.heap.size ≤ gb241));replace HB:=zA (zJb (zz HB) hb);clear hb hbox hg;have hcz4_0:=zc (.int .i64 0) BK241 0 rfl;have hcz4_1:=zc (.slice none 0 0) BK241 1 rfl;have hfz4_0:=blk_frozen BK241.out 0;have hfz4_1:=blk_frozen BK241.out 1))
  refine bodyPost_ret (results_ct rfl _ _ gb241 38 #[.int .i64 0,.slice none 0 0] (0,0) _ rfl (by (with_reducible repeat (first|refine zF ?_ _|refine zI ?_|refine zG ?_ _));refine blk_put (cs:=#[.int .i64 0,.slice none 0 0]) ?_ 1 _ rfl;(with_reducible repeat (first|refine zF ?_ _|refine zI ?_|refine zG ?_ _));refine blk_put (cs:=#[.int .i64 0,.slice none 0 0]) ?_ 0 _ rfl;(with_reducible repeat (first|refine zF ?_ _|refine zI ?_|refine zG ?_ _));exact BK241.out) Try.underlying38 rfl (by kernel_rfl)) rfl ?_
  exact ⟨_,by first|rfl|(simp [errW_none,errW_some] <;> rfl)|(simp [*,errW_none,errW_some] <;> rfl),by first|exact Kd.R_nil _ _ _ _ _|exact Kd.N_nil _ _ _ _ _|exact Kd.V_nil _ _ _ _ _|exact Kd.Q_nil _ _ _ _ _|exact Kd.S_nil _ _ _ _ _,zz HB⟩
 ·
  rw [if_neg c2] at H;have c2b0:=decide_eq_false c2
  have c2b1 : decide (a0.size < 4) = false:=decide_eq_false (by omega)
  clear c2
  by_cases c5 : 1 ≤ 2
  ·
   rw [if_pos c5] at H;have c5b0:=eq_true c5;have c5b1:=decide_eq_true c5;clear c5
   by_cases c6 : 2 ≤ (a0.size : Int)
   ·
    rw [if_pos c6] at H;have c6b0:=eq_true c6;have c6b1:=decide_eq_true c6;clear c6;replace H:=Option.bind_eq_some_iff.mp H;obtain ⟨⟨t242,t243⟩,A70,H⟩:=H;(try dsimp only at H);have A7:=zA A70;clear A70
    by_cases c8 : 3 ≤ (wrap64 ((a0.size : Int) - 1))
    ·
     rw [if_pos c8] at H;have c8b0:=eq_true c8;have c8b1:=decide_eq_true c8;clear c8
     by_cases c9 : (wrap64 ((a0.size : Int) - 1)) ≤ (a0.size : Int)
     ·
      rw [if_pos c9] at H;have c9b0:=eq_true c9;have c9b1:=decide_eq_true c9;clear c9;replace H:=Option.bind_eq_some_iff.mp H;obtain ⟨t244,A100,H⟩:=H;(try dsimp only at H);have A10:=zA A100;clear A100
      by_cases c11 : t243 = true
      ·
       subst c11
       rw [if_pos rfl] at H;replace H:=Option.bind_eq_some_iff.mp H;obtain ⟨t248,A120,H⟩:=H;(try dsimp only at H);have A12:=zA A120;clear A120
       by_cases c13 : t248.toList = a0.toList
       ·
        rw [if_pos c13] at H;have c13b0:=beq_iff_eq.mpr c13;have c13b1:=bne_eq_false_iff_eq.mpr c13;clear c13;simp only [Option.some.injEq,Prod.mk.injEq] at H;obtain ⟨rfl,rfl,rfl⟩:=H
        go_enter Try.func57,Try.ntmps57
        go_wp2_with (first|((with_reducible refine gate_dst (N:=2) rfl ?_);refine box_event ?hg (N:=2) ?hd (cs:=#[.int .i64 0,.slice none 0 0]) (t:=38) ?hr ?_;(case hd => rfl);(case hg => rfl);(case hr => first|(go_simp;done)|(go_simp;rfl));intro gb241 hg w14 hbox hb;have BK241:=zA (hbox);have GW241:=zA ((by rw [hg];exact (zT (zz HB)) : w.heap.size ≤ gb241));have GE241:=zA ((by rw [hg];exact (zT (zz HB)) : w.heap.size ≤ gb241));replace HB:=zA (zJb (zz HB) hb);clear hb hbox hg)|((with_reducible refine gate_callee (f:=81) rfl ?_);refine goesL_ (some 14) rfl rfl Try.func81 (by kernel_rfl) rfl #[.string (a0.extract 1 2)] rfl (by (try simp only [zCb,zMb,zNb]);first|done|rfl|(simp only [zLb,zDb];rfl)) ?_;(with_reducible refine (spec_ParseInt.calls k (a0.extract 1 2) t242 true _ A7.out).mono ?_);rintro e w15 ⟨rfl,hb⟩;refine ⟨_,rfl,?_⟩;replace BK241:=zA (zQ (g:=gb241) (o:=.cells #[.int .i64 0,.slice none 0 0] 38 (0,0)) (zx BK241) hb);replace HB:=zA (zJb (zz HB) hb);(try clear hb);(try clear hb2);(try clear hk);(try clear hi))|((with_reducible refine gate_callee (f:=112) rfl ?_);refine goesL_ (some 23) rfl rfl Try.func112 (by kernel_rfl) rfl #[.string (a0.extract 3 ((wrap64 ((a0.size : Int) - 1)) : Int).toNat)] rfl (by (try simp only [zCb,zMb,zNb]);first|done|rfl|(simp only [zLb,zDb];rfl)) ?_;(with_reducible refine (spec_l3Args.calls k (a0.extract 3 ((wrap64 ((a0.size : Int) - 1)) : Int).toNat) t244 _ A10.out).mono ?_);rintro e w16 ⟨v245,rfl,ho0,hb⟩;refine ⟨_,rfl,?_⟩;have HO246:=zA (zHb ho0 (zT (zz HB)));replace BK241:=zA (zQ (g:=gb241) (o:=.cells #[.int .i64 0,.slice none 0 0] 38 (0,0)) (zx BK241) hb);replace HB:=zA (zJb (zz HB) hb);(try clear hb);(try clear hb2);(try clear hk);(try clear hi);(try clear ho0);obtain ⟨Ao17,co17,eo17⟩:=Kd.R_slice HO246.out;subst eo17)|((with_reducible refine gate_dst (N:=6) rfl ?_);refine box_event ?hg (N:=6) ?hd (cs:=#[.int .i64 0,.slice none 0 0]) (t:=38) ?hr ?_;(case hd => rfl);(case hg => rfl);(case hr => first|(go_simp;done)|(go_simp;rfl));intro gb247 hg w18 hbox hb;replace HO246:=zA (zZ (zq HO246) hb);have BK247:=zA (hbox);have GW247:=zA ((by rw [hg];exact (zT (zz HB)) : w.heap.size ≤ gb247));have GE247:=zA ((by rw [hg];exact (zT (zz HB)) : w.heap.size ≤ gb247));replace HB:=zA (zJb (zz HB) hb);have NB241_247:=zA ((by rw [hg];exact Nat.ne_of_lt (blk_lt (g:=gb241) (o:=.cells #[.int .i64 0,.slice none 0 0] 38 (0,0)) (zx BK241)) : gb241 ≠ gb247));have NB247_241:=zA ((by rw [hg];exact Nat.ne_of_gt (blk_lt (g:=gb241) (o:=.cells #[.int .i64 0,.slice none 0 0] 38 (0,0)) (zx BK241)) : gb247 ≠ gb241));replace BK241:=zA (zQ (g:=gb241) (o:=.cells #[.int .i64 0,.slice none 0 0] 38 (0,0)) (zx BK241) hb);clear hb hbox hg;have hnb19:=NB247_241.out;have hnc19:=NB241_247.out;have hcz20_0:=zc (.int .i64 0) BK247 0 rfl;have hcz20_1:=zc (.slice none 0 0) BK247 1 rfl;have hfz20_0:=blk_frozen BK247.out 0;have hfz20_1:=blk_frozen BK247.out 1)|(go_at_call 27;(with_reducible refine (spec_FormatAtom.calls k t242 _ _ t244 t248 _ ?side1 ?side2 A12.out).mono ?_);(case side1 => refine (Kd.R_reads' (e:=3) (base:=w.heap.size) (ok:=fun k_ => True) (n:=t244.length) (c:=co17) ?_).2.2;exact (by (with_reducible repeat (first|apply zE|apply zD|apply zH));exact (zGb (zR (p:=⟨gb247,1,none⟩) (zR (p:=⟨gb247,0,none⟩) (Kd.R_types HO246.out BK247.out (by decide)) (fun _ hk => hk.2) (.int .i64 t242)) (fun _ hk => hk.2) (.slice Ao17 t244.length co17)) (fun _ h_ => h_.1))));(case side2 => exact (Kd.R_reads' HO246.out).2.1);rintro e w21 ⟨rfl,hb⟩;replace HO246:=zA (zZ (by (with_reducible repeat (first|apply zE|apply zD|apply zH));exact (zGb (zR (p:=⟨gb247,1,none⟩) (zR (p:=⟨gb247,0,none⟩) (Kd.R_types HO246.out BK247.out (by decide)) (fun _ hk => hk.2) (.int .i64 t242)) (fun _ hk => hk.2) (.slice Ao17 t244.length co17)) (fun _ h_ => h_.1))) hb);replace BK241:=zA (zQ (g:=gb241) (o:=.cells #[.int .i64 0,.slice none 0 0] 38 (0,0)) (by (with_reducible repeat (first|refine zF ?_ _|refine zI ?_|refine zG ?_ _));refine zUb ?_ NB241_247.out _;(with_reducible repeat (first|refine zF ?_ _|refine zI ?_|refine zG ?_ _));refine zUb ?_ NB241_247.out _;(with_reducible repeat (first|refine zF ?_ _|refine zI ?_|refine zG ?_ _));exact BK241.out) hb);replace BK247:=zA (zQ (g:=gb247) (o:=.cells #[.int .i64 t242,.slice Ao17 t244.length co17] 38 (0,0)) (by (with_reducible repeat (first|refine zF ?_ _|refine zI ?_|refine zG ?_ _));refine blk_put (cs:=#[.int .i64 t242,.slice none 0 0]) ?_ 1 _ rfl;(with_reducible repeat (first|refine zF ?_ _|refine zI ?_|refine zG ?_ _));refine blk_put (cs:=#[.int .i64 0,.slice none 0 0]) ?_ 0 _ rfl;(with_reducible repeat (first|refine zF ?_ _|refine zI ?_|refine zG ?_ _));exact BK247.out) hb);replace HB:=zA (zJb (zz HB) hb);(try clear hb);(try clear hb2);(try clear hk);(try clear hi);have hcz22_0:=zc (.int .i64 t242) BK247 0 rfl;have hcz22_1:=zc (.slice Ao17 t244.length co17) BK247 1 rfl;have hfz22_0:=blk_frozen BK247.out 0;have hfz22_1:=blk_frozen BK247.out 1;have hcz23_0:=zc (.int .i64 0) BK241 0 rfl;have hcz23_1:=zc (.slice none 0 0) BK241 1 rfl;have hfz23_0:=blk_frozen BK241.out 0;have hfz23_1:=blk_frozen BK241.out 1))
        refine bodyPost_ret (results_ct rfl _ _ gb241 38 #[.int .i64 t242,.slice Ao17 t244.length co17] (0,0) _ rfl (by (with_reducible repeat (first|refine zF ?_ _|refine zI ?_|refine zG ?_ _));refine blk_put (cs:=#[.int .i64 t242,.slice none 0 0]) ?_ 1 _ rfl;(with_reducible repeat (first|refine zF ?_ _|refine zI ?_|refine zG ?_ _));refine blk_put (cs:=#[.int .i64 0,.slice none 0 0]) ?_ 0 _ rfl;(with_reducible repeat (first|refine zF ?_ _|refine zI ?_|refine zG ?_ _));exact BK241.out) Try.underlying38 rfl (by kernel_rfl)) rfl ?_
        exact ⟨_,by first|rfl|(simp [errW_none,errW_some] <;> rfl)|(simp [*,errW_none,errW_some] <;> rfl),by (with_reducible repeat (first|apply zE|apply zD|apply zH));exact zGb (zR (p:=⟨gb241,1,none⟩) (zR (p:=⟨gb241,0,none⟩) (Kd.R_types HO246.out BK241.out (by decide)) (fun _ hk => hk.2) (.int .i64 t242)) (fun _ hk => hk.2) (.slice Ao17 t244.length co17)) (fun _ hk => trivial),zz HB⟩
       ·
        rw [if_neg c13] at H;have c13b0:=beq_eq_false_iff_ne.mpr c13;have c13b1:=bne_iff_ne.mpr c13;simp only [Option.some.injEq,Prod.mk.injEq] at H;obtain ⟨rfl,rfl,rfl⟩:=H
        go_enter Try.func57,Try.ntmps57
        go_wp2_with (first|((with_reducible refine gate_dst (N:=2) rfl ?_);refine box_event ?hg (N:=2) ?hd (cs:=#[.int .i64 0,.slice none 0 0]) (t:=38) ?hr ?_;(case hd => rfl);(case hg => rfl);(case hr => first|(go_simp;done)|(go_simp;rfl));intro gb241 hg w24 hbox hb;have BK241:=zA (hbox);have GW241:=zA ((by rw [hg];exact (zT (zz HB)) : w.heap.size ≤ gb241));have GE241:=zA ((by rw [hg];exact (zT (zz HB)) : w.heap.size ≤ gb241));replace HB:=zA (zJb (zz HB) hb);clear hb hbox hg)|((with_reducible refine gate_callee (f:=81) rfl ?_);refine goesL_ (some 14) rfl rfl Try.func81 (by kernel_rfl) rfl #[.string (a0.extract 1 2)] rfl (by (try simp only [zCb,zMb,zNb]);first|done|rfl|(simp only [zLb,zDb];rfl)) ?_;(with_reducible refine (spec_ParseInt.calls k (a0.extract 1 2) t242 true _ A7.out).mono ?_);rintro e w25 ⟨rfl,hb⟩;refine ⟨_,rfl,?_⟩;replace BK241:=zA (zQ (g:=gb241) (o:=.cells #[.int .i64 0,.slice none 0 0] 38 (0,0)) (zx BK241) hb);replace HB:=zA (zJb (zz HB) hb);(try clear hb);(try clear hb2);(try clear hk);(try clear hi))|((with_reducible refine gate_callee (f:=112) rfl ?_);refine goesL_ (some 23) rfl rfl Try.func112 (by kernel_rfl) rfl #[.string (a0.extract 3 ((wrap64 ((a0.size : Int) - 1)) : Int).toNat)] rfl (by (try simp only [zCb,zMb,zNb]);first|done|rfl|(simp only [zLb,zDb];rfl)) ?_;(with_reducible refine (spec_l3Args.calls k (a0.extract 3 ((wrap64 ((a0.size : Int) - 1)) : Int).toNat) t244 _ A10.out).mono ?_);rintro e w26 ⟨v245,rfl,ho0,hb⟩;refine ⟨_,rfl,?_⟩;have HO246:=zA (zHb ho0 (zT (zz HB)));replace BK241:=zA (zQ (g:=gb241) (o:=.cells #[.int .i64 0,.slice none 0 0] 38 (0,0)) (zx BK241) hb);replace HB:=zA (zJb (zz HB) hb);(try clear hb);(try clear hb2);(try clear hk);(try clear hi);(try clear ho0);obtain ⟨Ao27,co27,eo27⟩:=Kd.R_slice HO246.out;subst eo27)|((with_reducible refine gate_dst (N:=6) rfl ?_);refine box_event ?hg (N:=6) ?hd (cs:=#[.int .i64 0,.slice none 0 0]) (t:=38) ?hr ?_;(case hd => rfl);(case hg => rfl);(case hr => first|(go_simp;done)|(go_simp;rfl));intro gb247 hg w28 hbox hb;replace HO246:=zA (zZ (zq HO246) hb);have BK247:=zA (hbox);have GW247:=zA ((by rw [hg];exact (zT (zz HB)) : w.heap.size ≤ gb247));have GE247:=zA ((by rw [hg];exact (zT (zz HB)) : w.heap.size ≤ gb247));replace HB:=zA (zJb (zz HB) hb);have NB241_247:=zA ((by rw [hg];exact Nat.ne_of_lt (blk_lt (g:=gb241) (o:=.cells #[.int .i64 0,.slice none 0 0] 38 (0,0)) (zx BK241)) : gb241 ≠ gb247));have NB247_241:=zA ((by rw [hg];exact Nat.ne_of_gt (blk_lt (g:=gb241) (o:=.cells #[.int .i64 0,.slice none 0 0] 38 (0,0)) (zx BK241)) : gb247 ≠ gb241));replace BK241:=zA (zQ (g:=gb241) (o:=.cells #[.int .i64 0,.slice none 0 0] 38 (0,0)) (zx BK241) hb);clear hb hbox hg;have hnb29:=NB247_241.out;have hnc29:=NB241_247.out;have hcz30_0:=zc (.int .i64 0) BK247 0 rfl;have hcz30_1:=zc (.slice none 0 0) BK247 1 rfl;have hfz30_0:=blk_frozen BK247.out 0;have hfz30_1:=blk_frozen BK247.out 1)|(go_at_call 27;(with_reducible refine (spec_FormatAtom.calls k t242 _ _ t244 t248 _ ?side1 ?side2 A12.out).mono ?_);(case side1 => refine (Kd.R_reads' (e:=3) (base:=w.heap.size) (ok:=fun k_ => True) (n:=t244.length) (c:=co27) ?_).2.2;exact (by (with_reducible repeat (first|apply zE|apply zD|apply zH));exact (zGb (zR (p:=⟨gb247,1,none⟩) (zR (p:=⟨gb247,0,none⟩) (Kd.R_types HO246.out BK247.out (by decide)) (fun _ hk => hk.2) (.int .i64 t242)) (fun _ hk => hk.2) (.slice Ao27 t244.length co27)) (fun _ h_ => h_.1))));(case side2 => exact (Kd.R_reads' HO246.out).2.1);rintro e w31 ⟨rfl,hb⟩;replace HO246:=zA (zZ (by (with_reducible repeat (first|apply zE|apply zD|apply zH));exact (zGb (zR (p:=⟨gb247,1,none⟩) (zR (p:=⟨gb247,0,none⟩) (Kd.R_types HO246.out BK247.out (by decide)) (fun _ hk => hk.2) (.int .i64 t242)) (fun _ hk => hk.2) (.slice Ao27 t244.length co27)) (fun _ h_ => h_.1))) hb);replace BK241:=zA (zQ (g:=gb241) (o:=.cells #[.int .i64 0,.slice none 0 0] 38 (0,0)) (by (with_reducible repeat (first|refine zF ?_ _|refine zI ?_|refine zG ?_ _));refine zUb ?_ NB241_247.out _;(with_reducible repeat (first|refine zF ?_ _|refine zI ?_|refine zG ?_ _));refine zUb ?_ NB241_247.out _;(with_reducible repeat (first|refine zF ?_ _|refine zI ?_|refine zG ?_ _));exact BK241.out) hb);replace BK247:=zA (zQ (g:=gb247) (o:=.cells #[.int .i64 t242,.slice Ao27 t244.length co27] 38 (0,0)) (by (with_reducible repeat (first|refine zF ?_ _|refine zI ?_|refine zG ?_ _));refine blk_put (cs:=#[.int .i64 t242,.slice none 0 0]) ?_ 1 _ rfl;(with_reducible repeat (first|refine zF ?_ _|refine zI ?_|refine zG ?_ _));refine blk_put (cs:=#[.int .i64 0,.slice none 0 0]) ?_ 0 _ rfl;(with_reducible repeat (first|refine zF ?_ _|refine zI ?_|refine zG ?_ _));exact BK247.out) hb);replace HB:=zA (zJb (zz HB) hb);(try clear hb);(try clear hb2);(try clear hk);(try clear hi);have hcz32_0:=zc (.int .i64 0) BK241 0 rfl;have hcz32_1:=zc (.slice none 0 0) BK241 1 rfl;have hfz32_0:=blk_frozen BK241.out 0;have hfz32_1:=blk_frozen BK241.out 1))
        refine bodyPost_ret (results_ct rfl _ _ gb241 38 #[.int .i64 0,.slice none 0 0] (0,0) _ rfl (by (with_reducible repeat (first|refine zF ?_ _|refine zI ?_|refine zG ?_ _));refine blk_put (cs:=#[.int .i64 0,.slice none 0 0]) ?_ 1 _ rfl;(with_reducible repeat (first|refine zF ?_ _|refine zI ?_|refine zG ?_ _));refine blk_put (cs:=#[.int .i64 0,.slice none 0 0]) ?_ 0 _ rfl;(with_reducible repeat (first|refine zF ?_ _|refine zI ?_|refine zG ?_ _));exact BK241.out) Try.underlying38 rfl (by kernel_rfl)) rfl ?_
        exact ⟨_,by first|rfl|(simp [errW_none,errW_some] <;> rfl)|(simp [*,errW_none,errW_some] <;> rfl),by first|exact Kd.R_nil _ _ _ _ _|exact Kd.N_nil _ _ _ _ _|exact Kd.V_nil _ _ _ _ _|exact Kd.Q_nil _ _ _ _ _|exact Kd.S_nil _ _ _ _ _,zz HB⟩
      ·
       replace c11:=Bool.eq_false_iff.mpr c11
       subst c11
       have H1 : (some (0,([] : List Int),false)) = some (r1,r2,r3):=by rw [if_neg (show ¬ (false = true) by decide)] at H;exact H
       clear H;have H:=H1;clear H1;simp only [Option.some.injEq,Prod.mk.injEq] at H;obtain ⟨rfl,rfl,rfl⟩:=H
       go_enter Try.func57,Try.ntmps57
       go_wp2_with (first|((with_reducible refine gate_dst (N:=2) rfl ?_);refine box_event ?hg (N:=2) ?hd (cs:=#[.int .i64 0,.slice none 0 0]) (t:=38) ?hr ?_;(case hd => rfl);(case hg => rfl);(case hr => first|(go_simp;done)|(go_simp;rfl));intro gb241 hg w33 hbox hb;have BK241:=zA (hbox);have GW241:=zA ((by rw [hg];exact (zT (zz HB)) : w.heap.size ≤ gb241));have GE241:=zA ((by rw [hg];exact (zT (zz HB)) : w.heap.size ≤ gb241));replace HB:=zA (zJb (zz HB) hb);clear hb hbox hg)|((with_reducible refine gate_callee (f:=81) rfl ?_);refine goesL_ (some 14) rfl rfl Try.func81 (by kernel_rfl) rfl #[.string (a0.extract 1 2)] rfl (by (try simp only [zCb,zMb,zNb]);first|done|rfl|(simp only [zLb,zDb];rfl)) ?_;(with_reducible refine (spec_ParseInt.calls k (a0.extract 1 2) t242 false _ A7.out).mono ?_);rintro e w34 ⟨rfl,hb⟩;refine ⟨_,rfl,?_⟩;replace BK241:=zA (zQ (g:=gb241) (o:=.cells #[.int .i64 0,.slice none 0 0] 38 (0,0)) (zx BK241) hb);replace HB:=zA (zJb (zz HB) hb);(try clear hb);(try clear hb2);(try clear hk);(try clear hi))|((with_reducible refine gate_callee (f:=112) rfl ?_);refine goesL_ (some 23) rfl rfl Try.func112 (by kernel_rfl) rfl #[.string (a0.extract 3 ((wrap64 ((a0.size : Int) - 1)) : Int).toNat)] rfl (by (try simp only [zCb,zMb,zNb]);first|done|rfl|(simp only [zLb,zDb];rfl)) ?_;(with_reducible refine (spec_l3Args.calls k (a0.extract 3 ((wrap64 ((a0.size : Int) - 1)) : Int).toNat) t244 _ A10.out).mono ?_);rintro e w35 ⟨v245,rfl,ho0,hb⟩;refine ⟨_,rfl,?_⟩;have HO246:=zA (zHb ho0 (zT (zz HB)));replace BK241:=zA (zQ (g:=gb241) (o:=.cells #[.int .i64 0,.slice none 0 0] 38 (0,0)) (zx BK241) hb);replace HB:=zA (zJb (zz HB) hb);(try clear hb);(try clear hb2);(try clear hk);(try clear hi);(try clear ho0);obtain ⟨Ao36,co36,eo36⟩:=Kd.R_slice HO246.out;subst eo36)|((with_reducible refine gate_dst (N:=6) rfl ?_);refine box_event ?hg (N:=6) ?hd (cs:=#[.int .i64 0,.slice none 0 0]) (t:=38) ?hr ?_;(case hd => rfl);(case hg => rfl);(case hr => first|(go_simp;done)|(go_simp;rfl));intro gb247 hg w37 hbox hb;replace HO246:=zA (zZ (zq HO246) hb);have BK247:=zA (hbox);have GW247:=zA ((by rw [hg];exact (zT (zz HB)) : w.heap.size ≤ gb247));have GE247:=zA ((by rw [hg];exact (zT (zz HB)) : w.heap.size ≤ gb247));replace HB:=zA (zJb (zz HB) hb);have NB241_247:=zA ((by rw [hg];exact Nat.ne_of_lt (blk_lt (g:=gb241) (o:=.cells #[.int .i64 0,.slice none 0 0] 38 (0,0)) (zx BK241)) : gb241 ≠ gb247));have NB247_241:=zA ((by rw [hg];exact Nat.ne_of_gt (blk_lt (g:=gb241) (o:=.cells #[.int .i64 0,.slice none 0 0] 38 (0,0)) (zx BK241)) : gb247 ≠ gb241));replace BK241:=zA (zQ (g:=gb241) (o:=.cells #[.int .i64 0,.slice none 0 0] 38 (0,0)) (zx BK241) hb);clear hb hbox hg;have hnb38:=NB247_241.out;have hnc38:=NB241_247.out;have hcz39_0:=zc (.int .i64 0) BK247 0 rfl;have hcz39_1:=zc (.slice none 0 0) BK247 1 rfl;have hfz39_0:=blk_frozen BK247.out 0;have hfz39_1:=blk_frozen BK247.out 1;have hcz40_0:=zc (.int .i64 0) BK241 0 rfl;have hcz40_1:=zc (.slice none 0 0) BK241 1 rfl;have hfz40_0:=blk_frozen BK241.out 0;have hfz40_1:=blk_frozen BK241.out 1))
       refine bodyPost_ret (results_ct rfl _ _ gb241 38 #[.int .i64 0,.slice none 0 0] (0,0) _ rfl (by (with_reducible repeat (first|refine zF ?_ _|refine zI ?_|refine zG ?_ _));refine blk_put (cs:=#[.int .i64 0,.slice none 0 0]) ?_ 1 _ rfl;(with_reducible repeat (first|refine zF ?_ _|refine zI ?_|refine zG ?_ _));refine blk_put (cs:=#[.int .i64 0,.slice none 0 0]) ?_ 0 _ rfl;(with_reducible repeat (first|refine zF ?_ _|refine zI ?_|refine zG ?_ _));refine zUb ?_ NB241_247.out _;(with_reducible repeat (first|refine zF ?_ _|refine zI ?_|refine zG ?_ _));refine zUb ?_ NB241_247.out _;(with_reducible repeat (first|refine zF ?_ _|refine zI ?_|refine zG ?_ _));exact BK241.out) Try.underlying38 rfl (by kernel_rfl)) rfl ?_
       exact ⟨_,by first|rfl|(simp [errW_none,errW_some] <;> rfl)|(simp [*,errW_none,errW_some] <;> rfl),by first|exact Kd.R_nil _ _ _ _ _|exact Kd.N_nil _ _ _ _ _|exact Kd.V_nil _ _ _ _ _|exact Kd.Q_nil _ _ _ _ _|exact Kd.S_nil _ _ _ _ _,zz HB⟩
     ·
      rw [if_neg c9] at H
      exact absurd H (by simp)
    ·
     rw [if_neg c8] at H
     exact absurd H (by simp)
   ·
    rw [if_neg c6] at H
    exact absurd H (by simp)
  ·
   rw [if_neg c5] at H
   exact absurd H (by simp)

end Go.Proofs.Ytpfpappamlgnoaa.QFnExactParseQuery
