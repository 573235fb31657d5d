/- Walks through the Go functions that FnExactParseQuery reaches: each call returns what the Lean function beside it says, within the bounds that the theorem names. -/
import Derived.Test.YtpfpappamlgnoaaQFnExactParseQueryx0
import Derived.Test.YtpfpappamlgnoaaQFnExactParseQueryx11
import Derived.Test.YtpfpappamlgnoaaQFnExactParseQueryx13
import Derived.Test.YtpfpappamlgnoaaQFnExactParseQueryx14
namespace Go.Proofs.Ytpfpappamlgnoaa.QFnExactParseQuery
open Go.RowKit Go.Proofs.YtpfpappamlgnoaaW.PrintWords Go.Proofs.YtpfpappamlgnoaaW.PrintLast Go.Proofs.YtpfpappamlgnoaaW.PrintMore
attribute [local go_sem] max2_int min2_int max_two min_two max_three min_three max_four min_four   -- for this text's walks alone
set_option linter.unusedVariables false
set_option linter.unusedSimpArgs false


/-! ### impl_split: function 110 -/
def impl_split.j0 : Nat → ByteArray → Bool → Option (Int × List ByteArray × Bool)
 | 0, _, _ => none
 | k + 1, x0, x28 => if x28 = true then (some (0, ([] : List ByteArray), false)) else (if 1 ≤ 2 then (if 2 ≤ (x0.size : Int) then ((impl_ParseInt.f k (x0.extract 1 2)).bind fun bt403 => (if 3 ≤ (wrap64 ((x0.size : Int) - 1)) then (if (wrap64 ((x0.size : Int) - 1)) ≤ (x0.size : Int) then (if (x0.extract 3 ((wrap64 ((x0.size : Int) - 1)) : Int).toNat).toList = ([] : List UInt8) then (some (bt403.1, (([] : List ByteArray)), bt403.2)) else ((impl_cut.f k (x0.extract 3 ((wrap64 ((x0.size : Int) - 1)) : Int).toNat) (⟨#[44]⟩ : ByteArray)).bind fun t408 => (some (bt403.1, t408, bt403.2)))) else (none)) else (none))) else (none)) else (none))
def impl_split.f (k : Nat) (a0 : ByteArray) : Option (Int × List ByteArray × Bool) := if (a0.size : Int) < 4 then (impl_split.j0 k a0 true) else (if 0 < (a0.size : Int) then (if (bt a0 0) = 114 then (if 2 < (a0.size : Int) then (if (bt a0 2) = 40 then (if 0 ≤ (wrap64 ((a0.size : Int) - 1)) then (if (wrap64 ((a0.size : Int) - 1)) < (a0.size : Int) then (impl_split.j0 k a0 ((bt a0 (wrap64 ((a0.size : Int) - 1))) != 41)) else (none)) else (none)) else (impl_split.j0 k a0 true)) else (none)) else (impl_split.j0 k a0 true)) else (none))
theorem impl_split.mono_l : ∀ k, (∀ y0 y1, LeO (impl_split.j0 k y0 y1) (impl_split.j0 (k + 1) y0 y1))
 | 0 => fun _ _ r h => by simp [impl_split.j0] at h
 | k + 1 => by
  have ih0:=impl_split.mono_l k
  ·
   intro y0 y1
   unfold impl_split.j0
   repeat' first
   | (with_reducible exact ih0 _ _)
   | (with_reducible exact impl_ParseInt.mono _ _)
   | (with_reducible exact impl_cut.mono _ _ _)
   | (with_reducible exact LeO.refl _)
   | (with_reducible exact LeO.none _)
   | (with_reducible refine LeO.ite ?_ ?_)
   | (with_reducible refine LeO.bind ?_ (fun _ => ?_))
   | exact ih0 _ _
   | exact LeO.none _
   | refine LeO.ite ?_ ?_
   | refine LeO.bind ?_ (fun _ => ?_)
theorem impl_split.mono : ∀ a0 k, LeO (impl_split.f k a0) (impl_split.f (k + 1) a0) := by
 intro a0 k
 have ih0:=impl_split.mono_l k
 unfold impl_split.f
 repeat' first
   | (with_reducible exact ih0 _ _)
   | (with_reducible exact impl_ParseInt.mono _ _)
   | (with_reducible exact impl_cut.mono _ _ _)
   | (with_reducible exact LeO.refl _)
   | (with_reducible exact LeO.none _)
   | (with_reducible refine LeO.ite ?_ ?_)
   | (with_reducible refine LeO.bind ?_ (fun _ => ?_))
   | exact ih0 _ _
   | exact LeO.none _
   | refine LeO.ite ?_ ?_
   | refine LeO.bind ?_ (fun _ => ?_)
set_option maxHeartbeats 8000000 in
set_option maxRecDepth 100000 in
theorem impl_split.calls (k : Nat) (a0 : ByteArray) (r1 : Int) (r2 : List ByteArray) (r3 : Bool) (w : World) (h : impl_split.f k a0 = some (r1, r2, r3)) :
  Calls Try.prog 110 #[.string a0] w fun e w' => ∃ v1_ : Value, e = .returned (.tuple #[.int .i64 r1, v1_, .bool r3]) ∧ Kd.R Kd.string 9 w' w.heap.size (fun _ => True) v1_ r2 ∧ Below w.heap.size w w' := by
 have HB:=zA (Below.refl w.heap.size w)
 have H : (if (a0.size : Int) < 4 then (impl_split.j0 k a0 true) else (if 0 < (a0.size : Int) then (if (bt a0 0) = 114 then (if 2 < (a0.size : Int) then (if (bt a0 2) = 40 then (if 0 ≤ (wrap64 ((a0.size : Int) - 1)) then (if (wrap64 ((a0.size : Int) - 1)) < (a0.size : Int) then (impl_split.j0 k a0 ((bt a0 (wrap64 ((a0.size : Int) - 1))) != 41)) else (none)) else (none)) else (impl_split.j0 k a0 true)) else (none)) else (impl_split.j0 k a0 true)) else (none))) = some (r1,r2,r3):=h
 clear h;have HC2:=zA H;clear H
 go_enter Try.func110,Try.ntmps110
 go_upto_region 1 with (fail)
 go_cut [28] (fun v28 wc => ∃ (kq : Nat) (x28_1 : Bool),v28 = .bool x28_1 ∧ Aside0 (impl_split.j0 kq a0 x28_1 = some (r1,r2,r3)) ∧ Aside0 (kq ≤ k) ∧ Aside0 (Below w.heap.size w wc))
 case first =>
  have H:=HC2.out;clear HC2
  by_cases c3 : (a0.size : Int) < 4
  ·
   rw [if_pos c3] at H;have c3b0:=decide_eq_true c3
   have c3b1 : decide (a0.size < 4) = true:=decide_eq_true (by omega)
   clear c3
   (first|rw [c3b0]|(simp only [i64_w,i32_w];rw [c3b0])|skip)
   have H':=zA H
   clear H
   go_wp2
   go_meet
   case rel => exact ⟨_,(true),za,H',⟨by first|omega|exact Nat.le_refl _⟩,⟨zz HB⟩⟩
  ·
   rw [if_neg c3] at H;have c3b0:=decide_eq_false c3
   have c3b1 : decide (a0.size < 4) = false:=decide_eq_false (by omega)
   clear c3
   (first|rw [c3b0]|(simp only [i64_w,i32_w];rw [c3b0])|skip)
   by_cases c4 : 0 < (a0.size : Int)
   ·
    rw [if_pos c4] at H;have c4b0:=decide_eq_true c4
    have c4b1 : decide (0 < a0.size) = true:=decide_eq_true (by omega)
    clear c4
    by_cases c6 : (bt a0 0) = 114
    ·
     rw [if_pos c6] at H;have c6b0:=beq_iff_eq.mpr c6;have c6b1:=bne_eq_false_iff_eq.mpr c6;clear c6
     by_cases c7 : 2 < (a0.size : Int)
     ·
      rw [if_pos c7] at H;have c7b0:=decide_eq_true c7
      have c7b1 : decide (2 < a0.size) = true:=decide_eq_true (by omega)
      clear c7
      by_cases c9 : (bt a0 2) = 40
      ·
       rw [if_pos c9] at H;have c9b0:=beq_iff_eq.mpr c9;have c9b1:=bne_eq_false_iff_eq.mpr c9;clear c9;obtain ⟨ji10,hji10⟩ : ∃ j_ : Int,(wrap64 ((a0.size : Int) - 1)) = j_:=⟨_,rfl⟩
       replace H : (if 0 ≤ (ji10) then (if (ji10) < (a0.size : Int) then (impl_split.j0 k a0 ((bt a0 (ji10)) != 41)) else (none)) else (none)) = some (r1,r2,r3):=by first|(rw [hji10] at H;exact H)|(simp only [hji10] at H ⊢;exact H)
       have hji10w : (IntKind.i64.wrap ((a0.size : Int) - 1)) = ji10:=(i64_w _).trans hji10
       by_cases c11 : 0 ≤ (ji10)
       ·
        rw [if_pos c11] at H;have c11b0:=decide_eq_true c11;clear c11
        by_cases c12 : (ji10) < (a0.size : Int)
        ·
         rw [if_pos c12] at H;have c12b0:=decide_eq_true c12;clear c12
         have H':=zA H
         clear H;have p5 : 0 ≤ (0 : Int):=(by omega);have q5 : 0 < a0.size:=(by have : (0 : Int) < (a0.size : Int):=zXb ze;omega)
         have hx5 : ∀ h : 0 < a0.size,((a0[0]'h).toNat : Int) = bt a0 0:=bt_at a0 0
         clear p5
         have qi5 : (0 < (a0.size : Int)) = True:=eq_true (zXb ze)
         replace q5:=eq_true q5;have p8 : 0 ≤ (2 : Int):=(by omega);have q8 : 2 < a0.size:=(by have : (2 : Int) < (a0.size : Int):=zXb ze;omega)
         have hx8 : ∀ h : 2 < a0.size,((a0[2]'h).toNat : Int) = bt a0 2:=bt_at a0 2
         clear p8
         have qi8 : (2 < (a0.size : Int)) = True:=eq_true (zXb ze)
         replace q8:=eq_true q8;have p13 : 0 ≤ ((ji10) : Int):=zXb ze;have q13 : (ji10) < (a0.size : Int):=zXb ze;have hx13:=bt_at a0 (ji10);replace p13:=eq_true p13;replace q13:=eq_true q13
         go_wp2
         go_meet
         case rel => exact ⟨_,(((bt a0 (ji10)) != 41)),(by first|rfl|(simp;done)|(simp only [← hji10] <;> (first|rfl|simp))|(simp [*];done)),H',⟨by first|omega|exact Nat.le_refl _⟩,⟨zz HB⟩⟩
        ·
         rw [if_neg c12] at H
         exact absurd H (by simp)
       ·
        rw [if_neg c11] at H
        exact absurd H (by simp)
      ·
       rw [if_neg c9] at H;have c9b0:=beq_eq_false_iff_ne.mpr c9;have c9b1:=bne_iff_ne.mpr c9
       have H':=zA H
       clear H;have p5 : 0 ≤ (0 : Int):=(by omega);have q5 : 0 < a0.size:=(by have : (0 : Int) < (a0.size : Int):=zXb ze;omega)
       have hx5 : ∀ h : 0 < a0.size,((a0[0]'h).toNat : Int) = bt a0 0:=bt_at a0 0
       clear p5
       have qi5 : (0 < (a0.size : Int)) = True:=eq_true (zXb ze)
       replace q5:=eq_true q5;have p8 : 0 ≤ (2 : Int):=(by omega);have q8 : 2 < a0.size:=(by have : (2 : Int) < (a0.size : Int):=zXb ze;omega)
       have hx8 : ∀ h : 2 < a0.size,((a0[2]'h).toNat : Int) = bt a0 2:=bt_at a0 2
       clear p8
       have qi8 : (2 < (a0.size : Int)) = True:=eq_true (zXb ze)
       replace q8:=eq_true q8
       go_wp2
       go_meet
       case rel => exact ⟨_,(true),za,H',⟨by first|omega|exact Nat.le_refl _⟩,⟨zz HB⟩⟩
     ·
      rw [if_neg c7] at H
      exact absurd H (by simp)
    ·
     rw [if_neg c6] at H;have c6b0:=beq_eq_false_iff_ne.mpr c6;have c6b1:=bne_iff_ne.mpr c6
     have H':=zA H
     clear H;have p5 : 0 ≤ (0 : Int):=(by omega);have q5 : 0 < a0.size:=(by have : (0 : Int) < (a0.size : Int):=zXb ze;omega)
     have hx5 : ∀ h : 0 < a0.size,((a0[0]'h).toNat : Int) = bt a0 0:=bt_at a0 0
     clear p5
     have qi5 : (0 < (a0.size : Int)) = True:=eq_true (zXb ze)
     replace q5:=eq_true q5
     go_wp2
     go_meet
     case rel => exact ⟨_,(true),za,H',⟨by first|omega|exact Nat.le_refl _⟩,⟨zz HB⟩⟩
   ·
    rw [if_neg c4] at H
    exact absurd H (by simp)
 case rest =>
  clear HC2;(try clear c1);(try clear p1);(try clear q1);(try clear hx1);(try clear p2);(try clear c3);(try clear c3b0);(try clear c3b1);(try clear c4);(try clear c4b0);(try clear c4b1);(try clear p5);(try clear q5);(try clear hx5);(try clear qi5);(try clear c6);(try clear c6b0);(try clear c6b1);(try clear p6);(try clear c7);(try clear c7b0);(try clear c7b1);(try clear p8);(try clear q8);(try clear hx8);(try clear qi8);(try clear c9);(try clear c9b0);(try clear c9b1);(try clear c11);(try clear c11b0);(try clear c12);(try clear c12b0);(try clear p13);(try clear q13);(try clear hx13);(try clear p13);(try clear p5);(try clear p8);(try clear q13);(try clear q5);(try clear q8);obtain ⟨kq,x28_1,rfl,HA,HJ1,HB⟩:=hcut
  cases kq with
  | zero => exact absurd HA.out (by simp [impl_split.j0])
  | succ kj1 =>
   have H:=HA.out;clear HA;simp only [impl_split.j0] at H
   by_cases c14 : x28_1 = true
   ·
    subst c14
    rw [if_pos rfl] at H;simp only [Option.some.injEq,Prod.mk.injEq] at H;obtain ⟨rfl,rfl,rfl⟩:=H
    go_wp2
    go_ret3
    exact ⟨_,by first|rfl|(simp [errW_none,errW_some] <;> rfl)|(simp [*,errW_none,errW_some] <;> rfl),by first|exact Kd.R_nil _ _ _ _ _|exact Kd.N_nil _ _ _ _ _|exact Kd.V_nil _ _ _ _ _|exact Kd.Q_nil _ _ _ _ _|exact Kd.S_nil _ _ _ _ _,zz HB⟩
   ·
    replace c14:=Bool.eq_false_iff.mpr c14
    subst c14
    have H1 : (if 1 ≤ 2 then (if 2 ≤ (a0.size : Int) then ((impl_ParseInt.f kj1 (a0.extract 1 2)).bind fun bt403 => (if 3 ≤ (wrap64 ((a0.size : Int) - 1)) then (if (wrap64 ((a0.size : Int) - 1)) ≤ (a0.size : Int) then (if (a0.extract 3 ((wrap64 ((a0.size : Int) - 1)) : Int).toNat).toList = ([] : List UInt8) then (some (bt403.1,(([] : List ByteArray)),bt403.2)) else ((impl_cut.f kj1 (a0.extract 3 ((wrap64 ((a0.size : Int) - 1)) : Int).toNat) (⟨#[44]⟩ : ByteArray)).bind fun t408 => (some (bt403.1,t408,bt403.2)))) else (none)) else (none))) else (none)) else (none)) = some (r1,r2,r3):=by rw [if_neg (show ¬ (false = true) by decide)] at H;exact H
    clear H;have H:=H1;clear H1
    by_cases c15 : 1 ≤ 2
    ·
     rw [if_pos c15] at H;have c15b0:=eq_true c15;have c15b1:=decide_eq_true c15;clear c15
     by_cases c16 : 2 ≤ (a0.size : Int)
     ·
      rw [if_pos c16] at H;have c16b0:=eq_true c16;have c16b1:=decide_eq_true c16;clear c16;replace H:=Option.bind_eq_some_iff.mp H;obtain ⟨⟨t403,t404⟩,A170,H⟩:=H;(try dsimp only at H);have A17:=zA A170;clear A170
      by_cases c18 : 3 ≤ (wrap64 ((a0.size : Int) - 1))
      ·
       rw [if_pos c18] at H;have c18b0:=eq_true c18;have c18b1:=decide_eq_true c18;clear c18
       by_cases c19 : (wrap64 ((a0.size : Int) - 1)) ≤ (a0.size : Int)
       ·
        rw [if_pos c19] at H;have c19b0:=eq_true c19;have c19b1:=decide_eq_true c19;clear c19
        by_cases c20 : (a0.extract 3 ((wrap64 ((a0.size : Int) - 1)) : Int).toNat).toList = ([] : List UInt8)
        ·
         rw [if_pos c20] at H;have c20b0:=beq_iff_eq.mpr c20;have c20b1:=bne_eq_false_iff_eq.mpr c20;clear c20;obtain ⟨y405,hy405⟩ : ∃ y_ : List ByteArray,y_ = (([] : List ByteArray)):=⟨_,rfl⟩
         replace H : (some (t403,y405,t404)) = some (r1,r2,r3):=by first|(rw [hy405];with_reducible exact H)|(have H2_:=(Option.bind_some _ _).symm.trans H;rw [hy405];with_reducible exact H2_)|(have H2_:=(Option.bind_some _ _).symm.trans H;with_reducible exact H2_)|with_reducible exact H|(rw [hy405];exact H)|exact H
         have Ny405:=zA hy405;clear hy405;simp only [Option.some.injEq,Prod.mk.injEq] at H;obtain ⟨rfl,rfl,rfl⟩:=H
         go_wp2_with (first|((with_reducible refine gate_callee (f:=82) rfl ?_);refine goesL_ (some 32) rfl rfl Try.func82 (by kernel_rfl) rfl #[.string (a0.extract 1 2)] rfl (by (try simp only [zCb,zMb,zNb]);first|done|rfl|(simp only [zLb,zDb];rfl)) ?_;(with_reducible refine (impl_ParseInt.calls kj1 (a0.extract 1 2) t403 t404 _ A17.out).mono ?_);rintro e w21 ⟨rfl,hb⟩;refine ⟨_,rfl,?_⟩;replace HB:=zA (zJb (zz HB) hb);(try clear hb);(try clear hb2);(try clear hk);(try clear hi))|((with_reducible refine gate_dst (N:=43) rfl ?_);(try (refine gate_guard (by rfl) ?_;dsimp only));refine Kd.R_lit Kd.string _ 9 ?hg (N:=43) ?hd (xs:=([] : List ByteArray)) (inner:=[]) (ok:=fun _ => True) (okp:=fun _ => True) ?hr ?hp (fun _ hk => hk) trivial (Below.refl _ _) (Nat.le_refl _) (by simp) ?_;(case hd => rfl);(case hg => rfl);(case hr => first|(go_simp;done)|(go_simp;rfl));(case hp => exact (Reps.none _ _));intro v406 w22 ho23 hb hg_ hnew_;clear hg_ hnew_;(first|rw [← Ny405.out] at ho23|(simp only [Int.reduceToNat] at ho23;rw [← Ny405.out] at ho23));have HO407:=zA (zHb ho23 (zT (zz HB)));replace HB:=zA (zJb (zz HB) hb);clear hb ho23))
         go_ret3
         exact ⟨_,by first|rfl|(simp [errW_none,errW_some] <;> rfl)|(simp [*,errW_none,errW_some] <;> rfl),zq HO407,zz HB⟩
        ·
         rw [if_neg c20] at H;have c20b0:=beq_eq_false_iff_ne.mpr c20;have c20b1:=bne_iff_ne.mpr c20;replace H:=Option.bind_eq_some_iff.mp H;obtain ⟨t408,A240,H⟩:=H;(try dsimp only at H);have A24:=zA A240;clear A240;simp only [Option.some.injEq,Prod.mk.injEq] at H;obtain ⟨rfl,rfl,rfl⟩:=H
         go_wp2_with (first|((with_reducible refine gate_callee (f:=82) rfl ?_);refine goesL_ (some 32) rfl rfl Try.func82 (by kernel_rfl) rfl #[.string (a0.extract 1 2)] rfl (by (try simp only [zCb,zMb,zNb]);first|done|rfl|(simp only [zLb,zDb];rfl)) ?_;(with_reducible refine (impl_ParseInt.calls kj1 (a0.extract 1 2) t403 t404 _ A17.out).mono ?_);rintro e w25 ⟨rfl,hb⟩;refine ⟨_,rfl,?_⟩;replace HB:=zA (zJb (zz HB) hb);(try clear hb);(try clear hb2);(try clear hk);(try clear hi))|((with_reducible refine gate_callee (f:=121) rfl ?_);refine goesL_ (some 47) rfl rfl Try.func121 (by kernel_rfl) rfl #[.string (a0.extract 3 ((wrap64 ((a0.size : Int) - 1)) : Int).toNat),.string (⟨#[44]⟩ : ByteArray)] rfl (by (try simp only [zCb,zMb,zNb]);first|done|rfl|(simp only [zLb,zDb];rfl)) ?_;(with_reducible refine (impl_cut.calls kj1 (a0.extract 3 ((wrap64 ((a0.size : Int) - 1)) : Int).toNat) (⟨#[44]⟩ : ByteArray) t408 _ A24.out).mono ?_);rintro e w26 ⟨v409,rfl,ho0,hb⟩;refine ⟨_,rfl,?_⟩;have HO410:=zA (zHb ho0 (zT (zz HB)));replace HB:=zA (zJb (zz HB) hb);(try clear hb);(try clear hb2);(try clear hk);(try clear hi);(try clear ho0)))
         go_ret3
         exact ⟨_,by first|rfl|(simp [errW_none,errW_some] <;> rfl)|(simp [*,errW_none,errW_some] <;> rfl),zq HO410,zz HB⟩
       ·
        rw [if_neg c19] at H
        exact absurd H (by simp)
      ·
       rw [if_neg c18] at H
       exact absurd H (by simp)
     ·
      rw [if_neg c16] at H
      exact absurd H (by simp)
    ·
     rw [if_neg c15] at H
     exact absurd H (by simp)

/-! ### impl_ParseAtom: function 58 -/
def impl_ParseAtom.l0 : Nat → ByteArray → List ByteArray → Int → Int → Int → List Int → Option (Int × List Int × Bool)
 | 0, _, _, _, _, _, _ => none
 | k + 1, x0, x23, x24, x25, x418000, x418001 => if x25 < x24 then (if 0 ≤ x25 then (if x25 < (x23.length : Int) then ((impl_ParseTerm.f k (rdOf ByteArray.empty x23 x25)).bind fun bt419 => (if bt419.2 = true then (if x418001.length < 17592186044416 then (impl_ParseAtom.l0 k x0 x23 x24 (wrap64 (x25 + 1)) x418000 (x418001 ++ [bt419.1])) else (none)) else (some (0, ([] : List Int), false)))) else (none)) else (none)) else ((impl_FormatAtom.f k x418000 x418001).bind fun t424 => (if t424.toList = x0.toList then (some (x418000, x418001, true)) else (some (0, ([] : List Int), false))))
def impl_ParseAtom.f (k : Nat) (a0 : ByteArray) : Option (Int × List Int × Bool) := (impl_split.f k a0).bind fun bt412 => (if bt412.2.2 = true then (impl_ParseAtom.l0 k a0 bt412.2.1 (bt412.2.1.length : Int) 0 bt412.1 ([] : List Int)) else (some (0, ([] : List Int), false)))
theorem impl_ParseAtom.mono_l : ∀ k, (∀ y0 y1 y2 y3 y4 y5, LeO (impl_ParseAtom.l0 k y0 y1 y2 y3 y4 y5) (impl_ParseAtom.l0 (k + 1) y0 y1 y2 y3 y4 y5))
 | 0 => fun _ _ _ _ _ _ r h => by simp [impl_ParseAtom.l0] at h
 | k + 1 => by
  have ih0:=impl_ParseAtom.mono_l k
  ·
   intro y0 y1 y2 y3 y4 y5
   unfold impl_ParseAtom.l0
   repeat' first
   | (with_reducible exact ih0 _ _ _ _ _ _)
   | (with_reducible exact impl_FormatAtom.mono _ _ _)
   | (with_reducible exact impl_ParseTerm.mono _ _)
   | (with_reducible exact impl_split.mono _ _)
   | (with_reducible exact LeO.refl _)
   | (with_reducible exact LeO.none _)
   | (with_reducible refine LeO.ite ?_ ?_)
   | (with_reducible refine LeO.bind ?_ (fun _ => ?_))
   | exact ih0 _ _ _ _ _ _
   | exact LeO.none _
   | refine LeO.ite ?_ ?_
   | refine LeO.bind ?_ (fun _ => ?_)
theorem impl_ParseAtom.mono : ∀ a0 k, LeO (impl_ParseAtom.f k a0) (impl_ParseAtom.f (k + 1) a0) := by
 intro a0 k
 have ih0:=impl_ParseAtom.mono_l k
 unfold impl_ParseAtom.f
 repeat' first
   | (with_reducible exact ih0 _ _ _ _ _ _)
   | (with_reducible exact impl_FormatAtom.mono _ _ _)
   | (with_reducible exact impl_ParseTerm.mono _ _)
   | (with_reducible exact impl_split.mono _ _)
   | (with_reducible exact LeO.refl _)
   | (with_reducible exact LeO.none _)
   | (with_reducible refine LeO.ite ?_ ?_)
   | (with_reducible refine LeO.bind ?_ (fun _ => ?_))
   | exact ih0 _ _ _ _ _ _
   | exact LeO.none _
   | refine LeO.ite ?_ ?_
   | refine LeO.bind ?_ (fun _ => ?_)
set_option maxHeartbeats 8000000 in
set_option maxRecDepth 100000 in
theorem impl_ParseAtom.calls (k : Nat) (a0 : ByteArray) (r1 : Int) (r2 : List Int) (r3 : Bool) (w : World) (h : impl_ParseAtom.f k a0 = some (r1, r2, r3)) :
  Calls Try.prog 58 #[.string a0] w fun e w' => ∃ v1_ : Value, e = .returned (.tuple #[.agg #[.int .i64 r1, v1_], .bool r3]) ∧ Kd.R (Kd.int .i64) 3 w' w.heap.size (fun _ => True) v1_ r2 ∧ Below w.heap.size w w' := by
 have hu38:=Try.underlying38;have HB:=zA (Below.refl w.heap.size w)
 have H : ((impl_split.f k a0).bind fun bt412 => (if bt412.2.2 = true then (impl_ParseAtom.l0 k a0 bt412.2.1 (bt412.2.1.length : Int) 0 bt412.1 ([] : List Int)) else (some (0,([] : List Int),false)))) = some (r1,r2,r3):=h
 clear h;replace H:=Option.bind_eq_some_iff.mp H;obtain ⟨⟨t412,t413,t414⟩,A20,H⟩:=H;(try dsimp only at H);have A2:=zA A20;clear A20
 by_cases c3 : t414 = true
 ·
  subst c3
  rw [if_pos rfl] at H
  have H':=zA H
  clear H
  go_enter Try.func58,Try.ntmps58
  go_wp2_with (first|((with_reducible refine gate_dst (N:=2) rfl ?_);refine box_event ?hg (N:=2) ?hd (cs:=#[.int .i64 0,.slice none 0 0]) (t:=38) ?hr ?_;(case hd => rfl);(case hg => rfl);(case hr => first|(go_simp;done)|(go_simp;rfl));intro gb411 hg w4 hbox hb;have BK411:=zA (hbox);have GW411:=zA ((by rw [hg];exact (zT (zz HB)) : w.heap.size ≤ gb411));have GE411:=zA ((by rw [hg];exact (zT (zz HB)) : w.heap.size ≤ gb411));replace HB:=zA (zJb (zz HB) hb);clear hb hbox hg)|((with_reducible refine gate_callee (f:=110) rfl ?_);refine goesL_ (some 14) rfl rfl Try.func110 (by kernel_rfl) rfl #[.string a0] rfl (by (try simp only [zCb,zMb,zNb]);first|done|rfl|(simp only [zLb,zDb];rfl)) ?_;(with_reducible refine (impl_split.calls k a0 t412 t413 true _ A2.out).mono ?_);rintro e w5 ⟨v415,rfl,ho0,hb⟩;refine ⟨_,rfl,?_⟩;have HO416:=zA (zHb ho0 (zT (zz HB)));replace BK411:=zA (zQ (g:=gb411) (o:=.cells #[.int .i64 0,.slice none 0 0] 38 (0,0)) (zx BK411) hb);replace HB:=zA (zJb (zz HB) hb);(try clear hb);(try clear hb2);(try clear hk);(try clear hi);(try clear ho0))|((with_reducible refine gate_dst (N:=7) rfl ?_);refine box_event ?hg (N:=7) ?hd (cs:=#[.int .i64 0,.slice none 0 0]) (t:=38) ?hr ?_;(case hd => rfl);(case hg => rfl);(case hr => first|(go_simp;done)|(go_simp;rfl));intro gb417 hg w6 hbox hb;replace HO416:=zA (zZ (zq HO416) hb);have BK417:=zA (hbox);have GW417:=zA ((by rw [hg];exact (zT (zz HB)) : w.heap.size ≤ gb417));have GE417:=zA ((by rw [hg];exact (zT (zz HB)) : w.heap.size ≤ gb417));replace HB:=zA (zJb (zz HB) hb);have NB411_417:=zA ((by rw [hg];exact Nat.ne_of_lt (blk_lt (g:=gb411) (o:=.cells #[.int .i64 0,.slice none 0 0] 38 (0,0)) (zx BK411)) : gb411 ≠ gb417));have NB417_411:=zA ((by rw [hg];exact Nat.ne_of_gt (blk_lt (g:=gb411) (o:=.cells #[.int .i64 0,.slice none 0 0] 38 (0,0)) (zx BK411)) : gb417 ≠ gb411));replace BK411:=zA (zQ (g:=gb411) (o:=.cells #[.int .i64 0,.slice none 0 0] 38 (0,0)) (zx BK411) hb);clear hb hbox hg;have hnb7:=NB417_411.out;have hnc7:=NB411_417.out;have hcz8_0:=zc (.int .i64 0) BK417 0 rfl;have hcz8_1:=zc (.slice none 0 0) BK417 1 rfl;have hfz8_0:=blk_frozen BK417.out 0;have hfz8_1:=blk_frozen BK417.out 1;obtain ⟨Ao9,co9,eo9⟩:=Kd.R_slice HO416.out;subst eo9))
  go_loopg [25] k (fun kq v25 w' => ∃ (x25_1 : Int) (x412000_1 : Int) (x418001_1 : List Int) (u418001 : Value),v25 = .int .i64 x25_1 ∧ Aside0 (impl_ParseAtom.l0 kq a0 t413 (t413.length : Int) x25_1 t412 x418001_1 = some (r1,r2,r3)) ∧ Aside0 (kq ≤ k) ∧ Aside0 (Kd.R Kd.string 9 w' w.heap.size (fun _ => True) (.slice Ao9 t413.length co9) t413) ∧ Aside0 (Kd.R (Kd.int .i64) 3 w' w.heap.size (fun _ => True) u418001 x418001_1) ∧ Aside0 (w'.heap[gb411]? = some (.cells #[.int .i64 x412000_1,(.slice none 0 0)] 38 (0,0))) ∧ Aside0 (w'.heap[gb417]? = some (.cells #[.int .i64 t412,u418001] 38 (0,0))) ∧ Aside0 (Below w.heap.size w w'))
  case atStart => exact ⟨(0),(0),(([] : List Int)),(.slice none 0 0),za,H',⟨Nat.le_refl _⟩,⟨by (with_reducible repeat (first|apply zE|apply zD|apply zH));exact zGb (zR (p:=⟨gb417,1,none⟩) (zR (p:=⟨gb417,0,none⟩) (Kd.R_types HO416.out BK417.out (by decide)) (fun _ hk => hk.2) (.int .i64 t412)) (fun _ hk => hk.2) (.slice none 0 0)) (fun _ hk => trivial)⟩,⟨by first|exact Kd.R_nil _ _ _ _ _|exact Kd.N_nil _ _ _ _ _|exact Kd.V_nil _ _ _ _ _|exact Kd.Q_nil _ _ _ _ _|exact Kd.S_nil _ _ _ _ _⟩,⟨by (with_reducible repeat (first|refine zF ?_ _|refine zI ?_|refine zG ?_ _));refine zUb ?_ NB411_417.out _;(with_reducible repeat (first|refine zF ?_ _|refine zI ?_|refine zG ?_ _));refine zUb ?_ NB411_417.out _;(with_reducible repeat (first|refine zF ?_ _|refine zI ?_|refine zG ?_ _));exact BK411.out⟩,⟨by (with_reducible repeat (first|refine zF ?_ _|refine zI ?_|refine zG ?_ _));refine blk_put (cs:=#[.int .i64 t412,.slice none 0 0]) ?_ 1 _ rfl;(with_reducible repeat (first|refine zF ?_ _|refine zI ?_|refine zG ?_ _));refine blk_put (cs:=#[.int .i64 0,.slice none 0 0]) ?_ 0 _ rfl;(with_reducible repeat (first|refine zF ?_ _|refine zI ?_|refine zG ?_ _));exact BK417.out⟩,⟨zz HB⟩⟩
  case round =>
   clear H';(try clear c1);(try clear p2);(try clear c3);(try clear c5);(try clear c7);(try clear hcz8_0);(try clear hcz8_1);(try clear hfz8_0);(try clear hfz8_1);obtain ⟨x25_1,x412000_1,x418001_1,u418001,rfl,HA,HK1,HO_23,HO_418001,BK411,BK417,HB⟩:=hrel
   cases gk with
   | zero => exact absurd HA.out (by simp [impl_ParseAtom.l0])
   | succ k1 =>
    have H:=HA.out;clear HA;simp only [impl_ParseAtom.l0] at H
    by_cases c10 : x25_1 < (t413.length : Int)
    ·
     rw [if_pos c10] at H;have c10b0:=decide_eq_true c10;clear c10
     by_cases c11 : 0 ≤ x25_1
     ·
      rw [if_pos c11] at H;have c11b0:=decide_eq_true c11;clear c11
      by_cases c12 : x25_1 < (t413.length : Int)
      ·
       rw [if_pos c12] at H;have c12b0:=decide_eq_true c12;clear c12;replace H:=Option.bind_eq_some_iff.mp H;obtain ⟨⟨t419,t420⟩,A130,H⟩:=H;(try dsimp only at H);have A13:=zA A130;clear A130
       by_cases c14 : t420 = true
       ·
        subst c14
        rw [if_pos rfl] at H
        by_cases c15 : x418001_1.length < 17592186044416
        ·
         rw [if_pos c15] at H;have LMc15:=zA c15;clear c15;obtain ⟨y421,hy421⟩ : ∃ y_ : List Int,y_ = (x418001_1 ++ [t419]):=⟨_,rfl⟩
         replace H : (impl_ParseAtom.l0 k1 a0 t413 (t413.length : Int) (wrap64 (x25_1 + 1)) t412 y421) = some (r1,r2,r3):=by first|(rw [hy421];with_reducible exact H)|(have H2_:=(Option.bind_some _ _).symm.trans H;rw [hy421];with_reducible exact H2_)|(have H2_:=(Option.bind_some _ _).symm.trans H;with_reducible exact H2_)|with_reducible exact H|(rw [hy421];exact H)|exact H
         have Ny421:=zA hy421;clear hy421
         have H':=zA H
         clear H;have p418 : 0 ≤ (x25_1 : Int):=zXb ze;have q418 : x25_1 < (t413.length : Int):=zXb ze;obtain ⟨ad418,e418,hx418_0⟩:=Kd.at_string (Kd.R_reads' HO_23.out).2.2 x25_1 p418 q418
         cases e418
         replace p418:=eq_true p418;replace q418:=eq_true q418
         go_wp2_with (first|((with_reducible refine gate_callee (f:=25) rfl ?_);refine goesL_ (some 31) rfl rfl Try.func25 (by kernel_rfl) rfl #[.string (rdOf ByteArray.empty t413 x25_1)] rfl (by (try simp only [zCb,zMb,zNb]);first|done|rfl|(simp only [zLb,zDb];rfl)) ?_;(with_reducible refine (impl_ParseTerm.calls k1 (rdOf ByteArray.empty t413 x25_1) t419 true _ A13.out).mono ?_);rintro e w16 ⟨rfl,hb⟩;refine ⟨_,rfl,?_⟩;replace HO_23:=zA (zZ (zq HO_23) hb);replace HO_418001:=zA (zZ (zq HO_418001) hb);replace BK411:=zA (zQ (g:=gb411) (o:=.cells #[.int .i64 x412000_1,.slice none 0 0] 38 (0,0)) (zx BK411) hb);replace BK417:=zA (zQ (g:=gb417) (o:=.cells #[.int .i64 t412,u418001] 38 (0,0)) (zx BK417) hb);replace HB:=zA (zJb (zz HB) hb);(try clear hb);(try clear hb2);(try clear hk);(try clear hi);have hnb17:=NB417_411.out;have hnc17:=NB411_417.out;have hcz18_0:=zc (.int .i64 t412) BK417 0 rfl;have hcz18_1:=zc (u418001) BK417 1 rfl;have hfz18_0:=blk_frozen BK417.out 0;have hfz18_1:=blk_frozen BK417.out 1)|((with_reducible refine gate_builtin (b:=.append) (xs:=#[.tmp 38,.tmp 40]) rfl ?_);at_builtin;refine Kd.R_append (Kd.int .i64) (w0:=w) w.heap.size rfl (.tmp 38) (.tmp 40) 22 3 (.int .i64 0) 8 rfl Try.underlying22 info3 rfl (by decide) (by omega) u418001 x418001_1 t419 [.int .i64 t419] (fun _ => True) (fun _ => False) rfl rfl ?aP (fun _ hk => hk.elim) ?aF ?aO ?aB ?aS ?aL ?_;(case aP => exact rfl);(case aB => exact (zz HB));(case aF => exact (fun _ _ => trivial));(case aO => exact (zq HO_418001));(case aS => exact (zT (zz HB)));(case aL => have:=LMc15.out;omega);intro v422 w19 ho hb hg hat;rw [← Ny421.out] at ho;replace HO_23:=zA (Kd.R_over' (zq HO_23) (Kd.R_typed (zq HO_418001)) (by decide) hg);replace BK411:=zA (blk_grown (g:=gb411) (o:=.cells #[.int .i64 x412000_1,.slice none 0 0] 38 (0,0)) (zx BK411) hg (Kd.R_ne HO_418001.out BK411.out (by decide)));replace BK417:=zA (blk_grown (g:=gb417) (o:=.cells #[.int .i64 t412,u418001] 38 (0,0)) (zx BK417) hg (Kd.R_ne HO_418001.out BK417.out (by decide)));replace HB:=zA (hb);have HO423:=zA (ho);clear HO_418001;clear ho hb hg hat;obtain ⟨Ao20,co20,eo20⟩:=Kd.R_slice HO423.out;subst eo20;have hcz21_0:=zc (.int .i64 t412) BK417 0 rfl;have hcz21_1:=zc (u418001) BK417 1 rfl;have hfz21_0:=blk_frozen BK417.out 0;have hfz21_1:=blk_frozen BK417.out 1))
         go_roundg k1
         case measure => have:=HK1.out;omega
         case rel => exact ⟨(wrap64 (x25_1 + 1)),(x412000_1),(y421),(.slice Ao20 y421.length co20),za,H',⟨by have:=HK1.out;omega⟩,⟨by (with_reducible repeat (first|apply zE|apply zD|apply zH));exact zGb (zR (p:=⟨gb417,1,none⟩) (Kd.R_types HO_23.out BK417.out (by decide)) (fun _ hk => hk.2) (.slice Ao20 y421.length co20)) (fun _ hk => trivial)⟩,⟨by (with_reducible repeat (first|apply zE|apply zD|apply zH));exact zGb (zR (p:=⟨gb417,1,none⟩) (Kd.R_types HO423.out BK417.out (by decide)) (fun _ hk => hk.2) (.slice Ao20 y421.length co20)) (fun _ hk => trivial)⟩,⟨by (with_reducible repeat (first|refine zF ?_ _|refine zI ?_|refine zG ?_ _));refine zUb ?_ NB411_417.out _;(with_reducible repeat (first|refine zF ?_ _|refine zI ?_|refine zG ?_ _));exact BK411.out⟩,⟨by (with_reducible repeat (first|refine zF ?_ _|refine zI ?_|refine zG ?_ _));refine blk_put (cs:=#[.int .i64 t412,u418001]) ?_ 1 _ rfl;(with_reducible repeat (first|refine zF ?_ _|refine zI ?_|refine zG ?_ _));exact BK417.out⟩,⟨zz HB⟩⟩
        ·
         rw [if_neg c15] at H
         exact absurd H (by simp)
       ·
        replace c14:=Bool.eq_false_iff.mpr c14
        subst c14
        have H1 : (some (0,([] : List Int),false)) = some (r1,r2,r3):=by rw [if_neg (show ¬ (false = true) by decide)] at H;exact H
        clear H;have H:=H1;clear H1;simp only [Option.some.injEq,Prod.mk.injEq] at H;obtain ⟨rfl,rfl,rfl⟩:=H;have p418 : 0 ≤ (x25_1 : Int):=zXb ze;have q418 : x25_1 < (t413.length : Int):=zXb ze;obtain ⟨ad418,e418,hx418_0⟩:=Kd.at_string (Kd.R_reads' HO_23.out).2.2 x25_1 p418 q418
        cases e418
        replace p418:=eq_true p418;replace q418:=eq_true q418
        go_wp2_with (first|((with_reducible refine gate_callee (f:=25) rfl ?_);refine goesL_ (some 31) rfl rfl Try.func25 (by kernel_rfl) rfl #[.string (rdOf ByteArray.empty t413 x25_1)] rfl (by (try simp only [zCb,zMb,zNb]);first|done|rfl|(simp only [zLb,zDb];rfl)) ?_;(with_reducible refine (impl_ParseTerm.calls k1 (rdOf ByteArray.empty t413 x25_1) t419 false _ A13.out).mono ?_);rintro e w22 ⟨rfl,hb⟩;refine ⟨_,rfl,?_⟩;replace HO_23:=zA (zZ (zq HO_23) hb);replace HO_418001:=zA (zZ (zq HO_418001) hb);replace BK411:=zA (zQ (g:=gb411) (o:=.cells #[.int .i64 x412000_1,.slice none 0 0] 38 (0,0)) (zx BK411) hb);replace BK417:=zA (zQ (g:=gb417) (o:=.cells #[.int .i64 t412,u418001] 38 (0,0)) (zx BK417) hb);replace HB:=zA (zJb (zz HB) hb);(try clear hb);(try clear hb2);(try clear hk);(try clear hi);have hnb23:=NB411_417.out;have hnc23:=NB417_411.out;have hcz24_0:=zc (.int .i64 x412000_1) BK411 0 rfl;have hcz24_1:=zc (.slice none 0 0) BK411 1 rfl;have hfz24_0:=blk_frozen BK411.out 0;have hfz24_1:=blk_frozen BK411.out 1))
        refine bodyPost_ret (results_ct rfl _ _ gb411 38 #[.int .i64 0,.slice none 0 0] (0,0) _ rfl (by (with_reducible repeat (first|refine zF ?_ _|refine zI ?_|refine zG ?_ _));refine blk_put (cs:=#[.int .i64 0,.slice none 0 0]) ?_ 1 _ rfl;(with_reducible repeat (first|refine zF ?_ _|refine zI ?_|refine zG ?_ _));refine blk_put (cs:=#[.int .i64 x412000_1,.slice none 0 0]) ?_ 0 _ rfl;(with_reducible repeat (first|refine zF ?_ _|refine zI ?_|refine zG ?_ _));exact BK411.out) Try.underlying38 rfl (by kernel_rfl)) rfl ?_
        exact ⟨_,by first|rfl|(simp [errW_none,errW_some] <;> rfl)|(simp [*,errW_none,errW_some] <;> rfl),by first|exact Kd.R_nil _ _ _ _ _|exact Kd.N_nil _ _ _ _ _|exact Kd.V_nil _ _ _ _ _|exact Kd.Q_nil _ _ _ _ _|exact Kd.S_nil _ _ _ _ _,zz HB⟩
      ·
       rw [if_neg c12] at H
       exact absurd H (by simp)
     ·
      rw [if_neg c11] at H
      exact absurd H (by simp)
    ·
     rw [if_neg c10] at H;have c10b0:=decide_eq_false c10;clear c10;replace H:=Option.bind_eq_some_iff.mp H;obtain ⟨t424,A250,H⟩:=H;(try dsimp only at H);have A25:=zA A250;clear A250
     by_cases c26 : t424.toList = a0.toList
     ·
      rw [if_pos c26] at H;have c26b0:=beq_iff_eq.mpr c26;have c26b1:=bne_eq_false_iff_eq.mpr c26;clear c26;simp only [Option.some.injEq,Prod.mk.injEq] at H;obtain ⟨rfl,rfl,rfl⟩:=H;have hnb27:=NB417_411.out;have hnc27:=NB411_417.out;have hcz28_0:=zc (.int .i64 t412) BK417 0 rfl;have hcz28_1:=zc (u418001) BK417 1 rfl;have hfz28_0:=blk_frozen BK417.out 0;have hfz28_1:=blk_frozen BK417.out 1;obtain ⟨Ao29,co29,eo29⟩:=Kd.R_slice HO_418001.out
      subst eo29
      go_wp2_with (first|((with_reducible refine gate_callee (f:=29) rfl ?_);refine goesL_ (some 45) rfl rfl Try.func29 (by kernel_rfl) rfl #[.agg #[.int .i64 t412,.slice Ao29 x418001_1.length co29]] rfl (by (try simp only [zCb,zMb,zNb]);first|done|rfl|(simp only [zLb,zDb];rfl)) ?_;(with_reducible refine (impl_FormatAtom.calls k1 t412 _ _ x418001_1 t424 _ ?side1 ?side2 A25.out).mono ?_);(case side1 => repeat (first|exact (Kd.R_reads' HO_418001.out).2.2|(with_reducible refine zBb ?_ _)|(with_reducible refine zAb ?_ _)|(with_reducible refine zX ?_)));(case side2 => exact (Kd.R_reads' HO_418001.out).2.1);rintro e w30 ⟨rfl,hb⟩;refine ⟨_,rfl,?_⟩;replace HO_23:=zA (zZ (zq HO_23) hb);replace HO_418001:=zA (zZ (zq HO_418001) hb);replace BK411:=zA (zQ (g:=gb411) (o:=.cells #[.int .i64 x412000_1,.slice none 0 0] 38 (0,0)) (zx BK411) hb);replace BK417:=zA (zQ (g:=gb417) (o:=.cells #[.int .i64 t412,.slice Ao29 x418001_1.length co29] 38 (0,0)) (zx BK417) hb);replace HB:=zA (zJb (zz HB) hb);(try clear hb);(try clear hb2);(try clear hk);(try clear hi);have hcz31_0:=zc (.int .i64 t412) BK417 0 rfl;have hcz31_1:=zc (.slice Ao29 x418001_1.length co29) BK417 1 rfl;have hfz31_0:=blk_frozen BK417.out 0;have hfz31_1:=blk_frozen BK417.out 1;have hcz32_0:=zc (.int .i64 x412000_1) BK411 0 rfl;have hcz32_1:=zc (.slice none 0 0) BK411 1 rfl;have hfz32_0:=blk_frozen BK411.out 0;have hfz32_1:=blk_frozen BK411.out 1))
      refine bodyPost_ret (results_ct rfl _ _ gb411 38 #[.int .i64 t412,.slice Ao29 x418001_1.length co29] (0,0) _ rfl (by (with_reducible repeat (first|refine zF ?_ _|refine zI ?_|refine zG ?_ _));refine blk_put (cs:=#[.int .i64 t412,.slice none 0 0]) ?_ 1 _ rfl;(with_reducible repeat (first|refine zF ?_ _|refine zI ?_|refine zG ?_ _));refine blk_put (cs:=#[.int .i64 x412000_1,.slice none 0 0]) ?_ 0 _ rfl;(with_reducible repeat (first|refine zF ?_ _|refine zI ?_|refine zG ?_ _));exact BK411.out) Try.underlying38 rfl (by kernel_rfl)) rfl ?_
      exact ⟨_,by first|rfl|(simp [errW_none,errW_some] <;> rfl)|(simp [*,errW_none,errW_some] <;> rfl),by (with_reducible repeat (first|apply zE|apply zD|apply zH));exact zGb (zR (p:=⟨gb411,1,none⟩) (zR (p:=⟨gb411,0,none⟩) (Kd.R_types HO_418001.out BK411.out (by decide)) (fun _ hk => hk.2) (.int .i64 t412)) (fun _ hk => hk.2) (.slice Ao29 x418001_1.length co29)) (fun _ hk => trivial),zz HB⟩
     ·
      rw [if_neg c26] at H;have c26b0:=beq_eq_false_iff_ne.mpr c26;have c26b1:=bne_iff_ne.mpr c26;simp only [Option.some.injEq,Prod.mk.injEq] at H;obtain ⟨rfl,rfl,rfl⟩:=H;have hnb33:=NB417_411.out;have hnc33:=NB411_417.out;have hcz34_0:=zc (.int .i64 t412) BK417 0 rfl;have hcz34_1:=zc (u418001) BK417 1 rfl;have hfz34_0:=blk_frozen BK417.out 0;have hfz34_1:=blk_frozen BK417.out 1;obtain ⟨Ao35,co35,eo35⟩:=Kd.R_slice HO_418001.out
      subst eo35
      go_wp2_with (first|((with_reducible refine gate_callee (f:=29) rfl ?_);refine goesL_ (some 45) rfl rfl Try.func29 (by kernel_rfl) rfl #[.agg #[.int .i64 t412,.slice Ao35 x418001_1.length co35]] rfl (by (try simp only [zCb,zMb,zNb]);first|done|rfl|(simp only [zLb,zDb];rfl)) ?_;(with_reducible refine (impl_FormatAtom.calls k1 t412 _ _ x418001_1 t424 _ ?side1 ?side2 A25.out).mono ?_);(case side1 => repeat (first|exact (Kd.R_reads' HO_418001.out).2.2|(with_reducible refine zBb ?_ _)|(with_reducible refine zAb ?_ _)|(with_reducible refine zX ?_)));(case side2 => exact (Kd.R_reads' HO_418001.out).2.1);rintro e w36 ⟨rfl,hb⟩;refine ⟨_,rfl,?_⟩;replace HO_23:=zA (zZ (zq HO_23) hb);replace HO_418001:=zA (zZ (zq HO_418001) hb);replace BK411:=zA (zQ (g:=gb411) (o:=.cells #[.int .i64 x412000_1,.slice none 0 0] 38 (0,0)) (zx BK411) hb);replace BK417:=zA (zQ (g:=gb417) (o:=.cells #[.int .i64 t412,.slice Ao35 x418001_1.length co35] 38 (0,0)) (zx BK417) hb);replace HB:=zA (zJb (zz HB) hb);(try clear hb);(try clear hb2);(try clear hk);(try clear hi);have hcz37_0:=zc (.int .i64 x412000_1) BK411 0 rfl;have hcz37_1:=zc (.slice none 0 0) BK411 1 rfl;have hfz37_0:=blk_frozen BK411.out 0;have hfz37_1:=blk_frozen BK411.out 1))
      refine bodyPost_ret (results_ct rfl _ _ gb411 38 #[.int .i64 0,.slice none 0 0] (0,0) _ rfl (by (with_reducible repeat (first|refine zF ?_ _|refine zI ?_|refine zG ?_ _));refine blk_put (cs:=#[.int .i64 0,.slice none 0 0]) ?_ 1 _ rfl;(with_reducible repeat (first|refine zF ?_ _|refine zI ?_|refine zG ?_ _));refine blk_put (cs:=#[.int .i64 x412000_1,.slice none 0 0]) ?_ 0 _ rfl;(with_reducible repeat (first|refine zF ?_ _|refine zI ?_|refine zG ?_ _));exact BK411.out) Try.underlying38 rfl (by kernel_rfl)) rfl ?_
      exact ⟨_,by first|rfl|(simp [errW_none,errW_some] <;> rfl)|(simp [*,errW_none,errW_some] <;> rfl),by first|exact Kd.R_nil _ _ _ _ _|exact Kd.N_nil _ _ _ _ _|exact Kd.V_nil _ _ _ _ _|exact Kd.Q_nil _ _ _ _ _|exact Kd.S_nil _ _ _ _ _,zz HB⟩
 ·
  replace c3:=Bool.eq_false_iff.mpr c3
  subst c3
  have H1 : (some (0,([] : List Int),false)) = some (r1,r2,r3):=by rw [if_neg (show ¬ (false = true) by decide)] at H;exact H
  clear H;have H:=H1;clear H1;simp only [Option.some.injEq,Prod.mk.injEq] at H;obtain ⟨rfl,rfl,rfl⟩:=H
  go_enter Try.func58,Try.ntmps58
  go_wp2_with (first|((with_reducible refine gate_dst (N:=2) rfl ?_);refine box_event ?hg (N:=2) ?hd (cs:=#[.int .i64 0,.slice none 0 0]) (t:=38) ?hr ?_;(case hd => rfl);(case hg => rfl);(case hr => first|(go_simp;done)|(go_simp;rfl));intro gb411 hg w38 hbox hb;have BK411:=zA (hbox);have GW411:=zA ((by rw [hg];exact (zT (zz HB)) : w.heap.size ≤ gb411));have GE411:=zA ((by rw [hg];exact (zT (zz HB)) : w.heap.size ≤ gb411));replace HB:=zA (zJb (zz HB) hb);clear hb hbox hg)|((with_reducible refine gate_callee (f:=110) rfl ?_);refine goesL_ (some 14) rfl rfl Try.func110 (by kernel_rfl) rfl #[.string a0] rfl (by (try simp only [zCb,zMb,zNb]);first|done|rfl|(simp only [zLb,zDb];rfl)) ?_;(with_reducible refine (impl_split.calls k a0 t412 t413 false _ A2.out).mono ?_);rintro e w39 ⟨v415,rfl,ho0,hb⟩;refine ⟨_,rfl,?_⟩;have HO416:=zA (zHb ho0 (zT (zz HB)));replace BK411:=zA (zQ (g:=gb411) (o:=.cells #[.int .i64 0,.slice none 0 0] 38 (0,0)) (zx BK411) hb);replace HB:=zA (zJb (zz HB) hb);(try clear hb);(try clear hb2);(try clear hk);(try clear hi);(try clear ho0);have hcz40_0:=zc (.int .i64 0) BK411 0 rfl;have hcz40_1:=zc (.slice none 0 0) BK411 1 rfl;have hfz40_0:=blk_frozen BK411.out 0;have hfz40_1:=blk_frozen BK411.out 1))
  refine bodyPost_ret (results_ct rfl _ _ gb411 38 #[.int .i64 0,.slice none 0 0] (0,0) _ rfl (by (with_reducible repeat (first|refine zF ?_ _|refine zI ?_|refine zG ?_ _));refine blk_put (cs:=#[.int .i64 0,.slice none 0 0]) ?_ 1 _ rfl;(with_reducible repeat (first|refine zF ?_ _|refine zI ?_|refine zG ?_ _));refine blk_put (cs:=#[.int .i64 0,.slice none 0 0]) ?_ 0 _ rfl;(with_reducible repeat (first|refine zF ?_ _|refine zI ?_|refine zG ?_ _));exact BK411.out) Try.underlying38 rfl (by kernel_rfl)) rfl ?_
  exact ⟨_,by first|rfl|(simp [errW_none,errW_some] <;> rfl)|(simp [*,errW_none,errW_some] <;> rfl),by first|exact Kd.R_nil _ _ _ _ _|exact Kd.N_nil _ _ _ _ _|exact Kd.V_nil _ _ _ _ _|exact Kd.Q_nil _ _ _ _ _|exact Kd.S_nil _ _ _ _ _,zz HB⟩

end Go.Proofs.Ytpfpappamlgnoaa.QFnExactParseQuery
