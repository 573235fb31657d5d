/- Walks through the Go functions that FnExactAnswers reaches: each call returns what the Lean function beside it says, within the bounds that the theorem names. -/
import Derived.Test.YtfelabhakgcifaaGreatQFnExactAnswersx0
namespace Go.Proofs.YtfelabhakgcifaaGreat.QFnExactAnswers
open Go.RowKit Go.Proofs.YtfelabhakgcifaaGreatW.PrintWords Go.Proofs.YtfelabhakgcifaaGreatW.PrintLast Go.Proofs.YtfelabhakgcifaaGreatW.PrintMore
attribute [local go_sem] max2_int min2_int max_two min_two max_three min_three max_four min_four   -- for this text's walks alone
set_option linter.unusedVariables false
set_option linter.unusedSimpArgs false


/-! ### spec_l6Bind: function 93 -/
def spec_l6Bind.l0 : Nat → List Int → List Int → List Int → Int → Option (List Int × Bool)
 | 0, _, _, _, _ => none
 | k + 1, x0, x1, x8, x9 => if x9 < (x0.length : Int) then (if 0 ≤ x9 then (if (rd x0 x9) < 0 then (if x9 < (x1.length : Int) then (if (wrap64 ((-1) - (rd x0 x9))) = (rd x1 x9) then (spec_l6Bind.l0 k x0 x1 x8 (wrap64 (x9 + 1))) else (some (x8, false))) else (none)) else (if 0 ≤ (wrap64 (20 + (rd x0 x9))) then (if (wrap64 (20 + (rd x0 x9))) < (x8.length : Int) then (if (rd x8 (wrap64 (20 + (rd x0 x9)))) = 0 then (if x9 < (x1.length : Int) then (if 0 ≤ (rd x0 x9) then (if (rd x0 x9) < (x8.length : Int) then (spec_l6Bind.l0 k x0 x1 ((x8.set ((rd x0 x9) : Int).toNat (rd x1 x9)).set ((wrap64 (20 + (rd x0 x9))) : Int).toNat 1) (wrap64 (x9 + 1))) else (none)) else (none)) else (none)) else (if 0 ≤ (rd x0 x9) then (if (rd x0 x9) < (x8.length : Int) then (if x9 < (x1.length : Int) then (if (rd x8 (rd x0 x9)) = (rd x1 x9) then (spec_l6Bind.l0 k x0 x1 x8 (wrap64 (x9 + 1))) else (some (x8, false))) else (none)) else (none)) else (none))) else (none)) else (none))) else (none)) else (some (x8, true))
def spec_l6Bind.f (k : Nat) (l0 : List Int) (l1 : List Int) (l2 : List Int) : Option (List Int × Bool) := (some (([] : List Int) : List Int)).bind fun y236 => (if y236.length + l2.length < 17592186044416 then (spec_l6Bind.l0 k l0 l1 (y236 ++ l2) 0) else (none))
set_option maxHeartbeats 8000000 in
set_option maxRecDepth 100000 in
theorem spec_l6Bind.calls (k : Nat) (A0 : Option Addr) (c0 : Nat) (l0 : List Int) (A1 : Option Addr) (c1 : Nat) (l1 : List Int) (A2 : Option Addr) (c2 : Nat) (l2 : List Int) (r1 : List Int) (r2 : Bool) (w : World) (hr0 : Kd.C (Kd.int .i64) w A0 l0.length l0) (hc0 : l0.length ≤ c0) (hr1 : Kd.C (Kd.int .i64) w A1 l1.length l1) (hc1 : l1.length ≤ c1) (hr2 : Kd.C (Kd.int .i64) w A2 l2.length l2) (hc2 : l2.length ≤ c2) (h : spec_l6Bind.f k l0 l1 l2 = some (r1, r2)) :
  Calls Tryz.prog 93 #[.slice A0 l0.length c0, .slice A1 l1.length c1, .slice A2 l2.length c2] w fun e w' => ∃ v0_ : Value, e = .returned (.tuple #[v0_, .bool r2]) ∧ Kd.R (Kd.int .i64) 3 w' w.heap.size (fun _ => True) v0_ r1 ∧ Below w.heap.size w w' := by
 have HR0:=zA hr0;have HC0:=zA hc0;clear hr0 hc0;have HR1:=zA hr1;have HC1:=zA hc1;clear hr1 hc1;have HR2:=zA hr2;have HC2:=zA hc2;clear hr2 hc2;have HB:=zA (Below.refl w.heap.size w)
 have H : ((some (([] : List Int) : List Int)).bind fun y236 => (if y236.length + l2.length < 17592186044416 then (spec_l6Bind.l0 k l0 l1 (y236 ++ l2) 0) else (none))) = some (r1,r2):=h
 clear h;obtain ⟨y236,hy236⟩ : ∃ y_ : List Int,y_ = (([] : List Int)):=⟨_,rfl⟩
 replace H : (if y236.length + l2.length < 17592186044416 then (spec_l6Bind.l0 k l0 l1 (y236 ++ l2) 0) else (none)) = some (r1,r2):=by first|(rw [hy236];with_reducible exact H)|(have H2_:=(Option.bind_some _ _).symm.trans H;rw [hy236];with_reducible exact H2_)|(have H2_:=(Option.bind_some _ _).symm.trans H;with_reducible exact H2_)|with_reducible exact H|(rw [hy236];exact H)|exact H
 have Ny236:=zA hy236;clear hy236
 by_cases c4 : y236.length + l2.length < 17592186044416
 ·
  rw [if_pos c4] at H;have LMc4:=zA c4;clear c4;obtain ⟨y239,hy239⟩ : ∃ y_ : List Int,y_ = (y236 ++ l2):=⟨_,rfl⟩
  replace H : (spec_l6Bind.l0 k l0 l1 y239 0) = some (r1,r2):=by first|(rw [hy239];with_reducible exact H)|(have H2_:=(Option.bind_some _ _).symm.trans H;rw [hy239];with_reducible exact H2_)|(have H2_:=(Option.bind_some _ _).symm.trans H;with_reducible exact H2_)|with_reducible exact H|(rw [hy239];exact H)|exact H
  have Ny239:=zA hy239;clear hy239
  have H':=zA H
  clear H
  go_enter Tryz.func93,Tryz.ntmps93
  go_wp2_with (first|((with_reducible refine gate_dst (N:=11) rfl ?_);refine Kd.R_lit (Kd.int .i64) _ 3 ?hg (N:=11) ?hd (xs:=([] : List Int)) (inner:=[]) (ok:=fun _ => True) (okp:=fun _ => True) ?hr ?hp (fun _ hk => hk) trivial (Below.refl _ _) (Nat.le_refl _) (by simp) ?_;(case hd => rfl);(case hg => rfl);(case hr => first|(go_simp;done)|(go_simp;rfl));(case hp => exact (Reps.none _ _));intro v237 w5 ho6 hb hg_ hnew_;clear hg_ hnew_;(first|rw [← Ny236.out] at ho6|(simp only [Int.reduceToNat] at ho6;rw [← Ny236.out] at ho6));have HO238:=zA (zHb ho6 (zT (zz HB)));replace HB:=zA (zJb (zz HB) hb);clear hb ho6)|((with_reducible refine gate_builtin (b:=.append) (xs:=#[.tmp 11,.tmp 12]) rfl ?_);at_builtin;refine Kd.R_append_rows (Kd.int .i64) (w0:=w) w.heap.size rfl (.tmp 11) (.tmp 12) 22 3 (.int .i64 0) 8 rfl Tryz.underlying22 info3 rfl (by decide) (by omega) v237 y236 l2 _ _ _ (fun _ => True) (fun _ => False) rfl rfl ?aO ?aR (fun _ _ h => h) (fun _ h => h.elim) ?aF ?aB ?aS ?aL ?_;(case aR => exact zsd HR2 HB);(case aB => exact (zz HB));(case aF => exact (fun _ _ => trivial));(case aO => exact (zq HO238));(case aS => exact (zT (zz HB)));(case aL => have:=LMc4.out;omega);intro v240 w7 ho hb hg hat;rw [← Ny239.out] at ho;replace HB:=zA (hb);have HO241:=zA (ho);clear HO238;clear ho hb hg hat))
  repeat (go_quiet (first|((with_reducible refine gate_dst (N:=11) rfl ?_);refine Kd.R_lit (Kd.int .i64) _ 3 ?hg (N:=11) ?hd (xs:=([] : List Int)) (inner:=[]) (ok:=fun _ => True) (okp:=fun _ => True) ?hr ?hp (fun _ hk => hk) trivial (Below.refl _ _) (Nat.le_refl _) (by simp) ?_;(case hd => rfl);(case hg => rfl);(case hr => first|(go_simp;done)|(go_simp;rfl));(case hp => exact (Reps.none _ _));intro v237 w5 ho6 hb hg_ hnew_;clear hg_ hnew_;(first|rw [← Ny236.out] at ho6|(simp only [Int.reduceToNat] at ho6;rw [← Ny236.out] at ho6));have HO238:=zA (zHb ho6 (zT (zz HB)));replace HB:=zA (zJb (zz HB) hb);clear hb ho6)|((with_reducible refine gate_builtin (b:=.append) (xs:=#[.tmp 11,.tmp 12]) rfl ?_);at_builtin;refine Kd.R_append_rows (Kd.int .i64) (w0:=w) w.heap.size rfl (.tmp 11) (.tmp 12) 22 3 (.int .i64 0) 8 rfl Tryz.underlying22 info3 rfl (by decide) (by omega) v237 y236 l2 _ _ _ (fun _ => True) (fun _ => False) rfl rfl ?aO ?aR (fun _ _ h => h) (fun _ h => h.elim) ?aF ?aB ?aS ?aL ?_;(case aR => exact zsd HR2 HB);(case aB => exact (zz HB));(case aF => exact (fun _ _ => trivial));(case aO => exact (zq HO238));(case aS => exact (zT (zz HB)));(case aL => have:=LMc4.out;omega);intro v240 w7 ho hb hg hat;rw [← Ny239.out] at ho;replace HB:=zA (hb);have HO241:=zA (ho);clear HO238;clear ho hb hg hat));try go_wp2_with (first|((with_reducible refine gate_dst (N:=11) rfl ?_);refine Kd.R_lit (Kd.int .i64) _ 3 ?hg (N:=11) ?hd (xs:=([] : List Int)) (inner:=[]) (ok:=fun _ => True) (okp:=fun _ => True) ?hr ?hp (fun _ hk => hk) trivial (Below.refl _ _) (Nat.le_refl _) (by simp) ?_;(case hd => rfl);(case hg => rfl);(case hr => first|(go_simp;done)|(go_simp;rfl));(case hp => exact (Reps.none _ _));intro v237 w5 ho6 hb hg_ hnew_;clear hg_ hnew_;(first|rw [← Ny236.out] at ho6|(simp only [Int.reduceToNat] at ho6;rw [← Ny236.out] at ho6));have HO238:=zA (zHb ho6 (zT (zz HB)));replace HB:=zA (zJb (zz HB) hb);clear hb ho6)|((with_reducible refine gate_builtin (b:=.append) (xs:=#[.tmp 11,.tmp 12]) rfl ?_);at_builtin;refine Kd.R_append_rows (Kd.int .i64) (w0:=w) w.heap.size rfl (.tmp 11) (.tmp 12) 22 3 (.int .i64 0) 8 rfl Tryz.underlying22 info3 rfl (by decide) (by omega) v237 y236 l2 _ _ _ (fun _ => True) (fun _ => False) rfl rfl ?aO ?aR (fun _ _ h => h) (fun _ h => h.elim) ?aF ?aB ?aS ?aL ?_;(case aR => exact zsd HR2 HB);(case aB => exact (zz HB));(case aF => exact (fun _ _ => trivial));(case aO => exact (zq HO238));(case aS => exact (zT (zz HB)));(case aL => have:=LMc4.out;omega);intro v240 w7 ho hb hg hat;rw [← Ny239.out] at ho;replace HB:=zA (hb);have HO241:=zA (ho);clear HO238;clear ho hb hg hat)))
  go_loopg [9] k (fun kq v9 w' => ∃ (x8_1 : List Int) (x9_1 : Int),v9 = .int .i64 x9_1 ∧ Aside0 (spec_l6Bind.l0 kq l0 l1 x8_1 x9_1 = some (r1,r2)) ∧ Aside0 (kq ≤ k) ∧ Aside0 (Kd.R (Kd.int .i64) 3 w' w.heap.size (fun _ => True) v240 x8_1) ∧ Aside0 (Below w.heap.size w w'))
  case atStart => exact ⟨(y239),(0),za,H',⟨Nat.le_refl _⟩,⟨zq HO241⟩,⟨zz HB⟩⟩
  case round =>
   clear H';(try clear c1);(try clear c2);(try clear p2);(try clear c4);obtain ⟨x8_1,x9_1,rfl,HA,HK1,HO_8,HB⟩:=hrel
   cases gk with
   | zero => exact absurd HA.out (by simp [spec_l6Bind.l0])
   | succ k1 =>
    have H:=HA.out;clear HA;simp only [spec_l6Bind.l0] at H
    by_cases c8 : x9_1 < (l0.length : Int)
    ·
     rw [if_pos c8] at H;have c8b0:=decide_eq_true c8;clear c8
     by_cases c9 : 0 ≤ x9_1
     ·
      rw [if_pos c9] at H;have c9b0:=decide_eq_true c9;clear c9
      by_cases c10 : (rd l0 x9_1) < 0
      ·
       rw [if_pos c10] at H;have c10b0:=decide_eq_true c10;clear c10
       by_cases c11 : x9_1 < (l1.length : Int)
       ·
        rw [if_pos c11] at H;have c11b0:=decide_eq_true c11;clear c11
        by_cases c12 : (wrap64 ((-1) - (rd l0 x9_1))) = (rd l1 x9_1)
        ·
         rw [if_pos c12] at H;have c12b0:=beq_iff_eq.mpr c12;have c12b1:=bne_eq_false_iff_eq.mpr c12;clear c12
         have H':=zA H
         clear H;have p242 : 0 ≤ (x9_1 : Int):=zXb ze;have q242 : x9_1 < (l0.length : Int):=zXb ze;obtain ⟨ad242,e242,hx242_0⟩:=Kd.at_int HR0.out x9_1 p242 q242
         cases e242
         replace hx242_0:=(HB.out.cell (World.block_lt_of_cell? w _ hx242_0)).trans hx242_0;replace p242:=eq_true p242;replace q242:=eq_true q242;have p243 : 0 ≤ (x9_1 : Int):=zXb ze;have q243 : x9_1 < (l1.length : Int):=zXb ze;obtain ⟨ad243,e243,hx243_0⟩:=Kd.at_int HR1.out x9_1 p243 q243
         cases e243
         replace hx243_0:=(HB.out.cell (World.block_lt_of_cell? w _ hx243_0)).trans hx243_0;replace p243:=eq_true p243;replace q243:=eq_true q243
         go_wp2
         repeat (go_quiet (fail);try go_wp2)
         go_roundg k1
         case measure => have:=HK1.out;omega
         case rel => exact ⟨(x8_1),(wrap64 (x9_1 + 1)),za,H',⟨by have:=HK1.out;omega⟩,⟨zq HO_8⟩,⟨zz HB⟩⟩
        ·
         rw [if_neg c12] at H;have c12b0:=beq_eq_false_iff_ne.mpr c12;have c12b1:=bne_iff_ne.mpr c12;simp only [Option.some.injEq,Prod.mk.injEq] at H;obtain ⟨rfl,rfl⟩:=H;have p242 : 0 ≤ (x9_1 : Int):=zXb ze;have q242 : x9_1 < (l0.length : Int):=zXb ze;obtain ⟨ad242,e242,hx242_0⟩:=Kd.at_int HR0.out x9_1 p242 q242
         cases e242
         replace hx242_0:=(HB.out.cell (World.block_lt_of_cell? w _ hx242_0)).trans hx242_0;replace p242:=eq_true p242;replace q242:=eq_true q242;have p243 : 0 ≤ (x9_1 : Int):=zXb ze;have q243 : x9_1 < (l1.length : Int):=zXb ze;obtain ⟨ad243,e243,hx243_0⟩:=Kd.at_int HR1.out x9_1 p243 q243
         cases e243
         replace hx243_0:=(HB.out.cell (World.block_lt_of_cell? w _ hx243_0)).trans hx243_0;replace p243:=eq_true p243;replace q243:=eq_true q243
         go_wp2
         repeat (go_quiet (fail);try go_wp2)
         go_ret2
         exact ⟨_,by first|rfl|(simp [errW_none,errW_some] <;> rfl)|(simp [*,errW_none,errW_some] <;> rfl),zq HO_8,zz HB⟩
       ·
        rw [if_neg c11] at H
        exact absurd H (by simp)
      ·
       rw [if_neg c10] at H;have c10b0:=decide_eq_false c10;clear c10;obtain ⟨ji13,hji13⟩ : ∃ j_ : Int,(wrap64 (20 + (rd l0 x9_1))) = j_:=⟨_,rfl⟩
       replace H : (if 0 ≤ (ji13) then (if (ji13) < (x8_1.length : Int) then (if (rd x8_1 (ji13)) = 0 then (if x9_1 < (l1.length : Int) then (if 0 ≤ (rd l0 x9_1) then (if (rd l0 x9_1) < (x8_1.length : Int) then (spec_l6Bind.l0 k1 l0 l1 ((x8_1.set ((rd l0 x9_1) : Int).toNat (rd l1 x9_1)).set ((ji13) : Int).toNat 1) (wrap64 (x9_1 + 1))) else (none)) else (none)) else (none)) else (if 0 ≤ (rd l0 x9_1) then (if (rd l0 x9_1) < (x8_1.length : Int) then (if x9_1 < (l1.length : Int) then (if (rd x8_1 (rd l0 x9_1)) = (rd l1 x9_1) then (spec_l6Bind.l0 k1 l0 l1 x8_1 (wrap64 (x9_1 + 1))) else (some (x8_1,false))) else (none)) else (none)) else (none))) else (none)) else (none)) = some (r1,r2):=by first|(rw [hji13] at H;exact H)|(simp only [hji13] at H ⊢;exact H)
       have hji13w : (IntKind.i64.wrap (20 + (rd l0 x9_1))) = ji13:=(i64_w _).trans hji13
       by_cases c14 : 0 ≤ (ji13)
       ·
        rw [if_pos c14] at H;have c14b0:=decide_eq_true c14;clear c14
        by_cases c15 : (ji13) < (x8_1.length : Int)
        ·
         rw [if_pos c15] at H;have c15b0:=decide_eq_true c15;clear c15
         by_cases c16 : (rd x8_1 (ji13)) = 0
         ·
          rw [if_pos c16] at H;have c16b0:=beq_iff_eq.mpr c16;have c16b1:=bne_eq_false_iff_eq.mpr c16;clear c16
          by_cases c17 : x9_1 < (l1.length : Int)
          ·
           rw [if_pos c17] at H;have c17b0:=decide_eq_true c17;clear c17
           by_cases c18 : 0 ≤ (rd l0 x9_1)
           ·
            rw [if_pos c18] at H;have c18b0:=decide_eq_true c18;clear c18
            by_cases c19 : (rd l0 x9_1) < (x8_1.length : Int)
            ·
             rw [if_pos c19] at H;have c19b0:=decide_eq_true c19;clear c19;obtain ⟨y246,hy246⟩ : ∃ y_ : List Int,y_ = (x8_1.set ((rd l0 x9_1) : Int).toNat (rd l1 x9_1)):=⟨_,rfl⟩
             replace H : (spec_l6Bind.l0 k1 l0 l1 (y246.set ((ji13) : Int).toNat 1) (wrap64 (x9_1 + 1))) = some (r1,r2):=by first|(rw [hy246];with_reducible exact H)|(have H2_:=(Option.bind_some _ _).symm.trans H;rw [hy246];with_reducible exact H2_)|(have H2_:=(Option.bind_some _ _).symm.trans H;with_reducible exact H2_)|with_reducible exact H|(rw [hy246];exact H)|exact H
             have Ny246:=zA hy246;clear hy246;obtain ⟨y247,hy247⟩ : ∃ y_ : List Int,y_ = (y246.set ((ji13) : Int).toNat 1):=⟨_,rfl⟩
             replace H : (spec_l6Bind.l0 k1 l0 l1 y247 (wrap64 (x9_1 + 1))) = some (r1,r2):=by first|(rw [hy247];with_reducible exact H)|(have H2_:=(Option.bind_some _ _).symm.trans H;rw [hy247];with_reducible exact H2_)|(have H2_:=(Option.bind_some _ _).symm.trans H;with_reducible exact H2_)|with_reducible exact H|(rw [hy247];exact H)|exact H
             have Ny247:=zA hy247;clear hy247
             have H':=zA H
             clear H;have p242 : 0 ≤ (x9_1 : Int):=zXb ze;have q242 : x9_1 < (l0.length : Int):=zXb ze;obtain ⟨ad242,e242,hx242_0⟩:=Kd.at_int HR0.out x9_1 p242 q242
             cases e242
             replace hx242_0:=(HB.out.cell (World.block_lt_of_cell? w _ hx242_0)).trans hx242_0;replace p242:=eq_true p242;replace q242:=eq_true q242;obtain ⟨Ao22,co22,eo22⟩:=Kd.R_slice HO_8.out
             subst eo22
             have p244 : 0 ≤ ((ji13) : Int):=zXb ze;have q244 : (ji13) < (x8_1.length : Int):=zXb ze;obtain ⟨ad244,e244,hx244_0⟩:=Kd.at_int (Kd.R_reads' HO_8.out).2.2 (ji13) p244 q244
             cases e244
             replace p244:=eq_true p244;replace q244:=eq_true q244;have p245 : 0 ≤ (x9_1 : Int):=zXb ze;have q245 : x9_1 < (l1.length : Int):=zXb ze;obtain ⟨ad245,e245,hx245_0⟩:=Kd.at_int HR1.out x9_1 p245 q245
             cases e245
             replace hx245_0:=(HB.out.cell (World.block_lt_of_cell? w _ hx245_0)).trans hx245_0;replace p245:=eq_true p245;replace q245:=eq_true q245;have p20 : 0 ≤ ((rd l0 x9_1) : Int):=zXb ze;have q20 : ((rd l0 x9_1) : Int) < ((x8_1.length : Int) : Int):=zXb ze;obtain ⟨go20,co20,eo20,gb20,gl20,cl20,HG20⟩:=Kd.R_form HO_8.out (by omega)
             (first|cases eo20|(injection eo20 with ea_ en_ ec_;(first|subst ea_|(injection ea_ with ea_;subst ea_));subst ec_;clear en_))
             have GB20:=zA gb20;have GG20:=zA HG20;clear gb20 gl20 HG20
             (first|simp only [add_plain] at hx244_0|skip)
             obtain ⟨hx20_0,hf20_0⟩:=Kd.R_celln 0 HO_8.out ((rd l0 x9_1) : Int) p20 q20;replace p20:=eq_true p20;replace q20:=eq_true q20;have HP23:=Kd.R_putg HO_8.out ((rd l0 x9_1) : Int) (rd l1 x9_1)
             go_wp2_with (first|((with_reducible refine gate_store (t:=3) (p:=48) rfl ?_);(try (rw [drewN_self wr];generalize hq_ : World.drewN wr _ = wr;replace HO_8:=zA (Kd.R_at hq_ HO_8.out);replace HB:=zA (below_at hq_ HB.out);clear hq_;(try (have HP23:=Kd.R_putg HO_8.out ((rd l0 x9_1) : Int) (rd l1 x9_1)))));refine store_event (t:=3) (p:=48) (v:=?vo_w24) (w1:=(wr.setCell ⟨go20,((rd l0 x9_1) : Int).toNat,none⟩ (.int .i64 (rd l1 x9_1)))) ?hg ?ho ?hn ?hr ?_;(case ho => rfl);(case hg => rfl);(case hn => rfl);(case hr => first|(go_simp;done)|(go_simp;rfl));intro w24 hw;have hg : wr.grownBy w24 (some go20):=(by rw [hw];exact HP23.2);have hp_ : Kd.R (Kd.int .i64) 3 w24 w.heap.size (fun _ => True) (.slice (some ⟨go20,0,none⟩) x8_1.length co22) y246:=(by rw [hw,Ny246.out];exact HP23.1);clear HP23;replace HO_8:=zA (hp_);replace HB:=zA ((by rw [hw];exact zB (HB.out) GB20.out : Below w.heap.size w w24));clear hg hw hp_;have p21 : 0 ≤ ((ji13) : Int):=zXb ze;have q21 : ((ji13) : Int) < ((x8_1.length : Int) : Int):=zXb ze;obtain ⟨hx21_0,hf21_0⟩:=Kd.R_celln 0 HO_8.out ((ji13) : Int) p21 q21;replace p21:=eq_true p21;replace q21:=eq_true q21;obtain ⟨hy25_,hz25_⟩:=Kd.R_celln 0 HO_8.out ((ji13) : Int) (zXb ze) (zXb ze);have HP25:=Kd.R_putg HO_8.out ((ji13) : Int) 1)|((with_reducible refine gate_store (t:=3) (p:=52) rfl ?_);(try (rw [drewN_self w24];generalize hq_ : World.drewN w24 _ = w24;replace HO_8:=zA (Kd.R_at hq_ HO_8.out);replace HB:=zA (below_at hq_ HB.out);clear hq_;(try (obtain ⟨hy25_,hz25_⟩:=Kd.R_celln 0 HO_8.out ((ji13) : Int) (zXb ze) (zXb ze)));(try (have HP25:=Kd.R_putg HO_8.out ((ji13) : Int) 1))));refine store_event (t:=3) (p:=52) (v:=?vo_w26) (w1:=(w24.setCell ⟨go20,((ji13) : Int).toNat,none⟩ (.int .i64 1))) ?hg ?ho ?hn ?hr ?_;(case ho => rfl);(case hg => rfl);(case hn => rfl);(case hr => first|(go_simp;done)|(go_simp;rfl));intro w26 hw;have hg : w24.grownBy w26 (some go20):=(by rw [hw];exact HP25.2);have hp_ : Kd.R (Kd.int .i64) 3 w26 w.heap.size (fun _ => True) (.slice (some ⟨go20,0,none⟩) x8_1.length co22) y247:=(by rw [hw,Ny247.out];exact HP25.1);clear HP25;replace HO_8:=zA (hp_);replace HB:=zA ((by rw [hw];exact zB (HB.out) GB20.out : Below w.heap.size w w26));clear hg hw hp_))
             repeat (go_quiet (first|((with_reducible refine gate_store (t:=3) (p:=48) rfl ?_);(try (rw [drewN_self wr];generalize hq_ : World.drewN wr _ = wr;replace HO_8:=zA (Kd.R_at hq_ HO_8.out);replace HB:=zA (below_at hq_ HB.out);clear hq_;(try (have HP23:=Kd.R_putg HO_8.out ((rd l0 x9_1) : Int) (rd l1 x9_1)))));refine store_event (t:=3) (p:=48) (v:=?vo_w24) (w1:=(wr.setCell ⟨go20,((rd l0 x9_1) : Int).toNat,none⟩ (.int .i64 (rd l1 x9_1)))) ?hg ?ho ?hn ?hr ?_;(case ho => rfl);(case hg => rfl);(case hn => rfl);(case hr => first|(go_simp;done)|(go_simp;rfl));intro w24 hw;have hg : wr.grownBy w24 (some go20):=(by rw [hw];exact HP23.2);have hp_ : Kd.R (Kd.int .i64) 3 w24 w.heap.size (fun _ => True) (.slice (some ⟨go20,0,none⟩) x8_1.length co22) y246:=(by rw [hw,Ny246.out];exact HP23.1);clear HP23;replace HO_8:=zA (hp_);replace HB:=zA ((by rw [hw];exact zB (HB.out) GB20.out : Below w.heap.size w w24));clear hg hw hp_;have p21 : 0 ≤ ((ji13) : Int):=zXb ze;have q21 : ((ji13) : Int) < ((x8_1.length : Int) : Int):=zXb ze;obtain ⟨hx21_0,hf21_0⟩:=Kd.R_celln 0 HO_8.out ((ji13) : Int) p21 q21;replace p21:=eq_true p21;replace q21:=eq_true q21;obtain ⟨hy25_,hz25_⟩:=Kd.R_celln 0 HO_8.out ((ji13) : Int) (zXb ze) (zXb ze);have HP25:=Kd.R_putg HO_8.out ((ji13) : Int) 1)|((with_reducible refine gate_store (t:=3) (p:=52) rfl ?_);(try (rw [drewN_self w24];generalize hq_ : World.drewN w24 _ = w24;replace HO_8:=zA (Kd.R_at hq_ HO_8.out);replace HB:=zA (below_at hq_ HB.out);clear hq_;(try (obtain ⟨hy25_,hz25_⟩:=Kd.R_celln 0 HO_8.out ((ji13) : Int) (zXb ze) (zXb ze)));(try (have HP25:=Kd.R_putg HO_8.out ((ji13) : Int) 1))));refine store_event (t:=3) (p:=52) (v:=?vo_w26) (w1:=(w24.setCell ⟨go20,((ji13) : Int).toNat,none⟩ (.int .i64 1))) ?hg ?ho ?hn ?hr ?_;(case ho => rfl);(case hg => rfl);(case hn => rfl);(case hr => first|(go_simp;done)|(go_simp;rfl));intro w26 hw;have hg : w24.grownBy w26 (some go20):=(by rw [hw];exact HP25.2);have hp_ : Kd.R (Kd.int .i64) 3 w26 w.heap.size (fun _ => True) (.slice (some ⟨go20,0,none⟩) x8_1.length co22) y247:=(by rw [hw,Ny247.out];exact HP25.1);clear HP25;replace HO_8:=zA (hp_);replace HB:=zA ((by rw [hw];exact zB (HB.out) GB20.out : Below w.heap.size w w26));clear hg hw hp_));try go_wp2_with (first|((with_reducible refine gate_store (t:=3) (p:=48) rfl ?_);(try (rw [drewN_self wr];generalize hq_ : World.drewN wr _ = wr;replace HO_8:=zA (Kd.R_at hq_ HO_8.out);replace HB:=zA (below_at hq_ HB.out);clear hq_;(try (have HP23:=Kd.R_putg HO_8.out ((rd l0 x9_1) : Int) (rd l1 x9_1)))));refine store_event (t:=3) (p:=48) (v:=?vo_w24) (w1:=(wr.setCell ⟨go20,((rd l0 x9_1) : Int).toNat,none⟩ (.int .i64 (rd l1 x9_1)))) ?hg ?ho ?hn ?hr ?_;(case ho => rfl);(case hg => rfl);(case hn => rfl);(case hr => first|(go_simp;done)|(go_simp;rfl));intro w24 hw;have hg : wr.grownBy w24 (some go20):=(by rw [hw];exact HP23.2);have hp_ : Kd.R (Kd.int .i64) 3 w24 w.heap.size (fun _ => True) (.slice (some ⟨go20,0,none⟩) x8_1.length co22) y246:=(by rw [hw,Ny246.out];exact HP23.1);clear HP23;replace HO_8:=zA (hp_);replace HB:=zA ((by rw [hw];exact zB (HB.out) GB20.out : Below w.heap.size w w24));clear hg hw hp_;have p21 : 0 ≤ ((ji13) : Int):=zXb ze;have q21 : ((ji13) : Int) < ((x8_1.length : Int) : Int):=zXb ze;obtain ⟨hx21_0,hf21_0⟩:=Kd.R_celln 0 HO_8.out ((ji13) : Int) p21 q21;replace p21:=eq_true p21;replace q21:=eq_true q21;obtain ⟨hy25_,hz25_⟩:=Kd.R_celln 0 HO_8.out ((ji13) : Int) (zXb ze) (zXb ze);have HP25:=Kd.R_putg HO_8.out ((ji13) : Int) 1)|((with_reducible refine gate_store (t:=3) (p:=52) rfl ?_);(try (rw [drewN_self w24];generalize hq_ : World.drewN w24 _ = w24;replace HO_8:=zA (Kd.R_at hq_ HO_8.out);replace HB:=zA (below_at hq_ HB.out);clear hq_;(try (obtain ⟨hy25_,hz25_⟩:=Kd.R_celln 0 HO_8.out ((ji13) : Int) (zXb ze) (zXb ze)));(try (have HP25:=Kd.R_putg HO_8.out ((ji13) : Int) 1))));refine store_event (t:=3) (p:=52) (v:=?vo_w26) (w1:=(w24.setCell ⟨go20,((ji13) : Int).toNat,none⟩ (.int .i64 1))) ?hg ?ho ?hn ?hr ?_;(case ho => rfl);(case hg => rfl);(case hn => rfl);(case hr => first|(go_simp;done)|(go_simp;rfl));intro w26 hw;have hg : w24.grownBy w26 (some go20):=(by rw [hw];exact HP25.2);have hp_ : Kd.R (Kd.int .i64) 3 w26 w.heap.size (fun _ => True) (.slice (some ⟨go20,0,none⟩) x8_1.length co22) y247:=(by rw [hw,Ny247.out];exact HP25.1);clear HP25;replace HO_8:=zA (hp_);replace HB:=zA ((by rw [hw];exact zB (HB.out) GB20.out : Below w.heap.size w w26));clear hg hw hp_)))
             go_roundg k1
             case measure => have:=HK1.out;omega
             case rel => exact ⟨(y247),(wrap64 (x9_1 + 1)),za,H',⟨by have:=HK1.out;omega⟩,⟨zq HO_8⟩,⟨zz HB⟩⟩
            ·
             rw [if_neg c19] at H
             exact absurd H (by simp)
           ·
            rw [if_neg c18] at H
            exact absurd H (by simp)
          ·
           rw [if_neg c17] at H
           exact absurd H (by simp)
         ·
          rw [if_neg c16] at H;have c16b0:=beq_eq_false_iff_ne.mpr c16;have c16b1:=bne_iff_ne.mpr c16
          by_cases c27 : 0 ≤ (rd l0 x9_1)
          ·
           rw [if_pos c27] at H;have c27b0:=decide_eq_true c27;clear c27
           by_cases c28 : (rd l0 x9_1) < (x8_1.length : Int)
           ·
            rw [if_pos c28] at H;have c28b0:=decide_eq_true c28;clear c28
            by_cases c29 : x9_1 < (l1.length : Int)
            ·
             rw [if_pos c29] at H;have c29b0:=decide_eq_true c29;clear c29
             by_cases c30 : (rd x8_1 (rd l0 x9_1)) = (rd l1 x9_1)
             ·
              rw [if_pos c30] at H;have c30b0:=beq_iff_eq.mpr c30;have c30b1:=bne_eq_false_iff_eq.mpr c30;clear c30
              have H':=zA H
              clear H;have p242 : 0 ≤ (x9_1 : Int):=zXb ze;have q242 : x9_1 < (l0.length : Int):=zXb ze;obtain ⟨ad242,e242,hx242_0⟩:=Kd.at_int HR0.out x9_1 p242 q242
              cases e242
              replace hx242_0:=(HB.out.cell (World.block_lt_of_cell? w _ hx242_0)).trans hx242_0;replace p242:=eq_true p242;replace q242:=eq_true q242;obtain ⟨Ao31,co31,eo31⟩:=Kd.R_slice HO_8.out
              subst eo31
              have p244 : 0 ≤ ((ji13) : Int):=zXb ze;have q244 : (ji13) < (x8_1.length : Int):=zXb ze;obtain ⟨ad244,e244,hx244_0⟩:=Kd.at_int (Kd.R_reads' HO_8.out).2.2 (ji13) p244 q244
              cases e244
              replace p244:=eq_true p244;replace q244:=eq_true q244;have p248 : 0 ≤ ((rd l0 x9_1) : Int):=zXb ze;have q248 : (rd l0 x9_1) < (x8_1.length : Int):=zXb ze;obtain ⟨ad248,e248,hx248_0⟩:=Kd.at_int (Kd.R_reads' HO_8.out).2.2 (rd l0 x9_1) p248 q248
              obtain rfl : ad244 = ad248:=(by injection e248)
              replace p248:=eq_true p248;replace q248:=eq_true q248;have p249 : 0 ≤ (x9_1 : Int):=zXb ze;have q249 : x9_1 < (l1.length : Int):=zXb ze;obtain ⟨ad249,e249,hx249_0⟩:=Kd.at_int HR1.out x9_1 p249 q249
              cases e249
              replace hx249_0:=(HB.out.cell (World.block_lt_of_cell? w _ hx249_0)).trans hx249_0;replace p249:=eq_true p249;replace q249:=eq_true q249
              go_wp2
              repeat (go_quiet (fail);try go_wp2)
              go_roundg k1
              case measure => have:=HK1.out;omega
              case rel => exact ⟨(x8_1),(wrap64 (x9_1 + 1)),za,H',⟨by have:=HK1.out;omega⟩,⟨zq HO_8⟩,⟨zz HB⟩⟩
             ·
              rw [if_neg c30] at H;have c30b0:=beq_eq_false_iff_ne.mpr c30;have c30b1:=bne_iff_ne.mpr c30;simp only [Option.some.injEq,Prod.mk.injEq] at H;obtain ⟨rfl,rfl⟩:=H;have p242 : 0 ≤ (x9_1 : Int):=zXb ze;have q242 : x9_1 < (l0.length : Int):=zXb ze;obtain ⟨ad242,e242,hx242_0⟩:=Kd.at_int HR0.out x9_1 p242 q242
              cases e242
              replace hx242_0:=(HB.out.cell (World.block_lt_of_cell? w _ hx242_0)).trans hx242_0;replace p242:=eq_true p242;replace q242:=eq_true q242;obtain ⟨Ao32,co32,eo32⟩:=Kd.R_slice HO_8.out
              subst eo32
              have p244 : 0 ≤ ((ji13) : Int):=zXb ze;have q244 : (ji13) < (x8_1.length : Int):=zXb ze;obtain ⟨ad244,e244,hx244_0⟩:=Kd.at_int (Kd.R_reads' HO_8.out).2.2 (ji13) p244 q244
              cases e244
              replace p244:=eq_true p244;replace q244:=eq_true q244;have p248 : 0 ≤ ((rd l0 x9_1) : Int):=zXb ze;have q248 : (rd l0 x9_1) < (x8_1.length : Int):=zXb ze;obtain ⟨ad248,e248,hx248_0⟩:=Kd.at_int (Kd.R_reads' HO_8.out).2.2 (rd l0 x9_1) p248 q248
              obtain rfl : ad244 = ad248:=(by injection e248)
              replace p248:=eq_true p248;replace q248:=eq_true q248;have p249 : 0 ≤ (x9_1 : Int):=zXb ze;have q249 : x9_1 < (l1.length : Int):=zXb ze;obtain ⟨ad249,e249,hx249_0⟩:=Kd.at_int HR1.out x9_1 p249 q249
              cases e249
              replace hx249_0:=(HB.out.cell (World.block_lt_of_cell? w _ hx249_0)).trans hx249_0;replace p249:=eq_true p249;replace q249:=eq_true q249
              go_wp2
              repeat (go_quiet (fail);try go_wp2)
              go_ret2
              exact ⟨_,by first|rfl|(simp [errW_none,errW_some] <;> rfl)|(simp only [← hji13];first|rfl|(simp [errW_none,errW_some] <;> rfl))|(simp [*,errW_none,errW_some] <;> rfl),zq HO_8,zz HB⟩
            ·
             rw [if_neg c29] at H
             exact absurd H (by simp)
           ·
            rw [if_neg c28] at H
            exact absurd H (by simp)
          ·
           rw [if_neg c27] at H
           exact absurd H (by simp)
        ·
         rw [if_neg c15] at H
         exact absurd H (by simp)
       ·
        rw [if_neg c14] at H
        exact absurd H (by simp)
     ·
      rw [if_neg c9] at H
      exact absurd H (by simp)
    ·
     rw [if_neg c8] at H;have c8b0:=decide_eq_false c8;clear c8;simp only [Option.some.injEq,Prod.mk.injEq] at H;obtain ⟨rfl,rfl⟩:=H
     go_wp2
     repeat (go_quiet (fail);try go_wp2)
     go_ret2
     exact ⟨_,by first|rfl|(simp [errW_none,errW_some] <;> rfl)|(simp [*,errW_none,errW_some] <;> rfl),zq HO_8,zz HB⟩
 ·
  rw [if_neg c4] at H
  exact absurd H (by simp)

-- NOT PRINTED: function 75 (spec_l6Search)

/-! ### spec_l6Empty: function 76 -/
mutual
def spec_l6Empty.l0 : Nat → List Int → Int → Option (List Int)
 | 0, _, _ => none
 | k + 1, x1, x2 => if x2 < 20 then (if x1.length < 17592186044416 then (spec_l6Empty.l0 k (x1 ++ [(-1)]) (wrap64 (x2 + 1))) else (none)) else (spec_l6Empty.l1 k x1 0)
def spec_l6Empty.l1 : Nat → List Int → Int → Option (List Int)
 | 0, _, _ => none
 | k + 1, x1, x3 => if x3 < 20 then (if x1.length < 17592186044416 then (spec_l6Empty.l1 k (x1 ++ [0]) (wrap64 (x3 + 1))) else (none)) else (some x1)
end
def spec_l6Empty.f (k : Nat)  : Option (List Int) := spec_l6Empty.l0 k (([] : List Int)) 0
set_option maxHeartbeats 8000000 in
set_option maxRecDepth 100000 in
theorem spec_l6Empty.calls (k : Nat)  (r : List Int) (w : World) (h : spec_l6Empty.f k  = some r) :
  Calls Tryz.prog 76 #[] w fun e w' => ∃ v0_ : Value, e = .returned (v0_) ∧ Kd.R (Kd.int .i64) 3 w' w.heap.size (fun _ => True) v0_ r ∧ Below w.heap.size w w' := by
 have HB:=zA (Below.refl w.heap.size w)
 have H : (spec_l6Empty.l0 k (([] : List Int)) 0) = some r:=h
 clear h;obtain ⟨y250,hy250⟩ : ∃ y_ : List Int,y_ = (([] : List Int)):=⟨_,rfl⟩
 replace H : (spec_l6Empty.l0 k y250 0) = some r:=by first|(rw [hy250];with_reducible exact H)|(have H2_:=(Option.bind_some _ _).symm.trans H;rw [hy250];with_reducible exact H2_)|(have H2_:=(Option.bind_some _ _).symm.trans H;with_reducible exact H2_)|with_reducible exact H|(rw [hy250];exact H)|exact H
 have Ny250:=zA hy250;clear hy250
 have H':=zA H
 clear H
 go_enter Tryz.func76,Tryz.ntmps76
 go_wp2_with (first|((with_reducible refine gate_dst (N:=4) rfl ?_);refine Kd.R_lit (Kd.int .i64) _ 3 ?hg (N:=4) ?hd (xs:=([] : List Int)) (inner:=[]) (ok:=fun _ => True) (okp:=fun _ => True) ?hr ?hp (fun _ hk => hk) trivial (Below.refl _ _) (Nat.le_refl _) (by simp) ?_;(case hd => rfl);(case hg => rfl);(case hr => first|(go_simp;done)|(go_simp;rfl));(case hp => exact (Reps.none _ _));intro v251 w1 ho2 hb hg_ hnew_;clear hg_ hnew_;(first|rw [← Ny250.out] at ho2|(simp only [Int.reduceToNat] at ho2;rw [← Ny250.out] at ho2));have HO252:=zA (zHb ho2 (zT (zz HB)));replace HB:=zA (zJb (zz HB) hb);clear hb ho2))
 go_loopg [1,2] k (fun kq v1 v2 w' => ∃ (x1_1 : List Int) (x2_1 : Int),v2 = .int .i64 x2_1 ∧ Aside0 (spec_l6Empty.l0 kq x1_1 x2_1 = some r) ∧ Aside0 (kq ≤ k) ∧ Aside0 (Kd.R (Kd.int .i64) 3 w' w.heap.size (fun _ => True) v1 x1_1) ∧ Aside0 (Below w.heap.size w w'))
 case atStart => exact ⟨(y250),(0),za,H',⟨Nat.le_refl _⟩,⟨zq HO252⟩,⟨zz HB⟩⟩
 case round =>
  clear H';(try clear p2);obtain ⟨x1_1,x2_1,rfl,HA,HK1,HO_1,HB⟩:=hrel
  cases gk with
  | zero => exact absurd HA.out (by simp [spec_l6Empty.l0])
  | succ k1 =>
   have H:=HA.out;clear HA;simp only [spec_l6Empty.l0] at H
   by_cases c3 : x2_1 < 20
   ·
    rw [if_pos c3] at H;have c3b0:=decide_eq_true c3;clear c3
    by_cases c4 : x1_1.length < 17592186044416
    ·
     rw [if_pos c4] at H;have LMc4:=zA c4;clear c4;obtain ⟨y253,hy253⟩ : ∃ y_ : List Int,y_ = (x1_1 ++ [(-1)]):=⟨_,rfl⟩
     replace H : (spec_l6Empty.l0 k1 y253 (wrap64 (x2_1 + 1))) = some r:=by first|(rw [hy253];with_reducible exact H)|(have H2_:=(Option.bind_some _ _).symm.trans H;rw [hy253];with_reducible exact H2_)|(have H2_:=(Option.bind_some _ _).symm.trans H;with_reducible exact H2_)|with_reducible exact H|(rw [hy253];exact H)|exact H
     have Ny253:=zA hy253;clear hy253
     have H':=zA H
     clear H
     go_wp2_with (first|((with_reducible refine gate_builtin (b:=.append) (xs:=#[.tmp 9,.tmp 10]) rfl ?_);at_builtin;refine Kd.R_append (Kd.int .i64) (w0:=w) w.heap.size rfl (.tmp 9) (.tmp 10) 22 3 (.int .i64 0) 8 rfl Tryz.underlying22 info3 rfl (by decide) (by omega) u1 x1_1 (-1) [.int .i64 (-1)] (fun _ => True) (fun _ => False) rfl rfl ?aP (fun _ hk => hk.elim) ?aF ?aO ?aB ?aS ?aL ?_;(case aP => exact rfl);(case aB => exact (zz HB));(case aF => exact (fun _ _ => trivial));(case aO => exact (zq HO_1));(case aS => exact (zT (zz HB)));(case aL => have:=LMc4.out;omega);intro v254 w5 ho hb hg hat;rw [← Ny253.out] at ho;replace HB:=zA (hb);have HO255:=zA (ho);clear HO_1;clear ho hb hg hat))
     go_roundg k1
     case measure => have:=HK1.out;omega
     case rel => exact ⟨(y253),(wrap64 (x2_1 + 1)),za,H',⟨by have:=HK1.out;omega⟩,⟨zq HO255⟩,⟨zz HB⟩⟩
    ·
     rw [if_neg c4] at H
     exact absurd H (by simp)
   ·
    rw [if_neg c3] at H;have c3b0:=decide_eq_false c3;clear c3
    have H':=zA H
    clear H
    go_wp2
    go_loopg [1,3] k1 (fun kq v1 v3 w' => ∃ (x1_2 : List Int) (x3_2 : Int),v3 = .int .i64 x3_2 ∧ Aside0 (spec_l6Empty.l1 kq x1_2 x3_2 = some r) ∧ Aside0 (kq ≤ k1) ∧ Aside0 (Kd.R (Kd.int .i64) 3 w' w.heap.size (fun _ => True) v1 x1_2) ∧ Aside0 (Below w.heap.size w w'))
    case atStart => exact ⟨(x1_1),(0),za,H',⟨Nat.le_refl _⟩,⟨zq HO_1⟩,⟨zz HB⟩⟩
    case round =>
     clear H';(try clear p2);(try clear c3);(try clear c3b0);(try clear c4);(try clear p2);obtain ⟨x1_2,x3_2,rfl,HA,HK2,HO_1,HB⟩:=hrel
     cases gk with
     | zero => exact absurd HA.out (by simp [spec_l6Empty.l1])
     | succ k2 =>
      have H:=HA.out;clear HA;simp only [spec_l6Empty.l1] at H
      by_cases c6 : x3_2 < 20
      ·
       rw [if_pos c6] at H;have c6b0:=decide_eq_true c6;clear c6
       by_cases c7 : x1_2.length < 17592186044416
       ·
        rw [if_pos c7] at H;have LMc7:=zA c7;clear c7;obtain ⟨y256,hy256⟩ : ∃ y_ : List Int,y_ = (x1_2 ++ [0]):=⟨_,rfl⟩
        replace H : (spec_l6Empty.l1 k2 y256 (wrap64 (x3_2 + 1))) = some r:=by first|(rw [hy256];with_reducible exact H)|(have H2_:=(Option.bind_some _ _).symm.trans H;rw [hy256];with_reducible exact H2_)|(have H2_:=(Option.bind_some _ _).symm.trans H;with_reducible exact H2_)|with_reducible exact H|(rw [hy256];exact H)|exact H
        have Ny256:=zA hy256;clear hy256
        have H':=zA H
        clear H
        go_wp2_with (first|((with_reducible refine gate_builtin (b:=.append) (xs:=#[.tmp 16,.tmp 17]) rfl ?_);at_builtin;refine Kd.R_append (Kd.int .i64) (w0:=w) w.heap.size rfl (.tmp 16) (.tmp 17) 22 3 (.int .i64 0) 8 rfl Tryz.underlying22 info3 rfl (by decide) (by omega) u1 x1_2 0 [.int .i64 0] (fun _ => True) (fun _ => False) rfl rfl ?aP (fun _ hk => hk.elim) ?aF ?aO ?aB ?aS ?aL ?_;(case aP => exact rfl);(case aB => exact (zz HB));(case aF => exact (fun _ _ => trivial));(case aO => exact (zq HO_1));(case aS => exact (zT (zz HB)));(case aL => have:=LMc7.out;omega);intro v257 w8 ho hb hg hat;rw [← Ny256.out] at ho;replace HB:=zA (hb);have HO258:=zA (ho);clear HO_1;clear ho hb hg hat))
        go_roundg k2
        case measure => have:=HK1.out;have:=HK2.out;omega
        case rel => exact ⟨(y256),(wrap64 (x3_2 + 1)),za,H',⟨by have:=HK1.out;have:=HK2.out;omega⟩,⟨zq HO258⟩,⟨zz HB⟩⟩
       ·
        rw [if_neg c7] at H
        exact absurd H (by simp)
      ·
       rw [if_neg c6] at H;have c6b0:=decide_eq_false c6;clear c6
       obtain rfl:=Option.some.inj H
       go_wp2
       go_ret
       exact ⟨_,by first|rfl|(simp [errW_none,errW_some] <;> rfl)|(simp [*,errW_none,errW_some] <;> rfl),zq HO_1,zz HB⟩

-- NOT PRINTED: function 54 (spec_l6Raw)

-- NOT PRINTED: function 32 (spec_Bindings)

-- NOT PRINTED: function 8 (spec_Answers)

/-! ### laws_toIntS: function 33 -/
def laws_toIntS.l0 : Nat → List Int → List Int → Int → Option (List Int)
 | 0, _, _, _ => none
 | k + 1, x0, x3, x4 => if x4 < (x0.length : Int) then (if 0 ≤ x4 then (if x4 < (x3.length : Int) then (laws_toIntS.l0 k x0 (x3.set (x4 : Int).toNat (rd x0 x4)) (wrap64 (x4 + 1))) else (none)) else (none)) else (some x3)
def laws_toIntS.f (k : Nat) (l0 : List Int) : Option (List Int) := if 0 ≤ (l0.length : Int) then (if ((l0.length : Int) : Int).toNat ≤ 35184372088832 then (laws_toIntS.l0 k l0 (List.replicate ((l0.length : Int) : Int).toNat 0) 0) else (none)) else (none)
set_option maxHeartbeats 8000000 in
set_option maxRecDepth 100000 in
theorem laws_toIntS.calls (k : Nat) (A0 : Option Addr) (c0 : Nat) (l0 : List Int) (r : List Int) (w : World) (hr0 : Kd.C (Kd.int .i64) w A0 l0.length l0) (hc0 : l0.length ≤ c0) (h : laws_toIntS.f k l0 = some r) :
  Calls Tryz.prog 33 #[.slice A0 l0.length c0] w fun e w' => ∃ v0_ : Value, e = .returned (v0_) ∧ Kd.R (Kd.int .i64) 3 w' w.heap.size (fun _ => True) v0_ r ∧ Below w.heap.size w w' := by
 have HR0:=zA hr0;have HC0:=zA hc0;clear hr0 hc0;have HB:=zA (Below.refl w.heap.size w)
 have H : (if 0 ≤ (l0.length : Int) then (if ((l0.length : Int) : Int).toNat ≤ 35184372088832 then (laws_toIntS.l0 k l0 (List.replicate ((l0.length : Int) : Int).toNat 0) 0) else (none)) else (none)) = some r:=h
 clear h
 by_cases c2 : 0 ≤ (l0.length : Int)
 ·
  rw [if_pos c2] at H;have c2b0:=eq_true c2;have c2b1:=decide_eq_true c2;clear c2
  by_cases c3 : ((l0.length : Int) : Int).toNat ≤ 35184372088832
  ·
   rw [if_pos c3] at H;have c3b0:=eq_true c3;have c3b1:=decide_eq_true c3;clear c3;obtain ⟨y269,hy269⟩ : ∃ y_ : List Int,y_ = (List.replicate ((l0.length : Int) : Int).toNat 0):=⟨_,rfl⟩
   replace H : (laws_toIntS.l0 k l0 y269 0) = some r:=by first|(rw [hy269];with_reducible exact H)|(have H2_:=(Option.bind_some _ _).symm.trans H;rw [hy269];with_reducible exact H2_)|(have H2_:=(Option.bind_some _ _).symm.trans H;with_reducible exact H2_)|with_reducible exact H|(rw [hy269];exact H)|exact H
   have Ny269:=zA hy269;clear hy269
   have H':=zA H
   clear H
   go_enter Tryz.func33,Tryz.ntmps33
   go_wp2_with (first|((with_reducible refine gate_dst (N:=7) rfl ?_);refine Kd.R_make (Kd.int .i64) _ 3 rfl (N:=7) rfl 22 _ _ rfl (l0.length : Int) rfl rfl Tryz.underlying22 (.int .i64 0) 8 info3 rfl (by decide) (by omega) 0 (ok:=fun _ => True) (okp:=fun _ => True) rfl (fun _ hk => hk) trivial (zXb ze) (Nat.le_trans (Nat.mul_le_mul_right _ (zXb ze : (l0.length : Int).toNat ≤ 35184372088832)) (by omega)) (Below.refl _ _) (Nat.le_refl _) ?_;intro v270 w4 ho5 hb hg_ hnew_;clear hg_ hnew_;(first|rw [← Ny269.out] at ho5|(simp only [Int.reduceToNat] at ho5;rw [← Ny269.out] at ho5));have HO271:=zA (zHb ho5 (zT (zz HB)));replace HB:=zA (zJb (zz HB) hb);clear hb ho5))
   go_loopg [4] k (fun kq v4 w' => ∃ (x3_1 : List Int) (x4_1 : Int),v4 = .int .i64 x4_1 ∧ Aside0 (laws_toIntS.l0 kq l0 x3_1 x4_1 = some r) ∧ Aside0 (kq ≤ k) ∧ Aside0 (Kd.R (Kd.int .i64) 3 w' w.heap.size (fun _ => True) v270 x3_1) ∧ Aside0 (Below w.heap.size w w'))
   case atStart => exact ⟨(y269),(0),za,H',⟨Nat.le_refl _⟩,⟨zq HO271⟩,⟨zz HB⟩⟩
   case round =>
    clear H';(try clear c2);(try clear c2b0);(try clear c2b1);(try clear p2);(try clear c3);(try clear c3b0);(try clear c3b1);obtain ⟨x3_1,x4_1,rfl,HA,HK1,HO_3,HB⟩:=hrel
    cases gk with
    | zero => exact absurd HA.out (by simp [laws_toIntS.l0])
    | succ k1 =>
     have H:=HA.out;clear HA;simp only [laws_toIntS.l0] at H
     by_cases c6 : x4_1 < (l0.length : Int)
     ·
      rw [if_pos c6] at H;have c6b0:=decide_eq_true c6;clear c6
      by_cases c7 : 0 ≤ x4_1
      ·
       rw [if_pos c7] at H;have c7b0:=decide_eq_true c7;clear c7
       by_cases c8 : x4_1 < (x3_1.length : Int)
       ·
        rw [if_pos c8] at H;have c8b0:=decide_eq_true c8;clear c8;obtain ⟨y273,hy273⟩ : ∃ y_ : List Int,y_ = (x3_1.set (x4_1 : Int).toNat (rd l0 x4_1)):=⟨_,rfl⟩
        replace H : (laws_toIntS.l0 k1 l0 y273 (wrap64 (x4_1 + 1))) = some r:=by first|(rw [hy273];with_reducible exact H)|(have H2_:=(Option.bind_some _ _).symm.trans H;rw [hy273];with_reducible exact H2_)|(have H2_:=(Option.bind_some _ _).symm.trans H;with_reducible exact H2_)|with_reducible exact H|(rw [hy273];exact H)|exact H
        have Ny273:=zA hy273;clear hy273
        have H':=zA H
        clear H;have p272 : 0 ≤ (x4_1 : Int):=zXb ze;have q272 : x4_1 < (l0.length : Int):=zXb ze;obtain ⟨ad272,e272,hx272_0⟩:=Kd.at_int HR0.out x4_1 p272 q272
        cases e272
        replace hx272_0:=(HB.out.cell (World.block_lt_of_cell? w _ hx272_0)).trans hx272_0;replace p272:=eq_true p272;replace q272:=eq_true q272;have p9 : 0 ≤ (x4_1 : Int):=zXb ze;have q9 : (x4_1 : Int) < ((x3_1.length : Int) : Int):=zXb ze;obtain ⟨go9,co9,eo9,gb9,gl9,cl9,HG9⟩:=Kd.R_form HO_3.out (by omega)
        (first|cases eo9|(injection eo9 with ea_ en_ ec_;(first|subst ea_|(injection ea_ with ea_;subst ea_));subst ec_;clear en_))
        have GB9:=zA gb9;have GG9:=zA HG9;clear gb9 gl9 HG9;obtain ⟨hx9_0,hf9_0⟩:=Kd.R_celln 0 HO_3.out (x4_1 : Int) p9 q9;replace p9:=eq_true p9;replace q9:=eq_true q9;have HP10:=Kd.R_putg HO_3.out (x4_1 : Int) (rd l0 x4_1)
        go_wp2_with (first|((with_reducible refine gate_store (t:=3) (p:=20) rfl ?_);refine store_event (t:=3) (p:=20) (v:=?vo_w11) (w1:=(wr.setCell ⟨go9,(x4_1 : Int).toNat,none⟩ (.int .i64 (rd l0 x4_1)))) ?hg ?ho ?hn ?hr ?_;(case ho => rfl);(case hg => rfl);(case hn => rfl);(case hr => first|(go_simp;done)|(go_simp;rfl));intro w11 hw;have hg : wr.grownBy w11 (some go9):=(by rw [hw];exact HP10.2);have hp_ : Kd.R (Kd.int .i64) 3 w11 w.heap.size (fun _ => True) (.slice (some ⟨go9,0,none⟩) x3_1.length co9) y273:=(by rw [hw,Ny273.out];exact HP10.1);clear HP10;replace HO_3:=zA (hp_);replace HB:=zA ((by rw [hw];exact zB (HB.out) GB9.out : Below w.heap.size w w11));clear hg hw hp_))
        go_roundg k1
        case measure => have:=HK1.out;omega
        case rel => exact ⟨(y273),(wrap64 (x4_1 + 1)),za,H',⟨by have:=HK1.out;omega⟩,⟨zq HO_3⟩,⟨zz HB⟩⟩
       ·
        rw [if_neg c8] at H
        exact absurd H (by simp)
      ·
       rw [if_neg c7] at H
       exact absurd H (by simp)
     ·
      rw [if_neg c6] at H;have c6b0:=decide_eq_false c6;clear c6
      obtain rfl:=Option.some.inj H
      go_wp2
      go_ret
      exact ⟨_,by first|rfl|(simp [errW_none,errW_some] <;> rfl)|(simp [*,errW_none,errW_some] <;> rfl),zq HO_3,zz HB⟩
  ·
   rw [if_neg c3] at H
   exact absurd H (by simp)
 ·
  rw [if_neg c2] at H
  exact absurd H (by simp)

/-! ### laws_toSchema: function 9 -/
def laws_toSchema.f (k : Nat) (l0_0 : List Int) : Option (List Int) := (laws_toIntS.f k l0_0).bind fun t277 => (some t277)
set_option maxHeartbeats 8000000 in
set_option maxRecDepth 100000 in
theorem laws_toSchema.calls (k : Nat) (A0_0 : Option Addr) (c0_0 : Nat) (l0_0 : List Int) (r : List Int) (w : World) (hr0_0 : Kd.C (Kd.int .i64) w A0_0 l0_0.length l0_0) (hc0_0 : l0_0.length ≤ c0_0) (h : laws_toSchema.f k l0_0 = some r) :
  Calls Tryz.prog 9 #[.agg #[.slice A0_0 l0_0.length c0_0]] w fun e w' => ∃ v0_ : Value, e = .returned (.agg #[v0_]) ∧ Kd.R (Kd.int .i64) 3 w' w.heap.size (fun _ => True) v0_ r ∧ Below w.heap.size w w' := by
 have hu24:=Tryz.underlying24;have hu34:=Tryz.underlying34;have HR0_0:=zA hr0_0;have HC0_0:=zA hc0_0;clear hr0_0 hc0_0;have HB:=zA (Below.refl w.heap.size w)
 have H : ((laws_toIntS.f k l0_0).bind fun t277 => (some t277)) = some r:=h
 clear h;replace H:=Option.bind_eq_some_iff.mp H;obtain ⟨t277,A20,H⟩:=H;(try dsimp only at H);have A2:=zA A20;clear A20
 obtain rfl:=Option.some.inj H
 go_enter Tryz.func9,Tryz.ntmps9
 go_wp2_with (first|((with_reducible refine gate_dst (N:=1) rfl ?_);refine box_event ?hg (N:=1) ?hd (cs:=#[.slice A0_0 l0_0.length c0_0]) (t:=24) ?hr ?_;(case hd => rfl);(case hg => rfl);(case hr => first|(go_simp;done)|(go_simp;rfl));intro gb274 hg w3 hbox hb;have BK274:=zA (hbox);have GW274:=zA ((by rw [hg];exact (zT (zz HB)) : w.heap.size ≤ gb274));have GE274:=zA ((by rw [hg];exact (zT (zz HB)) : w.heap.size ≤ gb274));replace HB:=zA (zJb (zz HB) hb);clear hb hbox hg)|((with_reducible refine gate_dst (N:=2) rfl ?_);refine box_event ?hg (N:=2) ?hd (cs:=#[.slice none 0 0]) (t:=34) ?hr ?_;(case hd => rfl);(case hg => rfl);(case hr => first|(go_simp;done)|(go_simp;rfl));intro gb275 hg w4 hbox hb;have BK275:=zA (hbox);have GW275:=zA ((by rw [hg];exact (zT (zz HB)) : w.heap.size ≤ gb275));have GE275:=zA ((by rw [hg];exact (zT (zz HB)) : w.heap.size ≤ gb275));replace HB:=zA (zJb (zz HB) hb);have NB274_275:=zA ((by rw [hg];exact Nat.ne_of_lt (blk_lt (g:=gb274) (o:=.cells #[.slice A0_0 l0_0.length c0_0] 24 (0,0)) (zx BK274)) : gb274 ≠ gb275));have NB275_274:=zA ((by rw [hg];exact Nat.ne_of_gt (blk_lt (g:=gb274) (o:=.cells #[.slice A0_0 l0_0.length c0_0] 24 (0,0)) (zx BK274)) : gb275 ≠ gb274));replace BK274:=zA (zQ (g:=gb274) (o:=.cells #[.slice A0_0 l0_0.length c0_0] 24 (0,0)) (zx BK274) hb);clear hb hbox hg)|((with_reducible refine gate_dst (N:=3) rfl ?_);refine box_event ?hg (N:=3) ?hd (cs:=#[.slice none 0 0]) (t:=34) ?hr ?_;(case hd => rfl);(case hg => rfl);(case hr => first|(go_simp;done)|(go_simp;rfl));intro gb276 hg w5 hbox hb;have BK276:=zA (hbox);have GW276:=zA ((by rw [hg];exact (zT (zz HB)) : w.heap.size ≤ gb276));have GE276:=zA ((by rw [hg];exact (zT (zz HB)) : w.heap.size ≤ gb276));replace HB:=zA (zJb (zz HB) hb);have NB274_276:=zA ((by rw [hg];exact Nat.ne_of_lt (blk_lt (g:=gb274) (o:=.cells #[.slice A0_0 l0_0.length c0_0] 24 (0,0)) (zx BK274)) : gb274 ≠ gb276));have NB276_274:=zA ((by rw [hg];exact Nat.ne_of_gt (blk_lt (g:=gb274) (o:=.cells #[.slice A0_0 l0_0.length c0_0] 24 (0,0)) (zx BK274)) : gb276 ≠ gb274));replace BK274:=zA (zQ (g:=gb274) (o:=.cells #[.slice A0_0 l0_0.length c0_0] 24 (0,0)) (zx BK274) hb);have NB275_276:=zA ((by rw [hg];exact Nat.ne_of_lt (blk_lt (g:=gb275) (o:=.cells #[.slice none 0 0] 34 (0,0)) (zx BK275)) : gb275 ≠ gb276));have NB276_275:=zA ((by rw [hg];exact Nat.ne_of_gt (blk_lt (g:=gb275) (o:=.cells #[.slice none 0 0] 34 (0,0)) (zx BK275)) : gb276 ≠ gb275));replace BK275:=zA (zQ (g:=gb275) (o:=.cells #[.slice none 0 0] 34 (0,0)) (zx BK275) hb);clear hb hbox hg;have hnb6:=NB274_275.out;have hnc6:=NB275_274.out;have hnb7:=NB274_276.out;have hnc7:=NB276_274.out;have hcz8_0:=zc (.slice A0_0 l0_0.length c0_0) BK274 0 rfl;have hfz8_0:=blk_frozen BK274.out 0)|((with_reducible refine gate_callee (f:=33) rfl ?_);refine goesL_ (some 6) rfl rfl Tryz.func33 (by kernel_rfl) rfl #[.slice A0_0 l0_0.length c0_0] rfl (by (try simp only [zCb,zMb,zNb]);first|done|rfl|(simp only [zLb,zDb];rfl)) ?_;(with_reducible refine (laws_toIntS.calls k _ _ l0_0 t277 _ ?side1 ?side2 A2.out).mono ?_);(case side1 => exact zsd HR0_0 HB);(case side2 => exact HC0_0.out);rintro e w9 ⟨v278,rfl,ho0,hb⟩;refine ⟨_,rfl,?_⟩;have HO279:=zA (zHb ho0 (zT (zz HB)));replace BK274:=zA (zQ (g:=gb274) (o:=.cells #[.slice A0_0 l0_0.length c0_0] 24 (0,0)) (zx BK274) hb);replace BK275:=zA (zQ (g:=gb275) (o:=.cells #[.slice none 0 0] 34 (0,0)) (zx BK275) hb);replace BK276:=zA (zQ (g:=gb276) (o:=.cells #[.slice none 0 0] 34 (0,0)) (zx BK276) hb);replace HB:=zA (zJb (zz HB) hb);(try clear hb);(try clear hb2);(try clear hk);(try clear hi);(try clear ho0);obtain ⟨Ao10,co10,eo10⟩:=Kd.R_slice HO279.out;subst eo10;have hnb11:=NB276_275.out;have hnc11:=NB275_276.out;have hcz12_0:=zc (.slice none 0 0) BK276 0 rfl;have hfz12_0:=blk_frozen BK276.out 0;have hcz13_0:=zc (.slice none 0 0) BK275 0 rfl;have hfz13_0:=blk_frozen BK275.out 0))
 refine bodyPost_ret (results_cell_row rfl _ _ gb275 34 #[.slice Ao10 t277.length co10] (0,0) _ rfl (by (with_reducible repeat (first|refine zF ?_ _|refine zI ?_|refine zG ?_ _));refine blk_put (cs:=#[.slice none 0 0]) ?_ 0 _ rfl;(with_reducible repeat (first|refine zF ?_ _|refine zI ?_|refine zG ?_ _));refine zUb ?_ NB275_276.out _;(with_reducible repeat (first|refine zF ?_ _|refine zI ?_|refine zG ?_ _));exact BK275.out) Tryz.underlying34 rfl (by kernel_rfl)) rfl ?_
 exact ⟨_,by first|rfl|(simp [errW_none,errW_some] <;> rfl)|(simp [*,errW_none,errW_some] <;> rfl),by (with_reducible repeat (first|apply zE|apply zD|apply zH));exact zGb (zR (p:=⟨gb275,0,none⟩) (zR (p:=⟨gb276,0,none⟩) (Kd.R_types (Kd.R_types HO279.out BK276.out (by decide)) BK275.out (by decide)) (fun _ hk => hk.1.2) (.slice Ao10 t277.length co10)) (fun _ hk => hk.2) (.slice Ao10 t277.length co10)) (fun _ hk => trivial),zz HB⟩

/-! ### laws_toAtom: function 55 -/
def laws_toAtom.f (k : Nat) (a0_0 : Int) (l0_1 : List Int) : Option (Int × List Int) := (laws_toIntS.f k l0_1).bind fun t283 => (some (a0_0, t283))
set_option maxHeartbeats 8000000 in
set_option maxRecDepth 100000 in
theorem laws_toAtom.calls (k : Nat) (a0_0 : Int) (A0_1 : Option Addr) (c0_1 : Nat) (l0_1 : List Int) (r1 : Int) (r2 : List Int) (w : World) (hr0_1 : Kd.C (Kd.int .i64) w A0_1 l0_1.length l0_1) (hc0_1 : l0_1.length ≤ c0_1) (h : laws_toAtom.f k a0_0 l0_1 = some (r1, r2)) :
  Calls Tryz.prog 55 #[.agg #[.int .i64 a0_0, .slice A0_1 l0_1.length c0_1]] w fun e w' => ∃ v1_ : Value, e = .returned (.agg #[.int .i64 r1, v1_]) ∧ Kd.R (Kd.int .i64) 3 w' w.heap.size (fun _ => True) v1_ r2 ∧ Below w.heap.size w w' := by
 have hu79:=Tryz.underlying79;have hu81:=Tryz.underlying81;have HR0_1:=zA hr0_1;have HC0_1:=zA hc0_1;clear hr0_1 hc0_1;have HB:=zA (Below.refl w.heap.size w)
 have H : ((laws_toIntS.f k l0_1).bind fun t283 => (some (a0_0,t283))) = some (r1,r2):=h
 clear h;replace H:=Option.bind_eq_some_iff.mp H;obtain ⟨t283,A20,H⟩:=H;(try dsimp only at H);have A2:=zA A20;clear A20;simp only [Option.some.injEq,Prod.mk.injEq] at H;obtain ⟨rfl,rfl⟩:=H
 go_enter Tryz.func55,Tryz.ntmps55
 go_wp2_with (first|((with_reducible refine gate_dst (N:=1) rfl ?_);refine box_event ?hg (N:=1) ?hd (cs:=#[.int .i64 a0_0,.slice A0_1 l0_1.length c0_1]) (t:=79) ?hr ?_;(case hd => rfl);(case hg => rfl);(case hr => first|(go_simp;done)|(go_simp;rfl));intro gb280 hg w3 hbox hb;have BK280:=zA (hbox);have GW280:=zA ((by rw [hg];exact (zT (zz HB)) : w.heap.size ≤ gb280));have GE280:=zA ((by rw [hg];exact (zT (zz HB)) : w.heap.size ≤ gb280));replace HB:=zA (zJb (zz HB) hb);clear hb hbox hg)|((with_reducible refine gate_dst (N:=2) rfl ?_);refine box_event ?hg (N:=2) ?hd (cs:=#[.int .i64 0,.slice none 0 0]) (t:=81) ?hr ?_;(case hd => rfl);(case hg => rfl);(case hr => first|(go_simp;done)|(go_simp;rfl));intro gb281 hg w4 hbox hb;have BK281:=zA (hbox);have GW281:=zA ((by rw [hg];exact (zT (zz HB)) : w.heap.size ≤ gb281));have GE281:=zA ((by rw [hg];exact (zT (zz HB)) : w.heap.size ≤ gb281));replace HB:=zA (zJb (zz HB) hb);have NB280_281:=zA ((by rw [hg];exact Nat.ne_of_lt (blk_lt (g:=gb280) (o:=.cells #[.int .i64 a0_0,.slice A0_1 l0_1.length c0_1] 79 (0,0)) (zx BK280)) : gb280 ≠ gb281));have NB281_280:=zA ((by rw [hg];exact Nat.ne_of_gt (blk_lt (g:=gb280) (o:=.cells #[.int .i64 a0_0,.slice A0_1 l0_1.length c0_1] 79 (0,0)) (zx BK280)) : gb281 ≠ gb280));replace BK280:=zA (zQ (g:=gb280) (o:=.cells #[.int .i64 a0_0,.slice A0_1 l0_1.length c0_1] 79 (0,0)) (zx BK280) hb);clear hb hbox hg)|((with_reducible refine gate_dst (N:=3) rfl ?_);refine box_event ?hg (N:=3) ?hd (cs:=#[.int .i64 0,.slice none 0 0]) (t:=81) ?hr ?_;(case hd => rfl);(case hg => rfl);(case hr => first|(go_simp;done)|(go_simp;rfl));intro gb282 hg w5 hbox hb;have BK282:=zA (hbox);have GW282:=zA ((by rw [hg];exact (zT (zz HB)) : w.heap.size ≤ gb282));have GE282:=zA ((by rw [hg];exact (zT (zz HB)) : w.heap.size ≤ gb282));replace HB:=zA (zJb (zz HB) hb);have NB280_282:=zA ((by rw [hg];exact Nat.ne_of_lt (blk_lt (g:=gb280) (o:=.cells #[.int .i64 a0_0,.slice A0_1 l0_1.length c0_1] 79 (0,0)) (zx BK280)) : gb280 ≠ gb282));have NB282_280:=zA ((by rw [hg];exact Nat.ne_of_gt (blk_lt (g:=gb280) (o:=.cells #[.int .i64 a0_0,.slice A0_1 l0_1.length c0_1] 79 (0,0)) (zx BK280)) : gb282 ≠ gb280));replace BK280:=zA (zQ (g:=gb280) (o:=.cells #[.int .i64 a0_0,.slice A0_1 l0_1.length c0_1] 79 (0,0)) (zx BK280) hb);have NB281_282:=zA ((by rw [hg];exact Nat.ne_of_lt (blk_lt (g:=gb281) (o:=.cells #[.int .i64 0,.slice none 0 0] 81 (0,0)) (zx BK281)) : gb281 ≠ gb282));have NB282_281:=zA ((by rw [hg];exact Nat.ne_of_gt (blk_lt (g:=gb281) (o:=.cells #[.int .i64 0,.slice none 0 0] 81 (0,0)) (zx BK281)) : gb282 ≠ gb281));replace BK281:=zA (zQ (g:=gb281) (o:=.cells #[.int .i64 0,.slice none 0 0] 81 (0,0)) (zx BK281) hb);clear hb hbox hg;have hnb6:=NB280_281.out;have hnc6:=NB281_280.out;have hnb7:=NB280_282.out;have hnc7:=NB282_280.out;have hcz8_0:=zc (.int .i64 a0_0) BK280 0 rfl;have hcz8_1:=zc (.slice A0_1 l0_1.length c0_1) BK280 1 rfl;have hfz8_0:=blk_frozen BK280.out 0;have hfz8_1:=blk_frozen BK280.out 1;have hnb9:=NB282_281.out;have hnc9:=NB281_282.out;have hcz10_0:=zc (.int .i64 0) BK282 0 rfl;have hcz10_1:=zc (.slice none 0 0) BK282 1 rfl;have hfz10_0:=blk_frozen BK282.out 0;have hfz10_1:=blk_frozen BK282.out 1)|((with_reducible refine gate_callee (f:=33) rfl ?_);refine goesL_ (some 9) rfl rfl Tryz.func33 (by kernel_rfl) rfl #[.slice A0_1 l0_1.length c0_1] rfl (by (try simp only [zCb,zMb,zNb]);first|done|rfl|(simp only [zLb,zDb];rfl)) ?_;(with_reducible refine (laws_toIntS.calls k _ _ l0_1 t283 _ ?side1 ?side2 A2.out).mono ?_);(case side1 => exact zKb HR0_1.out (zz HB));(case side2 => exact HC0_1.out);rintro e w11 ⟨v284,rfl,ho0,hb⟩;refine ⟨_,rfl,?_⟩;have HO285:=zA (zHb ho0 (zT (zz HB)));replace BK280:=zA (zQ (g:=gb280) (o:=.cells #[.int .i64 a0_0,.slice A0_1 l0_1.length c0_1] 79 (0,0)) (by (with_reducible repeat (first|refine zF ?_ _|refine zI ?_|refine zG ?_ _));refine zUb ?_ NB280_282.out _;(with_reducible repeat (first|refine zF ?_ _|refine zI ?_|refine zG ?_ _));exact BK280.out) hb);replace BK281:=zA (zQ (g:=gb281) (o:=.cells #[.int .i64 0,.slice none 0 0] 81 (0,0)) (by (with_reducible repeat (first|refine zF ?_ _|refine zI ?_|refine zG ?_ _));refine zUb ?_ NB281_282.out _;(with_reducible repeat (first|refine zF ?_ _|refine zI ?_|refine zG ?_ _));exact BK281.out) hb);replace BK282:=zA (zQ (g:=gb282) (o:=.cells #[.int .i64 a0_0,.slice none 0 0] 81 (0,0)) (by (with_reducible repeat (first|refine zF ?_ _|refine zI ?_|refine zG ?_ _));refine blk_put (cs:=#[.int .i64 0,.slice none 0 0]) ?_ 0 _ rfl;(with_reducible repeat (first|refine zF ?_ _|refine zI ?_|refine zG ?_ _));exact BK282.out) hb);replace HB:=zA (zJb (zz HB) hb);(try clear hb);(try clear hb2);(try clear hk);(try clear hi);(try clear ho0);obtain ⟨Ao12,co12,eo12⟩:=Kd.R_slice HO285.out;subst eo12;have hcz13_0:=zc (.int .i64 a0_0) BK282 0 rfl;have hcz13_1:=zc (.slice none 0 0) BK282 1 rfl;have hfz13_0:=blk_frozen BK282.out 0;have hfz13_1:=blk_frozen BK282.out 1;have hcz14_0:=zc (.int .i64 0) BK281 0 rfl;have hcz14_1:=zc (.slice none 0 0) BK281 1 rfl;have hfz14_0:=blk_frozen BK281.out 0;have hfz14_1:=blk_frozen BK281.out 1))
 refine bodyPost_ret (results_cell_row rfl _ _ gb281 81 #[.int .i64 a0_0,.slice Ao12 t283.length co12] (0,0) _ rfl (by (with_reducible repeat (first|refine zF ?_ _|refine zI ?_|refine zG ?_ _));refine blk_put (cs:=#[.int .i64 a0_0,.slice none 0 0]) ?_ 1 _ rfl;(with_reducible repeat (first|refine zF ?_ _|refine zI ?_|refine zG ?_ _));refine blk_put (cs:=#[.int .i64 0,.slice none 0 0]) ?_ 0 _ rfl;(with_reducible repeat (first|refine zF ?_ _|refine zI ?_|refine zG ?_ _));refine zUb ?_ NB281_282.out _;(with_reducible repeat (first|refine zF ?_ _|refine zI ?_|refine zG ?_ _));exact BK281.out) Tryz.underlying81 rfl (by kernel_rfl)) rfl ?_
 exact ⟨_,by first|rfl|(simp [errW_none,errW_some] <;> rfl)|(simp [*,errW_none,errW_some] <;> rfl),by (with_reducible repeat (first|apply zE|apply zD|apply zH));exact zGb (zR (p:=⟨gb281,1,none⟩) (zR (p:=⟨gb281,0,none⟩) (zR (p:=⟨gb282,1,none⟩) (Kd.R_types (Kd.R_types HO285.out BK282.out (by decide)) BK281.out (by decide)) (fun _ hk => hk.1.2) (.slice Ao12 t283.length co12)) (fun _ hk => hk.2) (.int .i64 a0_0)) (fun _ hk => hk.2) (.slice Ao12 t283.length co12)) (fun _ hk => trivial),zz HB⟩

/-! ### laws_toAtomS: function 34 -/
def laws_toAtomS.l0 : Nat → List (S79) → List (S81) → Int → Option ((List (S81)))
 | 0, _, _, _ => none
 | k + 1, x0, x3, x4 => if x4 < (x0.length : Int) then (if 0 ≤ x4 then ((laws_toAtom.f k ((rd_T79 x0 x4).f0) ((rd_T79 x0 x4).f1)).bind fun bt290 => (if x4 < (x3.length : Int) then (laws_toAtomS.l0 k x0 (x3.set (x4 : Int).toNat (⟨bt290.1, bt290.2⟩ : S81)) (wrap64 (x4 + 1))) else (none))) else (none)) else (some x3)
def laws_toAtomS.f (k : Nat) (l0 : List (S79)) : Option ((List (S81))) := if 0 ≤ (l0.length : Int) then (if ((l0.length : Int) : Int).toNat ≤ 8796093022208 then (laws_toAtomS.l0 k l0 (List.replicate ((l0.length : Int) : Int).toNat z81) 0) else (none)) else (none)
set_option maxHeartbeats 8000000 in
set_option maxRecDepth 100000 in
theorem laws_toAtomS.calls (k : Nat) (A0 : Option Addr) (c0 : Nat) (l0 : List (S79)) (r : List (S81)) (w : World) (hr0 : Kd.C k79 w A0 l0.length l0) (hc0 : l0.length ≤ c0) (h : laws_toAtomS.f k l0 = some r) :
  Calls Tryz.prog 34 #[.slice A0 l0.length c0] w fun e w' => ∃ v0_ : Value, e = .returned (v0_) ∧ Kd.S k81 81 w' w.heap.size (fun _ => True) v0_ r ∧ Below w.heap.size w w' := by
 have hu79:=Tryz.underlying79;have hu81:=Tryz.underlying81;have HR0:=zA hr0;have HC0:=zA hc0;clear hr0 hc0;have HB:=zA (Below.refl w.heap.size w)
 have H : (if 0 ≤ (l0.length : Int) then (if ((l0.length : Int) : Int).toNat ≤ 8796093022208 then (laws_toAtomS.l0 k l0 (List.replicate ((l0.length : Int) : Int).toNat z81) 0) else (none)) else (none)) = some r:=h
 clear h
 by_cases c2 : 0 ≤ (l0.length : Int)
 ·
  rw [if_pos c2] at H;have c2b0:=eq_true c2;have c2b1:=decide_eq_true c2;clear c2
  by_cases c3 : ((l0.length : Int) : Int).toNat ≤ 8796093022208
  ·
   rw [if_pos c3] at H;have c3b0:=eq_true c3;have c3b1:=decide_eq_true c3;clear c3;obtain ⟨y286,hy286⟩ : ∃ y_ : List (S81),y_ = (List.replicate ((l0.length : Int) : Int).toNat z81):=⟨_,rfl⟩
   replace H : (laws_toAtomS.l0 k l0 y286 0) = some r:=by first|(rw [hy286];with_reducible exact H)|(have H2_:=(Option.bind_some _ _).symm.trans H;rw [hy286];with_reducible exact H2_)|(have H2_:=(Option.bind_some _ _).symm.trans H;with_reducible exact H2_)|with_reducible exact H|(rw [hy286];exact H)|exact H
   have Ny286:=zA hy286;clear hy286
   have H':=zA H
   clear H
   go_enter Tryz.func34,Tryz.ntmps34
   go_wp2_with (first|((with_reducible refine gate_dst (N:=7) rfl ?_);refine Kd.S_make k81 _ 81 rfl (N:=7) rfl 36 _ _ rfl (l0.length : Int) rfl rfl Tryz.underlying36 (.agg #[(.int .i64 0),(.slice none 0 0)]) 32 info81 rfl (by decide) (by omega) z81 (ok:=fun _ => True) (okp:=fun _ => True) (k81_mkM _ _ _ z81 (Kd.R_nil _ _ _ _ _)) (fun _ hk => hk) trivial (zXb ze) (Nat.le_trans (Nat.mul_le_mul_right _ (zXb ze : (l0.length : Int).toNat ≤ 8796093022208)) (by omega)) (Below.refl _ _) (Nat.le_refl _) ?_;intro v287 w4 ho5 hb hg_ hnew_;clear hg_ hnew_;(first|rw [← Ny286.out] at ho5|(simp only [Int.reduceToNat] at ho5;rw [← Ny286.out] at ho5));have HO288:=zA (zIb ho5 (zT (zz HB)));replace HB:=zA (zJb (zz HB) hb);clear hb ho5))
   go_loopg [4] k (fun kq v4 w' => ∃ (x3_1 : List (S81)) (x4_1 : Int),v4 = .int .i64 x4_1 ∧ Aside0 (laws_toAtomS.l0 kq l0 x3_1 x4_1 = some r) ∧ Aside0 (kq ≤ k) ∧ Aside0 (Kd.S k81 81 w' w.heap.size (fun _ => True) v287 x3_1) ∧ Aside0 (Below w.heap.size w w'))
   case atStart => exact ⟨(y286),(0),za,H',⟨Nat.le_refl _⟩,⟨zy HO288⟩,⟨zz HB⟩⟩
   case round =>
    clear H';(try clear c2);(try clear c2b0);(try clear c2b1);(try clear p2);(try clear c3);(try clear c3b0);(try clear c3b1);obtain ⟨x3_1,x4_1,rfl,HA,HK1,HO_3,HB⟩:=hrel
    cases gk with
    | zero => exact absurd HA.out (by simp [laws_toAtomS.l0])
    | succ k1 =>
     have H:=HA.out;clear HA;simp only [laws_toAtomS.l0] at H
     by_cases c6 : x4_1 < (l0.length : Int)
     ·
      rw [if_pos c6] at H;have c6b0:=decide_eq_true c6;clear c6
      by_cases c7 : 0 ≤ x4_1
      ·
       rw [if_pos c7] at H;have c7b0:=decide_eq_true c7;clear c7;replace H:=Option.bind_eq_some_iff.mp H;obtain ⟨⟨t290,t291⟩,A80,H⟩:=H;(try dsimp only at H);have A8:=zA A80;clear A80
       by_cases c9 : x4_1 < (x3_1.length : Int)
       ·
        rw [if_pos c9] at H;have c9b0:=decide_eq_true c9;clear c9;obtain ⟨y294,hy294⟩ : ∃ y_ : List (S81),y_ = (x3_1.set (x4_1 : Int).toNat (⟨t290,t291⟩ : S81)):=⟨_,rfl⟩
        replace H : (laws_toAtomS.l0 k1 l0 y294 (wrap64 (x4_1 + 1))) = some r:=by first|(rw [hy294];with_reducible exact H)|(have H2_:=(Option.bind_some _ _).symm.trans H;rw [hy294];with_reducible exact H2_)|(have H2_:=(Option.bind_some _ _).symm.trans H;with_reducible exact H2_)|with_reducible exact H|(rw [hy294];exact H)|exact H
        have Ny294:=zA hy294;clear hy294
        have H':=zA H
        clear H;have p289 : 0 ≤ (x4_1 : Int):=zXb ze;have q289 : x4_1 < (l0.length : Int):=zXb ze;obtain ⟨ad289,A289_1,c289_1,e289,hx289_0,hx289_1,hl289_1,hi289_1⟩:=at_T79 HR0.out x4_1 p289 q289
        cases e289
        replace hx289_0:=(HB.out.cell (World.block_lt_of_cell? w _ hx289_0)).trans hx289_0;replace hx289_1:=(HB.out.cell (World.block_lt_of_cell? w _ hx289_1)).trans hx289_1;have HR289_1:=zA hi289_1;have HC289_1:=zA hl289_1;clear hi289_1 hl289_1;replace p289:=eq_true p289;replace q289:=eq_true q289
        go_wp2_with (first|((with_reducible refine gate_callee (f:=55) rfl ?_);refine goesL_ (some 20) rfl rfl Tryz.func55 (by kernel_rfl) rfl #[.agg #[.int .i64 ((rd_T79 l0 x4_1).f0),.slice A289_1 ((rd_T79 l0 x4_1).f1).length c289_1]] rfl (by (try simp only [zCb,zMb,zNb]);first|done|rfl|(simp only [zLb,zDb];rfl)) ?_;(with_reducible refine (laws_toAtom.calls k1 ((rd_T79 l0 x4_1).f0) _ _ ((rd_T79 l0 x4_1).f1) t290 t291 _ ?side1 ?side2 A8.out).mono ?_);(case side1 => exact zsd HR289_1 HB);(case side2 => exact HC289_1.out);rintro e w11 ⟨v292,rfl,ho0,hb⟩;refine ⟨_,rfl,?_⟩;replace HO_3:=zA (zSb (zy HO_3) (zW ho0) hb);have HO293:=zA (zHb ho0 (zT (zz HB)));replace HB:=zA (zJb (zz HB) hb);(try clear hb);(try clear hb2);(try clear hk);(try clear hi);(try clear ho0);have p10 : 0 ≤ (x4_1 : Int):=zXb ze;have q10 : (x4_1 : Int) < ((x3_1.length : Int) : Int):=zXb ze;obtain ⟨go10,co10,eo10,gb10,gl10,cl10,HG10⟩:=Kd.S_form HO_3.out (by omega);(first|cases eo10|(injection eo10 with ea_ en_ ec_;(first|subst ea_|(injection ea_ with ea_;subst ea_));subst ec_;clear en_));have GB10:=zA gb10;have GG10:=zA HG10;clear gb10 gl10 HG10;obtain ⟨_,ce10,hcl10,hM10,hcc10,hfr10,_,_⟩:=Kd.S_elem HO_3.out z81 (x4_1 : Int) p10 q10;obtain ⟨ve10_1,rfl,ge10_1⟩:=k81_openM hM10;have hx10_0 : w11.cell? ⟨go10,(x4_1 : Int).toNat * 2,none⟩ = some (.int .i64 ((rd_T81 x3_1 x4_1).f0)):=hcc10 0 _ rfl;have hx10_1 : w11.cell? ⟨go10,(x4_1 : Int).toNat * 2 + 1,none⟩ = some (ve10_1):=hcc10 1 _ rfl;have hf10_0 : w11.frozen? ⟨go10,(x4_1 : Int).toNat * 2,none⟩ = false:=hfr10 0;have hf10_1 : w11.frozen? ⟨go10,(x4_1 : Int).toNat * 2 + 1,none⟩ = false:=hfr10 1;clear hcl10 hcc10 hfr10 hM10;replace p10:=eq_true p10;replace q10:=eq_true q10;obtain ⟨Ao12,co12,eo12⟩:=Kd.R_slice HO293.out;subst eo12;have n_:=zA (zS (ok':=(fun k_ => some k_ ≠ (.slice Ao12 t291.length co12 : Value).ownBlock)) HO_3.out (fun k_ hk => hk.2));clear HO_3;have HO_3:=n_;clear n_;have HX13:=zA (show Kd.S k81 81 w11 w.heap.size (fun k_ => ((fun _ => True)) k_ ∧ ¬ ((fun k_ => some k_ = (.slice Ao12 t291.length co12 : Value).ownBlock)) k_) (.slice (some ⟨go10,0,none⟩) x3_1.length co10) x3_1 from (by (with_reducible repeat (first|apply zM|apply zL|apply zN));exact zS HO_3.out (fun k_ hk => ⟨trivial,fun e_ => hk e_⟩)));obtain ⟨oki13,ce13,hcl13,hM13,hcc13,hfr13,hoki13,hH13⟩:=Kd.S_elem HX13.out z81 (x4_1 : Int) (zXb ze) (by have h_ : (x4_1 : Int) < ((x3_1.length : Int) : Int):=zXb ze;first|exact h_|(have e_:=(Kd.S_reads' HO_3.out).1;omega)|simpa using h_);obtain ⟨ve13_1,rfl,ge13_1⟩:=k81_openM hM13;have HP13:=Kd.S_seg hH13 (zXb ze) (by have h_ : (x4_1 : Int) < ((x3_1.length : Int) : Int):=zXb ze;first|exact h_|(have e_:=(Kd.S_reads' HO_3.out).1;omega)|simpa using h_) (seg:=[.int .i64 t290,.slice Ao12 t291.length co12]) (j:=0) (show 2 ≤ 2 from by decide) (x':=(⟨t290,t291⟩ : S81)) (k81_mkM _ _ _ (⟨t290,t291⟩ : S81) (zGb (Kd.R_tight rfl (zGb (ok':=fun k_ => ((fun _ => True)) k_ ∧ k_ ≠ go10) (Kd.R_apart' (HO293.out) (Kd.S_typed HO_3.out) (by decide)) (fun k_ hk => ⟨trivial,fun e_ => (hk.2) (by rw [e_];rfl)⟩))) (fun _ h_ => Or.inr (h_)))) (fun _ hk => hk) (fun k_ hk_ => ((zGb (ok':=fun k_ => ((fun _ => True)) k_ ∧ k_ ≠ go10) (Kd.R_apart' (HO293.out) (Kd.S_typed HO_3.out) (by decide)) (fun k_ hk => ⟨trivial,fun e_ => (hk.2) (by rw [e_];rfl)⟩))).1 k_ hk_.symm);have hx13_0:=hcc13 0 _ rfl;(try simp only [show (k81).sz = 2 from rfl,Nat.mul_one,Nat.add_zero] at hx13_0);have hf13_0:=hfr13 0;(try simp only [show (k81).sz = 2 from rfl,Nat.mul_one,Nat.add_zero] at hf13_0);have hx13_1:=hcc13 1 _ rfl;(try simp only [show (k81).sz = 2 from rfl,Nat.mul_one,Nat.add_zero] at hx13_1);have hf13_1:=hfr13 1;(try simp only [show (k81).sz = 2 from rfl,Nat.mul_one,Nat.add_zero] at hf13_1);clear hcl13 hcc13 hfr13 hM13 hoki13 hH13)|((with_reducible refine gate_store (t:=81) (p:=21) rfl ?_);refine store_event (t:=81) (p:=21) (v:=?vo_w14) (w1:=((w11.setCell ⟨go10,(x4_1 : Int).toNat * 2,none⟩ (.int .i64 t290)).setCell ⟨go10,(x4_1 : Int).toNat * 2 + 1,none⟩ (.slice Ao12 t291.length co12))) ?hg ?ho ?hn ?hr ?_;(case ho => rfl);(case hg => rfl);(case hn => rfl);(case hr => first|(go_simp;done)|(go_simp;rfl));intro w14 hw;have hg : w11.grownBy w14 (some go10):=(by rw [hw];exact HP13.2);have hp_ : Kd.S k81 81 w14 w.heap.size (fun _ => True) (.slice (some ⟨go10,0,none⟩) x3_1.length co10) y294:=(by rw [hw,Ny294.out];exact HP13.1);clear HP13;replace HO_3:=zA (hp_);replace HB:=zA ((by rw [hw];exact zB (zB (HB.out) GB10.out) GB10.out : Below w.heap.size w w14));clear HO293;clear hg hw hp_))
        go_roundg k1
        case measure => have:=HK1.out;omega
        case rel => exact ⟨(y294),(wrap64 (x4_1 + 1)),za,H',⟨by have:=HK1.out;omega⟩,⟨zy HO_3⟩,⟨zz HB⟩⟩
       ·
        rw [if_neg c9] at H
        exact absurd H (by simp)
      ·
       rw [if_neg c7] at H
       exact absurd H (by simp)
     ·
      rw [if_neg c6] at H;have c6b0:=decide_eq_false c6;clear c6
      obtain rfl:=Option.some.inj H
      go_wp2
      go_ret
      exact ⟨_,by first|rfl|(simp [errW_none,errW_some] <;> rfl)|(simp [*,errW_none,errW_some] <;> rfl),zy HO_3,zz HB⟩
  ·
   rw [if_neg c3] at H
   exact absurd H (by simp)
 ·
  rw [if_neg c2] at H
  exact absurd H (by simp)

end Go.Proofs.YtfelabhakgcifaaGreat.QFnExactAnswers
