/- Walks through the Go functions that FnExactCountAnswers reaches: each call returns what the Lean function beside it says, within the bounds that the theorem names. -/
import Derived.Test.YtfelabhakgcifaaGreatQFnExactCountAnswersx0
namespace Go.Proofs.YtfelabhakgcifaaGreat.QFnExactCountAnswers
open Go.RowKit Go.Proofs.YtfelabhakgcifaaGreatW.PrintWords Go.Proofs.YtfelabhakgcifaaGreatW.PrintLast Go.Proofs.YtfelabhakgcifaaGreatW.PrintMore
attribute [local go_sem] max2_int min2_int max_two min_two max_three min_three max_four min_four   -- for this text's walks alone
set_option linter.unusedVariables false
set_option linter.unusedSimpArgs false


/-! ### spec_l6Bind: function 93 -/
def spec_l6Bind.l0 : Nat → List Int → List Int → List Int → Int → Option (List Int × Bool)
 | 0, _, _, _, _ => none
 | k + 1, x0, x1, x8, x9 => if x9 < (x0.length : Int) then (if 0 ≤ x9 then (if (rd x0 x9) < 0 then (if x9 < (x1.length : Int) then (if (wrap64 ((-1) - (rd x0 x9))) = (rd x1 x9) then (spec_l6Bind.l0 k x0 x1 x8 (wrap64 (x9 + 1))) else (some (x8, false))) else (none)) else (if 0 ≤ (wrap64 (20 + (rd x0 x9))) then (if (wrap64 (20 + (rd x0 x9))) < (x8.length : Int) then (if (rd x8 (wrap64 (20 + (rd x0 x9)))) = 0 then (if x9 < (x1.length : Int) then (if 0 ≤ (rd x0 x9) then (if (rd x0 x9) < (x8.length : Int) then (spec_l6Bind.l0 k x0 x1 ((x8.set ((rd x0 x9) : Int).toNat (rd x1 x9)).set ((wrap64 (20 + (rd x0 x9))) : Int).toNat 1) (wrap64 (x9 + 1))) else (none)) else (none)) else (none)) else (if 0 ≤ (rd x0 x9) then (if (rd x0 x9) < (x8.length : Int) then (if x9 < (x1.length : Int) then (if (rd x8 (rd x0 x9)) = (rd x1 x9) then (spec_l6Bind.l0 k x0 x1 x8 (wrap64 (x9 + 1))) else (some (x8, false))) else (none)) else (none)) else (none))) else (none)) else (none))) else (none)) else (some (x8, true))
def spec_l6Bind.f (k : Nat) (l0 : List Int) (l1 : List Int) (l2 : List Int) : Option (List Int × Bool) := (some (([] : List Int) : List Int)).bind fun y314 => (if y314.length + l2.length < 17592186044416 then (spec_l6Bind.l0 k l0 l1 (y314 ++ l2) 0) else (none))
set_option maxHeartbeats 8000000 in
set_option maxRecDepth 100000 in
theorem spec_l6Bind.calls (k : Nat) (A0 : Option Addr) (c0 : Nat) (l0 : List Int) (A1 : Option Addr) (c1 : Nat) (l1 : List Int) (A2 : Option Addr) (c2 : Nat) (l2 : List Int) (r1 : List Int) (r2 : Bool) (w : World) (hr0 : Kd.C (Kd.int .i64) w A0 l0.length l0) (hc0 : l0.length ≤ c0) (hr1 : Kd.C (Kd.int .i64) w A1 l1.length l1) (hc1 : l1.length ≤ c1) (hr2 : Kd.C (Kd.int .i64) w A2 l2.length l2) (hc2 : l2.length ≤ c2) (h : spec_l6Bind.f k l0 l1 l2 = some (r1, r2)) :
  Calls Tryz.prog 93 #[.slice A0 l0.length c0, .slice A1 l1.length c1, .slice A2 l2.length c2] w fun e w' => ∃ v0_ : Value, e = .returned (.tuple #[v0_, .bool r2]) ∧ Kd.R (Kd.int .i64) 3 w' w.heap.size (fun _ => True) v0_ r1 ∧ Below w.heap.size w w' := by
 have HR0:=zA hr0;have HC0:=zA hc0;clear hr0 hc0;have HR1:=zA hr1;have HC1:=zA hc1;clear hr1 hc1;have HR2:=zA hr2;have HC2:=zA hc2;clear hr2 hc2;have HB:=zA (Below.refl w.heap.size w)
 have H : ((some (([] : List Int) : List Int)).bind fun y314 => (if y314.length + l2.length < 17592186044416 then (spec_l6Bind.l0 k l0 l1 (y314 ++ l2) 0) else (none))) = some (r1,r2):=h
 clear h;obtain ⟨y314,hy314⟩ : ∃ y_ : List Int,y_ = (([] : List Int)):=⟨_,rfl⟩
 replace H : (if y314.length + l2.length < 17592186044416 then (spec_l6Bind.l0 k l0 l1 (y314 ++ l2) 0) else (none)) = some (r1,r2):=by first|(rw [hy314];with_reducible exact H)|(have H2_:=(Option.bind_some _ _).symm.trans H;rw [hy314];with_reducible exact H2_)|(have H2_:=(Option.bind_some _ _).symm.trans H;with_reducible exact H2_)|with_reducible exact H|(rw [hy314];exact H)|exact H
 have Ny314:=zA hy314;clear hy314
 by_cases c4 : y314.length + l2.length < 17592186044416
 ·
  rw [if_pos c4] at H;have LMc4:=zA c4;clear c4;obtain ⟨y317,hy317⟩ : ∃ y_ : List Int,y_ = (y314 ++ l2):=⟨_,rfl⟩
  replace H : (spec_l6Bind.l0 k l0 l1 y317 0) = some (r1,r2):=by first|(rw [hy317];with_reducible exact H)|(have H2_:=(Option.bind_some _ _).symm.trans H;rw [hy317];with_reducible exact H2_)|(have H2_:=(Option.bind_some _ _).symm.trans H;with_reducible exact H2_)|with_reducible exact H|(rw [hy317];exact H)|exact H
  have Ny317:=zA hy317;clear hy317
  have H':=zA H
  clear H
  go_enter Tryz.func93,Tryz.ntmps93
  go_wp2_with (first|((with_reducible refine gate_dst (N:=11) rfl ?_);refine Kd.R_lit (Kd.int .i64) _ 3 ?hg (N:=11) ?hd (xs:=([] : List Int)) (inner:=[]) (ok:=fun _ => True) (okp:=fun _ => True) ?hr ?hp (fun _ hk => hk) trivial (Below.refl _ _) (Nat.le_refl _) (by simp) ?_;(case hd => rfl);(case hg => rfl);(case hr => first|(go_simp;done)|(go_simp;rfl));(case hp => exact (Reps.none _ _));intro v315 w5 ho6 hb hg_ hnew_;clear hg_ hnew_;(first|rw [← Ny314.out] at ho6|(simp only [Int.reduceToNat] at ho6;rw [← Ny314.out] at ho6));have HO316:=zA (zHb ho6 (zT (zz HB)));replace HB:=zA (zJb (zz HB) hb);clear hb ho6)|((with_reducible refine gate_builtin (b:=.append) (xs:=#[.tmp 11,.tmp 12]) rfl ?_);at_builtin;refine Kd.R_append_rows (Kd.int .i64) (w0:=w) w.heap.size rfl (.tmp 11) (.tmp 12) 22 3 (.int .i64 0) 8 rfl Tryz.underlying22 info3 rfl (by decide) (by omega) v315 y314 l2 _ _ _ (fun _ => True) (fun _ => False) rfl rfl ?aO ?aR (fun _ _ h => h) (fun _ h => h.elim) ?aF ?aB ?aS ?aL ?_;(case aR => exact zsd HR2 HB);(case aB => exact (zz HB));(case aF => exact (fun _ _ => trivial));(case aO => exact (zq HO316));(case aS => exact (zT (zz HB)));(case aL => have:=LMc4.out;omega);intro v318 w7 ho hb hg hat;rw [← Ny317.out] at ho;replace HB:=zA (hb);have HO319:=zA (ho);clear HO316;clear ho hb hg hat))
  repeat (go_quiet (first|((with_reducible refine gate_dst (N:=11) rfl ?_);refine Kd.R_lit (Kd.int .i64) _ 3 ?hg (N:=11) ?hd (xs:=([] : List Int)) (inner:=[]) (ok:=fun _ => True) (okp:=fun _ => True) ?hr ?hp (fun _ hk => hk) trivial (Below.refl _ _) (Nat.le_refl _) (by simp) ?_;(case hd => rfl);(case hg => rfl);(case hr => first|(go_simp;done)|(go_simp;rfl));(case hp => exact (Reps.none _ _));intro v315 w5 ho6 hb hg_ hnew_;clear hg_ hnew_;(first|rw [← Ny314.out] at ho6|(simp only [Int.reduceToNat] at ho6;rw [← Ny314.out] at ho6));have HO316:=zA (zHb ho6 (zT (zz HB)));replace HB:=zA (zJb (zz HB) hb);clear hb ho6)|((with_reducible refine gate_builtin (b:=.append) (xs:=#[.tmp 11,.tmp 12]) rfl ?_);at_builtin;refine Kd.R_append_rows (Kd.int .i64) (w0:=w) w.heap.size rfl (.tmp 11) (.tmp 12) 22 3 (.int .i64 0) 8 rfl Tryz.underlying22 info3 rfl (by decide) (by omega) v315 y314 l2 _ _ _ (fun _ => True) (fun _ => False) rfl rfl ?aO ?aR (fun _ _ h => h) (fun _ h => h.elim) ?aF ?aB ?aS ?aL ?_;(case aR => exact zsd HR2 HB);(case aB => exact (zz HB));(case aF => exact (fun _ _ => trivial));(case aO => exact (zq HO316));(case aS => exact (zT (zz HB)));(case aL => have:=LMc4.out;omega);intro v318 w7 ho hb hg hat;rw [← Ny317.out] at ho;replace HB:=zA (hb);have HO319:=zA (ho);clear HO316;clear ho hb hg hat));try go_wp2_with (first|((with_reducible refine gate_dst (N:=11) rfl ?_);refine Kd.R_lit (Kd.int .i64) _ 3 ?hg (N:=11) ?hd (xs:=([] : List Int)) (inner:=[]) (ok:=fun _ => True) (okp:=fun _ => True) ?hr ?hp (fun _ hk => hk) trivial (Below.refl _ _) (Nat.le_refl _) (by simp) ?_;(case hd => rfl);(case hg => rfl);(case hr => first|(go_simp;done)|(go_simp;rfl));(case hp => exact (Reps.none _ _));intro v315 w5 ho6 hb hg_ hnew_;clear hg_ hnew_;(first|rw [← Ny314.out] at ho6|(simp only [Int.reduceToNat] at ho6;rw [← Ny314.out] at ho6));have HO316:=zA (zHb ho6 (zT (zz HB)));replace HB:=zA (zJb (zz HB) hb);clear hb ho6)|((with_reducible refine gate_builtin (b:=.append) (xs:=#[.tmp 11,.tmp 12]) rfl ?_);at_builtin;refine Kd.R_append_rows (Kd.int .i64) (w0:=w) w.heap.size rfl (.tmp 11) (.tmp 12) 22 3 (.int .i64 0) 8 rfl Tryz.underlying22 info3 rfl (by decide) (by omega) v315 y314 l2 _ _ _ (fun _ => True) (fun _ => False) rfl rfl ?aO ?aR (fun _ _ h => h) (fun _ h => h.elim) ?aF ?aB ?aS ?aL ?_;(case aR => exact zsd HR2 HB);(case aB => exact (zz HB));(case aF => exact (fun _ _ => trivial));(case aO => exact (zq HO316));(case aS => exact (zT (zz HB)));(case aL => have:=LMc4.out;omega);intro v318 w7 ho hb hg hat;rw [← Ny317.out] at ho;replace HB:=zA (hb);have HO319:=zA (ho);clear HO316;clear ho hb hg hat)))
  go_loopg [9] k (fun kq v9 w' => ∃ (x8_1 : List Int) (x9_1 : Int),v9 = .int .i64 x9_1 ∧ Aside0 (spec_l6Bind.l0 kq l0 l1 x8_1 x9_1 = some (r1,r2)) ∧ Aside0 (kq ≤ k) ∧ Aside0 (Kd.R (Kd.int .i64) 3 w' w.heap.size (fun _ => True) v318 x8_1) ∧ Aside0 (Below w.heap.size w w'))
  case atStart => exact ⟨(y317),(0),za,H',⟨Nat.le_refl _⟩,⟨zq HO319⟩,⟨zz HB⟩⟩
  case round =>
   clear H';(try clear c1);(try clear c2);(try clear p2);(try clear c4);obtain ⟨x8_1,x9_1,rfl,HA,HK1,HO_8,HB⟩:=hrel
   cases gk with
   | zero => exact absurd HA.out (by simp [spec_l6Bind.l0])
   | succ k1 =>
    have H:=HA.out;clear HA;simp only [spec_l6Bind.l0] at H
    by_cases c8 : x9_1 < (l0.length : Int)
    ·
     rw [if_pos c8] at H;have c8b0:=decide_eq_true c8;clear c8
     by_cases c9 : 0 ≤ x9_1
     ·
      rw [if_pos c9] at H;have c9b0:=decide_eq_true c9;clear c9
      by_cases c10 : (rd l0 x9_1) < 0
      ·
       rw [if_pos c10] at H;have c10b0:=decide_eq_true c10;clear c10
       by_cases c11 : x9_1 < (l1.length : Int)
       ·
        rw [if_pos c11] at H;have c11b0:=decide_eq_true c11;clear c11
        by_cases c12 : (wrap64 ((-1) - (rd l0 x9_1))) = (rd l1 x9_1)
        ·
         rw [if_pos c12] at H;have c12b0:=beq_iff_eq.mpr c12;have c12b1:=bne_eq_false_iff_eq.mpr c12;clear c12
         have H':=zA H
         clear H;have p320 : 0 ≤ (x9_1 : Int):=zXb ze;have q320 : x9_1 < (l0.length : Int):=zXb ze;obtain ⟨ad320,e320,hx320_0⟩:=Kd.at_int HR0.out x9_1 p320 q320
         cases e320
         replace hx320_0:=(HB.out.cell (World.block_lt_of_cell? w _ hx320_0)).trans hx320_0;replace p320:=eq_true p320;replace q320:=eq_true q320;have p321 : 0 ≤ (x9_1 : Int):=zXb ze;have q321 : x9_1 < (l1.length : Int):=zXb ze;obtain ⟨ad321,e321,hx321_0⟩:=Kd.at_int HR1.out x9_1 p321 q321
         cases e321
         replace hx321_0:=(HB.out.cell (World.block_lt_of_cell? w _ hx321_0)).trans hx321_0;replace p321:=eq_true p321;replace q321:=eq_true q321
         go_wp2
         repeat (go_quiet (fail);try go_wp2)
         go_roundg k1
         case measure => have:=HK1.out;omega
         case rel => exact ⟨(x8_1),(wrap64 (x9_1 + 1)),za,H',⟨by have:=HK1.out;omega⟩,⟨zq HO_8⟩,⟨zz HB⟩⟩
        ·
         rw [if_neg c12] at H;have c12b0:=beq_eq_false_iff_ne.mpr c12;have c12b1:=bne_iff_ne.mpr c12;simp only [Option.some.injEq,Prod.mk.injEq] at H;obtain ⟨rfl,rfl⟩:=H;have p320 : 0 ≤ (x9_1 : Int):=zXb ze;have q320 : x9_1 < (l0.length : Int):=zXb ze;obtain ⟨ad320,e320,hx320_0⟩:=Kd.at_int HR0.out x9_1 p320 q320
         cases e320
         replace hx320_0:=(HB.out.cell (World.block_lt_of_cell? w _ hx320_0)).trans hx320_0;replace p320:=eq_true p320;replace q320:=eq_true q320;have p321 : 0 ≤ (x9_1 : Int):=zXb ze;have q321 : x9_1 < (l1.length : Int):=zXb ze;obtain ⟨ad321,e321,hx321_0⟩:=Kd.at_int HR1.out x9_1 p321 q321
         cases e321
         replace hx321_0:=(HB.out.cell (World.block_lt_of_cell? w _ hx321_0)).trans hx321_0;replace p321:=eq_true p321;replace q321:=eq_true q321
         go_wp2
         repeat (go_quiet (fail);try go_wp2)
         go_ret2
         exact ⟨_,by first|rfl|(simp [errW_none,errW_some] <;> rfl)|(simp [*,errW_none,errW_some] <;> rfl),zq HO_8,zz HB⟩
       ·
        rw [if_neg c11] at H
        exact absurd H (by simp)
      ·
       rw [if_neg c10] at H;have c10b0:=decide_eq_false c10;clear c10;obtain ⟨ji13,hji13⟩ : ∃ j_ : Int,(wrap64 (20 + (rd l0 x9_1))) = j_:=⟨_,rfl⟩
       replace H : (if 0 ≤ (ji13) then (if (ji13) < (x8_1.length : Int) then (if (rd x8_1 (ji13)) = 0 then (if x9_1 < (l1.length : Int) then (if 0 ≤ (rd l0 x9_1) then (if (rd l0 x9_1) < (x8_1.length : Int) then (spec_l6Bind.l0 k1 l0 l1 ((x8_1.set ((rd l0 x9_1) : Int).toNat (rd l1 x9_1)).set ((ji13) : Int).toNat 1) (wrap64 (x9_1 + 1))) else (none)) else (none)) else (none)) else (if 0 ≤ (rd l0 x9_1) then (if (rd l0 x9_1) < (x8_1.length : Int) then (if x9_1 < (l1.length : Int) then (if (rd x8_1 (rd l0 x9_1)) = (rd l1 x9_1) then (spec_l6Bind.l0 k1 l0 l1 x8_1 (wrap64 (x9_1 + 1))) else (some (x8_1,false))) else (none)) else (none)) else (none))) else (none)) else (none)) = some (r1,r2):=by first|(rw [hji13] at H;exact H)|(simp only [hji13] at H ⊢;exact H)
       have hji13w : (IntKind.i64.wrap (20 + (rd l0 x9_1))) = ji13:=(i64_w _).trans hji13
       by_cases c14 : 0 ≤ (ji13)
       ·
        rw [if_pos c14] at H;have c14b0:=decide_eq_true c14;clear c14
        by_cases c15 : (ji13) < (x8_1.length : Int)
        ·
         rw [if_pos c15] at H;have c15b0:=decide_eq_true c15;clear c15
         by_cases c16 : (rd x8_1 (ji13)) = 0
         ·
          rw [if_pos c16] at H;have c16b0:=beq_iff_eq.mpr c16;have c16b1:=bne_eq_false_iff_eq.mpr c16;clear c16
          by_cases c17 : x9_1 < (l1.length : Int)
          ·
           rw [if_pos c17] at H;have c17b0:=decide_eq_true c17;clear c17
           by_cases c18 : 0 ≤ (rd l0 x9_1)
           ·
            rw [if_pos c18] at H;have c18b0:=decide_eq_true c18;clear c18
            by_cases c19 : (rd l0 x9_1) < (x8_1.length : Int)
            ·
             rw [if_pos c19] at H;have c19b0:=decide_eq_true c19;clear c19;obtain ⟨y324,hy324⟩ : ∃ y_ : List Int,y_ = (x8_1.set ((rd l0 x9_1) : Int).toNat (rd l1 x9_1)):=⟨_,rfl⟩
             replace H : (spec_l6Bind.l0 k1 l0 l1 (y324.set ((ji13) : Int).toNat 1) (wrap64 (x9_1 + 1))) = some (r1,r2):=by first|(rw [hy324];with_reducible exact H)|(have H2_:=(Option.bind_some _ _).symm.trans H;rw [hy324];with_reducible exact H2_)|(have H2_:=(Option.bind_some _ _).symm.trans H;with_reducible exact H2_)|with_reducible exact H|(rw [hy324];exact H)|exact H
             have Ny324:=zA hy324;clear hy324;obtain ⟨y325,hy325⟩ : ∃ y_ : List Int,y_ = (y324.set ((ji13) : Int).toNat 1):=⟨_,rfl⟩
             replace H : (spec_l6Bind.l0 k1 l0 l1 y325 (wrap64 (x9_1 + 1))) = some (r1,r2):=by first|(rw [hy325];with_reducible exact H)|(have H2_:=(Option.bind_some _ _).symm.trans H;rw [hy325];with_reducible exact H2_)|(have H2_:=(Option.bind_some _ _).symm.trans H;with_reducible exact H2_)|with_reducible exact H|(rw [hy325];exact H)|exact H
             have Ny325:=zA hy325;clear hy325
             have H':=zA H
             clear H;have p320 : 0 ≤ (x9_1 : Int):=zXb ze;have q320 : x9_1 < (l0.length : Int):=zXb ze;obtain ⟨ad320,e320,hx320_0⟩:=Kd.at_int HR0.out x9_1 p320 q320
             cases e320
             replace hx320_0:=(HB.out.cell (World.block_lt_of_cell? w _ hx320_0)).trans hx320_0;replace p320:=eq_true p320;replace q320:=eq_true q320;obtain ⟨Ao22,co22,eo22⟩:=Kd.R_slice HO_8.out
             subst eo22
             have p322 : 0 ≤ ((ji13) : Int):=zXb ze;have q322 : (ji13) < (x8_1.length : Int):=zXb ze;obtain ⟨ad322,e322,hx322_0⟩:=Kd.at_int (Kd.R_reads' HO_8.out).2.2 (ji13) p322 q322
             cases e322
             replace p322:=eq_true p322;replace q322:=eq_true q322;have p323 : 0 ≤ (x9_1 : Int):=zXb ze;have q323 : x9_1 < (l1.length : Int):=zXb ze;obtain ⟨ad323,e323,hx323_0⟩:=Kd.at_int HR1.out x9_1 p323 q323
             cases e323
             replace hx323_0:=(HB.out.cell (World.block_lt_of_cell? w _ hx323_0)).trans hx323_0;replace p323:=eq_true p323;replace q323:=eq_true q323;have p20 : 0 ≤ ((rd l0 x9_1) : Int):=zXb ze;have q20 : ((rd l0 x9_1) : Int) < ((x8_1.length : Int) : Int):=zXb ze;obtain ⟨go20,co20,eo20,gb20,gl20,cl20,HG20⟩:=Kd.R_form HO_8.out (by omega)
             (first|cases eo20|(injection eo20 with ea_ en_ ec_;(first|subst ea_|(injection ea_ with ea_;subst ea_));subst ec_;clear en_))
             have GB20:=zA gb20;have GG20:=zA HG20;clear gb20 gl20 HG20
             (first|simp only [add_plain] at hx322_0|skip)
             obtain ⟨hx20_0,hf20_0⟩:=Kd.R_celln 0 HO_8.out ((rd l0 x9_1) : Int) p20 q20;replace p20:=eq_true p20;replace q20:=eq_true q20;have HP23:=Kd.R_putg HO_8.out ((rd l0 x9_1) : Int) (rd l1 x9_1)
             go_wp2_with (first|((with_reducible refine gate_store (t:=3) (p:=48) rfl ?_);(try (rw [drewN_self wr];generalize hq_ : World.drewN wr _ = wr;replace HO_8:=zA (Kd.R_at hq_ HO_8.out);replace HB:=zA (below_at hq_ HB.out);clear hq_;(try (have HP23:=Kd.R_putg HO_8.out ((rd l0 x9_1) : Int) (rd l1 x9_1)))));refine store_event (t:=3) (p:=48) (v:=?vo_w24) (w1:=(wr.setCell ⟨go20,((rd l0 x9_1) : Int).toNat,none⟩ (.int .i64 (rd l1 x9_1)))) ?hg ?ho ?hn ?hr ?_;(case ho => rfl);(case hg => rfl);(case hn => rfl);(case hr => first|(go_simp;done)|(go_simp;rfl));intro w24 hw;have hg : wr.grownBy w24 (some go20):=(by rw [hw];exact HP23.2);have hp_ : Kd.R (Kd.int .i64) 3 w24 w.heap.size (fun _ => True) (.slice (some ⟨go20,0,none⟩) x8_1.length co22) y324:=(by rw [hw,Ny324.out];exact HP23.1);clear HP23;replace HO_8:=zA (hp_);replace HB:=zA ((by rw [hw];exact zB (HB.out) GB20.out : Below w.heap.size w w24));clear hg hw hp_;have p21 : 0 ≤ ((ji13) : Int):=zXb ze;have q21 : ((ji13) : Int) < ((x8_1.length : Int) : Int):=zXb ze;obtain ⟨hx21_0,hf21_0⟩:=Kd.R_celln 0 HO_8.out ((ji13) : Int) p21 q21;replace p21:=eq_true p21;replace q21:=eq_true q21;obtain ⟨hy25_,hz25_⟩:=Kd.R_celln 0 HO_8.out ((ji13) : Int) (zXb ze) (zXb ze);have HP25:=Kd.R_putg HO_8.out ((ji13) : Int) 1)|((with_reducible refine gate_store (t:=3) (p:=52) rfl ?_);(try (rw [drewN_self w24];generalize hq_ : World.drewN w24 _ = w24;replace HO_8:=zA (Kd.R_at hq_ HO_8.out);replace HB:=zA (below_at hq_ HB.out);clear hq_;(try (obtain ⟨hy25_,hz25_⟩:=Kd.R_celln 0 HO_8.out ((ji13) : Int) (zXb ze) (zXb ze)));(try (have HP25:=Kd.R_putg HO_8.out ((ji13) : Int) 1))));refine store_event (t:=3) (p:=52) (v:=?vo_w26) (w1:=(w24.setCell ⟨go20,((ji13) : Int).toNat,none⟩ (.int .i64 1))) ?hg ?ho ?hn ?hr ?_;(case ho => rfl);(case hg => rfl);(case hn => rfl);(case hr => first|(go_simp;done)|(go_simp;rfl));intro w26 hw;have hg : w24.grownBy w26 (some go20):=(by rw [hw];exact HP25.2);have hp_ : Kd.R (Kd.int .i64) 3 w26 w.heap.size (fun _ => True) (.slice (some ⟨go20,0,none⟩) x8_1.length co22) y325:=(by rw [hw,Ny325.out];exact HP25.1);clear HP25;replace HO_8:=zA (hp_);replace HB:=zA ((by rw [hw];exact zB (HB.out) GB20.out : Below w.heap.size w w26));clear hg hw hp_))
             repeat (go_quiet (first|((with_reducible refine gate_store (t:=3) (p:=48) rfl ?_);(try (rw [drewN_self wr];generalize hq_ : World.drewN wr _ = wr;replace HO_8:=zA (Kd.R_at hq_ HO_8.out);replace HB:=zA (below_at hq_ HB.out);clear hq_;(try (have HP23:=Kd.R_putg HO_8.out ((rd l0 x9_1) : Int) (rd l1 x9_1)))));refine store_event (t:=3) (p:=48) (v:=?vo_w24) (w1:=(wr.setCell ⟨go20,((rd l0 x9_1) : Int).toNat,none⟩ (.int .i64 (rd l1 x9_1)))) ?hg ?ho ?hn ?hr ?_;(case ho => rfl);(case hg => rfl);(case hn => rfl);(case hr => first|(go_simp;done)|(go_simp;rfl));intro w24 hw;have hg : wr.grownBy w24 (some go20):=(by rw [hw];exact HP23.2);have hp_ : Kd.R (Kd.int .i64) 3 w24 w.heap.size (fun _ => True) (.slice (some ⟨go20,0,none⟩) x8_1.length co22) y324:=(by rw [hw,Ny324.out];exact HP23.1);clear HP23;replace HO_8:=zA (hp_);replace HB:=zA ((by rw [hw];exact zB (HB.out) GB20.out : Below w.heap.size w w24));clear hg hw hp_;have p21 : 0 ≤ ((ji13) : Int):=zXb ze;have q21 : ((ji13) : Int) < ((x8_1.length : Int) : Int):=zXb ze;obtain ⟨hx21_0,hf21_0⟩:=Kd.R_celln 0 HO_8.out ((ji13) : Int) p21 q21;replace p21:=eq_true p21;replace q21:=eq_true q21;obtain ⟨hy25_,hz25_⟩:=Kd.R_celln 0 HO_8.out ((ji13) : Int) (zXb ze) (zXb ze);have HP25:=Kd.R_putg HO_8.out ((ji13) : Int) 1)|((with_reducible refine gate_store (t:=3) (p:=52) rfl ?_);(try (rw [drewN_self w24];generalize hq_ : World.drewN w24 _ = w24;replace HO_8:=zA (Kd.R_at hq_ HO_8.out);replace HB:=zA (below_at hq_ HB.out);clear hq_;(try (obtain ⟨hy25_,hz25_⟩:=Kd.R_celln 0 HO_8.out ((ji13) : Int) (zXb ze) (zXb ze)));(try (have HP25:=Kd.R_putg HO_8.out ((ji13) : Int) 1))));refine store_event (t:=3) (p:=52) (v:=?vo_w26) (w1:=(w24.setCell ⟨go20,((ji13) : Int).toNat,none⟩ (.int .i64 1))) ?hg ?ho ?hn ?hr ?_;(case ho => rfl);(case hg => rfl);(case hn => rfl);(case hr => first|(go_simp;done)|(go_simp;rfl));intro w26 hw;have hg : w24.grownBy w26 (some go20):=(by rw [hw];exact HP25.2);have hp_ : Kd.R (Kd.int .i64) 3 w26 w.heap.size (fun _ => True) (.slice (some ⟨go20,0,none⟩) x8_1.length co22) y325:=(by rw [hw,Ny325.out];exact HP25.1);clear HP25;replace HO_8:=zA (hp_);replace HB:=zA ((by rw [hw];exact zB (HB.out) GB20.out : Below w.heap.size w w26));clear hg hw hp_));try go_wp2_with (first|((with_reducible refine gate_store (t:=3) (p:=48) rfl ?_);(try (rw [drewN_self wr];generalize hq_ : World.drewN wr _ = wr;replace HO_8:=zA (Kd.R_at hq_ HO_8.out);replace HB:=zA (below_at hq_ HB.out);clear hq_;(try (have HP23:=Kd.R_putg HO_8.out ((rd l0 x9_1) : Int) (rd l1 x9_1)))));refine store_event (t:=3) (p:=48) (v:=?vo_w24) (w1:=(wr.setCell ⟨go20,((rd l0 x9_1) : Int).toNat,none⟩ (.int .i64 (rd l1 x9_1)))) ?hg ?ho ?hn ?hr ?_;(case ho => rfl);(case hg => rfl);(case hn => rfl);(case hr => first|(go_simp;done)|(go_simp;rfl));intro w24 hw;have hg : wr.grownBy w24 (some go20):=(by rw [hw];exact HP23.2);have hp_ : Kd.R (Kd.int .i64) 3 w24 w.heap.size (fun _ => True) (.slice (some ⟨go20,0,none⟩) x8_1.length co22) y324:=(by rw [hw,Ny324.out];exact HP23.1);clear HP23;replace HO_8:=zA (hp_);replace HB:=zA ((by rw [hw];exact zB (HB.out) GB20.out : Below w.heap.size w w24));clear hg hw hp_;have p21 : 0 ≤ ((ji13) : Int):=zXb ze;have q21 : ((ji13) : Int) < ((x8_1.length : Int) : Int):=zXb ze;obtain ⟨hx21_0,hf21_0⟩:=Kd.R_celln 0 HO_8.out ((ji13) : Int) p21 q21;replace p21:=eq_true p21;replace q21:=eq_true q21;obtain ⟨hy25_,hz25_⟩:=Kd.R_celln 0 HO_8.out ((ji13) : Int) (zXb ze) (zXb ze);have HP25:=Kd.R_putg HO_8.out ((ji13) : Int) 1)|((with_reducible refine gate_store (t:=3) (p:=52) rfl ?_);(try (rw [drewN_self w24];generalize hq_ : World.drewN w24 _ = w24;replace HO_8:=zA (Kd.R_at hq_ HO_8.out);replace HB:=zA (below_at hq_ HB.out);clear hq_;(try (obtain ⟨hy25_,hz25_⟩:=Kd.R_celln 0 HO_8.out ((ji13) : Int) (zXb ze) (zXb ze)));(try (have HP25:=Kd.R_putg HO_8.out ((ji13) : Int) 1))));refine store_event (t:=3) (p:=52) (v:=?vo_w26) (w1:=(w24.setCell ⟨go20,((ji13) : Int).toNat,none⟩ (.int .i64 1))) ?hg ?ho ?hn ?hr ?_;(case ho => rfl);(case hg => rfl);(case hn => rfl);(case hr => first|(go_simp;done)|(go_simp;rfl));intro w26 hw;have hg : w24.grownBy w26 (some go20):=(by rw [hw];exact HP25.2);have hp_ : Kd.R (Kd.int .i64) 3 w26 w.heap.size (fun _ => True) (.slice (some ⟨go20,0,none⟩) x8_1.length co22) y325:=(by rw [hw,Ny325.out];exact HP25.1);clear HP25;replace HO_8:=zA (hp_);replace HB:=zA ((by rw [hw];exact zB (HB.out) GB20.out : Below w.heap.size w w26));clear hg hw hp_)))
             go_roundg k1
             case measure => have:=HK1.out;omega
             case rel => exact ⟨(y325),(wrap64 (x9_1 + 1)),za,H',⟨by have:=HK1.out;omega⟩,⟨zq HO_8⟩,⟨zz HB⟩⟩
            ·
             rw [if_neg c19] at H
             exact absurd H (by simp)
           ·
            rw [if_neg c18] at H
            exact absurd H (by simp)
          ·
           rw [if_neg c17] at H
           exact absurd H (by simp)
         ·
          rw [if_neg c16] at H;have c16b0:=beq_eq_false_iff_ne.mpr c16;have c16b1:=bne_iff_ne.mpr c16
          by_cases c27 : 0 ≤ (rd l0 x9_1)
          ·
           rw [if_pos c27] at H;have c27b0:=decide_eq_true c27;clear c27
           by_cases c28 : (rd l0 x9_1) < (x8_1.length : Int)
           ·
            rw [if_pos c28] at H;have c28b0:=decide_eq_true c28;clear c28
            by_cases c29 : x9_1 < (l1.length : Int)
            ·
             rw [if_pos c29] at H;have c29b0:=decide_eq_true c29;clear c29
             by_cases c30 : (rd x8_1 (rd l0 x9_1)) = (rd l1 x9_1)
             ·
              rw [if_pos c30] at H;have c30b0:=beq_iff_eq.mpr c30;have c30b1:=bne_eq_false_iff_eq.mpr c30;clear c30
              have H':=zA H
              clear H;have p320 : 0 ≤ (x9_1 : Int):=zXb ze;have q320 : x9_1 < (l0.length : Int):=zXb ze;obtain ⟨ad320,e320,hx320_0⟩:=Kd.at_int HR0.out x9_1 p320 q320
              cases e320
              replace hx320_0:=(HB.out.cell (World.block_lt_of_cell? w _ hx320_0)).trans hx320_0;replace p320:=eq_true p320;replace q320:=eq_true q320;obtain ⟨Ao31,co31,eo31⟩:=Kd.R_slice HO_8.out
              subst eo31
              have p322 : 0 ≤ ((ji13) : Int):=zXb ze;have q322 : (ji13) < (x8_1.length : Int):=zXb ze;obtain ⟨ad322,e322,hx322_0⟩:=Kd.at_int (Kd.R_reads' HO_8.out).2.2 (ji13) p322 q322
              cases e322
              replace p322:=eq_true p322;replace q322:=eq_true q322;have p326 : 0 ≤ ((rd l0 x9_1) : Int):=zXb ze;have q326 : (rd l0 x9_1) < (x8_1.length : Int):=zXb ze;obtain ⟨ad326,e326,hx326_0⟩:=Kd.at_int (Kd.R_reads' HO_8.out).2.2 (rd l0 x9_1) p326 q326
              obtain rfl : ad322 = ad326:=(by injection e326)
              replace p326:=eq_true p326;replace q326:=eq_true q326;have p327 : 0 ≤ (x9_1 : Int):=zXb ze;have q327 : x9_1 < (l1.length : Int):=zXb ze;obtain ⟨ad327,e327,hx327_0⟩:=Kd.at_int HR1.out x9_1 p327 q327
              cases e327
              replace hx327_0:=(HB.out.cell (World.block_lt_of_cell? w _ hx327_0)).trans hx327_0;replace p327:=eq_true p327;replace q327:=eq_true q327
              go_wp2
              repeat (go_quiet (fail);try go_wp2)
              go_roundg k1
              case measure => have:=HK1.out;omega
              case rel => exact ⟨(x8_1),(wrap64 (x9_1 + 1)),za,H',⟨by have:=HK1.out;omega⟩,⟨zq HO_8⟩,⟨zz HB⟩⟩
             ·
              rw [if_neg c30] at H;have c30b0:=beq_eq_false_iff_ne.mpr c30;have c30b1:=bne_iff_ne.mpr c30;simp only [Option.some.injEq,Prod.mk.injEq] at H;obtain ⟨rfl,rfl⟩:=H;have p320 : 0 ≤ (x9_1 : Int):=zXb ze;have q320 : x9_1 < (l0.length : Int):=zXb ze;obtain ⟨ad320,e320,hx320_0⟩:=Kd.at_int HR0.out x9_1 p320 q320
              cases e320
              replace hx320_0:=(HB.out.cell (World.block_lt_of_cell? w _ hx320_0)).trans hx320_0;replace p320:=eq_true p320;replace q320:=eq_true q320;obtain ⟨Ao32,co32,eo32⟩:=Kd.R_slice HO_8.out
              subst eo32
              have p322 : 0 ≤ ((ji13) : Int):=zXb ze;have q322 : (ji13) < (x8_1.length : Int):=zXb ze;obtain ⟨ad322,e322,hx322_0⟩:=Kd.at_int (Kd.R_reads' HO_8.out).2.2 (ji13) p322 q322
              cases e322
              replace p322:=eq_true p322;replace q322:=eq_true q322;have p326 : 0 ≤ ((rd l0 x9_1) : Int):=zXb ze;have q326 : (rd l0 x9_1) < (x8_1.length : Int):=zXb ze;obtain ⟨ad326,e326,hx326_0⟩:=Kd.at_int (Kd.R_reads' HO_8.out).2.2 (rd l0 x9_1) p326 q326
              obtain rfl : ad322 = ad326:=(by injection e326)
              replace p326:=eq_true p326;replace q326:=eq_true q326;have p327 : 0 ≤ (x9_1 : Int):=zXb ze;have q327 : x9_1 < (l1.length : Int):=zXb ze;obtain ⟨ad327,e327,hx327_0⟩:=Kd.at_int HR1.out x9_1 p327 q327
              cases e327
              replace hx327_0:=(HB.out.cell (World.block_lt_of_cell? w _ hx327_0)).trans hx327_0;replace p327:=eq_true p327;replace q327:=eq_true q327
              go_wp2
              repeat (go_quiet (fail);try go_wp2)
              go_ret2
              exact ⟨_,by first|rfl|(simp [errW_none,errW_some] <;> rfl)|(simp only [← hji13];first|rfl|(simp [errW_none,errW_some] <;> rfl))|(simp [*,errW_none,errW_some] <;> rfl),zq HO_8,zz HB⟩
            ·
             rw [if_neg c29] at H
             exact absurd H (by simp)
           ·
            rw [if_neg c28] at H
            exact absurd H (by simp)
          ·
           rw [if_neg c27] at H
           exact absurd H (by simp)
        ·
         rw [if_neg c15] at H
         exact absurd H (by simp)
       ·
        rw [if_neg c14] at H
        exact absurd H (by simp)
     ·
      rw [if_neg c9] at H
      exact absurd H (by simp)
    ·
     rw [if_neg c8] at H;have c8b0:=decide_eq_false c8;clear c8;simp only [Option.some.injEq,Prod.mk.injEq] at H;obtain ⟨rfl,rfl⟩:=H
     go_wp2
     repeat (go_quiet (fail);try go_wp2)
     go_ret2
     exact ⟨_,by first|rfl|(simp [errW_none,errW_some] <;> rfl)|(simp [*,errW_none,errW_some] <;> rfl),zq HO_8,zz HB⟩
 ·
  rw [if_neg c4] at H
  exact absurd H (by simp)

-- NOT PRINTED: function 75 (spec_l6Search)

/-! ### spec_l6Empty: function 76 -/
mutual
def spec_l6Empty.l0 : Nat → List Int → Int → Option (List Int)
 | 0, _, _ => none
 | k + 1, x1, x2 => if x2 < 20 then (if x1.length < 17592186044416 then (spec_l6Empty.l0 k (x1 ++ [(-1)]) (wrap64 (x2 + 1))) else (none)) else (spec_l6Empty.l1 k x1 0)
def spec_l6Empty.l1 : Nat → List Int → Int → Option (List Int)
 | 0, _, _ => none
 | k + 1, x1, x3 => if x3 < 20 then (if x1.length < 17592186044416 then (spec_l6Empty.l1 k (x1 ++ [0]) (wrap64 (x3 + 1))) else (none)) else (some x1)
end
def spec_l6Empty.f (k : Nat)  : Option (List Int) := spec_l6Empty.l0 k (([] : List Int)) 0
set_option maxHeartbeats 8000000 in
set_option maxRecDepth 100000 in
theorem spec_l6Empty.calls (k : Nat)  (r : List Int) (w : World) (h : spec_l6Empty.f k  = some r) :
  Calls Tryz.prog 76 #[] w fun e w' => ∃ v0_ : Value, e = .returned (v0_) ∧ Kd.R (Kd.int .i64) 3 w' w.heap.size (fun _ => True) v0_ r ∧ Below w.heap.size w w' := by
 have HB:=zA (Below.refl w.heap.size w)
 have H : (spec_l6Empty.l0 k (([] : List Int)) 0) = some r:=h
 clear h;obtain ⟨y328,hy328⟩ : ∃ y_ : List Int,y_ = (([] : List Int)):=⟨_,rfl⟩
 replace H : (spec_l6Empty.l0 k y328 0) = some r:=by first|(rw [hy328];with_reducible exact H)|(have H2_:=(Option.bind_some _ _).symm.trans H;rw [hy328];with_reducible exact H2_)|(have H2_:=(Option.bind_some _ _).symm.trans H;with_reducible exact H2_)|with_reducible exact H|(rw [hy328];exact H)|exact H
 have Ny328:=zA hy328;clear hy328
 have H':=zA H
 clear H
 go_enter Tryz.func76,Tryz.ntmps76
 go_wp2_with (first|((with_reducible refine gate_dst (N:=4) rfl ?_);refine Kd.R_lit (Kd.int .i64) _ 3 ?hg (N:=4) ?hd (xs:=([] : List Int)) (inner:=[]) (ok:=fun _ => True) (okp:=fun _ => True) ?hr ?hp (fun _ hk => hk) trivial (Below.refl _ _) (Nat.le_refl _) (by simp) ?_;(case hd => rfl);(case hg => rfl);(case hr => first|(go_simp;done)|(go_simp;rfl));(case hp => exact (Reps.none _ _));intro v329 w1 ho2 hb hg_ hnew_;clear hg_ hnew_;(first|rw [← Ny328.out] at ho2|(simp only [Int.reduceToNat] at ho2;rw [← Ny328.out] at ho2));have HO330:=zA (zHb ho2 (zT (zz HB)));replace HB:=zA (zJb (zz HB) hb);clear hb ho2))
 go_loopg [1,2] k (fun kq v1 v2 w' => ∃ (x1_1 : List Int) (x2_1 : Int),v2 = .int .i64 x2_1 ∧ Aside0 (spec_l6Empty.l0 kq x1_1 x2_1 = some r) ∧ Aside0 (kq ≤ k) ∧ Aside0 (Kd.R (Kd.int .i64) 3 w' w.heap.size (fun _ => True) v1 x1_1) ∧ Aside0 (Below w.heap.size w w'))
 case atStart => exact ⟨(y328),(0),za,H',⟨Nat.le_refl _⟩,⟨zq HO330⟩,⟨zz HB⟩⟩
 case round =>
  clear H';(try clear p2);obtain ⟨x1_1,x2_1,rfl,HA,HK1,HO_1,HB⟩:=hrel
  cases gk with
  | zero => exact absurd HA.out (by simp [spec_l6Empty.l0])
  | succ k1 =>
   have H:=HA.out;clear HA;simp only [spec_l6Empty.l0] at H
   by_cases c3 : x2_1 < 20
   ·
    rw [if_pos c3] at H;have c3b0:=decide_eq_true c3;clear c3
    by_cases c4 : x1_1.length < 17592186044416
    ·
     rw [if_pos c4] at H;have LMc4:=zA c4;clear c4;obtain ⟨y331,hy331⟩ : ∃ y_ : List Int,y_ = (x1_1 ++ [(-1)]):=⟨_,rfl⟩
     replace H : (spec_l6Empty.l0 k1 y331 (wrap64 (x2_1 + 1))) = some r:=by first|(rw [hy331];with_reducible exact H)|(have H2_:=(Option.bind_some _ _).symm.trans H;rw [hy331];with_reducible exact H2_)|(have H2_:=(Option.bind_some _ _).symm.trans H;with_reducible exact H2_)|with_reducible exact H|(rw [hy331];exact H)|exact H
     have Ny331:=zA hy331;clear hy331
     have H':=zA H
     clear H
     go_wp2_with (first|((with_reducible refine gate_builtin (b:=.append) (xs:=#[.tmp 9,.tmp 10]) rfl ?_);at_builtin;refine Kd.R_append (Kd.int .i64) (w0:=w) w.heap.size rfl (.tmp 9) (.tmp 10) 22 3 (.int .i64 0) 8 rfl Tryz.underlying22 info3 rfl (by decide) (by omega) u1 x1_1 (-1) [.int .i64 (-1)] (fun _ => True) (fun _ => False) rfl rfl ?aP (fun _ hk => hk.elim) ?aF ?aO ?aB ?aS ?aL ?_;(case aP => exact rfl);(case aB => exact (zz HB));(case aF => exact (fun _ _ => trivial));(case aO => exact (zq HO_1));(case aS => exact (zT (zz HB)));(case aL => have:=LMc4.out;omega);intro v332 w5 ho hb hg hat;rw [← Ny331.out] at ho;replace HB:=zA (hb);have HO333:=zA (ho);clear HO_1;clear ho hb hg hat))
     go_roundg k1
     case measure => have:=HK1.out;omega
     case rel => exact ⟨(y331),(wrap64 (x2_1 + 1)),za,H',⟨by have:=HK1.out;omega⟩,⟨zq HO333⟩,⟨zz HB⟩⟩
    ·
     rw [if_neg c4] at H
     exact absurd H (by simp)
   ·
    rw [if_neg c3] at H;have c3b0:=decide_eq_false c3;clear c3
    have H':=zA H
    clear H
    go_wp2
    go_loopg [1,3] k1 (fun kq v1 v3 w' => ∃ (x1_2 : List Int) (x3_2 : Int),v3 = .int .i64 x3_2 ∧ Aside0 (spec_l6Empty.l1 kq x1_2 x3_2 = some r) ∧ Aside0 (kq ≤ k1) ∧ Aside0 (Kd.R (Kd.int .i64) 3 w' w.heap.size (fun _ => True) v1 x1_2) ∧ Aside0 (Below w.heap.size w w'))
    case atStart => exact ⟨(x1_1),(0),za,H',⟨Nat.le_refl _⟩,⟨zq HO_1⟩,⟨zz HB⟩⟩
    case round =>
     clear H';(try clear p2);(try clear c3);(try clear c3b0);(try clear c4);(try clear p2);obtain ⟨x1_2,x3_2,rfl,HA,HK2,HO_1,HB⟩:=hrel
     cases gk with
     | zero => exact absurd HA.out (by simp [spec_l6Empty.l1])
     | succ k2 =>
      have H:=HA.out;clear HA;simp only [spec_l6Empty.l1] at H
      by_cases c6 : x3_2 < 20
      ·
       rw [if_pos c6] at H;have c6b0:=decide_eq_true c6;clear c6
       by_cases c7 : x1_2.length < 17592186044416
       ·
        rw [if_pos c7] at H;have LMc7:=zA c7;clear c7;obtain ⟨y334,hy334⟩ : ∃ y_ : List Int,y_ = (x1_2 ++ [0]):=⟨_,rfl⟩
        replace H : (spec_l6Empty.l1 k2 y334 (wrap64 (x3_2 + 1))) = some r:=by first|(rw [hy334];with_reducible exact H)|(have H2_:=(Option.bind_some _ _).symm.trans H;rw [hy334];with_reducible exact H2_)|(have H2_:=(Option.bind_some _ _).symm.trans H;with_reducible exact H2_)|with_reducible exact H|(rw [hy334];exact H)|exact H
        have Ny334:=zA hy334;clear hy334
        have H':=zA H
        clear H
        go_wp2_with (first|((with_reducible refine gate_builtin (b:=.append) (xs:=#[.tmp 16,.tmp 17]) rfl ?_);at_builtin;refine Kd.R_append (Kd.int .i64) (w0:=w) w.heap.size rfl (.tmp 16) (.tmp 17) 22 3 (.int .i64 0) 8 rfl Tryz.underlying22 info3 rfl (by decide) (by omega) u1 x1_2 0 [.int .i64 0] (fun _ => True) (fun _ => False) rfl rfl ?aP (fun _ hk => hk.elim) ?aF ?aO ?aB ?aS ?aL ?_;(case aP => exact rfl);(case aB => exact (zz HB));(case aF => exact (fun _ _ => trivial));(case aO => exact (zq HO_1));(case aS => exact (zT (zz HB)));(case aL => have:=LMc7.out;omega);intro v335 w8 ho hb hg hat;rw [← Ny334.out] at ho;replace HB:=zA (hb);have HO336:=zA (ho);clear HO_1;clear ho hb hg hat))
        go_roundg k2
        case measure => have:=HK1.out;have:=HK2.out;omega
        case rel => exact ⟨(y334),(wrap64 (x3_2 + 1)),za,H',⟨by have:=HK1.out;have:=HK2.out;omega⟩,⟨zq HO336⟩,⟨zz HB⟩⟩
       ·
        rw [if_neg c7] at H
        exact absurd H (by simp)
      ·
       rw [if_neg c6] at H;have c6b0:=decide_eq_false c6;clear c6
       obtain rfl:=Option.some.inj H
       go_wp2
       go_ret
       exact ⟨_,by first|rfl|(simp [errW_none,errW_some] <;> rfl)|(simp [*,errW_none,errW_some] <;> rfl),zq HO_1,zz HB⟩

-- NOT PRINTED: function 54 (spec_l6Raw)

-- NOT PRINTED: function 32 (spec_Bindings)

-- NOT PRINTED: function 22 (spec_CountAnswers)

/-! ### impl_within: function 58 -/
def impl_within.f (a0 : Int) (a1 : Int) (a2 : Int) : Option (Bool) := if a0 ≥ a1 then (some (decide (a0 ≤ a2))) else (some false)
set_option maxHeartbeats 8000000 in
set_option maxRecDepth 100000 in
theorem impl_within.calls (a0 : Int) (a1 : Int) (a2 : Int) (r : Bool) (w : World) (h : impl_within.f a0 a1 a2 = some r) :
  Calls Tryz.prog 58 #[.int .i64 a0, .int .i64 a1, .int .i64 a2] w fun e w' => e = .returned (.bool r) ∧ Drawn0 w w' := by
 have H : (if a0 ≥ a1 then (some (decide (a0 ≤ a2))) else (some false)) = some r:=h
 clear h
 by_cases c4 : a0 ≥ a1
 ·
  rw [if_pos c4] at H
  have c4b0 : decide (a1 ≤ a0) = true:=decide_eq_true c4
  clear c4
  obtain rfl:=Option.some.inj H
  go_enter Tryz.func58,Tryz.ntmps58
  go_wp2
  go_ret
  exact ⟨by first|rfl|(simp;done)|(simp [*];done),by repeat (first|exact Drawn0.refl _|apply Drawn0.step)⟩
 ·
  rw [if_neg c4] at H
  have c4b0 : decide (a1 ≤ a0) = false:=decide_eq_false c4
  clear c4
  obtain rfl:=Option.some.inj H
  go_enter Tryz.func58,Tryz.ntmps58
  go_wp2
  go_ret
  exact ⟨by first|rfl|(simp;done)|(simp [*];done),by repeat (first|exact Drawn0.refl _|apply Drawn0.step)⟩

/-! ### impl_IsSchema: function 56 -/
def impl_IsSchema.l0 : Nat → List Int → Int → Int → List Int → Option (Bool)
 | 0, _, _, _, _ => none
 | k + 1, x6, x7, x8, x348000 => if x8 < x7 then (if 0 ≤ x8 then (if x8 < (x6.length : Int) then ((impl_within.f (rd x6 x8) 1 3).bind fun t349 => (if t349 = true then (impl_IsSchema.l0 k x6 x7 (wrap64 (x8 + 1)) x348000) else (some false))) else (none)) else (none)) else ((impl_within.f (x348000.length : Int) 1 4).bind fun t350 => (some t350))
def impl_IsSchema.f (k : Nat) (l0_0 : List Int) : Option (Bool) := impl_IsSchema.l0 k l0_0 (l0_0.length : Int) 0 l0_0
set_option maxHeartbeats 8000000 in
set_option maxRecDepth 100000 in
theorem impl_IsSchema.calls (k : Nat) (A0_0 : Option Addr) (c0_0 : Nat) (l0_0 : List Int) (r : Bool) (w : World) (hr0_0 : Kd.C (Kd.int .i64) w A0_0 l0_0.length l0_0) (hc0_0 : l0_0.length ≤ c0_0) (h : impl_IsSchema.f k l0_0 = some r) :
  Calls Tryz.prog 56 #[.agg #[.slice A0_0 l0_0.length c0_0]] w fun e w' => e = .returned (.bool r) ∧ Below w.heap.size w w' := by
 have hu34:=Tryz.underlying34;have HR0_0:=zA hr0_0;have HC0_0:=zA hc0_0;clear hr0_0 hc0_0;have HB:=zA (Below.refl w.heap.size w)
 have H : (impl_IsSchema.l0 k l0_0 (l0_0.length : Int) 0 l0_0) = some r:=h
 clear h
 have H':=zA H
 clear H
 go_enter Tryz.func56,Tryz.ntmps56
 go_wp2_with (first|((with_reducible refine gate_dst (N:=1) rfl ?_);refine box_event ?hg (N:=1) ?hd (cs:=#[.slice A0_0 l0_0.length c0_0]) (t:=34) ?hr ?_;(case hd => rfl);(case hg => rfl);(case hr => first|(go_simp;done)|(go_simp;rfl));intro gb347 hg w2 hbox hb;have BK347:=zA (hbox);have GW347:=zA ((by rw [hg];exact (zT (zz HB)) : w.heap.size ≤ gb347));have GE347:=zA ((by rw [hg];exact (zT (zz HB)) : w.heap.size ≤ gb347));replace HB:=zA (zJb (zz HB) hb);clear hb hbox hg;have hcz3_0:=zc (.slice A0_0 l0_0.length c0_0) BK347 0 rfl;have hfz3_0:=blk_frozen BK347.out 0))
 go_loopg [8] k (fun kq v8 w' => ∃ (x8_1 : Int),v8 = .int .i64 x8_1 ∧ Aside0 (impl_IsSchema.l0 kq l0_0 (l0_0.length : Int) x8_1 l0_0 = some r) ∧ Aside0 (kq ≤ k) ∧ Aside0 (w'.heap[gb347]? = some (.cells #[(.slice A0_0 l0_0.length c0_0)] 34 (0,0))) ∧ Aside0 (Below w.heap.size w w'))
 case atStart => exact ⟨(0),za,H',⟨Nat.le_refl _⟩,⟨zx BK347⟩,⟨zz HB⟩⟩
 case round =>
  clear H';(try clear p2);(try clear hcz3_0);(try clear hfz3_0);obtain ⟨x8_1,rfl,HA,HK1,BK347,HB⟩:=hrel
  cases gk with
  | zero => exact absurd HA.out (by simp [impl_IsSchema.l0])
  | succ k1 =>
   have H:=HA.out;clear HA;simp only [impl_IsSchema.l0] at H
   by_cases c4 : x8_1 < (l0_0.length : Int)
   ·
    rw [if_pos c4] at H;have c4b0:=decide_eq_true c4;clear c4
    by_cases c5 : 0 ≤ x8_1
    ·
     rw [if_pos c5] at H;have c5b0:=decide_eq_true c5;clear c5
     by_cases c6 : x8_1 < (l0_0.length : Int)
     ·
      rw [if_pos c6] at H;have c6b0:=decide_eq_true c6;clear c6;replace H:=Option.bind_eq_some_iff.mp H;obtain ⟨t349,A70,H⟩:=H;(try dsimp only at H);have A7:=zA A70;clear A70
      by_cases c8 : t349 = true
      ·
       subst c8
       rw [if_pos rfl] at H
       have H':=zA H
       clear H;have p348 : 0 ≤ (x8_1 : Int):=zXb ze;have q348 : x8_1 < (l0_0.length : Int):=zXb ze;obtain ⟨ad348,e348,hx348_0⟩:=Kd.at_int HR0_0.out x8_1 p348 q348
       cases e348
       replace hx348_0:=(HB.out.cell (World.block_lt_of_cell? w _ hx348_0)).trans hx348_0;replace p348:=eq_true p348;replace q348:=eq_true q348
       go_wp2_with (first|((with_reducible refine gate_callee (f:=58) rfl ?_);refine goesL_ (some 13) rfl rfl Tryz.func58 (by kernel_rfl) rfl #[.int .i64 (rd l0_0 x8_1),.int .i64 1,.int .i64 3] rfl (by (try simp only [zCb,zMb,zNb]);first|done|rfl|(simp only [zLb,zDb];rfl)) ?_;(with_reducible refine (impl_within.calls (rd l0_0 x8_1) 1 3 true _ A7.out).mono ?_);rintro e w' ⟨rfl,⟨nd,rfl⟩⟩;refine ⟨_,rfl,?_⟩))
       go_roundg k1
       case measure => have:=HK1.out;omega
       case rel => exact ⟨(wrap64 (x8_1 + 1)),za,H',⟨by have:=HK1.out;omega⟩,⟨zx BK347⟩,⟨zz HB⟩⟩
      ·
       replace c8:=Bool.eq_false_iff.mpr c8
       subst c8
       have H1 : (some false) = some r:=by rw [if_neg (show ¬ (false = true) by decide)] at H;exact H
       clear H;have H:=H1;clear H1
       obtain rfl:=Option.some.inj H
       have p348 : 0 ≤ (x8_1 : Int):=zXb ze;have q348 : x8_1 < (l0_0.length : Int):=zXb ze;obtain ⟨ad348,e348,hx348_0⟩:=Kd.at_int HR0_0.out x8_1 p348 q348
       cases e348
       replace hx348_0:=(HB.out.cell (World.block_lt_of_cell? w _ hx348_0)).trans hx348_0;replace p348:=eq_true p348;replace q348:=eq_true q348
       go_wp2_with (first|((with_reducible refine gate_callee (f:=58) rfl ?_);refine goesL_ (some 13) rfl rfl Tryz.func58 (by kernel_rfl) rfl #[.int .i64 (rd l0_0 x8_1),.int .i64 1,.int .i64 3] rfl (by (try simp only [zCb,zMb,zNb]);first|done|rfl|(simp only [zLb,zDb];rfl)) ?_;(with_reducible refine (impl_within.calls (rd l0_0 x8_1) 1 3 false _ A7.out).mono ?_);rintro e w' ⟨rfl,⟨nd,rfl⟩⟩;refine ⟨_,rfl,?_⟩))
       go_ret
       exact ⟨by first|rfl|(simp [errW_none,errW_some] <;> rfl)|(simp [*,errW_none,errW_some] <;> rfl),zz HB⟩
     ·
      rw [if_neg c6] at H
      exact absurd H (by simp)
    ·
     rw [if_neg c5] at H
     exact absurd H (by simp)
   ·
    rw [if_neg c4] at H;have c4b0:=decide_eq_false c4;clear c4;replace H:=Option.bind_eq_some_iff.mp H;obtain ⟨t350,A90,H⟩:=H;(try dsimp only at H);have A9:=zA A90;clear A90
    obtain rfl:=Option.some.inj H
    have hcz10_0:=zc (.slice A0_0 l0_0.length c0_0) BK347 0 rfl;have hfz10_0:=blk_frozen BK347.out 0
    go_wp2_with (first|((with_reducible refine gate_callee (f:=58) rfl ?_);refine goesL_ (some 19) rfl rfl Tryz.func58 (by kernel_rfl) rfl #[.int .i64 (l0_0.length : Int),.int .i64 1,.int .i64 4] rfl (by (try simp only [zCb,zMb,zNb]);first|done|rfl|(simp only [zLb,zDb];rfl)) ?_;(with_reducible refine (impl_within.calls (l0_0.length : Int) 1 4 t350 _ A9.out).mono ?_);rintro e w' ⟨rfl,⟨nd,rfl⟩⟩;refine ⟨_,rfl,?_⟩))
    go_ret
    exact ⟨by first|rfl|(simp [errW_none,errW_some] <;> rfl)|(simp [*,errW_none,errW_some] <;> rfl),zz HB⟩

/-! ### impl_IsTerm: function 77 -/
def impl_IsTerm.f (a0 : Int) : Option (Bool) := (impl_within.f a0 (-80) 19).bind fun t351 => (some t351)
set_option maxHeartbeats 8000000 in
set_option maxRecDepth 100000 in
theorem impl_IsTerm.calls (a0 : Int) (r : Bool) (w : World) (h : impl_IsTerm.f a0 = some r) :
  Calls Tryz.prog 77 #[.int .i64 a0] w fun e w' => e = .returned (.bool r) ∧ Drawn0 w w' := by
 have H : ((impl_within.f a0 (-80) 19).bind fun t351 => (some t351)) = some r:=h
 clear h;replace H:=Option.bind_eq_some_iff.mp H;obtain ⟨t351,A20,H⟩:=H;(try dsimp only at H);have A2:=zA A20;clear A20
 obtain rfl:=Option.some.inj H
 go_enter Tryz.func77,Tryz.ntmps77
 go_wp2_with (first|((with_reducible refine gate_callee (f:=58) rfl ?_);refine goesL_ (some 4) rfl rfl Tryz.func58 (by kernel_rfl) rfl #[.int .i64 a0,.int .i64 (-80),.int .i64 19] rfl (by (try simp only [zCb,zMb,zNb]);first|done|rfl|(simp only [zLb,zDb];rfl)) ?_;(with_reducible refine (impl_within.calls a0 (-80) 19 t351 _ A2.out).mono ?_);rintro e w' ⟨rfl,⟨nd,rfl⟩⟩;refine ⟨_,rfl,?_⟩))
 go_ret
 exact ⟨by first|rfl|(simp;done)|(simp [*];done),by repeat (first|exact Drawn0.refl _|apply Drawn0.step)⟩

/-! ### impl_areTerms: function 57 -/
def impl_areTerms.l0 : Nat → List Int → Int → Int → Option (Bool)
 | 0, _, _, _ => none
 | k + 1, x5, x6, x7 => if x7 < x6 then (if 0 ≤ x7 then (if x7 < (x5.length : Int) then ((impl_IsTerm.f (rd x5 x7)).bind fun t353 => (if t353 = true then (impl_areTerms.l0 k x5 x6 (wrap64 (x7 + 1))) else (some false))) else (none)) else (none)) else (some true)
def impl_areTerms.f (k : Nat) (l0 : List Int) : Option (Bool) := impl_areTerms.l0 k l0 (l0.length : Int) 0
set_option maxHeartbeats 8000000 in
set_option maxRecDepth 100000 in
theorem impl_areTerms.calls (k : Nat) (A0 : Option Addr) (c0 : Nat) (l0 : List Int) (r : Bool) (w : World) (hr0 : Kd.C (Kd.int .i64) w A0 l0.length l0) (hc0 : l0.length ≤ c0) (h : impl_areTerms.f k l0 = some r) :
  Calls Tryz.prog 57 #[.slice A0 l0.length c0] w fun e w' => e = .returned (.bool r) ∧ Drawn0 w w' := by
 have HR0:=zA hr0;have HC0:=zA hc0;clear hr0 hc0
 have H : (impl_areTerms.l0 k l0 (l0.length : Int) 0) = some r:=h
 clear h
 have H':=zA H
 clear H
 go_enter Tryz.func57,Tryz.ntmps57
 go_wp2
 go_loopg [7] k (fun kq v7 w' => ∃ (x7_1 : Int),v7 = .int .i64 x7_1 ∧ Aside0 (impl_areTerms.l0 kq l0 (l0.length : Int) x7_1 = some r) ∧ Aside0 (kq ≤ k) ∧ Drawn0 w w')
 case atStart => exact ⟨(0),za,H',⟨Nat.le_refl _⟩,by repeat (first|exact Drawn0.refl _|apply Drawn0.step)⟩
 case round =>
  clear H';obtain ⟨x7_1,rfl,HA,HK1,⟨m1,rfl⟩⟩:=hrel
  cases gk with
  | zero => exact absurd HA.out (by simp [impl_areTerms.l0])
  | succ k1 =>
   have H:=HA.out;clear HA;simp only [impl_areTerms.l0] at H
   by_cases c2 : x7_1 < (l0.length : Int)
   ·
    rw [if_pos c2] at H;have c2b0:=decide_eq_true c2;clear c2
    by_cases c3 : 0 ≤ x7_1
    ·
     rw [if_pos c3] at H;have c3b0:=decide_eq_true c3;clear c3
     by_cases c4 : x7_1 < (l0.length : Int)
     ·
      rw [if_pos c4] at H;have c4b0:=decide_eq_true c4;clear c4;replace H:=Option.bind_eq_some_iff.mp H;obtain ⟨t353,A50,H⟩:=H;(try dsimp only at H);have A5:=zA A50;clear A50
      by_cases c6 : t353 = true
      ·
       subst c6
       rw [if_pos rfl] at H
       have H':=zA H
       clear H;have p352 : 0 ≤ (x7_1 : Int):=zXb ze;have q352 : x7_1 < (l0.length : Int):=zXb ze;obtain ⟨ad352,e352,hx352_0⟩:=Kd.at_int HR0.out x7_1 p352 q352
       cases e352
       replace p352:=eq_true p352;replace q352:=eq_true q352
       go_wp2_with (first|((with_reducible refine gate_callee (f:=77) rfl ?_);refine goesL_ (some 12) rfl rfl Tryz.func77 (by kernel_rfl) rfl #[.int .i64 (rd l0 x7_1)] rfl (by (try simp only [zCb,zMb,zNb]);first|done|rfl|(simp only [zLb,zDb];rfl)) ?_;(with_reducible refine (impl_IsTerm.calls (rd l0 x7_1) true _ A5.out).mono ?_);rintro e w' ⟨rfl,⟨nd,rfl⟩⟩;refine ⟨_,rfl,?_⟩))
       go_roundg k1
       case measure => have:=HK1.out;omega
       case rel => exact ⟨(wrap64 (x7_1 + 1)),za,H',⟨by have:=HK1.out;omega⟩,by repeat (first|exact Drawn0.refl _|apply Drawn0.step)⟩
      ·
       replace c6:=Bool.eq_false_iff.mpr c6
       subst c6
       have H1 : (some false) = some r:=by rw [if_neg (show ¬ (false = true) by decide)] at H;exact H
       clear H;have H:=H1;clear H1
       obtain rfl:=Option.some.inj H
       have p352 : 0 ≤ (x7_1 : Int):=zXb ze;have q352 : x7_1 < (l0.length : Int):=zXb ze;obtain ⟨ad352,e352,hx352_0⟩:=Kd.at_int HR0.out x7_1 p352 q352
       cases e352
       replace p352:=eq_true p352;replace q352:=eq_true q352
       go_wp2_with (first|((with_reducible refine gate_callee (f:=77) rfl ?_);refine goesL_ (some 12) rfl rfl Tryz.func77 (by kernel_rfl) rfl #[.int .i64 (rd l0 x7_1)] rfl (by (try simp only [zCb,zMb,zNb]);first|done|rfl|(simp only [zLb,zDb];rfl)) ?_;(with_reducible refine (impl_IsTerm.calls (rd l0 x7_1) false _ A5.out).mono ?_);rintro e w' ⟨rfl,⟨nd,rfl⟩⟩;refine ⟨_,rfl,?_⟩))
       go_ret
       exact ⟨by first|rfl|(simp;done)|(simp [*];done),by repeat (first|exact Drawn0.refl _|apply Drawn0.step)⟩
     ·
      rw [if_neg c4] at H
      exact absurd H (by simp)
    ·
     rw [if_neg c3] at H
     exact absurd H (by simp)
   ·
    rw [if_neg c2] at H;have c2b0:=decide_eq_false c2;clear c2
    obtain rfl:=Option.some.inj H
    go_wp2
    go_ret
    exact ⟨by first|rfl|(simp;done)|(simp [*];done),by repeat (first|exact Drawn0.refl _|apply Drawn0.step)⟩

/-! ### impl_Schema_takes: function 78 -/
def impl_Schema_takes.f (k : Nat) (l0_0 : List Int) (a1 : Int) (a2 : Int) : Option (Bool) := (impl_IsSchema.f k l0_0).bind fun t355 => (if t355 = true then ((impl_within.f a1 0 (wrap64 ((l0_0.length : Int) - 1))).bind fun t356 => (if t356 = true then (if 0 ≤ a1 then (if a1 < (l0_0.length : Int) then (some ((rd l0_0 a1) == a2)) else (none)) else (none)) else (some false))) else (some false))
set_option maxHeartbeats 8000000 in
set_option maxRecDepth 100000 in
theorem impl_Schema_takes.calls (k : Nat) (A0_0 : Option Addr) (c0_0 : Nat) (l0_0 : List Int) (a1 : Int) (a2 : Int) (r : Bool) (w : World) (hr0_0 : Kd.C (Kd.int .i64) w A0_0 l0_0.length l0_0) (hc0_0 : l0_0.length ≤ c0_0) (h : impl_Schema_takes.f k l0_0 a1 a2 = some r) :
  Calls Tryz.prog 78 #[.agg #[.slice A0_0 l0_0.length c0_0], .int .i64 a1, .int .i64 a2] w fun e w' => e = .returned (.bool r) ∧ Below w.heap.size w w' := by
 have hu34:=Tryz.underlying34;have HR0_0:=zA hr0_0;have HC0_0:=zA hc0_0;clear hr0_0 hc0_0;have HB:=zA (Below.refl w.heap.size w)
 have H : ((impl_IsSchema.f k l0_0).bind fun t355 => (if t355 = true then ((impl_within.f a1 0 (wrap64 ((l0_0.length : Int) - 1))).bind fun t356 => (if t356 = true then (if 0 ≤ a1 then (if a1 < (l0_0.length : Int) then (some ((rd l0_0 a1) == a2)) else (none)) else (none)) else (some false))) else (some false))) = some r:=h
 clear h;replace H:=Option.bind_eq_some_iff.mp H;obtain ⟨t355,A40,H⟩:=H;(try dsimp only at H);have A4:=zA A40;clear A40
 by_cases c5 : t355 = true
 ·
  subst c5
  rw [if_pos rfl] at H;replace H:=Option.bind_eq_some_iff.mp H;obtain ⟨t356,A60,H⟩:=H;(try dsimp only at H);have A6:=zA A60;clear A60
  by_cases c7 : t356 = true
  ·
   subst c7
   rw [if_pos rfl] at H
   by_cases c8 : 0 ≤ a1
   ·
    rw [if_pos c8] at H;have c8b0:=decide_eq_true c8;clear c8
    by_cases c9 : a1 < (l0_0.length : Int)
    ·
     rw [if_pos c9] at H;have c9b0:=decide_eq_true c9;clear c9
     obtain rfl:=Option.some.inj H
     go_enter Tryz.func78,Tryz.ntmps78
     go_wp2_with (first|((with_reducible refine gate_dst (N:=3) rfl ?_);(try (refine gate_guard (by rfl) ?_;dsimp only));refine box_event ?hg (N:=3) ?hd (cs:=#[.slice A0_0 l0_0.length c0_0]) (t:=34) ?hr ?_;(case hd => rfl);(case hg => rfl);(case hr => first|(go_simp;done)|(go_simp;rfl));intro gb354 hg w10 hbox hb;have BK354:=zA (hbox);have GW354:=zA ((by rw [hg];exact (zT (zz HB)) : w.heap.size ≤ gb354));have GE354:=zA ((by rw [hg];exact (zT (zz HB)) : w.heap.size ≤ gb354));replace HB:=zA (zJb (zz HB) hb);clear hb hbox hg;have hcz11_0:=zc (.slice A0_0 l0_0.length c0_0) BK354 0 rfl;have hfz11_0:=blk_frozen BK354.out 0)|((with_reducible refine gate_callee (f:=56) rfl ?_);refine goesL_ (some 8) rfl rfl Tryz.func56 (by kernel_rfl) rfl #[.agg #[.slice A0_0 l0_0.length c0_0]] rfl (by (try simp only [zCb,zMb,zNb]);first|done|rfl|(simp only [zLb,zDb];rfl)) ?_;(with_reducible refine (impl_IsSchema.calls k _ _ l0_0 true _ ?side1 ?side2 A4.out).mono ?_);(case side1 => exact zsd HR0_0 HB);(case side2 => exact HC0_0.out);rintro e w12 ⟨rfl,hb⟩;refine ⟨_,rfl,?_⟩;replace BK354:=zA (zQ (g:=gb354) (o:=.cells #[.slice A0_0 l0_0.length c0_0] 34 (0,0)) (zx BK354) hb);replace HB:=zA (zJb (zz HB) hb);(try clear hb);(try clear hb2);(try clear hk);(try clear hi);have hcz13_0:=zc (.slice A0_0 l0_0.length c0_0) BK354 0 rfl;have hfz13_0:=blk_frozen BK354.out 0)|(go_at_call 58;(with_reducible refine (impl_within.calls a1 0 (wrap64 ((l0_0.length : Int) - 1)) true _ A6.out).mono ?_);rintro e w' ⟨rfl,⟨nd,rfl⟩⟩;have p357 : 0 ≤ (a1 : Int):=zXb ze;have q357 : a1 < (l0_0.length : Int):=zXb ze;obtain ⟨ad357,e357,hx357_0⟩:=Kd.at_int HR0_0.out a1 p357 q357;cases e357;replace hx357_0:=(HB.out.cell (World.block_lt_of_cell? w _ hx357_0)).trans hx357_0;replace p357:=eq_true p357;replace q357:=eq_true q357))
     go_ret
     exact ⟨by first|rfl|(simp [errW_none,errW_some] <;> rfl)|(simp [*,errW_none,errW_some] <;> rfl),zz HB⟩
    ·
     rw [if_neg c9] at H
     exact absurd H (by simp)
   ·
    rw [if_neg c8] at H
    exact absurd H (by simp)
  ·
   replace c7:=Bool.eq_false_iff.mpr c7
   subst c7
   have H1 : (some false) = some r:=by rw [if_neg (show ¬ (false = true) by decide)] at H;exact H
   clear H;have H:=H1;clear H1
   obtain rfl:=Option.some.inj H
   go_enter Tryz.func78,Tryz.ntmps78
   go_wp2_with (first|((with_reducible refine gate_dst (N:=3) rfl ?_);(try (refine gate_guard (by rfl) ?_;dsimp only));refine box_event ?hg (N:=3) ?hd (cs:=#[.slice A0_0 l0_0.length c0_0]) (t:=34) ?hr ?_;(case hd => rfl);(case hg => rfl);(case hr => first|(go_simp;done)|(go_simp;rfl));intro gb354 hg w14 hbox hb;have BK354:=zA (hbox);have GW354:=zA ((by rw [hg];exact (zT (zz HB)) : w.heap.size ≤ gb354));have GE354:=zA ((by rw [hg];exact (zT (zz HB)) : w.heap.size ≤ gb354));replace HB:=zA (zJb (zz HB) hb);clear hb hbox hg;have hcz15_0:=zc (.slice A0_0 l0_0.length c0_0) BK354 0 rfl;have hfz15_0:=blk_frozen BK354.out 0)|((with_reducible refine gate_callee (f:=56) rfl ?_);refine goesL_ (some 8) rfl rfl Tryz.func56 (by kernel_rfl) rfl #[.agg #[.slice A0_0 l0_0.length c0_0]] rfl (by (try simp only [zCb,zMb,zNb]);first|done|rfl|(simp only [zLb,zDb];rfl)) ?_;(with_reducible refine (impl_IsSchema.calls k _ _ l0_0 true _ ?side1 ?side2 A4.out).mono ?_);(case side1 => exact zsd HR0_0 HB);(case side2 => exact HC0_0.out);rintro e w16 ⟨rfl,hb⟩;refine ⟨_,rfl,?_⟩;replace BK354:=zA (zQ (g:=gb354) (o:=.cells #[.slice A0_0 l0_0.length c0_0] 34 (0,0)) (zx BK354) hb);replace HB:=zA (zJb (zz HB) hb);(try clear hb);(try clear hb2);(try clear hk);(try clear hi);have hcz17_0:=zc (.slice A0_0 l0_0.length c0_0) BK354 0 rfl;have hfz17_0:=blk_frozen BK354.out 0)|(go_at_call 58;(with_reducible refine (impl_within.calls a1 0 (wrap64 ((l0_0.length : Int) - 1)) false _ A6.out).mono ?_);rintro e w' ⟨rfl,⟨nd,rfl⟩⟩))
   go_ret
   exact ⟨by first|rfl|(simp [errW_none,errW_some] <;> rfl)|(simp [*,errW_none,errW_some] <;> rfl),zz HB⟩
 ·
  replace c5:=Bool.eq_false_iff.mpr c5
  subst c5
  have H1 : (some false) = some r:=by rw [if_neg (show ¬ (false = true) by decide)] at H;exact H
  clear H;have H:=H1;clear H1
  obtain rfl:=Option.some.inj H
  go_enter Tryz.func78,Tryz.ntmps78
  go_wp2_with (first|((with_reducible refine gate_dst (N:=3) rfl ?_);(try (refine gate_guard (by rfl) ?_;dsimp only));refine box_event ?hg (N:=3) ?hd (cs:=#[.slice A0_0 l0_0.length c0_0]) (t:=34) ?hr ?_;(case hd => rfl);(case hg => rfl);(case hr => first|(go_simp;done)|(go_simp;rfl));intro gb354 hg w18 hbox hb;have BK354:=zA (hbox);have GW354:=zA ((by rw [hg];exact (zT (zz HB)) : w.heap.size ≤ gb354));have GE354:=zA ((by rw [hg];exact (zT (zz HB)) : w.heap.size ≤ gb354));replace HB:=zA (zJb (zz HB) hb);clear hb hbox hg;have hcz19_0:=zc (.slice A0_0 l0_0.length c0_0) BK354 0 rfl;have hfz19_0:=blk_frozen BK354.out 0)|((with_reducible refine gate_callee (f:=56) rfl ?_);refine goesL_ (some 8) rfl rfl Tryz.func56 (by kernel_rfl) rfl #[.agg #[.slice A0_0 l0_0.length c0_0]] rfl (by (try simp only [zCb,zMb,zNb]);first|done|rfl|(simp only [zLb,zDb];rfl)) ?_;(with_reducible refine (impl_IsSchema.calls k _ _ l0_0 false _ ?side1 ?side2 A4.out).mono ?_);(case side1 => exact zsd HR0_0 HB);(case side2 => exact HC0_0.out);rintro e w20 ⟨rfl,hb⟩;refine ⟨_,rfl,?_⟩;replace BK354:=zA (zQ (g:=gb354) (o:=.cells #[.slice A0_0 l0_0.length c0_0] 34 (0,0)) (zx BK354) hb);replace HB:=zA (zJb (zz HB) hb);(try clear hb);(try clear hb2);(try clear hk);(try clear hi)))
  go_ret
  exact ⟨by first|rfl|(simp [errW_none,errW_some] <;> rfl)|(simp [*,errW_none,errW_some] <;> rfl),zz HB⟩

end Go.Proofs.YtfelabhakgcifaaGreat.QFnExactCountAnswers
