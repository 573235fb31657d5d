/- Walks through the Go functions that FnExactParseQuery reaches: each call returns what the Lean function beside it says, within the bounds that the theorem names. -/
import Derived.Test.YtpfpappamlgnoaaQFnExactParseQueryx0
import Derived.Test.YtpfpappamlgnoaaQFnExactParseQueryx2
namespace Go.Proofs.Ytpfpappamlgnoaa.QFnExactParseQuery
open Go.RowKit Go.Proofs.YtpfpappamlgnoaaW.PrintWords Go.Proofs.YtpfpappamlgnoaaW.PrintLast Go.Proofs.YtpfpappamlgnoaaW.PrintMore
attribute [local go_sem] max2_int min2_int max_two min_two max_three min_three max_four min_four   -- for this text's walks alone
set_option linter.unusedVariables false
set_option linter.unusedSimpArgs false


/-! ### spec_l4BodyVars: function 93 -/
mutual
def spec_l4BodyVars.l0 : Nat → List Int → Int → List Int → List (S38) → Option (List Int)
 | 0, _, _, _, _ => none
 | k + 1, x3, x4, x144000, x144001 => if x4 < (x144001.length : Int) then (spec_l4BodyVars.l1 k x3 x4 0 x144000 x144001) else (some x3)
def spec_l4BodyVars.l1 : Nat → List Int → Int → Int → List Int → List (S38) → Option (List Int)
 | 0, _, _, _, _, _ => none
 | k + 1, x3, x4, x5, x144000, x144001 => if 0 ≤ x4 then (if x4 < (x144001.length : Int) then (if x5 < (((rd_T38 x144001 x4).f1).length : Int) then (if 0 ≤ x5 then (if (rd ((rd_T38 x144001 x4).f1) x5) ≥ 0 then ((spec_l2Has.f k x3 (rd ((rd_T38 x144001 x4).f1) x5)).bind fun t150 => (if t150 = true then (spec_l4BodyVars.l1 k x3 x4 (wrap64 (x5 + 1)) x144000 x144001) else (if x3.length < 17592186044416 then (spec_l4BodyVars.l1 k (x3 ++ [rd ((rd_T38 x144001 x4).f1) x5]) x4 (wrap64 (x5 + 1)) x144000 x144001) else (none)))) else (spec_l4BodyVars.l1 k x3 x4 (wrap64 (x5 + 1)) x144000 x144001)) else (none)) else (spec_l4BodyVars.l0 k x3 (wrap64 (x4 + 1)) x144000 x144001)) else (none)) else (none)
end
def spec_l4BodyVars.f (k : Nat) (l0_0 : List Int) (l0_1 : List (S38)) : Option (List Int) := spec_l4BodyVars.l0 k (([] : List Int)) 0 l0_0 l0_1
theorem spec_l4BodyVars.mono_l : ∀ k, (∀ y0 y1 y2 y3, LeO (spec_l4BodyVars.l0 k y0 y1 y2 y3) (spec_l4BodyVars.l0 (k + 1) y0 y1 y2 y3)) ∧ (∀ y0 y1 y2 y3 y4, LeO (spec_l4BodyVars.l1 k y0 y1 y2 y3 y4) (spec_l4BodyVars.l1 (k + 1) y0 y1 y2 y3 y4))
 | 0 => ⟨fun _ _ _ _ r h => by simp [spec_l4BodyVars.l0] at h, fun _ _ _ _ _ r h => by simp [spec_l4BodyVars.l1] at h⟩
 | k + 1 => by
  obtain ⟨ih0,ih1⟩:=spec_l4BodyVars.mono_l k
  refine ⟨?_,?_⟩
  (intros;unfold spec_l4BodyVars.l0;rotate_left)
  (intros;unfold spec_l4BodyVars.l1;rotate_left)
  all_goals repeat' first
  | (with_reducible exact ih0 _ _ _ _)
  | (with_reducible exact ih1 _ _ _ _ _)
  | (with_reducible exact spec_l2Has.mono _ _ _)
  | (with_reducible exact LeO.refl _)
  | (with_reducible exact LeO.none _)
  | (with_reducible refine LeO.ite ?_ ?_)
  | (with_reducible refine LeO.bind ?_ (fun _ => ?_))
  | exact ih0 _ _ _ _
  | exact ih1 _ _ _ _ _
  | exact LeO.none _
  | refine LeO.ite ?_ ?_
  | refine LeO.bind ?_ (fun _ => ?_)
theorem spec_l4BodyVars.mono : ∀ a0 a1 k, LeO (spec_l4BodyVars.f k a0 a1) (spec_l4BodyVars.f (k + 1) a0 a1) := by
 intro a0 a1 k
 obtain ⟨ih0,ih1⟩:=spec_l4BodyVars.mono_l k
 unfold spec_l4BodyVars.f
 repeat' first
   | (with_reducible exact ih0 _ _ _ _)
   | (with_reducible exact ih1 _ _ _ _ _)
   | (with_reducible exact spec_l2Has.mono _ _ _)
   | (with_reducible exact LeO.refl _)
   | (with_reducible exact LeO.none _)
   | (with_reducible refine LeO.ite ?_ ?_)
   | (with_reducible refine LeO.bind ?_ (fun _ => ?_))
   | exact ih0 _ _ _ _
   | exact ih1 _ _ _ _ _
   | exact LeO.none _
   | refine LeO.ite ?_ ?_
   | refine LeO.bind ?_ (fun _ => ?_)
set_option maxHeartbeats 8000000 in
set_option maxRecDepth 100000 in
theorem spec_l4BodyVars.calls (k : Nat) (A0_0 : Option Addr) (c0_0 : Nat) (l0_0 : List Int) (A0_1 : Option Addr) (c0_1 : Nat) (l0_1 : List (S38)) (r : List Int) (w : World) (hr0_0 : Kd.C (Kd.int .i64) w A0_0 l0_0.length l0_0) (hc0_0 : l0_0.length ≤ c0_0) (hr0_1 : Kd.C k38 w A0_1 l0_1.length l0_1) (hc0_1 : l0_1.length ≤ c0_1) (h : spec_l4BodyVars.f k l0_0 l0_1 = some r) :
  Calls Try.prog 93 #[.agg #[.slice A0_0 l0_0.length c0_0, .slice A0_1 l0_1.length c0_1]] w fun e w' => ∃ v0_ : Value, e = .returned (v0_) ∧ Kd.R (Kd.int .i64) 3 w' w.heap.size (fun _ => True) v0_ r ∧ Below w.heap.size w w' := by
 have hu49:=Try.underlying49;have HR0_0:=zA hr0_0;have HC0_0:=zA hc0_0;clear hr0_0 hc0_0;have HR0_1:=zA hr0_1;have HC0_1:=zA hc0_1;clear hr0_1 hc0_1;have HB:=zA (Below.refl w.heap.size w)
 have H : (spec_l4BodyVars.l0 k (([] : List Int)) 0 l0_0 l0_1) = some r:=h
 clear h;obtain ⟨y144,hy144⟩ : ∃ y_ : List Int,y_ = (([] : List Int)):=⟨_,rfl⟩
 replace H : (spec_l4BodyVars.l0 k y144 0 l0_0 l0_1) = some r:=by first|(rw [hy144];with_reducible exact H)|(have H2_:=(Option.bind_some _ _).symm.trans H;rw [hy144];with_reducible exact H2_)|(have H2_:=(Option.bind_some _ _).symm.trans H;with_reducible exact H2_)|with_reducible exact H|(rw [hy144];exact H)|exact H
 have Ny144:=zA hy144;clear hy144
 have H':=zA H
 clear H
 go_enter Try.func93,Try.ntmps93
 go_wp2_with (first|((with_reducible refine gate_dst (N:=1) rfl ?_);refine box_event ?hg (N:=1) ?hd (cs:=#[.slice A0_0 l0_0.length c0_0,.slice A0_1 l0_1.length c0_1]) (t:=49) ?hr ?_;(case hd => rfl);(case hg => rfl);(case hr => first|(go_simp;done)|(go_simp;rfl));intro gb143 hg w2 hbox hb;have BK143:=zA (hbox);have GW143:=zA ((by rw [hg];exact (zT (zz HB)) : w.heap.size ≤ gb143));have GE143:=zA ((by rw [hg];exact (zT (zz HB)) : w.heap.size ≤ gb143));replace HB:=zA (zJb (zz HB) hb);clear hb hbox hg)|((with_reducible refine gate_dst (N:=7) rfl ?_);refine Kd.R_lit (Kd.int .i64) _ 3 ?hg (N:=7) ?hd (xs:=([] : List Int)) (inner:=[]) (ok:=fun _ => True) (okp:=fun _ => True) ?hr ?hp (fun _ hk => hk) trivial (Below.refl _ _) (Nat.le_refl _) (by simp) ?_;(case hd => rfl);(case hg => rfl);(case hr => first|(go_simp;done)|(go_simp;rfl));(case hp => exact (Reps.none _ _));intro v145 w3 ho4 hb hg_ hnew_;clear hg_ hnew_;(first|rw [← Ny144.out] at ho4|(simp only [Int.reduceToNat] at ho4;rw [← Ny144.out] at ho4));have HO146:=zA (zHb ho4 (zT (zz HB)));replace BK143:=zA (zQ (g:=gb143) (o:=.cells #[.slice A0_0 l0_0.length c0_0,.slice A0_1 l0_1.length c0_1] 49 (0,0)) (zx BK143) hb);replace HB:=zA (zJb (zz HB) hb);clear hb ho4))
 go_loopg [3,4] k (fun kq v3 v4 w' => ∃ (x3_1 : List Int) (x4_1 : Int),v4 = .int .i64 x4_1 ∧ Aside0 (spec_l4BodyVars.l0 kq x3_1 x4_1 l0_0 l0_1 = some r) ∧ Aside0 (kq ≤ k) ∧ Aside0 (Kd.R (Kd.int .i64) 3 w' w.heap.size (fun _ => True) v3 x3_1) ∧ Aside0 (w'.heap[gb143]? = some (.cells #[(.slice A0_0 l0_0.length c0_0),(.slice A0_1 l0_1.length c0_1)] 49 (0,0))) ∧ Aside0 (Below w.heap.size w w'))
 case atStart => exact ⟨(y144),(0),za,H',⟨Nat.le_refl _⟩,⟨zq HO146⟩,⟨zx BK143⟩,⟨zz HB⟩⟩
 case round =>
  clear H';(try clear p2);obtain ⟨x3_1,x4_1,rfl,HA,HK1,HO_3,BK143,HB⟩:=hrel
  cases gk with
  | zero => exact absurd HA.out (by simp [spec_l4BodyVars.l0])
  | succ k1 =>
   have H:=HA.out;clear HA;simp only [spec_l4BodyVars.l0] at H
   by_cases c5 : x4_1 < (l0_1.length : Int)
   ·
    rw [if_pos c5] at H;have c5b0:=decide_eq_true c5;clear c5
    have H':=zA H
    clear H;have hcz6_0:=zc (.slice A0_0 l0_0.length c0_0) BK143 0 rfl;have hcz6_1:=zc (.slice A0_1 l0_1.length c0_1) BK143 1 rfl;have hfz6_0:=blk_frozen BK143.out 0;have hfz6_1:=blk_frozen BK143.out 1
    go_wp2
    go_loopg [3,5] k1 (fun kq v3 v5 w' => ∃ (x3_2 : List Int) (x5_2 : Int),v5 = .int .i64 x5_2 ∧ Aside0 (spec_l4BodyVars.l1 kq x3_2 x4_1 x5_2 l0_0 l0_1 = some r) ∧ Aside0 (kq ≤ k1) ∧ Aside0 (Kd.R (Kd.int .i64) 3 w' w.heap.size (fun _ => True) v3 x3_2) ∧ Aside0 (w'.heap[gb143]? = some (.cells #[(.slice A0_0 l0_0.length c0_0),(.slice A0_1 l0_1.length c0_1)] 49 (0,0))) ∧ Aside0 (Below w.heap.size w w'))
    case atStart => exact ⟨(x3_1),(0),za,H',⟨Nat.le_refl _⟩,⟨zq HO_3⟩,⟨zx BK143⟩,⟨zz HB⟩⟩
    case round =>
     clear H';(try clear p2);(try clear c5);(try clear c5b0);(try clear hcz6_0);(try clear hcz6_1);(try clear hfz6_0);(try clear hfz6_1);(try clear p2);obtain ⟨x3_2,x5_2,rfl,HA,HK2,HO_3,BK143,HB⟩:=hrel
     cases gk with
     | zero => exact absurd HA.out (by simp [spec_l4BodyVars.l1])
     | succ k2 =>
      have H:=HA.out;clear HA;simp only [spec_l4BodyVars.l1] at H
      by_cases c7 : 0 ≤ x4_1
      ·
       rw [if_pos c7] at H;have c7b0:=decide_eq_true c7;clear c7
       by_cases c8 : x4_1 < (l0_1.length : Int)
       ·
        rw [if_pos c8] at H;have c8b0:=decide_eq_true c8;clear c8
        by_cases c9 : x5_2 < (((rd_T38 l0_1 x4_1).f1).length : Int)
        ·
         rw [if_pos c9] at H;have c9b0:=decide_eq_true c9;clear c9
         by_cases c10 : 0 ≤ x5_2
         ·
          rw [if_pos c10] at H;have c10b0:=decide_eq_true c10;clear c10
          by_cases c11 : (rd ((rd_T38 l0_1 x4_1).f1) x5_2) ≥ 0
          ·
           rw [if_pos c11] at H
           have c11b0 : decide (0 ≤ (rd ((rd_T38 l0_1 x4_1).f1) x5_2)) = true:=decide_eq_true c11
           clear c11;replace H:=Option.bind_eq_some_iff.mp H;obtain ⟨t150,A120,H⟩:=H;(try dsimp only at H);have A12:=zA A120;clear A120
           by_cases c13 : t150 = true
           ·
            subst c13
            rw [if_pos rfl] at H
            have H':=zA H
            clear H;have hcz14_0:=zc (.slice A0_0 l0_0.length c0_0) BK143 0 rfl;have hcz14_1:=zc (.slice A0_1 l0_1.length c0_1) BK143 1 rfl;have hfz14_0:=blk_frozen BK143.out 0;have hfz14_1:=blk_frozen BK143.out 1;have p147 : 0 ≤ (x4_1 : Int):=zXb ze;have q147 : x4_1 < (l0_1.length : Int):=zXb ze;obtain ⟨ad147,A147_1,c147_1,e147,hx147_0,hx147_1,hl147_1,hi147_1⟩:=at_T38 HR0_1.out x4_1 p147 q147
            cases e147
            replace hx147_0:=(HB.out.cell (World.block_lt_of_cell? w _ hx147_0)).trans hx147_0;replace hx147_1:=(HB.out.cell (World.block_lt_of_cell? w _ hx147_1)).trans hx147_1;have HR147_1:=zA hi147_1;have HC147_1:=zA hl147_1;clear hi147_1 hl147_1;replace p147:=eq_true p147;replace q147:=eq_true q147;have p148 : 0 ≤ (x4_1 : Int):=zXb ze;have q148 : x4_1 < (l0_1.length : Int):=zXb ze;obtain ⟨ad148,A148_1,c148_1,e148,hx148_0,hx148_1,hl148_1,hi148_1⟩:=at_T38 HR0_1.out x4_1 p148 q148
            obtain rfl : ad147 = ad148:=(by injection e148)
            replace hx148_0:=(HB.out.cell (World.block_lt_of_cell? w _ hx148_0)).trans hx148_0;replace hx148_1:=(HB.out.cell (World.block_lt_of_cell? w _ hx148_1)).trans hx148_1;have HR148_1:=zA hi148_1;have HC148_1:=zA hl148_1;clear hi148_1 hl148_1;replace p148:=eq_true p148;replace q148:=eq_true q148;have ea_:=Option.some.inj (hx147_1.symm.trans hx148_1)
            injection ea_ with ea_ en_ ec_
            subst ea_
            subst ec_
            clear en_;have p149 : 0 ≤ (x5_2 : Int):=zXb ze;have q149 : x5_2 < (((rd_T38 l0_1 x4_1).f1).length : Int):=zXb ze;obtain ⟨ad149,e149,hx149_0⟩:=Kd.at_int HR148_1.out x5_2 p149 q149
            cases e149
            replace hx149_0:=(HB.out.cell (World.block_lt_of_cell? w _ hx149_0)).trans hx149_0;replace p149:=eq_true p149;replace q149:=eq_true q149;obtain ⟨Ao15,co15,eo15⟩:=Kd.R_slice HO_3.out
            subst eo15
            go_wp2_with (first|(go_at_call 92;(with_reducible refine (spec_l2Has.calls k2 _ _ x3_2 (rd ((rd_T38 l0_1 x4_1).f1) x5_2) true _ ?side1 ?side2 A12.out).mono ?_);(case side1 => repeat (first|exact (Kd.R_reads' HO_3.out).2.2|(with_reducible refine zBb ?_ _)|(with_reducible refine zAb ?_ _)|(with_reducible refine zX ?_)));(case side2 => exact (Kd.R_reads' HO_3.out).2.1);rintro e w' ⟨rfl,⟨nd,rfl⟩⟩))
            go_roundg k2
            case measure => have:=HK1.out;have:=HK2.out;omega
            case rel => exact ⟨(x3_2),(wrap64 (x5_2 + 1)),za,H',⟨by have:=HK1.out;have:=HK2.out;omega⟩,⟨zq HO_3⟩,⟨zx BK143⟩,⟨zz HB⟩⟩
           ·
            replace c13:=Bool.eq_false_iff.mpr c13
            subst c13
            have H1 : (if x3_2.length < 17592186044416 then (spec_l4BodyVars.l1 k2 (x3_2 ++ [rd ((rd_T38 l0_1 x4_1).f1) x5_2]) x4_1 (wrap64 (x5_2 + 1)) l0_0 l0_1) else (none)) = some r:=by rw [if_neg (show ¬ (false = true) by decide)] at H;exact H
            clear H;have H:=H1;clear H1
            by_cases c16 : x3_2.length < 17592186044416
            ·
             rw [if_pos c16] at H;have LMc16:=zA c16;clear c16;obtain ⟨y151,hy151⟩ : ∃ y_ : List Int,y_ = (x3_2 ++ [rd ((rd_T38 l0_1 x4_1).f1) x5_2]):=⟨_,rfl⟩
             replace H : (spec_l4BodyVars.l1 k2 y151 x4_1 (wrap64 (x5_2 + 1)) l0_0 l0_1) = some r:=by first|(rw [hy151];with_reducible exact H)|(have H2_:=(Option.bind_some _ _).symm.trans H;rw [hy151];with_reducible exact H2_)|(have H2_:=(Option.bind_some _ _).symm.trans H;with_reducible exact H2_)|with_reducible exact H|(rw [hy151];exact H)|exact H
             have Ny151:=zA hy151;clear hy151
             have H':=zA H
             clear H;have hcz17_0:=zc (.slice A0_0 l0_0.length c0_0) BK143 0 rfl;have hcz17_1:=zc (.slice A0_1 l0_1.length c0_1) BK143 1 rfl;have hfz17_0:=blk_frozen BK143.out 0;have hfz17_1:=blk_frozen BK143.out 1;have p147 : 0 ≤ (x4_1 : Int):=zXb ze;have q147 : x4_1 < (l0_1.length : Int):=zXb ze;obtain ⟨ad147,A147_1,c147_1,e147,hx147_0,hx147_1,hl147_1,hi147_1⟩:=at_T38 HR0_1.out x4_1 p147 q147
             cases e147
             replace hx147_0:=(HB.out.cell (World.block_lt_of_cell? w _ hx147_0)).trans hx147_0;replace hx147_1:=(HB.out.cell (World.block_lt_of_cell? w _ hx147_1)).trans hx147_1;have HR147_1:=zA hi147_1;have HC147_1:=zA hl147_1;clear hi147_1 hl147_1;replace p147:=eq_true p147;replace q147:=eq_true q147;have p148 : 0 ≤ (x4_1 : Int):=zXb ze;have q148 : x4_1 < (l0_1.length : Int):=zXb ze;obtain ⟨ad148,A148_1,c148_1,e148,hx148_0,hx148_1,hl148_1,hi148_1⟩:=at_T38 HR0_1.out x4_1 p148 q148
             obtain rfl : ad147 = ad148:=(by injection e148)
             replace hx148_0:=(HB.out.cell (World.block_lt_of_cell? w _ hx148_0)).trans hx148_0;replace hx148_1:=(HB.out.cell (World.block_lt_of_cell? w _ hx148_1)).trans hx148_1;have HR148_1:=zA hi148_1;have HC148_1:=zA hl148_1;clear hi148_1 hl148_1;replace p148:=eq_true p148;replace q148:=eq_true q148;have ea_:=Option.some.inj (hx147_1.symm.trans hx148_1)
             injection ea_ with ea_ en_ ec_
             subst ea_
             subst ec_
             clear en_;have p149 : 0 ≤ (x5_2 : Int):=zXb ze;have q149 : x5_2 < (((rd_T38 l0_1 x4_1).f1).length : Int):=zXb ze;obtain ⟨ad149,e149,hx149_0⟩:=Kd.at_int HR148_1.out x5_2 p149 q149
             cases e149
             replace hx149_0:=(HB.out.cell (World.block_lt_of_cell? w _ hx149_0)).trans hx149_0;replace p149:=eq_true p149;replace q149:=eq_true q149;obtain ⟨Ao18,co18,eo18⟩:=Kd.R_slice HO_3.out
             subst eo18
             go_wp2_with (first|(go_at_call 92;(with_reducible refine (spec_l2Has.calls k2 _ _ x3_2 (rd ((rd_T38 l0_1 x4_1).f1) x5_2) false _ ?side1 ?side2 A12.out).mono ?_);(case side1 => repeat (first|exact (Kd.R_reads' HO_3.out).2.2|(with_reducible refine zBb ?_ _)|(with_reducible refine zAb ?_ _)|(with_reducible refine zX ?_)));(case side2 => exact (Kd.R_reads' HO_3.out).2.1);rintro e w' ⟨rfl,⟨nd,rfl⟩⟩)|((with_reducible refine gate_builtin (b:=.append) (xs:=#[.tmp 43,.tmp 45]) rfl ?_);at_builtin;refine Kd.R_append (Kd.int .i64) (w0:=w) w.heap.size rfl (.tmp 43) (.tmp 45) 22 3 (.int .i64 0) 8 rfl Try.underlying22 info3 rfl (by decide) (by omega) (.slice Ao18 x3_2.length co18) x3_2 (rd ((rd_T38 l0_1 x4_1).f1) x5_2) [.int .i64 (rd ((rd_T38 l0_1 x4_1).f1) x5_2)] (fun _ => True) (fun _ => False) rfl rfl ?aP (fun _ hk => hk.elim) ?aF ?aO ?aB ?aS ?aL ?_;(case aP => exact rfl);(case aB => exact (zz HB));(case aF => exact (fun _ _ => trivial));(case aO => exact (zq HO_3));(case aS => exact (zT (zz HB)));(case aL => have:=LMc16.out;omega);intro v152 w19 ho hb hg hat;rw [← Ny151.out] at ho;replace BK143:=zA (blk_grown (g:=gb143) (o:=.cells #[.slice A0_0 l0_0.length c0_0,.slice (some ad147) l0_1.length c0_1] 49 (0,0)) (zx BK143) hg (Kd.R_ne HO_3.out BK143.out (by decide)));replace HB:=zA (hb);have HO153:=zA (ho);clear HO_3;clear ho hb hg hat))
             go_roundg k2
             case measure => have:=HK1.out;have:=HK2.out;omega
             case rel => exact ⟨(y151),(wrap64 (x5_2 + 1)),za,H',⟨by have:=HK1.out;have:=HK2.out;omega⟩,⟨zq HO153⟩,⟨zx BK143⟩,⟨zz HB⟩⟩
            ·
             rw [if_neg c16] at H
             exact absurd H (by simp)
          ·
           rw [if_neg c11] at H
           have c11b0 : decide (0 ≤ (rd ((rd_T38 l0_1 x4_1).f1) x5_2)) = false:=decide_eq_false c11
           clear c11
           have H':=zA H
           clear H;have hcz20_0:=zc (.slice A0_0 l0_0.length c0_0) BK143 0 rfl;have hcz20_1:=zc (.slice A0_1 l0_1.length c0_1) BK143 1 rfl;have hfz20_0:=blk_frozen BK143.out 0;have hfz20_1:=blk_frozen BK143.out 1;have p147 : 0 ≤ (x4_1 : Int):=zXb ze;have q147 : x4_1 < (l0_1.length : Int):=zXb ze;obtain ⟨ad147,A147_1,c147_1,e147,hx147_0,hx147_1,hl147_1,hi147_1⟩:=at_T38 HR0_1.out x4_1 p147 q147
           cases e147
           replace hx147_0:=(HB.out.cell (World.block_lt_of_cell? w _ hx147_0)).trans hx147_0;replace hx147_1:=(HB.out.cell (World.block_lt_of_cell? w _ hx147_1)).trans hx147_1;have HR147_1:=zA hi147_1;have HC147_1:=zA hl147_1;clear hi147_1 hl147_1;replace p147:=eq_true p147;replace q147:=eq_true q147;have p148 : 0 ≤ (x4_1 : Int):=zXb ze;have q148 : x4_1 < (l0_1.length : Int):=zXb ze;obtain ⟨ad148,A148_1,c148_1,e148,hx148_0,hx148_1,hl148_1,hi148_1⟩:=at_T38 HR0_1.out x4_1 p148 q148
           obtain rfl : ad147 = ad148:=(by injection e148)
           replace hx148_0:=(HB.out.cell (World.block_lt_of_cell? w _ hx148_0)).trans hx148_0;replace hx148_1:=(HB.out.cell (World.block_lt_of_cell? w _ hx148_1)).trans hx148_1;have HR148_1:=zA hi148_1;have HC148_1:=zA hl148_1;clear hi148_1 hl148_1;replace p148:=eq_true p148;replace q148:=eq_true q148;have ea_:=Option.some.inj (hx147_1.symm.trans hx148_1)
           injection ea_ with ea_ en_ ec_
           subst ea_
           subst ec_
           clear en_;have p149 : 0 ≤ (x5_2 : Int):=zXb ze;have q149 : x5_2 < (((rd_T38 l0_1 x4_1).f1).length : Int):=zXb ze;obtain ⟨ad149,e149,hx149_0⟩:=Kd.at_int HR148_1.out x5_2 p149 q149
           cases e149
           replace hx149_0:=(HB.out.cell (World.block_lt_of_cell? w _ hx149_0)).trans hx149_0;replace p149:=eq_true p149;replace q149:=eq_true q149
           go_wp2
           go_roundg k2
           case measure => have:=HK1.out;have:=HK2.out;omega
           case rel => exact ⟨(x3_2),(wrap64 (x5_2 + 1)),za,H',⟨by have:=HK1.out;have:=HK2.out;omega⟩,⟨zq HO_3⟩,⟨zx BK143⟩,⟨zz HB⟩⟩
         ·
          rw [if_neg c10] at H
          exact absurd H (by simp)
        ·
         rw [if_neg c9] at H;have c9b0:=decide_eq_false c9;clear c9
         have H':=zA H
         clear H;have hcz21_0:=zc (.slice A0_0 l0_0.length c0_0) BK143 0 rfl;have hcz21_1:=zc (.slice A0_1 l0_1.length c0_1) BK143 1 rfl;have hfz21_0:=blk_frozen BK143.out 0;have hfz21_1:=blk_frozen BK143.out 1;have p147 : 0 ≤ (x4_1 : Int):=zXb ze;have q147 : x4_1 < (l0_1.length : Int):=zXb ze;obtain ⟨ad147,A147_1,c147_1,e147,hx147_0,hx147_1,hl147_1,hi147_1⟩:=at_T38 HR0_1.out x4_1 p147 q147
         cases e147
         replace hx147_0:=(HB.out.cell (World.block_lt_of_cell? w _ hx147_0)).trans hx147_0;replace hx147_1:=(HB.out.cell (World.block_lt_of_cell? w _ hx147_1)).trans hx147_1;have HR147_1:=zA hi147_1;have HC147_1:=zA hl147_1;clear hi147_1 hl147_1;replace p147:=eq_true p147;replace q147:=eq_true q147
         go_wp2
         go_roundg k2
         case measure => have:=HK1.out;have:=HK2.out;omega
         case rel => exact ⟨(x3_2),(wrap64 (x4_1 + 1)),za,H',⟨by have:=HK1.out;have:=HK2.out;omega⟩,⟨zq HO_3⟩,⟨zx BK143⟩,⟨zz HB⟩⟩
       ·
        rw [if_neg c8] at H
        exact absurd H (by simp)
      ·
       rw [if_neg c7] at H
       exact absurd H (by simp)
   ·
    rw [if_neg c5] at H;have c5b0:=decide_eq_false c5;clear c5
    obtain rfl:=Option.some.inj H
    have hcz22_0:=zc (.slice A0_0 l0_0.length c0_0) BK143 0 rfl;have hcz22_1:=zc (.slice A0_1 l0_1.length c0_1) BK143 1 rfl;have hfz22_0:=blk_frozen BK143.out 0;have hfz22_1:=blk_frozen BK143.out 1
    go_wp2
    go_ret
    exact ⟨_,by first|rfl|(simp [errW_none,errW_some] <;> rfl)|(simp [*,errW_none,errW_some] <;> rfl),zq HO_3,zz HB⟩

/-! ### spec_IsSchema: function 101 -/
def spec_IsSchema.l0 : Nat → Int → List Int → Option (Bool)
 | 0, _, _ => none
 | k + 1, x3, x155000 => if x3 < (x155000.length : Int) then (if 0 ≤ x3 then ((spec_l1In.f (rd x155000 x3) 1 3).bind fun t156 => (if t156 = true then (spec_IsSchema.l0 k (wrap64 (x3 + 1)) x155000) else (some false))) else (none)) else ((spec_l1In.f (x155000.length : Int) 1 4).bind fun t157 => (some t157))
def spec_IsSchema.f (k : Nat) (l0_0 : List Int) : Option (Bool) := spec_IsSchema.l0 k 0 l0_0
theorem spec_IsSchema.mono_l : ∀ k, (∀ y0 y1, LeO (spec_IsSchema.l0 k y0 y1) (spec_IsSchema.l0 (k + 1) y0 y1))
 | 0 => fun _ _ r h => by simp [spec_IsSchema.l0] at h
 | k + 1 => by
  have ih0:=spec_IsSchema.mono_l k
  ·
   intro y0 y1
   unfold spec_IsSchema.l0
   repeat' first
   | (with_reducible exact ih0 _ _)
   | (with_reducible exact LeO.refl _)
   | (with_reducible exact LeO.none _)
   | (with_reducible refine LeO.ite ?_ ?_)
   | (with_reducible refine LeO.bind ?_ (fun _ => ?_))
   | exact ih0 _ _
   | exact LeO.none _
   | refine LeO.ite ?_ ?_
   | refine LeO.bind ?_ (fun _ => ?_)
theorem spec_IsSchema.mono : ∀ a0 k, LeO (spec_IsSchema.f k a0) (spec_IsSchema.f (k + 1) a0) := by
 intro a0 k
 have ih0:=spec_IsSchema.mono_l k
 unfold spec_IsSchema.f
 repeat' first
   | (with_reducible exact ih0 _ _)
   | (with_reducible exact LeO.refl _)
   | (with_reducible exact LeO.none _)
   | (with_reducible refine LeO.ite ?_ ?_)
   | (with_reducible refine LeO.bind ?_ (fun _ => ?_))
   | exact ih0 _ _
   | exact LeO.none _
   | refine LeO.ite ?_ ?_
   | refine LeO.bind ?_ (fun _ => ?_)
set_option maxHeartbeats 8000000 in
set_option maxRecDepth 100000 in
theorem spec_IsSchema.calls (k : Nat) (A0_0 : Option Addr) (c0_0 : Nat) (l0_0 : List Int) (r : Bool) (w : World) (hr0_0 : Kd.C (Kd.int .i64) w A0_0 l0_0.length l0_0) (hc0_0 : l0_0.length ≤ c0_0) (h : spec_IsSchema.f k l0_0 = some r) :
  Calls Try.prog 101 #[.agg #[.slice A0_0 l0_0.length c0_0]] w fun e w' => e = .returned (.bool r) ∧ Below w.heap.size w w' := by
 have hu61:=Try.underlying61;have HR0_0:=zA hr0_0;have HC0_0:=zA hc0_0;clear hr0_0 hc0_0;have HB:=zA (Below.refl w.heap.size w)
 have H : (spec_IsSchema.l0 k 0 l0_0) = some r:=h
 clear h
 have H':=zA H
 clear H
 go_enter Try.func101,Try.ntmps101
 go_wp2_with (first|((with_reducible refine gate_dst (N:=1) rfl ?_);refine box_event ?hg (N:=1) ?hd (cs:=#[.slice A0_0 l0_0.length c0_0]) (t:=61) ?hr ?_;(case hd => rfl);(case hg => rfl);(case hr => first|(go_simp;done)|(go_simp;rfl));intro gb154 hg w2 hbox hb;have BK154:=zA (hbox);have GW154:=zA ((by rw [hg];exact (zT (zz HB)) : w.heap.size ≤ gb154));have GE154:=zA ((by rw [hg];exact (zT (zz HB)) : w.heap.size ≤ gb154));replace HB:=zA (zJb (zz HB) hb);clear hb hbox hg))
 go_loopg [3] k (fun kq v3 w' => ∃ (x3_1 : Int),v3 = .int .i64 x3_1 ∧ Aside0 (spec_IsSchema.l0 kq x3_1 l0_0 = some r) ∧ Aside0 (kq ≤ k) ∧ Aside0 (w'.heap[gb154]? = some (.cells #[(.slice A0_0 l0_0.length c0_0)] 61 (0,0))) ∧ Aside0 (Below w.heap.size w w'))
 case atStart => exact ⟨(0),za,H',⟨Nat.le_refl _⟩,⟨zx BK154⟩,⟨zz HB⟩⟩
 case round =>
  clear H';(try clear c1);(try clear p2);obtain ⟨x3_1,rfl,HA,HK1,BK154,HB⟩:=hrel
  cases gk with
  | zero => exact absurd HA.out (by simp [spec_IsSchema.l0])
  | succ k1 =>
   have H:=HA.out;clear HA;simp only [spec_IsSchema.l0] at H
   by_cases c3 : x3_1 < (l0_0.length : Int)
   ·
    rw [if_pos c3] at H;have c3b0:=decide_eq_true c3;clear c3
    by_cases c4 : 0 ≤ x3_1
    ·
     rw [if_pos c4] at H;have c4b0:=decide_eq_true c4;clear c4;replace H:=Option.bind_eq_some_iff.mp H;obtain ⟨t156,A50,H⟩:=H;(try dsimp only at H);have A5:=zA A50;clear A50
     by_cases c6 : t156 = true
     ·
      subst c6
      rw [if_pos rfl] at H
      have H':=zA H
      clear H;have hcz7_0:=zc (.slice A0_0 l0_0.length c0_0) BK154 0 rfl;have hfz7_0:=blk_frozen BK154.out 0;have p155 : 0 ≤ (x3_1 : Int):=zXb ze;have q155 : x3_1 < (l0_0.length : Int):=zXb ze;obtain ⟨ad155,e155,hx155_0⟩:=Kd.at_int HR0_0.out x3_1 p155 q155
      cases e155
      replace hx155_0:=(HB.out.cell (World.block_lt_of_cell? w _ hx155_0)).trans hx155_0;replace p155:=eq_true p155;replace q155:=eq_true q155
      go_wp2_with (first|((with_reducible refine gate_callee (f:=84) rfl ?_);refine goesL_ (some 16) rfl rfl Try.func84 (by kernel_rfl) rfl #[.int .i64 (rd l0_0 x3_1),.int .i64 1,.int .i64 3] rfl (by (try simp only [zCb,zMb,zNb]);first|done|rfl|(simp only [zLb,zDb];rfl)) ?_;(with_reducible refine (spec_l1In.calls (rd l0_0 x3_1) 1 3 true _ A5.out).mono ?_);rintro e w' ⟨rfl,⟨nd,rfl⟩⟩;refine ⟨_,rfl,?_⟩))
      go_roundg k1
      case measure => have:=HK1.out;omega
      case rel => exact ⟨(wrap64 (x3_1 + 1)),za,H',⟨by have:=HK1.out;omega⟩,⟨zx BK154⟩,⟨zz HB⟩⟩
     ·
      replace c6:=Bool.eq_false_iff.mpr c6
      subst c6
      have H1 : (some false) = some r:=by rw [if_neg (show ¬ (false = true) by decide)] at H;exact H
      clear H;have H:=H1;clear H1
      obtain rfl:=Option.some.inj H
      have hcz8_0:=zc (.slice A0_0 l0_0.length c0_0) BK154 0 rfl;have hfz8_0:=blk_frozen BK154.out 0;have p155 : 0 ≤ (x3_1 : Int):=zXb ze;have q155 : x3_1 < (l0_0.length : Int):=zXb ze;obtain ⟨ad155,e155,hx155_0⟩:=Kd.at_int HR0_0.out x3_1 p155 q155
      cases e155
      replace hx155_0:=(HB.out.cell (World.block_lt_of_cell? w _ hx155_0)).trans hx155_0;replace p155:=eq_true p155;replace q155:=eq_true q155
      go_wp2_with (first|((with_reducible refine gate_callee (f:=84) rfl ?_);refine goesL_ (some 16) rfl rfl Try.func84 (by kernel_rfl) rfl #[.int .i64 (rd l0_0 x3_1),.int .i64 1,.int .i64 3] rfl (by (try simp only [zCb,zMb,zNb]);first|done|rfl|(simp only [zLb,zDb];rfl)) ?_;(with_reducible refine (spec_l1In.calls (rd l0_0 x3_1) 1 3 false _ A5.out).mono ?_);rintro e w' ⟨rfl,⟨nd,rfl⟩⟩;refine ⟨_,rfl,?_⟩))
      go_ret
      exact ⟨by first|rfl|(simp [errW_none,errW_some] <;> rfl)|(simp [*,errW_none,errW_some] <;> rfl),zz HB⟩
    ·
     rw [if_neg c4] at H
     exact absurd H (by simp)
   ·
    rw [if_neg c3] at H;have c3b0:=decide_eq_false c3;clear c3;replace H:=Option.bind_eq_some_iff.mp H;obtain ⟨t157,A90,H⟩:=H;(try dsimp only at H);have A9:=zA A90;clear A90
    obtain rfl:=Option.some.inj H
    have hcz10_0:=zc (.slice A0_0 l0_0.length c0_0) BK154 0 rfl;have hfz10_0:=blk_frozen BK154.out 0
    go_wp2_with (first|((with_reducible refine gate_callee (f:=84) rfl ?_);refine goesL_ (some 21) rfl rfl Try.func84 (by kernel_rfl) rfl #[.int .i64 (l0_0.length : Int),.int .i64 1,.int .i64 4] rfl (by (try simp only [zCb,zMb,zNb]);first|done|rfl|(simp only [zLb,zDb];rfl)) ?_;(with_reducible refine (spec_l1In.calls (l0_0.length : Int) 1 4 t157 _ A9.out).mono ?_);rintro e w' ⟨rfl,⟨nd,rfl⟩⟩;refine ⟨_,rfl,?_⟩))
    go_ret
    exact ⟨by first|rfl|(simp [errW_none,errW_some] <;> rfl)|(simp [*,errW_none,errW_some] <;> rfl),zz HB⟩

end Go.Proofs.Ytpfpappamlgnoaa.QFnExactParseQuery
