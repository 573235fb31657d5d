/- Walks through the Go functions that FnExactIsAnswer reaches: each call returns what the Lean function beside it says, within the bounds that the theorem names. -/
import Derived.Test.YtfelabhakgcifaaQFnExactIsAnswerx0
import Derived.Test.YtfelabhakgcifaaQFnExactIsAnswerx11
namespace Go.Proofs.Ytfelabhakgcifaa.QFnExactIsAnswer
open Go.RowKit Go.Proofs.YtfelabhakgcifaaW.PrintWords Go.Proofs.YtfelabhakgcifaaW.PrintLast Go.Proofs.YtfelabhakgcifaaW.PrintMore
attribute [local go_sem] max2_int min2_int max_two min_two max_three min_three max_four min_four   -- for this text's walks alone
set_option linter.unusedVariables false
set_option linter.unusedSimpArgs false


/-! ### spec_IsQuery: function 69 -/
def spec_IsQuery.f (k : Nat) (l0_0 : List Int) (l1_0 : List Int) (l1_1 : List (S115)) : Option (Bool) := (spec_l4Fine.f k l0_0 l1_0 l1_1 4).bind fun t254 => (some t254)
theorem spec_IsQuery.mono : ∀ a0 a1 a2 k, LeO (spec_IsQuery.f k a0 a1 a2) (spec_IsQuery.f (k + 1) a0 a1 a2) := by
 intro a0 a1 a2 k
 unfold spec_IsQuery.f
 repeat' first
   | (with_reducible exact spec_l4Fine.mono _ _ _ _ _)
   | (with_reducible exact LeO.refl _)
   | (with_reducible exact LeO.none _)
   | (with_reducible refine LeO.ite ?_ ?_)
   | (with_reducible refine LeO.bind ?_ (fun _ => ?_))
   | exact LeO.none _
   | refine LeO.ite ?_ ?_
   | refine LeO.bind ?_ (fun _ => ?_)
set_option maxHeartbeats 8000000 in
set_option maxRecDepth 100000 in
theorem spec_IsQuery.calls (k : Nat) (A0_0 : Option Addr) (c0_0 : Nat) (l0_0 : List Int) (A1_0 : Option Addr) (c1_0 : Nat) (l1_0 : List Int) (A1_1 : Option Addr) (c1_1 : Nat) (l1_1 : List (S115)) (r : Bool) (w : World) (hr0_0 : Kd.C (Kd.int .i64) w A0_0 l0_0.length l0_0) (hc0_0 : l0_0.length ≤ c0_0) (hr1_0 : Kd.C (Kd.int .i64) w A1_0 l1_0.length l1_0) (hc1_0 : l1_0.length ≤ c1_0) (hr1_1 : Kd.C k115 w A1_1 l1_1.length l1_1) (hc1_1 : l1_1.length ≤ c1_1) (h : spec_IsQuery.f k l0_0 l1_0 l1_1 = some r) :
  Calls Try.prog 69 #[.agg #[.slice A0_0 l0_0.length c0_0], .agg #[.slice A1_0 l1_0.length c1_0, .slice A1_1 l1_1.length c1_1]] w fun e w' => e = .returned (.bool r) ∧ Below w.heap.size w w' := by
 have hu34:=Try.underlying34;have hu61:=Try.underlying61;have HR0_0:=zA hr0_0;have HC0_0:=zA hc0_0;clear hr0_0 hc0_0;have HR1_0:=zA hr1_0;have HC1_0:=zA hc1_0;clear hr1_0 hc1_0;have HR1_1:=zA hr1_1;have HC1_1:=zA hc1_1;clear hr1_1 hc1_1;have HB:=zA (Below.refl w.heap.size w)
 have H : ((spec_l4Fine.f k l0_0 l1_0 l1_1 4).bind fun t254 => (some t254)) = some r:=h
 clear h;replace H:=Option.bind_eq_some_iff.mp H;obtain ⟨t254,A30,H⟩:=H;(try dsimp only at H);have A3:=zA A30;clear A30
 obtain rfl:=Option.some.inj H
 go_enter Try.func69,Try.ntmps69
 go_wp2_with (first|((with_reducible refine gate_dst (N:=2) rfl ?_);refine box_event ?hg (N:=2) ?hd (cs:=#[.slice A0_0 l0_0.length c0_0]) (t:=34) ?hr ?_;(case hd => rfl);(case hg => rfl);(case hr => first|(go_simp;done)|(go_simp;rfl));intro gb252 hg w4 hbox hb;have BK252:=zA (hbox);have GW252:=zA ((by rw [hg];exact (zT (zz HB)) : w.heap.size ≤ gb252));have GE252:=zA ((by rw [hg];exact (zT (zz HB)) : w.heap.size ≤ gb252));replace HB:=zA (zJb (zz HB) hb);clear hb hbox hg)|((with_reducible refine gate_dst (N:=3) rfl ?_);refine box_event ?hg (N:=3) ?hd (cs:=#[.slice A1_0 l1_0.length c1_0,.slice A1_1 l1_1.length c1_1]) (t:=61) ?hr ?_;(case hd => rfl);(case hg => rfl);(case hr => first|(go_simp;done)|(go_simp;rfl));intro gb253 hg w5 hbox hb;have BK253:=zA (hbox);have GW253:=zA ((by rw [hg];exact (zT (zz HB)) : w.heap.size ≤ gb253));have GE253:=zA ((by rw [hg];exact (zT (zz HB)) : w.heap.size ≤ gb253));replace HB:=zA (zJb (zz HB) hb);have NB252_253:=zA ((by rw [hg];exact Nat.ne_of_lt (blk_lt (g:=gb252) (o:=.cells #[.slice A0_0 l0_0.length c0_0] 34 (0,0)) (zx BK252)) : gb252 ≠ gb253));have NB253_252:=zA ((by rw [hg];exact Nat.ne_of_gt (blk_lt (g:=gb252) (o:=.cells #[.slice A0_0 l0_0.length c0_0] 34 (0,0)) (zx BK252)) : gb253 ≠ gb252));replace BK252:=zA (zQ (g:=gb252) (o:=.cells #[.slice A0_0 l0_0.length c0_0] 34 (0,0)) (zx BK252) hb);clear hb hbox hg;have hnb6:=NB252_253.out;have hnc6:=NB253_252.out;have hcz7_0:=zc (.slice A0_0 l0_0.length c0_0) BK252 0 rfl;have hfz7_0:=blk_frozen BK252.out 0;have hcz8_0:=zc (.slice A1_0 l1_0.length c1_0) BK253 0 rfl;have hcz8_1:=zc (.slice A1_1 l1_1.length c1_1) BK253 1 rfl;have hfz8_0:=blk_frozen BK253.out 0;have hfz8_1:=blk_frozen BK253.out 1)|((with_reducible refine gate_callee (f:=96) rfl ?_);refine goesL_ (some 7) rfl rfl Try.func96 (by kernel_rfl) rfl #[.agg #[.slice A0_0 l0_0.length c0_0],.agg #[.slice A1_0 l1_0.length c1_0,.slice A1_1 l1_1.length c1_1],.int .i64 4] rfl (by (try simp only [zCb,zMb,zNb]);first|done|rfl|(simp only [zLb,zDb];rfl)) ?_;(with_reducible refine (spec_l4Fine.calls k _ _ l0_0 _ _ l1_0 _ _ l1_1 4 t254 _ ?side1 ?side2 ?side3 ?side4 ?side5 ?side6 A3.out).mono ?_);(case side1 => exact zsd HR0_0 HB);(case side2 => exact HC0_0.out);(case side3 => exact zsd HR1_0 HB);(case side4 => exact HC1_0.out);(case side5 => exact zsd HR1_1 HB);(case side6 => exact HC1_1.out);rintro e w9 ⟨rfl,hb⟩;refine ⟨_,rfl,?_⟩;replace BK252:=zA (zQ (g:=gb252) (o:=.cells #[.slice A0_0 l0_0.length c0_0] 34 (0,0)) (zx BK252) hb);replace BK253:=zA (zQ (g:=gb253) (o:=.cells #[.slice A1_0 l1_0.length c1_0,.slice A1_1 l1_1.length c1_1] 61 (0,0)) (zx BK253) hb);replace HB:=zA (zJb (zz HB) hb);(try clear hb);(try clear hb2);(try clear hk);(try clear hi)))
 go_ret
 exact ⟨by first|rfl|(simp [errW_none,errW_some] <;> rfl)|(simp [*,errW_none,errW_some] <;> rfl),zz HB⟩

/-! ### spec_l6Bind: function 132 -/
def spec_l6Bind.l0 : Nat → List Int → List Int → List Int → Int → Option (List Int × Bool)
 | 0, _, _, _, _ => none
 | k + 1, x0, x1, x8, x9 => if x9 < (x0.length : Int) then (if 0 ≤ x9 then (if (rd x0 x9) < 0 then (if x9 < (x1.length : Int) then (if (wrap64 ((-1) - (rd x0 x9))) = (rd x1 x9) then (spec_l6Bind.l0 k x0 x1 x8 (wrap64 (x9 + 1))) else (some (x8, false))) else (none)) else (if 0 ≤ (wrap64 (20 + (rd x0 x9))) then (if (wrap64 (20 + (rd x0 x9))) < (x8.length : Int) then (if (rd x8 (wrap64 (20 + (rd x0 x9)))) = 0 then (if x9 < (x1.length : Int) then (if 0 ≤ (rd x0 x9) then (if (rd x0 x9) < (x8.length : Int) then (spec_l6Bind.l0 k x0 x1 ((x8.set ((rd x0 x9) : Int).toNat (rd x1 x9)).set ((wrap64 (20 + (rd x0 x9))) : Int).toNat 1) (wrap64 (x9 + 1))) else (none)) else (none)) else (none)) else (if 0 ≤ (rd x0 x9) then (if (rd x0 x9) < (x8.length : Int) then (if x9 < (x1.length : Int) then (if (rd x8 (rd x0 x9)) = (rd x1 x9) then (spec_l6Bind.l0 k x0 x1 x8 (wrap64 (x9 + 1))) else (some (x8, false))) else (none)) else (none)) else (none))) else (none)) else (none))) else (none)) else (some (x8, true))
def spec_l6Bind.f (k : Nat) (l0 : List Int) (l1 : List Int) (l2 : List Int) : Option (List Int × Bool) := (some (([] : List Int) : List Int)).bind fun y255 => (if y255.length + l2.length < 17592186044416 then (spec_l6Bind.l0 k l0 l1 (y255 ++ l2) 0) else (none))
theorem spec_l6Bind.mono_l : ∀ k, (∀ y0 y1 y2 y3, LeO (spec_l6Bind.l0 k y0 y1 y2 y3) (spec_l6Bind.l0 (k + 1) y0 y1 y2 y3))
 | 0 => fun _ _ _ _ r h => by simp [spec_l6Bind.l0] at h
 | k + 1 => by
  have ih0:=spec_l6Bind.mono_l k
  ·
   intro y0 y1 y2 y3
   unfold spec_l6Bind.l0
   repeat' first
   | (with_reducible exact ih0 _ _ _ _)
   | (with_reducible exact LeO.refl _)
   | (with_reducible exact LeO.none _)
   | (with_reducible refine LeO.ite ?_ ?_)
   | (with_reducible refine LeO.bind ?_ (fun _ => ?_))
   | exact ih0 _ _ _ _
   | exact LeO.none _
   | refine LeO.ite ?_ ?_
   | refine LeO.bind ?_ (fun _ => ?_)
theorem spec_l6Bind.mono : ∀ a0 a1 a2 k, LeO (spec_l6Bind.f k a0 a1 a2) (spec_l6Bind.f (k + 1) a0 a1 a2) := by
 intro a0 a1 a2 k
 have ih0:=spec_l6Bind.mono_l k
 unfold spec_l6Bind.f
 repeat' first
   | (with_reducible exact ih0 _ _ _ _)
   | (with_reducible exact LeO.refl _)
   | (with_reducible exact LeO.none _)
   | (with_reducible refine LeO.ite ?_ ?_)
   | (with_reducible refine LeO.bind ?_ (fun _ => ?_))
   | exact ih0 _ _ _ _
   | exact LeO.none _
   | refine LeO.ite ?_ ?_
   | refine LeO.bind ?_ (fun _ => ?_)
set_option maxHeartbeats 8000000 in
set_option maxRecDepth 100000 in
theorem spec_l6Bind.calls (k : Nat) (A0 : Option Addr) (c0 : Nat) (l0 : List Int) (A1 : Option Addr) (c1 : Nat) (l1 : List Int) (A2 : Option Addr) (c2 : Nat) (l2 : List Int) (r1 : List Int) (r2 : Bool) (w : World) (hr0 : Kd.C (Kd.int .i64) w A0 l0.length l0) (hc0 : l0.length ≤ c0) (hr1 : Kd.C (Kd.int .i64) w A1 l1.length l1) (hc1 : l1.length ≤ c1) (hr2 : Kd.C (Kd.int .i64) w A2 l2.length l2) (hc2 : l2.length ≤ c2) (h : spec_l6Bind.f k l0 l1 l2 = some (r1, r2)) :
  Calls Try.prog 132 #[.slice A0 l0.length c0, .slice A1 l1.length c1, .slice A2 l2.length c2] w fun e w' => ∃ v0_ : Value, e = .returned (.tuple #[v0_, .bool r2]) ∧ Kd.R (Kd.int .i64) 3 w' w.heap.size (fun _ => True) v0_ r1 ∧ Below w.heap.size w w' := by
 have HR0:=zA hr0;have HC0:=zA hc0;clear hr0 hc0;have HR1:=zA hr1;have HC1:=zA hc1;clear hr1 hc1;have HR2:=zA hr2;have HC2:=zA hc2;clear hr2 hc2;have HB:=zA (Below.refl w.heap.size w)
 have H : ((some (([] : List Int) : List Int)).bind fun y255 => (if y255.length + l2.length < 17592186044416 then (spec_l6Bind.l0 k l0 l1 (y255 ++ l2) 0) else (none))) = some (r1,r2):=h
 clear h;obtain ⟨y255,hy255⟩ : ∃ y_ : List Int,y_ = (([] : List Int)):=⟨_,rfl⟩
 replace H : (if y255.length + l2.length < 17592186044416 then (spec_l6Bind.l0 k l0 l1 (y255 ++ l2) 0) else (none)) = some (r1,r2):=by first|(rw [hy255];with_reducible exact H)|(have H2_:=(Option.bind_some _ _).symm.trans H;rw [hy255];with_reducible exact H2_)|(have H2_:=(Option.bind_some _ _).symm.trans H;with_reducible exact H2_)|with_reducible exact H|(rw [hy255];exact H)|exact H
 have Ny255:=zA hy255;clear hy255
 by_cases c4 : y255.length + l2.length < 17592186044416
 ·
  rw [if_pos c4] at H;have LMc4:=zA c4;clear c4;obtain ⟨y258,hy258⟩ : ∃ y_ : List Int,y_ = (y255 ++ l2):=⟨_,rfl⟩
  replace H : (spec_l6Bind.l0 k l0 l1 y258 0) = some (r1,r2):=by first|(rw [hy258];with_reducible exact H)|(have H2_:=(Option.bind_some _ _).symm.trans H;rw [hy258];with_reducible exact H2_)|(have H2_:=(Option.bind_some _ _).symm.trans H;with_reducible exact H2_)|with_reducible exact H|(rw [hy258];exact H)|exact H
  have Ny258:=zA hy258;clear hy258
  have H':=zA H
  clear H
  go_enter Try.func132,Try.ntmps132
  go_wp2_with (first|((with_reducible refine gate_dst (N:=11) rfl ?_);refine Kd.R_lit (Kd.int .i64) _ 3 ?hg (N:=11) ?hd (xs:=([] : List Int)) (inner:=[]) (ok:=fun _ => True) (okp:=fun _ => True) ?hr ?hp (fun _ hk => hk) trivial (Below.refl _ _) (Nat.le_refl _) (by simp) ?_;(case hd => rfl);(case hg => rfl);(case hr => first|(go_simp;done)|(go_simp;rfl));(case hp => exact (Reps.none _ _));intro v256 w5 ho6 hb hg_ hnew_;clear hg_ hnew_;(first|rw [← Ny255.out] at ho6|(simp only [Int.reduceToNat] at ho6;rw [← Ny255.out] at ho6));have HO257:=zA (zHb ho6 (zT (zz HB)));replace HB:=zA (zJb (zz HB) hb);clear hb ho6)|((with_reducible refine gate_builtin (b:=.append) (xs:=#[.tmp 11,.tmp 12]) rfl ?_);at_builtin;refine Kd.R_append_rows (Kd.int .i64) (w0:=w) w.heap.size rfl (.tmp 11) (.tmp 12) 22 3 (.int .i64 0) 8 rfl Try.underlying22 info3 rfl (by decide) (by omega) v256 y255 l2 _ _ _ (fun _ => True) (fun _ => False) rfl rfl ?aO ?aR (fun _ _ h => h) (fun _ h => h.elim) ?aF ?aB ?aS ?aL ?_;(case aR => exact zsd HR2 HB);(case aB => exact (zz HB));(case aF => exact (fun _ _ => trivial));(case aO => exact (zq HO257));(case aS => exact (zT (zz HB)));(case aL => have:=LMc4.out;omega);intro v259 w7 ho hb hg hat;rw [← Ny258.out] at ho;replace HB:=zA (hb);have HO260:=zA (ho);clear HO257;clear ho hb hg hat))
  repeat (go_quiet (first|((with_reducible refine gate_dst (N:=11) rfl ?_);refine Kd.R_lit (Kd.int .i64) _ 3 ?hg (N:=11) ?hd (xs:=([] : List Int)) (inner:=[]) (ok:=fun _ => True) (okp:=fun _ => True) ?hr ?hp (fun _ hk => hk) trivial (Below.refl _ _) (Nat.le_refl _) (by simp) ?_;(case hd => rfl);(case hg => rfl);(case hr => first|(go_simp;done)|(go_simp;rfl));(case hp => exact (Reps.none _ _));intro v256 w5 ho6 hb hg_ hnew_;clear hg_ hnew_;(first|rw [← Ny255.out] at ho6|(simp only [Int.reduceToNat] at ho6;rw [← Ny255.out] at ho6));have HO257:=zA (zHb ho6 (zT (zz HB)));replace HB:=zA (zJb (zz HB) hb);clear hb ho6)|((with_reducible refine gate_builtin (b:=.append) (xs:=#[.tmp 11,.tmp 12]) rfl ?_);at_builtin;refine Kd.R_append_rows (Kd.int .i64) (w0:=w) w.heap.size rfl (.tmp 11) (.tmp 12) 22 3 (.int .i64 0) 8 rfl Try.underlying22 info3 rfl (by decide) (by omega) v256 y255 l2 _ _ _ (fun _ => True) (fun _ => False) rfl rfl ?aO ?aR (fun _ _ h => h) (fun _ h => h.elim) ?aF ?aB ?aS ?aL ?_;(case aR => exact zsd HR2 HB);(case aB => exact (zz HB));(case aF => exact (fun _ _ => trivial));(case aO => exact (zq HO257));(case aS => exact (zT (zz HB)));(case aL => have:=LMc4.out;omega);intro v259 w7 ho hb hg hat;rw [← Ny258.out] at ho;replace HB:=zA (hb);have HO260:=zA (ho);clear HO257;clear ho hb hg hat));try go_wp2_with (first|((with_reducible refine gate_dst (N:=11) rfl ?_);refine Kd.R_lit (Kd.int .i64) _ 3 ?hg (N:=11) ?hd (xs:=([] : List Int)) (inner:=[]) (ok:=fun _ => True) (okp:=fun _ => True) ?hr ?hp (fun _ hk => hk) trivial (Below.refl _ _) (Nat.le_refl _) (by simp) ?_;(case hd => rfl);(case hg => rfl);(case hr => first|(go_simp;done)|(go_simp;rfl));(case hp => exact (Reps.none _ _));intro v256 w5 ho6 hb hg_ hnew_;clear hg_ hnew_;(first|rw [← Ny255.out] at ho6|(simp only [Int.reduceToNat] at ho6;rw [← Ny255.out] at ho6));have HO257:=zA (zHb ho6 (zT (zz HB)));replace HB:=zA (zJb (zz HB) hb);clear hb ho6)|((with_reducible refine gate_builtin (b:=.append) (xs:=#[.tmp 11,.tmp 12]) rfl ?_);at_builtin;refine Kd.R_append_rows (Kd.int .i64) (w0:=w) w.heap.size rfl (.tmp 11) (.tmp 12) 22 3 (.int .i64 0) 8 rfl Try.underlying22 info3 rfl (by decide) (by omega) v256 y255 l2 _ _ _ (fun _ => True) (fun _ => False) rfl rfl ?aO ?aR (fun _ _ h => h) (fun _ h => h.elim) ?aF ?aB ?aS ?aL ?_;(case aR => exact zsd HR2 HB);(case aB => exact (zz HB));(case aF => exact (fun _ _ => trivial));(case aO => exact (zq HO257));(case aS => exact (zT (zz HB)));(case aL => have:=LMc4.out;omega);intro v259 w7 ho hb hg hat;rw [← Ny258.out] at ho;replace HB:=zA (hb);have HO260:=zA (ho);clear HO257;clear ho hb hg hat)))
  go_loopg [9] k (fun kq v9 w' => ∃ (x8_1 : List Int) (x9_1 : Int),v9 = .int .i64 x9_1 ∧ Aside0 (spec_l6Bind.l0 kq l0 l1 x8_1 x9_1 = some (r1,r2)) ∧ Aside0 (kq ≤ k) ∧ Aside0 (Kd.R (Kd.int .i64) 3 w' w.heap.size (fun _ => True) v259 x8_1) ∧ Aside0 (Below w.heap.size w w'))
  case atStart => exact ⟨(y258),(0),za,H',⟨Nat.le_refl _⟩,⟨zq HO260⟩,⟨zz HB⟩⟩
  case round =>
   clear H';(try clear c1);(try clear c2);(try clear p2);(try clear c4);obtain ⟨x8_1,x9_1,rfl,HA,HK1,HO_8,HB⟩:=hrel
   cases gk with
   | zero => exact absurd HA.out (by simp [spec_l6Bind.l0])
   | succ k1 =>
    have H:=HA.out;clear HA;simp only [spec_l6Bind.l0] at H
    by_cases c8 : x9_1 < (l0.length : Int)
    ·
     rw [if_pos c8] at H;have c8b0:=decide_eq_true c8;clear c8
     by_cases c9 : 0 ≤ x9_1
     ·
      rw [if_pos c9] at H;have c9b0:=decide_eq_true c9;clear c9
      by_cases c10 : (rd l0 x9_1) < 0
      ·
       rw [if_pos c10] at H;have c10b0:=decide_eq_true c10;clear c10
       by_cases c11 : x9_1 < (l1.length : Int)
       ·
        rw [if_pos c11] at H;have c11b0:=decide_eq_true c11;clear c11
        by_cases c12 : (wrap64 ((-1) - (rd l0 x9_1))) = (rd l1 x9_1)
        ·
         rw [if_pos c12] at H;have c12b0:=beq_iff_eq.mpr c12;have c12b1:=bne_eq_false_iff_eq.mpr c12;clear c12
         have H':=zA H
         clear H;have p261 : 0 ≤ (x9_1 : Int):=zXb ze;have q261 : x9_1 < (l0.length : Int):=zXb ze;obtain ⟨ad261,e261,hx261_0⟩:=Kd.at_int HR0.out x9_1 p261 q261
         cases e261
         replace hx261_0:=(HB.out.cell (World.block_lt_of_cell? w _ hx261_0)).trans hx261_0;replace p261:=eq_true p261;replace q261:=eq_true q261;have p262 : 0 ≤ (x9_1 : Int):=zXb ze;have q262 : x9_1 < (l1.length : Int):=zXb ze;obtain ⟨ad262,e262,hx262_0⟩:=Kd.at_int HR1.out x9_1 p262 q262
         cases e262
         replace hx262_0:=(HB.out.cell (World.block_lt_of_cell? w _ hx262_0)).trans hx262_0;replace p262:=eq_true p262;replace q262:=eq_true q262
         go_wp2
         repeat (go_quiet (fail);try go_wp2)
         go_roundg k1
         case measure => have:=HK1.out;omega
         case rel => exact ⟨(x8_1),(wrap64 (x9_1 + 1)),za,H',⟨by have:=HK1.out;omega⟩,⟨zq HO_8⟩,⟨zz HB⟩⟩
        ·
         rw [if_neg c12] at H;have c12b0:=beq_eq_false_iff_ne.mpr c12;have c12b1:=bne_iff_ne.mpr c12;simp only [Option.some.injEq,Prod.mk.injEq] at H;obtain ⟨rfl,rfl⟩:=H;have p261 : 0 ≤ (x9_1 : Int):=zXb ze;have q261 : x9_1 < (l0.length : Int):=zXb ze;obtain ⟨ad261,e261,hx261_0⟩:=Kd.at_int HR0.out x9_1 p261 q261
         cases e261
         replace hx261_0:=(HB.out.cell (World.block_lt_of_cell? w _ hx261_0)).trans hx261_0;replace p261:=eq_true p261;replace q261:=eq_true q261;have p262 : 0 ≤ (x9_1 : Int):=zXb ze;have q262 : x9_1 < (l1.length : Int):=zXb ze;obtain ⟨ad262,e262,hx262_0⟩:=Kd.at_int HR1.out x9_1 p262 q262
         cases e262
         replace hx262_0:=(HB.out.cell (World.block_lt_of_cell? w _ hx262_0)).trans hx262_0;replace p262:=eq_true p262;replace q262:=eq_true q262
         go_wp2
         repeat (go_quiet (fail);try go_wp2)
         go_ret2
         exact ⟨_,by first|rfl|(simp [errW_none,errW_some] <;> rfl)|(simp [*,errW_none,errW_some] <;> rfl),zq HO_8,zz HB⟩
       ·
        rw [if_neg c11] at H
        exact absurd H (by simp)
      ·
       rw [if_neg c10] at H;have c10b0:=decide_eq_false c10;clear c10;obtain ⟨ji13,hji13⟩ : ∃ j_ : Int,(wrap64 (20 + (rd l0 x9_1))) = j_:=⟨_,rfl⟩
       replace H : (if 0 ≤ (ji13) then (if (ji13) < (x8_1.length : Int) then (if (rd x8_1 (ji13)) = 0 then (if x9_1 < (l1.length : Int) then (if 0 ≤ (rd l0 x9_1) then (if (rd l0 x9_1) < (x8_1.length : Int) then (spec_l6Bind.l0 k1 l0 l1 ((x8_1.set ((rd l0 x9_1) : Int).toNat (rd l1 x9_1)).set ((ji13) : Int).toNat 1) (wrap64 (x9_1 + 1))) else (none)) else (none)) else (none)) else (if 0 ≤ (rd l0 x9_1) then (if (rd l0 x9_1) < (x8_1.length : Int) then (if x9_1 < (l1.length : Int) then (if (rd x8_1 (rd l0 x9_1)) = (rd l1 x9_1) then (spec_l6Bind.l0 k1 l0 l1 x8_1 (wrap64 (x9_1 + 1))) else (some (x8_1,false))) else (none)) else (none)) else (none))) else (none)) else (none)) = some (r1,r2):=by first|(rw [hji13] at H;exact H)|(simp only [hji13] at H ⊢;exact H)
       have hji13w : (IntKind.i64.wrap (20 + (rd l0 x9_1))) = ji13:=(i64_w _).trans hji13
       by_cases c14 : 0 ≤ (ji13)
       ·
        rw [if_pos c14] at H;have c14b0:=decide_eq_true c14;clear c14
        by_cases c15 : (ji13) < (x8_1.length : Int)
        ·
         rw [if_pos c15] at H;have c15b0:=decide_eq_true c15;clear c15
         by_cases c16 : (rd x8_1 (ji13)) = 0
         ·
          rw [if_pos c16] at H;have c16b0:=beq_iff_eq.mpr c16;have c16b1:=bne_eq_false_iff_eq.mpr c16;clear c16
          by_cases c17 : x9_1 < (l1.length : Int)
          ·
           rw [if_pos c17] at H;have c17b0:=decide_eq_true c17;clear c17
           by_cases c18 : 0 ≤ (rd l0 x9_1)
           ·
            rw [if_pos c18] at H;have c18b0:=decide_eq_true c18;clear c18
            by_cases c19 : (rd l0 x9_1) < (x8_1.length : Int)
            ·
             rw [if_pos c19] at H;have c19b0:=decide_eq_true c19;clear c19;obtain ⟨y265,hy265⟩ : ∃ y_ : List Int,y_ = (x8_1.set ((rd l0 x9_1) : Int).toNat (rd l1 x9_1)):=⟨_,rfl⟩
             replace H : (spec_l6Bind.l0 k1 l0 l1 (y265.set ((ji13) : Int).toNat 1) (wrap64 (x9_1 + 1))) = some (r1,r2):=by first|(rw [hy265];with_reducible exact H)|(have H2_:=(Option.bind_some _ _).symm.trans H;rw [hy265];with_reducible exact H2_)|(have H2_:=(Option.bind_some _ _).symm.trans H;with_reducible exact H2_)|with_reducible exact H|(rw [hy265];exact H)|exact H
             have Ny265:=zA hy265;clear hy265;obtain ⟨y266,hy266⟩ : ∃ y_ : List Int,y_ = (y265.set ((ji13) : Int).toNat 1):=⟨_,rfl⟩
             replace H : (spec_l6Bind.l0 k1 l0 l1 y266 (wrap64 (x9_1 + 1))) = some (r1,r2):=by first|(rw [hy266];with_reducible exact H)|(have H2_:=(Option.bind_some _ _).symm.trans H;rw [hy266];with_reducible exact H2_)|(have H2_:=(Option.bind_some _ _).symm.trans H;with_reducible exact H2_)|with_reducible exact H|(rw [hy266];exact H)|exact H
             have Ny266:=zA hy266;clear hy266
             have H':=zA H
             clear H;have p261 : 0 ≤ (x9_1 : Int):=zXb ze;have q261 : x9_1 < (l0.length : Int):=zXb ze;obtain ⟨ad261,e261,hx261_0⟩:=Kd.at_int HR0.out x9_1 p261 q261
             cases e261
             replace hx261_0:=(HB.out.cell (World.block_lt_of_cell? w _ hx261_0)).trans hx261_0;replace p261:=eq_true p261;replace q261:=eq_true q261;obtain ⟨Ao22,co22,eo22⟩:=Kd.R_slice HO_8.out
             subst eo22
             have p263 : 0 ≤ ((ji13) : Int):=zXb ze;have q263 : (ji13) < (x8_1.length : Int):=zXb ze;obtain ⟨ad263,e263,hx263_0⟩:=Kd.at_int (Kd.R_reads' HO_8.out).2.2 (ji13) p263 q263
             cases e263
             replace p263:=eq_true p263;replace q263:=eq_true q263;have p264 : 0 ≤ (x9_1 : Int):=zXb ze;have q264 : x9_1 < (l1.length : Int):=zXb ze;obtain ⟨ad264,e264,hx264_0⟩:=Kd.at_int HR1.out x9_1 p264 q264
             cases e264
             replace hx264_0:=(HB.out.cell (World.block_lt_of_cell? w _ hx264_0)).trans hx264_0;replace p264:=eq_true p264;replace q264:=eq_true q264;have p20 : 0 ≤ ((rd l0 x9_1) : Int):=zXb ze;have q20 : ((rd l0 x9_1) : Int) < ((x8_1.length : Int) : Int):=zXb ze;obtain ⟨go20,co20,eo20,gb20,gl20,cl20,HG20⟩:=Kd.R_form HO_8.out (by omega)
             (first|cases eo20|(injection eo20 with ea_ en_ ec_;(first|subst ea_|(injection ea_ with ea_;subst ea_));subst ec_;clear en_))
             have GB20:=zA gb20;have GG20:=zA HG20;clear gb20 gl20 HG20
             (first|simp only [add_plain] at hx263_0|skip)
             obtain ⟨hx20_0,hf20_0⟩:=Kd.R_celln 0 HO_8.out ((rd l0 x9_1) : Int) p20 q20;replace p20:=eq_true p20;replace q20:=eq_true q20;have HP23:=Kd.R_putg HO_8.out ((rd l0 x9_1) : Int) (rd l1 x9_1)
             go_wp2_with (first|((with_reducible refine gate_store (t:=3) (p:=48) rfl ?_);(try (rw [drewN_self wr];generalize hq_ : World.drewN wr _ = wr;replace HO_8:=zA (Kd.R_at hq_ HO_8.out);replace HB:=zA (below_at hq_ HB.out);clear hq_;(try (have HP23:=Kd.R_putg HO_8.out ((rd l0 x9_1) : Int) (rd l1 x9_1)))));refine store_event (t:=3) (p:=48) (v:=?vo_w24) (w1:=(wr.setCell ⟨go20,((rd l0 x9_1) : Int).toNat,none⟩ (.int .i64 (rd l1 x9_1)))) ?hg ?ho ?hn ?hr ?_;(case ho => rfl);(case hg => rfl);(case hn => rfl);(case hr => first|(go_simp;done)|(go_simp;rfl));intro w24 hw;have hg : wr.grownBy w24 (some go20):=(by rw [hw];exact HP23.2);have hp_ : Kd.R (Kd.int .i64) 3 w24 w.heap.size (fun _ => True) (.slice (some ⟨go20,0,none⟩) x8_1.length co22) y265:=(by rw [hw,Ny265.out];exact HP23.1);clear HP23;replace HO_8:=zA (hp_);replace HB:=zA ((by rw [hw];exact zB (HB.out) GB20.out : Below w.heap.size w w24));clear hg hw hp_;have p21 : 0 ≤ ((ji13) : Int):=zXb ze;have q21 : ((ji13) : Int) < ((x8_1.length : Int) : Int):=zXb ze;obtain ⟨hx21_0,hf21_0⟩:=Kd.R_celln 0 HO_8.out ((ji13) : Int) p21 q21;replace p21:=eq_true p21;replace q21:=eq_true q21;obtain ⟨hy25_,hz25_⟩:=Kd.R_celln 0 HO_8.out ((ji13) : Int) (zXb ze) (zXb ze);have HP25:=Kd.R_putg HO_8.out ((ji13) : Int) 1)|((with_reducible refine gate_store (t:=3) (p:=52) rfl ?_);(try (rw [drewN_self w24];generalize hq_ : World.drewN w24 _ = w24;replace HO_8:=zA (Kd.R_at hq_ HO_8.out);replace HB:=zA (below_at hq_ HB.out);clear hq_;(try (obtain ⟨hy25_,hz25_⟩:=Kd.R_celln 0 HO_8.out ((ji13) : Int) (zXb ze) (zXb ze)));(try (have HP25:=Kd.R_putg HO_8.out ((ji13) : Int) 1))));refine store_event (t:=3) (p:=52) (v:=?vo_w26) (w1:=(w24.setCell ⟨go20,((ji13) : Int).toNat,none⟩ (.int .i64 1))) ?hg ?ho ?hn ?hr ?_;(case ho => rfl);(case hg => rfl);(case hn => rfl);(case hr => first|(go_simp;done)|(go_simp;rfl));intro w26 hw;have hg : w24.grownBy w26 (some go20):=(by rw [hw];exact HP25.2);have hp_ : Kd.R (Kd.int .i64) 3 w26 w.heap.size (fun _ => True) (.slice (some ⟨go20,0,none⟩) x8_1.length co22) y266:=(by rw [hw,Ny266.out];exact HP25.1);clear HP25;replace HO_8:=zA (hp_);replace HB:=zA ((by rw [hw];exact zB (HB.out) GB20.out : Below w.heap.size w w26));clear hg hw hp_))
             repeat (go_quiet (first|((with_reducible refine gate_store (t:=3) (p:=48) rfl ?_);(try (rw [drewN_self wr];generalize hq_ : World.drewN wr _ = wr;replace HO_8:=zA (Kd.R_at hq_ HO_8.out);replace HB:=zA (below_at hq_ HB.out);clear hq_;(try (have HP23:=Kd.R_putg HO_8.out ((rd l0 x9_1) : Int) (rd l1 x9_1)))));refine store_event (t:=3) (p:=48) (v:=?vo_w24) (w1:=(wr.setCell ⟨go20,((rd l0 x9_1) : Int).toNat,none⟩ (.int .i64 (rd l1 x9_1)))) ?hg ?ho ?hn ?hr ?_;(case ho => rfl);(case hg => rfl);(case hn => rfl);(case hr => first|(go_simp;done)|(go_simp;rfl));intro w24 hw;have hg : wr.grownBy w24 (some go20):=(by rw [hw];exact HP23.2);have hp_ : Kd.R (Kd.int .i64) 3 w24 w.heap.size (fun _ => True) (.slice (some ⟨go20,0,none⟩) x8_1.length co22) y265:=(by rw [hw,Ny265.out];exact HP23.1);clear HP23;replace HO_8:=zA (hp_);replace HB:=zA ((by rw [hw];exact zB (HB.out) GB20.out : Below w.heap.size w w24));clear hg hw hp_;have p21 : 0 ≤ ((ji13) : Int):=zXb ze;have q21 : ((ji13) : Int) < ((x8_1.length : Int) : Int):=zXb ze;obtain ⟨hx21_0,hf21_0⟩:=Kd.R_celln 0 HO_8.out ((ji13) : Int) p21 q21;replace p21:=eq_true p21;replace q21:=eq_true q21;obtain ⟨hy25_,hz25_⟩:=Kd.R_celln 0 HO_8.out ((ji13) : Int) (zXb ze) (zXb ze);have HP25:=Kd.R_putg HO_8.out ((ji13) : Int) 1)|((with_reducible refine gate_store (t:=3) (p:=52) rfl ?_);(try (rw [drewN_self w24];generalize hq_ : World.drewN w24 _ = w24;replace HO_8:=zA (Kd.R_at hq_ HO_8.out);replace HB:=zA (below_at hq_ HB.out);clear hq_;(try (obtain ⟨hy25_,hz25_⟩:=Kd.R_celln 0 HO_8.out ((ji13) : Int) (zXb ze) (zXb ze)));(try (have HP25:=Kd.R_putg HO_8.out ((ji13) : Int) 1))));refine store_event (t:=3) (p:=52) (v:=?vo_w26) (w1:=(w24.setCell ⟨go20,((ji13) : Int).toNat,none⟩ (.int .i64 1))) ?hg ?ho ?hn ?hr ?_;(case ho => rfl);(case hg => rfl);(case hn => rfl);(case hr => first|(go_simp;done)|(go_simp;rfl));intro w26 hw;have hg : w24.grownBy w26 (some go20):=(by rw [hw];exact HP25.2);have hp_ : Kd.R (Kd.int .i64) 3 w26 w.heap.size (fun _ => True) (.slice (some ⟨go20,0,none⟩) x8_1.length co22) y266:=(by rw [hw,Ny266.out];exact HP25.1);clear HP25;replace HO_8:=zA (hp_);replace HB:=zA ((by rw [hw];exact zB (HB.out) GB20.out : Below w.heap.size w w26));clear hg hw hp_));try go_wp2_with (first|((with_reducible refine gate_store (t:=3) (p:=48) rfl ?_);(try (rw [drewN_self wr];generalize hq_ : World.drewN wr _ = wr;replace HO_8:=zA (Kd.R_at hq_ HO_8.out);replace HB:=zA (below_at hq_ HB.out);clear hq_;(try (have HP23:=Kd.R_putg HO_8.out ((rd l0 x9_1) : Int) (rd l1 x9_1)))));refine store_event (t:=3) (p:=48) (v:=?vo_w24) (w1:=(wr.setCell ⟨go20,((rd l0 x9_1) : Int).toNat,none⟩ (.int .i64 (rd l1 x9_1)))) ?hg ?ho ?hn ?hr ?_;(case ho => rfl);(case hg => rfl);(case hn => rfl);(case hr => first|(go_simp;done)|(go_simp;rfl));intro w24 hw;have hg : wr.grownBy w24 (some go20):=(by rw [hw];exact HP23.2);have hp_ : Kd.R (Kd.int .i64) 3 w24 w.heap.size (fun _ => True) (.slice (some ⟨go20,0,none⟩) x8_1.length co22) y265:=(by rw [hw,Ny265.out];exact HP23.1);clear HP23;replace HO_8:=zA (hp_);replace HB:=zA ((by rw [hw];exact zB (HB.out) GB20.out : Below w.heap.size w w24));clear hg hw hp_;have p21 : 0 ≤ ((ji13) : Int):=zXb ze;have q21 : ((ji13) : Int) < ((x8_1.length : Int) : Int):=zXb ze;obtain ⟨hx21_0,hf21_0⟩:=Kd.R_celln 0 HO_8.out ((ji13) : Int) p21 q21;replace p21:=eq_true p21;replace q21:=eq_true q21;obtain ⟨hy25_,hz25_⟩:=Kd.R_celln 0 HO_8.out ((ji13) : Int) (zXb ze) (zXb ze);have HP25:=Kd.R_putg HO_8.out ((ji13) : Int) 1)|((with_reducible refine gate_store (t:=3) (p:=52) rfl ?_);(try (rw [drewN_self w24];generalize hq_ : World.drewN w24 _ = w24;replace HO_8:=zA (Kd.R_at hq_ HO_8.out);replace HB:=zA (below_at hq_ HB.out);clear hq_;(try (obtain ⟨hy25_,hz25_⟩:=Kd.R_celln 0 HO_8.out ((ji13) : Int) (zXb ze) (zXb ze)));(try (have HP25:=Kd.R_putg HO_8.out ((ji13) : Int) 1))));refine store_event (t:=3) (p:=52) (v:=?vo_w26) (w1:=(w24.setCell ⟨go20,((ji13) : Int).toNat,none⟩ (.int .i64 1))) ?hg ?ho ?hn ?hr ?_;(case ho => rfl);(case hg => rfl);(case hn => rfl);(case hr => first|(go_simp;done)|(go_simp;rfl));intro w26 hw;have hg : w24.grownBy w26 (some go20):=(by rw [hw];exact HP25.2);have hp_ : Kd.R (Kd.int .i64) 3 w26 w.heap.size (fun _ => True) (.slice (some ⟨go20,0,none⟩) x8_1.length co22) y266:=(by rw [hw,Ny266.out];exact HP25.1);clear HP25;replace HO_8:=zA (hp_);replace HB:=zA ((by rw [hw];exact zB (HB.out) GB20.out : Below w.heap.size w w26));clear hg hw hp_)))
             go_roundg k1
             case measure => have:=HK1.out;omega
             case rel => exact ⟨(y266),(wrap64 (x9_1 + 1)),za,H',⟨by have:=HK1.out;omega⟩,⟨zq HO_8⟩,⟨zz HB⟩⟩
            ·
             rw [if_neg c19] at H
             exact absurd H (by simp)
           ·
            rw [if_neg c18] at H
            exact absurd H (by simp)
          ·
           rw [if_neg c17] at H
           exact absurd H (by simp)
         ·
          rw [if_neg c16] at H;have c16b0:=beq_eq_false_iff_ne.mpr c16;have c16b1:=bne_iff_ne.mpr c16
          by_cases c27 : 0 ≤ (rd l0 x9_1)
          ·
           rw [if_pos c27] at H;have c27b0:=decide_eq_true c27;clear c27
           by_cases c28 : (rd l0 x9_1) < (x8_1.length : Int)
           ·
            rw [if_pos c28] at H;have c28b0:=decide_eq_true c28;clear c28
            by_cases c29 : x9_1 < (l1.length : Int)
            ·
             rw [if_pos c29] at H;have c29b0:=decide_eq_true c29;clear c29
             by_cases c30 : (rd x8_1 (rd l0 x9_1)) = (rd l1 x9_1)
             ·
              rw [if_pos c30] at H;have c30b0:=beq_iff_eq.mpr c30;have c30b1:=bne_eq_false_iff_eq.mpr c30;clear c30
              have H':=zA H
              clear H;have p261 : 0 ≤ (x9_1 : Int):=zXb ze;have q261 : x9_1 < (l0.length : Int):=zXb ze;obtain ⟨ad261,e261,hx261_0⟩:=Kd.at_int HR0.out x9_1 p261 q261
              cases e261
              replace hx261_0:=(HB.out.cell (World.block_lt_of_cell? w _ hx261_0)).trans hx261_0;replace p261:=eq_true p261;replace q261:=eq_true q261;obtain ⟨Ao31,co31,eo31⟩:=Kd.R_slice HO_8.out
              subst eo31
              have p263 : 0 ≤ ((ji13) : Int):=zXb ze;have q263 : (ji13) < (x8_1.length : Int):=zXb ze;obtain ⟨ad263,e263,hx263_0⟩:=Kd.at_int (Kd.R_reads' HO_8.out).2.2 (ji13) p263 q263
              cases e263
              replace p263:=eq_true p263;replace q263:=eq_true q263;have p267 : 0 ≤ ((rd l0 x9_1) : Int):=zXb ze;have q267 : (rd l0 x9_1) < (x8_1.length : Int):=zXb ze;obtain ⟨ad267,e267,hx267_0⟩:=Kd.at_int (Kd.R_reads' HO_8.out).2.2 (rd l0 x9_1) p267 q267
              obtain rfl : ad263 = ad267:=(by injection e267)
              replace p267:=eq_true p267;replace q267:=eq_true q267;have p268 : 0 ≤ (x9_1 : Int):=zXb ze;have q268 : x9_1 < (l1.length : Int):=zXb ze;obtain ⟨ad268,e268,hx268_0⟩:=Kd.at_int HR1.out x9_1 p268 q268
              cases e268
              replace hx268_0:=(HB.out.cell (World.block_lt_of_cell? w _ hx268_0)).trans hx268_0;replace p268:=eq_true p268;replace q268:=eq_true q268
              go_wp2
              repeat (go_quiet (fail);try go_wp2)
              go_roundg k1
              case measure => have:=HK1.out;omega
              case rel => exact ⟨(x8_1),(wrap64 (x9_1 + 1)),za,H',⟨by have:=HK1.out;omega⟩,⟨zq HO_8⟩,⟨zz HB⟩⟩
             ·
              rw [if_neg c30] at H;have c30b0:=beq_eq_false_iff_ne.mpr c30;have c30b1:=bne_iff_ne.mpr c30;simp only [Option.some.injEq,Prod.mk.injEq] at H;obtain ⟨rfl,rfl⟩:=H;have p261 : 0 ≤ (x9_1 : Int):=zXb ze;have q261 : x9_1 < (l0.length : Int):=zXb ze;obtain ⟨ad261,e261,hx261_0⟩:=Kd.at_int HR0.out x9_1 p261 q261
              cases e261
              replace hx261_0:=(HB.out.cell (World.block_lt_of_cell? w _ hx261_0)).trans hx261_0;replace p261:=eq_true p261;replace q261:=eq_true q261;obtain ⟨Ao32,co32,eo32⟩:=Kd.R_slice HO_8.out
              subst eo32
              have p263 : 0 ≤ ((ji13) : Int):=zXb ze;have q263 : (ji13) < (x8_1.length : Int):=zXb ze;obtain ⟨ad263,e263,hx263_0⟩:=Kd.at_int (Kd.R_reads' HO_8.out).2.2 (ji13) p263 q263
              cases e263
              replace p263:=eq_true p263;replace q263:=eq_true q263;have p267 : 0 ≤ ((rd l0 x9_1) : Int):=zXb ze;have q267 : (rd l0 x9_1) < (x8_1.length : Int):=zXb ze;obtain ⟨ad267,e267,hx267_0⟩:=Kd.at_int (Kd.R_reads' HO_8.out).2.2 (rd l0 x9_1) p267 q267
              obtain rfl : ad263 = ad267:=(by injection e267)
              replace p267:=eq_true p267;replace q267:=eq_true q267;have p268 : 0 ≤ (x9_1 : Int):=zXb ze;have q268 : x9_1 < (l1.length : Int):=zXb ze;obtain ⟨ad268,e268,hx268_0⟩:=Kd.at_int HR1.out x9_1 p268 q268
              cases e268
              replace hx268_0:=(HB.out.cell (World.block_lt_of_cell? w _ hx268_0)).trans hx268_0;replace p268:=eq_true p268;replace q268:=eq_true q268
              go_wp2
              repeat (go_quiet (fail);try go_wp2)
              go_ret2
              exact ⟨_,by first|rfl|(simp [errW_none,errW_some] <;> rfl)|(simp only [← hji13];first|rfl|(simp [errW_none,errW_some] <;> rfl))|(simp [*,errW_none,errW_some] <;> rfl),zq HO_8,zz HB⟩
            ·
             rw [if_neg c29] at H
             exact absurd H (by simp)
           ·
            rw [if_neg c28] at H
            exact absurd H (by simp)
          ·
           rw [if_neg c27] at H
           exact absurd H (by simp)
        ·
         rw [if_neg c15] at H
         exact absurd H (by simp)
       ·
        rw [if_neg c14] at H
        exact absurd H (by simp)
     ·
      rw [if_neg c9] at H
      exact absurd H (by simp)
    ·
     rw [if_neg c8] at H;have c8b0:=decide_eq_false c8;clear c8;simp only [Option.some.injEq,Prod.mk.injEq] at H;obtain ⟨rfl,rfl⟩:=H
     go_wp2
     repeat (go_quiet (fail);try go_wp2)
     go_ret2
     exact ⟨_,by first|rfl|(simp [errW_none,errW_some] <;> rfl)|(simp [*,errW_none,errW_some] <;> rfl),zq HO_8,zz HB⟩
 ·
  rw [if_neg c4] at H
  exact absurd H (by simp)

-- NOT PRINTED: function 97 (spec_l6Search)

/-! ### spec_l6Empty: function 98 -/
mutual
def spec_l6Empty.l0 : Nat → List Int → Int → Option (List Int)
 | 0, _, _ => none
 | k + 1, x1, x2 => if x2 < 20 then (if x1.length < 17592186044416 then (spec_l6Empty.l0 k (x1 ++ [(-1)]) (wrap64 (x2 + 1))) else (none)) else (spec_l6Empty.l1 k x1 0)
def spec_l6Empty.l1 : Nat → List Int → Int → Option (List Int)
 | 0, _, _ => none
 | k + 1, x1, x3 => if x3 < 20 then (if x1.length < 17592186044416 then (spec_l6Empty.l1 k (x1 ++ [0]) (wrap64 (x3 + 1))) else (none)) else (some x1)
end
def spec_l6Empty.f (k : Nat)  : Option (List Int) := spec_l6Empty.l0 k (([] : List Int)) 0
theorem spec_l6Empty.mono_l : ∀ k, (∀ y0 y1, LeO (spec_l6Empty.l0 k y0 y1) (spec_l6Empty.l0 (k + 1) y0 y1)) ∧ (∀ y0 y1, LeO (spec_l6Empty.l1 k y0 y1) (spec_l6Empty.l1 (k + 1) y0 y1))
 | 0 => ⟨fun _ _ r h => by simp [spec_l6Empty.l0] at h, fun _ _ r h => by simp [spec_l6Empty.l1] at h⟩
 | k + 1 => by
  obtain ⟨ih0,ih1⟩:=spec_l6Empty.mono_l k
  refine ⟨?_,?_⟩
  (intros;unfold spec_l6Empty.l0;rotate_left)
  (intros;unfold spec_l6Empty.l1;rotate_left)
  all_goals repeat' first
  | (with_reducible exact ih0 _ _)
  | (with_reducible exact ih1 _ _)
  | (with_reducible exact LeO.refl _)
  | (with_reducible exact LeO.none _)
  | (with_reducible refine LeO.ite ?_ ?_)
  | (with_reducible refine LeO.bind ?_ (fun _ => ?_))
  | exact ih0 _ _
  | exact ih1 _ _
  | exact LeO.none _
  | refine LeO.ite ?_ ?_
  | refine LeO.bind ?_ (fun _ => ?_)
theorem spec_l6Empty.mono : ∀ k, LeO (spec_l6Empty.f k ) (spec_l6Empty.f (k + 1) ) := by
 intro  k
 obtain ⟨ih0,ih1⟩:=spec_l6Empty.mono_l k
 unfold spec_l6Empty.f
 repeat' first
   | (with_reducible exact ih0 _ _)
   | (with_reducible exact ih1 _ _)
   | (with_reducible exact LeO.refl _)
   | (with_reducible exact LeO.none _)
   | (with_reducible refine LeO.ite ?_ ?_)
   | (with_reducible refine LeO.bind ?_ (fun _ => ?_))
   | exact ih0 _ _
   | exact ih1 _ _
   | exact LeO.none _
   | refine LeO.ite ?_ ?_
   | refine LeO.bind ?_ (fun _ => ?_)
set_option maxHeartbeats 8000000 in
set_option maxRecDepth 100000 in
theorem spec_l6Empty.calls (k : Nat)  (r : List Int) (w : World) (h : spec_l6Empty.f k  = some r) :
  Calls Try.prog 98 #[] w fun e w' => ∃ v0_ : Value, e = .returned (v0_) ∧ Kd.R (Kd.int .i64) 3 w' w.heap.size (fun _ => True) v0_ r ∧ Below w.heap.size w w' := by
 have HB:=zA (Below.refl w.heap.size w)
 have H : (spec_l6Empty.l0 k (([] : List Int)) 0) = some r:=h
 clear h;obtain ⟨y269,hy269⟩ : ∃ y_ : List Int,y_ = (([] : List Int)):=⟨_,rfl⟩
 replace H : (spec_l6Empty.l0 k y269 0) = some r:=by first|(rw [hy269];with_reducible exact H)|(have H2_:=(Option.bind_some _ _).symm.trans H;rw [hy269];with_reducible exact H2_)|(have H2_:=(Option.bind_some _ _).symm.trans H;with_reducible exact H2_)|with_reducible exact H|(rw [hy269];exact H)|exact H
 have Ny269:=zA hy269;clear hy269
 have H':=zA H
 clear H
 go_enter Try.func98,Try.ntmps98
 go_wp2_with (first|((with_reducible refine gate_dst (N:=4) rfl ?_);refine Kd.R_lit (Kd.int .i64) _ 3 ?hg (N:=4) ?hd (xs:=([] : List Int)) (inner:=[]) (ok:=fun _ => True) (okp:=fun _ => True) ?hr ?hp (fun _ hk => hk) trivial (Below.refl _ _) (Nat.le_refl _) (by simp) ?_;(case hd => rfl);(case hg => rfl);(case hr => first|(go_simp;done)|(go_simp;rfl));(case hp => exact (Reps.none _ _));intro v270 w1 ho2 hb hg_ hnew_;clear hg_ hnew_;(first|rw [← Ny269.out] at ho2|(simp only [Int.reduceToNat] at ho2;rw [← Ny269.out] at ho2));have HO271:=zA (zHb ho2 (zT (zz HB)));replace HB:=zA (zJb (zz HB) hb);clear hb ho2))
 go_loopg [1,2] k (fun kq v1 v2 w' => ∃ (x1_1 : List Int) (x2_1 : Int),v2 = .int .i64 x2_1 ∧ Aside0 (spec_l6Empty.l0 kq x1_1 x2_1 = some r) ∧ Aside0 (kq ≤ k) ∧ Aside0 (Kd.R (Kd.int .i64) 3 w' w.heap.size (fun _ => True) v1 x1_1) ∧ Aside0 (Below w.heap.size w w'))
 case atStart => exact ⟨(y269),(0),za,H',⟨Nat.le_refl _⟩,⟨zq HO271⟩,⟨zz HB⟩⟩
 case round =>
  clear H';(try clear p2);obtain ⟨x1_1,x2_1,rfl,HA,HK1,HO_1,HB⟩:=hrel
  cases gk with
  | zero => exact absurd HA.out (by simp [spec_l6Empty.l0])
  | succ k1 =>
   have H:=HA.out;clear HA;simp only [spec_l6Empty.l0] at H
   by_cases c3 : x2_1 < 20
   ·
    rw [if_pos c3] at H;have c3b0:=decide_eq_true c3;clear c3
    by_cases c4 : x1_1.length < 17592186044416
    ·
     rw [if_pos c4] at H;have LMc4:=zA c4;clear c4;obtain ⟨y272,hy272⟩ : ∃ y_ : List Int,y_ = (x1_1 ++ [(-1)]):=⟨_,rfl⟩
     replace H : (spec_l6Empty.l0 k1 y272 (wrap64 (x2_1 + 1))) = some r:=by first|(rw [hy272];with_reducible exact H)|(have H2_:=(Option.bind_some _ _).symm.trans H;rw [hy272];with_reducible exact H2_)|(have H2_:=(Option.bind_some _ _).symm.trans H;with_reducible exact H2_)|with_reducible exact H|(rw [hy272];exact H)|exact H
     have Ny272:=zA hy272;clear hy272
     have H':=zA H
     clear H
     go_wp2_with (first|((with_reducible refine gate_builtin (b:=.append) (xs:=#[.tmp 9,.tmp 10]) rfl ?_);at_builtin;refine Kd.R_append (Kd.int .i64) (w0:=w) w.heap.size rfl (.tmp 9) (.tmp 10) 22 3 (.int .i64 0) 8 rfl Try.underlying22 info3 rfl (by decide) (by omega) u1 x1_1 (-1) [.int .i64 (-1)] (fun _ => True) (fun _ => False) rfl rfl ?aP (fun _ hk => hk.elim) ?aF ?aO ?aB ?aS ?aL ?_;(case aP => exact rfl);(case aB => exact (zz HB));(case aF => exact (fun _ _ => trivial));(case aO => exact (zq HO_1));(case aS => exact (zT (zz HB)));(case aL => have:=LMc4.out;omega);intro v273 w5 ho hb hg hat;rw [← Ny272.out] at ho;replace HB:=zA (hb);have HO274:=zA (ho);clear HO_1;clear ho hb hg hat))
     go_roundg k1
     case measure => have:=HK1.out;omega
     case rel => exact ⟨(y272),(wrap64 (x2_1 + 1)),za,H',⟨by have:=HK1.out;omega⟩,⟨zq HO274⟩,⟨zz HB⟩⟩
    ·
     rw [if_neg c4] at H
     exact absurd H (by simp)
   ·
    rw [if_neg c3] at H;have c3b0:=decide_eq_false c3;clear c3
    have H':=zA H
    clear H
    go_wp2
    go_loopg [1,3] k1 (fun kq v1 v3 w' => ∃ (x1_2 : List Int) (x3_2 : Int),v3 = .int .i64 x3_2 ∧ Aside0 (spec_l6Empty.l1 kq x1_2 x3_2 = some r) ∧ Aside0 (kq ≤ k1) ∧ Aside0 (Kd.R (Kd.int .i64) 3 w' w.heap.size (fun _ => True) v1 x1_2) ∧ Aside0 (Below w.heap.size w w'))
    case atStart => exact ⟨(x1_1),(0),za,H',⟨Nat.le_refl _⟩,⟨zq HO_1⟩,⟨zz HB⟩⟩
    case round =>
     clear H';(try clear p2);(try clear c3);(try clear c3b0);(try clear c4);(try clear p2);obtain ⟨x1_2,x3_2,rfl,HA,HK2,HO_1,HB⟩:=hrel
     cases gk with
     | zero => exact absurd HA.out (by simp [spec_l6Empty.l1])
     | succ k2 =>
      have H:=HA.out;clear HA;simp only [spec_l6Empty.l1] at H
      by_cases c6 : x3_2 < 20
      ·
       rw [if_pos c6] at H;have c6b0:=decide_eq_true c6;clear c6
       by_cases c7 : x1_2.length < 17592186044416
       ·
        rw [if_pos c7] at H;have LMc7:=zA c7;clear c7;obtain ⟨y275,hy275⟩ : ∃ y_ : List Int,y_ = (x1_2 ++ [0]):=⟨_,rfl⟩
        replace H : (spec_l6Empty.l1 k2 y275 (wrap64 (x3_2 + 1))) = some r:=by first|(rw [hy275];with_reducible exact H)|(have H2_:=(Option.bind_some _ _).symm.trans H;rw [hy275];with_reducible exact H2_)|(have H2_:=(Option.bind_some _ _).symm.trans H;with_reducible exact H2_)|with_reducible exact H|(rw [hy275];exact H)|exact H
        have Ny275:=zA hy275;clear hy275
        have H':=zA H
        clear H
        go_wp2_with (first|((with_reducible refine gate_builtin (b:=.append) (xs:=#[.tmp 16,.tmp 17]) rfl ?_);at_builtin;refine Kd.R_append (Kd.int .i64) (w0:=w) w.heap.size rfl (.tmp 16) (.tmp 17) 22 3 (.int .i64 0) 8 rfl Try.underlying22 info3 rfl (by decide) (by omega) u1 x1_2 0 [.int .i64 0] (fun _ => True) (fun _ => False) rfl rfl ?aP (fun _ hk => hk.elim) ?aF ?aO ?aB ?aS ?aL ?_;(case aP => exact rfl);(case aB => exact (zz HB));(case aF => exact (fun _ _ => trivial));(case aO => exact (zq HO_1));(case aS => exact (zT (zz HB)));(case aL => have:=LMc7.out;omega);intro v276 w8 ho hb hg hat;rw [← Ny275.out] at ho;replace HB:=zA (hb);have HO277:=zA (ho);clear HO_1;clear ho hb hg hat))
        go_roundg k2
        case measure => have:=HK1.out;have:=HK2.out;omega
        case rel => exact ⟨(y275),(wrap64 (x3_2 + 1)),za,H',⟨by have:=HK1.out;have:=HK2.out;omega⟩,⟨zq HO277⟩,⟨zz HB⟩⟩
       ·
        rw [if_neg c7] at H
        exact absurd H (by simp)
      ·
       rw [if_neg c6] at H;have c6b0:=decide_eq_false c6;clear c6
       obtain rfl:=Option.some.inj H
       go_wp2
       go_ret
       exact ⟨_,by first|rfl|(simp [errW_none,errW_some] <;> rfl)|(simp [*,errW_none,errW_some] <;> rfl),zq HO_1,zz HB⟩

end Go.Proofs.Ytfelabhakgcifaa.QFnExactIsAnswer
