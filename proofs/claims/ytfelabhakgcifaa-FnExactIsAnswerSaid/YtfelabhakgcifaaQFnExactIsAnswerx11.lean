/- Walks through the Go functions that FnExactIsAnswer reaches: each call returns what the Lean function beside it says, within the bounds that the theorem names. -/
import Derived.Test.YtfelabhakgcifaaQFnExactIsAnswerx0
import Derived.Test.YtfelabhakgcifaaQFnExactIsAnswerx4
import Derived.Test.YtfelabhakgcifaaQFnExactIsAnswerx8
import Derived.Test.YtfelabhakgcifaaQFnExactIsAnswerx9
import Derived.Test.YtfelabhakgcifaaQFnExactIsAnswerx10
namespace Go.Proofs.Ytfelabhakgcifaa.QFnExactIsAnswer
open Go.RowKit Go.Proofs.YtfelabhakgcifaaW.PrintWords Go.Proofs.YtfelabhakgcifaaW.PrintLast Go.Proofs.YtfelabhakgcifaaW.PrintMore
attribute [local go_sem] max2_int min2_int max_two min_two max_three min_three max_four min_four   -- for this text's walks alone
set_option linter.unusedVariables false
set_option linter.unusedSimpArgs false


/-! ### spec_l4Fine: function 96 -/
mutual
def spec_l4Fine.j0 : Nat → Bool → List Int → List Int → List (S115) → Option (Bool)
 | 0, _, _, _, _ => none
 | k + 1, x25, x239000, x240000, x240001 => if x25 = true then (some false) else (spec_l4Fine.l0 k 0 x239000 x240000 x240001)
def spec_l4Fine.l0 : Nat → Int → List Int → List Int → List (S115) → Option (Bool)
 | 0, _, _, _, _ => none
 | k + 1, x7, x239000, x240000, x240001 => if x7 < (x240001.length : Int) then (if 0 ≤ x7 then ((spec_IsAtom.f k x239000 ((rd_T115 x240001 x7).f0) ((rd_T115 x240001 x7).f1)).bind fun t244 => (if t244 = true then (spec_l4Fine.l0 k (wrap64 (x7 + 1)) x239000 x240000 x240001) else (some false))) else (none)) else (spec_l4Fine.l1 k 0 x240000 x240001)
def spec_l4Fine.l1 : Nat → Int → List Int → List (S115) → Option (Bool)
 | 0, _, _, _ => none
 | k + 1, x8, x240000, x240001 => if x8 < (x240000.length : Int) then (if 0 ≤ x8 then ((spec_IsVar.f (rd x240000 x8)).bind fun t246 => (if t246 = true then ((spec_l4BodyVars.f k x240000 x240001).bind fun t247 => ((spec_l2Has.f k t247 (rd x240000 x8)).bind fun t251 => (if t251 = true then (spec_l4Fine.l1 k (wrap64 (x8 + 1)) x240000 x240001) else (some false)))) else (spec_l4Fine.l1 k (wrap64 (x8 + 1)) x240000 x240001))) else (none)) else (some true)
end
def spec_l4Fine.f (k : Nat) (l0_0 : List Int) (l1_0 : List Int) (l1_1 : List (S115)) (a2 : Int) : Option (Bool) := (spec_IsSchema.f k l0_0).bind fun t240 => (if t240 = true then ((spec_l3Terms.f k l1_0).bind fun t241 => (if t241 = true then ((spec_l1In.f (l1_1.length : Int) 1 a2).bind fun t242 => (spec_l4Fine.j0 k (!t242) l0_0 l1_0 l1_1)) else (spec_l4Fine.j0 k true l0_0 l1_0 l1_1))) else (spec_l4Fine.j0 k true l0_0 l1_0 l1_1))
theorem spec_l4Fine.mono_l : ∀ k, (∀ y0 y1 y2 y3, LeO (spec_l4Fine.j0 k y0 y1 y2 y3) (spec_l4Fine.j0 (k + 1) y0 y1 y2 y3)) ∧ (∀ y0 y1 y2 y3, LeO (spec_l4Fine.l0 k y0 y1 y2 y3) (spec_l4Fine.l0 (k + 1) y0 y1 y2 y3)) ∧ (∀ y0 y1 y2, LeO (spec_l4Fine.l1 k y0 y1 y2) (spec_l4Fine.l1 (k + 1) y0 y1 y2))
 | 0 => ⟨fun _ _ _ _ r h => by simp [spec_l4Fine.j0] at h, fun _ _ _ _ r h => by simp [spec_l4Fine.l0] at h, fun _ _ _ r h => by simp [spec_l4Fine.l1] at h⟩
 | k + 1 => by
  obtain ⟨ih0,ih1,ih2⟩:=spec_l4Fine.mono_l k
  refine ⟨?_,?_,?_⟩
  (intros;unfold spec_l4Fine.j0;rotate_left)
  (intros;unfold spec_l4Fine.l0;rotate_left)
  (intros;unfold spec_l4Fine.l1;rotate_left)
  all_goals repeat' first
  | (with_reducible exact ih0 _ _ _ _)
  | (with_reducible exact ih1 _ _ _ _)
  | (with_reducible exact ih2 _ _ _)
  | (with_reducible exact spec_IsAtom.mono _ _ _ _)
  | (with_reducible exact spec_IsSchema.mono _ _)
  | (with_reducible exact spec_l2Has.mono _ _ _)
  | (with_reducible exact spec_l3Terms.mono _ _)
  | (with_reducible exact spec_l4BodyVars.mono _ _ _)
  | (with_reducible exact LeO.refl _)
  | (with_reducible exact LeO.none _)
  | (with_reducible refine LeO.ite ?_ ?_)
  | (with_reducible refine LeO.bind ?_ (fun _ => ?_))
  | exact ih0 _ _ _ _
  | exact ih1 _ _ _ _
  | exact ih2 _ _ _
  | exact LeO.none _
  | refine LeO.ite ?_ ?_
  | refine LeO.bind ?_ (fun _ => ?_)
theorem spec_l4Fine.mono : ∀ a0 a1 a2 a3 k, LeO (spec_l4Fine.f k a0 a1 a2 a3) (spec_l4Fine.f (k + 1) a0 a1 a2 a3) := by
 intro a0 a1 a2 a3 k
 obtain ⟨ih0,ih1,ih2⟩:=spec_l4Fine.mono_l k
 unfold spec_l4Fine.f
 repeat' first
   | (with_reducible exact ih0 _ _ _ _)
   | (with_reducible exact ih1 _ _ _ _)
   | (with_reducible exact ih2 _ _ _)
   | (with_reducible exact spec_IsAtom.mono _ _ _ _)
   | (with_reducible exact spec_IsSchema.mono _ _)
   | (with_reducible exact spec_l2Has.mono _ _ _)
   | (with_reducible exact spec_l3Terms.mono _ _)
   | (with_reducible exact spec_l4BodyVars.mono _ _ _)
   | (with_reducible exact LeO.refl _)
   | (with_reducible exact LeO.none _)
   | (with_reducible refine LeO.ite ?_ ?_)
   | (with_reducible refine LeO.bind ?_ (fun _ => ?_))
   | exact ih0 _ _ _ _
   | exact ih1 _ _ _ _
   | exact ih2 _ _ _
   | exact LeO.none _
   | refine LeO.ite ?_ ?_
   | refine LeO.bind ?_ (fun _ => ?_)
def spec_l4Fine.T6 : Bool × List (List Nat × List Nat) := (true, [([], []), ([], []), ([1], [1]), ([], []), ([2, 3], [2, 3]), ([4], [4]), ([0, 5], [0, 5]), ([6], [6])])
def spec_l4Fine.B6 : List Nat := [0, 0, 2, 0, 14, 30, 63, 127]
theorem spec_l4Fine.tab6 : rtab .any (opsOf Try.f96 6) = spec_l4Fine.T6 := by kernel_rfl
theorem spec_l4Fine.bits6 : waitsOk spec_l4Fine.T6.2 spec_l4Fine.B6 = true := by kernel_rfl
def spec_l4Fine.T11 : Bool × List (List Nat × List Nat) := (true, [([], []), ([0], [0]), ([], []), ([1, 2], [1, 2]), ([3], [3]), ([4], [4]), ([5, 5], [5]), ([6], [6]), ([7, 6, 6], [6, 7]), ([6], [6]), ([9, 6], [6, 9]), ([6], [6]), ([10, 11, 6], [6, 10, 11]), ([12, 6], [6, 12]), ([8, 13, 8, 6], [6, 8, 13]), ([14, 6], [6, 14]), ([6, 15], [6, 15])])
def spec_l4Fine.B11 : List Nat := [0, 1, 0, 7, 15, 31, 63, 127, 255, 127, 639, 127, 3711, 7807, 16383, 32767, 65535]
theorem spec_l4Fine.tab11 : rtab .any (opsOf Try.f96 11) = spec_l4Fine.T11 := by kernel_rfl
theorem spec_l4Fine.bits11 : waitsOk spec_l4Fine.T11.2 spec_l4Fine.B11 = true := by kernel_rfl
set_option maxHeartbeats 8000000 in
set_option maxRecDepth 100000 in
theorem spec_l4Fine.calls (k : Nat) (A0_0 : Option Addr) (c0_0 : Nat) (l0_0 : List Int) (A1_0 : Option Addr) (c1_0 : Nat) (l1_0 : List Int) (A1_1 : Option Addr) (c1_1 : Nat) (l1_1 : List (S115)) (a2 : Int) (r : Bool) (w : World) (hr0_0 : Kd.C (Kd.int .i64) w A0_0 l0_0.length l0_0) (hc0_0 : l0_0.length ≤ c0_0) (hr1_0 : Kd.C (Kd.int .i64) w A1_0 l1_0.length l1_0) (hc1_0 : l1_0.length ≤ c1_0) (hr1_1 : Kd.C k115 w A1_1 l1_1.length l1_1) (hc1_1 : l1_1.length ≤ c1_1) (h : spec_l4Fine.f k l0_0 l1_0 l1_1 a2 = some r) :
  Calls Try.prog 96 #[.agg #[.slice A0_0 l0_0.length c0_0], .agg #[.slice A1_0 l1_0.length c1_0, .slice A1_1 l1_1.length c1_1], .int .i64 a2] w fun e w' => e = .returned (.bool r) ∧ Below w.heap.size w w' := by
 have hu34:=Try.underlying34;have hu61:=Try.underlying61;have hu115:=Try.underlying115;have HR0_0:=zA hr0_0;have HC0_0:=zA hc0_0;clear hr0_0 hc0_0;have HR1_0:=zA hr1_0;have HC1_0:=zA hc1_0;clear hr1_0 hc1_0;have HR1_1:=zA hr1_1;have HC1_1:=zA hc1_1;clear hr1_1 hc1_1;have HB:=zA (Below.refl w.heap.size w)
 have H : ((spec_IsSchema.f k l0_0).bind fun t240 => (if t240 = true then ((spec_l3Terms.f k l1_0).bind fun t241 => (if t241 = true then ((spec_l1In.f (l1_1.length : Int) 1 a2).bind fun t242 => (spec_l4Fine.j0 k (!t242) l0_0 l1_0 l1_1)) else (spec_l4Fine.j0 k true l0_0 l1_0 l1_1))) else (spec_l4Fine.j0 k true l0_0 l1_0 l1_1))) = some r:=h
 clear h;have HC4:=zA H;clear H
 go_enter Try.func96,Try.ntmps96
 go_upto_region 1 with (first|((with_reducible refine gate_dst (N:=3) rfl ?_);(try (refine gate_guard (by rfl) ?_;dsimp only));refine box_event ?hg (N:=3) ?hd (cs:=#[.slice A0_0 l0_0.length c0_0]) (t:=34) ?hr ?_;(case hd => rfl);(case hg => rfl);(case hr => first|(go_simp;done)|(go_simp;rfl));intro gb238 hg w5 hbox hb;have BK238:=zA (hbox);have GW238:=zA ((by rw [hg];exact (zT (zz HB)) : w.heap.size ≤ gb238));have GE238:=zA ((by rw [hg];exact (zT (zz HB)) : w.heap.size ≤ gb238));replace HB:=zA (zJb (zz HB) hb);clear hb hbox hg)|((with_reducible refine gate_dst (N:=4) rfl ?_);(try (refine gate_guard (by rfl) ?_;dsimp only));refine box_event ?hg (N:=4) ?hd (cs:=#[.slice A1_0 l1_0.length c1_0,.slice A1_1 l1_1.length c1_1]) (t:=61) ?hr ?_;(case hd => rfl);(case hg => rfl);(case hr => first|(go_simp;done)|(go_simp;rfl));intro gb239 hg w6 hbox hb;have BK239:=zA (hbox);have GW239:=zA ((by rw [hg];exact (zT (zz HB)) : w.heap.size ≤ gb239));have GE239:=zA ((by rw [hg];exact (zT (zz HB)) : w.heap.size ≤ gb239));replace HB:=zA (zJb (zz HB) hb);have NB238_239:=zA ((by rw [hg];exact Nat.ne_of_lt (blk_lt (g:=gb238) (o:=.cells #[.slice A0_0 l0_0.length c0_0] 34 (0,0)) (zx BK238)) : gb238 ≠ gb239));have NB239_238:=zA ((by rw [hg];exact Nat.ne_of_gt (blk_lt (g:=gb238) (o:=.cells #[.slice A0_0 l0_0.length c0_0] 34 (0,0)) (zx BK238)) : gb239 ≠ gb238));replace BK238:=zA (zQ (g:=gb238) (o:=.cells #[.slice A0_0 l0_0.length c0_0] 34 (0,0)) (zx BK238) hb);clear hb hbox hg))
 (try simp only [Act.put,zO,zEb,zFb])
 go_cut [25] (fun v25 wc => ∃ (kq : Nat) (x25_3 : Bool),v25 = .bool x25_3 ∧ Aside0 (spec_l4Fine.j0 kq x25_3 l0_0 l1_0 l1_1 = some r) ∧ Aside0 (kq ≤ k) ∧ Aside0 (wc.heap[gb238]? = some (.cells #[(.slice A0_0 l0_0.length c0_0)] 34 (0,0))) ∧ Aside0 (wc.heap[gb239]? = some (.cells #[(.slice A1_0 l1_0.length c1_0),(.slice A1_1 l1_1.length c1_1)] 61 (0,0))) ∧ Aside0 (Below w.heap.size w wc))
 case first =>
  have H:=HC4.out;clear HC4;replace H:=Option.bind_eq_some_iff.mp H;obtain ⟨t240,A70,H⟩:=H;(try dsimp only at H);have A7:=zA A70;clear A70
  by_cases c8 : t240 = true
  ·
   subst c8
   rw [if_pos rfl] at H;replace H:=Option.bind_eq_some_iff.mp H;obtain ⟨t241,A90,H⟩:=H;(try dsimp only at H);have A9:=zA A90;clear A90
   by_cases c10 : t241 = true
   ·
    subst c10
    rw [if_pos rfl] at H;replace H:=Option.bind_eq_some_iff.mp H;obtain ⟨t242,A110,H⟩:=H;(try dsimp only at H);have A11:=zA A110;clear A110
    have H':=zA H
    clear H;have hnb12:=NB238_239.out;have hnc12:=NB239_238.out;have hcz13_0:=zc (.slice A0_0 l0_0.length c0_0) BK238 0 rfl;have hfz13_0:=blk_frozen BK238.out 0
    go_wp2_with (first|((with_reducible refine gate_callee (f:=61) rfl ?_);refine goesL_ (some 10) rfl rfl Try.func61 (by kernel_rfl) rfl #[.agg #[.slice A0_0 l0_0.length c0_0]] rfl (by (try simp only [zCb,zMb,zNb]);first|done|rfl|(simp only [zLb,zDb];rfl)) ?_;(with_reducible refine (spec_IsSchema.calls k _ _ l0_0 true _ ?side1 ?side2 A7.out).mono ?_);(case side1 => exact zsd HR0_0 HB);(case side2 => exact HC0_0.out);rintro e w14 ⟨rfl,hb⟩;refine ⟨_,rfl,?_⟩;replace BK238:=zA (zQ (g:=gb238) (o:=.cells #[.slice A0_0 l0_0.length c0_0] 34 (0,0)) (zx BK238) hb);replace BK239:=zA (zQ (g:=gb239) (o:=.cells #[.slice A1_0 l1_0.length c1_0,.slice A1_1 l1_1.length c1_1] 61 (0,0)) (zx BK239) hb);replace HB:=zA (zJb (zz HB) hb);(try clear hb);(try clear hb2);(try clear hk);(try clear hi);have hcz15_0:=zc (.slice A1_0 l1_0.length c1_0) BK239 0 rfl;have hcz15_1:=zc (.slice A1_1 l1_1.length c1_1) BK239 1 rfl;have hfz15_0:=blk_frozen BK239.out 0;have hfz15_1:=blk_frozen BK239.out 1)|(go_at_call 127;(with_reducible refine (spec_l3Terms.calls k _ _ l1_0 true _ ?side1 ?side2 A9.out).mono ?_);(case side1 => exact zsd HR1_0 HB);(case side2 => exact HC1_0.out);rintro e w' ⟨rfl,⟨nd,rfl⟩⟩)|(go_at_call 67;(with_reducible refine (spec_l1In.calls (l1_1.length : Int) 1 a2 t242 _ A11.out).mono ?_);rintro e w' ⟨rfl,⟨nd,rfl⟩⟩))
    go_meet
    case rel => exact ⟨_,(!t242),za,H',⟨by first|omega|exact Nat.le_refl _⟩,⟨zx BK238⟩,⟨zx BK239⟩,⟨zz HB⟩⟩
   ·
    replace c10:=Bool.eq_false_iff.mpr c10
    subst c10
    have H1 : (spec_l4Fine.j0 k true l0_0 l1_0 l1_1) = some r:=by rw [if_neg (show ¬ (false = true) by decide)] at H;exact H
    clear H;have H:=H1;clear H1
    have H':=zA H
    clear H;have hnb16:=NB238_239.out;have hnc16:=NB239_238.out;have hcz17_0:=zc (.slice A0_0 l0_0.length c0_0) BK238 0 rfl;have hfz17_0:=blk_frozen BK238.out 0
    go_wp2_with (first|((with_reducible refine gate_callee (f:=61) rfl ?_);refine goesL_ (some 10) rfl rfl Try.func61 (by kernel_rfl) rfl #[.agg #[.slice A0_0 l0_0.length c0_0]] rfl (by (try simp only [zCb,zMb,zNb]);first|done|rfl|(simp only [zLb,zDb];rfl)) ?_;(with_reducible refine (spec_IsSchema.calls k _ _ l0_0 true _ ?side1 ?side2 A7.out).mono ?_);(case side1 => exact zsd HR0_0 HB);(case side2 => exact HC0_0.out);rintro e w18 ⟨rfl,hb⟩;refine ⟨_,rfl,?_⟩;replace BK238:=zA (zQ (g:=gb238) (o:=.cells #[.slice A0_0 l0_0.length c0_0] 34 (0,0)) (zx BK238) hb);replace BK239:=zA (zQ (g:=gb239) (o:=.cells #[.slice A1_0 l1_0.length c1_0,.slice A1_1 l1_1.length c1_1] 61 (0,0)) (zx BK239) hb);replace HB:=zA (zJb (zz HB) hb);(try clear hb);(try clear hb2);(try clear hk);(try clear hi);have hcz19_0:=zc (.slice A1_0 l1_0.length c1_0) BK239 0 rfl;have hcz19_1:=zc (.slice A1_1 l1_1.length c1_1) BK239 1 rfl;have hfz19_0:=blk_frozen BK239.out 0;have hfz19_1:=blk_frozen BK239.out 1)|(go_at_call 127;(with_reducible refine (spec_l3Terms.calls k _ _ l1_0 false _ ?side1 ?side2 A9.out).mono ?_);(case side1 => exact zsd HR1_0 HB);(case side2 => exact HC1_0.out);rintro e w' ⟨rfl,⟨nd,rfl⟩⟩))
    go_meet
    case rel => exact ⟨_,(true),za,H',⟨by first|omega|exact Nat.le_refl _⟩,⟨zx BK238⟩,⟨zx BK239⟩,⟨zz HB⟩⟩
  ·
   replace c8:=Bool.eq_false_iff.mpr c8
   subst c8
   have H1 : (spec_l4Fine.j0 k true l0_0 l1_0 l1_1) = some r:=by rw [if_neg (show ¬ (false = true) by decide)] at H;exact H
   clear H;have H:=H1;clear H1
   have H':=zA H
   clear H;have hnb20:=NB238_239.out;have hnc20:=NB239_238.out;have hcz21_0:=zc (.slice A0_0 l0_0.length c0_0) BK238 0 rfl;have hfz21_0:=blk_frozen BK238.out 0
   go_wp2_with (first|((with_reducible refine gate_callee (f:=61) rfl ?_);refine goesL_ (some 10) rfl rfl Try.func61 (by kernel_rfl) rfl #[.agg #[.slice A0_0 l0_0.length c0_0]] rfl (by (try simp only [zCb,zMb,zNb]);first|done|rfl|(simp only [zLb,zDb];rfl)) ?_;(with_reducible refine (spec_IsSchema.calls k _ _ l0_0 false _ ?side1 ?side2 A7.out).mono ?_);(case side1 => exact zsd HR0_0 HB);(case side2 => exact HC0_0.out);rintro e w22 ⟨rfl,hb⟩;refine ⟨_,rfl,?_⟩;replace BK238:=zA (zQ (g:=gb238) (o:=.cells #[.slice A0_0 l0_0.length c0_0] 34 (0,0)) (zx BK238) hb);replace BK239:=zA (zQ (g:=gb239) (o:=.cells #[.slice A1_0 l1_0.length c1_0,.slice A1_1 l1_1.length c1_1] 61 (0,0)) (zx BK239) hb);replace HB:=zA (zJb (zz HB) hb);(try clear hb);(try clear hb2);(try clear hk);(try clear hi)))
   go_meet
   case rel => exact ⟨_,(true),za,H',⟨by first|omega|exact Nat.le_refl _⟩,⟨zx BK238⟩,⟨zx BK239⟩,⟨zz HB⟩⟩
 case rest =>
  clear HC4;(try clear c1);(try clear c2);(try clear p2);(try clear c6);(try clear c8);(try clear c9);(try clear c10);(try clear c12);(try clear c16);(try clear c20);(try clear hcz13_0);(try clear hcz15_0);(try clear hcz15_1);(try clear hcz17_0);(try clear hcz19_0);(try clear hcz19_1);(try clear hcz21_0);(try clear hfz13_0);(try clear hfz15_0);(try clear hfz15_1);(try clear hfz17_0);(try clear hfz19_0);(try clear hfz19_1);(try clear hfz21_0);obtain ⟨kq,x25_3,rfl,HA,HJ3,BK238,BK239,HB⟩:=hcut
  cases kq with
  | zero => exact absurd HA.out (by simp [spec_l4Fine.j0])
  | succ kj3 =>
   have H:=HA.out;clear HA;simp only [spec_l4Fine.j0] at H
   by_cases c23 : x25_3 = true
   ·
    subst c23
    rw [if_pos rfl] at H
    obtain rfl:=Option.some.inj H
    go_wp2
    go_ret
    exact ⟨by first|rfl|(simp [errW_none,errW_some] <;> rfl)|(simp [*,errW_none,errW_some] <;> rfl),zz HB⟩
   ·
    replace c23:=Bool.eq_false_iff.mpr c23
    subst c23
    have H1 : (spec_l4Fine.l0 kj3 0 l0_0 l1_0 l1_1) = some r:=by rw [if_neg (show ¬ (false = true) by decide)] at H;exact H
    clear H;have H:=H1;clear H1
    have H':=zA H
    clear H
    go_wp2
    go_loopg [7] kj3 (fun kq v7 w' => ∃ (x7_2 : Int),v7 = .int .i64 x7_2 ∧ Aside0 (spec_l4Fine.l0 kq x7_2 l0_0 l1_0 l1_1 = some r) ∧ Aside0 (kq ≤ kj3) ∧ Aside0 (w'.heap[gb238]? = some (.cells #[(.slice A0_0 l0_0.length c0_0)] 34 (0,0))) ∧ Aside0 (w'.heap[gb239]? = some (.cells #[(.slice A1_0 l1_0.length c1_0),(.slice A1_1 l1_1.length c1_1)] 61 (0,0))) ∧ Aside0 (Below w.heap.size w w'))
    case atStart => exact ⟨(0),za,H',⟨Nat.le_refl _⟩,⟨zx BK238⟩,⟨zx BK239⟩,⟨zz HB⟩⟩
    case round =>
     clear H';(try clear c1);(try clear c2);(try clear p2);(try clear c6);(try clear c8);(try clear c9);(try clear c10);(try clear c12);(try clear c16);(try clear c20);(try clear c23);(try clear hcz13_0);(try clear hcz15_0);(try clear hcz15_1);(try clear hcz17_0);(try clear hcz19_0);(try clear hcz19_1);(try clear hcz21_0);(try clear hfz13_0);(try clear hfz15_0);(try clear hfz15_1);(try clear hfz17_0);(try clear hfz19_0);(try clear hfz19_1);(try clear hfz21_0);(try clear p2);obtain ⟨x7_2,rfl,HA,HK2,BK238,BK239,HB⟩:=hrel
     cases gk with
     | zero => exact absurd HA.out (by simp [spec_l4Fine.l0])
     | succ k2 =>
      have H:=HA.out;clear HA;simp only [spec_l4Fine.l0] at H
      by_cases c24 : x7_2 < (l1_1.length : Int)
      ·
       rw [if_pos c24] at H;have c24b0:=decide_eq_true c24;clear c24
       by_cases c25 : 0 ≤ x7_2
       ·
        rw [if_pos c25] at H;have c25b0:=decide_eq_true c25;clear c25;replace H:=Option.bind_eq_some_iff.mp H;obtain ⟨t244,A260,H⟩:=H;(try dsimp only at H);have A26:=zA A260;clear A260
        by_cases c27 : t244 = true
        ·
         subst c27
         rw [if_pos rfl] at H
         have H':=zA H
         clear H;have hnb28:=NB239_238.out;have hnc28:=NB238_239.out;have hcz29_0:=zc (.slice A1_0 l1_0.length c1_0) BK239 0 rfl;have hcz29_1:=zc (.slice A1_1 l1_1.length c1_1) BK239 1 rfl;have hfz29_0:=blk_frozen BK239.out 0;have hfz29_1:=blk_frozen BK239.out 1
         try go_wp2
         have n0_:=zA (zI BK238.out);have n1_:=zA (zI BK239.out);have n2_:=zA (zJ HB.out);clear BK238;clear BK239;clear HB;have BK238:=n0_;have BK239:=n1_;have HB:=n2_;clear n0_ n1_ n2_;have p243 : 0 ≤ (x7_2 : Int):=zXb ze;have q243 : x7_2 < (l1_1.length : Int):=zXb ze;obtain ⟨ad243,A243_1,c243_1,e243,hx243_0,hx243_1,hl243_1,hi243_1⟩:=at_T115 HR1_1.out x7_2 p243 q243;have hw243_1:=hx243_1;have hw243_0:=hx243_0
         cases e243
         replace hx243_0:=(HB.out.cell (World.block_lt_of_cell? w _ hx243_0)).trans hx243_0;replace hx243_1:=(HB.out.cell (World.block_lt_of_cell? w _ hx243_1)).trans hx243_1;have HR243_1:=zA hi243_1;have HC243_1:=zA hl243_1;clear hi243_1 hl243_1;replace p243:=eq_true p243;replace q243:=eq_true q243
         refine start_ (n:=8) (S:=fun w' => w'.cell? ⟨gb238,0,none⟩ = some (.slice A0_0 l0_0.length c0_0) ∧ w'.cell? ⟨gb239,0,none⟩ = some (.slice A1_0 l1_0.length c1_0) ∧ w'.cell? ⟨gb239,1,none⟩ = some (.slice (some ad243) l1_1.length c1_1) ∧ w'.cell? (ad243.add ((x7_2).toNat * 2)) = some (.int .i64 ((rd_T115 l1_1 x7_2).f0)) ∧ w'.cell? ⟨(ad243.add ((x7_2).toNat * 2)).block,(ad243.add ((x7_2).toNat * 2)).off + 1,none⟩ = some (.slice A243_1 ((rd_T115 l1_1 x7_2).f1).length c243_1)) (ds:=[]) #[false,false,false,false,false,false,false,false] (by kernel_rfl) rfl rfl ⟨(zP BK238.out 0).trans rfl,(zP BK239.out 0).trans rfl,(zP BK239.out 1).trans rfl,((HB.out.cell (World.block_lt_of_cell? w _ hw243_0)).trans hw243_0),((HB.out.cell (World.block_lt_of_cell? w _ hw243_1)).trans hw243_1)⟩ (fun hHeld => ?_);refine with_tabW spec_l4Fine.tab6 spec_l4Fine.bits6 (fun HT_ HW_ => ?_)
         generalize wr.drew = w30 at BK238 BK239 HB HR243_1 hx243_0 hx243_1 hHeld ⊢
         refine zut 1 34 HT_ ?_;refine zut 3 36 HT_ ?_;refine zwt 0 33 HT_ HW_ hHeld ?_;refine zwt 2 35 HT_ HW_ hHeld ?_;refine zut 4 37 HT_ ?_;refine zwt 5 38 HT_ HW_ hHeld ?_
         refine one_ (i:=6) (N:=some 39) #[true,true,true,true,true,true,true,false] rfl rfl (one_of HT_.out (by kernel_rfl)) (by decide) (fun K hK => ?_)
         refine goes_ Try.func128 (by kernel_rfl) rfl #[.agg #[.slice A0_0 l0_0.length c0_0],.agg #[.int .i64 ((rd_T115 l1_1 x7_2).f0),.slice A243_1 ((rd_T115 l1_1 x7_2).f1).length c243_1]] (by rfl) rfl rfl (by (try simp only [zCb,zMb,zNb]);first|done|rfl|(simp only [zLb,zDb];rfl)) ?_
         with_reducible refine (spec_IsAtom.calls k2 _ _ l0_0 ((rd_T115 l1_1 x7_2).f0) _ _ ((rd_T115 l1_1 x7_2).f1) true _ ?side1 ?side2 ?side3 ?side4 A26.out).mono ?_
         (case side1 => exact zsd HR0_0 HB)
         (case side2 => exact HC0_0.out)
         (case side3 => exact zsd HR243_1 HB)
         (case side4 => exact HC243_1.out)
         rintro e w31 ⟨rfl,hb⟩
         refine ⟨_,rfl,?_⟩
         have n0_:=zA (zQ (g:=gb238) (o:=.cells #[.slice A0_0 l0_0.length c0_0] 34 (0,0)) (zx BK238) hb);have n1_:=zA (zQ (g:=gb239) (o:=.cells #[.slice A1_0 l1_0.length c1_0,.slice (some ad243) l1_1.length c1_1] 61 (0,0)) (zx BK239) hb);have n2_:=zA (zJb (zz HB) hb);clear BK238;clear BK239;clear HB;have BK238:=n0_;have BK239:=n1_;have HB:=n2_;clear n0_ n1_ n2_;(try clear hb);(try clear hb2);(try clear hk);(try clear hi)
         refine hK.out _ _ ⟨(zP BK238.out 0).trans rfl,(zP BK239.out 0).trans rfl,(zP BK239.out 1).trans rfl,((HB.out.cell (World.block_lt_of_cell? w _ hw243_0)).trans hw243_0),((HB.out.cell (World.block_lt_of_cell? w _ hw243_1)).trans hw243_1)⟩ (fun hHeld => ?_)
         clear hK K
         refine norm_ (a':=?_) ?_ ?_
         rotate_left
         ·
          show Act.put _ (some 39) _ = _
          simp only [Act.put,zO,zEb,zFb,i64_w,i32_w]
          rfl
         refine zut 7 40 HT_ ?_
         refine done_ (done_of HT_.out (by kernel_rfl)) ?_
         try go_wp2
         go_roundg k2
         case measure => have:=HJ3.out;have:=HK2.out;omega
         case rel => exact ⟨(wrap64 (x7_2 + 1)),za,H',⟨by have:=HJ3.out;have:=HK2.out;omega⟩,⟨zx BK238⟩,⟨zx BK239⟩,⟨zz HB⟩⟩
        ·
         replace c27:=Bool.eq_false_iff.mpr c27
         subst c27
         have H1 : (some false) = some r:=by rw [if_neg (show ¬ (false = true) by decide)] at H;exact H
         clear H;have H:=H1;clear H1
         obtain rfl:=Option.some.inj H
         have hnb32:=NB239_238.out;have hnc32:=NB238_239.out;have hcz33_0:=zc (.slice A1_0 l1_0.length c1_0) BK239 0 rfl;have hcz33_1:=zc (.slice A1_1 l1_1.length c1_1) BK239 1 rfl;have hfz33_0:=blk_frozen BK239.out 0;have hfz33_1:=blk_frozen BK239.out 1
         try go_wp2
         have n0_:=zA (zI BK238.out);have n1_:=zA (zI BK239.out);have n2_:=zA (zJ HB.out);clear BK238;clear BK239;clear HB;have BK238:=n0_;have BK239:=n1_;have HB:=n2_;clear n0_ n1_ n2_;have p243 : 0 ≤ (x7_2 : Int):=zXb ze;have q243 : x7_2 < (l1_1.length : Int):=zXb ze;obtain ⟨ad243,A243_1,c243_1,e243,hx243_0,hx243_1,hl243_1,hi243_1⟩:=at_T115 HR1_1.out x7_2 p243 q243;have hw243_1:=hx243_1;have hw243_0:=hx243_0
         cases e243
         replace hx243_0:=(HB.out.cell (World.block_lt_of_cell? w _ hx243_0)).trans hx243_0;replace hx243_1:=(HB.out.cell (World.block_lt_of_cell? w _ hx243_1)).trans hx243_1;have HR243_1:=zA hi243_1;have HC243_1:=zA hl243_1;clear hi243_1 hl243_1;replace p243:=eq_true p243;replace q243:=eq_true q243
         refine start_ (n:=8) (S:=fun w' => w'.cell? ⟨gb238,0,none⟩ = some (.slice A0_0 l0_0.length c0_0) ∧ w'.cell? ⟨gb239,0,none⟩ = some (.slice A1_0 l1_0.length c1_0) ∧ w'.cell? ⟨gb239,1,none⟩ = some (.slice (some ad243) l1_1.length c1_1) ∧ w'.cell? (ad243.add ((x7_2).toNat * 2)) = some (.int .i64 ((rd_T115 l1_1 x7_2).f0)) ∧ w'.cell? ⟨(ad243.add ((x7_2).toNat * 2)).block,(ad243.add ((x7_2).toNat * 2)).off + 1,none⟩ = some (.slice A243_1 ((rd_T115 l1_1 x7_2).f1).length c243_1)) (ds:=[]) #[false,false,false,false,false,false,false,false] (by kernel_rfl) rfl rfl ⟨(zP BK238.out 0).trans rfl,(zP BK239.out 0).trans rfl,(zP BK239.out 1).trans rfl,((HB.out.cell (World.block_lt_of_cell? w _ hw243_0)).trans hw243_0),((HB.out.cell (World.block_lt_of_cell? w _ hw243_1)).trans hw243_1)⟩ (fun hHeld => ?_);refine with_tabW spec_l4Fine.tab6 spec_l4Fine.bits6 (fun HT_ HW_ => ?_)
         generalize wr.drew = w34 at BK238 BK239 HB HR243_1 hx243_0 hx243_1 hHeld ⊢
         refine zut 1 34 HT_ ?_;refine zut 3 36 HT_ ?_;refine zwt 0 33 HT_ HW_ hHeld ?_;refine zwt 2 35 HT_ HW_ hHeld ?_;refine zut 4 37 HT_ ?_;refine zwt 5 38 HT_ HW_ hHeld ?_
         refine one_ (i:=6) (N:=some 39) #[true,true,true,true,true,true,true,false] rfl rfl (one_of HT_.out (by kernel_rfl)) (by decide) (fun K hK => ?_)
         refine goes_ Try.func128 (by kernel_rfl) rfl #[.agg #[.slice A0_0 l0_0.length c0_0],.agg #[.int .i64 ((rd_T115 l1_1 x7_2).f0),.slice A243_1 ((rd_T115 l1_1 x7_2).f1).length c243_1]] (by rfl) rfl rfl (by (try simp only [zCb,zMb,zNb]);first|done|rfl|(simp only [zLb,zDb];rfl)) ?_
         with_reducible refine (spec_IsAtom.calls k2 _ _ l0_0 ((rd_T115 l1_1 x7_2).f0) _ _ ((rd_T115 l1_1 x7_2).f1) false _ ?side1 ?side2 ?side3 ?side4 A26.out).mono ?_
         (case side1 => exact zsd HR0_0 HB)
         (case side2 => exact HC0_0.out)
         (case side3 => exact zsd HR243_1 HB)
         (case side4 => exact HC243_1.out)
         rintro e w35 ⟨rfl,hb⟩
         refine ⟨_,rfl,?_⟩
         have n0_:=zA (zQ (g:=gb238) (o:=.cells #[.slice A0_0 l0_0.length c0_0] 34 (0,0)) (zx BK238) hb);have n1_:=zA (zQ (g:=gb239) (o:=.cells #[.slice A1_0 l1_0.length c1_0,.slice (some ad243) l1_1.length c1_1] 61 (0,0)) (zx BK239) hb);have n2_:=zA (zJb (zz HB) hb);clear BK238;clear BK239;clear HB;have BK238:=n0_;have BK239:=n1_;have HB:=n2_;clear n0_ n1_ n2_;(try clear hb);(try clear hb2);(try clear hk);(try clear hi)
         refine hK.out _ _ ⟨(zP BK238.out 0).trans rfl,(zP BK239.out 0).trans rfl,(zP BK239.out 1).trans rfl,((HB.out.cell (World.block_lt_of_cell? w _ hw243_0)).trans hw243_0),((HB.out.cell (World.block_lt_of_cell? w _ hw243_1)).trans hw243_1)⟩ (fun hHeld => ?_)
         clear hK K
         refine norm_ (a':=?_) ?_ ?_
         rotate_left
         ·
          show Act.put _ (some 39) _ = _
          simp only [Act.put,zO,zEb,zFb,i64_w,i32_w]
          rfl
         refine zut 7 40 HT_ ?_
         refine done_ (done_of HT_.out (by kernel_rfl)) ?_
         try go_wp2
         go_ret
         exact ⟨by first|rfl|(simp [errW_none,errW_some] <;> rfl)|(simp [*,errW_none,errW_some] <;> rfl),zz HB⟩
       ·
        rw [if_neg c25] at H
        exact absurd H (by simp)
      ·
       rw [if_neg c24] at H;have c24b0:=decide_eq_false c24;clear c24
       have H':=zA H
       clear H;have hnb36:=NB239_238.out;have hnc36:=NB238_239.out;have hcz37_0:=zc (.slice A1_0 l1_0.length c1_0) BK239 0 rfl;have hcz37_1:=zc (.slice A1_1 l1_1.length c1_1) BK239 1 rfl;have hfz37_0:=blk_frozen BK239.out 0;have hfz37_1:=blk_frozen BK239.out 1
       go_wp2
       go_loopg [8] k2 (fun kq v8 w' => ∃ (x8_3 : Int),v8 = .int .i64 x8_3 ∧ Aside0 (spec_l4Fine.l1 kq x8_3 l1_0 l1_1 = some r) ∧ Aside0 (kq ≤ k2) ∧ Aside0 (w'.heap[gb238]? = some (.cells #[(.slice A0_0 l0_0.length c0_0)] 34 (0,0))) ∧ Aside0 (w'.heap[gb239]? = some (.cells #[(.slice A1_0 l1_0.length c1_0),(.slice A1_1 l1_1.length c1_1)] 61 (0,0))) ∧ Aside0 (Below w.heap.size w w'))
       case atStart => exact ⟨(0),za,H',⟨Nat.le_refl _⟩,⟨zx BK238⟩,⟨zx BK239⟩,⟨zz HB⟩⟩
       case round =>
        clear H';(try clear c1);(try clear c2);(try clear p2);(try clear q2);(try clear hx2);(try clear c3);(try clear c6);(try clear p6);(try clear c8);(try clear c9);(try clear c10);(try clear c12);(try clear c16);(try clear c20);(try clear c23);(try clear c24);(try clear c24b0);(try clear p24);(try clear q24);(try clear hx24);(try clear c25);(try clear c25b0);(try clear c27);(try clear c28);(try clear c32);(try clear c36);(try clear hcz13_0);(try clear hcz15_0);(try clear hcz15_1);(try clear hcz17_0);(try clear hcz19_0);(try clear hcz19_1);(try clear hcz21_0);(try clear hcz29_0);(try clear hcz29_1);(try clear hcz33_0);(try clear hcz33_1);(try clear hcz37_0);(try clear hcz37_1);(try clear hfz13_0);(try clear hfz15_0);(try clear hfz15_1);(try clear hfz17_0);(try clear hfz19_0);(try clear hfz19_1);(try clear hfz21_0);(try clear hfz29_0);(try clear hfz29_1);(try clear hfz33_0);(try clear hfz33_1);(try clear hfz37_0);(try clear hfz37_1);(try clear hx243_0);(try clear hx243_1);(try clear p2);(try clear p243);(try clear q243);obtain ⟨x8_3,rfl,HA,HK3,BK238,BK239,HB⟩:=hrel
        cases gk with
        | zero => exact absurd HA.out (by simp [spec_l4Fine.l1])
        | succ k3 =>
         have H:=HA.out;clear HA;simp only [spec_l4Fine.l1] at H
         by_cases c38 : x8_3 < (l1_0.length : Int)
         ·
          rw [if_pos c38] at H;have c38b0:=decide_eq_true c38;clear c38
          by_cases c39 : 0 ≤ x8_3
          ·
           rw [if_pos c39] at H;have c39b0:=decide_eq_true c39;clear c39;replace H:=Option.bind_eq_some_iff.mp H;obtain ⟨t246,A400,H⟩:=H;(try dsimp only at H);have A40:=zA A400;clear A400
           by_cases c41 : t246 = true
           ·
            subst c41
            rw [if_pos rfl] at H;replace H:=Option.bind_eq_some_iff.mp H;obtain ⟨t247,A420,H⟩:=H;(try dsimp only at H);have A42:=zA A420;clear A420;replace H:=Option.bind_eq_some_iff.mp H;obtain ⟨t251,A430,H⟩:=H;(try dsimp only at H);have A43:=zA A430;clear A430
            by_cases c44 : t251 = true
            ·
             subst c44
             rw [if_pos rfl] at H
             have H':=zA H
             clear H;have hnb45:=NB239_238.out;have hnc45:=NB238_239.out;have hcz46_0:=zc (.slice A1_0 l1_0.length c1_0) BK239 0 rfl;have hcz46_1:=zc (.slice A1_1 l1_1.length c1_1) BK239 1 rfl;have hfz46_0:=blk_frozen BK239.out 0;have hfz46_1:=blk_frozen BK239.out 1
             try go_wp2
             have n0_:=zA (zI BK238.out);have n1_:=zA (zI BK239.out);have n2_:=zA (zJ HB.out);clear BK238;clear BK239;clear HB;have BK238:=n0_;have BK239:=n1_;have HB:=n2_;clear n0_ n1_ n2_;have p245 : 0 ≤ (x8_3 : Int):=zXb ze;have q245 : x8_3 < (l1_0.length : Int):=zXb ze;obtain ⟨ad245,e245,hx245_0⟩:=Kd.at_int HR1_0.out x8_3 p245 q245;have hw245_0:=hx245_0
             cases e245
             replace hx245_0:=(HB.out.cell (World.block_lt_of_cell? w _ hx245_0)).trans hx245_0;replace p245:=eq_true p245;replace q245:=eq_true q245;have p250 : 0 ≤ (x8_3 : Int):=zXb ze;have q250 : x8_3 < (l1_0.length : Int):=zXb ze;obtain ⟨ad250,e250,hx250_0⟩:=Kd.at_int HR1_0.out x8_3 p250 q250;have hw250_0:=hx250_0
             obtain rfl : ad245 = ad250:=(by injection e250)
             replace hx250_0:=(HB.out.cell (World.block_lt_of_cell? w _ hx250_0)).trans hx250_0;replace p250:=eq_true p250;replace q250:=eq_true q250
             refine start_ (n:=17) (S:=fun w' => w'.cell? ⟨gb239,0,none⟩ = some (.slice (some ad245) l1_0.length c1_0) ∧ w'.cell? ⟨gb239,1,none⟩ = some (.slice A1_1 l1_1.length c1_1) ∧ w'.cell? (ad245.add (x8_3).toNat) = some (.int .i64 (rd l1_0 x8_3)) ∧ w'.cell? (ad245.add (x8_3).toNat) = some (.int .i64 (rd l1_0 x8_3))) (ds:=[]) #[false,false,false,false,false,false,false,false,false,false,false,false,false,false,false,false,false] (by kernel_rfl) rfl rfl ⟨(zP BK239.out 0).trans rfl,(zP BK239.out 1).trans rfl,((HB.out.cell (World.block_lt_of_cell? w _ hw245_0)).trans hw245_0),((HB.out.cell (World.block_lt_of_cell? w _ hw250_0)).trans hw250_0)⟩ (fun hHeld => ?_);refine with_tabW spec_l4Fine.tab11 spec_l4Fine.bits11 (fun HT_ HW_ => ?_)
             generalize wr.drew = w47 at BK238 BK239 HB hx245_0 hx250_0 hHeld ⊢
             refine zut 0 48 HT_ ?_;refine zut 2 50 HT_ ?_;refine zwt 1 49 HT_ HW_ hHeld ?_;refine zut 3 51 HT_ ?_;refine zwt 4 52 HT_ HW_ hHeld ?_
             refine one_ (i:=5) (N:=some 53) #[true,true,true,true,true,true,false,false,false,false,false,false,false,false,false,false,false] rfl rfl (one_of HT_.out (by kernel_rfl)) (by decide) (fun K hK => ?_)
             refine goes_ Try.func129 (by kernel_rfl) rfl #[.int .i64 (rd l1_0 x8_3)] (by rfl) rfl rfl (by (try simp only [zCb,zMb,zNb]);first|done|rfl|(simp only [zLb,zDb];rfl)) ?_
             with_reducible refine (spec_IsVar.calls (rd l1_0 x8_3) true _ A40.out).mono ?_
             rintro e w' ⟨rfl,⟨nd,rfl⟩⟩
             refine ⟨_,rfl,?_⟩
             refine hK.out _ _ ⟨(zP BK239.out 0).trans rfl,(zP BK239.out 1).trans rfl,((HB.out.cell (World.block_lt_of_cell? w _ hw245_0)).trans hw245_0),((HB.out.cell (World.block_lt_of_cell? w _ hw250_0)).trans hw250_0)⟩ (fun hHeld => ?_)
             clear hK K
             refine norm_ (a':=?_) ?_ ?_
             rotate_left
             ·
              show Act.put _ (some 53) _ = _
              simp only [Act.put,zO,zEb,zFb,i64_w,i32_w]
              rfl
             refine zut 6 54 HT_ ?_;refine zut 9 57 HT_ ?_;refine zut 11 59 HT_ ?_;refine zwt 7 55 HT_ HW_ hHeld ?_;refine zwt 10 58 HT_ HW_ hHeld ?_;refine zut 12 60 HT_ ?_;refine zwt 13 61 HT_ HW_ hHeld ?_
             refine one_ (i:=8) (N:=some 56) #[true,true,true,true,true,true,true,true,true,true,true,true,true,true,false,false,false] rfl rfl (one_of HT_.out (by kernel_rfl)) (by decide) (fun K hK => ?_)
             refine goes_ Try.func131 (by kernel_rfl) rfl #[.agg #[.slice (some ad245) l1_0.length c1_0,.slice A1_1 l1_1.length c1_1]] (by rfl) rfl rfl (by (try simp only [zCb,zMb,zNb]);first|done|rfl|(simp only [zLb,zDb];rfl)) ?_
             with_reducible refine (spec_l4BodyVars.calls k3 _ _ l1_0 _ _ l1_1 t247 _ ?side1 ?side2 ?side3 ?side4 A42.out).mono ?_
             (case side1 => repeat (first|exact (zKb HR1_0.out (zz HB))|(with_reducible refine zBb ?_ _)|(with_reducible refine zAb ?_ _)|(with_reducible refine zX ?_)))
             (case side2 => exact HC1_0.out)
             (case side3 => repeat (first|exact (zKb HR1_1.out (zz HB))|(with_reducible refine zBb ?_ _)|(with_reducible refine zAb ?_ _)|(with_reducible refine zX ?_)))
             (case side4 => exact HC1_1.out)
             rintro e w48 ⟨v248,rfl,ho0,hb⟩
             refine ⟨_,rfl,?_⟩
             have n0_:=zA (zHb ho0 (zT (zz HB)));have n1_:=zA (zQ (g:=gb238) (o:=.cells #[.slice A0_0 l0_0.length c0_0] 34 (0,0)) (zx BK238) hb);have n2_:=zA (zQ (g:=gb239) (o:=.cells #[.slice (some ad245) l1_0.length c1_0,.slice A1_1 l1_1.length c1_1] 61 (0,0)) (zx BK239) hb);have n3_:=zA (zJb (zz HB) hb);clear BK238;clear BK239;clear HB;have HO249:=n0_;have BK238:=n1_;have BK239:=n2_;have HB:=n3_;clear n0_ n1_ n2_ n3_;(try clear hb);(try clear hb2);(try clear hk);(try clear hi);(try clear ho0);obtain ⟨Ao49,co49,eo49⟩:=Kd.R_slice HO249.out
             (first|subst eo49|(injection eo49 with f1_ f2_ f3_;have f4_:=f1_.symm;have f5_:=f3_.symm;clear f1_ f2_ f3_;subst f4_;subst f5_))
             refine hK.out _ _ ⟨(zP BK239.out 0).trans rfl,(zP BK239.out 1).trans rfl,((HB.out.cell (World.block_lt_of_cell? w _ hw245_0)).trans hw245_0),((HB.out.cell (World.block_lt_of_cell? w _ hw250_0)).trans hw250_0)⟩ (fun hHeld => ?_)
             clear hK K
             refine norm_ (a':=?_) ?_ ?_
             rotate_left
             ·
              show Act.put _ (some 56) _ = _
              simp only [Act.put,zO,zEb,zFb,i64_w,i32_w]
              rfl
             refine one_ (i:=14) (N:=some 62) #[true,true,true,true,true,true,true,true,true,true,true,true,true,true,true,false,false] rfl rfl (one_of HT_.out (by kernel_rfl)) (by decide) (fun K hK => ?_)
             refine goes_ Try.func130 (by kernel_rfl) rfl #[.slice Ao49 t247.length co49,.int .i64 (rd l1_0 x8_3)] (by rfl) rfl rfl (by (try simp only [zCb,zMb,zNb]);first|done|rfl|(simp only [zLb,zDb];rfl)) ?_
             with_reducible refine (spec_l2Has.calls k3 _ _ t247 (rd l1_0 x8_3) true _ ?side1 ?side2 A43.out).mono ?_
             (case side1 => repeat (first|exact (Kd.R_reads' HO249.out).2.2|(with_reducible refine zBb ?_ _)|(with_reducible refine zAb ?_ _)|(with_reducible refine zX ?_)))
             (case side2 => exact (Kd.R_reads' HO249.out).2.1)
             rintro e w' ⟨rfl,⟨nd,rfl⟩⟩
             refine ⟨_,rfl,?_⟩
             refine hK.out _ _ ⟨(zP BK239.out 0).trans rfl,(zP BK239.out 1).trans rfl,((HB.out.cell (World.block_lt_of_cell? w _ hw245_0)).trans hw245_0),((HB.out.cell (World.block_lt_of_cell? w _ hw250_0)).trans hw250_0)⟩ (fun hHeld => ?_)
             clear hK K
             refine norm_ (a':=?_) ?_ ?_
             rotate_left
             ·
              show Act.put _ (some 62) _ = _
              simp only [Act.put,zO,zEb,zFb,i64_w,i32_w]
              rfl
             refine zut 15 63 HT_ ?_;refine zut 16 64 HT_ ?_
             refine done_ (done_of HT_.out (by kernel_rfl)) ?_
             try go_wp2
             go_roundg k3
             case measure => have:=HJ3.out;have:=HK2.out;have:=HK3.out;omega
             case rel => exact ⟨(wrap64 (x8_3 + 1)),za,H',⟨by have:=HJ3.out;have:=HK2.out;have:=HK3.out;omega⟩,⟨zx BK238⟩,⟨zx BK239⟩,⟨zz HB⟩⟩
            ·
             replace c44:=Bool.eq_false_iff.mpr c44
             subst c44
             have H1 : (some false) = some r:=by rw [if_neg (show ¬ (false = true) by decide)] at H;exact H
             clear H;have H:=H1;clear H1
             obtain rfl:=Option.some.inj H
             have hnb50:=NB239_238.out;have hnc50:=NB238_239.out;have hcz51_0:=zc (.slice A1_0 l1_0.length c1_0) BK239 0 rfl;have hcz51_1:=zc (.slice A1_1 l1_1.length c1_1) BK239 1 rfl;have hfz51_0:=blk_frozen BK239.out 0;have hfz51_1:=blk_frozen BK239.out 1
             try go_wp2
             have n0_:=zA (zI BK238.out);have n1_:=zA (zI BK239.out);have n2_:=zA (zJ HB.out);clear BK238;clear BK239;clear HB;have BK238:=n0_;have BK239:=n1_;have HB:=n2_;clear n0_ n1_ n2_;have p245 : 0 ≤ (x8_3 : Int):=zXb ze;have q245 : x8_3 < (l1_0.length : Int):=zXb ze;obtain ⟨ad245,e245,hx245_0⟩:=Kd.at_int HR1_0.out x8_3 p245 q245;have hw245_0:=hx245_0
             cases e245
             replace hx245_0:=(HB.out.cell (World.block_lt_of_cell? w _ hx245_0)).trans hx245_0;replace p245:=eq_true p245;replace q245:=eq_true q245;have p250 : 0 ≤ (x8_3 : Int):=zXb ze;have q250 : x8_3 < (l1_0.length : Int):=zXb ze;obtain ⟨ad250,e250,hx250_0⟩:=Kd.at_int HR1_0.out x8_3 p250 q250;have hw250_0:=hx250_0
             obtain rfl : ad245 = ad250:=(by injection e250)
             replace hx250_0:=(HB.out.cell (World.block_lt_of_cell? w _ hx250_0)).trans hx250_0;replace p250:=eq_true p250;replace q250:=eq_true q250
             refine start_ (n:=17) (S:=fun w' => w'.cell? ⟨gb239,0,none⟩ = some (.slice (some ad245) l1_0.length c1_0) ∧ w'.cell? ⟨gb239,1,none⟩ = some (.slice A1_1 l1_1.length c1_1) ∧ w'.cell? (ad245.add (x8_3).toNat) = some (.int .i64 (rd l1_0 x8_3)) ∧ w'.cell? (ad245.add (x8_3).toNat) = some (.int .i64 (rd l1_0 x8_3))) (ds:=[]) #[false,false,false,false,false,false,false,false,false,false,false,false,false,false,false,false,false] (by kernel_rfl) rfl rfl ⟨(zP BK239.out 0).trans rfl,(zP BK239.out 1).trans rfl,((HB.out.cell (World.block_lt_of_cell? w _ hw245_0)).trans hw245_0),((HB.out.cell (World.block_lt_of_cell? w _ hw250_0)).trans hw250_0)⟩ (fun hHeld => ?_);refine with_tabW spec_l4Fine.tab11 spec_l4Fine.bits11 (fun HT_ HW_ => ?_)
             generalize wr.drew = w52 at BK238 BK239 HB hx245_0 hx250_0 hHeld ⊢
             refine zut 0 48 HT_ ?_;refine zut 2 50 HT_ ?_;refine zwt 1 49 HT_ HW_ hHeld ?_;refine zut 3 51 HT_ ?_;refine zwt 4 52 HT_ HW_ hHeld ?_
             refine one_ (i:=5) (N:=some 53) #[true,true,true,true,true,true,false,false,false,false,false,false,false,false,false,false,false] rfl rfl (one_of HT_.out (by kernel_rfl)) (by decide) (fun K hK => ?_)
             refine goes_ Try.func129 (by kernel_rfl) rfl #[.int .i64 (rd l1_0 x8_3)] (by rfl) rfl rfl (by (try simp only [zCb,zMb,zNb]);first|done|rfl|(simp only [zLb,zDb];rfl)) ?_
             with_reducible refine (spec_IsVar.calls (rd l1_0 x8_3) true _ A40.out).mono ?_
             rintro e w' ⟨rfl,⟨nd,rfl⟩⟩
             refine ⟨_,rfl,?_⟩
             refine hK.out _ _ ⟨(zP BK239.out 0).trans rfl,(zP BK239.out 1).trans rfl,((HB.out.cell (World.block_lt_of_cell? w _ hw245_0)).trans hw245_0),((HB.out.cell (World.block_lt_of_cell? w _ hw250_0)).trans hw250_0)⟩ (fun hHeld => ?_)
             clear hK K
             refine norm_ (a':=?_) ?_ ?_
             rotate_left
             ·
              show Act.put _ (some 53) _ = _
              simp only [Act.put,zO,zEb,zFb,i64_w,i32_w]
              rfl
             refine zut 6 54 HT_ ?_;refine zut 9 57 HT_ ?_;refine zut 11 59 HT_ ?_;refine zwt 7 55 HT_ HW_ hHeld ?_;refine zwt 10 58 HT_ HW_ hHeld ?_;refine zut 12 60 HT_ ?_;refine zwt 13 61 HT_ HW_ hHeld ?_
             refine one_ (i:=8) (N:=some 56) #[true,true,true,true,true,true,true,true,true,true,true,true,true,true,false,false,false] rfl rfl (one_of HT_.out (by kernel_rfl)) (by decide) (fun K hK => ?_)
             refine goes_ Try.func131 (by kernel_rfl) rfl #[.agg #[.slice (some ad245) l1_0.length c1_0,.slice A1_1 l1_1.length c1_1]] (by rfl) rfl rfl (by (try simp only [zCb,zMb,zNb]);first|done|rfl|(simp only [zLb,zDb];rfl)) ?_
             with_reducible refine (spec_l4BodyVars.calls k3 _ _ l1_0 _ _ l1_1 t247 _ ?side1 ?side2 ?side3 ?side4 A42.out).mono ?_
             (case side1 => repeat (first|exact (zKb HR1_0.out (zz HB))|(with_reducible refine zBb ?_ _)|(with_reducible refine zAb ?_ _)|(with_reducible refine zX ?_)))
             (case side2 => exact HC1_0.out)
             (case side3 => repeat (first|exact (zKb HR1_1.out (zz HB))|(with_reducible refine zBb ?_ _)|(with_reducible refine zAb ?_ _)|(with_reducible refine zX ?_)))
             (case side4 => exact HC1_1.out)
             rintro e w53 ⟨v248,rfl,ho0,hb⟩
             refine ⟨_,rfl,?_⟩
             have n0_:=zA (zHb ho0 (zT (zz HB)));have n1_:=zA (zQ (g:=gb238) (o:=.cells #[.slice A0_0 l0_0.length c0_0] 34 (0,0)) (zx BK238) hb);have n2_:=zA (zQ (g:=gb239) (o:=.cells #[.slice (some ad245) l1_0.length c1_0,.slice A1_1 l1_1.length c1_1] 61 (0,0)) (zx BK239) hb);have n3_:=zA (zJb (zz HB) hb);clear BK238;clear BK239;clear HB;have HO249:=n0_;have BK238:=n1_;have BK239:=n2_;have HB:=n3_;clear n0_ n1_ n2_ n3_;(try clear hb);(try clear hb2);(try clear hk);(try clear hi);(try clear ho0);obtain ⟨Ao54,co54,eo54⟩:=Kd.R_slice HO249.out
             (first|subst eo54|(injection eo54 with f1_ f2_ f3_;have f4_:=f1_.symm;have f5_:=f3_.symm;clear f1_ f2_ f3_;subst f4_;subst f5_))
             refine hK.out _ _ ⟨(zP BK239.out 0).trans rfl,(zP BK239.out 1).trans rfl,((HB.out.cell (World.block_lt_of_cell? w _ hw245_0)).trans hw245_0),((HB.out.cell (World.block_lt_of_cell? w _ hw250_0)).trans hw250_0)⟩ (fun hHeld => ?_)
             clear hK K
             refine norm_ (a':=?_) ?_ ?_
             rotate_left
             ·
              show Act.put _ (some 56) _ = _
              simp only [Act.put,zO,zEb,zFb,i64_w,i32_w]
              rfl
             refine one_ (i:=14) (N:=some 62) #[true,true,true,true,true,true,true,true,true,true,true,true,true,true,true,false,false] rfl rfl (one_of HT_.out (by kernel_rfl)) (by decide) (fun K hK => ?_)
             refine goes_ Try.func130 (by kernel_rfl) rfl #[.slice Ao54 t247.length co54,.int .i64 (rd l1_0 x8_3)] (by rfl) rfl rfl (by (try simp only [zCb,zMb,zNb]);first|done|rfl|(simp only [zLb,zDb];rfl)) ?_
             with_reducible refine (spec_l2Has.calls k3 _ _ t247 (rd l1_0 x8_3) false _ ?side1 ?side2 A43.out).mono ?_
             (case side1 => repeat (first|exact (Kd.R_reads' HO249.out).2.2|(with_reducible refine zBb ?_ _)|(with_reducible refine zAb ?_ _)|(with_reducible refine zX ?_)))
             (case side2 => exact (Kd.R_reads' HO249.out).2.1)
             rintro e w' ⟨rfl,⟨nd,rfl⟩⟩
             refine ⟨_,rfl,?_⟩
             refine hK.out _ _ ⟨(zP BK239.out 0).trans rfl,(zP BK239.out 1).trans rfl,((HB.out.cell (World.block_lt_of_cell? w _ hw245_0)).trans hw245_0),((HB.out.cell (World.block_lt_of_cell? w _ hw250_0)).trans hw250_0)⟩ (fun hHeld => ?_)
             clear hK K
             refine norm_ (a':=?_) ?_ ?_
             rotate_left
             ·
              show Act.put _ (some 62) _ = _
              simp only [Act.put,zO,zEb,zFb,i64_w,i32_w]
              rfl
             refine zut 15 63 HT_ ?_;refine zut 16 64 HT_ ?_
             refine done_ (done_of HT_.out (by kernel_rfl)) ?_
             try go_wp2
             go_ret
             exact ⟨by first|rfl|(simp [errW_none,errW_some] <;> rfl)|(simp [*,errW_none,errW_some] <;> rfl),zz HB⟩
           ·
            replace c41:=Bool.eq_false_iff.mpr c41
            subst c41
            have H1 : (spec_l4Fine.l1 k3 (wrap64 (x8_3 + 1)) l1_0 l1_1) = some r:=by rw [if_neg (show ¬ (false = true) by decide)] at H;exact H
            clear H;have H:=H1;clear H1
            have H':=zA H
            clear H;have hnb55:=NB239_238.out;have hnc55:=NB238_239.out;have hcz56_0:=zc (.slice A1_0 l1_0.length c1_0) BK239 0 rfl;have hcz56_1:=zc (.slice A1_1 l1_1.length c1_1) BK239 1 rfl;have hfz56_0:=blk_frozen BK239.out 0;have hfz56_1:=blk_frozen BK239.out 1
            try go_wp2
            have n0_:=zA (zI BK238.out);have n1_:=zA (zI BK239.out);have n2_:=zA (zJ HB.out);clear BK238;clear BK239;clear HB;have BK238:=n0_;have BK239:=n1_;have HB:=n2_;clear n0_ n1_ n2_;have p245 : 0 ≤ (x8_3 : Int):=zXb ze;have q245 : x8_3 < (l1_0.length : Int):=zXb ze;obtain ⟨ad245,e245,hx245_0⟩:=Kd.at_int HR1_0.out x8_3 p245 q245;have hw245_0:=hx245_0
            cases e245
            replace hx245_0:=(HB.out.cell (World.block_lt_of_cell? w _ hx245_0)).trans hx245_0;replace p245:=eq_true p245;replace q245:=eq_true q245
            refine start_ (n:=17) (S:=fun w' => w'.cell? ⟨gb239,0,none⟩ = some (.slice (some ad245) l1_0.length c1_0) ∧ w'.cell? ⟨gb239,1,none⟩ = some (.slice A1_1 l1_1.length c1_1) ∧ w'.cell? (ad245.add (x8_3).toNat) = some (.int .i64 (rd l1_0 x8_3))) (ds:=[]) #[false,false,false,false,false,false,false,false,false,false,false,false,false,false,false,false,false] (by kernel_rfl) rfl rfl ⟨(zP BK239.out 0).trans rfl,(zP BK239.out 1).trans rfl,((HB.out.cell (World.block_lt_of_cell? w _ hw245_0)).trans hw245_0)⟩ (fun hHeld => ?_);refine with_tabW spec_l4Fine.tab11 spec_l4Fine.bits11 (fun HT_ HW_ => ?_)
            generalize wr.drew = w57 at BK238 BK239 HB hx245_0 hHeld ⊢
            refine zut 0 48 HT_ ?_;refine zut 2 50 HT_ ?_;refine zwt 1 49 HT_ HW_ hHeld ?_;refine zut 3 51 HT_ ?_;refine zwt 4 52 HT_ HW_ hHeld ?_
            refine one_ (i:=5) (N:=some 53) #[true,true,true,true,true,true,false,false,false,false,false,false,false,false,false,false,false] rfl rfl (one_of HT_.out (by kernel_rfl)) (by decide) (fun K hK => ?_)
            refine goes_ Try.func129 (by kernel_rfl) rfl #[.int .i64 (rd l1_0 x8_3)] (by rfl) rfl rfl (by (try simp only [zCb,zMb,zNb]);first|done|rfl|(simp only [zLb,zDb];rfl)) ?_
            with_reducible refine (spec_IsVar.calls (rd l1_0 x8_3) false _ A40.out).mono ?_
            rintro e w' ⟨rfl,⟨nd,rfl⟩⟩
            refine ⟨_,rfl,?_⟩
            refine hK.out _ _ ⟨(zP BK239.out 0).trans rfl,(zP BK239.out 1).trans rfl,((HB.out.cell (World.block_lt_of_cell? w _ hw245_0)).trans hw245_0)⟩ (fun hHeld => ?_)
            clear hK K
            refine norm_ (a':=?_) ?_ ?_
            rotate_left
            ·
             show Act.put _ (some 53) _ = _
             simp only [Act.put,zO,zEb,zFb,i64_w,i32_w]
             rfl
            refine zut 6 54 HT_ ?_;refine zot 7 55 HT_ ?_;refine zot 8 56 HT_ ?_;refine zot 9 57 HT_ ?_;refine zot 10 58 HT_ ?_;refine zot 11 59 HT_ ?_;refine zot 12 60 HT_ ?_;refine zot 13 61 HT_ ?_;refine zot 14 62 HT_ ?_;refine zot 15 63 HT_ ?_;refine zut 16 64 HT_ ?_
            refine done_ (done_of HT_.out (by kernel_rfl)) ?_
            try go_wp2
            go_roundg k3
            case measure => have:=HJ3.out;have:=HK2.out;have:=HK3.out;omega
            case rel => exact ⟨(wrap64 (x8_3 + 1)),za,H',⟨by have:=HJ3.out;have:=HK2.out;have:=HK3.out;omega⟩,⟨zx BK238⟩,⟨zx BK239⟩,⟨zz HB⟩⟩
          ·
           rw [if_neg c39] at H
           exact absurd H (by simp)
         ·
          rw [if_neg c38] at H;have c38b0:=decide_eq_false c38;clear c38
          obtain rfl:=Option.some.inj H
          have hnb58:=NB239_238.out;have hnc58:=NB238_239.out;have hcz59_0:=zc (.slice A1_0 l1_0.length c1_0) BK239 0 rfl;have hcz59_1:=zc (.slice A1_1 l1_1.length c1_1) BK239 1 rfl;have hfz59_0:=blk_frozen BK239.out 0;have hfz59_1:=blk_frozen BK239.out 1
          go_wp2
          go_ret
          exact ⟨by first|rfl|(simp [errW_none,errW_some] <;> rfl)|(simp [*,errW_none,errW_some] <;> rfl),zz HB⟩

end Go.Proofs.Ytfelabhakgcifaa.QFnExactIsAnswer
