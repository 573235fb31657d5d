/- Walks through the Go functions that FnExactIsEquivalent reaches: each call returns what the Lean function beside it says, within the bounds that the theorem names. -/
import Derived.Test.YtanbgnjfllpkgaaQFnExactIsEquivalentx0
import Derived.Test.YtanbgnjfllpkgaaQFnExactIsEquivalentx2
import Derived.Test.YtanbgnjfllpkgaaQFnExactIsEquivalentx3
import Derived.Test.YtanbgnjfllpkgaaQFnExactIsEquivalentx4
import Derived.Test.YtanbgnjfllpkgaaQFnExactIsEquivalentx5
namespace Go.Proofs.Ytanbgnjfllpkgaa.QFnExactIsEquivalent
open Go.RowKit Go.Proofs.YtanbgnjfllpkgaaW.PrintWords Go.Proofs.YtanbgnjfllpkgaaW.PrintLast Go.Proofs.YtanbgnjfllpkgaaW.PrintMore
attribute [local go_sem] max2_int min2_int max_two min_two max_three min_three max_four min_four   -- for this text's walks alone
set_option linter.unusedVariables false
set_option linter.unusedSimpArgs false


/-! ### spec_l4Fine: function 126 -/
mutual
def spec_l4Fine.j0 : Nat → Bool → List Int → List Int → List (S97) → Option (Bool)
 | 0, _, _, _, _ => none
 | k + 1, x25, x189000, x190000, x190001 => if x25 = true then (some false) else (spec_l4Fine.l0 k 0 x189000 x190000 x190001)
def spec_l4Fine.l0 : Nat → Int → List Int → List Int → List (S97) → Option (Bool)
 | 0, _, _, _, _ => none
 | k + 1, x7, x189000, x190000, x190001 => if x7 < (x190001.length : Int) then (if 0 ≤ x7 then ((spec_IsAtom.f k x189000 ((rd_T97 x190001 x7).f0) ((rd_T97 x190001 x7).f1)).bind fun t194 => (if t194 = true then (spec_l4Fine.l0 k (wrap64 (x7 + 1)) x189000 x190000 x190001) else (some false))) else (none)) else (spec_l4Fine.l1 k 0 x190000 x190001)
def spec_l4Fine.l1 : Nat → Int → List Int → List (S97) → Option (Bool)
 | 0, _, _, _ => none
 | k + 1, x8, x190000, x190001 => if x8 < (x190000.length : Int) then (if 0 ≤ x8 then ((spec_IsVar.f (rd x190000 x8)).bind fun t196 => (if t196 = true then ((spec_l4BodyVars.f k x190000 x190001).bind fun t197 => ((spec_l2Has.f k t197 (rd x190000 x8)).bind fun t201 => (if t201 = true then (spec_l4Fine.l1 k (wrap64 (x8 + 1)) x190000 x190001) else (some false)))) else (spec_l4Fine.l1 k (wrap64 (x8 + 1)) x190000 x190001))) else (none)) else (some true)
end
def spec_l4Fine.f (k : Nat) (l0_0 : List Int) (l1_0 : List Int) (l1_1 : List (S97)) (a2 : Int) : Option (Bool) := (spec_IsSchema.f k l0_0).bind fun t190 => (if t190 = true then ((spec_l3Terms.f k l1_0).bind fun t191 => (if t191 = true then ((spec_l1In.f (l1_1.length : Int) 1 a2).bind fun t192 => (spec_l4Fine.j0 k (!t192) l0_0 l1_0 l1_1)) else (spec_l4Fine.j0 k true l0_0 l1_0 l1_1))) else (spec_l4Fine.j0 k true l0_0 l1_0 l1_1))
theorem spec_l4Fine.mono_l : ∀ k, (∀ y0 y1 y2 y3, LeO (spec_l4Fine.j0 k y0 y1 y2 y3) (spec_l4Fine.j0 (k + 1) y0 y1 y2 y3)) ∧ (∀ y0 y1 y2 y3, LeO (spec_l4Fine.l0 k y0 y1 y2 y3) (spec_l4Fine.l0 (k + 1) y0 y1 y2 y3)) ∧ (∀ y0 y1 y2, LeO (spec_l4Fine.l1 k y0 y1 y2) (spec_l4Fine.l1 (k + 1) y0 y1 y2))
 | 0 => ⟨fun _ _ _ _ r h => by simp [spec_l4Fine.j0] at h, fun _ _ _ _ r h => by simp [spec_l4Fine.l0] at h, fun _ _ _ r h => by simp [spec_l4Fine.l1] at h⟩
 | k + 1 => by
  obtain ⟨ih0,ih1,ih2⟩:=spec_l4Fine.mono_l k
  refine ⟨?_,?_,?_⟩
  (intros;unfold spec_l4Fine.j0;rotate_left)
  (intros;unfold spec_l4Fine.l0;rotate_left)
  (intros;unfold spec_l4Fine.l1;rotate_left)
  all_goals repeat' first
  | (with_reducible exact ih0 _ _ _ _)
  | (with_reducible exact ih1 _ _ _ _)
  | (with_reducible exact ih2 _ _ _)
  | (with_reducible exact spec_IsAtom.mono _ _ _ _)
  | (with_reducible exact spec_IsSchema.mono _ _)
  | (with_reducible exact spec_l2Has.mono _ _ _)
  | (with_reducible exact spec_l3Terms.mono _ _)
  | (with_reducible exact spec_l4BodyVars.mono _ _ _)
  | (with_reducible exact LeO.refl _)
  | (with_reducible exact LeO.none _)
  | (with_reducible refine LeO.ite ?_ ?_)
  | (with_reducible refine LeO.bind ?_ (fun _ => ?_))
  | exact ih0 _ _ _ _
  | exact ih1 _ _ _ _
  | exact ih2 _ _ _
  | exact LeO.none _
  | refine LeO.ite ?_ ?_
  | refine LeO.bind ?_ (fun _ => ?_)
theorem spec_l4Fine.mono : ∀ a0 a1 a2 a3 k, LeO (spec_l4Fine.f k a0 a1 a2 a3) (spec_l4Fine.f (k + 1) a0 a1 a2 a3) := by
 intro a0 a1 a2 a3 k
 obtain ⟨ih0,ih1,ih2⟩:=spec_l4Fine.mono_l k
 unfold spec_l4Fine.f
 repeat' first
   | (with_reducible exact ih0 _ _ _ _)
   | (with_reducible exact ih1 _ _ _ _)
   | (with_reducible exact ih2 _ _ _)
   | (with_reducible exact spec_IsAtom.mono _ _ _ _)
   | (with_reducible exact spec_IsSchema.mono _ _)
   | (with_reducible exact spec_l2Has.mono _ _ _)
   | (with_reducible exact spec_l3Terms.mono _ _)
   | (with_reducible exact spec_l4BodyVars.mono _ _ _)
   | (with_reducible exact LeO.refl _)
   | (with_reducible exact LeO.none _)
   | (with_reducible refine LeO.ite ?_ ?_)
   | (with_reducible refine LeO.bind ?_ (fun _ => ?_))
   | exact ih0 _ _ _ _
   | exact ih1 _ _ _ _
   | exact ih2 _ _ _
   | exact LeO.none _
   | refine LeO.ite ?_ ?_
   | refine LeO.bind ?_ (fun _ => ?_)
def spec_l4Fine.T6 : Bool × List (List Nat × List Nat) := (true, [([], []), ([], []), ([1], [1]), ([], []), ([2, 3], [2, 3]), ([4], [4]), ([0, 5], [0, 5]), ([6], [6])])
def spec_l4Fine.B6 : List Nat := [0, 0, 2, 0, 14, 30, 63, 127]
theorem spec_l4Fine.tab6 : rtab .any (opsOf Try.f126 6) = spec_l4Fine.T6 := by kernel_rfl
theorem spec_l4Fine.bits6 : waitsOk spec_l4Fine.T6.2 spec_l4Fine.B6 = true := by kernel_rfl
def spec_l4Fine.T11 : Bool × List (List Nat × List Nat) := (true, [([], []), ([0], [0]), ([], []), ([1, 2], [1, 2]), ([3], [3]), ([4], [4]), ([5, 5], [5]), ([6], [6]), ([7, 6, 6], [6, 7]), ([6], [6]), ([9, 6], [6, 9]), ([6], [6]), ([10, 11, 6], [6, 10, 11]), ([12, 6], [6, 12]), ([8, 13, 8, 6], [6, 8, 13]), ([14, 6], [6, 14]), ([6, 15], [6, 15])])
def spec_l4Fine.B11 : List Nat := [0, 1, 0, 7, 15, 31, 63, 127, 255, 127, 639, 127, 3711, 7807, 16383, 32767, 65535]
theorem spec_l4Fine.tab11 : rtab .any (opsOf Try.f126 11) = spec_l4Fine.T11 := by kernel_rfl
theorem spec_l4Fine.bits11 : waitsOk spec_l4Fine.T11.2 spec_l4Fine.B11 = true := by kernel_rfl
set_option maxHeartbeats 8000000 in
set_option maxRecDepth 100000 in
theorem spec_l4Fine.calls (k : Nat) (A0_0 : Option Addr) (c0_0 : Nat) (l0_0 : List Int) (A1_0 : Option Addr) (c1_0 : Nat) (l1_0 : List Int) (A1_1 : Option Addr) (c1_1 : Nat) (l1_1 : List (S97)) (a2 : Int) (r : Bool) (w : World) (hr0_0 : Kd.C (Kd.int .i64) w A0_0 l0_0.length l0_0) (hc0_0 : l0_0.length ≤ c0_0) (hr1_0 : Kd.C (Kd.int .i64) w A1_0 l1_0.length l1_0) (hc1_0 : l1_0.length ≤ c1_0) (hr1_1 : Kd.C k97 w A1_1 l1_1.length l1_1) (hc1_1 : l1_1.length ≤ c1_1) (h : spec_l4Fine.f k l0_0 l1_0 l1_1 a2 = some r) :
  Calls Try.prog 126 #[.agg #[.slice A0_0 l0_0.length c0_0], .agg #[.slice A1_0 l1_0.length c1_0, .slice A1_1 l1_1.length c1_1], .int .i64 a2] w fun e w' => e = .returned (.bool r) ∧ Below w.heap.size w w' := by
 have hu65:=Try.underlying65;have hu46:=Try.underlying46;have hu97:=Try.underlying97;have HR0_0:=zA hr0_0;have HC0_0:=zA hc0_0;clear hr0_0 hc0_0;have HR1_0:=zA hr1_0;have HC1_0:=zA hc1_0;clear hr1_0 hc1_0;have HR1_1:=zA hr1_1;have HC1_1:=zA hc1_1;clear hr1_1 hc1_1;have HB:=zA (Below.refl w.heap.size w)
 have H : ((spec_IsSchema.f k l0_0).bind fun t190 => (if t190 = true then ((spec_l3Terms.f k l1_0).bind fun t191 => (if t191 = true then ((spec_l1In.f (l1_1.length : Int) 1 a2).bind fun t192 => (spec_l4Fine.j0 k (!t192) l0_0 l1_0 l1_1)) else (spec_l4Fine.j0 k true l0_0 l1_0 l1_1))) else (spec_l4Fine.j0 k true l0_0 l1_0 l1_1))) = some r:=h
 clear h;have HC4:=zA H;clear H
 go_enter Try.func126,Try.ntmps126
 go_upto_region 1 with (first|((with_reducible refine gate_dst (N:=3) rfl ?_);(try (refine gate_guard (by rfl) ?_;dsimp only));refine box_event ?hg (N:=3) ?hd (cs:=#[.slice A0_0 l0_0.length c0_0]) (t:=65) ?hr ?_;(case hd => rfl);(case hg => rfl);(case hr => first|(go_simp;done)|(go_simp;rfl));intro gb188 hg w5 hbox hb;have BK188:=zA (hbox);have GW188:=zA ((by rw [hg];exact (zT (zz HB)) : w.heap.size ≤ gb188));have GE188:=zA ((by rw [hg];exact (zT (zz HB)) : w.heap.size ≤ gb188));replace HB:=zA (zJb (zz HB) hb);clear hb hbox hg)|((with_reducible refine gate_dst (N:=4) rfl ?_);(try (refine gate_guard (by rfl) ?_;dsimp only));refine box_event ?hg (N:=4) ?hd (cs:=#[.slice A1_0 l1_0.length c1_0,.slice A1_1 l1_1.length c1_1]) (t:=46) ?hr ?_;(case hd => rfl);(case hg => rfl);(case hr => first|(go_simp;done)|(go_simp;rfl));intro gb189 hg w6 hbox hb;have BK189:=zA (hbox);have GW189:=zA ((by rw [hg];exact (zT (zz HB)) : w.heap.size ≤ gb189));have GE189:=zA ((by rw [hg];exact (zT (zz HB)) : w.heap.size ≤ gb189));replace HB:=zA (zJb (zz HB) hb);have NB188_189:=zA ((by rw [hg];exact Nat.ne_of_lt (blk_lt (g:=gb188) (o:=.cells #[.slice A0_0 l0_0.length c0_0] 65 (0,0)) (zx BK188)) : gb188 ≠ gb189));have NB189_188:=zA ((by rw [hg];exact Nat.ne_of_gt (blk_lt (g:=gb188) (o:=.cells #[.slice A0_0 l0_0.length c0_0] 65 (0,0)) (zx BK188)) : gb189 ≠ gb188));replace BK188:=zA (zQ (g:=gb188) (o:=.cells #[.slice A0_0 l0_0.length c0_0] 65 (0,0)) (zx BK188) hb);clear hb hbox hg))
 (try simp only [Act.put,zO,zEb,zFb])
 go_cut [25] (fun v25 wc => ∃ (kq : Nat) (x25_3 : Bool),v25 = .bool x25_3 ∧ Aside0 (spec_l4Fine.j0 kq x25_3 l0_0 l1_0 l1_1 = some r) ∧ Aside0 (kq ≤ k) ∧ Aside0 (wc.heap[gb188]? = some (.cells #[(.slice A0_0 l0_0.length c0_0)] 65 (0,0))) ∧ Aside0 (wc.heap[gb189]? = some (.cells #[(.slice A1_0 l1_0.length c1_0),(.slice A1_1 l1_1.length c1_1)] 46 (0,0))) ∧ Aside0 (Below w.heap.size w wc))
 case first =>
  have H:=HC4.out;clear HC4;replace H:=Option.bind_eq_some_iff.mp H;obtain ⟨t190,A70,H⟩:=H;(try dsimp only at H);have A7:=zA A70;clear A70
  by_cases c8 : t190 = true
  ·
   subst c8
   rw [if_pos rfl] at H;replace H:=Option.bind_eq_some_iff.mp H;obtain ⟨t191,A90,H⟩:=H;(try dsimp only at H);have A9:=zA A90;clear A90
   by_cases c10 : t191 = true
   ·
    subst c10
    rw [if_pos rfl] at H;replace H:=Option.bind_eq_some_iff.mp H;obtain ⟨t192,A110,H⟩:=H;(try dsimp only at H);have A11:=zA A110;clear A110
    have H':=zA H
    clear H;have hnb12:=NB188_189.out;have hnc12:=NB189_188.out;have hcz13_0:=zc (.slice A0_0 l0_0.length c0_0) BK188 0 rfl;have hfz13_0:=blk_frozen BK188.out 0
    go_wp2_with (first|((with_reducible refine gate_callee (f:=148) rfl ?_);refine goesL_ (some 10) rfl rfl Try.func148 (by kernel_rfl) rfl #[.agg #[.slice A0_0 l0_0.length c0_0]] rfl (by (try simp only [zCb,zMb,zNb]);first|done|rfl|(simp only [zLb,zDb];rfl)) ?_;(with_reducible refine (spec_IsSchema.calls k _ _ l0_0 true _ ?side1 ?side2 A7.out).mono ?_);(case side1 => repeat (first|exact (zKb HR0_0.out HB.out)|(with_reducible refine zBb ?_ _)|(with_reducible refine zAb ?_ _)|(with_reducible refine zX ?_)));(case side2 => exact HC0_0.out);rintro e w14 ⟨rfl,hb⟩;refine ⟨_,rfl,?_⟩;replace BK188:=zA (zQ (g:=gb188) (o:=.cells #[.slice A0_0 l0_0.length c0_0] 65 (0,0)) (zx BK188) hb);replace BK189:=zA (zQ (g:=gb189) (o:=.cells #[.slice A1_0 l1_0.length c1_0,.slice A1_1 l1_1.length c1_1] 46 (0,0)) (zx BK189) hb);replace HB:=zA (zJb (zz HB) hb);(try clear hb);(try clear hb2);(try clear hk);(try clear hi);have hcz15_0:=zc (.slice A1_0 l1_0.length c1_0) BK189 0 rfl;have hcz15_1:=zc (.slice A1_1 l1_1.length c1_1) BK189 1 rfl;have hfz15_0:=blk_frozen BK189.out 0;have hfz15_1:=blk_frozen BK189.out 1)|(go_at_call 149;(with_reducible refine (spec_l3Terms.calls k _ _ l1_0 true _ ?side1 ?side2 A9.out).mono ?_);(case side1 => repeat (first|exact (zKb HR1_0.out HB.out)|(with_reducible refine zBb ?_ _)|(with_reducible refine zAb ?_ _)|(with_reducible refine zX ?_)));(case side2 => exact HC1_0.out);rintro e w' ⟨rfl,⟨nd,rfl⟩⟩)|(go_at_call 80;(with_reducible refine (spec_l1In.calls (l1_1.length : Int) 1 a2 t192 _ A11.out).mono ?_);rintro e w' ⟨rfl,⟨nd,rfl⟩⟩))
    go_meet
    case rel => exact ⟨_,(!t192),za,H',⟨by first|omega|exact Nat.le_refl _⟩,⟨zx BK188⟩,⟨zx BK189⟩,⟨zz HB⟩⟩
   ·
    replace c10:=Bool.eq_false_iff.mpr c10
    subst c10
    have H1 : (spec_l4Fine.j0 k true l0_0 l1_0 l1_1) = some r:=by rw [if_neg (show ¬ (false = true) by decide)] at H;exact H
    clear H;have H:=H1;clear H1
    have H':=zA H
    clear H;have hnb16:=NB188_189.out;have hnc16:=NB189_188.out;have hcz17_0:=zc (.slice A0_0 l0_0.length c0_0) BK188 0 rfl;have hfz17_0:=blk_frozen BK188.out 0
    go_wp2_with (first|((with_reducible refine gate_callee (f:=148) rfl ?_);refine goesL_ (some 10) rfl rfl Try.func148 (by kernel_rfl) rfl #[.agg #[.slice A0_0 l0_0.length c0_0]] rfl (by (try simp only [zCb,zMb,zNb]);first|done|rfl|(simp only [zLb,zDb];rfl)) ?_;(with_reducible refine (spec_IsSchema.calls k _ _ l0_0 true _ ?side1 ?side2 A7.out).mono ?_);(case side1 => repeat (first|exact (zKb HR0_0.out HB.out)|(with_reducible refine zBb ?_ _)|(with_reducible refine zAb ?_ _)|(with_reducible refine zX ?_)));(case side2 => exact HC0_0.out);rintro e w18 ⟨rfl,hb⟩;refine ⟨_,rfl,?_⟩;replace BK188:=zA (zQ (g:=gb188) (o:=.cells #[.slice A0_0 l0_0.length c0_0] 65 (0,0)) (zx BK188) hb);replace BK189:=zA (zQ (g:=gb189) (o:=.cells #[.slice A1_0 l1_0.length c1_0,.slice A1_1 l1_1.length c1_1] 46 (0,0)) (zx BK189) hb);replace HB:=zA (zJb (zz HB) hb);(try clear hb);(try clear hb2);(try clear hk);(try clear hi);have hcz19_0:=zc (.slice A1_0 l1_0.length c1_0) BK189 0 rfl;have hcz19_1:=zc (.slice A1_1 l1_1.length c1_1) BK189 1 rfl;have hfz19_0:=blk_frozen BK189.out 0;have hfz19_1:=blk_frozen BK189.out 1)|(go_at_call 149;(with_reducible refine (spec_l3Terms.calls k _ _ l1_0 false _ ?side1 ?side2 A9.out).mono ?_);(case side1 => repeat (first|exact (zKb HR1_0.out HB.out)|(with_reducible refine zBb ?_ _)|(with_reducible refine zAb ?_ _)|(with_reducible refine zX ?_)));(case side2 => exact HC1_0.out);rintro e w' ⟨rfl,⟨nd,rfl⟩⟩))
    go_meet
    case rel => exact ⟨_,(true),za,H',⟨by first|omega|exact Nat.le_refl _⟩,⟨zx BK188⟩,⟨zx BK189⟩,⟨zz HB⟩⟩
  ·
   replace c8:=Bool.eq_false_iff.mpr c8
   subst c8
   have H1 : (spec_l4Fine.j0 k true l0_0 l1_0 l1_1) = some r:=by rw [if_neg (show ¬ (false = true) by decide)] at H;exact H
   clear H;have H:=H1;clear H1
   have H':=zA H
   clear H;have hnb20:=NB188_189.out;have hnc20:=NB189_188.out;have hcz21_0:=zc (.slice A0_0 l0_0.length c0_0) BK188 0 rfl;have hfz21_0:=blk_frozen BK188.out 0
   go_wp2_with (first|((with_reducible refine gate_callee (f:=148) rfl ?_);refine goesL_ (some 10) rfl rfl Try.func148 (by kernel_rfl) rfl #[.agg #[.slice A0_0 l0_0.length c0_0]] rfl (by (try simp only [zCb,zMb,zNb]);first|done|rfl|(simp only [zLb,zDb];rfl)) ?_;(with_reducible refine (spec_IsSchema.calls k _ _ l0_0 false _ ?side1 ?side2 A7.out).mono ?_);(case side1 => repeat (first|exact (zKb HR0_0.out HB.out)|(with_reducible refine zBb ?_ _)|(with_reducible refine zAb ?_ _)|(with_reducible refine zX ?_)));(case side2 => exact HC0_0.out);rintro e w22 ⟨rfl,hb⟩;refine ⟨_,rfl,?_⟩;replace BK188:=zA (zQ (g:=gb188) (o:=.cells #[.slice A0_0 l0_0.length c0_0] 65 (0,0)) (zx BK188) hb);replace BK189:=zA (zQ (g:=gb189) (o:=.cells #[.slice A1_0 l1_0.length c1_0,.slice A1_1 l1_1.length c1_1] 46 (0,0)) (zx BK189) hb);replace HB:=zA (zJb (zz HB) hb);(try clear hb);(try clear hb2);(try clear hk);(try clear hi)))
   go_meet
   case rel => exact ⟨_,(true),za,H',⟨by first|omega|exact Nat.le_refl _⟩,⟨zx BK188⟩,⟨zx BK189⟩,⟨zz HB⟩⟩
 case rest =>
  clear HC4;(try clear c1);(try clear c2);(try clear p2);(try clear c8);(try clear c10);(try clear c12);(try clear c14);(try clear c16);(try clear c20);(try clear hcz13_0);(try clear hcz15_0);(try clear hcz15_1);(try clear hcz17_0);(try clear hcz19_0);(try clear hcz19_1);(try clear hcz21_0);(try clear hfz13_0);(try clear hfz15_0);(try clear hfz15_1);(try clear hfz17_0);(try clear hfz19_0);(try clear hfz19_1);(try clear hfz21_0);obtain ⟨kq,x25_3,rfl,HA,HJ3,BK188,BK189,HB⟩:=hcut
  cases kq with
  | zero => exact absurd HA.out (by simp [spec_l4Fine.j0])
  | succ kj3 =>
   have H:=HA.out;clear HA;simp only [spec_l4Fine.j0] at H
   by_cases c23 : x25_3 = true
   ·
    subst c23
    rw [if_pos rfl] at H
    obtain rfl:=Option.some.inj H
    go_wp2
    go_ret
    exact ⟨by first|rfl|(simp [errW_none,errW_some] <;> rfl)|(simp [*,errW_none,errW_some] <;> rfl),zz HB⟩
   ·
    replace c23:=Bool.eq_false_iff.mpr c23
    subst c23
    have H1 : (spec_l4Fine.l0 kj3 0 l0_0 l1_0 l1_1) = some r:=by rw [if_neg (show ¬ (false = true) by decide)] at H;exact H
    clear H;have H:=H1;clear H1
    have H':=zA H
    clear H
    go_wp2
    go_loopg [7] kj3 (fun kq v7 w' => ∃ (x7_2 : Int),v7 = .int .i64 x7_2 ∧ Aside0 (spec_l4Fine.l0 kq x7_2 l0_0 l1_0 l1_1 = some r) ∧ Aside0 (kq ≤ kj3) ∧ Aside0 (w'.heap[gb188]? = some (.cells #[(.slice A0_0 l0_0.length c0_0)] 65 (0,0))) ∧ Aside0 (w'.heap[gb189]? = some (.cells #[(.slice A1_0 l1_0.length c1_0),(.slice A1_1 l1_1.length c1_1)] 46 (0,0))) ∧ Aside0 (Below w.heap.size w w'))
    case atStart => exact ⟨(0),za,H',⟨Nat.le_refl _⟩,⟨zx BK188⟩,⟨zx BK189⟩,⟨zz HB⟩⟩
    case round =>
     clear H';(try clear c1);(try clear c2);(try clear p2);(try clear c8);(try clear c10);(try clear c12);(try clear c14);(try clear c16);(try clear c20);(try clear c23);(try clear hcz13_0);(try clear hcz15_0);(try clear hcz15_1);(try clear hcz17_0);(try clear hcz19_0);(try clear hcz19_1);(try clear hcz21_0);(try clear hfz13_0);(try clear hfz15_0);(try clear hfz15_1);(try clear hfz17_0);(try clear hfz19_0);(try clear hfz19_1);(try clear hfz21_0);(try clear p2);obtain ⟨x7_2,rfl,HA,HK2,BK188,BK189,HB⟩:=hrel
     cases gk with
     | zero => exact absurd HA.out (by simp [spec_l4Fine.l0])
     | succ k2 =>
      have H:=HA.out;clear HA;simp only [spec_l4Fine.l0] at H
      by_cases c24 : x7_2 < (l1_1.length : Int)
      ·
       rw [if_pos c24] at H;have c24b0:=decide_eq_true c24;clear c24
       by_cases c25 : 0 ≤ x7_2
       ·
        rw [if_pos c25] at H;have c25b0:=decide_eq_true c25;clear c25;replace H:=Option.bind_eq_some_iff.mp H;obtain ⟨t194,A260,H⟩:=H;(try dsimp only at H);have A26:=zA A260;clear A260
        by_cases c27 : t194 = true
        ·
         subst c27
         rw [if_pos rfl] at H
         have H':=zA H
         clear H;have hnb28:=NB189_188.out;have hnc28:=NB188_189.out;have hcz29_0:=zc (.slice A1_0 l1_0.length c1_0) BK189 0 rfl;have hcz29_1:=zc (.slice A1_1 l1_1.length c1_1) BK189 1 rfl;have hfz29_0:=blk_frozen BK189.out 0;have hfz29_1:=blk_frozen BK189.out 1
         try go_wp2
         have n0_:=zA (zI BK188.out);have n1_:=zA (zI BK189.out);have n2_:=zA (zJ HB.out);clear BK188;clear BK189;clear HB;have BK188:=n0_;have BK189:=n1_;have HB:=n2_;clear n0_ n1_ n2_;have p193 : 0 ≤ (x7_2 : Int):=zXb ze;have q193 : x7_2 < (l1_1.length : Int):=zXb ze;obtain ⟨ad193,A193_1,c193_1,e193,hx193_0,hx193_1,hl193_1,hi193_1⟩:=at_T97 HR1_1.out x7_2 p193 q193;have hw193_1:=hx193_1;have hw193_0:=hx193_0
         cases e193
         replace hx193_0:=(HB.out.cell (World.block_lt_of_cell? w _ hx193_0)).trans hx193_0;replace hx193_1:=(HB.out.cell (World.block_lt_of_cell? w _ hx193_1)).trans hx193_1;have HR193_1:=zA hi193_1;have HC193_1:=zA hl193_1;clear hi193_1 hl193_1;replace p193:=eq_true p193;replace q193:=eq_true q193
         refine start_ (n:=8) (S:=fun w' => w'.cell? ⟨gb188,0,none⟩ = some (.slice A0_0 l0_0.length c0_0) ∧ w'.cell? ⟨gb189,0,none⟩ = some (.slice A1_0 l1_0.length c1_0) ∧ w'.cell? ⟨gb189,1,none⟩ = some (.slice (some ad193) l1_1.length c1_1) ∧ w'.cell? (ad193.add ((x7_2).toNat * 2)) = some (.int .i64 ((rd_T97 l1_1 x7_2).f0)) ∧ w'.cell? ⟨(ad193.add ((x7_2).toNat * 2)).block,(ad193.add ((x7_2).toNat * 2)).off + 1,none⟩ = some (.slice A193_1 ((rd_T97 l1_1 x7_2).f1).length c193_1)) (ds:=[]) #[false,false,false,false,false,false,false,false] (by kernel_rfl) rfl rfl ⟨(zP BK188.out 0).trans rfl,(zP BK189.out 0).trans rfl,(zP BK189.out 1).trans rfl,((HB.out.cell (World.block_lt_of_cell? w _ hw193_0)).trans hw193_0),((HB.out.cell (World.block_lt_of_cell? w _ hw193_1)).trans hw193_1)⟩ (fun hHeld => ?_);refine with_tabW spec_l4Fine.tab6 spec_l4Fine.bits6 (fun HT_ HW_ => ?_)
         generalize wr.drew = w30 at BK188 BK189 HB HR193_1 hx193_0 hx193_1 hHeld ⊢
         refine pure_ (i:=1) (N:=some 34) (v:=?_) (a':=?_) #[false,true,false,false,false,false,false,false] rfl rfl (any_of HT_.out (by kernel_rfl)) (fun _ _ _ h => h) (Or.inl ⟨by rfl,?_⟩) ?_ ?_
         rotate_left
         ·
          intro w'
          go_simp
          with_reducible rfl
         rotate_left
         ·
          simp only [Act.put,zO,zEb,zFb,i64_w,i32_w]
          rfl
         refine pure_ (i:=3) (N:=some 36) (v:=?_) (a':=?_) #[false,true,false,true,false,false,false,false] rfl rfl (any_of HT_.out (by kernel_rfl)) (fun _ _ _ h => h) (Or.inl ⟨by rfl,?_⟩) ?_ ?_
         rotate_left
         ·
          intro w'
          go_simp
          with_reducible rfl
         rotate_left
         ·
          simp only [Act.put,zO,zEb,zFb,i64_w,i32_w]
          rfl
         refine take_ (i:=0) (N:=some 33) (v:=?_) (a':=?_) #[true,true,false,true,false,false,false,false] rfl rfl (take_ofW HT_.out HW_.out (by kernel_rfl)) (fun _ _ _ h => h) (Or.inl ⟨by rfl,?_⟩) hHeld ?_ ?_
         rotate_left
         ·
          rintro w' ⟨s0,s1,s2,s3,s4⟩
          go_simp
          with_reducible rfl
         rotate_left
         ·
          simp only [Act.put,zO,zEb,zFb,i64_w,i32_w]
          rfl
         refine take_ (i:=2) (N:=some 35) (v:=?_) (a':=?_) #[true,true,true,true,false,false,false,false] rfl rfl (take_ofW HT_.out HW_.out (by kernel_rfl)) (fun _ _ _ h => h) (Or.inl ⟨by rfl,?_⟩) hHeld ?_ ?_
         rotate_left
         ·
          rintro w' ⟨s0,s1,s2,s3,s4⟩
          go_simp
          with_reducible rfl
         rotate_left
         ·
          simp only [Act.put,zO,zEb,zFb,i64_w,i32_w]
          rfl
         refine pure_ (i:=4) (N:=some 37) (v:=?_) (a':=?_) #[true,true,true,true,true,false,false,false] rfl rfl (any_of HT_.out (by kernel_rfl)) (fun _ _ _ h => h) (Or.inl ⟨by rfl,?_⟩) ?_ ?_
         rotate_left
         ·
          intro w'
          go_simp
          with_reducible rfl
         rotate_left
         ·
          simp only [Act.put,zO,zEb,zFb,i64_w,i32_w]
          rfl
         refine take_ (i:=5) (N:=some 38) (v:=?_) (a':=?_) #[true,true,true,true,true,true,false,false] rfl rfl (take_ofW HT_.out HW_.out (by kernel_rfl)) (fun _ _ _ h => h) (Or.inl ⟨by rfl,?_⟩) hHeld ?_ ?_
         rotate_left
         ·
          rintro w' ⟨s0,s1,s2,s3,s4⟩
          go_simp
          with_reducible rfl
         rotate_left
         ·
          simp only [Act.put,zO,zEb,zFb,i64_w,i32_w]
          rfl
         refine one_ (i:=6) (N:=some 39) #[true,true,true,true,true,true,true,false] rfl rfl (one_of HT_.out (by kernel_rfl)) (by decide) (fun K hK => ?_)
         refine goes_ Try.func150 (by kernel_rfl) rfl #[.agg #[.slice A0_0 l0_0.length c0_0],.agg #[.int .i64 ((rd_T97 l1_1 x7_2).f0),.slice A193_1 ((rd_T97 l1_1 x7_2).f1).length c193_1]] (by rfl) rfl rfl (by (try simp only [zCb,zMb,zNb]);first|done|rfl|(simp only [zLb,zDb];rfl)) ?_
         with_reducible refine (spec_IsAtom.calls k2 _ _ l0_0 ((rd_T97 l1_1 x7_2).f0) _ _ ((rd_T97 l1_1 x7_2).f1) true _ ?side1 ?side2 ?side3 ?side4 A26.out).mono ?_
         (case side1 => repeat (first|exact (zKb HR0_0.out HB.out)|(with_reducible refine zBb ?_ _)|(with_reducible refine zAb ?_ _)|(with_reducible refine zX ?_)))
         (case side2 => exact HC0_0.out)
         (case side3 => repeat (first|exact (zKb HR193_1.out HB.out)|(with_reducible refine zBb ?_ _)|(with_reducible refine zAb ?_ _)|(with_reducible refine zX ?_)))
         (case side4 => exact HC193_1.out)
         rintro e w31 ⟨rfl,hb⟩
         refine ⟨_,rfl,?_⟩
         have n0_:=zA (zQ (g:=gb188) (o:=.cells #[.slice A0_0 l0_0.length c0_0] 65 (0,0)) (zx BK188) hb);have n1_:=zA (zQ (g:=gb189) (o:=.cells #[.slice A1_0 l1_0.length c1_0,.slice (some ad193) l1_1.length c1_1] 46 (0,0)) (zx BK189) hb);have n2_:=zA (zJb (zz HB) hb);clear BK188;clear BK189;clear HB;have BK188:=n0_;have BK189:=n1_;have HB:=n2_;clear n0_ n1_ n2_;(try clear hb);(try clear hb2);(try clear hk);(try clear hi)
         refine hK.out _ _ ⟨(zP BK188.out 0).trans rfl,(zP BK189.out 0).trans rfl,(zP BK189.out 1).trans rfl,((HB.out.cell (World.block_lt_of_cell? w _ hw193_0)).trans hw193_0),((HB.out.cell (World.block_lt_of_cell? w _ hw193_1)).trans hw193_1)⟩ (fun hHeld => ?_)
         clear hK K
         refine norm_ (a':=?_) ?_ ?_
         rotate_left
         ·
          show Act.put _ (some 39) _ = _
          simp only [Act.put,zO,zEb,zFb,i64_w,i32_w]
          rfl
         refine pure_ (i:=7) (N:=some 40) (v:=?_) (a':=?_) #[true,true,true,true,true,true,true,true] rfl rfl (any_of HT_.out (by kernel_rfl)) (fun _ _ _ h => h) (Or.inl ⟨by rfl,?_⟩) ?_ ?_
         rotate_left
         ·
          intro w'
          go_simp
          with_reducible rfl
         rotate_left
         ·
          simp only [Act.put,zO,zEb,zFb,i64_w,i32_w]
          rfl
         refine done_ (done_of HT_.out (by kernel_rfl)) ?_
         try go_wp2
         go_roundg k2
         case measure => have:=HJ3.out;have:=HK2.out;omega
         case rel => exact ⟨(wrap64 (x7_2 + 1)),za,H',⟨by have:=HJ3.out;have:=HK2.out;omega⟩,⟨zx BK188⟩,⟨zx BK189⟩,⟨zz HB⟩⟩
        ·
         replace c27:=Bool.eq_false_iff.mpr c27
         subst c27
         have H1 : (some false) = some r:=by rw [if_neg (show ¬ (false = true) by decide)] at H;exact H
         clear H;have H:=H1;clear H1
         obtain rfl:=Option.some.inj H
         have hnb32:=NB189_188.out;have hnc32:=NB188_189.out;have hcz33_0:=zc (.slice A1_0 l1_0.length c1_0) BK189 0 rfl;have hcz33_1:=zc (.slice A1_1 l1_1.length c1_1) BK189 1 rfl;have hfz33_0:=blk_frozen BK189.out 0;have hfz33_1:=blk_frozen BK189.out 1
         try go_wp2
         have n0_:=zA (zI BK188.out);have n1_:=zA (zI BK189.out);have n2_:=zA (zJ HB.out);clear BK188;clear BK189;clear HB;have BK188:=n0_;have BK189:=n1_;have HB:=n2_;clear n0_ n1_ n2_;have p193 : 0 ≤ (x7_2 : Int):=zXb ze;have q193 : x7_2 < (l1_1.length : Int):=zXb ze;obtain ⟨ad193,A193_1,c193_1,e193,hx193_0,hx193_1,hl193_1,hi193_1⟩:=at_T97 HR1_1.out x7_2 p193 q193;have hw193_1:=hx193_1;have hw193_0:=hx193_0
         cases e193
         replace hx193_0:=(HB.out.cell (World.block_lt_of_cell? w _ hx193_0)).trans hx193_0;replace hx193_1:=(HB.out.cell (World.block_lt_of_cell? w _ hx193_1)).trans hx193_1;have HR193_1:=zA hi193_1;have HC193_1:=zA hl193_1;clear hi193_1 hl193_1;replace p193:=eq_true p193;replace q193:=eq_true q193
         refine start_ (n:=8) (S:=fun w' => w'.cell? ⟨gb188,0,none⟩ = some (.slice A0_0 l0_0.length c0_0) ∧ w'.cell? ⟨gb189,0,none⟩ = some (.slice A1_0 l1_0.length c1_0) ∧ w'.cell? ⟨gb189,1,none⟩ = some (.slice (some ad193) l1_1.length c1_1) ∧ w'.cell? (ad193.add ((x7_2).toNat * 2)) = some (.int .i64 ((rd_T97 l1_1 x7_2).f0)) ∧ w'.cell? ⟨(ad193.add ((x7_2).toNat * 2)).block,(ad193.add ((x7_2).toNat * 2)).off + 1,none⟩ = some (.slice A193_1 ((rd_T97 l1_1 x7_2).f1).length c193_1)) (ds:=[]) #[false,false,false,false,false,false,false,false] (by kernel_rfl) rfl rfl ⟨(zP BK188.out 0).trans rfl,(zP BK189.out 0).trans rfl,(zP BK189.out 1).trans rfl,((HB.out.cell (World.block_lt_of_cell? w _ hw193_0)).trans hw193_0),((HB.out.cell (World.block_lt_of_cell? w _ hw193_1)).trans hw193_1)⟩ (fun hHeld => ?_);refine with_tabW spec_l4Fine.tab6 spec_l4Fine.bits6 (fun HT_ HW_ => ?_)
         generalize wr.drew = w34 at BK188 BK189 HB HR193_1 hx193_0 hx193_1 hHeld ⊢
         refine pure_ (i:=1) (N:=some 34) (v:=?_) (a':=?_) #[false,true,false,false,false,false,false,false] rfl rfl (any_of HT_.out (by kernel_rfl)) (fun _ _ _ h => h) (Or.inl ⟨by rfl,?_⟩) ?_ ?_
         rotate_left
         ·
          intro w'
          go_simp
          with_reducible rfl
         rotate_left
         ·
          simp only [Act.put,zO,zEb,zFb,i64_w,i32_w]
          rfl
         refine pure_ (i:=3) (N:=some 36) (v:=?_) (a':=?_) #[false,true,false,true,false,false,false,false] rfl rfl (any_of HT_.out (by kernel_rfl)) (fun _ _ _ h => h) (Or.inl ⟨by rfl,?_⟩) ?_ ?_
         rotate_left
         ·
          intro w'
          go_simp
          with_reducible rfl
         rotate_left
         ·
          simp only [Act.put,zO,zEb,zFb,i64_w,i32_w]
          rfl
         refine take_ (i:=0) (N:=some 33) (v:=?_) (a':=?_) #[true,true,false,true,false,false,false,false] rfl rfl (take_ofW HT_.out HW_.out (by kernel_rfl)) (fun _ _ _ h => h) (Or.inl ⟨by rfl,?_⟩) hHeld ?_ ?_
         rotate_left
         ·
          rintro w' ⟨s0,s1,s2,s3,s4⟩
          go_simp
          with_reducible rfl
         rotate_left
         ·
          simp only [Act.put,zO,zEb,zFb,i64_w,i32_w]
          rfl
         refine take_ (i:=2) (N:=some 35) (v:=?_) (a':=?_) #[true,true,true,true,false,false,false,false] rfl rfl (take_ofW HT_.out HW_.out (by kernel_rfl)) (fun _ _ _ h => h) (Or.inl ⟨by rfl,?_⟩) hHeld ?_ ?_
         rotate_left
         ·
          rintro w' ⟨s0,s1,s2,s3,s4⟩
          go_simp
          with_reducible rfl
         rotate_left
         ·
          simp only [Act.put,zO,zEb,zFb,i64_w,i32_w]
          rfl
         refine pure_ (i:=4) (N:=some 37) (v:=?_) (a':=?_) #[true,true,true,true,true,false,false,false] rfl rfl (any_of HT_.out (by kernel_rfl)) (fun _ _ _ h => h) (Or.inl ⟨by rfl,?_⟩) ?_ ?_
         rotate_left
         ·
          intro w'
          go_simp
          with_reducible rfl
         rotate_left
         ·
          simp only [Act.put,zO,zEb,zFb,i64_w,i32_w]
          rfl
         refine take_ (i:=5) (N:=some 38) (v:=?_) (a':=?_) #[true,true,true,true,true,true,false,false] rfl rfl (take_ofW HT_.out HW_.out (by kernel_rfl)) (fun _ _ _ h => h) (Or.inl ⟨by rfl,?_⟩) hHeld ?_ ?_
         rotate_left
         ·
          rintro w' ⟨s0,s1,s2,s3,s4⟩
          go_simp
          with_reducible rfl
         rotate_left
         ·
          simp only [Act.put,zO,zEb,zFb,i64_w,i32_w]
          rfl
         refine one_ (i:=6) (N:=some 39) #[true,true,true,true,true,true,true,false] rfl rfl (one_of HT_.out (by kernel_rfl)) (by decide) (fun K hK => ?_)
         refine goes_ Try.func150 (by kernel_rfl) rfl #[.agg #[.slice A0_0 l0_0.length c0_0],.agg #[.int .i64 ((rd_T97 l1_1 x7_2).f0),.slice A193_1 ((rd_T97 l1_1 x7_2).f1).length c193_1]] (by rfl) rfl rfl (by (try simp only [zCb,zMb,zNb]);first|done|rfl|(simp only [zLb,zDb];rfl)) ?_
         with_reducible refine (spec_IsAtom.calls k2 _ _ l0_0 ((rd_T97 l1_1 x7_2).f0) _ _ ((rd_T97 l1_1 x7_2).f1) false _ ?side1 ?side2 ?side3 ?side4 A26.out).mono ?_
         (case side1 => repeat (first|exact (zKb HR0_0.out HB.out)|(with_reducible refine zBb ?_ _)|(with_reducible refine zAb ?_ _)|(with_reducible refine zX ?_)))
         (case side2 => exact HC0_0.out)
         (case side3 => repeat (first|exact (zKb HR193_1.out HB.out)|(with_reducible refine zBb ?_ _)|(with_reducible refine zAb ?_ _)|(with_reducible refine zX ?_)))
         (case side4 => exact HC193_1.out)
         rintro e w35 ⟨rfl,hb⟩
         refine ⟨_,rfl,?_⟩
         have n0_:=zA (zQ (g:=gb188) (o:=.cells #[.slice A0_0 l0_0.length c0_0] 65 (0,0)) (zx BK188) hb);have n1_:=zA (zQ (g:=gb189) (o:=.cells #[.slice A1_0 l1_0.length c1_0,.slice (some ad193) l1_1.length c1_1] 46 (0,0)) (zx BK189) hb);have n2_:=zA (zJb (zz HB) hb);clear BK188;clear BK189;clear HB;have BK188:=n0_;have BK189:=n1_;have HB:=n2_;clear n0_ n1_ n2_;(try clear hb);(try clear hb2);(try clear hk);(try clear hi)
         refine hK.out _ _ ⟨(zP BK188.out 0).trans rfl,(zP BK189.out 0).trans rfl,(zP BK189.out 1).trans rfl,((HB.out.cell (World.block_lt_of_cell? w _ hw193_0)).trans hw193_0),((HB.out.cell (World.block_lt_of_cell? w _ hw193_1)).trans hw193_1)⟩ (fun hHeld => ?_)
         clear hK K
         refine norm_ (a':=?_) ?_ ?_
         rotate_left
         ·
          show Act.put _ (some 39) _ = _
          simp only [Act.put,zO,zEb,zFb,i64_w,i32_w]
          rfl
         refine pure_ (i:=7) (N:=some 40) (v:=?_) (a':=?_) #[true,true,true,true,true,true,true,true] rfl rfl (any_of HT_.out (by kernel_rfl)) (fun _ _ _ h => h) (Or.inl ⟨by rfl,?_⟩) ?_ ?_
         rotate_left
         ·
          intro w'
          go_simp
          with_reducible rfl
         rotate_left
         ·
          simp only [Act.put,zO,zEb,zFb,i64_w,i32_w]
          rfl
         refine done_ (done_of HT_.out (by kernel_rfl)) ?_
         try go_wp2
         go_ret
         exact ⟨by first|rfl|(simp [errW_none,errW_some] <;> rfl)|(simp [*,errW_none,errW_some] <;> rfl),zz HB⟩
       ·
        rw [if_neg c25] at H
        exact absurd H (by simp)
      ·
       rw [if_neg c24] at H;have c24b0:=decide_eq_false c24;clear c24
       have H':=zA H
       clear H;have hnb36:=NB189_188.out;have hnc36:=NB188_189.out;have hcz37_0:=zc (.slice A1_0 l1_0.length c1_0) BK189 0 rfl;have hcz37_1:=zc (.slice A1_1 l1_1.length c1_1) BK189 1 rfl;have hfz37_0:=blk_frozen BK189.out 0;have hfz37_1:=blk_frozen BK189.out 1
       go_wp2
       go_loopg [8] k2 (fun kq v8 w' => ∃ (x8_3 : Int),v8 = .int .i64 x8_3 ∧ Aside0 (spec_l4Fine.l1 kq x8_3 l1_0 l1_1 = some r) ∧ Aside0 (kq ≤ k2) ∧ Aside0 (w'.heap[gb188]? = some (.cells #[(.slice A0_0 l0_0.length c0_0)] 65 (0,0))) ∧ Aside0 (w'.heap[gb189]? = some (.cells #[(.slice A1_0 l1_0.length c1_0),(.slice A1_1 l1_1.length c1_1)] 46 (0,0))) ∧ Aside0 (Below w.heap.size w w'))
       case atStart => exact ⟨(0),za,H',⟨Nat.le_refl _⟩,⟨zx BK188⟩,⟨zx BK189⟩,⟨zz HB⟩⟩
       case round =>
        clear H';(try clear c1);(try clear p1);(try clear q1);(try clear hx1);(try clear c2);(try clear p2);(try clear c3);(try clear p6);(try clear c8);(try clear c10);(try clear c12);(try clear c14);(try clear c15);(try clear c16);(try clear c19);(try clear p19);(try clear q19);(try clear hx19);(try clear c20);(try clear c23);(try clear c24);(try clear c24b0);(try clear c25);(try clear c25b0);(try clear c27);(try clear c28);(try clear c32);(try clear c36);(try clear hcz13_0);(try clear hcz15_0);(try clear hcz15_1);(try clear hcz17_0);(try clear hcz19_0);(try clear hcz19_1);(try clear hcz21_0);(try clear hcz29_0);(try clear hcz29_1);(try clear hcz33_0);(try clear hcz33_1);(try clear hcz37_0);(try clear hcz37_1);(try clear hfz13_0);(try clear hfz15_0);(try clear hfz15_1);(try clear hfz17_0);(try clear hfz19_0);(try clear hfz19_1);(try clear hfz21_0);(try clear hfz29_0);(try clear hfz29_1);(try clear hfz33_0);(try clear hfz33_1);(try clear hfz37_0);(try clear hfz37_1);(try clear hx193_0);(try clear hx193_1);(try clear p193);(try clear p2);(try clear q193);obtain ⟨x8_3,rfl,HA,HK3,BK188,BK189,HB⟩:=hrel
        cases gk with
        | zero => exact absurd HA.out (by simp [spec_l4Fine.l1])
        | succ k3 =>
         have H:=HA.out;clear HA;simp only [spec_l4Fine.l1] at H
         by_cases c38 : x8_3 < (l1_0.length : Int)
         ·
          rw [if_pos c38] at H;have c38b0:=decide_eq_true c38;clear c38
          by_cases c39 : 0 ≤ x8_3
          ·
           rw [if_pos c39] at H;have c39b0:=decide_eq_true c39;clear c39;replace H:=Option.bind_eq_some_iff.mp H;obtain ⟨t196,A400,H⟩:=H;(try dsimp only at H);have A40:=zA A400;clear A400
           by_cases c41 : t196 = true
           ·
            subst c41
            rw [if_pos rfl] at H;replace H:=Option.bind_eq_some_iff.mp H;obtain ⟨t197,A420,H⟩:=H;(try dsimp only at H);have A42:=zA A420;clear A420;replace H:=Option.bind_eq_some_iff.mp H;obtain ⟨t201,A430,H⟩:=H;(try dsimp only at H);have A43:=zA A430;clear A430
            by_cases c44 : t201 = true
            ·
             subst c44
             rw [if_pos rfl] at H
             have H':=zA H
             clear H;have hnb45:=NB189_188.out;have hnc45:=NB188_189.out;have hcz46_0:=zc (.slice A1_0 l1_0.length c1_0) BK189 0 rfl;have hcz46_1:=zc (.slice A1_1 l1_1.length c1_1) BK189 1 rfl;have hfz46_0:=blk_frozen BK189.out 0;have hfz46_1:=blk_frozen BK189.out 1
             try go_wp2
             have n0_:=zA (zI BK188.out);have n1_:=zA (zI BK189.out);have n2_:=zA (zJ HB.out);clear BK188;clear BK189;clear HB;have BK188:=n0_;have BK189:=n1_;have HB:=n2_;clear n0_ n1_ n2_;have p195 : 0 ≤ (x8_3 : Int):=zXb ze;have q195 : x8_3 < (l1_0.length : Int):=zXb ze;obtain ⟨ad195,e195,hx195_0⟩:=Kd.at_int HR1_0.out x8_3 p195 q195;have hw195_0:=hx195_0
             cases e195
             replace hx195_0:=(HB.out.cell (World.block_lt_of_cell? w _ hx195_0)).trans hx195_0;replace p195:=eq_true p195;replace q195:=eq_true q195;have p200 : 0 ≤ (x8_3 : Int):=zXb ze;have q200 : x8_3 < (l1_0.length : Int):=zXb ze;obtain ⟨ad200,e200,hx200_0⟩:=Kd.at_int HR1_0.out x8_3 p200 q200;have hw200_0:=hx200_0
             obtain rfl : ad195 = ad200:=(by injection e200)
             replace hx200_0:=(HB.out.cell (World.block_lt_of_cell? w _ hx200_0)).trans hx200_0;replace p200:=eq_true p200;replace q200:=eq_true q200
             refine start_ (n:=17) (S:=fun w' => w'.cell? ⟨gb189,0,none⟩ = some (.slice (some ad195) l1_0.length c1_0) ∧ w'.cell? ⟨gb189,1,none⟩ = some (.slice A1_1 l1_1.length c1_1) ∧ w'.cell? (ad195.add (x8_3).toNat) = some (.int .i64 (rd l1_0 x8_3)) ∧ w'.cell? (ad195.add (x8_3).toNat) = some (.int .i64 (rd l1_0 x8_3))) (ds:=[]) #[false,false,false,false,false,false,false,false,false,false,false,false,false,false,false,false,false] (by kernel_rfl) rfl rfl ⟨(zP BK189.out 0).trans rfl,(zP BK189.out 1).trans rfl,((HB.out.cell (World.block_lt_of_cell? w _ hw195_0)).trans hw195_0),((HB.out.cell (World.block_lt_of_cell? w _ hw200_0)).trans hw200_0)⟩ (fun hHeld => ?_);refine with_tabW spec_l4Fine.tab11 spec_l4Fine.bits11 (fun HT_ HW_ => ?_)
             generalize wr.drew = w47 at BK188 BK189 HB hx195_0 hx200_0 hHeld ⊢
             refine pure_ (i:=0) (N:=some 48) (v:=?_) (a':=?_) #[true,false,false,false,false,false,false,false,false,false,false,false,false,false,false,false,false] rfl rfl (any_of HT_.out (by kernel_rfl)) (fun _ _ _ h => h) (Or.inl ⟨by rfl,?_⟩) ?_ ?_
             rotate_left
             ·
              intro w'
              go_simp
              with_reducible rfl
             rotate_left
             ·
              simp only [Act.put,zO,zEb,zFb,i64_w,i32_w]
              rfl
             refine pure_ (i:=2) (N:=some 50) (v:=?_) (a':=?_) #[true,false,true,false,false,false,false,false,false,false,false,false,false,false,false,false,false] rfl rfl (any_of HT_.out (by kernel_rfl)) (fun _ _ _ h => h) (Or.inl ⟨by rfl,?_⟩) ?_ ?_
             rotate_left
             ·
              intro w'
              go_simp
              with_reducible rfl
             rotate_left
             ·
              simp only [Act.put,zO,zEb,zFb,i64_w,i32_w]
              rfl
             refine take_ (i:=1) (N:=some 49) (v:=?_) (a':=?_) #[true,true,true,false,false,false,false,false,false,false,false,false,false,false,false,false,false] rfl rfl (take_ofW HT_.out HW_.out (by kernel_rfl)) (fun _ _ _ h => h) (Or.inl ⟨by rfl,?_⟩) hHeld ?_ ?_
             rotate_left
             ·
              rintro w' ⟨s0,s1,s2,s3⟩
              go_simp
              with_reducible rfl
             rotate_left
             ·
              simp only [Act.put,zO,zEb,zFb,i64_w,i32_w]
              rfl
             refine pure_ (i:=3) (N:=some 51) (v:=?_) (a':=?_) #[true,true,true,true,false,false,false,false,false,false,false,false,false,false,false,false,false] rfl rfl (any_of HT_.out (by kernel_rfl)) (fun _ _ _ h => h) (Or.inl ⟨by rfl,?_⟩) ?_ ?_
             rotate_left
             ·
              intro w'
              go_simp
              with_reducible rfl
             rotate_left
             ·
              simp only [Act.put,zO,zEb,zFb,i64_w,i32_w]
              rfl
             refine take_ (i:=4) (N:=some 52) (v:=?_) (a':=?_) #[true,true,true,true,true,false,false,false,false,false,false,false,false,false,false,false,false] rfl rfl (take_ofW HT_.out HW_.out (by kernel_rfl)) (fun _ _ _ h => h) (Or.inl ⟨by rfl,?_⟩) hHeld ?_ ?_
             rotate_left
             ·
              rintro w' ⟨s0,s1,s2,s3⟩
              go_simp
              with_reducible rfl
             rotate_left
             ·
              simp only [Act.put,zO,zEb,zFb,i64_w,i32_w]
              rfl
             refine one_ (i:=5) (N:=some 53) #[true,true,true,true,true,true,false,false,false,false,false,false,false,false,false,false,false] rfl rfl (one_of HT_.out (by kernel_rfl)) (by decide) (fun K hK => ?_)
             refine goes_ Try.func117 (by kernel_rfl) rfl #[.int .i64 (rd l1_0 x8_3)] (by rfl) rfl rfl (by (try simp only [zCb,zMb,zNb]);first|done|rfl|(simp only [zLb,zDb];rfl)) ?_
             with_reducible refine (spec_IsVar.calls (rd l1_0 x8_3) true _ A40.out).mono ?_
             rintro e w' ⟨rfl,⟨nd,rfl⟩⟩
             refine ⟨_,rfl,?_⟩
             refine hK.out _ _ ⟨(zP BK189.out 0).trans rfl,(zP BK189.out 1).trans rfl,((HB.out.cell (World.block_lt_of_cell? w _ hw195_0)).trans hw195_0),((HB.out.cell (World.block_lt_of_cell? w _ hw200_0)).trans hw200_0)⟩ (fun hHeld => ?_)
             clear hK K
             refine norm_ (a':=?_) ?_ ?_
             rotate_left
             ·
              show Act.put _ (some 53) _ = _
              simp only [Act.put,zO,zEb,zFb,i64_w,i32_w]
              rfl
             refine pure_ (i:=6) (N:=some 54) (v:=?_) (a':=?_) #[true,true,true,true,true,true,true,false,false,false,false,false,false,false,false,false,false] rfl rfl (any_of HT_.out (by kernel_rfl)) (fun _ _ _ h => h) (Or.inl ⟨by rfl,?_⟩) ?_ ?_
             rotate_left
             ·
              intro w'
              go_simp
              with_reducible rfl
             rotate_left
             ·
              simp only [Act.put,zO,zEb,zFb,i64_w,i32_w]
              rfl
             refine pure_ (i:=9) (N:=some 57) (v:=?_) (a':=?_) #[true,true,true,true,true,true,true,false,false,true,false,false,false,false,false,false,false] rfl rfl (any_of HT_.out (by kernel_rfl)) (fun _ _ _ h => h) (Or.inl ⟨by rfl,?_⟩) ?_ ?_
             rotate_left
             ·
              intro w'
              go_simp
              with_reducible rfl
             rotate_left
             ·
              simp only [Act.put,zO,zEb,zFb,i64_w,i32_w]
              rfl
             refine pure_ (i:=11) (N:=some 59) (v:=?_) (a':=?_) #[true,true,true,true,true,true,true,false,false,true,false,true,false,false,false,false,false] rfl rfl (any_of HT_.out (by kernel_rfl)) (fun _ _ _ h => h) (Or.inl ⟨by rfl,?_⟩) ?_ ?_
             rotate_left
             ·
              intro w'
              go_simp
              with_reducible rfl
             rotate_left
             ·
              simp only [Act.put,zO,zEb,zFb,i64_w,i32_w]
              rfl
             refine take_ (i:=7) (N:=some 55) (v:=?_) (a':=?_) #[true,true,true,true,true,true,true,true,false,true,false,true,false,false,false,false,false] rfl rfl (take_ofW HT_.out HW_.out (by kernel_rfl)) (fun _ _ _ h => h) (Or.inl ⟨by rfl,?_⟩) hHeld ?_ ?_
             rotate_left
             ·
              rintro w' ⟨s0,s1,s2,s3⟩
              go_simp
              with_reducible rfl
             rotate_left
             ·
              simp only [Act.put,zO,zEb,zFb,i64_w,i32_w]
              rfl
             refine take_ (i:=10) (N:=some 58) (v:=?_) (a':=?_) #[true,true,true,true,true,true,true,true,false,true,true,true,false,false,false,false,false] rfl rfl (take_ofW HT_.out HW_.out (by kernel_rfl)) (fun _ _ _ h => h) (Or.inl ⟨by rfl,?_⟩) hHeld ?_ ?_
             rotate_left
             ·
              rintro w' ⟨s0,s1,s2,s3⟩
              go_simp
              with_reducible rfl
             rotate_left
             ·
              simp only [Act.put,zO,zEb,zFb,i64_w,i32_w]
              rfl
             refine pure_ (i:=12) (N:=some 60) (v:=?_) (a':=?_) #[true,true,true,true,true,true,true,true,false,true,true,true,true,false,false,false,false] rfl rfl (any_of HT_.out (by kernel_rfl)) (fun _ _ _ h => h) (Or.inl ⟨by rfl,?_⟩) ?_ ?_
             rotate_left
             ·
              intro w'
              go_simp
              with_reducible rfl
             rotate_left
             ·
              simp only [Act.put,zO,zEb,zFb,i64_w,i32_w]
              rfl
             refine take_ (i:=13) (N:=some 61) (v:=?_) (a':=?_) #[true,true,true,true,true,true,true,true,false,true,true,true,true,true,false,false,false] rfl rfl (take_ofW HT_.out HW_.out (by kernel_rfl)) (fun _ _ _ h => h) (Or.inl ⟨by rfl,?_⟩) hHeld ?_ ?_
             rotate_left
             ·
              rintro w' ⟨s0,s1,s2,s3⟩
              go_simp
              with_reducible rfl
             rotate_left
             ·
              simp only [Act.put,zO,zEb,zFb,i64_w,i32_w]
              rfl
             refine one_ (i:=8) (N:=some 56) #[true,true,true,true,true,true,true,true,true,true,true,true,true,true,false,false,false] rfl rfl (one_of HT_.out (by kernel_rfl)) (by decide) (fun K hK => ?_)
             refine goes_ Try.func152 (by kernel_rfl) rfl #[.agg #[.slice (some ad195) l1_0.length c1_0,.slice A1_1 l1_1.length c1_1]] (by rfl) rfl rfl (by (try simp only [zCb,zMb,zNb]);first|done|rfl|(simp only [zLb,zDb];rfl)) ?_
             with_reducible refine (spec_l4BodyVars.calls k3 _ _ l1_0 _ _ l1_1 t197 _ ?side1 ?side2 ?side3 ?side4 A42.out).mono ?_
             (case side1 => repeat (first|exact (zKb HR1_0.out (zz HB))|(with_reducible refine zBb ?_ _)|(with_reducible refine zAb ?_ _)|(with_reducible refine zX ?_)))
             (case side2 => exact HC1_0.out)
             (case side3 => repeat (first|exact (zKb HR1_1.out (zz HB))|(with_reducible refine zBb ?_ _)|(with_reducible refine zAb ?_ _)|(with_reducible refine zX ?_)))
             (case side4 => exact HC1_1.out)
             rintro e w48 ⟨v198,rfl,ho0,hb⟩
             refine ⟨_,rfl,?_⟩
             have n0_:=zA (zHb ho0 (zT (zz HB)));have n1_:=zA (zQ (g:=gb188) (o:=.cells #[.slice A0_0 l0_0.length c0_0] 65 (0,0)) (zx BK188) hb);have n2_:=zA (zQ (g:=gb189) (o:=.cells #[.slice (some ad195) l1_0.length c1_0,.slice A1_1 l1_1.length c1_1] 46 (0,0)) (zx BK189) hb);have n3_:=zA (zJb (zz HB) hb);clear BK188;clear BK189;clear HB;have HO199:=n0_;have BK188:=n1_;have BK189:=n2_;have HB:=n3_;clear n0_ n1_ n2_ n3_;(try clear hb);(try clear hb2);(try clear hk);(try clear hi);(try clear ho0);obtain ⟨Ao49,co49,eo49⟩:=Kd.R_slice HO199.out
             (first|subst eo49|(injection eo49 with f1_ f2_ f3_;have f4_:=f1_.symm;have f5_:=f3_.symm;clear f1_ f2_ f3_;subst f4_;subst f5_))
             refine hK.out _ _ ⟨(zP BK189.out 0).trans rfl,(zP BK189.out 1).trans rfl,((HB.out.cell (World.block_lt_of_cell? w _ hw195_0)).trans hw195_0),((HB.out.cell (World.block_lt_of_cell? w _ hw200_0)).trans hw200_0)⟩ (fun hHeld => ?_)
             clear hK K
             refine norm_ (a':=?_) ?_ ?_
             rotate_left
             ·
              show Act.put _ (some 56) _ = _
              simp only [Act.put,zO,zEb,zFb,i64_w,i32_w]
              rfl
             refine one_ (i:=14) (N:=some 62) #[true,true,true,true,true,true,true,true,true,true,true,true,true,true,true,false,false] rfl rfl (one_of HT_.out (by kernel_rfl)) (by decide) (fun K hK => ?_)
             refine goes_ Try.func151 (by kernel_rfl) rfl #[.slice Ao49 t197.length co49,.int .i64 (rd l1_0 x8_3)] (by rfl) rfl rfl (by (try simp only [zCb,zMb,zNb]);first|done|rfl|(simp only [zLb,zDb];rfl)) ?_
             with_reducible refine (spec_l2Has.calls k3 _ _ t197 (rd l1_0 x8_3) true _ ?side1 ?side2 A43.out).mono ?_
             (case side1 => repeat (first|exact (Kd.R_reads' HO199.out).2.2|(with_reducible refine zBb ?_ _)|(with_reducible refine zAb ?_ _)|(with_reducible refine zX ?_)))
             (case side2 => exact (Kd.R_reads' HO199.out).2.1)
             rintro e w' ⟨rfl,⟨nd,rfl⟩⟩
             refine ⟨_,rfl,?_⟩
             refine hK.out _ _ ⟨(zP BK189.out 0).trans rfl,(zP BK189.out 1).trans rfl,((HB.out.cell (World.block_lt_of_cell? w _ hw195_0)).trans hw195_0),((HB.out.cell (World.block_lt_of_cell? w _ hw200_0)).trans hw200_0)⟩ (fun hHeld => ?_)
             clear hK K
             refine norm_ (a':=?_) ?_ ?_
             rotate_left
             ·
              show Act.put _ (some 62) _ = _
              simp only [Act.put,zO,zEb,zFb,i64_w,i32_w]
              rfl
             refine pure_ (i:=15) (N:=some 63) (v:=?_) (a':=?_) #[true,true,true,true,true,true,true,true,true,true,true,true,true,true,true,true,false] rfl rfl (any_of HT_.out (by kernel_rfl)) (fun _ _ _ h => h) (Or.inl ⟨by rfl,?_⟩) ?_ ?_
             rotate_left
             ·
              intro w'
              go_simp
              with_reducible rfl
             rotate_left
             ·
              simp only [Act.put,zO,zEb,zFb,i64_w,i32_w]
              rfl
             refine pure_ (i:=16) (N:=some 64) (v:=?_) (a':=?_) #[true,true,true,true,true,true,true,true,true,true,true,true,true,true,true,true,true] rfl rfl (any_of HT_.out (by kernel_rfl)) (fun _ _ _ h => h) (Or.inl ⟨by rfl,?_⟩) ?_ ?_
             rotate_left
             ·
              intro w'
              go_simp
              with_reducible rfl
             rotate_left
             ·
              simp only [Act.put,zO,zEb,zFb,i64_w,i32_w]
              rfl
             refine done_ (done_of HT_.out (by kernel_rfl)) ?_
             try go_wp2
             go_roundg k3
             case measure => have:=HJ3.out;have:=HK2.out;have:=HK3.out;omega
             case rel => exact ⟨(wrap64 (x8_3 + 1)),za,H',⟨by have:=HJ3.out;have:=HK2.out;have:=HK3.out;omega⟩,⟨zx BK188⟩,⟨zx BK189⟩,⟨zz HB⟩⟩
            ·
             replace c44:=Bool.eq_false_iff.mpr c44
             subst c44
             have H1 : (some false) = some r:=by rw [if_neg (show ¬ (false = true) by decide)] at H;exact H
             clear H;have H:=H1;clear H1
             obtain rfl:=Option.some.inj H
             have hnb50:=NB189_188.out;have hnc50:=NB188_189.out;have hcz51_0:=zc (.slice A1_0 l1_0.length c1_0) BK189 0 rfl;have hcz51_1:=zc (.slice A1_1 l1_1.length c1_1) BK189 1 rfl;have hfz51_0:=blk_frozen BK189.out 0;have hfz51_1:=blk_frozen BK189.out 1
             try go_wp2
             have n0_:=zA (zI BK188.out);have n1_:=zA (zI BK189.out);have n2_:=zA (zJ HB.out);clear BK188;clear BK189;clear HB;have BK188:=n0_;have BK189:=n1_;have HB:=n2_;clear n0_ n1_ n2_;have p195 : 0 ≤ (x8_3 : Int):=zXb ze;have q195 : x8_3 < (l1_0.length : Int):=zXb ze;obtain ⟨ad195,e195,hx195_0⟩:=Kd.at_int HR1_0.out x8_3 p195 q195;have hw195_0:=hx195_0
             cases e195
             replace hx195_0:=(HB.out.cell (World.block_lt_of_cell? w _ hx195_0)).trans hx195_0;replace p195:=eq_true p195;replace q195:=eq_true q195;have p200 : 0 ≤ (x8_3 : Int):=zXb ze;have q200 : x8_3 < (l1_0.length : Int):=zXb ze;obtain ⟨ad200,e200,hx200_0⟩:=Kd.at_int HR1_0.out x8_3 p200 q200;have hw200_0:=hx200_0
             obtain rfl : ad195 = ad200:=(by injection e200)
             replace hx200_0:=(HB.out.cell (World.block_lt_of_cell? w _ hx200_0)).trans hx200_0;replace p200:=eq_true p200;replace q200:=eq_true q200
             refine start_ (n:=17) (S:=fun w' => w'.cell? ⟨gb189,0,none⟩ = some (.slice (some ad195) l1_0.length c1_0) ∧ w'.cell? ⟨gb189,1,none⟩ = some (.slice A1_1 l1_1.length c1_1) ∧ w'.cell? (ad195.add (x8_3).toNat) = some (.int .i64 (rd l1_0 x8_3)) ∧ w'.cell? (ad195.add (x8_3).toNat) = some (.int .i64 (rd l1_0 x8_3))) (ds:=[]) #[false,false,false,false,false,false,false,false,false,false,false,false,false,false,false,false,false] (by kernel_rfl) rfl rfl ⟨(zP BK189.out 0).trans rfl,(zP BK189.out 1).trans rfl,((HB.out.cell (World.block_lt_of_cell? w _ hw195_0)).trans hw195_0),((HB.out.cell (World.block_lt_of_cell? w _ hw200_0)).trans hw200_0)⟩ (fun hHeld => ?_);refine with_tabW spec_l4Fine.tab11 spec_l4Fine.bits11 (fun HT_ HW_ => ?_)
             generalize wr.drew = w52 at BK188 BK189 HB hx195_0 hx200_0 hHeld ⊢
             refine pure_ (i:=0) (N:=some 48) (v:=?_) (a':=?_) #[true,false,false,false,false,false,false,false,false,false,false,false,false,false,false,false,false] rfl rfl (any_of HT_.out (by kernel_rfl)) (fun _ _ _ h => h) (Or.inl ⟨by rfl,?_⟩) ?_ ?_
             rotate_left
             ·
              intro w'
              go_simp
              with_reducible rfl
             rotate_left
             ·
              simp only [Act.put,zO,zEb,zFb,i64_w,i32_w]
              rfl
             refine pure_ (i:=2) (N:=some 50) (v:=?_) (a':=?_) #[true,false,true,false,false,false,false,false,false,false,false,false,false,false,false,false,false] rfl rfl (any_of HT_.out (by kernel_rfl)) (fun _ _ _ h => h) (Or.inl ⟨by rfl,?_⟩) ?_ ?_
             rotate_left
             ·
              intro w'
              go_simp
              with_reducible rfl
             rotate_left
             ·
              simp only [Act.put,zO,zEb,zFb,i64_w,i32_w]
              rfl
             refine take_ (i:=1) (N:=some 49) (v:=?_) (a':=?_) #[true,true,true,false,false,false,false,false,false,false,false,false,false,false,false,false,false] rfl rfl (take_ofW HT_.out HW_.out (by kernel_rfl)) (fun _ _ _ h => h) (Or.inl ⟨by rfl,?_⟩) hHeld ?_ ?_
             rotate_left
             ·
              rintro w' ⟨s0,s1,s2,s3⟩
              go_simp
              with_reducible rfl
             rotate_left
             ·
              simp only [Act.put,zO,zEb,zFb,i64_w,i32_w]
              rfl
             refine pure_ (i:=3) (N:=some 51) (v:=?_) (a':=?_) #[true,true,true,true,false,false,false,false,false,false,false,false,false,false,false,false,false] rfl rfl (any_of HT_.out (by kernel_rfl)) (fun _ _ _ h => h) (Or.inl ⟨by rfl,?_⟩) ?_ ?_
             rotate_left
             ·
              intro w'
              go_simp
              with_reducible rfl
             rotate_left
             ·
              simp only [Act.put,zO,zEb,zFb,i64_w,i32_w]
              rfl
             refine take_ (i:=4) (N:=some 52) (v:=?_) (a':=?_) #[true,true,true,true,true,false,false,false,false,false,false,false,false,false,false,false,false] rfl rfl (take_ofW HT_.out HW_.out (by kernel_rfl)) (fun _ _ _ h => h) (Or.inl ⟨by rfl,?_⟩) hHeld ?_ ?_
             rotate_left
             ·
              rintro w' ⟨s0,s1,s2,s3⟩
              go_simp
              with_reducible rfl
             rotate_left
             ·
              simp only [Act.put,zO,zEb,zFb,i64_w,i32_w]
              rfl
             refine one_ (i:=5) (N:=some 53) #[true,true,true,true,true,true,false,false,false,false,false,false,false,false,false,false,false] rfl rfl (one_of HT_.out (by kernel_rfl)) (by decide) (fun K hK => ?_)
             refine goes_ Try.func117 (by kernel_rfl) rfl #[.int .i64 (rd l1_0 x8_3)] (by rfl) rfl rfl (by (try simp only [zCb,zMb,zNb]);first|done|rfl|(simp only [zLb,zDb];rfl)) ?_
             with_reducible refine (spec_IsVar.calls (rd l1_0 x8_3) true _ A40.out).mono ?_
             rintro e w' ⟨rfl,⟨nd,rfl⟩⟩
             refine ⟨_,rfl,?_⟩
             refine hK.out _ _ ⟨(zP BK189.out 0).trans rfl,(zP BK189.out 1).trans rfl,((HB.out.cell (World.block_lt_of_cell? w _ hw195_0)).trans hw195_0),((HB.out.cell (World.block_lt_of_cell? w _ hw200_0)).trans hw200_0)⟩ (fun hHeld => ?_)
             clear hK K
             refine norm_ (a':=?_) ?_ ?_
             rotate_left
             ·
              show Act.put _ (some 53) _ = _
              simp only [Act.put,zO,zEb,zFb,i64_w,i32_w]
              rfl
             refine pure_ (i:=6) (N:=some 54) (v:=?_) (a':=?_) #[true,true,true,true,true,true,true,false,false,false,false,false,false,false,false,false,false] rfl rfl (any_of HT_.out (by kernel_rfl)) (fun _ _ _ h => h) (Or.inl ⟨by rfl,?_⟩) ?_ ?_
             rotate_left
             ·
              intro w'
              go_simp
              with_reducible rfl
             rotate_left
             ·
              simp only [Act.put,zO,zEb,zFb,i64_w,i32_w]
              rfl
             refine pure_ (i:=9) (N:=some 57) (v:=?_) (a':=?_) #[true,true,true,true,true,true,true,false,false,true,false,false,false,false,false,false,false] rfl rfl (any_of HT_.out (by kernel_rfl)) (fun _ _ _ h => h) (Or.inl ⟨by rfl,?_⟩) ?_ ?_
             rotate_left
             ·
              intro w'
              go_simp
              with_reducible rfl
             rotate_left
             ·
              simp only [Act.put,zO,zEb,zFb,i64_w,i32_w]
              rfl
             refine pure_ (i:=11) (N:=some 59) (v:=?_) (a':=?_) #[true,true,true,true,true,true,true,false,false,true,false,true,false,false,false,false,false] rfl rfl (any_of HT_.out (by kernel_rfl)) (fun _ _ _ h => h) (Or.inl ⟨by rfl,?_⟩) ?_ ?_
             rotate_left
             ·
              intro w'
              go_simp
              with_reducible rfl
             rotate_left
             ·
              simp only [Act.put,zO,zEb,zFb,i64_w,i32_w]
              rfl
             refine take_ (i:=7) (N:=some 55) (v:=?_) (a':=?_) #[true,true,true,true,true,true,true,true,false,true,false,true,false,false,false,false,false] rfl rfl (take_ofW HT_.out HW_.out (by kernel_rfl)) (fun _ _ _ h => h) (Or.inl ⟨by rfl,?_⟩) hHeld ?_ ?_
             rotate_left
             ·
              rintro w' ⟨s0,s1,s2,s3⟩
              go_simp
              with_reducible rfl
             rotate_left
             ·
              simp only [Act.put,zO,zEb,zFb,i64_w,i32_w]
              rfl
             refine take_ (i:=10) (N:=some 58) (v:=?_) (a':=?_) #[true,true,true,true,true,true,true,true,false,true,true,true,false,false,false,false,false] rfl rfl (take_ofW HT_.out HW_.out (by kernel_rfl)) (fun _ _ _ h => h) (Or.inl ⟨by rfl,?_⟩) hHeld ?_ ?_
             rotate_left
             ·
              rintro w' ⟨s0,s1,s2,s3⟩
              go_simp
              with_reducible rfl
             rotate_left
             ·
              simp only [Act.put,zO,zEb,zFb,i64_w,i32_w]
              rfl
             refine pure_ (i:=12) (N:=some 60) (v:=?_) (a':=?_) #[true,true,true,true,true,true,true,true,false,true,true,true,true,false,false,false,false] rfl rfl (any_of HT_.out (by kernel_rfl)) (fun _ _ _ h => h) (Or.inl ⟨by rfl,?_⟩) ?_ ?_
             rotate_left
             ·
              intro w'
              go_simp
              with_reducible rfl
             rotate_left
             ·
              simp only [Act.put,zO,zEb,zFb,i64_w,i32_w]
              rfl
             refine take_ (i:=13) (N:=some 61) (v:=?_) (a':=?_) #[true,true,true,true,true,true,true,true,false,true,true,true,true,true,false,false,false] rfl rfl (take_ofW HT_.out HW_.out (by kernel_rfl)) (fun _ _ _ h => h) (Or.inl ⟨by rfl,?_⟩) hHeld ?_ ?_
             rotate_left
             ·
              rintro w' ⟨s0,s1,s2,s3⟩
              go_simp
              with_reducible rfl
             rotate_left
             ·
              simp only [Act.put,zO,zEb,zFb,i64_w,i32_w]
              rfl
             refine one_ (i:=8) (N:=some 56) #[true,true,true,true,true,true,true,true,true,true,true,true,true,true,false,false,false] rfl rfl (one_of HT_.out (by kernel_rfl)) (by decide) (fun K hK => ?_)
             refine goes_ Try.func152 (by kernel_rfl) rfl #[.agg #[.slice (some ad195) l1_0.length c1_0,.slice A1_1 l1_1.length c1_1]] (by rfl) rfl rfl (by (try simp only [zCb,zMb,zNb]);first|done|rfl|(simp only [zLb,zDb];rfl)) ?_
             with_reducible refine (spec_l4BodyVars.calls k3 _ _ l1_0 _ _ l1_1 t197 _ ?side1 ?side2 ?side3 ?side4 A42.out).mono ?_
             (case side1 => repeat (first|exact (zKb HR1_0.out (zz HB))|(with_reducible refine zBb ?_ _)|(with_reducible refine zAb ?_ _)|(with_reducible refine zX ?_)))
             (case side2 => exact HC1_0.out)
             (case side3 => repeat (first|exact (zKb HR1_1.out (zz HB))|(with_reducible refine zBb ?_ _)|(with_reducible refine zAb ?_ _)|(with_reducible refine zX ?_)))
             (case side4 => exact HC1_1.out)
             rintro e w53 ⟨v198,rfl,ho0,hb⟩
             refine ⟨_,rfl,?_⟩
             have n0_:=zA (zHb ho0 (zT (zz HB)));have n1_:=zA (zQ (g:=gb188) (o:=.cells #[.slice A0_0 l0_0.length c0_0] 65 (0,0)) (zx BK188) hb);have n2_:=zA (zQ (g:=gb189) (o:=.cells #[.slice (some ad195) l1_0.length c1_0,.slice A1_1 l1_1.length c1_1] 46 (0,0)) (zx BK189) hb);have n3_:=zA (zJb (zz HB) hb);clear BK188;clear BK189;clear HB;have HO199:=n0_;have BK188:=n1_;have BK189:=n2_;have HB:=n3_;clear n0_ n1_ n2_ n3_;(try clear hb);(try clear hb2);(try clear hk);(try clear hi);(try clear ho0);obtain ⟨Ao54,co54,eo54⟩:=Kd.R_slice HO199.out
             (first|subst eo54|(injection eo54 with f1_ f2_ f3_;have f4_:=f1_.symm;have f5_:=f3_.symm;clear f1_ f2_ f3_;subst f4_;subst f5_))
             refine hK.out _ _ ⟨(zP BK189.out 0).trans rfl,(zP BK189.out 1).trans rfl,((HB.out.cell (World.block_lt_of_cell? w _ hw195_0)).trans hw195_0),((HB.out.cell (World.block_lt_of_cell? w _ hw200_0)).trans hw200_0)⟩ (fun hHeld => ?_)
             clear hK K
             refine norm_ (a':=?_) ?_ ?_
             rotate_left
             ·
              show Act.put _ (some 56) _ = _
              simp only [Act.put,zO,zEb,zFb,i64_w,i32_w]
              rfl
             refine one_ (i:=14) (N:=some 62) #[true,true,true,true,true,true,true,true,true,true,true,true,true,true,true,false,false] rfl rfl (one_of HT_.out (by kernel_rfl)) (by decide) (fun K hK => ?_)
             refine goes_ Try.func151 (by kernel_rfl) rfl #[.slice Ao54 t197.length co54,.int .i64 (rd l1_0 x8_3)] (by rfl) rfl rfl (by (try simp only [zCb,zMb,zNb]);first|done|rfl|(simp only [zLb,zDb];rfl)) ?_
             with_reducible refine (spec_l2Has.calls k3 _ _ t197 (rd l1_0 x8_3) false _ ?side1 ?side2 A43.out).mono ?_
             (case side1 => repeat (first|exact (Kd.R_reads' HO199.out).2.2|(with_reducible refine zBb ?_ _)|(with_reducible refine zAb ?_ _)|(with_reducible refine zX ?_)))
             (case side2 => exact (Kd.R_reads' HO199.out).2.1)
             rintro e w' ⟨rfl,⟨nd,rfl⟩⟩
             refine ⟨_,rfl,?_⟩
             refine hK.out _ _ ⟨(zP BK189.out 0).trans rfl,(zP BK189.out 1).trans rfl,((HB.out.cell (World.block_lt_of_cell? w _ hw195_0)).trans hw195_0),((HB.out.cell (World.block_lt_of_cell? w _ hw200_0)).trans hw200_0)⟩ (fun hHeld => ?_)
             clear hK K
             refine norm_ (a':=?_) ?_ ?_
             rotate_left
             ·
              show Act.put _ (some 62) _ = _
              simp only [Act.put,zO,zEb,zFb,i64_w,i32_w]
              rfl
             refine pure_ (i:=15) (N:=some 63) (v:=?_) (a':=?_) #[true,true,true,true,true,true,true,true,true,true,true,true,true,true,true,true,false] rfl rfl (any_of HT_.out (by kernel_rfl)) (fun _ _ _ h => h) (Or.inl ⟨by rfl,?_⟩) ?_ ?_
             rotate_left
             ·
              intro w'
              go_simp
              with_reducible rfl
             rotate_left
             ·
              simp only [Act.put,zO,zEb,zFb,i64_w,i32_w]
              rfl
             refine pure_ (i:=16) (N:=some 64) (v:=?_) (a':=?_) #[true,true,true,true,true,true,true,true,true,true,true,true,true,true,true,true,true] rfl rfl (any_of HT_.out (by kernel_rfl)) (fun _ _ _ h => h) (Or.inl ⟨by rfl,?_⟩) ?_ ?_
             rotate_left
             ·
              intro w'
              go_simp
              with_reducible rfl
             rotate_left
             ·
              simp only [Act.put,zO,zEb,zFb,i64_w,i32_w]
              rfl
             refine done_ (done_of HT_.out (by kernel_rfl)) ?_
             try go_wp2
             go_ret
             exact ⟨by first|rfl|(simp [errW_none,errW_some] <;> rfl)|(simp [*,errW_none,errW_some] <;> rfl),zz HB⟩
           ·
            replace c41:=Bool.eq_false_iff.mpr c41
            subst c41
            have H1 : (spec_l4Fine.l1 k3 (wrap64 (x8_3 + 1)) l1_0 l1_1) = some r:=by rw [if_neg (show ¬ (false = true) by decide)] at H;exact H
            clear H;have H:=H1;clear H1
            have H':=zA H
            clear H;have hnb55:=NB189_188.out;have hnc55:=NB188_189.out;have hcz56_0:=zc (.slice A1_0 l1_0.length c1_0) BK189 0 rfl;have hcz56_1:=zc (.slice A1_1 l1_1.length c1_1) BK189 1 rfl;have hfz56_0:=blk_frozen BK189.out 0;have hfz56_1:=blk_frozen BK189.out 1
            try go_wp2
            have n0_:=zA (zI BK188.out);have n1_:=zA (zI BK189.out);have n2_:=zA (zJ HB.out);clear BK188;clear BK189;clear HB;have BK188:=n0_;have BK189:=n1_;have HB:=n2_;clear n0_ n1_ n2_;have p195 : 0 ≤ (x8_3 : Int):=zXb ze;have q195 : x8_3 < (l1_0.length : Int):=zXb ze;obtain ⟨ad195,e195,hx195_0⟩:=Kd.at_int HR1_0.out x8_3 p195 q195;have hw195_0:=hx195_0
            cases e195
            replace hx195_0:=(HB.out.cell (World.block_lt_of_cell? w _ hx195_0)).trans hx195_0;replace p195:=eq_true p195;replace q195:=eq_true q195
            refine start_ (n:=17) (S:=fun w' => w'.cell? ⟨gb189,0,none⟩ = some (.slice (some ad195) l1_0.length c1_0) ∧ w'.cell? ⟨gb189,1,none⟩ = some (.slice A1_1 l1_1.length c1_1) ∧ w'.cell? (ad195.add (x8_3).toNat) = some (.int .i64 (rd l1_0 x8_3))) (ds:=[]) #[false,false,false,false,false,false,false,false,false,false,false,false,false,false,false,false,false] (by kernel_rfl) rfl rfl ⟨(zP BK189.out 0).trans rfl,(zP BK189.out 1).trans rfl,((HB.out.cell (World.block_lt_of_cell? w _ hw195_0)).trans hw195_0)⟩ (fun hHeld => ?_);refine with_tabW spec_l4Fine.tab11 spec_l4Fine.bits11 (fun HT_ HW_ => ?_)
            generalize wr.drew = w57 at BK188 BK189 HB hx195_0 hHeld ⊢
            refine pure_ (i:=0) (N:=some 48) (v:=?_) (a':=?_) #[true,false,false,false,false,false,false,false,false,false,false,false,false,false,false,false,false] rfl rfl (any_of HT_.out (by kernel_rfl)) (fun _ _ _ h => h) (Or.inl ⟨by rfl,?_⟩) ?_ ?_
            rotate_left
            ·
             intro w'
             go_simp
             with_reducible rfl
            rotate_left
            ·
             simp only [Act.put,zO,zEb,zFb,i64_w,i32_w]
             rfl
            refine pure_ (i:=2) (N:=some 50) (v:=?_) (a':=?_) #[true,false,true,false,false,false,false,false,false,false,false,false,false,false,false,false,false] rfl rfl (any_of HT_.out (by kernel_rfl)) (fun _ _ _ h => h) (Or.inl ⟨by rfl,?_⟩) ?_ ?_
            rotate_left
            ·
             intro w'
             go_simp
             with_reducible rfl
            rotate_left
            ·
             simp only [Act.put,zO,zEb,zFb,i64_w,i32_w]
             rfl
            refine take_ (i:=1) (N:=some 49) (v:=?_) (a':=?_) #[true,true,true,false,false,false,false,false,false,false,false,false,false,false,false,false,false] rfl rfl (take_ofW HT_.out HW_.out (by kernel_rfl)) (fun _ _ _ h => h) (Or.inl ⟨by rfl,?_⟩) hHeld ?_ ?_
            rotate_left
            ·
             rintro w' ⟨s0,s1,s2⟩
             go_simp
             with_reducible rfl
            rotate_left
            ·
             simp only [Act.put,zO,zEb,zFb,i64_w,i32_w]
             rfl
            refine pure_ (i:=3) (N:=some 51) (v:=?_) (a':=?_) #[true,true,true,true,false,false,false,false,false,false,false,false,false,false,false,false,false] rfl rfl (any_of HT_.out (by kernel_rfl)) (fun _ _ _ h => h) (Or.inl ⟨by rfl,?_⟩) ?_ ?_
            rotate_left
            ·
             intro w'
             go_simp
             with_reducible rfl
            rotate_left
            ·
             simp only [Act.put,zO,zEb,zFb,i64_w,i32_w]
             rfl
            refine take_ (i:=4) (N:=some 52) (v:=?_) (a':=?_) #[true,true,true,true,true,false,false,false,false,false,false,false,false,false,false,false,false] rfl rfl (take_ofW HT_.out HW_.out (by kernel_rfl)) (fun _ _ _ h => h) (Or.inl ⟨by rfl,?_⟩) hHeld ?_ ?_
            rotate_left
            ·
             rintro w' ⟨s0,s1,s2⟩
             go_simp
             with_reducible rfl
            rotate_left
            ·
             simp only [Act.put,zO,zEb,zFb,i64_w,i32_w]
             rfl
            refine one_ (i:=5) (N:=some 53) #[true,true,true,true,true,true,false,false,false,false,false,false,false,false,false,false,false] rfl rfl (one_of HT_.out (by kernel_rfl)) (by decide) (fun K hK => ?_)
            refine goes_ Try.func117 (by kernel_rfl) rfl #[.int .i64 (rd l1_0 x8_3)] (by rfl) rfl rfl (by (try simp only [zCb,zMb,zNb]);first|done|rfl|(simp only [zLb,zDb];rfl)) ?_
            with_reducible refine (spec_IsVar.calls (rd l1_0 x8_3) false _ A40.out).mono ?_
            rintro e w' ⟨rfl,⟨nd,rfl⟩⟩
            refine ⟨_,rfl,?_⟩
            refine hK.out _ _ ⟨(zP BK189.out 0).trans rfl,(zP BK189.out 1).trans rfl,((HB.out.cell (World.block_lt_of_cell? w _ hw195_0)).trans hw195_0)⟩ (fun hHeld => ?_)
            clear hK K
            refine norm_ (a':=?_) ?_ ?_
            rotate_left
            ·
             show Act.put _ (some 53) _ = _
             simp only [Act.put,zO,zEb,zFb,i64_w,i32_w]
             rfl
            refine pure_ (i:=6) (N:=some 54) (v:=?_) (a':=?_) #[true,true,true,true,true,true,true,false,false,false,false,false,false,false,false,false,false] rfl rfl (any_of HT_.out (by kernel_rfl)) (fun _ _ _ h => h) (Or.inl ⟨by rfl,?_⟩) ?_ ?_
            rotate_left
            ·
             intro w'
             go_simp
             with_reducible rfl
            rotate_left
            ·
             simp only [Act.put,zO,zEb,zFb,i64_w,i32_w]
             rfl
            refine pure_ (i:=7) (N:=some 55) (v:=undef) (a':=?_) #[true,true,true,true,true,true,true,true,false,false,false,false,false,false,false,false,false] rfl rfl (any_of HT_.out (by kernel_rfl)) (fun _ _ _ h => h) (Or.inr ⟨by rfl,rfl⟩) ?_ ?_
            rotate_left
            ·
             simp only [Act.put,zO,zEb,zFb,i64_w,i32_w]
             rfl
            refine pure_ (i:=8) (N:=some 56) (v:=undef) (a':=?_) #[true,true,true,true,true,true,true,true,true,false,false,false,false,false,false,false,false] rfl rfl (any_of HT_.out (by kernel_rfl)) (fun _ _ _ h => h) (Or.inr ⟨by rfl,rfl⟩) ?_ ?_
            rotate_left
            ·
             simp only [Act.put,zO,zEb,zFb,i64_w,i32_w]
             rfl
            refine pure_ (i:=9) (N:=some 57) (v:=undef) (a':=?_) #[true,true,true,true,true,true,true,true,true,true,false,false,false,false,false,false,false] rfl rfl (any_of HT_.out (by kernel_rfl)) (fun _ _ _ h => h) (Or.inr ⟨by rfl,rfl⟩) ?_ ?_
            rotate_left
            ·
             simp only [Act.put,zO,zEb,zFb,i64_w,i32_w]
             rfl
            refine pure_ (i:=10) (N:=some 58) (v:=undef) (a':=?_) #[true,true,true,true,true,true,true,true,true,true,true,false,false,false,false,false,false] rfl rfl (any_of HT_.out (by kernel_rfl)) (fun _ _ _ h => h) (Or.inr ⟨by rfl,rfl⟩) ?_ ?_
            rotate_left
            ·
             simp only [Act.put,zO,zEb,zFb,i64_w,i32_w]
             rfl
            refine pure_ (i:=11) (N:=some 59) (v:=undef) (a':=?_) #[true,true,true,true,true,true,true,true,true,true,true,true,false,false,false,false,false] rfl rfl (any_of HT_.out (by kernel_rfl)) (fun _ _ _ h => h) (Or.inr ⟨by rfl,rfl⟩) ?_ ?_
            rotate_left
            ·
             simp only [Act.put,zO,zEb,zFb,i64_w,i32_w]
             rfl
            refine pure_ (i:=12) (N:=some 60) (v:=undef) (a':=?_) #[true,true,true,true,true,true,true,true,true,true,true,true,true,false,false,false,false] rfl rfl (any_of HT_.out (by kernel_rfl)) (fun _ _ _ h => h) (Or.inr ⟨by rfl,rfl⟩) ?_ ?_
            rotate_left
            ·
             simp only [Act.put,zO,zEb,zFb,i64_w,i32_w]
             rfl
            refine pure_ (i:=13) (N:=some 61) (v:=undef) (a':=?_) #[true,true,true,true,true,true,true,true,true,true,true,true,true,true,false,false,false] rfl rfl (any_of HT_.out (by kernel_rfl)) (fun _ _ _ h => h) (Or.inr ⟨by rfl,rfl⟩) ?_ ?_
            rotate_left
            ·
             simp only [Act.put,zO,zEb,zFb,i64_w,i32_w]
             rfl
            refine pure_ (i:=14) (N:=some 62) (v:=undef) (a':=?_) #[true,true,true,true,true,true,true,true,true,true,true,true,true,true,true,false,false] rfl rfl (any_of HT_.out (by kernel_rfl)) (fun _ _ _ h => h) (Or.inr ⟨by rfl,rfl⟩) ?_ ?_
            rotate_left
            ·
             simp only [Act.put,zO,zEb,zFb,i64_w,i32_w]
             rfl
            refine pure_ (i:=15) (N:=some 63) (v:=undef) (a':=?_) #[true,true,true,true,true,true,true,true,true,true,true,true,true,true,true,true,false] rfl rfl (any_of HT_.out (by kernel_rfl)) (fun _ _ _ h => h) (Or.inr ⟨by rfl,rfl⟩) ?_ ?_
            rotate_left
            ·
             simp only [Act.put,zO,zEb,zFb,i64_w,i32_w]
             rfl
            refine pure_ (i:=16) (N:=some 64) (v:=?_) (a':=?_) #[true,true,true,true,true,true,true,true,true,true,true,true,true,true,true,true,true] rfl rfl (any_of HT_.out (by kernel_rfl)) (fun _ _ _ h => h) (Or.inl ⟨by rfl,?_⟩) ?_ ?_
            rotate_left
            ·
             intro w'
             go_simp
             with_reducible rfl
            rotate_left
            ·
             simp only [Act.put,zO,zEb,zFb,i64_w,i32_w]
             rfl
            refine done_ (done_of HT_.out (by kernel_rfl)) ?_
            try go_wp2
            go_roundg k3
            case measure => have:=HJ3.out;have:=HK2.out;have:=HK3.out;omega
            case rel => exact ⟨(wrap64 (x8_3 + 1)),za,H',⟨by have:=HJ3.out;have:=HK2.out;have:=HK3.out;omega⟩,⟨zx BK188⟩,⟨zx BK189⟩,⟨zz HB⟩⟩
          ·
           rw [if_neg c39] at H
           exact absurd H (by simp)
         ·
          rw [if_neg c38] at H;have c38b0:=decide_eq_false c38;clear c38
          obtain rfl:=Option.some.inj H
          have hnb58:=NB189_188.out;have hnc58:=NB188_189.out;have hcz59_0:=zc (.slice A1_0 l1_0.length c1_0) BK189 0 rfl;have hcz59_1:=zc (.slice A1_1 l1_1.length c1_1) BK189 1 rfl;have hfz59_0:=blk_frozen BK189.out 0;have hfz59_1:=blk_frozen BK189.out 1
          go_wp2
          go_ret
          exact ⟨by first|rfl|(simp [errW_none,errW_some] <;> rfl)|(simp [*,errW_none,errW_some] <;> rfl),zz HB⟩

end Go.Proofs.Ytanbgnjfllpkgaa.QFnExactIsEquivalent
