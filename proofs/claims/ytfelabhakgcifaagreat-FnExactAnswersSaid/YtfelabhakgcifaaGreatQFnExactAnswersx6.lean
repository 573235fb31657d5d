/- Walks through the Go functions that FnExactAnswers reaches: each call returns what the Lean function beside it says, within the bounds that the theorem names. -/
import Derived.Test.YtfelabhakgcifaaGreatQFnExactAnswersx0
import Derived.Test.YtfelabhakgcifaaGreatQFnExactAnswersx3
import Derived.Test.YtfelabhakgcifaaGreatQFnExactAnswersx4
import Derived.Test.YtfelabhakgcifaaGreatQFnExactAnswersx5
namespace Go.Proofs.YtfelabhakgcifaaGreat.QFnExactAnswers
open Go.RowKit Go.Proofs.YtfelabhakgcifaaGreatW.PrintWords Go.Proofs.YtfelabhakgcifaaGreatW.PrintLast Go.Proofs.YtfelabhakgcifaaGreatW.PrintMore
attribute [local go_sem] max2_int min2_int max_two min_two max_three min_three max_four min_four   -- for this text's walks alone
set_option linter.unusedVariables false
set_option linter.unusedSimpArgs false


/-! ### spec_l4Fine: function 71 -/
mutual
def spec_l4Fine.j0 : Nat → Bool → List Int → List Int → List (S81) → Option (Bool)
 | 0, _, _, _, _ => none
 | k + 1, x25, x203000, x204000, x204001 => if x25 = true then (some false) else (spec_l4Fine.l0 k 0 x203000 x204000 x204001)
def spec_l4Fine.l0 : Nat → Int → List Int → List Int → List (S81) → Option (Bool)
 | 0, _, _, _, _ => none
 | k + 1, x7, x203000, x204000, x204001 => if x7 < (x204001.length : Int) then (if 0 ≤ x7 then ((spec_IsAtom.f k x203000 ((rd_T81 x204001 x7).f0) ((rd_T81 x204001 x7).f1)).bind fun t208 => (if t208 = true then (spec_l4Fine.l0 k (wrap64 (x7 + 1)) x203000 x204000 x204001) else (some false))) else (none)) else (spec_l4Fine.l1 k 0 x204000 x204001)
def spec_l4Fine.l1 : Nat → Int → List Int → List (S81) → Option (Bool)
 | 0, _, _, _ => none
 | k + 1, x8, x204000, x204001 => if x8 < (x204000.length : Int) then (if 0 ≤ x8 then ((spec_IsVar.f (rd x204000 x8)).bind fun t210 => (if t210 = true then ((spec_l4BodyVars.f k x204000 x204001).bind fun t211 => ((spec_l2Has.f k t211 (rd x204000 x8)).bind fun t215 => (if t215 = true then (spec_l4Fine.l1 k (wrap64 (x8 + 1)) x204000 x204001) else (some false)))) else (spec_l4Fine.l1 k (wrap64 (x8 + 1)) x204000 x204001))) else (none)) else (some true)
end
def spec_l4Fine.f (k : Nat) (l0_0 : List Int) (l1_0 : List Int) (l1_1 : List (S81)) (a2 : Int) : Option (Bool) := (spec_IsSchema.f k l0_0).bind fun t204 => (if t204 = true then ((spec_l3Terms.f k l1_0).bind fun t205 => (if t205 = true then ((spec_l1In.f (l1_1.length : Int) 1 a2).bind fun t206 => (spec_l4Fine.j0 k (!t206) l0_0 l1_0 l1_1)) else (spec_l4Fine.j0 k true l0_0 l1_0 l1_1))) else (spec_l4Fine.j0 k true l0_0 l1_0 l1_1))
def spec_l4Fine.T6 : Bool × List (List Nat × List Nat) := (true, [([], []), ([], []), ([1], [1]), ([], []), ([2, 3], [2, 3]), ([4], [4]), ([0, 5], [0, 5]), ([6], [6])])
def spec_l4Fine.B6 : List Nat := [0, 0, 2, 0, 14, 30, 63, 127]
theorem spec_l4Fine.tab6 : rtab .any (opsOf Tryz.f71 6) = spec_l4Fine.T6 := by kernel_rfl
theorem spec_l4Fine.bits6 : waitsOk spec_l4Fine.T6.2 spec_l4Fine.B6 = true := by kernel_rfl
def spec_l4Fine.T11 : Bool × List (List Nat × List Nat) := (true, [([], []), ([0], [0]), ([], []), ([1, 2], [1, 2]), ([3], [3]), ([4], [4]), ([5, 5], [5]), ([6], [6]), ([7, 6, 6], [6, 7]), ([6], [6]), ([9, 6], [6, 9]), ([6], [6]), ([10, 11, 6], [6, 10, 11]), ([12, 6], [6, 12]), ([8, 13, 8, 6], [6, 8, 13]), ([14, 6], [6, 14]), ([6, 15], [6, 15])])
def spec_l4Fine.B11 : List Nat := [0, 1, 0, 7, 15, 31, 63, 127, 255, 127, 639, 127, 3711, 7807, 16383, 32767, 65535]
theorem spec_l4Fine.tab11 : rtab .any (opsOf Tryz.f71 11) = spec_l4Fine.T11 := by kernel_rfl
theorem spec_l4Fine.bits11 : waitsOk spec_l4Fine.T11.2 spec_l4Fine.B11 = true := by kernel_rfl
set_option maxHeartbeats 8000000 in
set_option maxRecDepth 100000 in
theorem spec_l4Fine.calls (k : Nat) (A0_0 : Option Addr) (c0_0 : Nat) (l0_0 : List Int) (A1_0 : Option Addr) (c1_0 : Nat) (l1_0 : List Int) (A1_1 : Option Addr) (c1_1 : Nat) (l1_1 : List (S81)) (a2 : Int) (r : Bool) (w : World) (hr0_0 : Kd.C (Kd.int .i64) w A0_0 l0_0.length l0_0) (hc0_0 : l0_0.length ≤ c0_0) (hr1_0 : Kd.C (Kd.int .i64) w A1_0 l1_0.length l1_0) (hc1_0 : l1_0.length ≤ c1_0) (hr1_1 : Kd.C k81 w A1_1 l1_1.length l1_1) (hc1_1 : l1_1.length ≤ c1_1) (h : spec_l4Fine.f k l0_0 l1_0 l1_1 a2 = some r) :
  Calls Tryz.prog 71 #[.agg #[.slice A0_0 l0_0.length c0_0], .agg #[.slice A1_0 l1_0.length c1_0, .slice A1_1 l1_1.length c1_1], .int .i64 a2] w fun e w' => e = .returned (.bool r) ∧ Below w.heap.size w w' := by
 have hu34:=Tryz.underlying34;have hu38:=Tryz.underlying38;have hu81:=Tryz.underlying81;have HR0_0:=zA hr0_0;have HC0_0:=zA hc0_0;clear hr0_0 hc0_0;have HR1_0:=zA hr1_0;have HC1_0:=zA hc1_0;clear hr1_0 hc1_0;have HR1_1:=zA hr1_1;have HC1_1:=zA hc1_1;clear hr1_1 hc1_1;have HB:=zA (Below.refl w.heap.size w)
 have H : ((spec_IsSchema.f k l0_0).bind fun t204 => (if t204 = true then ((spec_l3Terms.f k l1_0).bind fun t205 => (if t205 = true then ((spec_l1In.f (l1_1.length : Int) 1 a2).bind fun t206 => (spec_l4Fine.j0 k (!t206) l0_0 l1_0 l1_1)) else (spec_l4Fine.j0 k true l0_0 l1_0 l1_1))) else (spec_l4Fine.j0 k true l0_0 l1_0 l1_1))) = some r:=h
 clear h;have HC4:=zA H;clear H
 go_enter Tryz.func71,Tryz.ntmps71
 go_upto_region 1 with (first|((with_reducible refine gate_dst (N:=3) rfl ?_);(try (refine gate_guard (by rfl) ?_;dsimp only));refine box_event ?hg (N:=3) ?hd (cs:=#[.slice A0_0 l0_0.length c0_0]) (t:=34) ?hr ?_;(case hd => rfl);(case hg => rfl);(case hr => first|(go_simp;done)|(go_simp;rfl));intro gb202 hg w5 hbox hb;have BK202:=zA (hbox);have GW202:=zA ((by rw [hg];exact (zT (zz HB)) : w.heap.size ≤ gb202));have GE202:=zA ((by rw [hg];exact (zT (zz HB)) : w.heap.size ≤ gb202));replace HB:=zA (zJb (zz HB) hb);clear hb hbox hg)|((with_reducible refine gate_dst (N:=4) rfl ?_);(try (refine gate_guard (by rfl) ?_;dsimp only));refine box_event ?hg (N:=4) ?hd (cs:=#[.slice A1_0 l1_0.length c1_0,.slice A1_1 l1_1.length c1_1]) (t:=38) ?hr ?_;(case hd => rfl);(case hg => rfl);(case hr => first|(go_simp;done)|(go_simp;rfl));intro gb203 hg w6 hbox hb;have BK203:=zA (hbox);have GW203:=zA ((by rw [hg];exact (zT (zz HB)) : w.heap.size ≤ gb203));have GE203:=zA ((by rw [hg];exact (zT (zz HB)) : w.heap.size ≤ gb203));replace HB:=zA (zJb (zz HB) hb);have NB202_203:=zA ((by rw [hg];exact Nat.ne_of_lt (blk_lt (g:=gb202) (o:=.cells #[.slice A0_0 l0_0.length c0_0] 34 (0,0)) (zx BK202)) : gb202 ≠ gb203));have NB203_202:=zA ((by rw [hg];exact Nat.ne_of_gt (blk_lt (g:=gb202) (o:=.cells #[.slice A0_0 l0_0.length c0_0] 34 (0,0)) (zx BK202)) : gb203 ≠ gb202));replace BK202:=zA (zQ (g:=gb202) (o:=.cells #[.slice A0_0 l0_0.length c0_0] 34 (0,0)) (zx BK202) hb);clear hb hbox hg))
 (try simp only [Act.put,zO,zEb,zFb])
 go_cut [25] (fun v25 wc => ∃ (kq : Nat) (x25_3 : Bool),v25 = .bool x25_3 ∧ Aside0 (spec_l4Fine.j0 kq x25_3 l0_0 l1_0 l1_1 = some r) ∧ Aside0 (kq ≤ k) ∧ Aside0 (wc.heap[gb202]? = some (.cells #[(.slice A0_0 l0_0.length c0_0)] 34 (0,0))) ∧ Aside0 (wc.heap[gb203]? = some (.cells #[(.slice A1_0 l1_0.length c1_0),(.slice A1_1 l1_1.length c1_1)] 38 (0,0))) ∧ Aside0 (Below w.heap.size w wc))
 case first =>
  have H:=HC4.out;clear HC4;replace H:=Option.bind_eq_some_iff.mp H;obtain ⟨t204,A70,H⟩:=H;(try dsimp only at H);have A7:=zA A70;clear A70
  by_cases c8 : t204 = true
  ·
   subst c8
   rw [if_pos rfl] at H;replace H:=Option.bind_eq_some_iff.mp H;obtain ⟨t205,A90,H⟩:=H;(try dsimp only at H);have A9:=zA A90;clear A90
   by_cases c10 : t205 = true
   ·
    subst c10
    rw [if_pos rfl] at H;replace H:=Option.bind_eq_some_iff.mp H;obtain ⟨t206,A110,H⟩:=H;(try dsimp only at H);have A11:=zA A110;clear A110
    have H':=zA H
    clear H;have hnb12:=NB202_203.out;have hnc12:=NB203_202.out;have hcz13_0:=zc (.slice A0_0 l0_0.length c0_0) BK202 0 rfl;have hfz13_0:=blk_frozen BK202.out 0
    go_wp2_with (first|((with_reducible refine gate_callee (f:=74) rfl ?_);refine goesL_ (some 10) rfl rfl Tryz.func74 (by kernel_rfl) rfl #[.agg #[.slice A0_0 l0_0.length c0_0]] rfl (by (try simp only [zCb,zMb,zNb]);first|done|rfl|(simp only [zLb,zDb];rfl)) ?_;(with_reducible refine (spec_IsSchema.calls k _ _ l0_0 true _ ?side1 ?side2 A7.out).mono ?_);(case side1 => exact zsd HR0_0 HB);(case side2 => exact HC0_0.out);rintro e w14 ⟨rfl,hb⟩;refine ⟨_,rfl,?_⟩;replace BK202:=zA (zQ (g:=gb202) (o:=.cells #[.slice A0_0 l0_0.length c0_0] 34 (0,0)) (zx BK202) hb);replace BK203:=zA (zQ (g:=gb203) (o:=.cells #[.slice A1_0 l1_0.length c1_0,.slice A1_1 l1_1.length c1_1] 38 (0,0)) (zx BK203) hb);replace HB:=zA (zJb (zz HB) hb);(try clear hb);(try clear hb2);(try clear hk);(try clear hi);have hcz15_0:=zc (.slice A1_0 l1_0.length c1_0) BK203 0 rfl;have hcz15_1:=zc (.slice A1_1 l1_1.length c1_1) BK203 1 rfl;have hfz15_0:=blk_frozen BK203.out 0;have hfz15_1:=blk_frozen BK203.out 1)|(go_at_call 87;(with_reducible refine (spec_l3Terms.calls k _ _ l1_0 true _ ?side1 ?side2 A9.out).mono ?_);(case side1 => exact zsd HR1_0 HB);(case side2 => exact HC1_0.out);rintro e w' ⟨rfl,⟨nd,rfl⟩⟩)|(go_at_call 88;(with_reducible refine (spec_l1In.calls (l1_1.length : Int) 1 a2 t206 _ A11.out).mono ?_);rintro e w' ⟨rfl,⟨nd,rfl⟩⟩))
    go_meet
    case rel => exact ⟨_,(!t206),za,H',⟨by first|omega|exact Nat.le_refl _⟩,⟨zx BK202⟩,⟨zx BK203⟩,⟨zz HB⟩⟩
   ·
    replace c10:=Bool.eq_false_iff.mpr c10
    subst c10
    have H1 : (spec_l4Fine.j0 k true l0_0 l1_0 l1_1) = some r:=by rw [if_neg (show ¬ (false = true) by decide)] at H;exact H
    clear H;have H:=H1;clear H1
    have H':=zA H
    clear H;have hnb16:=NB202_203.out;have hnc16:=NB203_202.out;have hcz17_0:=zc (.slice A0_0 l0_0.length c0_0) BK202 0 rfl;have hfz17_0:=blk_frozen BK202.out 0
    go_wp2_with (first|((with_reducible refine gate_callee (f:=74) rfl ?_);refine goesL_ (some 10) rfl rfl Tryz.func74 (by kernel_rfl) rfl #[.agg #[.slice A0_0 l0_0.length c0_0]] rfl (by (try simp only [zCb,zMb,zNb]);first|done|rfl|(simp only [zLb,zDb];rfl)) ?_;(with_reducible refine (spec_IsSchema.calls k _ _ l0_0 true _ ?side1 ?side2 A7.out).mono ?_);(case side1 => exact zsd HR0_0 HB);(case side2 => exact HC0_0.out);rintro e w18 ⟨rfl,hb⟩;refine ⟨_,rfl,?_⟩;replace BK202:=zA (zQ (g:=gb202) (o:=.cells #[.slice A0_0 l0_0.length c0_0] 34 (0,0)) (zx BK202) hb);replace BK203:=zA (zQ (g:=gb203) (o:=.cells #[.slice A1_0 l1_0.length c1_0,.slice A1_1 l1_1.length c1_1] 38 (0,0)) (zx BK203) hb);replace HB:=zA (zJb (zz HB) hb);(try clear hb);(try clear hb2);(try clear hk);(try clear hi);have hcz19_0:=zc (.slice A1_0 l1_0.length c1_0) BK203 0 rfl;have hcz19_1:=zc (.slice A1_1 l1_1.length c1_1) BK203 1 rfl;have hfz19_0:=blk_frozen BK203.out 0;have hfz19_1:=blk_frozen BK203.out 1)|(go_at_call 87;(with_reducible refine (spec_l3Terms.calls k _ _ l1_0 false _ ?side1 ?side2 A9.out).mono ?_);(case side1 => exact zsd HR1_0 HB);(case side2 => exact HC1_0.out);rintro e w' ⟨rfl,⟨nd,rfl⟩⟩))
    go_meet
    case rel => exact ⟨_,(true),za,H',⟨by first|omega|exact Nat.le_refl _⟩,⟨zx BK202⟩,⟨zx BK203⟩,⟨zz HB⟩⟩
  ·
   replace c8:=Bool.eq_false_iff.mpr c8
   subst c8
   have H1 : (spec_l4Fine.j0 k true l0_0 l1_0 l1_1) = some r:=by rw [if_neg (show ¬ (false = true) by decide)] at H;exact H
   clear H;have H:=H1;clear H1
   have H':=zA H
   clear H;have hnb20:=NB202_203.out;have hnc20:=NB203_202.out;have hcz21_0:=zc (.slice A0_0 l0_0.length c0_0) BK202 0 rfl;have hfz21_0:=blk_frozen BK202.out 0
   go_wp2_with (first|((with_reducible refine gate_callee (f:=74) rfl ?_);refine goesL_ (some 10) rfl rfl Tryz.func74 (by kernel_rfl) rfl #[.agg #[.slice A0_0 l0_0.length c0_0]] rfl (by (try simp only [zCb,zMb,zNb]);first|done|rfl|(simp only [zLb,zDb];rfl)) ?_;(with_reducible refine (spec_IsSchema.calls k _ _ l0_0 false _ ?side1 ?side2 A7.out).mono ?_);(case side1 => exact zsd HR0_0 HB);(case side2 => exact HC0_0.out);rintro e w22 ⟨rfl,hb⟩;refine ⟨_,rfl,?_⟩;replace BK202:=zA (zQ (g:=gb202) (o:=.cells #[.slice A0_0 l0_0.length c0_0] 34 (0,0)) (zx BK202) hb);replace BK203:=zA (zQ (g:=gb203) (o:=.cells #[.slice A1_0 l1_0.length c1_0,.slice A1_1 l1_1.length c1_1] 38 (0,0)) (zx BK203) hb);replace HB:=zA (zJb (zz HB) hb);(try clear hb);(try clear hb2);(try clear hk);(try clear hi)))
   go_meet
   case rel => exact ⟨_,(true),za,H',⟨by first|omega|exact Nat.le_refl _⟩,⟨zx BK202⟩,⟨zx BK203⟩,⟨zz HB⟩⟩
 case rest =>
  clear HC4;(try clear c1);(try clear c2);(try clear p2);(try clear c7);(try clear c8);(try clear c10);(try clear c12);(try clear c16);(try clear c20);(try clear hcz13_0);(try clear hcz15_0);(try clear hcz15_1);(try clear hcz17_0);(try clear hcz19_0);(try clear hcz19_1);(try clear hcz21_0);(try clear hfz13_0);(try clear hfz15_0);(try clear hfz15_1);(try clear hfz17_0);(try clear hfz19_0);(try clear hfz19_1);(try clear hfz21_0);obtain ⟨kq,x25_3,rfl,HA,HJ3,BK202,BK203,HB⟩:=hcut
  cases kq with
  | zero => exact absurd HA.out (by simp [spec_l4Fine.j0])
  | succ kj3 =>
   have H:=HA.out;clear HA;simp only [spec_l4Fine.j0] at H
   by_cases c23 : x25_3 = true
   ·
    subst c23
    rw [if_pos rfl] at H
    obtain rfl:=Option.some.inj H
    go_wp2
    go_ret
    exact ⟨by first|rfl|(simp [errW_none,errW_some] <;> rfl)|(simp [*,errW_none,errW_some] <;> rfl),zz HB⟩
   ·
    replace c23:=Bool.eq_false_iff.mpr c23
    subst c23
    have H1 : (spec_l4Fine.l0 kj3 0 l0_0 l1_0 l1_1) = some r:=by rw [if_neg (show ¬ (false = true) by decide)] at H;exact H
    clear H;have H:=H1;clear H1
    have H':=zA H
    clear H
    go_wp2
    go_loopg [7] kj3 (fun kq v7 w' => ∃ (x7_2 : Int),v7 = .int .i64 x7_2 ∧ Aside0 (spec_l4Fine.l0 kq x7_2 l0_0 l1_0 l1_1 = some r) ∧ Aside0 (kq ≤ kj3) ∧ Aside0 (w'.heap[gb202]? = some (.cells #[(.slice A0_0 l0_0.length c0_0)] 34 (0,0))) ∧ Aside0 (w'.heap[gb203]? = some (.cells #[(.slice A1_0 l1_0.length c1_0),(.slice A1_1 l1_1.length c1_1)] 38 (0,0))) ∧ Aside0 (Below w.heap.size w w'))
    case atStart => exact ⟨(0),za,H',⟨Nat.le_refl _⟩,⟨zx BK202⟩,⟨zx BK203⟩,⟨zz HB⟩⟩
    case round =>
     clear H';(try clear c1);(try clear c2);(try clear p2);(try clear c7);(try clear c8);(try clear c10);(try clear c12);(try clear c16);(try clear c20);(try clear c23);(try clear hcz13_0);(try clear hcz15_0);(try clear hcz15_1);(try clear hcz17_0);(try clear hcz19_0);(try clear hcz19_1);(try clear hcz21_0);(try clear hfz13_0);(try clear hfz15_0);(try clear hfz15_1);(try clear hfz17_0);(try clear hfz19_0);(try clear hfz19_1);(try clear hfz21_0);(try clear p2);obtain ⟨x7_2,rfl,HA,HK2,BK202,BK203,HB⟩:=hrel
     cases gk with
     | zero => exact absurd HA.out (by simp [spec_l4Fine.l0])
     | succ k2 =>
      have H:=HA.out;clear HA;simp only [spec_l4Fine.l0] at H
      by_cases c24 : x7_2 < (l1_1.length : Int)
      ·
       rw [if_pos c24] at H;have c24b0:=decide_eq_true c24;clear c24
       by_cases c25 : 0 ≤ x7_2
       ·
        rw [if_pos c25] at H;have c25b0:=decide_eq_true c25;clear c25;replace H:=Option.bind_eq_some_iff.mp H;obtain ⟨t208,A260,H⟩:=H;(try dsimp only at H);have A26:=zA A260;clear A260
        by_cases c27 : t208 = true
        ·
         subst c27
         rw [if_pos rfl] at H
         have H':=zA H
         clear H;have hnb28:=NB203_202.out;have hnc28:=NB202_203.out;have hcz29_0:=zc (.slice A1_0 l1_0.length c1_0) BK203 0 rfl;have hcz29_1:=zc (.slice A1_1 l1_1.length c1_1) BK203 1 rfl;have hfz29_0:=blk_frozen BK203.out 0;have hfz29_1:=blk_frozen BK203.out 1
         try go_wp2
         have n0_:=zA (zI BK202.out);have n1_:=zA (zI BK203.out);have n2_:=zA (zJ HB.out);clear BK202;clear BK203;clear HB;have BK202:=n0_;have BK203:=n1_;have HB:=n2_;clear n0_ n1_ n2_;have p207 : 0 ≤ (x7_2 : Int):=zXb ze;have q207 : x7_2 < (l1_1.length : Int):=zXb ze;obtain ⟨ad207,A207_1,c207_1,e207,hx207_0,hx207_1,hl207_1,hi207_1⟩:=at_T81 HR1_1.out x7_2 p207 q207;have hw207_1:=hx207_1;have hw207_0:=hx207_0
         cases e207
         replace hx207_0:=(HB.out.cell (World.block_lt_of_cell? w _ hx207_0)).trans hx207_0;replace hx207_1:=(HB.out.cell (World.block_lt_of_cell? w _ hx207_1)).trans hx207_1;have HR207_1:=zA hi207_1;have HC207_1:=zA hl207_1;clear hi207_1 hl207_1;replace p207:=eq_true p207;replace q207:=eq_true q207
         refine start_ (n:=8) (S:=fun w' => w'.cell? ⟨gb202,0,none⟩ = some (.slice A0_0 l0_0.length c0_0) ∧ w'.cell? ⟨gb203,0,none⟩ = some (.slice A1_0 l1_0.length c1_0) ∧ w'.cell? ⟨gb203,1,none⟩ = some (.slice (some ad207) l1_1.length c1_1) ∧ w'.cell? (ad207.add ((x7_2).toNat * 2)) = some (.int .i64 ((rd_T81 l1_1 x7_2).f0)) ∧ w'.cell? ⟨(ad207.add ((x7_2).toNat * 2)).block,(ad207.add ((x7_2).toNat * 2)).off + 1,none⟩ = some (.slice A207_1 ((rd_T81 l1_1 x7_2).f1).length c207_1)) (ds:=[]) #[false,false,false,false,false,false,false,false] (by kernel_rfl) rfl rfl ⟨(zP BK202.out 0).trans rfl,(zP BK203.out 0).trans rfl,(zP BK203.out 1).trans rfl,((HB.out.cell (World.block_lt_of_cell? w _ hw207_0)).trans hw207_0),((HB.out.cell (World.block_lt_of_cell? w _ hw207_1)).trans hw207_1)⟩ (fun hHeld => ?_);refine with_tabW spec_l4Fine.tab6 spec_l4Fine.bits6 (fun HT_ HW_ => ?_)
         generalize wr.drew = w30 at BK202 BK203 HB HR207_1 hx207_0 hx207_1 hHeld ⊢
         refine zut 1 34 HT_ ?_;refine zut 3 36 HT_ ?_;refine zwt 0 33 HT_ HW_ hHeld ?_;refine zwt 2 35 HT_ HW_ hHeld ?_;refine zut 4 37 HT_ ?_;refine zwt 5 38 HT_ HW_ hHeld ?_
         refine one_ (i:=6) (N:=some 39) #[true,true,true,true,true,true,true,false] rfl rfl (one_of HT_.out (by kernel_rfl)) (by decide) (fun K hK => ?_)
         refine goes_ Tryz.func89 (by kernel_rfl) rfl #[.agg #[.slice A0_0 l0_0.length c0_0],.agg #[.int .i64 ((rd_T81 l1_1 x7_2).f0),.slice A207_1 ((rd_T81 l1_1 x7_2).f1).length c207_1]] (by rfl) rfl rfl (by (try simp only [zCb,zMb,zNb]);first|done|rfl|(simp only [zLb,zDb];rfl)) ?_
         with_reducible refine (spec_IsAtom.calls k2 _ _ l0_0 ((rd_T81 l1_1 x7_2).f0) _ _ ((rd_T81 l1_1 x7_2).f1) true _ ?side1 ?side2 ?side3 ?side4 A26.out).mono ?_
         (case side1 => exact zsd HR0_0 HB)
         (case side2 => exact HC0_0.out)
         (case side3 => exact zsd HR207_1 HB)
         (case side4 => exact HC207_1.out)
         rintro e w31 ⟨rfl,hb⟩
         refine ⟨_,rfl,?_⟩
         have n0_:=zA (zQ (g:=gb202) (o:=.cells #[.slice A0_0 l0_0.length c0_0] 34 (0,0)) (zx BK202) hb);have n1_:=zA (zQ (g:=gb203) (o:=.cells #[.slice A1_0 l1_0.length c1_0,.slice (some ad207) l1_1.length c1_1] 38 (0,0)) (zx BK203) hb);have n2_:=zA (zJb (zz HB) hb);clear BK202;clear BK203;clear HB;have BK202:=n0_;have BK203:=n1_;have HB:=n2_;clear n0_ n1_ n2_;(try clear hb);(try clear hb2);(try clear hk);(try clear hi)
         refine hK.out _ _ ⟨(zP BK202.out 0).trans rfl,(zP BK203.out 0).trans rfl,(zP BK203.out 1).trans rfl,((HB.out.cell (World.block_lt_of_cell? w _ hw207_0)).trans hw207_0),((HB.out.cell (World.block_lt_of_cell? w _ hw207_1)).trans hw207_1)⟩ (fun hHeld => ?_)
         clear hK K
         refine norm_ (a':=?_) ?_ ?_
         rotate_left
         ·
          show Act.put _ (some 39) _ = _
          simp only [Act.put,zO,zEb,zFb,i64_w,i32_w]
          rfl
         refine zut 7 40 HT_ ?_
         refine done_ (done_of HT_.out (by kernel_rfl)) ?_
         try go_wp2
         go_roundg k2
         case measure => have:=HJ3.out;have:=HK2.out;omega
         case rel => exact ⟨(wrap64 (x7_2 + 1)),za,H',⟨by have:=HJ3.out;have:=HK2.out;omega⟩,⟨zx BK202⟩,⟨zx BK203⟩,⟨zz HB⟩⟩
        ·
         replace c27:=Bool.eq_false_iff.mpr c27
         subst c27
         have H1 : (some false) = some r:=by rw [if_neg (show ¬ (false = true) by decide)] at H;exact H
         clear H;have H:=H1;clear H1
         obtain rfl:=Option.some.inj H
         have hnb32:=NB203_202.out;have hnc32:=NB202_203.out;have hcz33_0:=zc (.slice A1_0 l1_0.length c1_0) BK203 0 rfl;have hcz33_1:=zc (.slice A1_1 l1_1.length c1_1) BK203 1 rfl;have hfz33_0:=blk_frozen BK203.out 0;have hfz33_1:=blk_frozen BK203.out 1
         try go_wp2
         have n0_:=zA (zI BK202.out);have n1_:=zA (zI BK203.out);have n2_:=zA (zJ HB.out);clear BK202;clear BK203;clear HB;have BK202:=n0_;have BK203:=n1_;have HB:=n2_;clear n0_ n1_ n2_;have p207 : 0 ≤ (x7_2 : Int):=zXb ze;have q207 : x7_2 < (l1_1.length : Int):=zXb ze;obtain ⟨ad207,A207_1,c207_1,e207,hx207_0,hx207_1,hl207_1,hi207_1⟩:=at_T81 HR1_1.out x7_2 p207 q207;have hw207_1:=hx207_1;have hw207_0:=hx207_0
         cases e207
         replace hx207_0:=(HB.out.cell (World.block_lt_of_cell? w _ hx207_0)).trans hx207_0;replace hx207_1:=(HB.out.cell (World.block_lt_of_cell? w _ hx207_1)).trans hx207_1;have HR207_1:=zA hi207_1;have HC207_1:=zA hl207_1;clear hi207_1 hl207_1;replace p207:=eq_true p207;replace q207:=eq_true q207
         refine start_ (n:=8) (S:=fun w' => w'.cell? ⟨gb202,0,none⟩ = some (.slice A0_0 l0_0.length c0_0) ∧ w'.cell? ⟨gb203,0,none⟩ = some (.slice A1_0 l1_0.length c1_0) ∧ w'.cell? ⟨gb203,1,none⟩ = some (.slice (some ad207) l1_1.length c1_1) ∧ w'.cell? (ad207.add ((x7_2).toNat * 2)) = some (.int .i64 ((rd_T81 l1_1 x7_2).f0)) ∧ w'.cell? ⟨(ad207.add ((x7_2).toNat * 2)).block,(ad207.add ((x7_2).toNat * 2)).off + 1,none⟩ = some (.slice A207_1 ((rd_T81 l1_1 x7_2).f1).length c207_1)) (ds:=[]) #[false,false,false,false,false,false,false,false] (by kernel_rfl) rfl rfl ⟨(zP BK202.out 0).trans rfl,(zP BK203.out 0).trans rfl,(zP BK203.out 1).trans rfl,((HB.out.cell (World.block_lt_of_cell? w _ hw207_0)).trans hw207_0),((HB.out.cell (World.block_lt_of_cell? w _ hw207_1)).trans hw207_1)⟩ (fun hHeld => ?_);refine with_tabW spec_l4Fine.tab6 spec_l4Fine.bits6 (fun HT_ HW_ => ?_)
         generalize wr.drew = w34 at BK202 BK203 HB HR207_1 hx207_0 hx207_1 hHeld ⊢
         refine zut 1 34 HT_ ?_;refine zut 3 36 HT_ ?_;refine zwt 0 33 HT_ HW_ hHeld ?_;refine zwt 2 35 HT_ HW_ hHeld ?_;refine zut 4 37 HT_ ?_;refine zwt 5 38 HT_ HW_ hHeld ?_
         refine one_ (i:=6) (N:=some 39) #[true,true,true,true,true,true,true,false] rfl rfl (one_of HT_.out (by kernel_rfl)) (by decide) (fun K hK => ?_)
         refine goes_ Tryz.func89 (by kernel_rfl) rfl #[.agg #[.slice A0_0 l0_0.length c0_0],.agg #[.int .i64 ((rd_T81 l1_1 x7_2).f0),.slice A207_1 ((rd_T81 l1_1 x7_2).f1).length c207_1]] (by rfl) rfl rfl (by (try simp only [zCb,zMb,zNb]);first|done|rfl|(simp only [zLb,zDb];rfl)) ?_
         with_reducible refine (spec_IsAtom.calls k2 _ _ l0_0 ((rd_T81 l1_1 x7_2).f0) _ _ ((rd_T81 l1_1 x7_2).f1) false _ ?side1 ?side2 ?side3 ?side4 A26.out).mono ?_
         (case side1 => exact zsd HR0_0 HB)
         (case side2 => exact HC0_0.out)
         (case side3 => exact zsd HR207_1 HB)
         (case side4 => exact HC207_1.out)
         rintro e w35 ⟨rfl,hb⟩
         refine ⟨_,rfl,?_⟩
         have n0_:=zA (zQ (g:=gb202) (o:=.cells #[.slice A0_0 l0_0.length c0_0] 34 (0,0)) (zx BK202) hb);have n1_:=zA (zQ (g:=gb203) (o:=.cells #[.slice A1_0 l1_0.length c1_0,.slice (some ad207) l1_1.length c1_1] 38 (0,0)) (zx BK203) hb);have n2_:=zA (zJb (zz HB) hb);clear BK202;clear BK203;clear HB;have BK202:=n0_;have BK203:=n1_;have HB:=n2_;clear n0_ n1_ n2_;(try clear hb);(try clear hb2);(try clear hk);(try clear hi)
         refine hK.out _ _ ⟨(zP BK202.out 0).trans rfl,(zP BK203.out 0).trans rfl,(zP BK203.out 1).trans rfl,((HB.out.cell (World.block_lt_of_cell? w _ hw207_0)).trans hw207_0),((HB.out.cell (World.block_lt_of_cell? w _ hw207_1)).trans hw207_1)⟩ (fun hHeld => ?_)
         clear hK K
         refine norm_ (a':=?_) ?_ ?_
         rotate_left
         ·
          show Act.put _ (some 39) _ = _
          simp only [Act.put,zO,zEb,zFb,i64_w,i32_w]
          rfl
         refine zut 7 40 HT_ ?_
         refine done_ (done_of HT_.out (by kernel_rfl)) ?_
         try go_wp2
         go_ret
         exact ⟨by first|rfl|(simp [errW_none,errW_some] <;> rfl)|(simp [*,errW_none,errW_some] <;> rfl),zz HB⟩
       ·
        rw [if_neg c25] at H
        exact absurd H (by simp)
      ·
       rw [if_neg c24] at H;have c24b0:=decide_eq_false c24;clear c24
       have H':=zA H
       clear H;have hnb36:=NB203_202.out;have hnc36:=NB202_203.out;have hcz37_0:=zc (.slice A1_0 l1_0.length c1_0) BK203 0 rfl;have hcz37_1:=zc (.slice A1_1 l1_1.length c1_1) BK203 1 rfl;have hfz37_0:=blk_frozen BK203.out 0;have hfz37_1:=blk_frozen BK203.out 1
       go_wp2
       go_loopg [8] k2 (fun kq v8 w' => ∃ (x8_3 : Int),v8 = .int .i64 x8_3 ∧ Aside0 (spec_l4Fine.l1 kq x8_3 l1_0 l1_1 = some r) ∧ Aside0 (kq ≤ k2) ∧ Aside0 (w'.heap[gb202]? = some (.cells #[(.slice A0_0 l0_0.length c0_0)] 34 (0,0))) ∧ Aside0 (w'.heap[gb203]? = some (.cells #[(.slice A1_0 l1_0.length c1_0),(.slice A1_1 l1_1.length c1_1)] 38 (0,0))) ∧ Aside0 (Below w.heap.size w w'))
       case atStart => exact ⟨(0),za,H',⟨Nat.le_refl _⟩,⟨zx BK202⟩,⟨zx BK203⟩,⟨zz HB⟩⟩
       case round =>
        clear H';(try clear c1);(try clear c2);(try clear p2);(try clear q2);(try clear hx2);(try clear c3);(try clear p6);(try clear c7);(try clear c8);(try clear c10);(try clear c12);(try clear c16);(try clear c20);(try clear p20);(try clear q20);(try clear hx20);(try clear c23);(try clear c24);(try clear c24b0);(try clear c25);(try clear c25b0);(try clear c27);(try clear c28);(try clear c32);(try clear c36);(try clear hcz13_0);(try clear hcz15_0);(try clear hcz15_1);(try clear hcz17_0);(try clear hcz19_0);(try clear hcz19_1);(try clear hcz21_0);(try clear hcz29_0);(try clear hcz29_1);(try clear hcz33_0);(try clear hcz33_1);(try clear hcz37_0);(try clear hcz37_1);(try clear hfz13_0);(try clear hfz15_0);(try clear hfz15_1);(try clear hfz17_0);(try clear hfz19_0);(try clear hfz19_1);(try clear hfz21_0);(try clear hfz29_0);(try clear hfz29_1);(try clear hfz33_0);(try clear hfz33_1);(try clear hfz37_0);(try clear hfz37_1);(try clear hx207_0);(try clear hx207_1);(try clear p2);(try clear p207);(try clear q207);obtain ⟨x8_3,rfl,HA,HK3,BK202,BK203,HB⟩:=hrel
        cases gk with
        | zero => exact absurd HA.out (by simp [spec_l4Fine.l1])
        | succ k3 =>
         have H:=HA.out;clear HA;simp only [spec_l4Fine.l1] at H
         by_cases c38 : x8_3 < (l1_0.length : Int)
         ·
          rw [if_pos c38] at H;have c38b0:=decide_eq_true c38;clear c38
          by_cases c39 : 0 ≤ x8_3
          ·
           rw [if_pos c39] at H;have c39b0:=decide_eq_true c39;clear c39;replace H:=Option.bind_eq_some_iff.mp H;obtain ⟨t210,A400,H⟩:=H;(try dsimp only at H);have A40:=zA A400;clear A400
           by_cases c41 : t210 = true
           ·
            subst c41
            rw [if_pos rfl] at H;replace H:=Option.bind_eq_some_iff.mp H;obtain ⟨t211,A420,H⟩:=H;(try dsimp only at H);have A42:=zA A420;clear A420;replace H:=Option.bind_eq_some_iff.mp H;obtain ⟨t215,A430,H⟩:=H;(try dsimp only at H);have A43:=zA A430;clear A430
            by_cases c44 : t215 = true
            ·
             subst c44
             rw [if_pos rfl] at H
             have H':=zA H
             clear H;have hnb45:=NB203_202.out;have hnc45:=NB202_203.out;have hcz46_0:=zc (.slice A1_0 l1_0.length c1_0) BK203 0 rfl;have hcz46_1:=zc (.slice A1_1 l1_1.length c1_1) BK203 1 rfl;have hfz46_0:=blk_frozen BK203.out 0;have hfz46_1:=blk_frozen BK203.out 1
             try go_wp2
             have n0_:=zA (zI BK202.out);have n1_:=zA (zI BK203.out);have n2_:=zA (zJ HB.out);clear BK202;clear BK203;clear HB;have BK202:=n0_;have BK203:=n1_;have HB:=n2_;clear n0_ n1_ n2_;have p209 : 0 ≤ (x8_3 : Int):=zXb ze;have q209 : x8_3 < (l1_0.length : Int):=zXb ze;obtain ⟨ad209,e209,hx209_0⟩:=Kd.at_int HR1_0.out x8_3 p209 q209;have hw209_0:=hx209_0
             cases e209
             replace hx209_0:=(HB.out.cell (World.block_lt_of_cell? w _ hx209_0)).trans hx209_0;replace p209:=eq_true p209;replace q209:=eq_true q209;have p214 : 0 ≤ (x8_3 : Int):=zXb ze;have q214 : x8_3 < (l1_0.length : Int):=zXb ze;obtain ⟨ad214,e214,hx214_0⟩:=Kd.at_int HR1_0.out x8_3 p214 q214;have hw214_0:=hx214_0
             obtain rfl : ad209 = ad214:=(by injection e214)
             replace hx214_0:=(HB.out.cell (World.block_lt_of_cell? w _ hx214_0)).trans hx214_0;replace p214:=eq_true p214;replace q214:=eq_true q214
             refine start_ (n:=17) (S:=fun w' => w'.cell? ⟨gb203,0,none⟩ = some (.slice (some ad209) l1_0.length c1_0) ∧ w'.cell? ⟨gb203,1,none⟩ = some (.slice A1_1 l1_1.length c1_1) ∧ w'.cell? (ad209.add (x8_3).toNat) = some (.int .i64 (rd l1_0 x8_3)) ∧ w'.cell? (ad209.add (x8_3).toNat) = some (.int .i64 (rd l1_0 x8_3))) (ds:=[]) #[false,false,false,false,false,false,false,false,false,false,false,false,false,false,false,false,false] (by kernel_rfl) rfl rfl ⟨(zP BK203.out 0).trans rfl,(zP BK203.out 1).trans rfl,((HB.out.cell (World.block_lt_of_cell? w _ hw209_0)).trans hw209_0),((HB.out.cell (World.block_lt_of_cell? w _ hw214_0)).trans hw214_0)⟩ (fun hHeld => ?_);refine with_tabW spec_l4Fine.tab11 spec_l4Fine.bits11 (fun HT_ HW_ => ?_)
             generalize wr.drew = w47 at BK202 BK203 HB hx209_0 hx214_0 hHeld ⊢
             refine zut 0 48 HT_ ?_;refine zut 2 50 HT_ ?_;refine zwt 1 49 HT_ HW_ hHeld ?_;refine zut 3 51 HT_ ?_;refine zwt 4 52 HT_ HW_ hHeld ?_
             refine one_ (i:=5) (N:=some 53) #[true,true,true,true,true,true,false,false,false,false,false,false,false,false,false,false,false] rfl rfl (one_of HT_.out (by kernel_rfl)) (by decide) (fun K hK => ?_)
             refine goes_ Tryz.func90 (by kernel_rfl) rfl #[.int .i64 (rd l1_0 x8_3)] (by rfl) rfl rfl (by (try simp only [zCb,zMb,zNb]);first|done|rfl|(simp only [zLb,zDb];rfl)) ?_
             with_reducible refine (spec_IsVar.calls (rd l1_0 x8_3) true _ A40.out).mono ?_
             rintro e w' ⟨rfl,⟨nd,rfl⟩⟩
             refine ⟨_,rfl,?_⟩
             refine hK.out _ _ ⟨(zP BK203.out 0).trans rfl,(zP BK203.out 1).trans rfl,((HB.out.cell (World.block_lt_of_cell? w _ hw209_0)).trans hw209_0),((HB.out.cell (World.block_lt_of_cell? w _ hw214_0)).trans hw214_0)⟩ (fun hHeld => ?_)
             clear hK K
             refine norm_ (a':=?_) ?_ ?_
             rotate_left
             ·
              show Act.put _ (some 53) _ = _
              simp only [Act.put,zO,zEb,zFb,i64_w,i32_w]
              rfl
             refine zut 6 54 HT_ ?_;refine zut 9 57 HT_ ?_;refine zut 11 59 HT_ ?_;refine zwt 7 55 HT_ HW_ hHeld ?_;refine zwt 10 58 HT_ HW_ hHeld ?_;refine zut 12 60 HT_ ?_;refine zwt 13 61 HT_ HW_ hHeld ?_
             refine one_ (i:=8) (N:=some 56) #[true,true,true,true,true,true,true,true,true,true,true,true,true,true,false,false,false] rfl rfl (one_of HT_.out (by kernel_rfl)) (by decide) (fun K hK => ?_)
             refine goes_ Tryz.func92 (by kernel_rfl) rfl #[.agg #[.slice (some ad209) l1_0.length c1_0,.slice A1_1 l1_1.length c1_1]] (by rfl) rfl rfl (by (try simp only [zCb,zMb,zNb]);first|done|rfl|(simp only [zLb,zDb];rfl)) ?_
             with_reducible refine (spec_l4BodyVars.calls k3 _ _ l1_0 _ _ l1_1 t211 _ ?side1 ?side2 ?side3 ?side4 A42.out).mono ?_
             (case side1 => repeat (first|exact (zKb HR1_0.out (zz HB))|(with_reducible refine zBb ?_ _)|(with_reducible refine zAb ?_ _)|(with_reducible refine zX ?_)))
             (case side2 => exact HC1_0.out)
             (case side3 => repeat (first|exact (zKb HR1_1.out (zz HB))|(with_reducible refine zBb ?_ _)|(with_reducible refine zAb ?_ _)|(with_reducible refine zX ?_)))
             (case side4 => exact HC1_1.out)
             rintro e w48 ⟨v212,rfl,ho0,hb⟩
             refine ⟨_,rfl,?_⟩
             have n0_:=zA (zHb ho0 (zT (zz HB)));have n1_:=zA (zQ (g:=gb202) (o:=.cells #[.slice A0_0 l0_0.length c0_0] 34 (0,0)) (zx BK202) hb);have n2_:=zA (zQ (g:=gb203) (o:=.cells #[.slice (some ad209) l1_0.length c1_0,.slice A1_1 l1_1.length c1_1] 38 (0,0)) (zx BK203) hb);have n3_:=zA (zJb (zz HB) hb);clear BK202;clear BK203;clear HB;have HO213:=n0_;have BK202:=n1_;have BK203:=n2_;have HB:=n3_;clear n0_ n1_ n2_ n3_;(try clear hb);(try clear hb2);(try clear hk);(try clear hi);(try clear ho0);obtain ⟨Ao49,co49,eo49⟩:=Kd.R_slice HO213.out
             (first|subst eo49|(injection eo49 with f1_ f2_ f3_;have f4_:=f1_.symm;have f5_:=f3_.symm;clear f1_ f2_ f3_;subst f4_;subst f5_))
             refine hK.out _ _ ⟨(zP BK203.out 0).trans rfl,(zP BK203.out 1).trans rfl,((HB.out.cell (World.block_lt_of_cell? w _ hw209_0)).trans hw209_0),((HB.out.cell (World.block_lt_of_cell? w _ hw214_0)).trans hw214_0)⟩ (fun hHeld => ?_)
             clear hK K
             refine norm_ (a':=?_) ?_ ?_
             rotate_left
             ·
              show Act.put _ (some 56) _ = _
              simp only [Act.put,zO,zEb,zFb,i64_w,i32_w]
              rfl
             refine one_ (i:=14) (N:=some 62) #[true,true,true,true,true,true,true,true,true,true,true,true,true,true,true,false,false] rfl rfl (one_of HT_.out (by kernel_rfl)) (by decide) (fun K hK => ?_)
             refine goes_ Tryz.func91 (by kernel_rfl) rfl #[.slice Ao49 t211.length co49,.int .i64 (rd l1_0 x8_3)] (by rfl) rfl rfl (by (try simp only [zCb,zMb,zNb]);first|done|rfl|(simp only [zLb,zDb];rfl)) ?_
             with_reducible refine (spec_l2Has.calls k3 _ _ t211 (rd l1_0 x8_3) true _ ?side1 ?side2 A43.out).mono ?_
             (case side1 => repeat (first|exact (Kd.R_reads' HO213.out).2.2|(with_reducible refine zBb ?_ _)|(with_reducible refine zAb ?_ _)|(with_reducible refine zX ?_)))
             (case side2 => exact (Kd.R_reads' HO213.out).2.1)
             rintro e w' ⟨rfl,⟨nd,rfl⟩⟩
             refine ⟨_,rfl,?_⟩
             refine hK.out _ _ ⟨(zP BK203.out 0).trans rfl,(zP BK203.out 1).trans rfl,((HB.out.cell (World.block_lt_of_cell? w _ hw209_0)).trans hw209_0),((HB.out.cell (World.block_lt_of_cell? w _ hw214_0)).trans hw214_0)⟩ (fun hHeld => ?_)
             clear hK K
             refine norm_ (a':=?_) ?_ ?_
             rotate_left
             ·
              show Act.put _ (some 62) _ = _
              simp only [Act.put,zO,zEb,zFb,i64_w,i32_w]
              rfl
             refine zut 15 63 HT_ ?_;refine zut 16 64 HT_ ?_
             refine done_ (done_of HT_.out (by kernel_rfl)) ?_
             try go_wp2
             go_roundg k3
             case measure => have:=HJ3.out;have:=HK2.out;have:=HK3.out;omega
             case rel => exact ⟨(wrap64 (x8_3 + 1)),za,H',⟨by have:=HJ3.out;have:=HK2.out;have:=HK3.out;omega⟩,⟨zx BK202⟩,⟨zx BK203⟩,⟨zz HB⟩⟩
            ·
             replace c44:=Bool.eq_false_iff.mpr c44
             subst c44
             have H1 : (some false) = some r:=by rw [if_neg (show ¬ (false = true) by decide)] at H;exact H
             clear H;have H:=H1;clear H1
             obtain rfl:=Option.some.inj H
             have hnb50:=NB203_202.out;have hnc50:=NB202_203.out;have hcz51_0:=zc (.slice A1_0 l1_0.length c1_0) BK203 0 rfl;have hcz51_1:=zc (.slice A1_1 l1_1.length c1_1) BK203 1 rfl;have hfz51_0:=blk_frozen BK203.out 0;have hfz51_1:=blk_frozen BK203.out 1
             try go_wp2
             have n0_:=zA (zI BK202.out);have n1_:=zA (zI BK203.out);have n2_:=zA (zJ HB.out);clear BK202;clear BK203;clear HB;have BK202:=n0_;have BK203:=n1_;have HB:=n2_;clear n0_ n1_ n2_;have p209 : 0 ≤ (x8_3 : Int):=zXb ze;have q209 : x8_3 < (l1_0.length : Int):=zXb ze;obtain ⟨ad209,e209,hx209_0⟩:=Kd.at_int HR1_0.out x8_3 p209 q209;have hw209_0:=hx209_0
             cases e209
             replace hx209_0:=(HB.out.cell (World.block_lt_of_cell? w _ hx209_0)).trans hx209_0;replace p209:=eq_true p209;replace q209:=eq_true q209;have p214 : 0 ≤ (x8_3 : Int):=zXb ze;have q214 : x8_3 < (l1_0.length : Int):=zXb ze;obtain ⟨ad214,e214,hx214_0⟩:=Kd.at_int HR1_0.out x8_3 p214 q214;have hw214_0:=hx214_0
             obtain rfl : ad209 = ad214:=(by injection e214)
             replace hx214_0:=(HB.out.cell (World.block_lt_of_cell? w _ hx214_0)).trans hx214_0;replace p214:=eq_true p214;replace q214:=eq_true q214
             refine start_ (n:=17) (S:=fun w' => w'.cell? ⟨gb203,0,none⟩ = some (.slice (some ad209) l1_0.length c1_0) ∧ w'.cell? ⟨gb203,1,none⟩ = some (.slice A1_1 l1_1.length c1_1) ∧ w'.cell? (ad209.add (x8_3).toNat) = some (.int .i64 (rd l1_0 x8_3)) ∧ w'.cell? (ad209.add (x8_3).toNat) = some (.int .i64 (rd l1_0 x8_3))) (ds:=[]) #[false,false,false,false,false,false,false,false,false,false,false,false,false,false,false,false,false] (by kernel_rfl) rfl rfl ⟨(zP BK203.out 0).trans rfl,(zP BK203.out 1).trans rfl,((HB.out.cell (World.block_lt_of_cell? w _ hw209_0)).trans hw209_0),((HB.out.cell (World.block_lt_of_cell? w _ hw214_0)).trans hw214_0)⟩ (fun hHeld => ?_);refine with_tabW spec_l4Fine.tab11 spec_l4Fine.bits11 (fun HT_ HW_ => ?_)
             generalize wr.drew = w52 at BK202 BK203 HB hx209_0 hx214_0 hHeld ⊢
             refine zut 0 48 HT_ ?_;refine zut 2 50 HT_ ?_;refine zwt 1 49 HT_ HW_ hHeld ?_;refine zut 3 51 HT_ ?_;refine zwt 4 52 HT_ HW_ hHeld ?_
             refine one_ (i:=5) (N:=some 53) #[true,true,true,true,true,true,false,false,false,false,false,false,false,false,false,false,false] rfl rfl (one_of HT_.out (by kernel_rfl)) (by decide) (fun K hK => ?_)
             refine goes_ Tryz.func90 (by kernel_rfl) rfl #[.int .i64 (rd l1_0 x8_3)] (by rfl) rfl rfl (by (try simp only [zCb,zMb,zNb]);first|done|rfl|(simp only [zLb,zDb];rfl)) ?_
             with_reducible refine (spec_IsVar.calls (rd l1_0 x8_3) true _ A40.out).mono ?_
             rintro e w' ⟨rfl,⟨nd,rfl⟩⟩
             refine ⟨_,rfl,?_⟩
             refine hK.out _ _ ⟨(zP BK203.out 0).trans rfl,(zP BK203.out 1).trans rfl,((HB.out.cell (World.block_lt_of_cell? w _ hw209_0)).trans hw209_0),((HB.out.cell (World.block_lt_of_cell? w _ hw214_0)).trans hw214_0)⟩ (fun hHeld => ?_)
             clear hK K
             refine norm_ (a':=?_) ?_ ?_
             rotate_left
             ·
              show Act.put _ (some 53) _ = _
              simp only [Act.put,zO,zEb,zFb,i64_w,i32_w]
              rfl
             refine zut 6 54 HT_ ?_;refine zut 9 57 HT_ ?_;refine zut 11 59 HT_ ?_;refine zwt 7 55 HT_ HW_ hHeld ?_;refine zwt 10 58 HT_ HW_ hHeld ?_;refine zut 12 60 HT_ ?_;refine zwt 13 61 HT_ HW_ hHeld ?_
             refine one_ (i:=8) (N:=some 56) #[true,true,true,true,true,true,true,true,true,true,true,true,true,true,false,false,false] rfl rfl (one_of HT_.out (by kernel_rfl)) (by decide) (fun K hK => ?_)
             refine goes_ Tryz.func92 (by kernel_rfl) rfl #[.agg #[.slice (some ad209) l1_0.length c1_0,.slice A1_1 l1_1.length c1_1]] (by rfl) rfl rfl (by (try simp only [zCb,zMb,zNb]);first|done|rfl|(simp only [zLb,zDb];rfl)) ?_
             with_reducible refine (spec_l4BodyVars.calls k3 _ _ l1_0 _ _ l1_1 t211 _ ?side1 ?side2 ?side3 ?side4 A42.out).mono ?_
             (case side1 => repeat (first|exact (zKb HR1_0.out (zz HB))|(with_reducible refine zBb ?_ _)|(with_reducible refine zAb ?_ _)|(with_reducible refine zX ?_)))
             (case side2 => exact HC1_0.out)
             (case side3 => repeat (first|exact (zKb HR1_1.out (zz HB))|(with_reducible refine zBb ?_ _)|(with_reducible refine zAb ?_ _)|(with_reducible refine zX ?_)))
             (case side4 => exact HC1_1.out)
             rintro e w53 ⟨v212,rfl,ho0,hb⟩
             refine ⟨_,rfl,?_⟩
             have n0_:=zA (zHb ho0 (zT (zz HB)));have n1_:=zA (zQ (g:=gb202) (o:=.cells #[.slice A0_0 l0_0.length c0_0] 34 (0,0)) (zx BK202) hb);have n2_:=zA (zQ (g:=gb203) (o:=.cells #[.slice (some ad209) l1_0.length c1_0,.slice A1_1 l1_1.length c1_1] 38 (0,0)) (zx BK203) hb);have n3_:=zA (zJb (zz HB) hb);clear BK202;clear BK203;clear HB;have HO213:=n0_;have BK202:=n1_;have BK203:=n2_;have HB:=n3_;clear n0_ n1_ n2_ n3_;(try clear hb);(try clear hb2);(try clear hk);(try clear hi);(try clear ho0);obtain ⟨Ao54,co54,eo54⟩:=Kd.R_slice HO213.out
             (first|subst eo54|(injection eo54 with f1_ f2_ f3_;have f4_:=f1_.symm;have f5_:=f3_.symm;clear f1_ f2_ f3_;subst f4_;subst f5_))
             refine hK.out _ _ ⟨(zP BK203.out 0).trans rfl,(zP BK203.out 1).trans rfl,((HB.out.cell (World.block_lt_of_cell? w _ hw209_0)).trans hw209_0),((HB.out.cell (World.block_lt_of_cell? w _ hw214_0)).trans hw214_0)⟩ (fun hHeld => ?_)
             clear hK K
             refine norm_ (a':=?_) ?_ ?_
             rotate_left
             ·
              show Act.put _ (some 56) _ = _
              simp only [Act.put,zO,zEb,zFb,i64_w,i32_w]
              rfl
             refine one_ (i:=14) (N:=some 62) #[true,true,true,true,true,true,true,true,true,true,true,true,true,true,true,false,false] rfl rfl (one_of HT_.out (by kernel_rfl)) (by decide) (fun K hK => ?_)
             refine goes_ Tryz.func91 (by kernel_rfl) rfl #[.slice Ao54 t211.length co54,.int .i64 (rd l1_0 x8_3)] (by rfl) rfl rfl (by (try simp only [zCb,zMb,zNb]);first|done|rfl|(simp only [zLb,zDb];rfl)) ?_
             with_reducible refine (spec_l2Has.calls k3 _ _ t211 (rd l1_0 x8_3) false _ ?side1 ?side2 A43.out).mono ?_
             (case side1 => repeat (first|exact (Kd.R_reads' HO213.out).2.2|(with_reducible refine zBb ?_ _)|(with_reducible refine zAb ?_ _)|(with_reducible refine zX ?_)))
             (case side2 => exact (Kd.R_reads' HO213.out).2.1)
             rintro e w' ⟨rfl,⟨nd,rfl⟩⟩
             refine ⟨_,rfl,?_⟩
             refine hK.out _ _ ⟨(zP BK203.out 0).trans rfl,(zP BK203.out 1).trans rfl,((HB.out.cell (World.block_lt_of_cell? w _ hw209_0)).trans hw209_0),((HB.out.cell (World.block_lt_of_cell? w _ hw214_0)).trans hw214_0)⟩ (fun hHeld => ?_)
             clear hK K
             refine norm_ (a':=?_) ?_ ?_
             rotate_left
             ·
              show Act.put _ (some 62) _ = _
              simp only [Act.put,zO,zEb,zFb,i64_w,i32_w]
              rfl
             refine zut 15 63 HT_ ?_;refine zut 16 64 HT_ ?_
             refine done_ (done_of HT_.out (by kernel_rfl)) ?_
             try go_wp2
             go_ret
             exact ⟨by first|rfl|(simp [errW_none,errW_some] <;> rfl)|(simp [*,errW_none,errW_some] <;> rfl),zz HB⟩
           ·
            replace c41:=Bool.eq_false_iff.mpr c41
            subst c41
            have H1 : (spec_l4Fine.l1 k3 (wrap64 (x8_3 + 1)) l1_0 l1_1) = some r:=by rw [if_neg (show ¬ (false = true) by decide)] at H;exact H
            clear H;have H:=H1;clear H1
            have H':=zA H
            clear H;have hnb55:=NB203_202.out;have hnc55:=NB202_203.out;have hcz56_0:=zc (.slice A1_0 l1_0.length c1_0) BK203 0 rfl;have hcz56_1:=zc (.slice A1_1 l1_1.length c1_1) BK203 1 rfl;have hfz56_0:=blk_frozen BK203.out 0;have hfz56_1:=blk_frozen BK203.out 1
            try go_wp2
            have n0_:=zA (zI BK202.out);have n1_:=zA (zI BK203.out);have n2_:=zA (zJ HB.out);clear BK202;clear BK203;clear HB;have BK202:=n0_;have BK203:=n1_;have HB:=n2_;clear n0_ n1_ n2_;have p209 : 0 ≤ (x8_3 : Int):=zXb ze;have q209 : x8_3 < (l1_0.length : Int):=zXb ze;obtain ⟨ad209,e209,hx209_0⟩:=Kd.at_int HR1_0.out x8_3 p209 q209;have hw209_0:=hx209_0
            cases e209
            replace hx209_0:=(HB.out.cell (World.block_lt_of_cell? w _ hx209_0)).trans hx209_0;replace p209:=eq_true p209;replace q209:=eq_true q209
            refine start_ (n:=17) (S:=fun w' => w'.cell? ⟨gb203,0,none⟩ = some (.slice (some ad209) l1_0.length c1_0) ∧ w'.cell? ⟨gb203,1,none⟩ = some (.slice A1_1 l1_1.length c1_1) ∧ w'.cell? (ad209.add (x8_3).toNat) = some (.int .i64 (rd l1_0 x8_3))) (ds:=[]) #[false,false,false,false,false,false,false,false,false,false,false,false,false,false,false,false,false] (by kernel_rfl) rfl rfl ⟨(zP BK203.out 0).trans rfl,(zP BK203.out 1).trans rfl,((HB.out.cell (World.block_lt_of_cell? w _ hw209_0)).trans hw209_0)⟩ (fun hHeld => ?_);refine with_tabW spec_l4Fine.tab11 spec_l4Fine.bits11 (fun HT_ HW_ => ?_)
            generalize wr.drew = w57 at BK202 BK203 HB hx209_0 hHeld ⊢
            refine zut 0 48 HT_ ?_;refine zut 2 50 HT_ ?_;refine zwt 1 49 HT_ HW_ hHeld ?_;refine zut 3 51 HT_ ?_;refine zwt 4 52 HT_ HW_ hHeld ?_
            refine one_ (i:=5) (N:=some 53) #[true,true,true,true,true,true,false,false,false,false,false,false,false,false,false,false,false] rfl rfl (one_of HT_.out (by kernel_rfl)) (by decide) (fun K hK => ?_)
            refine goes_ Tryz.func90 (by kernel_rfl) rfl #[.int .i64 (rd l1_0 x8_3)] (by rfl) rfl rfl (by (try simp only [zCb,zMb,zNb]);first|done|rfl|(simp only [zLb,zDb];rfl)) ?_
            with_reducible refine (spec_IsVar.calls (rd l1_0 x8_3) false _ A40.out).mono ?_
            rintro e w' ⟨rfl,⟨nd,rfl⟩⟩
            refine ⟨_,rfl,?_⟩
            refine hK.out _ _ ⟨(zP BK203.out 0).trans rfl,(zP BK203.out 1).trans rfl,((HB.out.cell (World.block_lt_of_cell? w _ hw209_0)).trans hw209_0)⟩ (fun hHeld => ?_)
            clear hK K
            refine norm_ (a':=?_) ?_ ?_
            rotate_left
            ·
             show Act.put _ (some 53) _ = _
             simp only [Act.put,zO,zEb,zFb,i64_w,i32_w]
             rfl
            refine zut 6 54 HT_ ?_;refine zot 7 55 HT_ ?_;refine zot 8 56 HT_ ?_;refine zot 9 57 HT_ ?_;refine zot 10 58 HT_ ?_;refine zot 11 59 HT_ ?_;refine zot 12 60 HT_ ?_;refine zot 13 61 HT_ ?_;refine zot 14 62 HT_ ?_;refine zot 15 63 HT_ ?_;refine zut 16 64 HT_ ?_
            refine done_ (done_of HT_.out (by kernel_rfl)) ?_
            try go_wp2
            go_roundg k3
            case measure => have:=HJ3.out;have:=HK2.out;have:=HK3.out;omega
            case rel => exact ⟨(wrap64 (x8_3 + 1)),za,H',⟨by have:=HJ3.out;have:=HK2.out;have:=HK3.out;omega⟩,⟨zx BK202⟩,⟨zx BK203⟩,⟨zz HB⟩⟩
          ·
           rw [if_neg c39] at H
           exact absurd H (by simp)
         ·
          rw [if_neg c38] at H;have c38b0:=decide_eq_false c38;clear c38
          obtain rfl:=Option.some.inj H
          have hnb58:=NB203_202.out;have hnc58:=NB202_203.out;have hcz59_0:=zc (.slice A1_0 l1_0.length c1_0) BK203 0 rfl;have hcz59_1:=zc (.slice A1_1 l1_1.length c1_1) BK203 1 rfl;have hfz59_0:=blk_frozen BK203.out 0;have hfz59_1:=blk_frozen BK203.out 1
          go_wp2
          go_ret
          exact ⟨by first|rfl|(simp [errW_none,errW_some] <;> rfl)|(simp [*,errW_none,errW_some] <;> rfl),zz HB⟩

end Go.Proofs.YtfelabhakgcifaaGreat.QFnExactAnswers
