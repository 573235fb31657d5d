/- Walks through the Go functions that FnExactParseQuery reaches: each call returns what the Lean function beside it says, within the bounds that the theorem names. -/
import Derived.Test.YtpfpappamlgnoaaQFnExactParseQueryx0
import Derived.Test.YtpfpappamlgnoaaQFnExactParseQueryx2
import Derived.Test.YtpfpappamlgnoaaQFnExactParseQueryx6
namespace Go.Proofs.Ytpfpappamlgnoaa.QFnExactParseQuery
open Go.RowKit Go.Proofs.YtpfpappamlgnoaaW.PrintWords Go.Proofs.YtpfpappamlgnoaaW.PrintLast Go.Proofs.YtpfpappamlgnoaaW.PrintMore
attribute [local go_sem] max2_int min2_int max_two min_two max_three min_three max_four min_four   -- for this text's walks alone
set_option linter.unusedVariables false
set_option linter.unusedSimpArgs false


/-! ### spec_FormatQuery: function 49 -/
mutual
def spec_FormatQuery.j0 : Nat → Bool → List Int → List (S38) → Option (ByteArray)
 | 0, _, _, _ => none
 | k + 1, x16, x202000, x202001 => if x16 = true then (some (⟨#[]⟩ : ByteArray)) else ((spec_l3List.f k x202000).bind fun t204 => (if (x202000.length : Int) = 0 then (spec_FormatQuery.j1 k (⟨#[121, 101, 115]⟩ : ByteArray) x202000 x202001) else (spec_FormatQuery.j1 k t204 x202000 x202001)))
def spec_FormatQuery.j1 : Nat → ByteArray → List Int → List (S38) → Option (ByteArray)
 | 0, _, _, _ => none
 | k + 1, x3, x202000, x202001 => spec_FormatQuery.l0 k x3 0 x202000 x202001
def spec_FormatQuery.l0 : Nat → ByteArray → Int → List Int → List (S38) → Option (ByteArray)
 | 0, _, _, _, _ => none
 | k + 1, x3, x4, x202000, x202001 => if x4 < (x202001.length : Int) then (if 0 ≤ x4 then ((spec_FormatAtom.f k ((rd_T38 x202001 x4).f0) ((rd_T38 x202001 x4).f1)).bind fun t206 => (if t206.toList = ([] : List UInt8) then (some (⟨#[]⟩ : ByteArray)) else (if x4 = 0 then (if x3.size + 4 ≤ 9223372036854775807 then (if (x3 ++ (⟨#[32, 58, 45, 32]⟩ : ByteArray)).size + t206.size ≤ 9223372036854775807 then (spec_FormatQuery.l0 k ((x3 ++ (⟨#[32, 58, 45, 32]⟩ : ByteArray)) ++ t206) (wrap64 (x4 + 1)) x202000 x202001) else (none)) else (none)) else (if x3.size + 2 ≤ 9223372036854775807 then (if (x3 ++ (⟨#[59, 32]⟩ : ByteArray)).size + t206.size ≤ 9223372036854775807 then (spec_FormatQuery.l0 k ((x3 ++ (⟨#[59, 32]⟩ : ByteArray)) ++ t206) (wrap64 (x4 + 1)) x202000 x202001) else (none)) else (none))))) else (none)) else (some x3)
end
def spec_FormatQuery.f (k : Nat) (l0_0 : List Int) (l0_1 : List (S38)) : Option (ByteArray) := (spec_l3Terms.f k l0_0).bind fun t202 => (if t202 = true then ((spec_l1In.f (l0_1.length : Int) 1 8).bind fun t203 => (spec_FormatQuery.j0 k (!t203) l0_0 l0_1)) else (spec_FormatQuery.j0 k true l0_0 l0_1))
theorem spec_FormatQuery.mono_l : ∀ k, (∀ y0 y1 y2, LeO (spec_FormatQuery.j0 k y0 y1 y2) (spec_FormatQuery.j0 (k + 1) y0 y1 y2)) ∧ (∀ y0 y1 y2, LeO (spec_FormatQuery.j1 k y0 y1 y2) (spec_FormatQuery.j1 (k + 1) y0 y1 y2)) ∧ (∀ y0 y1 y2 y3, LeO (spec_FormatQuery.l0 k y0 y1 y2 y3) (spec_FormatQuery.l0 (k + 1) y0 y1 y2 y3))
 | 0 => ⟨fun _ _ _ r h => by simp [spec_FormatQuery.j0] at h, fun _ _ _ r h => by simp [spec_FormatQuery.j1] at h, fun _ _ _ _ r h => by simp [spec_FormatQuery.l0] at h⟩
 | k + 1 => by
  obtain ⟨ih0,ih1,ih2⟩:=spec_FormatQuery.mono_l k
  refine ⟨?_,?_,?_⟩
  (intros;unfold spec_FormatQuery.j0;rotate_left)
  (intros;unfold spec_FormatQuery.j1;rotate_left)
  (intros;unfold spec_FormatQuery.l0;rotate_left)
  all_goals repeat' first
  | (with_reducible exact ih0 _ _ _)
  | (with_reducible exact ih1 _ _ _)
  | (with_reducible exact ih2 _ _ _ _)
  | (with_reducible exact spec_FormatAtom.mono _ _ _)
  | (with_reducible exact spec_l3List.mono _ _)
  | (with_reducible exact spec_l3Terms.mono _ _)
  | (with_reducible exact LeO.refl _)
  | (with_reducible exact LeO.none _)
  | (with_reducible refine LeO.ite ?_ ?_)
  | (with_reducible refine LeO.bind ?_ (fun _ => ?_))
  | exact ih0 _ _ _
  | exact ih1 _ _ _
  | exact ih2 _ _ _ _
  | exact LeO.none _
  | refine LeO.ite ?_ ?_
  | refine LeO.bind ?_ (fun _ => ?_)
theorem spec_FormatQuery.mono : ∀ a0 a1 k, LeO (spec_FormatQuery.f k a0 a1) (spec_FormatQuery.f (k + 1) a0 a1) := by
 intro a0 a1 k
 obtain ⟨ih0,ih1,ih2⟩:=spec_FormatQuery.mono_l k
 unfold spec_FormatQuery.f
 repeat' first
   | (with_reducible exact ih0 _ _ _)
   | (with_reducible exact ih1 _ _ _)
   | (with_reducible exact ih2 _ _ _ _)
   | (with_reducible exact spec_FormatAtom.mono _ _ _)
   | (with_reducible exact spec_l3List.mono _ _)
   | (with_reducible exact spec_l3Terms.mono _ _)
   | (with_reducible exact LeO.refl _)
   | (with_reducible exact LeO.none _)
   | (with_reducible refine LeO.ite ?_ ?_)
   | (with_reducible refine LeO.bind ?_ (fun _ => ?_))
   | exact ih0 _ _ _
   | exact ih1 _ _ _
   | exact ih2 _ _ _ _
   | exact LeO.none _
   | refine LeO.ite ?_ ?_
   | refine LeO.bind ?_ (fun _ => ?_)
set_option maxHeartbeats 8000000 in
set_option maxRecDepth 100000 in
theorem spec_FormatQuery.calls (k : Nat) (A0_0 : Option Addr) (c0_0 : Nat) (l0_0 : List Int) (A0_1 : Option Addr) (c0_1 : Nat) (l0_1 : List (S38)) (r : ByteArray) (w : World) (hr0_0 : Kd.C (Kd.int .i64) w A0_0 l0_0.length l0_0) (hc0_0 : l0_0.length ≤ c0_0) (hr0_1 : Kd.C k38 w A0_1 l0_1.length l0_1) (hc0_1 : l0_1.length ≤ c0_1) (h : spec_FormatQuery.f k l0_0 l0_1 = some r) :
  Calls Try.prog 49 #[.agg #[.slice A0_0 l0_0.length c0_0, .slice A0_1 l0_1.length c0_1]] w fun e w' => e = .returned (.string r) ∧ Below w.heap.size w w' := by
 have hu49:=Try.underlying49;have hu38:=Try.underlying38;have HR0_0:=zA hr0_0;have HC0_0:=zA hc0_0;clear hr0_0 hc0_0;have HR0_1:=zA hr0_1;have HC0_1:=zA hc0_1;clear hr0_1 hc0_1;have HB:=zA (Below.refl w.heap.size w)
 have H : ((spec_l3Terms.f k l0_0).bind fun t202 => (if t202 = true then ((spec_l1In.f (l0_1.length : Int) 1 8).bind fun t203 => (spec_FormatQuery.j0 k (!t203) l0_0 l0_1)) else (spec_FormatQuery.j0 k true l0_0 l0_1))) = some r:=h
 clear h;have HC2:=zA H;clear H
 go_enter Try.func49,Try.ntmps49
 go_upto_region 1 with (first|((with_reducible refine gate_dst (N:=1) rfl ?_);(try (refine gate_guard (by rfl) ?_;dsimp only));refine box_event ?hg (N:=1) ?hd (cs:=#[.slice A0_0 l0_0.length c0_0,.slice A0_1 l0_1.length c0_1]) (t:=49) ?hr ?_;(case hd => rfl);(case hg => rfl);(case hr => first|(go_simp;done)|(go_simp;rfl));intro gb201 hg w3 hbox hb;have BK201:=zA (hbox);have GW201:=zA ((by rw [hg];exact (zT (zz HB)) : w.heap.size ≤ gb201));have GE201:=zA ((by rw [hg];exact (zT (zz HB)) : w.heap.size ≤ gb201));replace HB:=zA (zJb (zz HB) hb);clear hb hbox hg))
 (try simp only [Act.put,zO,zEb,zFb])
 go_cut [16] (fun v16 wc => ∃ (kq : Nat) (x16_1 : Bool),v16 = .bool x16_1 ∧ Aside0 (spec_FormatQuery.j0 kq x16_1 l0_0 l0_1 = some r) ∧ Aside0 (kq ≤ k) ∧ Aside0 (wc.heap[gb201]? = some (.cells #[(.slice A0_0 l0_0.length c0_0),(.slice A0_1 l0_1.length c0_1)] 49 (0,0))) ∧ Aside0 (Below w.heap.size w wc))
 case first =>
  have H:=HC2.out;clear HC2;replace H:=Option.bind_eq_some_iff.mp H;obtain ⟨t202,A40,H⟩:=H;(try dsimp only at H);have A4:=zA A40;clear A40
  by_cases c5 : t202 = true
  ·
   subst c5
   rw [if_pos rfl] at H;replace H:=Option.bind_eq_some_iff.mp H;obtain ⟨t203,A60,H⟩:=H;(try dsimp only at H);have A6:=zA A60;clear A60
   have H':=zA H
   clear H;have hcz7_0:=zc (.slice A0_0 l0_0.length c0_0) BK201 0 rfl;have hcz7_1:=zc (.slice A0_1 l0_1.length c0_1) BK201 1 rfl;have hfz7_0:=blk_frozen BK201.out 0;have hfz7_1:=blk_frozen BK201.out 1
   go_wp2_with (first|((with_reducible refine gate_callee (f:=85) rfl ?_);refine goesL_ (some 8) rfl rfl Try.func85 (by kernel_rfl) rfl #[.slice A0_0 l0_0.length c0_0] rfl (by (try simp only [zCb,zMb,zNb]);first|done|rfl|(simp only [zLb,zDb];rfl)) ?_;(with_reducible refine (spec_l3Terms.calls k _ _ l0_0 true _ ?side1 ?side2 A4.out).mono ?_);(case side1 => repeat (first|exact (zKb HR0_0.out HB.out)|(with_reducible refine zBb ?_ _)|(with_reducible refine zAb ?_ _)|(with_reducible refine zX ?_)));(case side2 => exact HC0_0.out);rintro e w' ⟨rfl,⟨nd,rfl⟩⟩;refine ⟨_,rfl,?_⟩)|(go_at_call 84;(with_reducible refine (spec_l1In.calls (l0_1.length : Int) 1 8 t203 _ A6.out).mono ?_);rintro e w' ⟨rfl,⟨nd,rfl⟩⟩))
   go_meet
   case rel => exact ⟨_,(!t203),za,H',⟨by first|omega|exact Nat.le_refl _⟩,⟨zx BK201⟩,⟨zz HB⟩⟩
  ·
   replace c5:=Bool.eq_false_iff.mpr c5
   subst c5
   have H1 : (spec_FormatQuery.j0 k true l0_0 l0_1) = some r:=by rw [if_neg (show ¬ (false = true) by decide)] at H;exact H
   clear H;have H:=H1;clear H1
   have H':=zA H
   clear H;have hcz8_0:=zc (.slice A0_0 l0_0.length c0_0) BK201 0 rfl;have hcz8_1:=zc (.slice A0_1 l0_1.length c0_1) BK201 1 rfl;have hfz8_0:=blk_frozen BK201.out 0;have hfz8_1:=blk_frozen BK201.out 1
   go_wp2_with (first|((with_reducible refine gate_callee (f:=85) rfl ?_);refine goesL_ (some 8) rfl rfl Try.func85 (by kernel_rfl) rfl #[.slice A0_0 l0_0.length c0_0] rfl (by (try simp only [zCb,zMb,zNb]);first|done|rfl|(simp only [zLb,zDb];rfl)) ?_;(with_reducible refine (spec_l3Terms.calls k _ _ l0_0 false _ ?side1 ?side2 A4.out).mono ?_);(case side1 => repeat (first|exact (zKb HR0_0.out HB.out)|(with_reducible refine zBb ?_ _)|(with_reducible refine zAb ?_ _)|(with_reducible refine zX ?_)));(case side2 => exact HC0_0.out);rintro e w' ⟨rfl,⟨nd,rfl⟩⟩;refine ⟨_,rfl,?_⟩))
   go_meet
   case rel => exact ⟨_,(true),za,H',⟨by first|omega|exact Nat.le_refl _⟩,⟨zx BK201⟩,⟨zz HB⟩⟩
 case rest =>
  clear HC2;(try clear p2);(try clear c4);(try clear c5);(try clear c8);(try clear hcz7_0);(try clear hcz7_1);(try clear hcz8_0);(try clear hcz8_1);(try clear hfz7_0);(try clear hfz7_1);(try clear hfz8_0);(try clear hfz8_1);obtain ⟨kq,x16_1,rfl,HA,HJ1,BK201,HB⟩:=hcut
  cases kq with
  | zero => exact absurd HA.out (by simp [spec_FormatQuery.j0])
  | succ kj1 =>
   have H:=HA.out;clear HA;simp only [spec_FormatQuery.j0] at H
   by_cases c9 : x16_1 = true
   ·
    subst c9
    rw [if_pos rfl] at H
    obtain rfl:=Option.some.inj H
    go_wp2
    go_ret
    exact ⟨by first|rfl|(simp [errW_none,errW_some] <;> rfl)|(simp [*,errW_none,errW_some] <;> rfl),zz HB⟩
   ·
    replace c9:=Bool.eq_false_iff.mpr c9
    subst c9
    have H1 : ((spec_l3List.f kj1 l0_0).bind fun t204 => (if (l0_0.length : Int) = 0 then (spec_FormatQuery.j1 kj1 (⟨#[121,101,115]⟩ : ByteArray) l0_0 l0_1) else (spec_FormatQuery.j1 kj1 t204 l0_0 l0_1))) = some r:=by rw [if_neg (show ¬ (false = true) by decide)] at H;exact H
    clear H;have H:=H1;clear H1;replace H:=Option.bind_eq_some_iff.mp H;obtain ⟨t204,A100,H⟩:=H;(try dsimp only at H);have A10:=zA A100;clear A100;have HC11:=zA H;clear H;have hcz12_0:=zc (.slice A0_0 l0_0.length c0_0) BK201 0 rfl;have hcz12_1:=zc (.slice A0_1 l0_1.length c0_1) BK201 1 rfl;have hfz12_0:=blk_frozen BK201.out 0;have hfz12_1:=blk_frozen BK201.out 1
    go_upto_if 23 with (first|((with_reducible refine gate_callee (f:=87) rfl ?_);refine goesL_ (some 19) rfl rfl Try.func87 (by kernel_rfl) rfl #[.slice A0_0 l0_0.length c0_0] rfl (by (try simp only [zCb,zMb,zNb]);first|done|rfl|(simp only [zLb,zDb];rfl)) ?_;(with_reducible refine (spec_l3List.calls kj1 _ _ l0_0 t204 _ ?side1 ?side2 A10.out).mono ?_);(case side1 => repeat (first|exact (zKb HR0_0.out HB.out)|(with_reducible refine zBb ?_ _)|(with_reducible refine zAb ?_ _)|(with_reducible refine zX ?_)));(case side2 => exact HC0_0.out);rintro e w13 ⟨rfl,hb⟩;refine ⟨_,rfl,?_⟩;replace BK201:=zA (zQ (g:=gb201) (o:=.cells #[.slice A0_0 l0_0.length c0_0,.slice A0_1 l0_1.length c0_1] 49 (0,0)) (zx BK201) hb);replace HB:=zA (zJb (zz HB) hb);(try clear hb);(try clear hb2);(try clear hk);(try clear hi);have hcz14_0:=zc (.slice A0_0 l0_0.length c0_0) BK201 0 rfl;have hcz14_1:=zc (.slice A0_1 l0_1.length c0_1) BK201 1 rfl;have hfz14_0:=blk_frozen BK201.out 0;have hfz14_1:=blk_frozen BK201.out 1))
    (try simp only [Act.put,zO,zEb,zFb])
    go_cut [3] (fun v3 wc => ∃ (kq : Nat) (x3_10 : ByteArray),v3 = .string x3_10 ∧ Aside0 (spec_FormatQuery.j1 kq x3_10 l0_0 l0_1 = some r) ∧ Aside0 (kq ≤ kj1) ∧ Aside0 (wc.heap[gb201]? = some (.cells #[(.slice A0_0 l0_0.length c0_0),(.slice A0_1 l0_1.length c0_1)] 49 (0,0))) ∧ Aside0 (Below w.heap.size w wc))
    case first =>
     have H:=HC11.out;clear HC11
     by_cases c15 : (l0_0.length : Int) = 0
     ·
      rw [if_pos c15] at H;have c15b0:=beq_iff_eq.mpr c15;have c15b1:=bne_eq_false_iff_eq.mpr c15;clear c15
      (first|rw [c15b0]|(simp only [i64_w,i32_w];rw [c15b0])|skip)
      have H':=zA H
      clear H
      go_wp2
      go_meet
      case rel => exact ⟨_,((⟨#[121,101,115]⟩ : ByteArray)),za,H',⟨by have:=HJ1.out;first|omega|exact Nat.le_refl _⟩,⟨zx BK201⟩,⟨zz HB⟩⟩
     ·
      rw [if_neg c15] at H;have c15b0:=beq_eq_false_iff_ne.mpr c15;have c15b1:=bne_iff_ne.mpr c15
      have c15b2 : ¬ (l0_0 = []):=fun h_ => c15 (by rw [h_];rfl)
      (first|rw [c15b0]|(simp only [i64_w,i32_w];rw [c15b0])|skip)
      have H':=zA H
      clear H
      go_wp2
      go_meet
      case rel => exact ⟨_,(t204),za,H',⟨by have:=HJ1.out;first|omega|exact Nat.le_refl _⟩,⟨zx BK201⟩,⟨zz HB⟩⟩
    case rest =>
     clear HC11;(try clear c1);(try clear p2);(try clear c4);(try clear c5);(try clear c8);(try clear c9);(try clear c15);(try clear c15b0);(try clear c15b1);(try clear c15b2);(try clear hcz12_0);(try clear hcz12_1);(try clear hcz14_0);(try clear hcz14_1);(try clear hcz7_0);(try clear hcz7_1);(try clear hcz8_0);(try clear hcz8_1);(try clear hfz12_0);(try clear hfz12_1);(try clear hfz14_0);(try clear hfz14_1);(try clear hfz7_0);(try clear hfz7_1);(try clear hfz8_0);(try clear hfz8_1);(try clear p2);obtain ⟨kq,x3_10,rfl,HA,HJ10,BK201,HB⟩:=hcut
     cases kq with
     | zero => exact absurd HA.out (by simp [spec_FormatQuery.j1])
     | succ kj10 =>
      have H:=HA.out;clear HA;simp only [spec_FormatQuery.j1] at H
      have H':=zA H
      clear H
      go_wp2
      go_loopg [3,4] kj10 (fun kq v3 v4 w' => ∃ (x3_3 : ByteArray) (x4_3 : Int),v3 = .string x3_3 ∧ v4 = .int .i64 x4_3 ∧ Aside0 (spec_FormatQuery.l0 kq x3_3 x4_3 l0_0 l0_1 = some r) ∧ Aside0 (kq ≤ kj10) ∧ Aside0 (w'.heap[gb201]? = some (.cells #[(.slice A0_0 l0_0.length c0_0),(.slice A0_1 l0_1.length c0_1)] 49 (0,0))) ∧ Aside0 (Below w.heap.size w w'))
      case atStart => exact ⟨(x3_10),(0),za,za,H',⟨Nat.le_refl _⟩,⟨zx BK201⟩,⟨zz HB⟩⟩
      case round =>
       clear H';(try clear c1);(try clear p2);(try clear c4);(try clear c5);(try clear c8);(try clear c9);(try clear c15);(try clear c15b0);(try clear c15b1);(try clear c15b2);(try clear hcz12_0);(try clear hcz12_1);(try clear hcz14_0);(try clear hcz14_1);(try clear hcz7_0);(try clear hcz7_1);(try clear hcz8_0);(try clear hcz8_1);(try clear hfz12_0);(try clear hfz12_1);(try clear hfz14_0);(try clear hfz14_1);(try clear hfz7_0);(try clear hfz7_1);(try clear hfz8_0);(try clear hfz8_1);(try clear p2);obtain ⟨x3_3,x4_3,rfl,rfl,HA,HK3,BK201,HB⟩:=hrel
       cases gk with
       | zero => exact absurd HA.out (by simp [spec_FormatQuery.l0])
       | succ k3 =>
        have H:=HA.out;clear HA;simp only [spec_FormatQuery.l0] at H
        by_cases c16 : x4_3 < (l0_1.length : Int)
        ·
         rw [if_pos c16] at H;have c16b0:=decide_eq_true c16;clear c16
         by_cases c17 : 0 ≤ x4_3
         ·
          rw [if_pos c17] at H;have c17b0:=decide_eq_true c17;clear c17;replace H:=Option.bind_eq_some_iff.mp H;obtain ⟨t206,A180,H⟩:=H;(try dsimp only at H);have A18:=zA A180;clear A180
          by_cases c19 : t206.toList = ([] : List UInt8)
          ·
           rw [if_pos c19] at H;have c19b0:=beq_iff_eq.mpr c19;have c19b1:=bne_eq_false_iff_eq.mpr c19;clear c19
           obtain rfl:=Option.some.inj H
           have hcz20_0:=zc (.slice A0_0 l0_0.length c0_0) BK201 0 rfl;have hcz20_1:=zc (.slice A0_1 l0_1.length c0_1) BK201 1 rfl;have hfz20_0:=blk_frozen BK201.out 0;have hfz20_1:=blk_frozen BK201.out 1;have p205 : 0 ≤ (x4_3 : Int):=zXb ze;have q205 : x4_3 < (l0_1.length : Int):=zXb ze;obtain ⟨ad205,A205_1,c205_1,e205,hx205_0,hx205_1,hl205_1,hi205_1⟩:=at_T38 HR0_1.out x4_3 p205 q205
           cases e205
           replace hx205_0:=(HB.out.cell (World.block_lt_of_cell? w _ hx205_0)).trans hx205_0;replace hx205_1:=(HB.out.cell (World.block_lt_of_cell? w _ hx205_1)).trans hx205_1;have HR205_1:=zA hi205_1;have HC205_1:=zA hl205_1;clear hi205_1 hl205_1;replace p205:=eq_true p205;replace q205:=eq_true q205
           go_wp2_with (first|((with_reducible refine gate_callee (f:=27) rfl ?_);refine goesL_ (some 36) rfl rfl Try.func27 (by kernel_rfl) rfl #[.agg #[.int .i64 ((rd_T38 l0_1 x4_3).f0),.slice A205_1 ((rd_T38 l0_1 x4_3).f1).length c205_1]] rfl (by (try simp only [zCb,zMb,zNb]);first|done|rfl|(simp only [zLb,zDb];rfl)) ?_;(with_reducible refine (spec_FormatAtom.calls k3 ((rd_T38 l0_1 x4_3).f0) _ _ ((rd_T38 l0_1 x4_3).f1) t206 _ ?side1 ?side2 A18.out).mono ?_);(case side1 => repeat (first|exact (zKb HR205_1.out HB.out)|(with_reducible refine zBb ?_ _)|(with_reducible refine zAb ?_ _)|(with_reducible refine zX ?_)));(case side2 => exact HC205_1.out);rintro e w21 ⟨rfl,hb⟩;refine ⟨_,rfl,?_⟩;replace BK201:=zA (zQ (g:=gb201) (o:=.cells #[.slice A0_0 l0_0.length c0_0,.slice (some ad205) l0_1.length c0_1] 49 (0,0)) (zx BK201) hb);replace HB:=zA (zJb (zz HB) hb);(try clear hb);(try clear hb2);(try clear hk);(try clear hi)))
           go_ret
           exact ⟨by first|rfl|(simp [errW_none,errW_some] <;> rfl)|(simp [*,errW_none,errW_some] <;> rfl),zz HB⟩
          ·
           rw [if_neg c19] at H;have c19b0:=beq_eq_false_iff_ne.mpr c19;have c19b1:=bne_iff_ne.mpr c19
           by_cases c22 : x4_3 = 0
           ·
            rw [if_pos c22] at H;have c22b0:=beq_iff_eq.mpr c22;have c22b1:=bne_eq_false_iff_eq.mpr c22;clear c22
            by_cases c23 : x3_3.size + 4 ≤ 9223372036854775807
            ·
             rw [if_pos c23] at H;have c23b0:=eq_true c23;have c23b1:=decide_eq_true c23
             try have c23b2 : (9223372036854775807 < x3_3.size + 4) = False:=eq_false (Nat.not_lt.2 c23)
             by_cases c24 : (x3_3 ++ (⟨#[32,58,45,32]⟩ : ByteArray)).size + t206.size ≤ 9223372036854775807
             ·
              rw [if_pos c24] at H;have c24b0:=eq_true c24;have c24b1:=decide_eq_true c24
              try have c24b2 : (9223372036854775807 < (x3_3 ++ (⟨#[32,58,45,32]⟩ : ByteArray)).size + t206.size) = False:=eq_false (Nat.not_lt.2 c24)
              try have c24z0 : (9223372036854775807 < x3_3.size + 4 + t206.size) = False:=eq_false (by have h_:=c24;have e0_ : (⟨#[32,58,45,32]⟩ : ByteArray).size = 4:=rfl;simp only [ByteArray.size_append] at h_;omega)
              try have c24z1 : (x3_3.size + 4 + t206.size ≤ 9223372036854775807) = True:=eq_true (by have h_:=c24;have e0_ : (⟨#[32,58,45,32]⟩ : ByteArray).size = 4:=rfl;simp only [ByteArray.size_append] at h_;omega)
              have H':=zA H
              clear H;have hcz25_0:=zc (.slice A0_0 l0_0.length c0_0) BK201 0 rfl;have hcz25_1:=zc (.slice A0_1 l0_1.length c0_1) BK201 1 rfl;have hfz25_0:=blk_frozen BK201.out 0;have hfz25_1:=blk_frozen BK201.out 1;have p205 : 0 ≤ (x4_3 : Int):=zXb ze;have q205 : x4_3 < (l0_1.length : Int):=zXb ze;obtain ⟨ad205,A205_1,c205_1,e205,hx205_0,hx205_1,hl205_1,hi205_1⟩:=at_T38 HR0_1.out x4_3 p205 q205
              cases e205
              replace hx205_0:=(HB.out.cell (World.block_lt_of_cell? w _ hx205_0)).trans hx205_0;replace hx205_1:=(HB.out.cell (World.block_lt_of_cell? w _ hx205_1)).trans hx205_1;have HR205_1:=zA hi205_1;have HC205_1:=zA hl205_1;clear hi205_1 hl205_1;replace p205:=eq_true p205;replace q205:=eq_true q205
              go_wp2_with (first|((with_reducible refine gate_callee (f:=27) rfl ?_);refine goesL_ (some 36) rfl rfl Try.func27 (by kernel_rfl) rfl #[.agg #[.int .i64 ((rd_T38 l0_1 x4_3).f0),.slice A205_1 ((rd_T38 l0_1 x4_3).f1).length c205_1]] rfl (by (try simp only [zCb,zMb,zNb]);first|done|rfl|(simp only [zLb,zDb];rfl)) ?_;(with_reducible refine (spec_FormatAtom.calls k3 ((rd_T38 l0_1 x4_3).f0) _ _ ((rd_T38 l0_1 x4_3).f1) t206 _ ?side1 ?side2 A18.out).mono ?_);(case side1 => repeat (first|exact (zKb HR205_1.out HB.out)|(with_reducible refine zBb ?_ _)|(with_reducible refine zAb ?_ _)|(with_reducible refine zX ?_)));(case side2 => exact HC205_1.out);rintro e w26 ⟨rfl,hb⟩;refine ⟨_,rfl,?_⟩;replace BK201:=zA (zQ (g:=gb201) (o:=.cells #[.slice A0_0 l0_0.length c0_0,.slice (some ad205) l0_1.length c0_1] 49 (0,0)) (zx BK201) hb);replace HB:=zA (zJb (zz HB) hb);(try clear hb);(try clear hb2);(try clear hk);(try clear hi)))
              go_roundg k3
              case measure => have:=HJ1.out;have:=HJ10.out;have:=HK3.out;omega
              case rel => exact ⟨((x3_3 ++ (⟨#[32,58,45,32]⟩ : ByteArray)) ++ t206),(wrap64 (x4_3 + 1)),za,za,H',⟨by have:=HJ1.out;have:=HJ10.out;have:=HK3.out;omega⟩,⟨zx BK201⟩,⟨zz HB⟩⟩
             ·
              rw [if_neg c24] at H
              exact absurd H (by simp)
            ·
             rw [if_neg c23] at H
             exact absurd H (by simp)
           ·
            rw [if_neg c22] at H;have c22b0:=beq_eq_false_iff_ne.mpr c22;have c22b1:=bne_iff_ne.mpr c22
            by_cases c27 : x3_3.size + 2 ≤ 9223372036854775807
            ·
             rw [if_pos c27] at H;have c27b0:=eq_true c27;have c27b1:=decide_eq_true c27
             try have c27b2 : (9223372036854775807 < x3_3.size + 2) = False:=eq_false (Nat.not_lt.2 c27)
             by_cases c28 : (x3_3 ++ (⟨#[59,32]⟩ : ByteArray)).size + t206.size ≤ 9223372036854775807
             ·
              rw [if_pos c28] at H;have c28b0:=eq_true c28;have c28b1:=decide_eq_true c28
              try have c28b2 : (9223372036854775807 < (x3_3 ++ (⟨#[59,32]⟩ : ByteArray)).size + t206.size) = False:=eq_false (Nat.not_lt.2 c28)
              try have c28z0 : (9223372036854775807 < x3_3.size + 2 + t206.size) = False:=eq_false (by have h_:=c28;have e0_ : (⟨#[59,32]⟩ : ByteArray).size = 2:=rfl;simp only [ByteArray.size_append] at h_;omega)
              try have c28z1 : (x3_3.size + 2 + t206.size ≤ 9223372036854775807) = True:=eq_true (by have h_:=c28;have e0_ : (⟨#[59,32]⟩ : ByteArray).size = 2:=rfl;simp only [ByteArray.size_append] at h_;omega)
              have H':=zA H
              clear H;have hcz29_0:=zc (.slice A0_0 l0_0.length c0_0) BK201 0 rfl;have hcz29_1:=zc (.slice A0_1 l0_1.length c0_1) BK201 1 rfl;have hfz29_0:=blk_frozen BK201.out 0;have hfz29_1:=blk_frozen BK201.out 1;have p205 : 0 ≤ (x4_3 : Int):=zXb ze;have q205 : x4_3 < (l0_1.length : Int):=zXb ze;obtain ⟨ad205,A205_1,c205_1,e205,hx205_0,hx205_1,hl205_1,hi205_1⟩:=at_T38 HR0_1.out x4_3 p205 q205
              cases e205
              replace hx205_0:=(HB.out.cell (World.block_lt_of_cell? w _ hx205_0)).trans hx205_0;replace hx205_1:=(HB.out.cell (World.block_lt_of_cell? w _ hx205_1)).trans hx205_1;have HR205_1:=zA hi205_1;have HC205_1:=zA hl205_1;clear hi205_1 hl205_1;replace p205:=eq_true p205;replace q205:=eq_true q205
              go_wp2_with (first|((with_reducible refine gate_callee (f:=27) rfl ?_);refine goesL_ (some 36) rfl rfl Try.func27 (by kernel_rfl) rfl #[.agg #[.int .i64 ((rd_T38 l0_1 x4_3).f0),.slice A205_1 ((rd_T38 l0_1 x4_3).f1).length c205_1]] rfl (by (try simp only [zCb,zMb,zNb]);first|done|rfl|(simp only [zLb,zDb];rfl)) ?_;(with_reducible refine (spec_FormatAtom.calls k3 ((rd_T38 l0_1 x4_3).f0) _ _ ((rd_T38 l0_1 x4_3).f1) t206 _ ?side1 ?side2 A18.out).mono ?_);(case side1 => repeat (first|exact (zKb HR205_1.out HB.out)|(with_reducible refine zBb ?_ _)|(with_reducible refine zAb ?_ _)|(with_reducible refine zX ?_)));(case side2 => exact HC205_1.out);rintro e w30 ⟨rfl,hb⟩;refine ⟨_,rfl,?_⟩;replace BK201:=zA (zQ (g:=gb201) (o:=.cells #[.slice A0_0 l0_0.length c0_0,.slice (some ad205) l0_1.length c0_1] 49 (0,0)) (zx BK201) hb);replace HB:=zA (zJb (zz HB) hb);(try clear hb);(try clear hb2);(try clear hk);(try clear hi)))
              go_roundg k3
              case measure => have:=HJ1.out;have:=HJ10.out;have:=HK3.out;omega
              case rel => exact ⟨((x3_3 ++ (⟨#[59,32]⟩ : ByteArray)) ++ t206),(wrap64 (x4_3 + 1)),za,za,H',⟨by have:=HJ1.out;have:=HJ10.out;have:=HK3.out;omega⟩,⟨zx BK201⟩,⟨zz HB⟩⟩
             ·
              rw [if_neg c28] at H
              exact absurd H (by simp)
            ·
             rw [if_neg c27] at H
             exact absurd H (by simp)
         ·
          rw [if_neg c17] at H
          exact absurd H (by simp)
        ·
         rw [if_neg c16] at H;have c16b0:=decide_eq_false c16;clear c16
         obtain rfl:=Option.some.inj H
         have hcz31_0:=zc (.slice A0_0 l0_0.length c0_0) BK201 0 rfl;have hcz31_1:=zc (.slice A0_1 l0_1.length c0_1) BK201 1 rfl;have hfz31_0:=blk_frozen BK201.out 0;have hfz31_1:=blk_frozen BK201.out 1
         go_wp2
         go_ret
         exact ⟨by first|rfl|(simp [errW_none,errW_some] <;> rfl)|(simp [*,errW_none,errW_some] <;> rfl),zz HB⟩

/-! ### spec_ParseInt: function 81 -/
mutual
def spec_ParseInt.l0 : Nat → ByteArray → Int → Int → Int → Option (Int × Bool)
 | 0, _, _, _, _ => none
 | k + 1, x0, x4, x5, x6 => if x6 < (x0.size : Int) then (spec_ParseInt.j1 k x0 x4 x5 x6 (decide (x6 < 11))) else (spec_ParseInt.j1 k x0 x4 x5 x6 false)
def spec_ParseInt.j1 : Nat → ByteArray → Int → Int → Int → Bool → Option (Int × Bool)
 | 0, _, _, _, _, _ => none
 | k + 1, x0, x4, x5, x6, x14 => if x14 = true then (if 0 ≤ x6 then (if x6 < (x0.size : Int) then (if (bt x0 x6) ≥ 48 then (if (bt x0 x6) ≤ 57 then (spec_ParseInt.l0 k x0 (wrap64 ((wrap64 (x4 * 10)) + (((bt x0 x6) - 48) % 256))) (wrap64 (x5 + 1)) (wrap64 (x6 + 1))) else (spec_ParseInt.l0 k x0 x4 x5 (wrap64 (x6 + 1)))) else (spec_ParseInt.l0 k x0 x4 x5 (wrap64 (x6 + 1)))) else (none)) else (none)) else (if (x0.size : Int) > 0 then (if 0 < (x0.size : Int) then (spec_ParseInt.j2 k x0 x4 x5 ((bt x0 0) == 45)) else (none)) else (spec_ParseInt.j2 k x0 x4 x5 false))
def spec_ParseInt.j2 : Nat → ByteArray → Int → Int → Bool → Option (Int × Bool)
 | 0, _, _, _, _ => none
 | k + 1, x0, x4, x5, x44 => if x44 = true then (if x5 > 9 then (some (0, false)) else (if (x0.size : Int) > 10 then (some (0, false)) else ((spec_FormatInt.f k (wrap64 (-x4))).bind fun t207 => (if t207.toList = x0.toList then (some (wrap64 (-x4), true)) else (some (0, false)))))) else (if x5 > 9 then (some (0, false)) else (if (x0.size : Int) > 10 then (some (0, false)) else ((spec_FormatInt.f k x4).bind fun t208 => (if t208.toList = x0.toList then (some (x4, true)) else (some (0, false))))))
end
def spec_ParseInt.f (k : Nat) (a0 : ByteArray) : Option (Int × Bool) := spec_ParseInt.l0 k a0 0 0 0
theorem spec_ParseInt.mono_l : ∀ k, (∀ y0 y1 y2 y3, LeO (spec_ParseInt.l0 k y0 y1 y2 y3) (spec_ParseInt.l0 (k + 1) y0 y1 y2 y3)) ∧ (∀ y0 y1 y2 y3 y4, LeO (spec_ParseInt.j1 k y0 y1 y2 y3 y4) (spec_ParseInt.j1 (k + 1) y0 y1 y2 y3 y4)) ∧ (∀ y0 y1 y2 y3, LeO (spec_ParseInt.j2 k y0 y1 y2 y3) (spec_ParseInt.j2 (k + 1) y0 y1 y2 y3))
 | 0 => ⟨fun _ _ _ _ r h => by simp [spec_ParseInt.l0] at h, fun _ _ _ _ _ r h => by simp [spec_ParseInt.j1] at h, fun _ _ _ _ r h => by simp [spec_ParseInt.j2] at h⟩
 | k + 1 => by
  obtain ⟨ih0,ih1,ih2⟩:=spec_ParseInt.mono_l k
  refine ⟨?_,?_,?_⟩
  (intros;unfold spec_ParseInt.l0;rotate_left)
  (intros;unfold spec_ParseInt.j1;rotate_left)
  (intros;unfold spec_ParseInt.j2;rotate_left)
  all_goals repeat' first
  | (with_reducible exact ih0 _ _ _ _)
  | (with_reducible exact ih1 _ _ _ _ _)
  | (with_reducible exact ih2 _ _ _ _)
  | (with_reducible exact spec_FormatInt.mono _ _)
  | (with_reducible exact LeO.refl _)
  | (with_reducible exact LeO.none _)
  | (with_reducible refine LeO.ite ?_ ?_)
  | (with_reducible refine LeO.bind ?_ (fun _ => ?_))
  | exact ih0 _ _ _ _
  | exact ih1 _ _ _ _ _
  | exact ih2 _ _ _ _
  | exact LeO.none _
  | refine LeO.ite ?_ ?_
  | refine LeO.bind ?_ (fun _ => ?_)
theorem spec_ParseInt.mono : ∀ a0 k, LeO (spec_ParseInt.f k a0) (spec_ParseInt.f (k + 1) a0) := by
 intro a0 k
 obtain ⟨ih0,ih1,ih2⟩:=spec_ParseInt.mono_l k
 unfold spec_ParseInt.f
 repeat' first
   | (with_reducible exact ih0 _ _ _ _)
   | (with_reducible exact ih1 _ _ _ _ _)
   | (with_reducible exact ih2 _ _ _ _)
   | (with_reducible exact spec_FormatInt.mono _ _)
   | (with_reducible exact LeO.refl _)
   | (with_reducible exact LeO.none _)
   | (with_reducible refine LeO.ite ?_ ?_)
   | (with_reducible refine LeO.bind ?_ (fun _ => ?_))
   | exact ih0 _ _ _ _
   | exact ih1 _ _ _ _ _
   | exact ih2 _ _ _ _
   | exact LeO.none _
   | refine LeO.ite ?_ ?_
   | refine LeO.bind ?_ (fun _ => ?_)
set_option maxHeartbeats 8000000 in
set_option maxRecDepth 100000 in
theorem spec_ParseInt.calls (k : Nat) (a0 : ByteArray) (r1 : Int) (r2 : Bool) (w : World) (h : spec_ParseInt.f k a0 = some (r1, r2)) :
  Calls Try.prog 81 #[.string a0] w fun e w' => e = .returned (.tuple #[.int .i64 r1, .bool r2]) ∧ Below w.heap.size w w' := by
 have HB:=zA (Below.refl w.heap.size w)
 have H : (spec_ParseInt.l0 k a0 0 0 0) = some (r1,r2):=h
 clear h
 have H':=zA H
 clear H
 go_enter Try.func81,Try.ntmps81
 go_wp2
 go_loopg [4,5,6] k (fun kq v4 v5 v6 w' => ∃ (x4_1 : Int) (x5_1 : Int) (x6_1 : Int),v4 = .int .i64 x4_1 ∧ v5 = .int .i64 x5_1 ∧ v6 = .int .i64 x6_1 ∧ Aside0 (spec_ParseInt.l0 kq a0 x4_1 x5_1 x6_1 = some (r1,r2)) ∧ Aside0 (kq ≤ k) ∧ Aside0 (Below w.heap.size w w'))
 case atStart => exact ⟨(0),(0),(0),za,za,za,H',⟨Nat.le_refl _⟩,⟨zz HB⟩⟩
 case round =>
  clear H';obtain ⟨x4_1,x5_1,x6_1,rfl,rfl,rfl,HA,HK1,HB⟩:=hrel
  cases gk with
  | zero => exact absurd HA.out (by simp [spec_ParseInt.l0])
  | succ k1 =>
   have H:=HA.out;clear HA;simp only [spec_ParseInt.l0] at H;have HC2:=zA H;clear H
   go_upto_region 4 with (fail)
   go_cut [14] (fun v14 wc => ∃ (kq : Nat) (x14_1 : Bool),v14 = .bool x14_1 ∧ Aside0 (spec_ParseInt.j1 kq a0 x4_1 x5_1 x6_1 x14_1 = some (r1,r2)) ∧ Aside0 (kq ≤ k1) ∧ Aside0 (Below w.heap.size w wc))
   case first =>
    have H:=HC2.out;clear HC2
    by_cases c3 : x6_1 < (a0.size : Int)
    ·
     rw [if_pos c3] at H;have c3b0:=decide_eq_true c3;clear c3
     (first|rw [c3b0]|(simp only [i64_w,i32_w];rw [c3b0])|skip)
     have H':=zA H
     clear H
     go_wp2
     go_meet
     case rel => exact ⟨_,(decide (x6_1 < 11)),za,H',⟨by have:=HK1.out;first|omega|exact Nat.le_refl _⟩,⟨zz HB⟩⟩
    ·
     rw [if_neg c3] at H;have c3b0:=decide_eq_false c3;clear c3
     (first|rw [c3b0]|(simp only [i64_w,i32_w];rw [c3b0])|skip)
     have H':=zA H
     clear H
     go_wp2
     go_meet
     case rel => exact ⟨_,(false),za,H',⟨by have:=HK1.out;first|omega|exact Nat.le_refl _⟩,⟨zz HB⟩⟩
   case rest =>
    clear HC2;(try clear p2);(try clear c3);(try clear c3b0);obtain ⟨kq,x14_1,rfl,HA,HJ1,HB⟩:=hcut
    cases kq with
    | zero => exact absurd HA.out (by simp [spec_ParseInt.j1])
    | succ kj1 =>
     have H:=HA.out;clear HA;simp only [spec_ParseInt.j1] at H
     by_cases c4 : x14_1 = true
     ·
      subst c4
      rw [if_pos rfl] at H
      by_cases c5 : 0 ≤ x6_1
      ·
       rw [if_pos c5] at H;have c5b0:=decide_eq_true c5;clear c5
       by_cases c6 : x6_1 < (a0.size : Int)
       ·
        rw [if_pos c6] at H;have c6b0:=decide_eq_true c6;clear c6
        by_cases c8 : (bt a0 x6_1) ≥ 48
        ·
         rw [if_pos c8] at H
         have c8b0 : decide (48 ≤ (bt a0 x6_1)) = true:=decide_eq_true c8
         clear c8
         by_cases c10 : (bt a0 x6_1) ≤ 57
         ·
          rw [if_pos c10] at H;have c10b0:=decide_eq_true c10;clear c10
          have H':=zA H
          clear H;have p7 : 0 ≤ (x6_1 : Int):=zXb ze;have q7 : x6_1 < (a0.size : Int):=zXb ze;have hx7:=bt_at a0 x6_1;replace p7:=eq_true p7;replace q7:=eq_true q7;have p9 : 0 ≤ (x6_1 : Int):=zXb ze;have q9 : x6_1 < (a0.size : Int):=zXb ze;have hx9:=bt_at a0 x6_1;replace p9:=eq_true p9;replace q9:=eq_true q9;have p11 : 0 ≤ (x6_1 : Int):=zXb ze;have q11 : x6_1 < (a0.size : Int):=zXb ze;have hx11:=bt_at a0 x6_1;replace p11:=eq_true p11;replace q11:=eq_true q11
          go_wp2
          go_roundg kj1
          case measure => have:=HK1.out;have:=HJ1.out;omega
          case rel => exact ⟨(wrap64 ((wrap64 (x4_1 * 10)) + (((bt a0 x6_1) - 48) % 256))),(wrap64 (x5_1 + 1)),(wrap64 (x6_1 + 1)),za,za,za,H',⟨by have:=HK1.out;have:=HJ1.out;omega⟩,⟨zz HB⟩⟩
         ·
          rw [if_neg c10] at H;have c10b0:=decide_eq_false c10;clear c10
          have H':=zA H
          clear H;have p7 : 0 ≤ (x6_1 : Int):=zXb ze;have q7 : x6_1 < (a0.size : Int):=zXb ze;have hx7:=bt_at a0 x6_1;replace p7:=eq_true p7;replace q7:=eq_true q7;have p9 : 0 ≤ (x6_1 : Int):=zXb ze;have q9 : x6_1 < (a0.size : Int):=zXb ze;have hx9:=bt_at a0 x6_1;replace p9:=eq_true p9;replace q9:=eq_true q9
          go_wp2
          go_roundg kj1
          case measure => have:=HK1.out;have:=HJ1.out;omega
          case rel => exact ⟨(x4_1),(x5_1),(wrap64 (x6_1 + 1)),za,za,za,H',⟨by have:=HK1.out;have:=HJ1.out;omega⟩,⟨zz HB⟩⟩
        ·
         rw [if_neg c8] at H
         have c8b0 : decide (48 ≤ (bt a0 x6_1)) = false:=decide_eq_false c8
         clear c8
         have H':=zA H
         clear H;have p7 : 0 ≤ (x6_1 : Int):=zXb ze;have q7 : x6_1 < (a0.size : Int):=zXb ze;have hx7:=bt_at a0 x6_1;replace p7:=eq_true p7;replace q7:=eq_true q7
         go_wp2
         go_roundg kj1
         case measure => have:=HK1.out;have:=HJ1.out;omega
         case rel => exact ⟨(x4_1),(x5_1),(wrap64 (x6_1 + 1)),za,za,za,H',⟨by have:=HK1.out;have:=HJ1.out;omega⟩,⟨zz HB⟩⟩
       ·
        rw [if_neg c6] at H
        exact absurd H (by simp)
      ·
       rw [if_neg c5] at H
       exact absurd H (by simp)
     ·
      replace c4:=Bool.eq_false_iff.mpr c4
      subst c4
      have H1 : (if (a0.size : Int) > 0 then (if 0 < (a0.size : Int) then (spec_ParseInt.j2 kj1 a0 x4_1 x5_1 ((bt a0 0) == 45)) else (none)) else (spec_ParseInt.j2 kj1 a0 x4_1 x5_1 false)) = some (r1,r2):=by rw [if_neg (show ¬ (false = true) by decide)] at H;exact H
      clear H;have H:=H1;clear H1;have HC12:=zA H;clear H
      go_upto_region 9 with (fail)
      go_cut [44] (fun v44 wc => ∃ (kq : Nat) (x44_11 : Bool),v44 = .bool x44_11 ∧ Aside0 (spec_ParseInt.j2 kq a0 x4_1 x5_1 x44_11 = some (r1,r2)) ∧ Aside0 (kq ≤ kj1) ∧ Aside0 (Below w.heap.size w wc))
      case first =>
       have H:=HC12.out;clear HC12
       by_cases c13 : (a0.size : Int) > 0
       ·
        rw [if_pos c13] at H
        have c13b0 : decide (0 < (a0.size : Int)) = true:=decide_eq_true c13
        have c13b1 : decide (0 < a0.size) = true:=decide_eq_true (by omega)
        clear c13
        (first|rw [c13b0]|(simp only [i64_w,i32_w];rw [c13b0])|skip)
        by_cases c14 : 0 < (a0.size : Int)
        ·
         rw [if_pos c14] at H;have c14b0:=decide_eq_true c14
         have c14b1 : decide (0 < a0.size) = true:=decide_eq_true (by omega)
         clear c14
         have H':=zA H
         clear H;have p15 : 0 ≤ (0 : Int):=(by omega);have q15 : 0 < a0.size:=(by have : (0 : Int) < (a0.size : Int):=zXb ze;omega)
         have hx15 : ∀ h : 0 < a0.size,((a0[0]'h).toNat : Int) = bt a0 0:=bt_at a0 0
         clear p15
         have qi15 : (0 < (a0.size : Int)) = True:=eq_true (zXb ze)
         replace q15:=eq_true q15
         go_wp2
         go_meet
         case rel => exact ⟨_,(((bt a0 0) == 45)),za,H',⟨by have:=HK1.out;have:=HJ1.out;first|omega|exact Nat.le_refl _⟩,⟨zz HB⟩⟩
        ·
         rw [if_neg c14] at H
         exact absurd H (by simp)
       ·
        rw [if_neg c13] at H
        have c13b0 : decide (0 < (a0.size : Int)) = false:=decide_eq_false c13
        have c13b1 : decide (0 < a0.size) = false:=decide_eq_false (by omega)
        clear c13
        (first|rw [c13b0]|(simp only [i64_w,i32_w];rw [c13b0])|skip)
        have H':=zA H
        clear H
        go_wp2
        go_meet
        case rel => exact ⟨_,(false),za,H',⟨by have:=HK1.out;have:=HJ1.out;first|omega|exact Nat.le_refl _⟩,⟨zz HB⟩⟩
      case rest =>
       clear HC12;(try clear c1);(try clear p1);(try clear q1);(try clear hx1);(try clear qi1);(try clear p2);(try clear c3);(try clear c3b0);(try clear c4);(try clear c5);(try clear c5b0);(try clear c6);(try clear c6b0);(try clear p6);(try clear p7);(try clear q7);(try clear hx7);(try clear c8);(try clear c8b0);(try clear p9);(try clear q9);(try clear hx9);(try clear c10);(try clear c10b0);(try clear p11);(try clear q11);(try clear hx11);(try clear c13);(try clear c13b0);(try clear c13b1);(try clear c14);(try clear c14b0);(try clear c14b1);(try clear p15);(try clear q15);(try clear hx15);(try clear qi15);(try clear p11);(try clear p15);(try clear p2);(try clear p7);(try clear p9);(try clear q11);(try clear q15);(try clear q7);(try clear q9);obtain ⟨kq,x44_11,rfl,HA,HJ11,HB⟩:=hcut
       cases kq with
       | zero => exact absurd HA.out (by simp [spec_ParseInt.j2])
       | succ kj11 =>
        have H:=HA.out;clear HA;simp only [spec_ParseInt.j2] at H
        by_cases c16 : x44_11 = true
        ·
         subst c16
         rw [if_pos rfl] at H
         by_cases c17 : x5_1 > 9
         ·
          rw [if_pos c17] at H
          have c17b0 : decide (9 < x5_1) = true:=decide_eq_true c17
          clear c17;simp only [Option.some.injEq,Prod.mk.injEq] at H;obtain ⟨rfl,rfl⟩:=H
          go_wp2
          go_ret2
          exact ⟨by first|rfl|(simp [errW_none,errW_some] <;> rfl)|(simp [*,errW_none,errW_some] <;> rfl),zz HB⟩
         ·
          rw [if_neg c17] at H
          have c17b0 : decide (9 < x5_1) = false:=decide_eq_false c17
          clear c17
          by_cases c18 : (a0.size : Int) > 10
          ·
           rw [if_pos c18] at H
           have c18b0 : decide (10 < (a0.size : Int)) = true:=decide_eq_true c18
           have c18b1 : decide (10 < a0.size) = true:=decide_eq_true (by omega)
           clear c18;simp only [Option.some.injEq,Prod.mk.injEq] at H;obtain ⟨rfl,rfl⟩:=H
           go_wp2
           go_ret2
           exact ⟨by first|rfl|(simp [errW_none,errW_some] <;> rfl)|(simp [*,errW_none,errW_some] <;> rfl),zz HB⟩
          ·
           rw [if_neg c18] at H
           have c18b0 : decide (10 < (a0.size : Int)) = false:=decide_eq_false c18
           have c18b1 : decide (10 < a0.size) = false:=decide_eq_false (by omega)
           clear c18;replace H:=Option.bind_eq_some_iff.mp H;obtain ⟨t207,A190,H⟩:=H;(try dsimp only at H);have A19:=zA A190;clear A190
           by_cases c20 : t207.toList = a0.toList
           ·
            rw [if_pos c20] at H;have c20b0:=beq_iff_eq.mpr c20;have c20b1:=bne_eq_false_iff_eq.mpr c20;clear c20;simp only [Option.some.injEq,Prod.mk.injEq] at H;obtain ⟨rfl,rfl⟩:=H
            go_wp2_with (first|(go_at_call 86;(with_reducible refine (spec_FormatInt.calls kj11 (wrap64 (-x4_1)) t207 _ A19.out).mono ?_);rintro e w21 ⟨rfl,hb⟩;replace HB:=zA (zJb (zz HB) hb);(try clear hb);(try clear hb2);(try clear hk);(try clear hi)))
            go_ret2
            exact ⟨by first|rfl|(simp [errW_none,errW_some] <;> rfl)|(simp [*,errW_none,errW_some] <;> rfl),zz HB⟩
           ·
            rw [if_neg c20] at H;have c20b0:=beq_eq_false_iff_ne.mpr c20;have c20b1:=bne_iff_ne.mpr c20;simp only [Option.some.injEq,Prod.mk.injEq] at H;obtain ⟨rfl,rfl⟩:=H
            go_wp2_with (first|(go_at_call 86;(with_reducible refine (spec_FormatInt.calls kj11 (wrap64 (-x4_1)) t207 _ A19.out).mono ?_);rintro e w22 ⟨rfl,hb⟩;replace HB:=zA (zJb (zz HB) hb);(try clear hb);(try clear hb2);(try clear hk);(try clear hi)))
            go_ret2
            exact ⟨by first|rfl|(simp [errW_none,errW_some] <;> rfl)|(simp [*,errW_none,errW_some] <;> rfl),zz HB⟩
        ·
         replace c16:=Bool.eq_false_iff.mpr c16
         subst c16
         have H1 : (if x5_1 > 9 then (some (0,false)) else (if (a0.size : Int) > 10 then (some (0,false)) else ((spec_FormatInt.f kj11 x4_1).bind fun t208 => (if t208.toList = a0.toList then (some (x4_1,true)) else (some (0,false)))))) = some (r1,r2):=by rw [if_neg (show ¬ (false = true) by decide)] at H;exact H
         clear H;have H:=H1;clear H1
         by_cases c23 : x5_1 > 9
         ·
          rw [if_pos c23] at H
          have c23b0 : decide (9 < x5_1) = true:=decide_eq_true c23
          clear c23;simp only [Option.some.injEq,Prod.mk.injEq] at H;obtain ⟨rfl,rfl⟩:=H
          go_wp2
          go_ret2
          exact ⟨by first|rfl|(simp [errW_none,errW_some] <;> rfl)|(simp [*,errW_none,errW_some] <;> rfl),zz HB⟩
         ·
          rw [if_neg c23] at H
          have c23b0 : decide (9 < x5_1) = false:=decide_eq_false c23
          clear c23
          by_cases c24 : (a0.size : Int) > 10
          ·
           rw [if_pos c24] at H
           have c24b0 : decide (10 < (a0.size : Int)) = true:=decide_eq_true c24
           have c24b1 : decide (10 < a0.size) = true:=decide_eq_true (by omega)
           clear c24;simp only [Option.some.injEq,Prod.mk.injEq] at H;obtain ⟨rfl,rfl⟩:=H
           go_wp2
           go_ret2
           exact ⟨by first|rfl|(simp [errW_none,errW_some] <;> rfl)|(simp [*,errW_none,errW_some] <;> rfl),zz HB⟩
          ·
           rw [if_neg c24] at H
           have c24b0 : decide (10 < (a0.size : Int)) = false:=decide_eq_false c24
           have c24b1 : decide (10 < a0.size) = false:=decide_eq_false (by omega)
           clear c24;replace H:=Option.bind_eq_some_iff.mp H;obtain ⟨t208,A250,H⟩:=H;(try dsimp only at H);have A25:=zA A250;clear A250
           by_cases c26 : t208.toList = a0.toList
           ·
            rw [if_pos c26] at H;have c26b0:=beq_iff_eq.mpr c26;have c26b1:=bne_eq_false_iff_eq.mpr c26;clear c26;simp only [Option.some.injEq,Prod.mk.injEq] at H;obtain ⟨rfl,rfl⟩:=H
            go_wp2_with (first|(go_at_call 86;(with_reducible refine (spec_FormatInt.calls kj11 x4_1 t208 _ A25.out).mono ?_);rintro e w27 ⟨rfl,hb⟩;replace HB:=zA (zJb (zz HB) hb);(try clear hb);(try clear hb2);(try clear hk);(try clear hi)))
            go_ret2
            exact ⟨by first|rfl|(simp [errW_none,errW_some] <;> rfl)|(simp [*,errW_none,errW_some] <;> rfl),zz HB⟩
           ·
            rw [if_neg c26] at H;have c26b0:=beq_eq_false_iff_ne.mpr c26;have c26b1:=bne_iff_ne.mpr c26;simp only [Option.some.injEq,Prod.mk.injEq] at H;obtain ⟨rfl,rfl⟩:=H
            go_wp2_with (first|(go_at_call 86;(with_reducible refine (spec_FormatInt.calls kj11 x4_1 t208 _ A25.out).mono ?_);rintro e w28 ⟨rfl,hb⟩;replace HB:=zA (zJb (zz HB) hb);(try clear hb);(try clear hb2);(try clear hk);(try clear hi)))
            go_ret2
            exact ⟨by first|rfl|(simp [errW_none,errW_some] <;> rfl)|(simp [*,errW_none,errW_some] <;> rfl),zz HB⟩

end Go.Proofs.Ytpfpappamlgnoaa.QFnExactParseQuery
