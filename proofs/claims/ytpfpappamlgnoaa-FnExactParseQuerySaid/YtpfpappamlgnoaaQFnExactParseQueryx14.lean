/- Walks through the Go functions that FnExactParseQuery reaches: each call returns what the Lean function beside it says, within the bounds that the theorem names. -/
import Derived.Test.YtpfpappamlgnoaaQFnExactParseQueryx0
import Derived.Test.YtpfpappamlgnoaaQFnExactParseQueryx9
import Derived.Test.YtpfpappamlgnoaaQFnExactParseQueryx10
import Derived.Test.YtpfpappamlgnoaaQFnExactParseQueryx11
import Derived.Test.YtpfpappamlgnoaaQFnExactParseQueryx13
namespace Go.Proofs.Ytpfpappamlgnoaa.QFnExactParseQuery
open Go.RowKit Go.Proofs.YtpfpappamlgnoaaW.PrintWords Go.Proofs.YtpfpappamlgnoaaW.PrintLast Go.Proofs.YtpfpappamlgnoaaW.PrintMore
attribute [local go_sem] max2_int min2_int max_two min_two max_three min_three max_four min_four   -- for this text's walks alone
set_option linter.unusedVariables false
set_option linter.unusedSimpArgs false


/-! ### impl_FormatQuery: function 50 -/
mutual
def impl_FormatQuery.j0 : Nat → Bool → List Int → List (S38) → Option (ByteArray)
 | 0, _, _, _ => none
 | k + 1, x27, x372000, x372001 => if x27 = true then (some (⟨#[]⟩ : ByteArray)) else (impl_FormatQuery.l0 k (([] : List ByteArray)) (([] : List ByteArray)) x372000 (x372000.length : Int) 0 x372000 x372001)
def impl_FormatQuery.l0 : Nat → List ByteArray → List ByteArray → List Int → Int → Int → List Int → List (S38) → Option (ByteArray)
 | 0, _, _, _, _, _, _, _ => none
 | k + 1, x3, x4, x31, x32, x33, x372000, x372001 => if x33 < x32 then (if 0 ≤ x33 then (if x33 < (x31.length : Int) then ((impl_FormatTerm.f k (rd x31 x33)).bind fun t381 => (if x3.length < 8796093022208 then (impl_FormatQuery.l0 k (x3 ++ [t381]) x4 x31 x32 (wrap64 (x33 + 1)) x372000 x372001) else (none))) else (none)) else (none)) else (impl_FormatQuery.l1 k x3 x4 x372001 (x372001.length : Int) 0)
def impl_FormatQuery.l1 : Nat → List ByteArray → List ByteArray → List (S38) → Int → Int → Option (ByteArray)
 | 0, _, _, _, _, _ => none
 | k + 1, x3, x4, x44, x45, x46 => if x46 < x45 then (if 0 ≤ x46 then (if x46 < (x44.length : Int) then ((impl_FormatAtom.f k ((rd_T38 x44 x46).f0) ((rd_T38 x44 x46).f1)).bind fun t387 => (if t387.toList = ([] : List UInt8) then (some (⟨#[]⟩ : ByteArray)) else (if x4.length < 8796093022208 then (impl_FormatQuery.l1 k x3 (x4 ++ [t387]) x44 x45 (wrap64 (x46 + 1))) else (none)))) else (none)) else (none)) else ((impl_glued.f k x3 (⟨#[44]⟩ : ByteArray)).bind fun t391 => (if (x3.length : Int) = 0 then (if 3 + 4 ≤ 9223372036854775807 then ((impl_glued.f k x4 (⟨#[59, 32]⟩ : ByteArray)).bind fun t392 => (if ((⟨#[121, 101, 115]⟩ : ByteArray) ++ (⟨#[32, 58, 45, 32]⟩ : ByteArray)).size + t392.size ≤ 9223372036854775807 then (some (((⟨#[121, 101, 115]⟩ : ByteArray) ++ (⟨#[32, 58, 45, 32]⟩ : ByteArray)) ++ t392)) else (none))) else (none)) else (if t391.size + 4 ≤ 9223372036854775807 then ((impl_glued.f k x4 (⟨#[59, 32]⟩ : ByteArray)).bind fun t393 => (if (t391 ++ (⟨#[32, 58, 45, 32]⟩ : ByteArray)).size + t393.size ≤ 9223372036854775807 then (some ((t391 ++ (⟨#[32, 58, 45, 32]⟩ : ByteArray)) ++ t393)) else (none))) else (none))))
end
def impl_FormatQuery.f (k : Nat) (l0_0 : List Int) (l0_1 : List (S38)) : Option (ByteArray) := if (l0_0.length : Int) > 3 then (impl_FormatQuery.j0 k true l0_0 l0_1) else ((impl_areTerms.f k l0_0).bind fun t372 => (if t372 = true then ((impl_within.f (l0_1.length : Int) 1 8).bind fun t373 => (impl_FormatQuery.j0 k (!t373) l0_0 l0_1)) else (impl_FormatQuery.j0 k true l0_0 l0_1)))
theorem impl_FormatQuery.mono_l : ∀ k, (∀ y0 y1 y2, LeO (impl_FormatQuery.j0 k y0 y1 y2) (impl_FormatQuery.j0 (k + 1) y0 y1 y2)) ∧ (∀ y0 y1 y2 y3 y4 y5 y6, LeO (impl_FormatQuery.l0 k y0 y1 y2 y3 y4 y5 y6) (impl_FormatQuery.l0 (k + 1) y0 y1 y2 y3 y4 y5 y6)) ∧ (∀ y0 y1 y2 y3 y4, LeO (impl_FormatQuery.l1 k y0 y1 y2 y3 y4) (impl_FormatQuery.l1 (k + 1) y0 y1 y2 y3 y4))
 | 0 => ⟨fun _ _ _ r h => by simp [impl_FormatQuery.j0] at h, fun _ _ _ _ _ _ _ r h => by simp [impl_FormatQuery.l0] at h, fun _ _ _ _ _ r h => by simp [impl_FormatQuery.l1] at h⟩
 | k + 1 => by
  obtain ⟨ih0,ih1,ih2⟩:=impl_FormatQuery.mono_l k
  refine ⟨?_,?_,?_⟩
  (intros;unfold impl_FormatQuery.j0;rotate_left)
  (intros;unfold impl_FormatQuery.l0;rotate_left)
  (intros;unfold impl_FormatQuery.l1;rotate_left)
  all_goals repeat' first
  | (with_reducible exact ih0 _ _ _)
  | (with_reducible exact ih1 _ _ _ _ _ _ _)
  | (with_reducible exact ih2 _ _ _ _ _)
  | (with_reducible exact impl_FormatAtom.mono _ _ _)
  | (with_reducible exact impl_FormatTerm.mono _ _)
  | (with_reducible exact impl_areTerms.mono _ _)
  | (with_reducible exact impl_glued.mono _ _ _)
  | (with_reducible exact LeO.refl _)
  | (with_reducible exact LeO.none _)
  | (with_reducible refine LeO.ite ?_ ?_)
  | (with_reducible refine LeO.bind ?_ (fun _ => ?_))
  | exact ih0 _ _ _
  | exact ih1 _ _ _ _ _ _ _
  | exact ih2 _ _ _ _ _
  | exact LeO.none _
  | refine LeO.ite ?_ ?_
  | refine LeO.bind ?_ (fun _ => ?_)
theorem impl_FormatQuery.mono : ∀ a0 a1 k, LeO (impl_FormatQuery.f k a0 a1) (impl_FormatQuery.f (k + 1) a0 a1) := by
 intro a0 a1 k
 obtain ⟨ih0,ih1,ih2⟩:=impl_FormatQuery.mono_l k
 unfold impl_FormatQuery.f
 repeat' first
   | (with_reducible exact ih0 _ _ _)
   | (with_reducible exact ih1 _ _ _ _ _ _ _)
   | (with_reducible exact ih2 _ _ _ _ _)
   | (with_reducible exact impl_FormatAtom.mono _ _ _)
   | (with_reducible exact impl_FormatTerm.mono _ _)
   | (with_reducible exact impl_areTerms.mono _ _)
   | (with_reducible exact impl_glued.mono _ _ _)
   | (with_reducible exact LeO.refl _)
   | (with_reducible exact LeO.none _)
   | (with_reducible refine LeO.ite ?_ ?_)
   | (with_reducible refine LeO.bind ?_ (fun _ => ?_))
   | exact ih0 _ _ _
   | exact ih1 _ _ _ _ _ _ _
   | exact ih2 _ _ _ _ _
   | exact LeO.none _
   | refine LeO.ite ?_ ?_
   | refine LeO.bind ?_ (fun _ => ?_)
set_option maxHeartbeats 8000000 in
set_option maxRecDepth 100000 in
theorem impl_FormatQuery.calls (k : Nat) (A0_0 : Option Addr) (c0_0 : Nat) (l0_0 : List Int) (A0_1 : Option Addr) (c0_1 : Nat) (l0_1 : List (S38)) (r : ByteArray) (w : World) (hr0_0 : Kd.C (Kd.int .i64) w A0_0 l0_0.length l0_0) (hc0_0 : l0_0.length ≤ c0_0) (hr0_1 : Kd.C k38 w A0_1 l0_1.length l0_1) (hc0_1 : l0_1.length ≤ c0_1) (h : impl_FormatQuery.f k l0_0 l0_1 = some r) :
  Calls Try.prog 50 #[.agg #[.slice A0_0 l0_0.length c0_0, .slice A0_1 l0_1.length c0_1]] w fun e w' => e = .returned (.string r) ∧ Below w.heap.size w w' := by
 have hu49:=Try.underlying49;have hu38:=Try.underlying38;have HR0_0:=zA hr0_0;have HC0_0:=zA hc0_0;clear hr0_0 hc0_0;have HR0_1:=zA hr0_1;have HC0_1:=zA hc0_1;clear hr0_1 hc0_1;have HB:=zA (Below.refl w.heap.size w)
 have H : (if (l0_0.length : Int) > 3 then (impl_FormatQuery.j0 k true l0_0 l0_1) else ((impl_areTerms.f k l0_0).bind fun t372 => (if t372 = true then ((impl_within.f (l0_1.length : Int) 1 8).bind fun t373 => (impl_FormatQuery.j0 k (!t373) l0_0 l0_1)) else (impl_FormatQuery.j0 k true l0_0 l0_1)))) = some r:=h
 clear h;have HC2:=zA H;clear H
 go_enter Try.func50,Try.ntmps50
 go_upto_region 1 with (first|((with_reducible refine gate_dst (N:=1) rfl ?_);(try (refine gate_guard (by rfl) ?_;dsimp only));refine box_event ?hg (N:=1) ?hd (cs:=#[.slice A0_0 l0_0.length c0_0,.slice A0_1 l0_1.length c0_1]) (t:=49) ?hr ?_;(case hd => rfl);(case hg => rfl);(case hr => first|(go_simp;done)|(go_simp;rfl));intro gb371 hg w3 hbox hb;have BK371:=zA (hbox);have GW371:=zA ((by rw [hg];exact (zT (zz HB)) : w.heap.size ≤ gb371));have GE371:=zA ((by rw [hg];exact (zT (zz HB)) : w.heap.size ≤ gb371));replace HB:=zA (zJb (zz HB) hb);clear hb hbox hg))
 (try simp only [Act.put,zO,zEb,zFb])
 go_cut [27] (fun v27 wc => ∃ (kq : Nat) (x27_1 : Bool),v27 = .bool x27_1 ∧ Aside0 (impl_FormatQuery.j0 kq x27_1 l0_0 l0_1 = some r) ∧ Aside0 (kq ≤ k) ∧ Aside0 (wc.heap[gb371]? = some (.cells #[(.slice A0_0 l0_0.length c0_0),(.slice A0_1 l0_1.length c0_1)] 49 (0,0))) ∧ Aside0 (Below w.heap.size w wc))
 case first =>
  have H:=HC2.out;clear HC2
  by_cases c4 : (l0_0.length : Int) > 3
  ·
   rw [if_pos c4] at H
   have c4b0 : decide (3 < (l0_0.length : Int)) = true:=decide_eq_true c4
   have c4b1 : decide (3 < l0_0.length) = true:=decide_eq_true (by omega)
   clear c4
   (first|rw [c4b0]|(simp only [i64_w,i32_w];rw [c4b0])|skip)
   have H':=zA H
   clear H;have hcz5_0:=zc (.slice A0_0 l0_0.length c0_0) BK371 0 rfl;have hcz5_1:=zc (.slice A0_1 l0_1.length c0_1) BK371 1 rfl;have hfz5_0:=blk_frozen BK371.out 0;have hfz5_1:=blk_frozen BK371.out 1
   go_wp2
   go_meet
   case rel => exact ⟨_,(true),za,H',⟨by first|omega|exact Nat.le_refl _⟩,⟨zx BK371⟩,⟨zz HB⟩⟩
  ·
   rw [if_neg c4] at H
   have c4b0 : decide (3 < (l0_0.length : Int)) = false:=decide_eq_false c4
   have c4b1 : decide (3 < l0_0.length) = false:=decide_eq_false (by omega)
   clear c4
   (first|rw [c4b0]|(simp only [i64_w,i32_w];rw [c4b0])|skip)
   replace H:=Option.bind_eq_some_iff.mp H;obtain ⟨t372,A60,H⟩:=H;(try dsimp only at H);have A6:=zA A60;clear A60
   by_cases c7 : t372 = true
   ·
    subst c7
    rw [if_pos rfl] at H;replace H:=Option.bind_eq_some_iff.mp H;obtain ⟨t373,A80,H⟩:=H;(try dsimp only at H);have A8:=zA A80;clear A80
    have H':=zA H
    clear H;have hcz9_0:=zc (.slice A0_0 l0_0.length c0_0) BK371 0 rfl;have hcz9_1:=zc (.slice A0_1 l0_1.length c0_1) BK371 1 rfl;have hfz9_0:=blk_frozen BK371.out 0;have hfz9_1:=blk_frozen BK371.out 1
    go_wp2_with (first|(go_at_call 89;(with_reducible refine (impl_areTerms.calls k _ _ l0_0 true _ ?side1 ?side2 A6.out).mono ?_);(case side1 => repeat (first|exact (zKb HR0_0.out HB.out)|(with_reducible refine zBb ?_ _)|(with_reducible refine zAb ?_ _)|(with_reducible refine zX ?_)));(case side2 => exact HC0_0.out);rintro e w' ⟨rfl,⟨nd,rfl⟩⟩)|(go_at_call 88;(with_reducible refine (impl_within.calls (l0_1.length : Int) 1 8 t373 _ A8.out).mono ?_);rintro e w' ⟨rfl,⟨nd,rfl⟩⟩))
    go_meet
    case rel => exact ⟨_,(!t373),za,H',⟨by first|omega|exact Nat.le_refl _⟩,⟨zx BK371⟩,⟨zz HB⟩⟩
   ·
    replace c7:=Bool.eq_false_iff.mpr c7
    subst c7
    have H1 : (impl_FormatQuery.j0 k true l0_0 l0_1) = some r:=by rw [if_neg (show ¬ (false = true) by decide)] at H;exact H
    clear H;have H:=H1;clear H1
    have H':=zA H
    clear H;have hcz10_0:=zc (.slice A0_0 l0_0.length c0_0) BK371 0 rfl;have hcz10_1:=zc (.slice A0_1 l0_1.length c0_1) BK371 1 rfl;have hfz10_0:=blk_frozen BK371.out 0;have hfz10_1:=blk_frozen BK371.out 1
    go_wp2_with (first|(go_at_call 89;(with_reducible refine (impl_areTerms.calls k _ _ l0_0 false _ ?side1 ?side2 A6.out).mono ?_);(case side1 => repeat (first|exact (zKb HR0_0.out HB.out)|(with_reducible refine zBb ?_ _)|(with_reducible refine zAb ?_ _)|(with_reducible refine zX ?_)));(case side2 => exact HC0_0.out);rintro e w' ⟨rfl,⟨nd,rfl⟩⟩))
    go_meet
    case rel => exact ⟨_,(true),za,H',⟨by first|omega|exact Nat.le_refl _⟩,⟨zx BK371⟩,⟨zz HB⟩⟩
 case rest =>
  clear HC2;(try clear p2);(try clear c4);(try clear c4b0);(try clear c4b1);(try clear c5);(try clear c7);(try clear hcz10_0);(try clear hcz10_1);(try clear hcz5_0);(try clear hcz5_1);(try clear hcz9_0);(try clear hcz9_1);(try clear hfz10_0);(try clear hfz10_1);(try clear hfz5_0);(try clear hfz5_1);(try clear hfz9_0);(try clear hfz9_1);obtain ⟨kq,x27_1,rfl,HA,HJ1,BK371,HB⟩:=hcut
  cases kq with
  | zero => exact absurd HA.out (by simp [impl_FormatQuery.j0])
  | succ kj1 =>
   have H:=HA.out;clear HA;simp only [impl_FormatQuery.j0] at H
   by_cases c11 : x27_1 = true
   ·
    subst c11
    rw [if_pos rfl] at H
    obtain rfl:=Option.some.inj H
    go_wp2
    go_ret
    exact ⟨by first|rfl|(simp [errW_none,errW_some] <;> rfl)|(simp [*,errW_none,errW_some] <;> rfl),zz HB⟩
   ·
    replace c11:=Bool.eq_false_iff.mpr c11
    subst c11
    have H1 : (impl_FormatQuery.l0 kj1 (([] : List ByteArray)) (([] : List ByteArray)) l0_0 (l0_0.length : Int) 0 l0_0 l0_1) = some r:=by rw [if_neg (show ¬ (false = true) by decide)] at H;exact H
    clear H;have H:=H1;clear H1;obtain ⟨y374,hy374⟩ : ∃ y_ : List ByteArray,y_ = (([] : List ByteArray)):=⟨_,rfl⟩
    replace H : (impl_FormatQuery.l0 kj1 y374 (([] : List ByteArray)) l0_0 (l0_0.length : Int) 0 l0_0 l0_1) = some r:=by first|(rw [hy374];with_reducible exact H)|(have H2_:=(Option.bind_some _ _).symm.trans H;rw [hy374];with_reducible exact H2_)|(have H2_:=(Option.bind_some _ _).symm.trans H;with_reducible exact H2_)|with_reducible exact H|(rw [hy374];exact H)|exact H
    have Ny374:=zA hy374;clear hy374;obtain ⟨y377,hy377⟩ : ∃ y_ : List ByteArray,y_ = (([] : List ByteArray)):=⟨_,rfl⟩
    replace H : (impl_FormatQuery.l0 kj1 y374 y377 l0_0 (l0_0.length : Int) 0 l0_0 l0_1) = some r:=by first|(rw [hy377];with_reducible exact H)|(have H2_:=(Option.bind_some _ _).symm.trans H;rw [hy377];with_reducible exact H2_)|(have H2_:=(Option.bind_some _ _).symm.trans H;with_reducible exact H2_)|with_reducible exact H|(rw [hy377];exact H)|exact H
    have Ny377:=zA hy377;clear hy377
    have H':=zA H
    clear H
    go_wp2_with (first|((with_reducible refine gate_dst (N:=28) rfl ?_);(try (refine gate_guard (by rfl) ?_;dsimp only));refine Kd.R_lit Kd.string _ 9 ?hg (N:=28) ?hd (xs:=([] : List ByteArray)) (inner:=[]) (ok:=fun _ => True) (okp:=fun _ => True) ?hr ?hp (fun _ hk => hk) trivial (Below.refl _ _) (Nat.le_refl _) (by simp) ?_;(case hd => rfl);(case hg => rfl);(case hr => first|(go_simp;done)|(go_simp;rfl));(case hp => exact (Reps.none _ _));intro v375 w12 ho13 hb hg_ hnew_;clear hg_ hnew_;(first|rw [← Ny374.out] at ho13|(simp only [Int.reduceToNat] at ho13;rw [← Ny374.out] at ho13));have HO376:=zA (zHb ho13 (zT (zz HB)));replace BK371:=zA (zQ (g:=gb371) (o:=.cells #[.slice A0_0 l0_0.length c0_0,.slice A0_1 l0_1.length c0_1] 49 (0,0)) (zx BK371) hb);replace HB:=zA (zJb (zz HB) hb);clear hb ho13)|((with_reducible refine gate_dst (N:=29) rfl ?_);(try (refine gate_guard (by rfl) ?_;dsimp only));refine Kd.R_lit Kd.string _ 9 ?hg (N:=29) ?hd (xs:=([] : List ByteArray)) (inner:=[]) (ok:=fun _ => True) (okp:=fun _ => True) ?hr ?hp (fun _ hk => hk) trivial (Below.refl _ _) (Nat.le_refl _) (by simp) ?_;(case hd => rfl);(case hg => rfl);(case hr => first|(go_simp;done)|(go_simp;rfl));(case hp => exact (Reps.none _ _));intro v378 w14 ho15 hb hg_ hnew_;clear hg_ hnew_;(first|rw [← Ny377.out] at ho15|(simp only [Int.reduceToNat] at ho15;rw [← Ny377.out] at ho15));have HO379:=zA (zHb (zQb ho15 (zOb (zq HO376))) (zT (zz HB)));replace HO376:=zA (zTb (zq HO376) (zW ho15) hb);replace BK371:=zA (zQ (g:=gb371) (o:=.cells #[.slice A0_0 l0_0.length c0_0,.slice A0_1 l0_1.length c0_1] 49 (0,0)) (zx BK371) hb);replace HB:=zA (zJb (zz HB) hb);clear hb ho15;have hcz16_0:=zc (.slice A0_0 l0_0.length c0_0) BK371 0 rfl;have hcz16_1:=zc (.slice A0_1 l0_1.length c0_1) BK371 1 rfl;have hfz16_0:=blk_frozen BK371.out 0;have hfz16_1:=blk_frozen BK371.out 1))
    go_loopg [3,33] kj1 (fun kq v3 v33 w' => ∃ (x3_2 : List ByteArray) (x33_2 : Int),v33 = .int .i64 x33_2 ∧ Aside0 (impl_FormatQuery.l0 kq x3_2 y377 l0_0 (l0_0.length : Int) x33_2 l0_0 l0_1 = some r) ∧ Aside0 (kq ≤ kj1) ∧ Aside0 (Kd.R Kd.string 9 w' w.heap.size (fun k_ => some k_ ≠ (v378 : Value).ownBlock) v3 x3_2) ∧ Aside0 (Kd.R Kd.string 9 w' w.heap.size (fun k_ => some k_ ≠ (v3 : Value).ownBlock) v378 y377) ∧ Aside0 (w'.heap[gb371]? = some (.cells #[(.slice A0_0 l0_0.length c0_0),(.slice A0_1 l0_1.length c0_1)] 49 (0,0))) ∧ Aside0 (Below w.heap.size w w'))
    case atStart => exact ⟨(y374),(0),za,H',⟨Nat.le_refl _⟩,⟨by (with_reducible repeat (first|apply zE|apply zD|apply zH));exact zGb HO376.out (fun _ hk => hk.2)⟩,⟨by (with_reducible repeat (first|apply zE|apply zD|apply zH));exact zGb HO379.out (fun _ hk => hk.2)⟩,⟨zx BK371⟩,⟨zz HB⟩⟩
    case round =>
     clear H';(try clear c1);(try clear p2);(try clear c4);(try clear c4b0);(try clear c4b1);(try clear c5);(try clear c7);(try clear c11);(try clear hcz10_0);(try clear hcz10_1);(try clear hcz16_0);(try clear hcz16_1);(try clear hcz5_0);(try clear hcz5_1);(try clear hcz9_0);(try clear hcz9_1);(try clear hfz10_0);(try clear hfz10_1);(try clear hfz16_0);(try clear hfz16_1);(try clear hfz5_0);(try clear hfz5_1);(try clear hfz9_0);(try clear hfz9_1);(try clear p2);obtain ⟨x3_2,x33_2,rfl,HA,HK2,HO_3,HO_4,BK371,HB⟩:=hrel
     cases gk with
     | zero => exact absurd HA.out (by simp [impl_FormatQuery.l0])
     | succ k2 =>
      have H:=HA.out;clear HA;simp only [impl_FormatQuery.l0] at H
      by_cases c17 : x33_2 < (l0_0.length : Int)
      ·
       rw [if_pos c17] at H;have c17b0:=decide_eq_true c17;clear c17
       by_cases c18 : 0 ≤ x33_2
       ·
        rw [if_pos c18] at H;have c18b0:=decide_eq_true c18;clear c18
        by_cases c19 : x33_2 < (l0_0.length : Int)
        ·
         rw [if_pos c19] at H;have c19b0:=decide_eq_true c19;clear c19;replace H:=Option.bind_eq_some_iff.mp H;obtain ⟨t381,A200,H⟩:=H;(try dsimp only at H);have A20:=zA A200;clear A200
         by_cases c21 : x3_2.length < 8796093022208
         ·
          rw [if_pos c21] at H;have LMc21:=zA c21;clear c21;obtain ⟨y382,hy382⟩ : ∃ y_ : List ByteArray,y_ = (x3_2 ++ [t381]):=⟨_,rfl⟩
          replace H : (impl_FormatQuery.l0 k2 y382 y377 l0_0 (l0_0.length : Int) (wrap64 (x33_2 + 1)) l0_0 l0_1) = some r:=by first|(rw [hy382];with_reducible exact H)|(have H2_:=(Option.bind_some _ _).symm.trans H;rw [hy382];with_reducible exact H2_)|(have H2_:=(Option.bind_some _ _).symm.trans H;with_reducible exact H2_)|with_reducible exact H|(rw [hy382];exact H)|exact H
          have Ny382:=zA hy382;clear hy382
          have H':=zA H
          clear H;have p380 : 0 ≤ (x33_2 : Int):=zXb ze;have q380 : x33_2 < (l0_0.length : Int):=zXb ze;obtain ⟨ad380,e380,hx380_0⟩:=Kd.at_int HR0_0.out x33_2 p380 q380
          cases e380
          replace hx380_0:=(HB.out.cell (World.block_lt_of_cell? w _ hx380_0)).trans hx380_0;replace p380:=eq_true p380;replace q380:=eq_true q380
          go_wp2_with (first|((with_reducible refine gate_callee (f:=75) rfl ?_);refine goesL_ (some 39) rfl rfl Try.func75 (by kernel_rfl) rfl #[.int .i64 (rd l0_0 x33_2)] rfl (by (try simp only [zCb,zMb,zNb]);first|done|rfl|(simp only [zLb,zDb];rfl)) ?_;(with_reducible refine (impl_FormatTerm.calls k2 (rd l0_0 x33_2) t381 _ A20.out).mono ?_);rintro e w22 ⟨rfl,hb⟩;refine ⟨_,rfl,?_⟩;replace HO_3:=zA (zZ (zq HO_3) hb);replace HO_4:=zA (zZ (zq HO_4) hb);replace BK371:=zA (zQ (g:=gb371) (o:=.cells #[.slice (some ad380) l0_0.length c0_0,.slice A0_1 l0_1.length c0_1] 49 (0,0)) (zx BK371) hb);replace HB:=zA (zJb (zz HB) hb);(try clear hb);(try clear hb2);(try clear hk);(try clear hi))|((with_reducible refine gate_builtin (b:=.append) (xs:=#[.tmp 37,.tmp 40]) rfl ?_);(try (refine gate_guard (by rfl) ?_;dsimp only));at_builtin;refine Kd.R_append Kd.string (w0:=w) w.heap.size rfl (.tmp 37) (.tmp 40) 92 9 (.string ⟨#[]⟩) 16 rfl Try.underlying92 info9 rfl (by decide) (by omega) u3 x3_2 t381 [.string t381] (fun k_ => some k_ ≠ (v378 : Value).ownBlock) (fun _ => False) rfl rfl ?aP (fun _ hk => hk.elim) ?aF ?aO ?aB ?aS ?aL ?_;(case aP => exact rfl);(case aB => exact (zz HB));(case aF => exact (fun k_ hk => Kd.fresh' (zOb (zq HO_4)) k_ hk));(case aO => exact (zq HO_3));(case aS => exact (zT (zz HB)));(case aL => have:=LMc21.out;omega);intro v383 w23 ho hb hg hat;rw [← Ny382.out] at ho;replace HO_4:=zA (Kd.R_after (ok:=(fun _ => True)) (by (with_reducible repeat (first|apply zE|apply zD|apply zH));exact zGb HO_4.out (fun _ hk => ⟨trivial,hk⟩)) hg hat);replace BK371:=zA (blk_grown (g:=gb371) (o:=.cells #[.slice (some ad380) l0_0.length c0_0,.slice A0_1 l0_1.length c0_1] 49 (0,0)) (zx BK371) hg (Kd.R_ne HO_3.out BK371.out (by decide)));replace HB:=zA (hb);have HO384:=zA (ho);clear HO_3;clear ho hb hg hat))
          go_roundg k2
          case measure => have:=HJ1.out;have:=HK2.out;omega
          case rel => exact ⟨(y382),(wrap64 (x33_2 + 1)),za,H',⟨by have:=HJ1.out;have:=HK2.out;omega⟩,⟨zq HO384⟩,⟨by (with_reducible repeat (first|apply zE|apply zD|apply zH));exact zGb HO_4.out (fun _ hk => hk.2)⟩,⟨zx BK371⟩,⟨zz HB⟩⟩
         ·
          rw [if_neg c21] at H
          exact absurd H (by simp)
        ·
         rw [if_neg c19] at H
         exact absurd H (by simp)
       ·
        rw [if_neg c18] at H
        exact absurd H (by simp)
      ·
       rw [if_neg c17] at H;have c17b0:=decide_eq_false c17;clear c17
       have H':=zA H
       clear H;have hcz24_0:=zc (.slice A0_0 l0_0.length c0_0) BK371 0 rfl;have hcz24_1:=zc (.slice A0_1 l0_1.length c0_1) BK371 1 rfl;have hfz24_0:=blk_frozen BK371.out 0;have hfz24_1:=blk_frozen BK371.out 1
       go_wp2
       go_loopg [4,46] k2 (fun kq v4 v46 w' => ∃ (x4_3 : List ByteArray) (x46_3 : Int),v46 = .int .i64 x46_3 ∧ Aside0 (impl_FormatQuery.l1 kq x3_2 x4_3 l0_1 (l0_1.length : Int) x46_3 = some r) ∧ Aside0 (kq ≤ k2) ∧ Aside0 (Kd.R Kd.string 9 w' w.heap.size (fun k_ => some k_ ≠ (v4 : Value).ownBlock) u3 x3_2) ∧ Aside0 (Kd.R Kd.string 9 w' w.heap.size (fun k_ => some k_ ≠ (u3 : Value).ownBlock) v4 x4_3) ∧ Aside0 (w'.heap[gb371]? = some (.cells #[(.slice A0_0 l0_0.length c0_0),(.slice A0_1 l0_1.length c0_1)] 49 (0,0))) ∧ Aside0 (Below w.heap.size w w'))
       case atStart => exact ⟨(y377),(0),za,H',⟨Nat.le_refl _⟩,⟨zq HO_3⟩,⟨zq HO_4⟩,⟨zx BK371⟩,⟨zz HB⟩⟩
       case round =>
        clear H';(try clear c1);(try clear c2);(try clear p2);(try clear p3);(try clear q3);(try clear hx3);(try clear c4);(try clear c4b0);(try clear c4b1);(try clear c5);(try clear p6);(try clear c7);(try clear c11);(try clear c17);(try clear c17b0);(try clear c18);(try clear c18b0);(try clear c19);(try clear c19b0);(try clear c21);(try clear hcz10_0);(try clear hcz10_1);(try clear hcz16_0);(try clear hcz16_1);(try clear hcz24_0);(try clear hcz24_1);(try clear hcz5_0);(try clear hcz5_1);(try clear hcz9_0);(try clear hcz9_1);(try clear hfz10_0);(try clear hfz10_1);(try clear hfz16_0);(try clear hfz16_1);(try clear hfz24_0);(try clear hfz24_1);(try clear hfz5_0);(try clear hfz5_1);(try clear hfz9_0);(try clear hfz9_1);(try clear hx380_0);(try clear p2);(try clear p380);(try clear q380);obtain ⟨x4_3,x46_3,rfl,HA,HK3,HO_3,HO_4,BK371,HB⟩:=hrel
        cases gk with
        | zero => exact absurd HA.out (by simp [impl_FormatQuery.l1])
        | succ k3 =>
         have H:=HA.out;clear HA;simp only [impl_FormatQuery.l1] at H
         by_cases c25 : x46_3 < (l0_1.length : Int)
         ·
          rw [if_pos c25] at H;have c25b0:=decide_eq_true c25;clear c25
          by_cases c26 : 0 ≤ x46_3
          ·
           rw [if_pos c26] at H;have c26b0:=decide_eq_true c26;clear c26
           by_cases c27 : x46_3 < (l0_1.length : Int)
           ·
            rw [if_pos c27] at H;have c27b0:=decide_eq_true c27;clear c27;replace H:=Option.bind_eq_some_iff.mp H;obtain ⟨t387,A280,H⟩:=H;(try dsimp only at H);have A28:=zA A280;clear A280
            by_cases c29 : t387.toList = ([] : List UInt8)
            ·
             rw [if_pos c29] at H;have c29b0:=beq_iff_eq.mpr c29;have c29b1:=bne_eq_false_iff_eq.mpr c29;clear c29
             obtain rfl:=Option.some.inj H
             have p385 : 0 ≤ (x46_3 : Int):=zXb ze;have q385 : x46_3 < (l0_1.length : Int):=zXb ze;obtain ⟨ad385,A385_1,c385_1,e385,hx385_0,hx385_1,hl385_1,hi385_1⟩:=at_T38 HR0_1.out x46_3 p385 q385
             cases e385
             replace hx385_0:=(HB.out.cell (World.block_lt_of_cell? w _ hx385_0)).trans hx385_0;replace hx385_1:=(HB.out.cell (World.block_lt_of_cell? w _ hx385_1)).trans hx385_1;have HR385_1:=zA hi385_1;have HC385_1:=zA hl385_1;clear hi385_1 hl385_1;replace p385:=eq_true p385;replace q385:=eq_true q385
             go_wp2_with (first|((with_reducible refine gate_dst (N:=8) rfl ?_);(try (refine gate_guard (by rfl) ?_;dsimp only));refine box_event ?hg (N:=8) ?hd (cs:=#[.int .i64 0,.slice none 0 0]) (t:=38) ?hr ?_;(case hd => rfl);(case hg => rfl);(case hr => first|(go_simp;done)|(go_simp;rfl));intro gb386 hg w30 hbox hb;replace HO_3:=zA (zZ (zq HO_3) hb);replace HO_4:=zA (zZ (zq HO_4) hb);have BK386:=zA (hbox);have GW386:=zA ((by rw [hg];exact (zT (zz HB)) : w.heap.size ≤ gb386));have GE386:=zA ((by rw [hg];exact (zT (zz HB)) : w.heap.size ≤ gb386));replace HB:=zA (zJb (zz HB) hb);have NB371_386:=zA ((by rw [hg];exact Nat.ne_of_lt (blk_lt (g:=gb371) (o:=.cells #[.slice A0_0 l0_0.length c0_0,.slice (some ad385) l0_1.length c0_1] 49 (0,0)) (zx BK371)) : gb371 ≠ gb386));have NB386_371:=zA ((by rw [hg];exact Nat.ne_of_gt (blk_lt (g:=gb371) (o:=.cells #[.slice A0_0 l0_0.length c0_0,.slice (some ad385) l0_1.length c0_1] 49 (0,0)) (zx BK371)) : gb386 ≠ gb371));replace BK371:=zA (zQ (g:=gb371) (o:=.cells #[.slice A0_0 l0_0.length c0_0,.slice (some ad385) l0_1.length c0_1] 49 (0,0)) (zx BK371) hb);clear hb hbox hg;have hnb31:=NB386_371.out;have hnc31:=NB371_386.out;have hcz32_0:=zc (.int .i64 0) BK386 0 rfl;have hcz32_1:=zc (.slice none 0 0) BK386 1 rfl;have hfz32_0:=blk_frozen BK386.out 0;have hfz32_1:=blk_frozen BK386.out 1)|((with_reducible refine gate_callee (f:=29) rfl ?_);refine goesL_ (some 51) rfl rfl Try.func29 (by kernel_rfl) rfl #[.agg #[.int .i64 ((rd_T38 l0_1 x46_3).f0),.slice A385_1 ((rd_T38 l0_1 x46_3).f1).length c385_1]] rfl (by (try simp only [zCb,zMb,zNb]);first|done|rfl|(simp only [zLb,zDb];rfl)) ?_;(with_reducible refine (impl_FormatAtom.calls k3 ((rd_T38 l0_1 x46_3).f0) _ _ ((rd_T38 l0_1 x46_3).f1) t387 _ ?side1 ?side2 A28.out).mono ?_);(case side1 => exact zKb HR385_1.out (zz HB));(case side2 => exact HC385_1.out);rintro e w33 ⟨rfl,hb⟩;refine ⟨_,rfl,?_⟩;replace HO_3:=zA (zZ (by (with_reducible repeat (first|apply zE|apply zD|apply zH));exact (zGb (zR (p:=⟨gb386,1,none⟩) (zR (p:=⟨gb386,0,none⟩) (Kd.R_types HO_3.out BK386.out (by decide)) (fun _ hk => hk.2) (.int .i64 ((rd_T38 l0_1 x46_3).f0))) (fun _ hk => hk.2) (.slice A385_1 ((rd_T38 l0_1 x46_3).f1).length c385_1)) (fun _ h_ => h_.1))) hb);replace HO_4:=zA (zZ (by (with_reducible repeat (first|apply zE|apply zD|apply zH));exact (zGb (zR (p:=⟨gb386,1,none⟩) (zR (p:=⟨gb386,0,none⟩) (Kd.R_types HO_4.out BK386.out (by decide)) (fun _ hk => hk.2) (.int .i64 ((rd_T38 l0_1 x46_3).f0))) (fun _ hk => hk.2) (.slice A385_1 ((rd_T38 l0_1 x46_3).f1).length c385_1)) (fun _ h_ => h_.1))) hb);replace BK371:=zA (zQ (g:=gb371) (o:=.cells #[.slice A0_0 l0_0.length c0_0,.slice (some ad385) l0_1.length c0_1] 49 (0,0)) (by (with_reducible repeat (first|refine zF ?_ _|refine zI ?_|refine zG ?_ _));refine zUb ?_ NB371_386.out _;(with_reducible repeat (first|refine zF ?_ _|refine zI ?_|refine zG ?_ _));refine zUb ?_ NB371_386.out _;(with_reducible repeat (first|refine zF ?_ _|refine zI ?_|refine zG ?_ _));exact BK371.out) hb);replace BK386:=zA (zQ (g:=gb386) (o:=.cells #[.int .i64 ((rd_T38 l0_1 x46_3).f0),.slice A385_1 ((rd_T38 l0_1 x46_3).f1).length c385_1] 38 (0,0)) (by (with_reducible repeat (first|refine zF ?_ _|refine zI ?_|refine zG ?_ _));refine blk_put (cs:=#[.int .i64 ((rd_T38 l0_1 x46_3).f0),.slice none 0 0]) ?_ 1 _ rfl;(with_reducible repeat (first|refine zF ?_ _|refine zI ?_|refine zG ?_ _));refine blk_put (cs:=#[.int .i64 0,.slice none 0 0]) ?_ 0 _ rfl;(with_reducible repeat (first|refine zF ?_ _|refine zI ?_|refine zG ?_ _));exact BK386.out) hb);replace HB:=zA (zJb (zz HB) hb);(try clear hb);(try clear hb2);(try clear hk);(try clear hi)))
             go_ret
             exact ⟨by first|rfl|(simp [errW_none,errW_some] <;> rfl)|(simp [*,errW_none,errW_some] <;> rfl),zz HB⟩
            ·
             rw [if_neg c29] at H;have c29b0:=beq_eq_false_iff_ne.mpr c29;have c29b1:=bne_iff_ne.mpr c29
             by_cases c34 : x4_3.length < 8796093022208
             ·
              rw [if_pos c34] at H;have LMc34:=zA c34;clear c34;obtain ⟨y388,hy388⟩ : ∃ y_ : List ByteArray,y_ = (x4_3 ++ [t387]):=⟨_,rfl⟩
              replace H : (impl_FormatQuery.l1 k3 x3_2 y388 l0_1 (l0_1.length : Int) (wrap64 (x46_3 + 1))) = some r:=by first|(rw [hy388];with_reducible exact H)|(have H2_:=(Option.bind_some _ _).symm.trans H;rw [hy388];with_reducible exact H2_)|(have H2_:=(Option.bind_some _ _).symm.trans H;with_reducible exact H2_)|with_reducible exact H|(rw [hy388];exact H)|exact H
              have Ny388:=zA hy388;clear hy388
              have H':=zA H
              clear H;have p385 : 0 ≤ (x46_3 : Int):=zXb ze;have q385 : x46_3 < (l0_1.length : Int):=zXb ze;obtain ⟨ad385,A385_1,c385_1,e385,hx385_0,hx385_1,hl385_1,hi385_1⟩:=at_T38 HR0_1.out x46_3 p385 q385
              cases e385
              replace hx385_0:=(HB.out.cell (World.block_lt_of_cell? w _ hx385_0)).trans hx385_0;replace hx385_1:=(HB.out.cell (World.block_lt_of_cell? w _ hx385_1)).trans hx385_1;have HR385_1:=zA hi385_1;have HC385_1:=zA hl385_1;clear hi385_1 hl385_1;replace p385:=eq_true p385;replace q385:=eq_true q385
              go_wp2_with (first|((with_reducible refine gate_dst (N:=8) rfl ?_);(try (refine gate_guard (by rfl) ?_;dsimp only));refine box_event ?hg (N:=8) ?hd (cs:=#[.int .i64 0,.slice none 0 0]) (t:=38) ?hr ?_;(case hd => rfl);(case hg => rfl);(case hr => first|(go_simp;done)|(go_simp;rfl));intro gb386 hg w35 hbox hb;replace HO_3:=zA (zZ (zq HO_3) hb);replace HO_4:=zA (zZ (zq HO_4) hb);have BK386:=zA (hbox);have GW386:=zA ((by rw [hg];exact (zT (zz HB)) : w.heap.size ≤ gb386));have GE386:=zA ((by rw [hg];exact (zT (zz HB)) : w.heap.size ≤ gb386));replace HB:=zA (zJb (zz HB) hb);have NB371_386:=zA ((by rw [hg];exact Nat.ne_of_lt (blk_lt (g:=gb371) (o:=.cells #[.slice A0_0 l0_0.length c0_0,.slice (some ad385) l0_1.length c0_1] 49 (0,0)) (zx BK371)) : gb371 ≠ gb386));have NB386_371:=zA ((by rw [hg];exact Nat.ne_of_gt (blk_lt (g:=gb371) (o:=.cells #[.slice A0_0 l0_0.length c0_0,.slice (some ad385) l0_1.length c0_1] 49 (0,0)) (zx BK371)) : gb386 ≠ gb371));replace BK371:=zA (zQ (g:=gb371) (o:=.cells #[.slice A0_0 l0_0.length c0_0,.slice (some ad385) l0_1.length c0_1] 49 (0,0)) (zx BK371) hb);clear hb hbox hg;have hnb36:=NB386_371.out;have hnc36:=NB371_386.out;have hcz37_0:=zc (.int .i64 0) BK386 0 rfl;have hcz37_1:=zc (.slice none 0 0) BK386 1 rfl;have hfz37_0:=blk_frozen BK386.out 0;have hfz37_1:=blk_frozen BK386.out 1)|((with_reducible refine gate_callee (f:=29) rfl ?_);refine goesL_ (some 51) rfl rfl Try.func29 (by kernel_rfl) rfl #[.agg #[.int .i64 ((rd_T38 l0_1 x46_3).f0),.slice A385_1 ((rd_T38 l0_1 x46_3).f1).length c385_1]] rfl (by (try simp only [zCb,zMb,zNb]);first|done|rfl|(simp only [zLb,zDb];rfl)) ?_;(with_reducible refine (impl_FormatAtom.calls k3 ((rd_T38 l0_1 x46_3).f0) _ _ ((rd_T38 l0_1 x46_3).f1) t387 _ ?side1 ?side2 A28.out).mono ?_);(case side1 => exact zKb HR385_1.out (zz HB));(case side2 => exact HC385_1.out);rintro e w38 ⟨rfl,hb⟩;refine ⟨_,rfl,?_⟩;replace HO_3:=zA (zZ (by (with_reducible repeat (first|apply zE|apply zD|apply zH));exact (zGb (zR (p:=⟨gb386,1,none⟩) (zR (p:=⟨gb386,0,none⟩) (Kd.R_types HO_3.out BK386.out (by decide)) (fun _ hk => hk.2) (.int .i64 ((rd_T38 l0_1 x46_3).f0))) (fun _ hk => hk.2) (.slice A385_1 ((rd_T38 l0_1 x46_3).f1).length c385_1)) (fun _ h_ => h_.1))) hb);replace HO_4:=zA (zZ (by (with_reducible repeat (first|apply zE|apply zD|apply zH));exact (zGb (zR (p:=⟨gb386,1,none⟩) (zR (p:=⟨gb386,0,none⟩) (Kd.R_types HO_4.out BK386.out (by decide)) (fun _ hk => hk.2) (.int .i64 ((rd_T38 l0_1 x46_3).f0))) (fun _ hk => hk.2) (.slice A385_1 ((rd_T38 l0_1 x46_3).f1).length c385_1)) (fun _ h_ => h_.1))) hb);replace BK371:=zA (zQ (g:=gb371) (o:=.cells #[.slice A0_0 l0_0.length c0_0,.slice (some ad385) l0_1.length c0_1] 49 (0,0)) (by (with_reducible repeat (first|refine zF ?_ _|refine zI ?_|refine zG ?_ _));refine zUb ?_ NB371_386.out _;(with_reducible repeat (first|refine zF ?_ _|refine zI ?_|refine zG ?_ _));refine zUb ?_ NB371_386.out _;(with_reducible repeat (first|refine zF ?_ _|refine zI ?_|refine zG ?_ _));exact BK371.out) hb);replace BK386:=zA (zQ (g:=gb386) (o:=.cells #[.int .i64 ((rd_T38 l0_1 x46_3).f0),.slice A385_1 ((rd_T38 l0_1 x46_3).f1).length c385_1] 38 (0,0)) (by (with_reducible repeat (first|refine zF ?_ _|refine zI ?_|refine zG ?_ _));refine blk_put (cs:=#[.int .i64 ((rd_T38 l0_1 x46_3).f0),.slice none 0 0]) ?_ 1 _ rfl;(with_reducible repeat (first|refine zF ?_ _|refine zI ?_|refine zG ?_ _));refine blk_put (cs:=#[.int .i64 0,.slice none 0 0]) ?_ 0 _ rfl;(with_reducible repeat (first|refine zF ?_ _|refine zI ?_|refine zG ?_ _));exact BK386.out) hb);replace HB:=zA (zJb (zz HB) hb);(try clear hb);(try clear hb2);(try clear hk);(try clear hi))|((with_reducible refine gate_builtin (b:=.append) (xs:=#[.tmp 54,.tmp 56]) rfl ?_);(try (refine gate_guard (by rfl) ?_;dsimp only));at_builtin;refine Kd.R_append Kd.string (w0:=w) w.heap.size rfl (.tmp 54) (.tmp 56) 92 9 (.string ⟨#[]⟩) 16 rfl Try.underlying92 info9 rfl (by decide) (by omega) u4 x4_3 t387 [.string t387] (fun k_ => some k_ ≠ (u3 : Value).ownBlock) (fun _ => False) rfl rfl ?aP (fun _ hk => hk.elim) ?aF ?aO ?aB ?aS ?aL ?_;(case aP => exact rfl);(case aB => exact (zz HB));(case aF => exact (fun k_ hk => Kd.fresh' (zOb (zq HO_3)) k_ hk));(case aO => exact (zq HO_4));(case aS => exact (zT (zz HB)));(case aL => have:=LMc34.out;omega);intro v389 w39 ho hb hg hat;rw [← Ny388.out] at ho;replace HO_3:=zA (Kd.R_after (ok:=(fun _ => True)) (by (with_reducible repeat (first|apply zE|apply zD|apply zH));exact zGb HO_3.out (fun _ hk => ⟨trivial,hk⟩)) hg hat);replace BK371:=zA (blk_grown (g:=gb371) (o:=.cells #[.slice A0_0 l0_0.length c0_0,.slice (some ad385) l0_1.length c0_1] 49 (0,0)) (zx BK371) hg (Kd.R_ne HO_4.out BK371.out (by decide)));replace BK386:=zA (blk_grown (g:=gb386) (o:=.cells #[.int .i64 ((rd_T38 l0_1 x46_3).f0),.slice A385_1 ((rd_T38 l0_1 x46_3).f1).length c385_1] 38 (0,0)) (zx BK386) hg (Kd.R_ne HO_4.out BK386.out (by decide)));replace HB:=zA (hb);have HO390:=zA (ho);clear HO_4;clear ho hb hg hat))
              go_roundg k3
              case measure => have:=HJ1.out;have:=HK2.out;have:=HK3.out;omega
              case rel => exact ⟨(y388),(wrap64 (x46_3 + 1)),za,H',⟨by have:=HJ1.out;have:=HK2.out;have:=HK3.out;omega⟩,⟨by (with_reducible repeat (first|apply zE|apply zD|apply zH));exact zGb HO_3.out (fun _ hk => hk.2)⟩,⟨zq HO390⟩,⟨zx BK371⟩,⟨zz HB⟩⟩
             ·
              rw [if_neg c34] at H
              exact absurd H (by simp)
           ·
            rw [if_neg c27] at H
            exact absurd H (by simp)
          ·
           rw [if_neg c26] at H
           exact absurd H (by simp)
         ·
          rw [if_neg c25] at H;have c25b0:=decide_eq_false c25;clear c25;replace H:=Option.bind_eq_some_iff.mp H;obtain ⟨t391,A400,H⟩:=H;(try dsimp only at H);have A40:=zA A400;clear A400
          by_cases c41 : (x3_2.length : Int) = 0
          ·
           rw [if_pos c41] at H;have c41b0:=beq_iff_eq.mpr c41;have c41b1:=bne_eq_false_iff_eq.mpr c41;clear c41
           by_cases c42 : 3 + 4 ≤ 9223372036854775807
           ·
            rw [if_pos c42] at H;have c42b0:=eq_true c42;have c42b1:=decide_eq_true c42
            try have c42b2 : (9223372036854775807 < 3 + 4) = False:=eq_false (Nat.not_lt.2 c42)
            replace H:=Option.bind_eq_some_iff.mp H;obtain ⟨t392,A430,H⟩:=H;(try dsimp only at H);have A43:=zA A430;clear A430
            by_cases c44 : ((⟨#[121,101,115]⟩ : ByteArray) ++ (⟨#[32,58,45,32]⟩ : ByteArray)).size + t392.size ≤ 9223372036854775807
            ·
             rw [if_pos c44] at H;have c44b0:=eq_true c44;have c44b1:=decide_eq_true c44
             try have c44b2 : (9223372036854775807 < ((⟨#[121,101,115]⟩ : ByteArray) ++ (⟨#[32,58,45,32]⟩ : ByteArray)).size + t392.size) = False:=eq_false (Nat.not_lt.2 c44)
             try have c44z0 : (9223372036854775807 < 3 + 4 + t392.size) = False:=eq_false (by have h_:=c44;have e0_ : (⟨#[121,101,115]⟩ : ByteArray).size = 3:=rfl;have e1_ : (⟨#[32,58,45,32]⟩ : ByteArray).size = 4:=rfl;simp only [ByteArray.size_append] at h_;omega)
             try have c44z1 : (3 + 4 + t392.size ≤ 9223372036854775807) = True:=eq_true (by have h_:=c44;have e0_ : (⟨#[121,101,115]⟩ : ByteArray).size = 3:=rfl;have e1_ : (⟨#[32,58,45,32]⟩ : ByteArray).size = 4:=rfl;simp only [ByteArray.size_append] at h_;omega)
             try have c44z2 : (9223372036854775807 < 7 + t392.size) = False:=eq_false (by have h_:=c44;have e0_ : (⟨#[121,101,115]⟩ : ByteArray).size = 3:=rfl;have e1_ : (⟨#[32,58,45,32]⟩ : ByteArray).size = 4:=rfl;simp only [ByteArray.size_append] at h_;omega)
             try have c44z3 : (7 + t392.size ≤ 9223372036854775807) = True:=eq_true (by have h_:=c44;have e0_ : (⟨#[121,101,115]⟩ : ByteArray).size = 3:=rfl;have e1_ : (⟨#[32,58,45,32]⟩ : ByteArray).size = 4:=rfl;simp only [ByteArray.size_append] at h_;omega)
             obtain rfl:=Option.some.inj H
             obtain ⟨Ao45,co45,eo45⟩:=Kd.R_slice HO_3.out
             subst eo45
             go_wp2_with (first|((with_reducible refine gate_callee (f:=76) rfl ?_);refine goesL_ (some 60) rfl rfl Try.func76 (by kernel_rfl) rfl #[.slice Ao45 x3_2.length co45,.string (⟨#[44]⟩ : ByteArray)] rfl (by (try simp only [zCb,zMb,zNb]);first|done|rfl|(simp only [zLb,zDb];rfl)) ?_;(with_reducible refine (impl_glued.calls k3 _ _ x3_2 (⟨#[44]⟩ : ByteArray) t391 _ ?side1 ?side2 A40.out).mono ?_);(case side1 => repeat (first|exact (Kd.R_reads' HO_3.out).2.2|(with_reducible refine zBb ?_ _)|(with_reducible refine zAb ?_ _)|(with_reducible refine zX ?_)));(case side2 => exact (Kd.R_reads' HO_3.out).2.1);rintro e w' ⟨rfl,⟨nd,rfl⟩⟩;refine ⟨_,rfl,?_⟩;obtain ⟨Ao46,co46,eo46⟩:=Kd.R_slice HO_4.out;subst eo46)|((with_reducible refine gate_callee (f:=76) rfl ?_);refine goesL_ (some 67) rfl rfl Try.func76 (by kernel_rfl) rfl #[.slice Ao46 x4_3.length co46,.string (⟨#[59,32]⟩ : ByteArray)] rfl (by (try simp only [zCb,zMb,zNb]);first|done|rfl|(simp only [zLb,zDb];rfl)) ?_;(with_reducible refine (impl_glued.calls k3 _ _ x4_3 (⟨#[59,32]⟩ : ByteArray) t392 _ ?side1 ?side2 A43.out).mono ?_);(case side1 => repeat (first|exact (Kd.R_reads' HO_4.out).2.2|(with_reducible refine zBb ?_ _)|(with_reducible refine zAb ?_ _)|(with_reducible refine zX ?_)));(case side2 => exact (Kd.R_reads' HO_4.out).2.1);rintro e w' ⟨rfl,⟨nd,rfl⟩⟩;refine ⟨_,rfl,?_⟩))
             go_ret
             exact ⟨by first|rfl|(simp [errW_none,errW_some] <;> rfl)|(simp [*,errW_none,errW_some] <;> rfl),zz HB⟩
            ·
             rw [if_neg c44] at H
             exact absurd H (by simp)
           ·
            rw [if_neg c42] at H
            exact absurd H (by simp)
          ·
           rw [if_neg c41] at H;have c41b0:=beq_eq_false_iff_ne.mpr c41;have c41b1:=bne_iff_ne.mpr c41
           have c41b2 : ¬ (x3_2 = []):=fun h_ => c41 (by rw [h_];rfl)
           by_cases c47 : t391.size + 4 ≤ 9223372036854775807
           ·
            rw [if_pos c47] at H;have c47b0:=eq_true c47;have c47b1:=decide_eq_true c47
            try have c47b2 : (9223372036854775807 < t391.size + 4) = False:=eq_false (Nat.not_lt.2 c47)
            replace H:=Option.bind_eq_some_iff.mp H;obtain ⟨t393,A480,H⟩:=H;(try dsimp only at H);have A48:=zA A480;clear A480
            by_cases c49 : (t391 ++ (⟨#[32,58,45,32]⟩ : ByteArray)).size + t393.size ≤ 9223372036854775807
            ·
             rw [if_pos c49] at H;have c49b0:=eq_true c49;have c49b1:=decide_eq_true c49
             try have c49b2 : (9223372036854775807 < (t391 ++ (⟨#[32,58,45,32]⟩ : ByteArray)).size + t393.size) = False:=eq_false (Nat.not_lt.2 c49)
             try have c49z0 : (9223372036854775807 < t391.size + 4 + t393.size) = False:=eq_false (by have h_:=c49;have e0_ : (⟨#[32,58,45,32]⟩ : ByteArray).size = 4:=rfl;simp only [ByteArray.size_append] at h_;omega)
             try have c49z1 : (t391.size + 4 + t393.size ≤ 9223372036854775807) = True:=eq_true (by have h_:=c49;have e0_ : (⟨#[32,58,45,32]⟩ : ByteArray).size = 4:=rfl;simp only [ByteArray.size_append] at h_;omega)
             obtain rfl:=Option.some.inj H
             obtain ⟨Ao50,co50,eo50⟩:=Kd.R_slice HO_3.out
             subst eo50
             go_wp2_with (first|((with_reducible refine gate_callee (f:=76) rfl ?_);refine goesL_ (some 60) rfl rfl Try.func76 (by kernel_rfl) rfl #[.slice Ao50 x3_2.length co50,.string (⟨#[44]⟩ : ByteArray)] rfl (by (try simp only [zCb,zMb,zNb]);first|done|rfl|(simp only [zLb,zDb];rfl)) ?_;(with_reducible refine (impl_glued.calls k3 _ _ x3_2 (⟨#[44]⟩ : ByteArray) t391 _ ?side1 ?side2 A40.out).mono ?_);(case side1 => repeat (first|exact (Kd.R_reads' HO_3.out).2.2|(with_reducible refine zBb ?_ _)|(with_reducible refine zAb ?_ _)|(with_reducible refine zX ?_)));(case side2 => exact (Kd.R_reads' HO_3.out).2.1);rintro e w' ⟨rfl,⟨nd,rfl⟩⟩;refine ⟨_,rfl,?_⟩;obtain ⟨Ao51,co51,eo51⟩:=Kd.R_slice HO_4.out;subst eo51)|((with_reducible refine gate_callee (f:=76) rfl ?_);refine goesL_ (some 67) rfl rfl Try.func76 (by kernel_rfl) rfl #[.slice Ao51 x4_3.length co51,.string (⟨#[59,32]⟩ : ByteArray)] rfl (by (try simp only [zCb,zMb,zNb]);first|done|rfl|(simp only [zLb,zDb];rfl)) ?_;(with_reducible refine (impl_glued.calls k3 _ _ x4_3 (⟨#[59,32]⟩ : ByteArray) t393 _ ?side1 ?side2 A48.out).mono ?_);(case side1 => repeat (first|exact (Kd.R_reads' HO_4.out).2.2|(with_reducible refine zBb ?_ _)|(with_reducible refine zAb ?_ _)|(with_reducible refine zX ?_)));(case side2 => exact (Kd.R_reads' HO_4.out).2.1);rintro e w' ⟨rfl,⟨nd,rfl⟩⟩;refine ⟨_,rfl,?_⟩))
             go_ret
             exact ⟨by first|rfl|(simp [errW_none,errW_some] <;> rfl)|(simp [*,errW_none,errW_some] <;> rfl),zz HB⟩
            ·
             rw [if_neg c49] at H
             exact absurd H (by simp)
           ·
            rw [if_neg c47] at H
            exact absurd H (by simp)

/-! ### impl_cut: function 121 -/
def impl_cut.l0 : Nat → ByteArray → ByteArray → List ByteArray → Int → Int → Option (List ByteArray)
 | 0, _, _, _, _, _ => none
 | k + 1, x0, x1, x5, x6, x7 => if (wrap64 (x7 + (x1.size : Int))) ≤ (x0.size : Int) then (if 0 ≤ x7 then (if x7 ≤ (wrap64 (x7 + (x1.size : Int))) then (if (x0.extract (x7 : Int).toNat ((wrap64 (x7 + (x1.size : Int))) : Int).toNat).toList = x1.toList then (if 0 ≤ x6 then (if x6 ≤ x7 then (if x7 ≤ (x0.size : Int) then (if x5.length < 8796093022208 then (impl_cut.l0 k x0 x1 (x5 ++ [x0.extract (x6 : Int).toNat (x7 : Int).toNat]) (wrap64 (x7 + (x1.size : Int))) (wrap64 (x7 + (x1.size : Int)))) else (none)) else (none)) else (none)) else (none)) else (impl_cut.l0 k x0 x1 x5 x6 (wrap64 (x7 + 1)))) else (none)) else (none)) else (if 0 ≤ x6 then (if x6 ≤ (x0.size : Int) then (if x5.length < 8796093022208 then (some (x5 ++ [x0.extract (x6 : Int).toNat x0.size])) else (none)) else (none)) else (none))
def impl_cut.f (k : Nat) (a0 : ByteArray) (a1 : ByteArray) : Option (List ByteArray) := impl_cut.l0 k a0 a1 (([] : List ByteArray)) 0 0
theorem impl_cut.mono_l : ∀ k, (∀ y0 y1 y2 y3 y4, LeO (impl_cut.l0 k y0 y1 y2 y3 y4) (impl_cut.l0 (k + 1) y0 y1 y2 y3 y4))
 | 0 => fun _ _ _ _ _ r h => by simp [impl_cut.l0] at h
 | k + 1 => by
  have ih0:=impl_cut.mono_l k
  ·
   intro y0 y1 y2 y3 y4
   unfold impl_cut.l0
   repeat' first
   | (with_reducible exact ih0 _ _ _ _ _)
   | (with_reducible exact LeO.refl _)
   | (with_reducible exact LeO.none _)
   | (with_reducible refine LeO.ite ?_ ?_)
   | (with_reducible refine LeO.bind ?_ (fun _ => ?_))
   | exact ih0 _ _ _ _ _
   | exact LeO.none _
   | refine LeO.ite ?_ ?_
   | refine LeO.bind ?_ (fun _ => ?_)
theorem impl_cut.mono : ∀ a0 a1 k, LeO (impl_cut.f k a0 a1) (impl_cut.f (k + 1) a0 a1) := by
 intro a0 a1 k
 have ih0:=impl_cut.mono_l k
 unfold impl_cut.f
 repeat' first
   | (with_reducible exact ih0 _ _ _ _ _)
   | (with_reducible exact LeO.refl _)
   | (with_reducible exact LeO.none _)
   | (with_reducible refine LeO.ite ?_ ?_)
   | (with_reducible refine LeO.bind ?_ (fun _ => ?_))
   | exact ih0 _ _ _ _ _
   | exact LeO.none _
   | refine LeO.ite ?_ ?_
   | refine LeO.bind ?_ (fun _ => ?_)
set_option maxHeartbeats 8000000 in
set_option maxRecDepth 100000 in
theorem impl_cut.calls (k : Nat) (a0 : ByteArray) (a1 : ByteArray) (r : List ByteArray) (w : World) (h : impl_cut.f k a0 a1 = some r) :
  Calls Try.prog 121 #[.string a0, .string a1] w fun e w' => ∃ v0_ : Value, e = .returned (v0_) ∧ Kd.R Kd.string 9 w' w.heap.size (fun _ => True) v0_ r ∧ Below w.heap.size w w' := by
 have HB:=zA (Below.refl w.heap.size w)
 have H : (impl_cut.l0 k a0 a1 (([] : List ByteArray)) 0 0) = some r:=h
 clear h;obtain ⟨y394,hy394⟩ : ∃ y_ : List ByteArray,y_ = (([] : List ByteArray)):=⟨_,rfl⟩
 replace H : (impl_cut.l0 k a0 a1 y394 0 0) = some r:=by first|(rw [hy394];with_reducible exact H)|(have H2_:=(Option.bind_some _ _).symm.trans H;rw [hy394];with_reducible exact H2_)|(have H2_:=(Option.bind_some _ _).symm.trans H;with_reducible exact H2_)|with_reducible exact H|(rw [hy394];exact H)|exact H
 have Ny394:=zA hy394;clear hy394
 have H':=zA H
 clear H
 go_enter Try.func121,Try.ntmps121
 go_wp2_with (first|((with_reducible refine gate_dst (N:=8) rfl ?_);refine Kd.R_lit Kd.string _ 9 ?hg (N:=8) ?hd (xs:=([] : List ByteArray)) (inner:=[]) (ok:=fun _ => True) (okp:=fun _ => True) ?hr ?hp (fun _ hk => hk) trivial (Below.refl _ _) (Nat.le_refl _) (by simp) ?_;(case hd => rfl);(case hg => rfl);(case hr => first|(go_simp;done)|(go_simp;rfl));(case hp => exact (Reps.none _ _));intro v395 w3 ho4 hb hg_ hnew_;clear hg_ hnew_;(first|rw [← Ny394.out] at ho4|(simp only [Int.reduceToNat] at ho4;rw [← Ny394.out] at ho4));have HO396:=zA (zHb ho4 (zT (zz HB)));replace HB:=zA (zJb (zz HB) hb);clear hb ho4))
 go_loopg [5,6,7] k (fun kq v5 v6 v7 w' => ∃ (x5_1 : List ByteArray) (x6_1 : Int) (x7_1 : Int),v6 = .int .i64 x6_1 ∧ v7 = .int .i64 x7_1 ∧ Aside0 (impl_cut.l0 kq a0 a1 x5_1 x6_1 x7_1 = some r) ∧ Aside0 (kq ≤ k) ∧ Aside0 (Kd.R Kd.string 9 w' w.heap.size (fun _ => True) v5 x5_1) ∧ Aside0 (Below w.heap.size w w'))
 case atStart => exact ⟨(y394),(0),(0),za,za,H',⟨Nat.le_refl _⟩,⟨zq HO396⟩,⟨zz HB⟩⟩
 case round =>
  clear H';(try clear c1);(try clear p2);obtain ⟨x5_1,x6_1,x7_1,rfl,rfl,HA,HK1,HO_5,HB⟩:=hrel
  cases gk with
  | zero => exact absurd HA.out (by simp [impl_cut.l0])
  | succ k1 =>
   have H:=HA.out;clear HA;simp only [impl_cut.l0] at H
   by_cases c5 : (wrap64 (x7_1 + (a1.size : Int))) ≤ (a0.size : Int)
   ·
    rw [if_pos c5] at H;have c5b0:=decide_eq_true c5;clear c5
    by_cases c6 : 0 ≤ x7_1
    ·
     rw [if_pos c6] at H;have c6b0:=eq_true c6;have c6b1:=decide_eq_true c6;clear c6
     by_cases c7 : x7_1 ≤ (wrap64 (x7_1 + (a1.size : Int)))
     ·
      rw [if_pos c7] at H;have c7b0:=eq_true c7;have c7b1:=decide_eq_true c7;have c8b0:=eq_true (zXb ze : (wrap64 (x7_1 + (a1.size : Int))) ≤ (a0.size : Int))
      by_cases c9 : (a0.extract (x7_1 : Int).toNat ((wrap64 (x7_1 + (a1.size : Int))) : Int).toNat).toList = a1.toList
      ·
       rw [if_pos c9] at H;have c9b0:=beq_iff_eq.mpr c9;have c9b1:=bne_eq_false_iff_eq.mpr c9;clear c9
       by_cases c10 : 0 ≤ x6_1
       ·
        rw [if_pos c10] at H;have c10b0:=eq_true c10;have c10b1:=decide_eq_true c10;clear c10
        by_cases c11 : x6_1 ≤ x7_1
        ·
         rw [if_pos c11] at H;have c11b0:=eq_true c11;have c11b1:=decide_eq_true c11;clear c11
         by_cases c12 : x7_1 ≤ (a0.size : Int)
         ·
          rw [if_pos c12] at H;have c12b0:=eq_true c12;have c12b1:=decide_eq_true c12;clear c12
          by_cases c13 : x5_1.length < 8796093022208
          ·
           rw [if_pos c13] at H;have LMc13:=zA c13;clear c13;obtain ⟨y397,hy397⟩ : ∃ y_ : List ByteArray,y_ = (x5_1 ++ [a0.extract (x6_1 : Int).toNat (x7_1 : Int).toNat]):=⟨_,rfl⟩
           replace H : (impl_cut.l0 k1 a0 a1 y397 (wrap64 (x7_1 + (a1.size : Int))) (wrap64 (x7_1 + (a1.size : Int)))) = some r:=by first|(rw [hy397];with_reducible exact H)|(have H2_:=(Option.bind_some _ _).symm.trans H;rw [hy397];with_reducible exact H2_)|(have H2_:=(Option.bind_some _ _).symm.trans H;with_reducible exact H2_)|with_reducible exact H|(rw [hy397];exact H)|exact H
           have Ny397:=zA hy397;clear hy397
           have H':=zA H
           clear H
           go_wp2_with (first|((with_reducible refine gate_builtin (b:=.append) (xs:=#[.tmp 25,.tmp 30]) rfl ?_);at_builtin;refine Kd.R_append Kd.string (w0:=w) w.heap.size rfl (.tmp 25) (.tmp 30) 92 9 (.string ⟨#[]⟩) 16 rfl Try.underlying92 info9 rfl (by decide) (by omega) u5 x5_1 (a0.extract (x6_1 : Int).toNat (x7_1 : Int).toNat) [.string (a0.extract (x6_1 : Int).toNat (x7_1 : Int).toNat)] (fun _ => True) (fun _ => False) rfl rfl ?aP (fun _ hk => hk.elim) ?aF ?aO ?aB ?aS ?aL ?_;(case aP => exact rfl);(case aB => exact (zz HB));(case aF => exact (fun _ _ => trivial));(case aO => exact (zq HO_5));(case aS => exact (zT (zz HB)));(case aL => have:=LMc13.out;omega);intro v398 w14 ho hb hg hat;rw [← Ny397.out] at ho;replace HB:=zA (hb);have HO399:=zA (ho);clear HO_5;clear ho hb hg hat))
           go_roundg k1
           case measure => have:=HK1.out;omega
           case rel => exact ⟨(y397),(wrap64 (x7_1 + (a1.size : Int))),(wrap64 (x7_1 + (a1.size : Int))),za,za,H',⟨by have:=HK1.out;omega⟩,⟨zq HO399⟩,⟨zz HB⟩⟩
          ·
           rw [if_neg c13] at H
           exact absurd H (by simp)
         ·
          rw [if_neg c12] at H
          exact absurd H (by simp)
        ·
         rw [if_neg c11] at H
         exact absurd H (by simp)
       ·
        rw [if_neg c10] at H
        exact absurd H (by simp)
      ·
       rw [if_neg c9] at H;have c9b0:=beq_eq_false_iff_ne.mpr c9;have c9b1:=bne_iff_ne.mpr c9
       have H':=zA H
       clear H
       go_wp2
       go_roundg k1
       case measure => have:=HK1.out;omega
       case rel => exact ⟨(x5_1),(x6_1),(wrap64 (x7_1 + 1)),za,za,H',⟨by have:=HK1.out;omega⟩,⟨zq HO_5⟩,⟨zz HB⟩⟩
     ·
      rw [if_neg c7] at H
      exact absurd H (by simp)
    ·
     rw [if_neg c6] at H
     exact absurd H (by simp)
   ·
    rw [if_neg c5] at H;have c5b0:=decide_eq_false c5;clear c5
    by_cases c15 : 0 ≤ x6_1
    ·
     rw [if_pos c15] at H;have c15b0:=eq_true c15;have c15b1:=decide_eq_true c15;clear c15
     by_cases c16 : x6_1 ≤ (a0.size : Int)
     ·
      rw [if_pos c16] at H;have c16b0:=eq_true c16;have c16b1:=decide_eq_true c16;clear c16
      by_cases c17 : x5_1.length < 8796093022208
      ·
       rw [if_pos c17] at H;have LMc17:=zA c17;clear c17;obtain ⟨y400,hy400⟩ : ∃ y_ : List ByteArray,y_ = (x5_1 ++ [a0.extract (x6_1 : Int).toNat a0.size]):=⟨_,rfl⟩
       replace H : (some y400) = some r:=by first|(rw [hy400];with_reducible exact H)|(have H2_:=(Option.bind_some _ _).symm.trans H;rw [hy400];with_reducible exact H2_)|(have H2_:=(Option.bind_some _ _).symm.trans H;with_reducible exact H2_)|with_reducible exact H|(rw [hy400];exact H)|exact H
       have Ny400:=zA hy400;clear hy400
       obtain rfl:=Option.some.inj H
       go_wp2_with (first|((with_reducible refine gate_builtin (b:=.append) (xs:=#[.tmp 39,.tmp 43]) rfl ?_);at_builtin;refine Kd.R_append Kd.string (w0:=w) w.heap.size rfl (.tmp 39) (.tmp 43) 92 9 (.string ⟨#[]⟩) 16 rfl Try.underlying92 info9 rfl (by decide) (by omega) u5 x5_1 (a0.extract (x6_1 : Int).toNat a0.size) [.string (a0.extract (x6_1 : Int).toNat a0.size)] (fun _ => True) (fun _ => False) rfl rfl ?aP (fun _ hk => hk.elim) ?aF ?aO ?aB ?aS ?aL ?_;(case aP => exact rfl);(case aB => exact (zz HB));(case aF => exact (fun _ _ => trivial));(case aO => exact (zq HO_5));(case aS => exact (zT (zz HB)));(case aL => have:=LMc17.out;omega);intro v401 w18 ho hb hg hat;rw [← Ny400.out] at ho;replace HB:=zA (hb);have HO402:=zA (ho);clear HO_5;clear ho hb hg hat))
       go_ret
       exact ⟨_,by first|rfl|(simp [errW_none,errW_some] <;> rfl)|(simp [*,errW_none,errW_some] <;> rfl),zq HO402,zz HB⟩
      ·
       rw [if_neg c17] at H
       exact absurd H (by simp)
     ·
      rw [if_neg c16] at H
      exact absurd H (by simp)
    ·
     rw [if_neg c15] at H
     exact absurd H (by simp)

end Go.Proofs.Ytpfpappamlgnoaa.QFnExactParseQuery
