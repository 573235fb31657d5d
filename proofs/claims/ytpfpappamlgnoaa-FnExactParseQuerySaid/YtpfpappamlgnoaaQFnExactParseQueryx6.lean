/- Walks through the Go functions that FnExactParseQuery reaches: each call returns what the Lean function beside it says, within the bounds that the theorem names. -/
import Derived.Test.YtpfpappamlgnoaaQFnExactParseQueryx0
import Derived.Test.YtpfpappamlgnoaaQFnExactParseQueryx2
import Derived.Test.YtpfpappamlgnoaaQFnExactParseQueryx5
namespace Go.Proofs.Ytpfpappamlgnoaa.QFnExactParseQuery
open Go.RowKit Go.Proofs.YtpfpappamlgnoaaW.PrintWords Go.Proofs.YtpfpappamlgnoaaW.PrintLast Go.Proofs.YtpfpappamlgnoaaW.PrintMore
attribute [local go_sem] max2_int min2_int max_two min_two max_three min_three max_four min_four   -- for this text's walks alone
set_option linter.unusedVariables false
set_option linter.unusedSimpArgs false


/-! ### spec_IsQuery: function 47 -/
def spec_IsQuery.f (k : Nat) (l0_0 : List Int) (l1_0 : List Int) (l1_1 : List (S38)) : Option (Bool) := (spec_l4Fine.f k l0_0 l1_0 l1_1 4).bind fun t180 => (some t180)
theorem spec_IsQuery.mono : ∀ a0 a1 a2 k, LeO (spec_IsQuery.f k a0 a1 a2) (spec_IsQuery.f (k + 1) a0 a1 a2) := by
 intro a0 a1 a2 k
 unfold spec_IsQuery.f
 repeat' first
   | (with_reducible exact spec_l4Fine.mono _ _ _ _ _)
   | (with_reducible exact LeO.refl _)
   | (with_reducible exact LeO.none _)
   | (with_reducible refine LeO.ite ?_ ?_)
   | (with_reducible refine LeO.bind ?_ (fun _ => ?_))
   | exact LeO.none _
   | refine LeO.ite ?_ ?_
   | refine LeO.bind ?_ (fun _ => ?_)
set_option maxHeartbeats 8000000 in
set_option maxRecDepth 100000 in
theorem spec_IsQuery.calls (k : Nat) (A0_0 : Option Addr) (c0_0 : Nat) (l0_0 : List Int) (A1_0 : Option Addr) (c1_0 : Nat) (l1_0 : List Int) (A1_1 : Option Addr) (c1_1 : Nat) (l1_1 : List (S38)) (r : Bool) (w : World) (hr0_0 : Kd.C (Kd.int .i64) w A0_0 l0_0.length l0_0) (hc0_0 : l0_0.length ≤ c0_0) (hr1_0 : Kd.C (Kd.int .i64) w A1_0 l1_0.length l1_0) (hc1_0 : l1_0.length ≤ c1_0) (hr1_1 : Kd.C k38 w A1_1 l1_1.length l1_1) (hc1_1 : l1_1.length ≤ c1_1) (h : spec_IsQuery.f k l0_0 l1_0 l1_1 = some r) :
  Calls Try.prog 47 #[.agg #[.slice A0_0 l0_0.length c0_0], .agg #[.slice A1_0 l1_0.length c1_0, .slice A1_1 l1_1.length c1_1]] w fun e w' => e = .returned (.bool r) ∧ Below w.heap.size w w' := by
 have hu61:=Try.underlying61;have hu49:=Try.underlying49;have HR0_0:=zA hr0_0;have HC0_0:=zA hc0_0;clear hr0_0 hc0_0;have HR1_0:=zA hr1_0;have HC1_0:=zA hc1_0;clear hr1_0 hc1_0;have HR1_1:=zA hr1_1;have HC1_1:=zA hc1_1;clear hr1_1 hc1_1;have HB:=zA (Below.refl w.heap.size w)
 have H : ((spec_l4Fine.f k l0_0 l1_0 l1_1 4).bind fun t180 => (some t180)) = some r:=h
 clear h;replace H:=Option.bind_eq_some_iff.mp H;obtain ⟨t180,A30,H⟩:=H;(try dsimp only at H);have A3:=zA A30;clear A30
 obtain rfl:=Option.some.inj H
 go_enter Try.func47,Try.ntmps47
 go_wp2_with (first|((with_reducible refine gate_dst (N:=2) rfl ?_);refine box_event ?hg (N:=2) ?hd (cs:=#[.slice A0_0 l0_0.length c0_0]) (t:=61) ?hr ?_;(case hd => rfl);(case hg => rfl);(case hr => first|(go_simp;done)|(go_simp;rfl));intro gb178 hg w4 hbox hb;have BK178:=zA (hbox);have GW178:=zA ((by rw [hg];exact (zT (zz HB)) : w.heap.size ≤ gb178));have GE178:=zA ((by rw [hg];exact (zT (zz HB)) : w.heap.size ≤ gb178));replace HB:=zA (zJb (zz HB) hb);clear hb hbox hg)|((with_reducible refine gate_dst (N:=3) rfl ?_);refine box_event ?hg (N:=3) ?hd (cs:=#[.slice A1_0 l1_0.length c1_0,.slice A1_1 l1_1.length c1_1]) (t:=49) ?hr ?_;(case hd => rfl);(case hg => rfl);(case hr => first|(go_simp;done)|(go_simp;rfl));intro gb179 hg w5 hbox hb;have BK179:=zA (hbox);have GW179:=zA ((by rw [hg];exact (zT (zz HB)) : w.heap.size ≤ gb179));have GE179:=zA ((by rw [hg];exact (zT (zz HB)) : w.heap.size ≤ gb179));replace HB:=zA (zJb (zz HB) hb);have NB178_179:=zA ((by rw [hg];exact Nat.ne_of_lt (blk_lt (g:=gb178) (o:=.cells #[.slice A0_0 l0_0.length c0_0] 61 (0,0)) (zx BK178)) : gb178 ≠ gb179));have NB179_178:=zA ((by rw [hg];exact Nat.ne_of_gt (blk_lt (g:=gb178) (o:=.cells #[.slice A0_0 l0_0.length c0_0] 61 (0,0)) (zx BK178)) : gb179 ≠ gb178));replace BK178:=zA (zQ (g:=gb178) (o:=.cells #[.slice A0_0 l0_0.length c0_0] 61 (0,0)) (zx BK178) hb);clear hb hbox hg;have hnb6:=NB178_179.out;have hnc6:=NB179_178.out;have hcz7_0:=zc (.slice A0_0 l0_0.length c0_0) BK178 0 rfl;have hfz7_0:=blk_frozen BK178.out 0;have hcz8_0:=zc (.slice A1_0 l1_0.length c1_0) BK179 0 rfl;have hcz8_1:=zc (.slice A1_1 l1_1.length c1_1) BK179 1 rfl;have hfz8_0:=blk_frozen BK179.out 0;have hfz8_1:=blk_frozen BK179.out 1)|((with_reducible refine gate_callee (f:=105) rfl ?_);refine goesL_ (some 7) rfl rfl Try.func105 (by kernel_rfl) rfl #[.agg #[.slice A0_0 l0_0.length c0_0],.agg #[.slice A1_0 l1_0.length c1_0,.slice A1_1 l1_1.length c1_1],.int .i64 4] rfl (by (try simp only [zCb,zMb,zNb]);first|done|rfl|(simp only [zLb,zDb];rfl)) ?_;(with_reducible refine (spec_l4Fine.calls k _ _ l0_0 _ _ l1_0 _ _ l1_1 4 t180 _ ?side1 ?side2 ?side3 ?side4 ?side5 ?side6 A3.out).mono ?_);(case side1 => repeat (first|exact (zKb HR0_0.out HB.out)|(with_reducible refine zBb ?_ _)|(with_reducible refine zAb ?_ _)|(with_reducible refine zX ?_)));(case side2 => exact HC0_0.out);(case side3 => repeat (first|exact (zKb HR1_0.out HB.out)|(with_reducible refine zBb ?_ _)|(with_reducible refine zAb ?_ _)|(with_reducible refine zX ?_)));(case side4 => exact HC1_0.out);(case side5 => repeat (first|exact (zKb HR1_1.out HB.out)|(with_reducible refine zBb ?_ _)|(with_reducible refine zAb ?_ _)|(with_reducible refine zX ?_)));(case side6 => exact HC1_1.out);rintro e w9 ⟨rfl,hb⟩;refine ⟨_,rfl,?_⟩;replace BK178:=zA (zQ (g:=gb178) (o:=.cells #[.slice A0_0 l0_0.length c0_0] 61 (0,0)) (zx BK178) hb);replace BK179:=zA (zQ (g:=gb179) (o:=.cells #[.slice A1_0 l1_0.length c1_0,.slice A1_1 l1_1.length c1_1] 49 (0,0)) (zx BK179) hb);replace HB:=zA (zJb (zz HB) hb);(try clear hb);(try clear hb2);(try clear hk);(try clear hi)))
 go_ret
 exact ⟨by first|rfl|(simp [errW_none,errW_some] <;> rfl)|(simp [*,errW_none,errW_some] <;> rfl),zz HB⟩

/-! ### spec_FormatInt: function 86 -/
def spec_FormatInt.l0 : Nat → Int → ByteArray → Bool → Option (ByteArray)
 | 0, _, _, _ => none
 | k + 1, x0, x3, x4 => if x0 = 0 then (if x4 = true then (if 1 + x3.size ≤ 9223372036854775807 then (some ((⟨#[45]⟩ : ByteArray) ++ x3)) else (none)) else (some x3)) else (if (Int.tmod x0 10) < 0 then ((some (([(wrap64 (48 + (wrap64 (-(Int.tmod x0 10))))) % 256] : List Int) : List Int)).bind fun y181 => (if (strOfNums y181).size + x3.size ≤ 9223372036854775807 then (spec_FormatInt.l0 k (wrap64 (Int.tdiv x0 10)) ((strOfNums y181) ++ x3) x4) else (none))) else ((some (([(wrap64 (48 + (Int.tmod x0 10))) % 256] : List Int) : List Int)).bind fun y184 => (if (strOfNums y184).size + x3.size ≤ 9223372036854775807 then (spec_FormatInt.l0 k (wrap64 (Int.tdiv x0 10)) ((strOfNums y184) ++ x3) x4) else (none))))
def spec_FormatInt.f (k : Nat) (a0 : Int) : Option (ByteArray) := if a0 = 0 then (some (⟨#[48]⟩ : ByteArray)) else (spec_FormatInt.l0 k a0 (⟨#[]⟩ : ByteArray) (decide (a0 < 0)))
theorem spec_FormatInt.mono_l : ∀ k, (∀ y0 y1 y2, LeO (spec_FormatInt.l0 k y0 y1 y2) (spec_FormatInt.l0 (k + 1) y0 y1 y2))
 | 0 => fun _ _ _ r h => by simp [spec_FormatInt.l0] at h
 | k + 1 => by
  have ih0:=spec_FormatInt.mono_l k
  ·
   intro y0 y1 y2
   unfold spec_FormatInt.l0
   repeat' first
   | (with_reducible exact ih0 _ _ _)
   | (with_reducible exact LeO.refl _)
   | (with_reducible exact LeO.none _)
   | (with_reducible refine LeO.ite ?_ ?_)
   | (with_reducible refine LeO.bind ?_ (fun _ => ?_))
   | exact ih0 _ _ _
   | exact LeO.none _
   | refine LeO.ite ?_ ?_
   | refine LeO.bind ?_ (fun _ => ?_)
theorem spec_FormatInt.mono : ∀ a0 k, LeO (spec_FormatInt.f k a0) (spec_FormatInt.f (k + 1) a0) := by
 intro a0 k
 have ih0:=spec_FormatInt.mono_l k
 unfold spec_FormatInt.f
 repeat' first
   | (with_reducible exact ih0 _ _ _)
   | (with_reducible exact LeO.refl _)
   | (with_reducible exact LeO.none _)
   | (with_reducible refine LeO.ite ?_ ?_)
   | (with_reducible refine LeO.bind ?_ (fun _ => ?_))
   | exact ih0 _ _ _
   | exact LeO.none _
   | refine LeO.ite ?_ ?_
   | refine LeO.bind ?_ (fun _ => ?_)
set_option maxHeartbeats 8000000 in
set_option maxRecDepth 100000 in
theorem spec_FormatInt.calls (k : Nat) (a0 : Int) (r : ByteArray) (w : World) (h : spec_FormatInt.f k a0 = some r) :
  Calls Try.prog 86 #[.int .i64 a0] w fun e w' => e = .returned (.string r) ∧ Below w.heap.size w w' := by
 have HB:=zA (Below.refl w.heap.size w)
 have H : (if a0 = 0 then (some (⟨#[48]⟩ : ByteArray)) else (spec_FormatInt.l0 k a0 (⟨#[]⟩ : ByteArray) (decide (a0 < 0)))) = some r:=h
 clear h
 by_cases c2 : a0 = 0
 ·
  rw [if_pos c2] at H;have c2b0:=beq_iff_eq.mpr c2;have c2b1:=bne_eq_false_iff_eq.mpr c2;clear c2
  obtain rfl:=Option.some.inj H
  go_enter Try.func86,Try.ntmps86
  go_wp2
  go_ret
  exact ⟨by first|rfl|(simp [errW_none,errW_some] <;> rfl)|(simp [*,errW_none,errW_some] <;> rfl),zz HB⟩
 ·
  rw [if_neg c2] at H;have c2b0:=beq_eq_false_iff_ne.mpr c2;have c2b1:=bne_iff_ne.mpr c2
  have H':=zA H
  clear H
  go_enter Try.func86,Try.ntmps86
  go_wp2
  generalize (decide (a0 < 0)) = ng at H' ⊢
  go_loopg [0,3] k (fun kq v0 v3 w' => ∃ (x0_1 : Int) (x3_1 : ByteArray),v0 = .int .i64 x0_1 ∧ v3 = .string x3_1 ∧ Aside0 (spec_FormatInt.l0 kq x0_1 x3_1 ng = some r) ∧ Aside0 (kq ≤ k) ∧ Aside0 (Below w.heap.size w w'))
  case atStart => exact ⟨(a0),((⟨#[]⟩ : ByteArray)),za,za,H',⟨Nat.le_refl _⟩,⟨zz HB⟩⟩
  case round =>
   clear H';(try clear c2);(try clear c2b0);(try clear c2b1);(try clear p2);obtain ⟨x0_1,x3_1,rfl,rfl,HA,HK1,HB⟩:=hrel
   cases gk with
   | zero => exact absurd HA.out (by simp [spec_FormatInt.l0])
   | succ k1 =>
    have H:=HA.out;clear HA;simp only [spec_FormatInt.l0] at H
    by_cases c3 : x0_1 = 0
    ·
     rw [if_pos c3] at H;have c3b0:=beq_iff_eq.mpr c3;have c3b1:=bne_eq_false_iff_eq.mpr c3;clear c3
     by_cases c4 : ng = true
     ·
      rw [if_pos c4] at H
      have c4b0 : ng = true:=c4
      clear c4
      subst c4b0
      by_cases c5 : 1 + x3_1.size ≤ 9223372036854775807
      ·
       rw [if_pos c5] at H;have c5b0:=eq_true c5;have c5b1:=decide_eq_true c5
       try have c5b2 : (9223372036854775807 < 1 + x3_1.size) = False:=eq_false (Nat.not_lt.2 c5)
       obtain rfl:=Option.some.inj H
       go_wp2
       go_ret
       exact ⟨by first|rfl|(simp [errW_none,errW_some] <;> rfl)|(simp [*,errW_none,errW_some] <;> rfl),zz HB⟩
      ·
       rw [if_neg c5] at H
       exact absurd H (by simp)
     ·
      rw [if_neg c4] at H
      have c4b0 : ng = false:=by simpa using c4
      clear c4
      subst c4b0
      obtain rfl:=Option.some.inj H
      go_wp2
      go_ret
      exact ⟨by first|rfl|(simp [errW_none,errW_some] <;> rfl)|(simp [*,errW_none,errW_some] <;> rfl),zz HB⟩
    ·
     rw [if_neg c3] at H;have c3b0:=beq_eq_false_iff_ne.mpr c3;have c3b1:=bne_iff_ne.mpr c3
     by_cases c6 : (Int.tmod x0_1 10) < 0
     ·
      rw [if_pos c6] at H;have c6b0:=decide_eq_true c6;clear c6;obtain ⟨y181,hy181⟩ : ∃ y_ : List Int,y_ = (([(wrap64 (48 + (wrap64 (-(Int.tmod x0_1 10))))) % 256] : List Int)):=⟨_,rfl⟩
      replace H : (if (strOfNums y181).size + x3_1.size ≤ 9223372036854775807 then (spec_FormatInt.l0 k1 (wrap64 (Int.tdiv x0_1 10)) ((strOfNums y181) ++ x3_1) ng) else (none)) = some r:=by first|(rw [hy181];with_reducible exact H)|(have H2_:=(Option.bind_some _ _).symm.trans H;rw [hy181];with_reducible exact H2_)|(have H2_:=(Option.bind_some _ _).symm.trans H;with_reducible exact H2_)|with_reducible exact H|(rw [hy181];exact H)|exact H
      have Ny181:=zA hy181;clear hy181
      by_cases c7 : (strOfNums y181).size + x3_1.size ≤ 9223372036854775807
      ·
       rw [if_pos c7] at H;have c7b0:=eq_true c7;have c7b1:=decide_eq_true c7
       try have c7b2 : (9223372036854775807 < (strOfNums y181).size + x3_1.size) = False:=eq_false (Nat.not_lt.2 c7)
       have H':=zA H
       clear H
       go_wp2_with (first|((with_reducible refine gate_dst (N:=21) rfl ?_);refine Kd.R_lit (Kd.int .u8) _ 5 ?hg (N:=21) ?hd (xs:=([(wrap64 (48 + (wrap64 (-(Int.tmod x0_1 10))))) % 256] : List Int)) (inner:=[.int .u8 ((wrap64 (48 + (wrap64 (-(Int.tmod x0_1 10))))) % 256)]) (ok:=fun _ => True) (okp:=fun _ => True) ?hr ?hp (fun _ hk => hk) trivial (Below.refl _ _) (Nat.le_refl _) (by simp) ?_;(case hd => rfl);(case hg => rfl);(case hr => first|(go_simp;done)|(go_simp;rfl));(case hp => exact (Reps.one (show Kd.M (Kd.int .u8) _ _ _ ((wrap64 (48 + (wrap64 (-(Int.tmod x0_1 10))))) % 256) [.int .u8 ((wrap64 (48 + (wrap64 (-(Int.tmod x0_1 10))))) % 256)] from rfl) (Reps.none _ _)));intro v182 w8 ho9 hb hg_ hnew_;clear hg_ hnew_;(first|rw [← Ny181.out] at ho9|(simp only [Int.reduceToNat] at ho9;rw [← Ny181.out] at ho9));have HO183:=zA (zHb ho9 (zT (zz HB)));replace HB:=zA (zJb (zz HB) hb);clear hb ho9;have hcv10:=own_string (P:=Try.prog) Try.underlying118 Try.underlying5 Try.underlying9 (Kd.own_of_R HO183.out)))
       go_roundg k1
       case measure => have:=HK1.out;omega
       case rel => exact ⟨(wrap64 (Int.tdiv x0_1 10)),((strOfNums y181) ++ x3_1),za,za,H',⟨by have:=HK1.out;omega⟩,⟨zz HB⟩⟩
      ·
       rw [if_neg c7] at H
       exact absurd H (by simp)
     ·
      rw [if_neg c6] at H;have c6b0:=decide_eq_false c6;clear c6;obtain ⟨y184,hy184⟩ : ∃ y_ : List Int,y_ = (([(wrap64 (48 + (Int.tmod x0_1 10))) % 256] : List Int)):=⟨_,rfl⟩
      replace H : (if (strOfNums y184).size + x3_1.size ≤ 9223372036854775807 then (spec_FormatInt.l0 k1 (wrap64 (Int.tdiv x0_1 10)) ((strOfNums y184) ++ x3_1) ng) else (none)) = some r:=by first|(rw [hy184];with_reducible exact H)|(have H2_:=(Option.bind_some _ _).symm.trans H;rw [hy184];with_reducible exact H2_)|(have H2_:=(Option.bind_some _ _).symm.trans H;with_reducible exact H2_)|with_reducible exact H|(rw [hy184];exact H)|exact H
      have Ny184:=zA hy184;clear hy184
      by_cases c11 : (strOfNums y184).size + x3_1.size ≤ 9223372036854775807
      ·
       rw [if_pos c11] at H;have c11b0:=eq_true c11;have c11b1:=decide_eq_true c11
       try have c11b2 : (9223372036854775807 < (strOfNums y184).size + x3_1.size) = False:=eq_false (Nat.not_lt.2 c11)
       have H':=zA H
       clear H
       go_wp2_with (first|((with_reducible refine gate_dst (N:=21) rfl ?_);refine Kd.R_lit (Kd.int .u8) _ 5 ?hg (N:=21) ?hd (xs:=([(wrap64 (48 + (Int.tmod x0_1 10))) % 256] : List Int)) (inner:=[.int .u8 ((wrap64 (48 + (Int.tmod x0_1 10))) % 256)]) (ok:=fun _ => True) (okp:=fun _ => True) ?hr ?hp (fun _ hk => hk) trivial (Below.refl _ _) (Nat.le_refl _) (by simp) ?_;(case hd => rfl);(case hg => rfl);(case hr => first|(go_simp;done)|(go_simp;rfl));(case hp => exact (Reps.one (show Kd.M (Kd.int .u8) _ _ _ ((wrap64 (48 + (Int.tmod x0_1 10))) % 256) [.int .u8 ((wrap64 (48 + (Int.tmod x0_1 10))) % 256)] from rfl) (Reps.none _ _)));intro v185 w12 ho13 hb hg_ hnew_;clear hg_ hnew_;(first|rw [← Ny184.out] at ho13|(simp only [Int.reduceToNat] at ho13;rw [← Ny184.out] at ho13));have HO186:=zA (zHb ho13 (zT (zz HB)));replace HB:=zA (zJb (zz HB) hb);clear hb ho13;have hcv14:=own_string (P:=Try.prog) Try.underlying118 Try.underlying5 Try.underlying9 (Kd.own_of_R HO186.out)))
       go_roundg k1
       case measure => have:=HK1.out;omega
       case rel => exact ⟨(wrap64 (Int.tdiv x0_1 10)),((strOfNums y184) ++ x3_1),za,za,H',⟨by have:=HK1.out;omega⟩,⟨zz HB⟩⟩
      ·
       rw [if_neg c11] at H
       exact absurd H (by simp)

/-! ### spec_FormatTerm: function 72 -/
def spec_FormatTerm.f (k : Nat) (a0 : Int) : Option (ByteArray) := (spec_IsVar.f a0).bind fun t187 => (if t187 = true then ((spec_FormatInt.f k a0).bind fun t188 => (if 1 + t188.size ≤ 9223372036854775807 then (some ((⟨#[88]⟩ : ByteArray) ++ t188)) else (none))) else ((spec_ConstOf.f a0).bind fun t189 => (if t189 ≥ 0 then ((spec_ConstOf.f a0).bind fun t190 => ((spec_FormatInt.f k t190).bind fun t191 => (some t191))) else (some (⟨#[]⟩ : ByteArray)))))
theorem spec_FormatTerm.mono : ∀ a0 k, LeO (spec_FormatTerm.f k a0) (spec_FormatTerm.f (k + 1) a0) := by
 intro a0 k
 unfold spec_FormatTerm.f
 repeat' first
   | (with_reducible exact spec_FormatInt.mono _ _)
   | (with_reducible exact LeO.refl _)
   | (with_reducible exact LeO.none _)
   | (with_reducible refine LeO.ite ?_ ?_)
   | (with_reducible refine LeO.bind ?_ (fun _ => ?_))
   | exact LeO.none _
   | refine LeO.ite ?_ ?_
   | refine LeO.bind ?_ (fun _ => ?_)
set_option maxHeartbeats 8000000 in
set_option maxRecDepth 100000 in
theorem spec_FormatTerm.calls (k : Nat) (a0 : Int) (r : ByteArray) (w : World) (h : spec_FormatTerm.f k a0 = some r) :
  Calls Try.prog 72 #[.int .i64 a0] w fun e w' => e = .returned (.string r) ∧ Below w.heap.size w w' := by
 have HB:=zA (Below.refl w.heap.size w)
 have H : ((spec_IsVar.f a0).bind fun t187 => (if t187 = true then ((spec_FormatInt.f k a0).bind fun t188 => (if 1 + t188.size ≤ 9223372036854775807 then (some ((⟨#[88]⟩ : ByteArray) ++ t188)) else (none))) else ((spec_ConstOf.f a0).bind fun t189 => (if t189 ≥ 0 then ((spec_ConstOf.f a0).bind fun t190 => ((spec_FormatInt.f k t190).bind fun t191 => (some t191))) else (some (⟨#[]⟩ : ByteArray)))))) = some r:=h
 clear h;replace H:=Option.bind_eq_some_iff.mp H;obtain ⟨t187,A20,H⟩:=H;(try dsimp only at H);have A2:=zA A20;clear A20
 by_cases c3 : t187 = true
 ·
  subst c3
  rw [if_pos rfl] at H;replace H:=Option.bind_eq_some_iff.mp H;obtain ⟨t188,A40,H⟩:=H;(try dsimp only at H);have A4:=zA A40;clear A40
  by_cases c5 : 1 + t188.size ≤ 9223372036854775807
  ·
   rw [if_pos c5] at H;have c5b0:=eq_true c5;have c5b1:=decide_eq_true c5
   try have c5b2 : (9223372036854775807 < 1 + t188.size) = False:=eq_false (Nat.not_lt.2 c5)
   obtain rfl:=Option.some.inj H
   go_enter Try.func72,Try.ntmps72
   go_wp2_with (first|((with_reducible refine gate_callee (f:=71) rfl ?_);refine goesL_ (some 5) rfl rfl Try.func71 (by kernel_rfl) rfl #[.int .i64 a0] rfl (by (try simp only [zCb,zMb,zNb]);first|done|rfl|(simp only [zLb,zDb];rfl)) ?_;(with_reducible refine (spec_IsVar.calls a0 true _ A2.out).mono ?_);rintro e w' ⟨rfl,⟨nd,rfl⟩⟩;refine ⟨_,rfl,?_⟩)|((with_reducible refine gate_callee (f:=86) rfl ?_);refine goesL_ (some 7) rfl rfl Try.func86 (by kernel_rfl) rfl #[.int .i64 a0] rfl (by (try simp only [zCb,zMb,zNb]);first|done|rfl|(simp only [zLb,zDb];rfl)) ?_;(with_reducible refine (spec_FormatInt.calls k a0 t188 _ A4.out).mono ?_);rintro e w6 ⟨rfl,hb⟩;refine ⟨_,rfl,?_⟩;replace HB:=zA (zJb (zz HB) hb);(try clear hb);(try clear hb2);(try clear hk);(try clear hi)))
   go_ret
   exact ⟨by first|rfl|(simp [errW_none,errW_some] <;> rfl)|(simp [*,errW_none,errW_some] <;> rfl),zz HB⟩
  ·
   rw [if_neg c5] at H
   exact absurd H (by simp)
 ·
  replace c3:=Bool.eq_false_iff.mpr c3
  subst c3
  have H1 : ((spec_ConstOf.f a0).bind fun t189 => (if t189 ≥ 0 then ((spec_ConstOf.f a0).bind fun t190 => ((spec_FormatInt.f k t190).bind fun t191 => (some t191))) else (some (⟨#[]⟩ : ByteArray)))) = some r:=by rw [if_neg (show ¬ (false = true) by decide)] at H;exact H
  clear H;have H:=H1;clear H1;replace H:=Option.bind_eq_some_iff.mp H;obtain ⟨t189,A70,H⟩:=H;(try dsimp only at H);have A7:=zA A70;clear A70
  by_cases c8 : t189 ≥ 0
  ·
   rw [if_pos c8] at H
   have c8b0 : decide (0 ≤ t189) = true:=decide_eq_true c8
   clear c8;replace H:=Option.bind_eq_some_iff.mp H;obtain ⟨t190,A90,H⟩:=H;(try dsimp only at H);have A9:=zA A90;clear A90;replace H:=Option.bind_eq_some_iff.mp H;obtain ⟨t191,A100,H⟩:=H;(try dsimp only at H);have A10:=zA A100;clear A100
   obtain rfl:=Option.some.inj H
   go_enter Try.func72,Try.ntmps72
   go_wp2_with (first|((with_reducible refine gate_callee (f:=71) rfl ?_);refine goesL_ (some 5) rfl rfl Try.func71 (by kernel_rfl) rfl #[.int .i64 a0] rfl (by (try simp only [zCb,zMb,zNb]);first|done|rfl|(simp only [zLb,zDb];rfl)) ?_;(with_reducible refine (spec_IsVar.calls a0 false _ A2.out).mono ?_);rintro e w' ⟨rfl,⟨nd,rfl⟩⟩;refine ⟨_,rfl,?_⟩)|((with_reducible refine gate_callee (f:=123) rfl ?_);refine goesL_ (some 11) rfl rfl Try.func123 (by kernel_rfl) rfl #[.int .i64 a0] rfl (by (try simp only [zCb,zMb,zNb]);first|done|rfl|(simp only [zLb,zDb];rfl)) ?_;(with_reducible refine (spec_ConstOf.calls a0 t189 _ A7.out).mono ?_);rintro e w' ⟨rfl,⟨nd,rfl⟩⟩;refine ⟨_,rfl,?_⟩)|((with_reducible refine gate_callee (f:=123) rfl ?_);refine goesL_ (some 14) rfl rfl Try.func123 (by kernel_rfl) rfl #[.int .i64 a0] rfl (by (try simp only [zCb,zMb,zNb]);first|done|rfl|(simp only [zLb,zDb];rfl)) ?_;(with_reducible refine (spec_ConstOf.calls a0 t190 _ A9.out).mono ?_);rintro e w' ⟨rfl,⟨nd,rfl⟩⟩;refine ⟨_,rfl,?_⟩)|((with_reducible refine gate_callee (f:=86) rfl ?_);refine goesL_ (some 15) rfl rfl Try.func86 (by kernel_rfl) rfl #[.int .i64 t190] rfl (by (try simp only [zCb,zMb,zNb]);first|done|rfl|(simp only [zLb,zDb];rfl)) ?_;(with_reducible refine (spec_FormatInt.calls k t190 t191 _ A10.out).mono ?_);rintro e w11 ⟨rfl,hb⟩;refine ⟨_,rfl,?_⟩;replace HB:=zA (zJb (zz HB) hb);(try clear hb);(try clear hb2);(try clear hk);(try clear hi)))
   go_ret
   exact ⟨by first|rfl|(simp [errW_none,errW_some] <;> rfl)|(simp [*,errW_none,errW_some] <;> rfl),zz HB⟩
  ·
   rw [if_neg c8] at H
   have c8b0 : decide (0 ≤ t189) = false:=decide_eq_false c8
   clear c8
   obtain rfl:=Option.some.inj H
   go_enter Try.func72,Try.ntmps72
   go_wp2_with (first|((with_reducible refine gate_callee (f:=71) rfl ?_);refine goesL_ (some 5) rfl rfl Try.func71 (by kernel_rfl) rfl #[.int .i64 a0] rfl (by (try simp only [zCb,zMb,zNb]);first|done|rfl|(simp only [zLb,zDb];rfl)) ?_;(with_reducible refine (spec_IsVar.calls a0 false _ A2.out).mono ?_);rintro e w' ⟨rfl,⟨nd,rfl⟩⟩;refine ⟨_,rfl,?_⟩)|((with_reducible refine gate_callee (f:=123) rfl ?_);refine goesL_ (some 11) rfl rfl Try.func123 (by kernel_rfl) rfl #[.int .i64 a0] rfl (by (try simp only [zCb,zMb,zNb]);first|done|rfl|(simp only [zLb,zDb];rfl)) ?_;(with_reducible refine (spec_ConstOf.calls a0 t189 _ A7.out).mono ?_);rintro e w' ⟨rfl,⟨nd,rfl⟩⟩;refine ⟨_,rfl,?_⟩))
   go_ret
   exact ⟨by first|rfl|(simp [errW_none,errW_some] <;> rfl)|(simp [*,errW_none,errW_some] <;> rfl),zz HB⟩

/-! ### spec_l3List: function 87 -/
def spec_l3List.l0 : Nat → List Int → ByteArray → Int → Option (ByteArray)
 | 0, _, _, _ => none
 | k + 1, x0, x3, x4 => if x4 < (x0.length : Int) then (if x4 > 0 then (if x3.size + 1 ≤ 9223372036854775807 then (if 0 ≤ x4 then ((spec_FormatTerm.f k (rd x0 x4)).bind fun t193 => (if (x3 ++ (⟨#[44]⟩ : ByteArray)).size + t193.size ≤ 9223372036854775807 then (spec_l3List.l0 k x0 ((x3 ++ (⟨#[44]⟩ : ByteArray)) ++ t193) (wrap64 (x4 + 1))) else (none))) else (none)) else (none)) else (if 0 ≤ x4 then ((spec_FormatTerm.f k (rd x0 x4)).bind fun t195 => (if x3.size + t195.size ≤ 9223372036854775807 then (spec_l3List.l0 k x0 (x3 ++ t195) (wrap64 (x4 + 1))) else (none))) else (none))) else (some x3)
def spec_l3List.f (k : Nat) (l0 : List Int) : Option (ByteArray) := spec_l3List.l0 k l0 (⟨#[]⟩ : ByteArray) 0
theorem spec_l3List.mono_l : ∀ k, (∀ y0 y1 y2, LeO (spec_l3List.l0 k y0 y1 y2) (spec_l3List.l0 (k + 1) y0 y1 y2))
 | 0 => fun _ _ _ r h => by simp [spec_l3List.l0] at h
 | k + 1 => by
  have ih0:=spec_l3List.mono_l k
  ·
   intro y0 y1 y2
   unfold spec_l3List.l0
   repeat' first
   | (with_reducible exact ih0 _ _ _)
   | (with_reducible exact spec_FormatTerm.mono _ _)
   | (with_reducible exact LeO.refl _)
   | (with_reducible exact LeO.none _)
   | (with_reducible refine LeO.ite ?_ ?_)
   | (with_reducible refine LeO.bind ?_ (fun _ => ?_))
   | exact ih0 _ _ _
   | exact LeO.none _
   | refine LeO.ite ?_ ?_
   | refine LeO.bind ?_ (fun _ => ?_)
theorem spec_l3List.mono : ∀ a0 k, LeO (spec_l3List.f k a0) (spec_l3List.f (k + 1) a0) := by
 intro a0 k
 have ih0:=spec_l3List.mono_l k
 unfold spec_l3List.f
 repeat' first
   | (with_reducible exact ih0 _ _ _)
   | (with_reducible exact spec_FormatTerm.mono _ _)
   | (with_reducible exact LeO.refl _)
   | (with_reducible exact LeO.none _)
   | (with_reducible refine LeO.ite ?_ ?_)
   | (with_reducible refine LeO.bind ?_ (fun _ => ?_))
   | exact ih0 _ _ _
   | exact LeO.none _
   | refine LeO.ite ?_ ?_
   | refine LeO.bind ?_ (fun _ => ?_)
set_option maxHeartbeats 8000000 in
set_option maxRecDepth 100000 in
theorem spec_l3List.calls (k : Nat) (A0 : Option Addr) (c0 : Nat) (l0 : List Int) (r : ByteArray) (w : World) (hr0 : Kd.C (Kd.int .i64) w A0 l0.length l0) (hc0 : l0.length ≤ c0) (h : spec_l3List.f k l0 = some r) :
  Calls Try.prog 87 #[.slice A0 l0.length c0] w fun e w' => e = .returned (.string r) ∧ Below w.heap.size w w' := by
 have HR0:=zA hr0;have HC0:=zA hc0;clear hr0 hc0;have HB:=zA (Below.refl w.heap.size w)
 have H : (spec_l3List.l0 k l0 (⟨#[]⟩ : ByteArray) 0) = some r:=h
 clear h
 have H':=zA H
 clear H
 go_enter Try.func87,Try.ntmps87
 go_wp2
 go_loopg [3,4] k (fun kq v3 v4 w' => ∃ (x3_1 : ByteArray) (x4_1 : Int),v3 = .string x3_1 ∧ v4 = .int .i64 x4_1 ∧ Aside0 (spec_l3List.l0 kq l0 x3_1 x4_1 = some r) ∧ Aside0 (kq ≤ k) ∧ Aside0 (Below w.heap.size w w'))
 case atStart => exact ⟨((⟨#[]⟩ : ByteArray)),(0),za,za,H',⟨Nat.le_refl _⟩,⟨zz HB⟩⟩
 case round =>
  clear H';obtain ⟨x3_1,x4_1,rfl,rfl,HA,HK1,HB⟩:=hrel
  cases gk with
  | zero => exact absurd HA.out (by simp [spec_l3List.l0])
  | succ k1 =>
   have H:=HA.out;clear HA;simp only [spec_l3List.l0] at H
   by_cases c2 : x4_1 < (l0.length : Int)
   ·
    rw [if_pos c2] at H;have c2b0:=decide_eq_true c2;clear c2
    by_cases c3 : x4_1 > 0
    ·
     rw [if_pos c3] at H
     have c3b0 : decide (0 < x4_1) = true:=decide_eq_true c3
     clear c3
     by_cases c4 : x3_1.size + 1 ≤ 9223372036854775807
     ·
      rw [if_pos c4] at H;have c4b0:=eq_true c4;have c4b1:=decide_eq_true c4
      try have c4b2 : (9223372036854775807 < x3_1.size + 1) = False:=eq_false (Nat.not_lt.2 c4)
      by_cases c5 : 0 ≤ x4_1
      ·
       rw [if_pos c5] at H;have c5b0:=decide_eq_true c5;clear c5;replace H:=Option.bind_eq_some_iff.mp H;obtain ⟨t193,A60,H⟩:=H;(try dsimp only at H);have A6:=zA A60;clear A60
       by_cases c7 : (x3_1 ++ (⟨#[44]⟩ : ByteArray)).size + t193.size ≤ 9223372036854775807
       ·
        rw [if_pos c7] at H;have c7b0:=eq_true c7;have c7b1:=decide_eq_true c7
        try have c7b2 : (9223372036854775807 < (x3_1 ++ (⟨#[44]⟩ : ByteArray)).size + t193.size) = False:=eq_false (Nat.not_lt.2 c7)
        try have c7z0 : (9223372036854775807 < x3_1.size + 1 + t193.size) = False:=eq_false (by have h_:=c7;have e0_ : (⟨#[44]⟩ : ByteArray).size = 1:=rfl;simp only [ByteArray.size_append] at h_;omega)
        try have c7z1 : (x3_1.size + 1 + t193.size ≤ 9223372036854775807) = True:=eq_true (by have h_:=c7;have e0_ : (⟨#[44]⟩ : ByteArray).size = 1:=rfl;simp only [ByteArray.size_append] at h_;omega)
        have H':=zA H
        clear H;have p192 : 0 ≤ (x4_1 : Int):=zXb ze;have q192 : x4_1 < (l0.length : Int):=zXb ze;obtain ⟨ad192,e192,hx192_0⟩:=Kd.at_int HR0.out x4_1 p192 q192
        cases e192
        replace hx192_0:=(HB.out.cell (World.block_lt_of_cell? w _ hx192_0)).trans hx192_0;replace p192:=eq_true p192;replace q192:=eq_true q192
        go_wp2_with (first|((with_reducible refine gate_callee (f:=72) rfl ?_);refine goesL_ (some 20) rfl rfl Try.func72 (by kernel_rfl) rfl #[.int .i64 (rd l0 x4_1)] rfl (by (try simp only [zCb,zMb,zNb]);first|done|rfl|(simp only [zLb,zDb];rfl)) ?_;(with_reducible refine (spec_FormatTerm.calls k1 (rd l0 x4_1) t193 _ A6.out).mono ?_);rintro e w8 ⟨rfl,hb⟩;refine ⟨_,rfl,?_⟩;replace HB:=zA (zJb (zz HB) hb);(try clear hb);(try clear hb2);(try clear hk);(try clear hi)))
        go_roundg k1
        case measure => have:=HK1.out;omega
        case rel => exact ⟨((x3_1 ++ (⟨#[44]⟩ : ByteArray)) ++ t193),(wrap64 (x4_1 + 1)),za,za,H',⟨by have:=HK1.out;omega⟩,⟨zz HB⟩⟩
       ·
        rw [if_neg c7] at H
        exact absurd H (by simp)
      ·
       rw [if_neg c5] at H
       exact absurd H (by simp)
     ·
      rw [if_neg c4] at H
      exact absurd H (by simp)
    ·
     rw [if_neg c3] at H
     have c3b0 : decide (0 < x4_1) = false:=decide_eq_false c3
     clear c3
     by_cases c9 : 0 ≤ x4_1
     ·
      rw [if_pos c9] at H;have c9b0:=decide_eq_true c9;clear c9;replace H:=Option.bind_eq_some_iff.mp H;obtain ⟨t195,A100,H⟩:=H;(try dsimp only at H);have A10:=zA A100;clear A100
      by_cases c11 : x3_1.size + t195.size ≤ 9223372036854775807
      ·
       rw [if_pos c11] at H;have c11b0:=eq_true c11;have c11b1:=decide_eq_true c11
       try have c11b2 : (9223372036854775807 < x3_1.size + t195.size) = False:=eq_false (Nat.not_lt.2 c11)
       have H':=zA H
       clear H;have p194 : 0 ≤ (x4_1 : Int):=zXb ze;have q194 : x4_1 < (l0.length : Int):=zXb ze;obtain ⟨ad194,e194,hx194_0⟩:=Kd.at_int HR0.out x4_1 p194 q194
       cases e194
       replace hx194_0:=(HB.out.cell (World.block_lt_of_cell? w _ hx194_0)).trans hx194_0;replace p194:=eq_true p194;replace q194:=eq_true q194
       go_wp2_with (first|((with_reducible refine gate_callee (f:=72) rfl ?_);refine goesL_ (some 20) rfl rfl Try.func72 (by kernel_rfl) rfl #[.int .i64 (rd l0 x4_1)] rfl (by (try simp only [zCb,zMb,zNb]);first|done|rfl|(simp only [zLb,zDb];rfl)) ?_;(with_reducible refine (spec_FormatTerm.calls k1 (rd l0 x4_1) t195 _ A10.out).mono ?_);rintro e w12 ⟨rfl,hb⟩;refine ⟨_,rfl,?_⟩;replace HB:=zA (zJb (zz HB) hb);(try clear hb);(try clear hb2);(try clear hk);(try clear hi)))
       go_roundg k1
       case measure => have:=HK1.out;omega
       case rel => exact ⟨(x3_1 ++ t195),(wrap64 (x4_1 + 1)),za,za,H',⟨by have:=HK1.out;omega⟩,⟨zz HB⟩⟩
      ·
       rw [if_neg c11] at H
       exact absurd H (by simp)
     ·
      rw [if_neg c9] at H
      exact absurd H (by simp)
   ·
    rw [if_neg c2] at H;have c2b0:=decide_eq_false c2;clear c2
    obtain rfl:=Option.some.inj H
    go_wp2
    go_ret
    exact ⟨by first|rfl|(simp [errW_none,errW_some] <;> rfl)|(simp [*,errW_none,errW_some] <;> rfl),zz HB⟩

/-! ### spec_FormatAtom: function 27 -/
def spec_FormatAtom.j0 : Nat → Bool → Int → List Int → Option (ByteArray)
 | 0, _, _, _ => none
 | k + 1, x12, x197000, x197001 => if x12 = true then (some (⟨#[]⟩ : ByteArray)) else ((spec_FormatInt.f k x197000).bind fun t199 => (if 1 + t199.size ≤ 9223372036854775807 then (if ((⟨#[114]⟩ : ByteArray) ++ t199).size + 1 ≤ 9223372036854775807 then ((spec_l3List.f k x197001).bind fun t200 => (if (((⟨#[114]⟩ : ByteArray) ++ t199) ++ (⟨#[40]⟩ : ByteArray)).size + t200.size ≤ 9223372036854775807 then (if ((((⟨#[114]⟩ : ByteArray) ++ t199) ++ (⟨#[40]⟩ : ByteArray)) ++ t200).size + 1 ≤ 9223372036854775807 then (some (((((⟨#[114]⟩ : ByteArray) ++ t199) ++ (⟨#[40]⟩ : ByteArray)) ++ t200) ++ (⟨#[41]⟩ : ByteArray))) else (none)) else (none))) else (none)) else (none)))
def spec_FormatAtom.f (k : Nat) (a0_0 : Int) (l0_1 : List Int) : Option (ByteArray) := (spec_l1In.f a0_0 0 3).bind fun t197 => (if t197 = true then ((spec_l3Terms.f k l0_1).bind fun t198 => (spec_FormatAtom.j0 k (!t198) a0_0 l0_1)) else (spec_FormatAtom.j0 k true a0_0 l0_1))
theorem spec_FormatAtom.mono_l : ∀ k, (∀ y0 y1 y2, LeO (spec_FormatAtom.j0 k y0 y1 y2) (spec_FormatAtom.j0 (k + 1) y0 y1 y2))
 | 0 => fun _ _ _ r h => by simp [spec_FormatAtom.j0] at h
 | k + 1 => by
  have ih0:=spec_FormatAtom.mono_l k
  ·
   intro y0 y1 y2
   unfold spec_FormatAtom.j0
   repeat' first
   | (with_reducible exact ih0 _ _ _)
   | (with_reducible exact spec_FormatInt.mono _ _)
   | (with_reducible exact spec_l3List.mono _ _)
   | (with_reducible exact spec_l3Terms.mono _ _)
   | (with_reducible exact LeO.refl _)
   | (with_reducible exact LeO.none _)
   | (with_reducible refine LeO.ite ?_ ?_)
   | (with_reducible refine LeO.bind ?_ (fun _ => ?_))
   | exact ih0 _ _ _
   | exact LeO.none _
   | refine LeO.ite ?_ ?_
   | refine LeO.bind ?_ (fun _ => ?_)
theorem spec_FormatAtom.mono : ∀ a0 a1 k, LeO (spec_FormatAtom.f k a0 a1) (spec_FormatAtom.f (k + 1) a0 a1) := by
 intro a0 a1 k
 have ih0:=spec_FormatAtom.mono_l k
 unfold spec_FormatAtom.f
 repeat' first
   | (with_reducible exact ih0 _ _ _)
   | (with_reducible exact spec_FormatInt.mono _ _)
   | (with_reducible exact spec_l3List.mono _ _)
   | (with_reducible exact spec_l3Terms.mono _ _)
   | (with_reducible exact LeO.refl _)
   | (with_reducible exact LeO.none _)
   | (with_reducible refine LeO.ite ?_ ?_)
   | (with_reducible refine LeO.bind ?_ (fun _ => ?_))
   | exact ih0 _ _ _
   | exact LeO.none _
   | refine LeO.ite ?_ ?_
   | refine LeO.bind ?_ (fun _ => ?_)
def spec_FormatAtom.T3 : Bool × List (List Nat × List Nat) := (true, [([], []), ([0], [0]), ([1], [1]), ([2], [2]), ([3], [3]), ([], []), ([5], [5]), ([6, 2], [6]), ([4, 7], [4, 7]), ([8], [8]), ([9, 7, 0, 1, 2, 3, 4, 5, 6, 7, 8, 9], [9])])
def spec_FormatAtom.B3 : List Nat := [0, 1, 3, 7, 15, 0, 32, 103, 255, 511, 1023]
theorem spec_FormatAtom.tab3 : rtab .any (opsOf Try.f27 3) = spec_FormatAtom.T3 := by kernel_rfl
theorem spec_FormatAtom.bits3 : waitsOk spec_FormatAtom.T3.2 spec_FormatAtom.B3 = true := by kernel_rfl
set_option maxHeartbeats 8000000 in
set_option maxRecDepth 100000 in
theorem spec_FormatAtom.calls (k : Nat) (a0_0 : Int) (A0_1 : Option Addr) (c0_1 : Nat) (l0_1 : List Int) (r : ByteArray) (w : World) (hr0_1 : Kd.C (Kd.int .i64) w A0_1 l0_1.length l0_1) (hc0_1 : l0_1.length ≤ c0_1) (h : spec_FormatAtom.f k a0_0 l0_1 = some r) :
  Calls Try.prog 27 #[.agg #[.int .i64 a0_0, .slice A0_1 l0_1.length c0_1]] w fun e w' => e = .returned (.string r) ∧ Below w.heap.size w w' := by
 have hu38:=Try.underlying38;have HR0_1:=zA hr0_1;have HC0_1:=zA hc0_1;clear hr0_1 hc0_1;have HB:=zA (Below.refl w.heap.size w)
 have H : ((spec_l1In.f a0_0 0 3).bind fun t197 => (if t197 = true then ((spec_l3Terms.f k l0_1).bind fun t198 => (spec_FormatAtom.j0 k (!t198) a0_0 l0_1)) else (spec_FormatAtom.j0 k true a0_0 l0_1))) = some r:=h
 clear h;have HC2:=zA H;clear H
 go_enter Try.func27,Try.ntmps27
 go_upto_region 1 with (first|((with_reducible refine gate_dst (N:=1) rfl ?_);refine box_event ?hg (N:=1) ?hd (cs:=#[.int .i64 a0_0,.slice A0_1 l0_1.length c0_1]) (t:=38) ?hr ?_;(case hd => rfl);(case hg => rfl);(case hr => first|(go_simp;done)|(go_simp;rfl));intro gb196 hg w3 hbox hb;have BK196:=zA (hbox);have GW196:=zA ((by rw [hg];exact (zT (zz HB)) : w.heap.size ≤ gb196));have GE196:=zA ((by rw [hg];exact (zT (zz HB)) : w.heap.size ≤ gb196));replace HB:=zA (zJb (zz HB) hb);clear hb hbox hg))
 (try simp only [Act.put,zO,zEb,zFb])
 go_cut [12] (fun v12 wc => ∃ (kq : Nat) (x12_1 : Bool),v12 = .bool x12_1 ∧ Aside0 (spec_FormatAtom.j0 kq x12_1 a0_0 l0_1 = some r) ∧ Aside0 (kq ≤ k) ∧ Aside0 (wc.heap[gb196]? = some (.cells #[.int .i64 a0_0,(.slice A0_1 l0_1.length c0_1)] 38 (0,0))) ∧ Aside0 (Below w.heap.size w wc))
 case first =>
  have H:=HC2.out;clear HC2;replace H:=Option.bind_eq_some_iff.mp H;obtain ⟨t197,A40,H⟩:=H;(try dsimp only at H);have A4:=zA A40;clear A40
  by_cases c5 : t197 = true
  ·
   subst c5
   rw [if_pos rfl] at H;replace H:=Option.bind_eq_some_iff.mp H;obtain ⟨t198,A60,H⟩:=H;(try dsimp only at H);have A6:=zA A60;clear A60
   have H':=zA H
   clear H;have hcz7_0:=zc (.int .i64 a0_0) BK196 0 rfl;have hcz7_1:=zc (.slice A0_1 l0_1.length c0_1) BK196 1 rfl;have hfz7_0:=blk_frozen BK196.out 0;have hfz7_1:=blk_frozen BK196.out 1
   go_wp2_with (first|((with_reducible refine gate_callee (f:=84) rfl ?_);refine goesL_ (some 5) rfl rfl Try.func84 (by kernel_rfl) rfl #[.int .i64 a0_0,.int .i64 0,.int .i64 3] rfl (by (try simp only [zCb,zMb,zNb]);first|done|rfl|(simp only [zLb,zDb];rfl)) ?_;(with_reducible refine (spec_l1In.calls a0_0 0 3 true _ A4.out).mono ?_);rintro e w' ⟨rfl,⟨nd,rfl⟩⟩;refine ⟨_,rfl,?_⟩)|(go_at_call 85;(with_reducible refine (spec_l3Terms.calls k _ _ l0_1 t198 _ ?side1 ?side2 A6.out).mono ?_);(case side1 => repeat (first|exact (zKb HR0_1.out (zz HB))|(with_reducible refine zBb ?_ _)|(with_reducible refine zAb ?_ _)|(with_reducible refine zX ?_)));(case side2 => exact HC0_1.out);rintro e w' ⟨rfl,⟨nd,rfl⟩⟩))
   go_meet
   case rel => exact ⟨_,(!t198),za,H',⟨by first|omega|exact Nat.le_refl _⟩,⟨zx BK196⟩,⟨zz HB⟩⟩
  ·
   replace c5:=Bool.eq_false_iff.mpr c5
   subst c5
   have H1 : (spec_FormatAtom.j0 k true a0_0 l0_1) = some r:=by rw [if_neg (show ¬ (false = true) by decide)] at H;exact H
   clear H;have H:=H1;clear H1
   have H':=zA H
   clear H;have hcz8_0:=zc (.int .i64 a0_0) BK196 0 rfl;have hcz8_1:=zc (.slice A0_1 l0_1.length c0_1) BK196 1 rfl;have hfz8_0:=blk_frozen BK196.out 0;have hfz8_1:=blk_frozen BK196.out 1
   go_wp2_with (first|((with_reducible refine gate_callee (f:=84) rfl ?_);refine goesL_ (some 5) rfl rfl Try.func84 (by kernel_rfl) rfl #[.int .i64 a0_0,.int .i64 0,.int .i64 3] rfl (by (try simp only [zCb,zMb,zNb]);first|done|rfl|(simp only [zLb,zDb];rfl)) ?_;(with_reducible refine (spec_l1In.calls a0_0 0 3 false _ A4.out).mono ?_);rintro e w' ⟨rfl,⟨nd,rfl⟩⟩;refine ⟨_,rfl,?_⟩))
   go_meet
   case rel => exact ⟨_,(true),za,H',⟨by first|omega|exact Nat.le_refl _⟩,⟨zx BK196⟩,⟨zz HB⟩⟩
 case rest =>
  clear HC2;(try clear c2);(try clear p2);(try clear c5);(try clear c8);(try clear hcz7_0);(try clear hcz7_1);(try clear hcz8_0);(try clear hcz8_1);(try clear hfz7_0);(try clear hfz7_1);(try clear hfz8_0);(try clear hfz8_1);obtain ⟨kq,x12_1,rfl,HA,HJ1,BK196,HB⟩:=hcut
  cases kq with
  | zero => exact absurd HA.out (by simp [spec_FormatAtom.j0])
  | succ kj1 =>
   have H:=HA.out;clear HA;simp only [spec_FormatAtom.j0] at H
   by_cases c9 : x12_1 = true
   ·
    subst c9
    rw [if_pos rfl] at H
    obtain rfl:=Option.some.inj H
    go_wp2
    go_ret
    exact ⟨by first|rfl|(simp [errW_none,errW_some] <;> rfl)|(simp [*,errW_none,errW_some] <;> rfl),zz HB⟩
   ·
    replace c9:=Bool.eq_false_iff.mpr c9
    subst c9
    have H1 : ((spec_FormatInt.f kj1 a0_0).bind fun t199 => (if 1 + t199.size ≤ 9223372036854775807 then (if ((⟨#[114]⟩ : ByteArray) ++ t199).size + 1 ≤ 9223372036854775807 then ((spec_l3List.f kj1 l0_1).bind fun t200 => (if (((⟨#[114]⟩ : ByteArray) ++ t199) ++ (⟨#[40]⟩ : ByteArray)).size + t200.size ≤ 9223372036854775807 then (if ((((⟨#[114]⟩ : ByteArray) ++ t199) ++ (⟨#[40]⟩ : ByteArray)) ++ t200).size + 1 ≤ 9223372036854775807 then (some (((((⟨#[114]⟩ : ByteArray) ++ t199) ++ (⟨#[40]⟩ : ByteArray)) ++ t200) ++ (⟨#[41]⟩ : ByteArray))) else (none)) else (none))) else (none)) else (none))) = some r:=by rw [if_neg (show ¬ (false = true) by decide)] at H;exact H
    clear H;have H:=H1;clear H1;replace H:=Option.bind_eq_some_iff.mp H;obtain ⟨t199,A100,H⟩:=H;(try dsimp only at H);have A10:=zA A100;clear A100
    by_cases c11 : 1 + t199.size ≤ 9223372036854775807
    ·
     rw [if_pos c11] at H;have c11b0:=eq_true c11;have c11b1:=decide_eq_true c11
     try have c11b2 : (9223372036854775807 < 1 + t199.size) = False:=eq_false (Nat.not_lt.2 c11)
     by_cases c12 : ((⟨#[114]⟩ : ByteArray) ++ t199).size + 1 ≤ 9223372036854775807
     ·
      rw [if_pos c12] at H;have c12b0:=eq_true c12;have c12b1:=decide_eq_true c12
      try have c12b2 : (9223372036854775807 < ((⟨#[114]⟩ : ByteArray) ++ t199).size + 1) = False:=eq_false (Nat.not_lt.2 c12)
      try have c12z0 : (9223372036854775807 < 1 + t199.size + 1) = False:=eq_false (by have h_:=c12;have e0_ : (⟨#[114]⟩ : ByteArray).size = 1:=rfl;simp only [ByteArray.size_append] at h_;omega)
      try have c12z1 : (1 + t199.size + 1 ≤ 9223372036854775807) = True:=eq_true (by have h_:=c12;have e0_ : (⟨#[114]⟩ : ByteArray).size = 1:=rfl;simp only [ByteArray.size_append] at h_;omega)
      replace H:=Option.bind_eq_some_iff.mp H;obtain ⟨t200,A130,H⟩:=H;(try dsimp only at H);have A13:=zA A130;clear A130
      by_cases c14 : (((⟨#[114]⟩ : ByteArray) ++ t199) ++ (⟨#[40]⟩ : ByteArray)).size + t200.size ≤ 9223372036854775807
      ·
       rw [if_pos c14] at H;have c14b0:=eq_true c14;have c14b1:=decide_eq_true c14
       try have c14b2 : (9223372036854775807 < (((⟨#[114]⟩ : ByteArray) ++ t199) ++ (⟨#[40]⟩ : ByteArray)).size + t200.size) = False:=eq_false (Nat.not_lt.2 c14)
       try have c14z0 : (9223372036854775807 < 1 + t199.size + 1 + t200.size) = False:=eq_false (by have h_:=c14;have e0_ : (⟨#[114]⟩ : ByteArray).size = 1:=rfl;have e1_ : (⟨#[40]⟩ : ByteArray).size = 1:=rfl;simp only [ByteArray.size_append] at h_;omega)
       try have c14z1 : (1 + t199.size + 1 + t200.size ≤ 9223372036854775807) = True:=eq_true (by have h_:=c14;have e0_ : (⟨#[114]⟩ : ByteArray).size = 1:=rfl;have e1_ : (⟨#[40]⟩ : ByteArray).size = 1:=rfl;simp only [ByteArray.size_append] at h_;omega)
       by_cases c15 : ((((⟨#[114]⟩ : ByteArray) ++ t199) ++ (⟨#[40]⟩ : ByteArray)) ++ t200).size + 1 ≤ 9223372036854775807
       ·
        rw [if_pos c15] at H;have c15b0:=eq_true c15;have c15b1:=decide_eq_true c15
        try have c15b2 : (9223372036854775807 < ((((⟨#[114]⟩ : ByteArray) ++ t199) ++ (⟨#[40]⟩ : ByteArray)) ++ t200).size + 1) = False:=eq_false (Nat.not_lt.2 c15)
        try have c15z0 : (9223372036854775807 < 1 + t199.size + 1 + t200.size + 1) = False:=eq_false (by have h_:=c15;have e0_ : (⟨#[114]⟩ : ByteArray).size = 1:=rfl;have e1_ : (⟨#[40]⟩ : ByteArray).size = 1:=rfl;simp only [ByteArray.size_append] at h_;omega)
        try have c15z1 : (1 + t199.size + 1 + t200.size + 1 ≤ 9223372036854775807) = True:=eq_true (by have h_:=c15;have e0_ : (⟨#[114]⟩ : ByteArray).size = 1:=rfl;have e1_ : (⟨#[40]⟩ : ByteArray).size = 1:=rfl;simp only [ByteArray.size_append] at h_;omega)
        obtain rfl:=Option.some.inj H
        try go_wp2
        have n0_:=zA (zI BK196.out);have n1_:=zA (zJ HB.out);clear BK196;clear HB;have BK196:=n0_;have HB:=n1_;clear n0_ n1_
        refine start_ (n:=11) (S:=fun w' => w'.cell? ⟨gb196,0,none⟩ = some (.int .i64 a0_0) ∧ w'.cell? ⟨gb196,1,none⟩ = some (.slice A0_1 l0_1.length c0_1)) (ds:=[]) #[false,false,false,false,false,false,false,false,false,false,false] (by kernel_rfl) rfl rfl ⟨(zP BK196.out 0).trans rfl,(zP BK196.out 1).trans rfl⟩ (fun hHeld => ?_);refine with_tabW spec_FormatAtom.tab3 spec_FormatAtom.bits3 (fun HT_ HW_ => ?_)
        generalize wc.drew = w16 at BK196 HB hHeld ⊢
        refine pure_ (i:=0) (N:=some 13) (v:=?_) (a':=?_) #[true,false,false,false,false,false,false,false,false,false,false] rfl rfl (any_of HT_.out (by kernel_rfl)) (fun _ _ _ h => h) (Or.inl ⟨by rfl,?_⟩) ?_ ?_
        rotate_left
        ·
         intro w'
         go_simp
         with_reducible rfl
        rotate_left
        ·
         simp only [Act.put,zO,zEb,zFb,i64_w,i32_w]
         rfl
        refine pure_ (i:=5) (N:=some 18) (v:=?_) (a':=?_) #[true,false,false,false,false,true,false,false,false,false,false] rfl rfl (any_of HT_.out (by kernel_rfl)) (fun _ _ _ h => h) (Or.inl ⟨by rfl,?_⟩) ?_ ?_
        rotate_left
        ·
         intro w'
         go_simp
         with_reducible rfl
        rotate_left
        ·
         simp only [Act.put,zO,zEb,zFb,i64_w,i32_w]
         rfl
        refine take_ (i:=1) (N:=some 14) (v:=?_) (a':=?_) #[true,true,false,false,false,true,false,false,false,false,false] rfl rfl (take_ofW HT_.out HW_.out (by kernel_rfl)) (fun _ _ _ h => h) (Or.inl ⟨by rfl,?_⟩) hHeld ?_ ?_
        rotate_left
        ·
         rintro w' ⟨s0,s1⟩
         go_simp
         with_reducible rfl
        rotate_left
        ·
         simp only [Act.put,zO,zEb,zFb,i64_w,i32_w]
         rfl
        refine take_ (i:=6) (N:=some 19) (v:=?_) (a':=?_) #[true,true,false,false,false,true,true,false,false,false,false] rfl rfl (take_ofW HT_.out HW_.out (by kernel_rfl)) (fun _ _ _ h => h) (Or.inl ⟨by rfl,?_⟩) hHeld ?_ ?_
        rotate_left
        ·
         rintro w' ⟨s0,s1⟩
         go_simp
         with_reducible rfl
        rotate_left
        ·
         simp only [Act.put,zO,zEb,zFb,i64_w,i32_w]
         rfl
        refine one_ (i:=2) (N:=some 15) #[true,true,true,false,false,true,true,false,false,false,false] rfl rfl (one_of HT_.out (by kernel_rfl)) (by decide) (fun K hK => ?_)
        refine goes_ Try.func86 (by kernel_rfl) rfl #[.int .i64 a0_0] (by rfl) rfl rfl (by (try simp only [zCb,zMb,zNb]);first|done|rfl|(simp only [zLb,zDb];rfl)) ?_
        with_reducible refine (spec_FormatInt.calls kj1 a0_0 t199 _ A10.out).mono ?_
        rintro e w17 ⟨rfl,hb⟩
        refine ⟨_,rfl,?_⟩
        have n0_:=zA (zQ (g:=gb196) (o:=.cells #[.int .i64 a0_0,.slice A0_1 l0_1.length c0_1] 38 (0,0)) (zx BK196) hb);have n1_:=zA (zJb (zz HB) hb);clear BK196;clear HB;have BK196:=n0_;have HB:=n1_;clear n0_ n1_;(try clear hb);(try clear hb2);(try clear hk);(try clear hi)
        refine hK.out _ _ ⟨(zP BK196.out 0).trans rfl,(zP BK196.out 1).trans rfl⟩ (fun hHeld => ?_)
        clear hK K
        refine norm_ (a':=?_) ?_ ?_
        rotate_left
        ·
         show Act.put _ (some 15) _ = _
         simp only [Act.put,zO,zEb,zFb,i64_w,i32_w]
         rfl
        refine pure_ (i:=3) (N:=some 16) (v:=?_) (a':=?_) #[true,true,true,true,false,true,true,false,false,false,false] rfl rfl (any_of HT_.out (by kernel_rfl)) (fun _ _ _ h => h) (Or.inl ⟨by rfl,?_⟩) ?_ ?_
        rotate_left
        ·
         intro w'
         go_simp
         with_reducible rfl
        rotate_left
        ·
         simp only [Act.put,zO,zEb,zFb,i64_w,i32_w]
         rfl
        refine pure_ (i:=4) (N:=some 17) (v:=?_) (a':=?_) #[true,true,true,true,true,true,true,false,false,false,false] rfl rfl (any_of HT_.out (by kernel_rfl)) (fun _ _ _ h => h) (Or.inl ⟨by rfl,?_⟩) ?_ ?_
        rotate_left
        ·
         intro w'
         go_simp
         with_reducible rfl
        rotate_left
        ·
         simp only [Act.put,zO,zEb,zFb,i64_w,i32_w]
         rfl
        refine one_ (i:=7) (N:=some 20) #[true,true,true,true,true,true,true,true,false,false,false] rfl rfl (one_of HT_.out (by kernel_rfl)) (by decide) (fun K hK => ?_)
        refine goes_ Try.func87 (by kernel_rfl) rfl #[.slice A0_1 l0_1.length c0_1] (by rfl) rfl rfl (by (try simp only [zCb,zMb,zNb]);first|done|rfl|(simp only [zLb,zDb];rfl)) ?_
        with_reducible refine (spec_l3List.calls kj1 _ _ l0_1 t200 _ ?side1 ?side2 A13.out).mono ?_
        (case side1 => repeat (first|exact (zKb HR0_1.out HB.out)|(with_reducible refine zBb ?_ _)|(with_reducible refine zAb ?_ _)|(with_reducible refine zX ?_)))
        (case side2 => exact HC0_1.out)
        rintro e w18 ⟨rfl,hb⟩
        refine ⟨_,rfl,?_⟩
        have n0_:=zA (zQ (g:=gb196) (o:=.cells #[.int .i64 a0_0,.slice A0_1 l0_1.length c0_1] 38 (0,0)) (zx BK196) hb);have n1_:=zA (zJb (zz HB) hb);clear BK196;clear HB;have BK196:=n0_;have HB:=n1_;clear n0_ n1_;(try clear hb);(try clear hb2);(try clear hk);(try clear hi)
        refine hK.out _ _ ⟨(zP BK196.out 0).trans rfl,(zP BK196.out 1).trans rfl⟩ (fun hHeld => ?_)
        clear hK K
        refine norm_ (a':=?_) ?_ ?_
        rotate_left
        ·
         show Act.put _ (some 20) _ = _
         simp only [Act.put,zO,zEb,zFb,i64_w,i32_w]
         rfl
        refine pure_ (i:=8) (N:=some 21) (v:=?_) (a':=?_) #[true,true,true,true,true,true,true,true,true,false,false] rfl rfl (any_of HT_.out (by kernel_rfl)) (fun _ _ _ h => h) (Or.inl ⟨by rfl,?_⟩) ?_ ?_
        rotate_left
        ·
         intro w'
         go_simp
         with_reducible rfl
        rotate_left
        ·
         simp only [Act.put,zO,zEb,zFb,i64_w,i32_w]
         rfl
        refine pure_ (i:=9) (N:=some 22) (v:=?_) (a':=?_) #[true,true,true,true,true,true,true,true,true,true,false] rfl rfl (any_of HT_.out (by kernel_rfl)) (fun _ _ _ h => h) (Or.inl ⟨by rfl,?_⟩) ?_ ?_
        rotate_left
        ·
         intro w'
         go_simp
         with_reducible rfl
        rotate_left
        ·
         simp only [Act.put,zO,zEb,zFb,i64_w,i32_w]
         rfl
        refine pure_ (i:=10) (N:=some 2) (v:=?_) (a':=?_) #[true,true,true,true,true,true,true,true,true,true,true] rfl rfl (any_of HT_.out (by kernel_rfl)) (fun _ _ _ h => h) (Or.inl ⟨by rfl,?_⟩) ?_ ?_
        rotate_left
        ·
         intro w'
         go_simp
         with_reducible rfl
        rotate_left
        ·
         simp only [Act.put,zO,zEb,zFb,i64_w,i32_w]
         rfl
        refine done_ (done_of HT_.out (by kernel_rfl)) ?_
        try go_wp2
        go_ret
        exact ⟨by first|rfl|(simp [errW_none,errW_some] <;> rfl)|(simp [*,errW_none,errW_some] <;> rfl),zz HB⟩
       ·
        rw [if_neg c15] at H
        exact absurd H (by simp)
      ·
       rw [if_neg c14] at H
       exact absurd H (by simp)
     ·
      rw [if_neg c12] at H
      exact absurd H (by simp)
    ·
     rw [if_neg c11] at H
     exact absurd H (by simp)

end Go.Proofs.Ytpfpappamlgnoaa.QFnExactParseQuery
