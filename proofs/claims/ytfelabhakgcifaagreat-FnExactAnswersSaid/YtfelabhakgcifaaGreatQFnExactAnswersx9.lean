/- Walks through the Go functions that FnExactAnswers reaches: each call returns what the Lean function beside it says, within the bounds that the theorem names. -/
import Derived.Test.YtfelabhakgcifaaGreatQFnExactAnswersx0
import Derived.Test.YtfelabhakgcifaaGreatQFnExactAnswersx1
namespace Go.Proofs.YtfelabhakgcifaaGreat.QFnExactAnswers
open Go.RowKit Go.Proofs.YtfelabhakgcifaaGreatW.PrintWords Go.Proofs.YtfelabhakgcifaaGreatW.PrintLast Go.Proofs.YtfelabhakgcifaaGreatW.PrintMore
attribute [local go_sem] max2_int min2_int max_two min_two max_three min_three max_four min_four   -- for this text's walks alone
set_option linter.unusedVariables false
set_option linter.unusedSimpArgs false


/-! ### spec_l5Less: function 73 -/
def spec_l5Less.f (k : Nat) (a0_0 : Int) (l0_1 : List Int) (a1_0 : Int) (l1_1 : List Int) : Option (Bool) := if a0_0 = a1_0 then ((spec_l2Less.f k l0_1 l1_1).bind fun t228 => (some t228)) else (some (decide (a0_0 < a1_0)))
set_option maxHeartbeats 8000000 in
set_option maxRecDepth 100000 in
theorem spec_l5Less.calls (k : Nat) (a0_0 : Int) (A0_1 : Option Addr) (c0_1 : Nat) (l0_1 : List Int) (a1_0 : Int) (A1_1 : Option Addr) (c1_1 : Nat) (l1_1 : List Int) (r : Bool) (w : World) (hr0_1 : Kd.C (Kd.int .i64) w A0_1 l0_1.length l0_1) (hc0_1 : l0_1.length ≤ c0_1) (hr1_1 : Kd.C (Kd.int .i64) w A1_1 l1_1.length l1_1) (hc1_1 : l1_1.length ≤ c1_1) (h : spec_l5Less.f k a0_0 l0_1 a1_0 l1_1 = some r) :
  Calls Tryz.prog 73 #[.agg #[.int .i64 a0_0, .slice A0_1 l0_1.length c0_1], .agg #[.int .i64 a1_0, .slice A1_1 l1_1.length c1_1]] w fun e w' => e = .returned (.bool r) ∧ Below w.heap.size w w' := by
 have hu64:=Tryz.underlying64;have HR0_1:=zA hr0_1;have HC0_1:=zA hc0_1;clear hr0_1 hc0_1;have HR1_1:=zA hr1_1;have HC1_1:=zA hc1_1;clear hr1_1 hc1_1;have HB:=zA (Below.refl w.heap.size w)
 have H : (if a0_0 = a1_0 then ((spec_l2Less.f k l0_1 l1_1).bind fun t228 => (some t228)) else (some (decide (a0_0 < a1_0)))) = some r:=h
 clear h
 by_cases c3 : a0_0 = a1_0
 ·
  rw [if_pos c3] at H;have c3b0:=beq_iff_eq.mpr c3;have c3b1:=bne_eq_false_iff_eq.mpr c3;clear c3;replace H:=Option.bind_eq_some_iff.mp H;obtain ⟨t228,A40,H⟩:=H;(try dsimp only at H);have A4:=zA A40;clear A40
  obtain rfl:=Option.some.inj H
  go_enter Tryz.func73,Tryz.ntmps73
  go_wp2_with (first|((with_reducible refine gate_dst (N:=2) rfl ?_);refine box_event ?hg (N:=2) ?hd (cs:=#[.int .i64 a0_0,.slice A0_1 l0_1.length c0_1]) (t:=64) ?hr ?_;(case hd => rfl);(case hg => rfl);(case hr => first|(go_simp;done)|(go_simp;rfl));intro gb226 hg w5 hbox hb;have BK226:=zA (hbox);have GW226:=zA ((by rw [hg];exact (zT (zz HB)) : w.heap.size ≤ gb226));have GE226:=zA ((by rw [hg];exact (zT (zz HB)) : w.heap.size ≤ gb226));replace HB:=zA (zJb (zz HB) hb);clear hb hbox hg)|((with_reducible refine gate_dst (N:=3) rfl ?_);refine box_event ?hg (N:=3) ?hd (cs:=#[.int .i64 a1_0,.slice A1_1 l1_1.length c1_1]) (t:=64) ?hr ?_;(case hd => rfl);(case hg => rfl);(case hr => first|(go_simp;done)|(go_simp;rfl));intro gb227 hg w6 hbox hb;have BK227:=zA (hbox);have GW227:=zA ((by rw [hg];exact (zT (zz HB)) : w.heap.size ≤ gb227));have GE227:=zA ((by rw [hg];exact (zT (zz HB)) : w.heap.size ≤ gb227));replace HB:=zA (zJb (zz HB) hb);have NB226_227:=zA ((by rw [hg];exact Nat.ne_of_lt (blk_lt (g:=gb226) (o:=.cells #[.int .i64 a0_0,.slice A0_1 l0_1.length c0_1] 64 (0,0)) (zx BK226)) : gb226 ≠ gb227));have NB227_226:=zA ((by rw [hg];exact Nat.ne_of_gt (blk_lt (g:=gb226) (o:=.cells #[.int .i64 a0_0,.slice A0_1 l0_1.length c0_1] 64 (0,0)) (zx BK226)) : gb227 ≠ gb226));replace BK226:=zA (zQ (g:=gb226) (o:=.cells #[.int .i64 a0_0,.slice A0_1 l0_1.length c0_1] 64 (0,0)) (zx BK226) hb);clear hb hbox hg;have hnb7:=NB226_227.out;have hnc7:=NB227_226.out;have hcz8_0:=zc (.int .i64 a0_0) BK226 0 rfl;have hcz8_1:=zc (.slice A0_1 l0_1.length c0_1) BK226 1 rfl;have hfz8_0:=blk_frozen BK226.out 0;have hfz8_1:=blk_frozen BK226.out 1;have hcz9_0:=zc (.int .i64 a1_0) BK227 0 rfl;have hcz9_1:=zc (.slice A1_1 l1_1.length c1_1) BK227 1 rfl;have hfz9_0:=blk_frozen BK227.out 0;have hfz9_1:=blk_frozen BK227.out 1)|((with_reducible refine gate_callee (f:=50) rfl ?_);refine goesL_ (some 19) rfl rfl Tryz.func50 (by kernel_rfl) rfl #[.slice A0_1 l0_1.length c0_1,.slice A1_1 l1_1.length c1_1] rfl (by (try simp only [zCb,zMb,zNb]);first|done|rfl|(simp only [zLb,zDb];rfl)) ?_;(with_reducible refine (spec_l2Less.calls k _ _ l0_1 _ _ l1_1 t228 _ ?side1 ?side2 ?side3 ?side4 A4.out).mono ?_);(case side1 => exact zsd HR0_1 HB);(case side2 => exact HC0_1.out);(case side3 => exact zsd HR1_1 HB);(case side4 => exact HC1_1.out);rintro e w' ⟨rfl,⟨nd,rfl⟩⟩;refine ⟨_,rfl,?_⟩))
  go_ret
  exact ⟨by first|rfl|(simp [errW_none,errW_some] <;> rfl)|(simp [*,errW_none,errW_some] <;> rfl),zz HB⟩
 ·
  rw [if_neg c3] at H;have c3b0:=beq_eq_false_iff_ne.mpr c3;have c3b1:=bne_iff_ne.mpr c3
  obtain rfl:=Option.some.inj H
  go_enter Tryz.func73,Tryz.ntmps73
  go_wp2_with (first|((with_reducible refine gate_dst (N:=2) rfl ?_);refine box_event ?hg (N:=2) ?hd (cs:=#[.int .i64 a0_0,.slice A0_1 l0_1.length c0_1]) (t:=64) ?hr ?_;(case hd => rfl);(case hg => rfl);(case hr => first|(go_simp;done)|(go_simp;rfl));intro gb226 hg w10 hbox hb;have BK226:=zA (hbox);have GW226:=zA ((by rw [hg];exact (zT (zz HB)) : w.heap.size ≤ gb226));have GE226:=zA ((by rw [hg];exact (zT (zz HB)) : w.heap.size ≤ gb226));replace HB:=zA (zJb (zz HB) hb);clear hb hbox hg)|((with_reducible refine gate_dst (N:=3) rfl ?_);refine box_event ?hg (N:=3) ?hd (cs:=#[.int .i64 a1_0,.slice A1_1 l1_1.length c1_1]) (t:=64) ?hr ?_;(case hd => rfl);(case hg => rfl);(case hr => first|(go_simp;done)|(go_simp;rfl));intro gb227 hg w11 hbox hb;have BK227:=zA (hbox);have GW227:=zA ((by rw [hg];exact (zT (zz HB)) : w.heap.size ≤ gb227));have GE227:=zA ((by rw [hg];exact (zT (zz HB)) : w.heap.size ≤ gb227));replace HB:=zA (zJb (zz HB) hb);have NB226_227:=zA ((by rw [hg];exact Nat.ne_of_lt (blk_lt (g:=gb226) (o:=.cells #[.int .i64 a0_0,.slice A0_1 l0_1.length c0_1] 64 (0,0)) (zx BK226)) : gb226 ≠ gb227));have NB227_226:=zA ((by rw [hg];exact Nat.ne_of_gt (blk_lt (g:=gb226) (o:=.cells #[.int .i64 a0_0,.slice A0_1 l0_1.length c0_1] 64 (0,0)) (zx BK226)) : gb227 ≠ gb226));replace BK226:=zA (zQ (g:=gb226) (o:=.cells #[.int .i64 a0_0,.slice A0_1 l0_1.length c0_1] 64 (0,0)) (zx BK226) hb);clear hb hbox hg;have hnb12:=NB226_227.out;have hnc12:=NB227_226.out;have hcz13_0:=zc (.int .i64 a0_0) BK226 0 rfl;have hcz13_1:=zc (.slice A0_1 l0_1.length c0_1) BK226 1 rfl;have hfz13_0:=blk_frozen BK226.out 0;have hfz13_1:=blk_frozen BK226.out 1;have hcz14_0:=zc (.int .i64 a1_0) BK227 0 rfl;have hcz14_1:=zc (.slice A1_1 l1_1.length c1_1) BK227 1 rfl;have hfz14_0:=blk_frozen BK227.out 0;have hfz14_1:=blk_frozen BK227.out 1))
  go_ret
  exact ⟨by first|rfl|(simp [errW_none,errW_some] <;> rfl)|(simp [*,errW_none,errW_some] <;> rfl),zz HB⟩

end Go.Proofs.YtfelabhakgcifaaGreat.QFnExactAnswers
