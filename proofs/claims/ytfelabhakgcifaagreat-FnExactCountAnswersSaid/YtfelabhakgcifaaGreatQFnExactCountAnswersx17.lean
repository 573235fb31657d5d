/- Walks through the Go functions that FnExactCountAnswers reaches: each call returns what the Lean function beside it says, within the bounds that the theorem names. -/
import Derived.Test.YtfelabhakgcifaaGreatQFnExactCountAnswersx0
import Derived.Test.YtfelabhakgcifaaGreatQFnExactCountAnswersx16
namespace Go.Proofs.YtfelabhakgcifaaGreat.QFnExactCountAnswers
open Go.RowKit Go.Proofs.YtfelabhakgcifaaGreatW.PrintWords Go.Proofs.YtfelabhakgcifaaGreatW.PrintLast Go.Proofs.YtfelabhakgcifaaGreatW.PrintMore
attribute [local go_sem] max2_int min2_int max_two min_two max_three min_three max_four min_four   -- for this text's walks alone
set_option linter.unusedVariables false
set_option linter.unusedSimpArgs false


/-! ### impl_compareFacts: function 62 -/
def impl_compareFacts.f (k : Nat) (a0_0 : Int) (l0_1 : List Int) (a1_0 : Int) (l1_1 : List Int) : Option (Int) := if a0_0 < a1_0 then (some (-1)) else (if a0_0 > a1_0 then (some 1) else ((slices_Compare_int_int.f k l0_1 l1_1).bind fun t395 => (some t395)))
set_option maxHeartbeats 8000000 in
set_option maxRecDepth 100000 in
theorem impl_compareFacts.calls (k : Nat) (a0_0 : Int) (A0_1 : Option Addr) (c0_1 : Nat) (l0_1 : List Int) (a1_0 : Int) (A1_1 : Option Addr) (c1_1 : Nat) (l1_1 : List Int) (r : Int) (w : World) (hr0_1 : Kd.C (Kd.int .i64) w A0_1 l0_1.length l0_1) (hc0_1 : l0_1.length ≤ c0_1) (hr1_1 : Kd.C (Kd.int .i64) w A1_1 l1_1.length l1_1) (hc1_1 : l1_1.length ≤ c1_1) (h : impl_compareFacts.f k a0_0 l0_1 a1_0 l1_1 = some r) :
  Calls Tryz.prog 62 #[.agg #[.int .i64 a0_0, .slice A0_1 l0_1.length c0_1], .agg #[.int .i64 a1_0, .slice A1_1 l1_1.length c1_1]] w fun e w' => e = .returned (.int .i64 r) ∧ Below w.heap.size w w' := by
 have hu64:=Tryz.underlying64;have HR0_1:=zA hr0_1;have HC0_1:=zA hc0_1;clear hr0_1 hc0_1;have HR1_1:=zA hr1_1;have HC1_1:=zA hc1_1;clear hr1_1 hc1_1;have HB:=zA (Below.refl w.heap.size w)
 have H : (if a0_0 < a1_0 then (some (-1)) else (if a0_0 > a1_0 then (some 1) else ((slices_Compare_int_int.f k l0_1 l1_1).bind fun t395 => (some t395)))) = some r:=h
 clear h
 by_cases c3 : a0_0 < a1_0
 ·
  rw [if_pos c3] at H;have c3b0:=decide_eq_true c3;clear c3
  obtain rfl:=Option.some.inj H
  go_enter Tryz.func62,Tryz.ntmps62
  go_wp2_with (first|((with_reducible refine gate_dst (N:=2) rfl ?_);refine box_event ?hg (N:=2) ?hd (cs:=#[.int .i64 a0_0,.slice A0_1 l0_1.length c0_1]) (t:=64) ?hr ?_;(case hd => rfl);(case hg => rfl);(case hr => first|(go_simp;done)|(go_simp;rfl));intro gb393 hg w4 hbox hb;have BK393:=zA (hbox);have GW393:=zA ((by rw [hg];exact (zT (zz HB)) : w.heap.size ≤ gb393));have GE393:=zA ((by rw [hg];exact (zT (zz HB)) : w.heap.size ≤ gb393));replace HB:=zA (zJb (zz HB) hb);clear hb hbox hg)|((with_reducible refine gate_dst (N:=3) rfl ?_);refine box_event ?hg (N:=3) ?hd (cs:=#[.int .i64 a1_0,.slice A1_1 l1_1.length c1_1]) (t:=64) ?hr ?_;(case hd => rfl);(case hg => rfl);(case hr => first|(go_simp;done)|(go_simp;rfl));intro gb394 hg w5 hbox hb;have BK394:=zA (hbox);have GW394:=zA ((by rw [hg];exact (zT (zz HB)) : w.heap.size ≤ gb394));have GE394:=zA ((by rw [hg];exact (zT (zz HB)) : w.heap.size ≤ gb394));replace HB:=zA (zJb (zz HB) hb);have NB393_394:=zA ((by rw [hg];exact Nat.ne_of_lt (blk_lt (g:=gb393) (o:=.cells #[.int .i64 a0_0,.slice A0_1 l0_1.length c0_1] 64 (0,0)) (zx BK393)) : gb393 ≠ gb394));have NB394_393:=zA ((by rw [hg];exact Nat.ne_of_gt (blk_lt (g:=gb393) (o:=.cells #[.int .i64 a0_0,.slice A0_1 l0_1.length c0_1] 64 (0,0)) (zx BK393)) : gb394 ≠ gb393));replace BK393:=zA (zQ (g:=gb393) (o:=.cells #[.int .i64 a0_0,.slice A0_1 l0_1.length c0_1] 64 (0,0)) (zx BK393) hb);clear hb hbox hg;have hnb6:=NB393_394.out;have hnc6:=NB394_393.out;have hcz7_0:=zc (.int .i64 a0_0) BK393 0 rfl;have hcz7_1:=zc (.slice A0_1 l0_1.length c0_1) BK393 1 rfl;have hfz7_0:=blk_frozen BK393.out 0;have hfz7_1:=blk_frozen BK393.out 1;have hcz8_0:=zc (.int .i64 a1_0) BK394 0 rfl;have hcz8_1:=zc (.slice A1_1 l1_1.length c1_1) BK394 1 rfl;have hfz8_0:=blk_frozen BK394.out 0;have hfz8_1:=blk_frozen BK394.out 1))
  go_ret
  exact ⟨by first|rfl|(simp [errW_none,errW_some] <;> rfl)|(simp [*,errW_none,errW_some] <;> rfl),zz HB⟩
 ·
  rw [if_neg c3] at H;have c3b0:=decide_eq_false c3;clear c3
  by_cases c9 : a0_0 > a1_0
  ·
   rw [if_pos c9] at H
   have c9b0 : decide (a1_0 < a0_0) = true:=decide_eq_true c9
   clear c9
   obtain rfl:=Option.some.inj H
   go_enter Tryz.func62,Tryz.ntmps62
   go_wp2_with (first|((with_reducible refine gate_dst (N:=2) rfl ?_);refine box_event ?hg (N:=2) ?hd (cs:=#[.int .i64 a0_0,.slice A0_1 l0_1.length c0_1]) (t:=64) ?hr ?_;(case hd => rfl);(case hg => rfl);(case hr => first|(go_simp;done)|(go_simp;rfl));intro gb393 hg w10 hbox hb;have BK393:=zA (hbox);have GW393:=zA ((by rw [hg];exact (zT (zz HB)) : w.heap.size ≤ gb393));have GE393:=zA ((by rw [hg];exact (zT (zz HB)) : w.heap.size ≤ gb393));replace HB:=zA (zJb (zz HB) hb);clear hb hbox hg)|((with_reducible refine gate_dst (N:=3) rfl ?_);refine box_event ?hg (N:=3) ?hd (cs:=#[.int .i64 a1_0,.slice A1_1 l1_1.length c1_1]) (t:=64) ?hr ?_;(case hd => rfl);(case hg => rfl);(case hr => first|(go_simp;done)|(go_simp;rfl));intro gb394 hg w11 hbox hb;have BK394:=zA (hbox);have GW394:=zA ((by rw [hg];exact (zT (zz HB)) : w.heap.size ≤ gb394));have GE394:=zA ((by rw [hg];exact (zT (zz HB)) : w.heap.size ≤ gb394));replace HB:=zA (zJb (zz HB) hb);have NB393_394:=zA ((by rw [hg];exact Nat.ne_of_lt (blk_lt (g:=gb393) (o:=.cells #[.int .i64 a0_0,.slice A0_1 l0_1.length c0_1] 64 (0,0)) (zx BK393)) : gb393 ≠ gb394));have NB394_393:=zA ((by rw [hg];exact Nat.ne_of_gt (blk_lt (g:=gb393) (o:=.cells #[.int .i64 a0_0,.slice A0_1 l0_1.length c0_1] 64 (0,0)) (zx BK393)) : gb394 ≠ gb393));replace BK393:=zA (zQ (g:=gb393) (o:=.cells #[.int .i64 a0_0,.slice A0_1 l0_1.length c0_1] 64 (0,0)) (zx BK393) hb);clear hb hbox hg;have hnb12:=NB393_394.out;have hnc12:=NB394_393.out;have hcz13_0:=zc (.int .i64 a0_0) BK393 0 rfl;have hcz13_1:=zc (.slice A0_1 l0_1.length c0_1) BK393 1 rfl;have hfz13_0:=blk_frozen BK393.out 0;have hfz13_1:=blk_frozen BK393.out 1;have hcz14_0:=zc (.int .i64 a1_0) BK394 0 rfl;have hcz14_1:=zc (.slice A1_1 l1_1.length c1_1) BK394 1 rfl;have hfz14_0:=blk_frozen BK394.out 0;have hfz14_1:=blk_frozen BK394.out 1))
   go_ret
   exact ⟨by first|rfl|(simp [errW_none,errW_some] <;> rfl)|(simp [*,errW_none,errW_some] <;> rfl),zz HB⟩
  ·
   rw [if_neg c9] at H
   have c9b0 : decide (a1_0 < a0_0) = false:=decide_eq_false c9
   clear c9;replace H:=Option.bind_eq_some_iff.mp H;obtain ⟨t395,A150,H⟩:=H;(try dsimp only at H);have A15:=zA A150;clear A150
   obtain rfl:=Option.some.inj H
   go_enter Tryz.func62,Tryz.ntmps62
   go_wp2_with (first|((with_reducible refine gate_dst (N:=2) rfl ?_);refine box_event ?hg (N:=2) ?hd (cs:=#[.int .i64 a0_0,.slice A0_1 l0_1.length c0_1]) (t:=64) ?hr ?_;(case hd => rfl);(case hg => rfl);(case hr => first|(go_simp;done)|(go_simp;rfl));intro gb393 hg w16 hbox hb;have BK393:=zA (hbox);have GW393:=zA ((by rw [hg];exact (zT (zz HB)) : w.heap.size ≤ gb393));have GE393:=zA ((by rw [hg];exact (zT (zz HB)) : w.heap.size ≤ gb393));replace HB:=zA (zJb (zz HB) hb);clear hb hbox hg)|((with_reducible refine gate_dst (N:=3) rfl ?_);refine box_event ?hg (N:=3) ?hd (cs:=#[.int .i64 a1_0,.slice A1_1 l1_1.length c1_1]) (t:=64) ?hr ?_;(case hd => rfl);(case hg => rfl);(case hr => first|(go_simp;done)|(go_simp;rfl));intro gb394 hg w17 hbox hb;have BK394:=zA (hbox);have GW394:=zA ((by rw [hg];exact (zT (zz HB)) : w.heap.size ≤ gb394));have GE394:=zA ((by rw [hg];exact (zT (zz HB)) : w.heap.size ≤ gb394));replace HB:=zA (zJb (zz HB) hb);have NB393_394:=zA ((by rw [hg];exact Nat.ne_of_lt (blk_lt (g:=gb393) (o:=.cells #[.int .i64 a0_0,.slice A0_1 l0_1.length c0_1] 64 (0,0)) (zx BK393)) : gb393 ≠ gb394));have NB394_393:=zA ((by rw [hg];exact Nat.ne_of_gt (blk_lt (g:=gb393) (o:=.cells #[.int .i64 a0_0,.slice A0_1 l0_1.length c0_1] 64 (0,0)) (zx BK393)) : gb394 ≠ gb393));replace BK393:=zA (zQ (g:=gb393) (o:=.cells #[.int .i64 a0_0,.slice A0_1 l0_1.length c0_1] 64 (0,0)) (zx BK393) hb);clear hb hbox hg;have hnb18:=NB393_394.out;have hnc18:=NB394_393.out;have hcz19_0:=zc (.int .i64 a0_0) BK393 0 rfl;have hcz19_1:=zc (.slice A0_1 l0_1.length c0_1) BK393 1 rfl;have hfz19_0:=blk_frozen BK393.out 0;have hfz19_1:=blk_frozen BK393.out 1;have hcz20_0:=zc (.int .i64 a1_0) BK394 0 rfl;have hcz20_1:=zc (.slice A1_1 l1_1.length c1_1) BK394 1 rfl;have hfz20_0:=blk_frozen BK394.out 0;have hfz20_1:=blk_frozen BK394.out 1)|((with_reducible refine gate_callee (f:=64) rfl ?_);refine goesL_ (some 21) rfl rfl Tryz.func64 (by kernel_rfl) rfl #[.slice A0_1 l0_1.length c0_1,.slice A1_1 l1_1.length c1_1] rfl (by (try simp only [zCb,zMb,zNb]);first|done|rfl|(simp only [zLb,zDb];rfl)) ?_;(with_reducible refine (slices_Compare_int_int.calls k _ _ l0_1 _ _ l1_1 t395 _ ?side1 ?side2 ?side3 ?side4 A15.out).mono ?_);(case side1 => exact zsd HR0_1 HB);(case side2 => exact HC0_1.out);(case side3 => exact zsd HR1_1 HB);(case side4 => exact HC1_1.out);rintro e w' ⟨rfl,⟨nd,rfl⟩⟩;refine ⟨_,rfl,?_⟩))
   go_ret
   exact ⟨by first|rfl|(simp [errW_none,errW_some] <;> rfl)|(simp [*,errW_none,errW_some] <;> rfl),zz HB⟩

end Go.Proofs.YtfelabhakgcifaaGreat.QFnExactCountAnswers
