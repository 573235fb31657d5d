/- Walks through the Go functions that FnExactAnswers reaches: each call returns what the Lean function beside it says, within the bounds that the theorem names. -/
import Derived.Test.YtfelabhakgcifaaGreatQFnExactAnswersx0
import Derived.Test.YtfelabhakgcifaaGreatQFnExactAnswersx11
namespace Go.Proofs.YtfelabhakgcifaaGreat.QFnExactAnswers
open Go.RowKit Go.Proofs.YtfelabhakgcifaaGreatW.PrintWords Go.Proofs.YtfelabhakgcifaaGreatW.PrintLast Go.Proofs.YtfelabhakgcifaaGreatW.PrintMore
attribute [local go_sem] max2_int min2_int max_two min_two max_three min_three max_four min_four   -- for this text's walks alone
set_option linter.unusedVariables false
set_option linter.unusedSimpArgs false


/-! ### laws_toQuery: function 10 -/
def laws_toQuery.f (k : Nat) (l0_0 : List Int) (l0_1 : List (S79)) : Option (List Int × (List (S81))) := (laws_toIntS.f k l0_0).bind fun t298 => ((laws_toAtomS.f k l0_1).bind fun t301 => (some (t298, t301)))
set_option maxHeartbeats 8000000 in
set_option maxRecDepth 100000 in
theorem laws_toQuery.calls (k : Nat) (A0_0 : Option Addr) (c0_0 : Nat) (l0_0 : List Int) (A0_1 : Option Addr) (c0_1 : Nat) (l0_1 : List (S79)) (r1 : List Int) (r2 : List (S81)) (w : World) (hr0_0 : Kd.C (Kd.int .i64) w A0_0 l0_0.length l0_0) (hc0_0 : l0_0.length ≤ c0_0) (hr0_1 : Kd.C k79 w A0_1 l0_1.length l0_1) (hc0_1 : l0_1.length ≤ c0_1) (h : laws_toQuery.f k l0_0 l0_1 = some (r1, r2)) :
  Calls Tryz.prog 10 #[.agg #[.slice A0_0 l0_0.length c0_0, .slice A0_1 l0_1.length c0_1]] w fun e w' => ∃ v0_ v1_ : Value, e = .returned (.agg #[v0_, v1_]) ∧ Kd.R (Kd.int .i64) 3 w' w.heap.size (fun _ => True) v0_ r1 ∧ Kd.S k81 81 w' w.heap.size (fun k_ => some k_ ≠ (v0_ : Value).ownBlock) v1_ r2 ∧ Below w.heap.size w w' := by
 have hu27:=Tryz.underlying27;have hu38:=Tryz.underlying38;have HR0_0:=zA hr0_0;have HC0_0:=zA hc0_0;clear hr0_0 hc0_0;have HR0_1:=zA hr0_1;have HC0_1:=zA hc0_1;clear hr0_1 hc0_1;have HB:=zA (Below.refl w.heap.size w)
 have H : ((laws_toIntS.f k l0_0).bind fun t298 => ((laws_toAtomS.f k l0_1).bind fun t301 => (some (t298,t301)))) = some (r1,r2):=h
 clear h;replace H:=Option.bind_eq_some_iff.mp H;obtain ⟨t298,A20,H⟩:=H;(try dsimp only at H);have A2:=zA A20;clear A20;replace H:=Option.bind_eq_some_iff.mp H;obtain ⟨t301,A30,H⟩:=H;(try dsimp only at H);have A3:=zA A30;clear A30;simp only [Option.some.injEq,Prod.mk.injEq] at H;obtain ⟨rfl,rfl⟩:=H
 go_enter Tryz.func10,Tryz.ntmps10
 go_wp2_with (first|((with_reducible refine gate_dst (N:=1) rfl ?_);refine box_event ?hg (N:=1) ?hd (cs:=#[.slice A0_0 l0_0.length c0_0,.slice A0_1 l0_1.length c0_1]) (t:=27) ?hr ?_;(case hd => rfl);(case hg => rfl);(case hr => first|(go_simp;done)|(go_simp;rfl));intro gb295 hg w4 hbox hb;have BK295:=zA (hbox);have GW295:=zA ((by rw [hg];exact (zT (zz HB)) : w.heap.size ≤ gb295));have GE295:=zA ((by rw [hg];exact (zT (zz HB)) : w.heap.size ≤ gb295));replace HB:=zA (zJb (zz HB) hb);clear hb hbox hg)|((with_reducible refine gate_dst (N:=2) rfl ?_);refine box_event ?hg (N:=2) ?hd (cs:=#[.slice none 0 0,.slice none 0 0]) (t:=38) ?hr ?_;(case hd => rfl);(case hg => rfl);(case hr => first|(go_simp;done)|(go_simp;rfl));intro gb296 hg w5 hbox hb;have BK296:=zA (hbox);have GW296:=zA ((by rw [hg];exact (zT (zz HB)) : w.heap.size ≤ gb296));have GE296:=zA ((by rw [hg];exact (zT (zz HB)) : w.heap.size ≤ gb296));replace HB:=zA (zJb (zz HB) hb);have NB295_296:=zA ((by rw [hg];exact Nat.ne_of_lt (blk_lt (g:=gb295) (o:=.cells #[.slice A0_0 l0_0.length c0_0,.slice A0_1 l0_1.length c0_1] 27 (0,0)) (zx BK295)) : gb295 ≠ gb296));have NB296_295:=zA ((by rw [hg];exact Nat.ne_of_gt (blk_lt (g:=gb295) (o:=.cells #[.slice A0_0 l0_0.length c0_0,.slice A0_1 l0_1.length c0_1] 27 (0,0)) (zx BK295)) : gb296 ≠ gb295));replace BK295:=zA (zQ (g:=gb295) (o:=.cells #[.slice A0_0 l0_0.length c0_0,.slice A0_1 l0_1.length c0_1] 27 (0,0)) (zx BK295) hb);clear hb hbox hg)|((with_reducible refine gate_dst (N:=3) rfl ?_);refine box_event ?hg (N:=3) ?hd (cs:=#[.slice none 0 0,.slice none 0 0]) (t:=38) ?hr ?_;(case hd => rfl);(case hg => rfl);(case hr => first|(go_simp;done)|(go_simp;rfl));intro gb297 hg w6 hbox hb;have BK297:=zA (hbox);have GW297:=zA ((by rw [hg];exact (zT (zz HB)) : w.heap.size ≤ gb297));have GE297:=zA ((by rw [hg];exact (zT (zz HB)) : w.heap.size ≤ gb297));replace HB:=zA (zJb (zz HB) hb);have NB295_297:=zA ((by rw [hg];exact Nat.ne_of_lt (blk_lt (g:=gb295) (o:=.cells #[.slice A0_0 l0_0.length c0_0,.slice A0_1 l0_1.length c0_1] 27 (0,0)) (zx BK295)) : gb295 ≠ gb297));have NB297_295:=zA ((by rw [hg];exact Nat.ne_of_gt (blk_lt (g:=gb295) (o:=.cells #[.slice A0_0 l0_0.length c0_0,.slice A0_1 l0_1.length c0_1] 27 (0,0)) (zx BK295)) : gb297 ≠ gb295));replace BK295:=zA (zQ (g:=gb295) (o:=.cells #[.slice A0_0 l0_0.length c0_0,.slice A0_1 l0_1.length c0_1] 27 (0,0)) (zx BK295) hb);have NB296_297:=zA ((by rw [hg];exact Nat.ne_of_lt (blk_lt (g:=gb296) (o:=.cells #[.slice none 0 0,.slice none 0 0] 38 (0,0)) (zx BK296)) : gb296 ≠ gb297));have NB297_296:=zA ((by rw [hg];exact Nat.ne_of_gt (blk_lt (g:=gb296) (o:=.cells #[.slice none 0 0,.slice none 0 0] 38 (0,0)) (zx BK296)) : gb297 ≠ gb296));replace BK296:=zA (zQ (g:=gb296) (o:=.cells #[.slice none 0 0,.slice none 0 0] 38 (0,0)) (zx BK296) hb);clear hb hbox hg;have hnb7:=NB295_296.out;have hnc7:=NB296_295.out;have hnb8:=NB295_297.out;have hnc8:=NB297_295.out;have hcz9_0:=zc (.slice A0_0 l0_0.length c0_0) BK295 0 rfl;have hcz9_1:=zc (.slice A0_1 l0_1.length c0_1) BK295 1 rfl;have hfz9_0:=blk_frozen BK295.out 0;have hfz9_1:=blk_frozen BK295.out 1)|((with_reducible refine gate_callee (f:=33) rfl ?_);refine goesL_ (some 6) rfl rfl Tryz.func33 (by kernel_rfl) rfl #[.slice A0_0 l0_0.length c0_0] rfl (by (try simp only [zCb,zMb,zNb]);first|done|rfl|(simp only [zLb,zDb];rfl)) ?_;(with_reducible refine (laws_toIntS.calls k _ _ l0_0 t298 _ ?side1 ?side2 A2.out).mono ?_);(case side1 => exact zsd HR0_0 HB);(case side2 => exact HC0_0.out);rintro e w10 ⟨v299,rfl,ho0,hb⟩;refine ⟨_,rfl,?_⟩;have HO300:=zA (zHb ho0 (zT (zz HB)));replace BK295:=zA (zQ (g:=gb295) (o:=.cells #[.slice A0_0 l0_0.length c0_0,.slice A0_1 l0_1.length c0_1] 27 (0,0)) (zx BK295) hb);replace BK296:=zA (zQ (g:=gb296) (o:=.cells #[.slice none 0 0,.slice none 0 0] 38 (0,0)) (zx BK296) hb);replace BK297:=zA (zQ (g:=gb297) (o:=.cells #[.slice none 0 0,.slice none 0 0] 38 (0,0)) (zx BK297) hb);replace HB:=zA (zJb (zz HB) hb);(try clear hb);(try clear hb2);(try clear hk);(try clear hi);(try clear ho0);obtain ⟨Ao11,co11,eo11⟩:=Kd.R_slice HO300.out;subst eo11;have hnb12:=NB297_296.out;have hnc12:=NB296_297.out;have hcz13_0:=zc (.slice none 0 0) BK297 0 rfl;have hcz13_1:=zc (.slice none 0 0) BK297 1 rfl;have hfz13_0:=blk_frozen BK297.out 0;have hfz13_1:=blk_frozen BK297.out 1;have hcz14_0:=zc (.slice A0_0 l0_0.length c0_0) BK295 0 rfl;have hcz14_1:=zc (.slice A0_1 l0_1.length c0_1) BK295 1 rfl;have hfz14_0:=blk_frozen BK295.out 0;have hfz14_1:=blk_frozen BK295.out 1)|((with_reducible refine gate_callee (f:=34) rfl ?_);refine goesL_ (some 10) rfl rfl Tryz.func34 (by kernel_rfl) rfl #[.slice A0_1 l0_1.length c0_1] rfl (by (try simp only [zCb,zMb,zNb]);first|done|rfl|(simp only [zLb,zDb];rfl)) ?_;(with_reducible refine (laws_toAtomS.calls k _ _ l0_1 t301 _ ?side1 ?side2 A3.out).mono ?_);(case side1 => exact zKb HR0_1.out (zz HB));(case side2 => exact HC0_1.out);rintro e w15 ⟨v302,rfl,ho0,hb⟩;refine ⟨_,rfl,?_⟩;have HO303:=zA (zIb (zV ho0 (zOb (by (with_reducible repeat (first|apply zE|apply zD|apply zH));exact (zGb (zR (p:=⟨gb297,0,none⟩) (Kd.R_types HO300.out BK297.out (by decide)) (fun _ hk => hk.2) (.slice Ao11 t298.length co11)) (fun _ h_ => h_.1))))) (zT (zz HB)));replace HO300:=zA (zZ (by (with_reducible repeat (first|apply zE|apply zD|apply zH));exact (zGb (zR (p:=⟨gb297,0,none⟩) (Kd.R_types HO300.out BK297.out (by decide)) (fun _ hk => hk.2) (.slice Ao11 t298.length co11)) (fun _ h_ => h_.1))) hb);replace BK295:=zA (zQ (g:=gb295) (o:=.cells #[.slice A0_0 l0_0.length c0_0,.slice A0_1 l0_1.length c0_1] 27 (0,0)) (by (with_reducible repeat (first|refine zF ?_ _|refine zI ?_|refine zG ?_ _));refine zUb ?_ NB295_297.out _;(with_reducible repeat (first|refine zF ?_ _|refine zI ?_|refine zG ?_ _));exact BK295.out) hb);replace BK296:=zA (zQ (g:=gb296) (o:=.cells #[.slice none 0 0,.slice none 0 0] 38 (0,0)) (by (with_reducible repeat (first|refine zF ?_ _|refine zI ?_|refine zG ?_ _));refine zUb ?_ NB296_297.out _;(with_reducible repeat (first|refine zF ?_ _|refine zI ?_|refine zG ?_ _));exact BK296.out) hb);replace BK297:=zA (zQ (g:=gb297) (o:=.cells #[.slice Ao11 t298.length co11,.slice none 0 0] 38 (0,0)) (by (with_reducible repeat (first|refine zF ?_ _|refine zI ?_|refine zG ?_ _));refine blk_put (cs:=#[.slice none 0 0,.slice none 0 0]) ?_ 0 _ rfl;(with_reducible repeat (first|refine zF ?_ _|refine zI ?_|refine zG ?_ _));exact BK297.out) hb);replace HB:=zA (zJb (zz HB) hb);(try clear hb);(try clear hb2);(try clear hk);(try clear hi);(try clear ho0);obtain ⟨Ao16,co16,eo16⟩:=Kd.S_slice HO303.out;subst eo16;have hcz17_0:=zc (.slice Ao11 t298.length co11) BK297 0 rfl;have hcz17_1:=zc (.slice none 0 0) BK297 1 rfl;have hfz17_0:=blk_frozen BK297.out 0;have hfz17_1:=blk_frozen BK297.out 1;have hcz18_0:=zc (.slice none 0 0) BK296 0 rfl;have hcz18_1:=zc (.slice none 0 0) BK296 1 rfl;have hfz18_0:=blk_frozen BK296.out 0;have hfz18_1:=blk_frozen BK296.out 1))
 refine bodyPost_ret (results_cell_row rfl _ _ gb296 38 #[.slice Ao11 t298.length co11,.slice Ao16 t301.length co16] (0,0) _ rfl (by (with_reducible repeat (first|refine zF ?_ _|refine zI ?_|refine zG ?_ _));refine blk_put (cs:=#[.slice Ao11 t298.length co11,.slice none 0 0]) ?_ 1 _ rfl;(with_reducible repeat (first|refine zF ?_ _|refine zI ?_|refine zG ?_ _));refine blk_put (cs:=#[.slice none 0 0,.slice none 0 0]) ?_ 0 _ rfl;(with_reducible repeat (first|refine zF ?_ _|refine zI ?_|refine zG ?_ _));refine zUb ?_ NB296_297.out _;(with_reducible repeat (first|refine zF ?_ _|refine zI ?_|refine zG ?_ _));exact BK296.out) Tryz.underlying38 rfl (by kernel_rfl)) rfl ?_
 exact ⟨_,_,by first|rfl|(simp [errW_none,errW_some] <;> rfl)|(simp [*,errW_none,errW_some] <;> rfl),by (with_reducible repeat (first|apply zE|apply zD|apply zH));exact zGb (zR (p:=⟨gb296,1,none⟩) (zR (p:=⟨gb296,0,none⟩) (zR (p:=⟨gb297,1,none⟩) (Kd.R_types (Kd.R_types HO300.out BK297.out (by decide)) BK296.out (by decide)) (fun _ hk => hk.1.2) (.slice Ao16 t301.length co16)) (fun _ hk => hk.2) (.slice Ao11 t298.length co11)) (fun _ hk => hk.2) (.slice Ao16 t301.length co16)) (fun _ hk => trivial),by (with_reducible repeat (first|apply zM|apply zL|apply zN));exact zS (zVb (p:=⟨gb296,1,none⟩) (zVb (p:=⟨gb296,0,none⟩) (zVb (p:=⟨gb297,1,none⟩) (Kd.S_types (Kd.S_types HO303.out BK297.out (by decide)) BK296.out (by decide)) (fun _ hk => hk.1.2) (.slice Ao16 t301.length co16)) (fun _ hk => hk.2) (.slice Ao11 t298.length co11)) (fun _ hk => hk.2) (.slice Ao16 t301.length co16)) (fun _ hk => hk.1.1.2),zz HB⟩

/-! ### laws_toFact: function 35 -/
def laws_toFact.f (k : Nat) (a0_0 : Int) (l0_1 : List Int) : Option (Int × List Int) := (laws_toIntS.f k l0_1).bind fun t307 => (some (a0_0, t307))
set_option maxHeartbeats 8000000 in
set_option maxRecDepth 100000 in
theorem laws_toFact.calls (k : Nat) (a0_0 : Int) (A0_1 : Option Addr) (c0_1 : Nat) (l0_1 : List Int) (r1 : Int) (r2 : List Int) (w : World) (hr0_1 : Kd.C (Kd.int .i64) w A0_1 l0_1.length l0_1) (hc0_1 : l0_1.length ≤ c0_1) (h : laws_toFact.f k a0_0 l0_1 = some (r1, r2)) :
  Calls Tryz.prog 35 #[.agg #[.int .i64 a0_0, .slice A0_1 l0_1.length c0_1]] w fun e w' => ∃ v1_ : Value, e = .returned (.agg #[.int .i64 r1, v1_]) ∧ Kd.R (Kd.int .i64) 3 w' w.heap.size (fun _ => True) v1_ r2 ∧ Below w.heap.size w w' := by
 have hu59:=Tryz.underlying59;have hu64:=Tryz.underlying64;have HR0_1:=zA hr0_1;have HC0_1:=zA hc0_1;clear hr0_1 hc0_1;have HB:=zA (Below.refl w.heap.size w)
 have H : ((laws_toIntS.f k l0_1).bind fun t307 => (some (a0_0,t307))) = some (r1,r2):=h
 clear h;replace H:=Option.bind_eq_some_iff.mp H;obtain ⟨t307,A20,H⟩:=H;(try dsimp only at H);have A2:=zA A20;clear A20;simp only [Option.some.injEq,Prod.mk.injEq] at H;obtain ⟨rfl,rfl⟩:=H
 go_enter Tryz.func35,Tryz.ntmps35
 go_wp2_with (first|((with_reducible refine gate_dst (N:=1) rfl ?_);refine box_event ?hg (N:=1) ?hd (cs:=#[.int .i64 a0_0,.slice A0_1 l0_1.length c0_1]) (t:=59) ?hr ?_;(case hd => rfl);(case hg => rfl);(case hr => first|(go_simp;done)|(go_simp;rfl));intro gb304 hg w3 hbox hb;have BK304:=zA (hbox);have GW304:=zA ((by rw [hg];exact (zT (zz HB)) : w.heap.size ≤ gb304));have GE304:=zA ((by rw [hg];exact (zT (zz HB)) : w.heap.size ≤ gb304));replace HB:=zA (zJb (zz HB) hb);clear hb hbox hg)|((with_reducible refine gate_dst (N:=2) rfl ?_);refine box_event ?hg (N:=2) ?hd (cs:=#[.int .i64 0,.slice none 0 0]) (t:=64) ?hr ?_;(case hd => rfl);(case hg => rfl);(case hr => first|(go_simp;done)|(go_simp;rfl));intro gb305 hg w4 hbox hb;have BK305:=zA (hbox);have GW305:=zA ((by rw [hg];exact (zT (zz HB)) : w.heap.size ≤ gb305));have GE305:=zA ((by rw [hg];exact (zT (zz HB)) : w.heap.size ≤ gb305));replace HB:=zA (zJb (zz HB) hb);have NB304_305:=zA ((by rw [hg];exact Nat.ne_of_lt (blk_lt (g:=gb304) (o:=.cells #[.int .i64 a0_0,.slice A0_1 l0_1.length c0_1] 59 (0,0)) (zx BK304)) : gb304 ≠ gb305));have NB305_304:=zA ((by rw [hg];exact Nat.ne_of_gt (blk_lt (g:=gb304) (o:=.cells #[.int .i64 a0_0,.slice A0_1 l0_1.length c0_1] 59 (0,0)) (zx BK304)) : gb305 ≠ gb304));replace BK304:=zA (zQ (g:=gb304) (o:=.cells #[.int .i64 a0_0,.slice A0_1 l0_1.length c0_1] 59 (0,0)) (zx BK304) hb);clear hb hbox hg)|((with_reducible refine gate_dst (N:=3) rfl ?_);refine box_event ?hg (N:=3) ?hd (cs:=#[.int .i64 0,.slice none 0 0]) (t:=64) ?hr ?_;(case hd => rfl);(case hg => rfl);(case hr => first|(go_simp;done)|(go_simp;rfl));intro gb306 hg w5 hbox hb;have BK306:=zA (hbox);have GW306:=zA ((by rw [hg];exact (zT (zz HB)) : w.heap.size ≤ gb306));have GE306:=zA ((by rw [hg];exact (zT (zz HB)) : w.heap.size ≤ gb306));replace HB:=zA (zJb (zz HB) hb);have NB304_306:=zA ((by rw [hg];exact Nat.ne_of_lt (blk_lt (g:=gb304) (o:=.cells #[.int .i64 a0_0,.slice A0_1 l0_1.length c0_1] 59 (0,0)) (zx BK304)) : gb304 ≠ gb306));have NB306_304:=zA ((by rw [hg];exact Nat.ne_of_gt (blk_lt (g:=gb304) (o:=.cells #[.int .i64 a0_0,.slice A0_1 l0_1.length c0_1] 59 (0,0)) (zx BK304)) : gb306 ≠ gb304));replace BK304:=zA (zQ (g:=gb304) (o:=.cells #[.int .i64 a0_0,.slice A0_1 l0_1.length c0_1] 59 (0,0)) (zx BK304) hb);have NB305_306:=zA ((by rw [hg];exact Nat.ne_of_lt (blk_lt (g:=gb305) (o:=.cells #[.int .i64 0,.slice none 0 0] 64 (0,0)) (zx BK305)) : gb305 ≠ gb306));have NB306_305:=zA ((by rw [hg];exact Nat.ne_of_gt (blk_lt (g:=gb305) (o:=.cells #[.int .i64 0,.slice none 0 0] 64 (0,0)) (zx BK305)) : gb306 ≠ gb305));replace BK305:=zA (zQ (g:=gb305) (o:=.cells #[.int .i64 0,.slice none 0 0] 64 (0,0)) (zx BK305) hb);clear hb hbox hg;have hnb6:=NB304_305.out;have hnc6:=NB305_304.out;have hnb7:=NB304_306.out;have hnc7:=NB306_304.out;have hcz8_0:=zc (.int .i64 a0_0) BK304 0 rfl;have hcz8_1:=zc (.slice A0_1 l0_1.length c0_1) BK304 1 rfl;have hfz8_0:=blk_frozen BK304.out 0;have hfz8_1:=blk_frozen BK304.out 1;have hnb9:=NB306_305.out;have hnc9:=NB305_306.out;have hcz10_0:=zc (.int .i64 0) BK306 0 rfl;have hcz10_1:=zc (.slice none 0 0) BK306 1 rfl;have hfz10_0:=blk_frozen BK306.out 0;have hfz10_1:=blk_frozen BK306.out 1)|((with_reducible refine gate_callee (f:=33) rfl ?_);refine goesL_ (some 9) rfl rfl Tryz.func33 (by kernel_rfl) rfl #[.slice A0_1 l0_1.length c0_1] rfl (by (try simp only [zCb,zMb,zNb]);first|done|rfl|(simp only [zLb,zDb];rfl)) ?_;(with_reducible refine (laws_toIntS.calls k _ _ l0_1 t307 _ ?side1 ?side2 A2.out).mono ?_);(case side1 => exact zKb HR0_1.out (zz HB));(case side2 => exact HC0_1.out);rintro e w11 ⟨v308,rfl,ho0,hb⟩;refine ⟨_,rfl,?_⟩;have HO309:=zA (zHb ho0 (zT (zz HB)));replace BK304:=zA (zQ (g:=gb304) (o:=.cells #[.int .i64 a0_0,.slice A0_1 l0_1.length c0_1] 59 (0,0)) (by (with_reducible repeat (first|refine zF ?_ _|refine zI ?_|refine zG ?_ _));refine zUb ?_ NB304_306.out _;(with_reducible repeat (first|refine zF ?_ _|refine zI ?_|refine zG ?_ _));exact BK304.out) hb);replace BK305:=zA (zQ (g:=gb305) (o:=.cells #[.int .i64 0,.slice none 0 0] 64 (0,0)) (by (with_reducible repeat (first|refine zF ?_ _|refine zI ?_|refine zG ?_ _));refine zUb ?_ NB305_306.out _;(with_reducible repeat (first|refine zF ?_ _|refine zI ?_|refine zG ?_ _));exact BK305.out) hb);replace BK306:=zA (zQ (g:=gb306) (o:=.cells #[.int .i64 a0_0,.slice none 0 0] 64 (0,0)) (by (with_reducible repeat (first|refine zF ?_ _|refine zI ?_|refine zG ?_ _));refine blk_put (cs:=#[.int .i64 0,.slice none 0 0]) ?_ 0 _ rfl;(with_reducible repeat (first|refine zF ?_ _|refine zI ?_|refine zG ?_ _));exact BK306.out) hb);replace HB:=zA (zJb (zz HB) hb);(try clear hb);(try clear hb2);(try clear hk);(try clear hi);(try clear ho0);obtain ⟨Ao12,co12,eo12⟩:=Kd.R_slice HO309.out;subst eo12;have hcz13_0:=zc (.int .i64 a0_0) BK306 0 rfl;have hcz13_1:=zc (.slice none 0 0) BK306 1 rfl;have hfz13_0:=blk_frozen BK306.out 0;have hfz13_1:=blk_frozen BK306.out 1;have hcz14_0:=zc (.int .i64 0) BK305 0 rfl;have hcz14_1:=zc (.slice none 0 0) BK305 1 rfl;have hfz14_0:=blk_frozen BK305.out 0;have hfz14_1:=blk_frozen BK305.out 1))
 refine bodyPost_ret (results_cell_row rfl _ _ gb305 64 #[.int .i64 a0_0,.slice Ao12 t307.length co12] (0,0) _ rfl (by (with_reducible repeat (first|refine zF ?_ _|refine zI ?_|refine zG ?_ _));refine blk_put (cs:=#[.int .i64 a0_0,.slice none 0 0]) ?_ 1 _ rfl;(with_reducible repeat (first|refine zF ?_ _|refine zI ?_|refine zG ?_ _));refine blk_put (cs:=#[.int .i64 0,.slice none 0 0]) ?_ 0 _ rfl;(with_reducible repeat (first|refine zF ?_ _|refine zI ?_|refine zG ?_ _));refine zUb ?_ NB305_306.out _;(with_reducible repeat (first|refine zF ?_ _|refine zI ?_|refine zG ?_ _));exact BK305.out) Tryz.underlying64 rfl (by kernel_rfl)) rfl ?_
 exact ⟨_,by first|rfl|(simp [errW_none,errW_some] <;> rfl)|(simp [*,errW_none,errW_some] <;> rfl),by (with_reducible repeat (first|apply zE|apply zD|apply zH));exact zGb (zR (p:=⟨gb305,1,none⟩) (zR (p:=⟨gb305,0,none⟩) (zR (p:=⟨gb306,1,none⟩) (Kd.R_types (Kd.R_types HO309.out BK306.out (by decide)) BK305.out (by decide)) (fun _ hk => hk.1.2) (.slice Ao12 t307.length co12)) (fun _ hk => hk.2) (.int .i64 a0_0)) (fun _ hk => hk.2) (.slice Ao12 t307.length co12)) (fun _ hk => trivial),zz HB⟩

/-! ### laws_toFactS: function 11 -/
def laws_toFactS.l0 : Nat → List (S59) → List (S64) → Int → Option ((List (S64)))
 | 0, _, _, _ => none
 | k + 1, x0, x3, x4 => if x4 < (x0.length : Int) then (if 0 ≤ x4 then ((laws_toFact.f k ((rd_T59 x0 x4).f0) ((rd_T59 x0 x4).f1)).bind fun bt314 => (if x4 < (x3.length : Int) then (laws_toFactS.l0 k x0 (x3.set (x4 : Int).toNat (⟨bt314.1, bt314.2⟩ : S64)) (wrap64 (x4 + 1))) else (none))) else (none)) else (some x3)
def laws_toFactS.f (k : Nat) (l0 : List (S59)) : Option ((List (S64))) := if 0 ≤ (l0.length : Int) then (if ((l0.length : Int) : Int).toNat ≤ 8796093022208 then (laws_toFactS.l0 k l0 (List.replicate ((l0.length : Int) : Int).toNat z64) 0) else (none)) else (none)
set_option maxHeartbeats 8000000 in
set_option maxRecDepth 100000 in
theorem laws_toFactS.calls (k : Nat) (A0 : Option Addr) (c0 : Nat) (l0 : List (S59)) (r : List (S64)) (w : World) (hr0 : Kd.C k59 w A0 l0.length l0) (hc0 : l0.length ≤ c0) (h : laws_toFactS.f k l0 = some r) :
  Calls Tryz.prog 11 #[.slice A0 l0.length c0] w fun e w' => ∃ v0_ : Value, e = .returned (v0_) ∧ Kd.S k64 64 w' w.heap.size (fun _ => True) v0_ r ∧ Below w.heap.size w w' := by
 have hu59:=Tryz.underlying59;have hu64:=Tryz.underlying64;have HR0:=zA hr0;have HC0:=zA hc0;clear hr0 hc0;have HB:=zA (Below.refl w.heap.size w)
 have H : (if 0 ≤ (l0.length : Int) then (if ((l0.length : Int) : Int).toNat ≤ 8796093022208 then (laws_toFactS.l0 k l0 (List.replicate ((l0.length : Int) : Int).toNat z64) 0) else (none)) else (none)) = some r:=h
 clear h
 by_cases c2 : 0 ≤ (l0.length : Int)
 ·
  rw [if_pos c2] at H;have c2b0:=eq_true c2;have c2b1:=decide_eq_true c2;clear c2
  by_cases c3 : ((l0.length : Int) : Int).toNat ≤ 8796093022208
  ·
   rw [if_pos c3] at H;have c3b0:=eq_true c3;have c3b1:=decide_eq_true c3;clear c3;obtain ⟨y310,hy310⟩ : ∃ y_ : List (S64),y_ = (List.replicate ((l0.length : Int) : Int).toNat z64):=⟨_,rfl⟩
   replace H : (laws_toFactS.l0 k l0 y310 0) = some r:=by first|(rw [hy310];with_reducible exact H)|(have H2_:=(Option.bind_some _ _).symm.trans H;rw [hy310];with_reducible exact H2_)|(have H2_:=(Option.bind_some _ _).symm.trans H;with_reducible exact H2_)|with_reducible exact H|(rw [hy310];exact H)|exact H
   have Ny310:=zA hy310;clear hy310
   have H':=zA H
   clear H
   go_enter Tryz.func11,Tryz.ntmps11
   go_wp2_with (first|((with_reducible refine gate_dst (N:=7) rfl ?_);refine Kd.S_make k64 _ 64 rfl (N:=7) rfl 40 _ _ rfl (l0.length : Int) rfl rfl Tryz.underlying40 (.agg #[(.int .i64 0),(.slice none 0 0)]) 32 info64 rfl (by decide) (by omega) z64 (ok:=fun _ => True) (okp:=fun _ => True) (k64_mkM _ _ _ z64 (Kd.R_nil _ _ _ _ _)) (fun _ hk => hk) trivial (zXb ze) (Nat.le_trans (Nat.mul_le_mul_right _ (zXb ze : (l0.length : Int).toNat ≤ 8796093022208)) (by omega)) (Below.refl _ _) (Nat.le_refl _) ?_;intro v311 w4 ho5 hb hg_ hnew_;clear hg_ hnew_;(first|rw [← Ny310.out] at ho5|(simp only [Int.reduceToNat] at ho5;rw [← Ny310.out] at ho5));have HO312:=zA (zIb ho5 (zT (zz HB)));replace HB:=zA (zJb (zz HB) hb);clear hb ho5))
   go_loopg [4] k (fun kq v4 w' => ∃ (x3_1 : List (S64)) (x4_1 : Int),v4 = .int .i64 x4_1 ∧ Aside0 (laws_toFactS.l0 kq l0 x3_1 x4_1 = some r) ∧ Aside0 (kq ≤ k) ∧ Aside0 (Kd.S k64 64 w' w.heap.size (fun _ => True) v311 x3_1) ∧ Aside0 (Below w.heap.size w w'))
   case atStart => exact ⟨(y310),(0),za,H',⟨Nat.le_refl _⟩,⟨zy HO312⟩,⟨zz HB⟩⟩
   case round =>
    clear H';(try clear c1);(try clear c2);(try clear c2b0);(try clear c2b1);(try clear p2);(try clear c3);(try clear c3b0);(try clear c3b1);obtain ⟨x3_1,x4_1,rfl,HA,HK1,HO_3,HB⟩:=hrel
    cases gk with
    | zero => exact absurd HA.out (by simp [laws_toFactS.l0])
    | succ k1 =>
     have H:=HA.out;clear HA;simp only [laws_toFactS.l0] at H
     by_cases c6 : x4_1 < (l0.length : Int)
     ·
      rw [if_pos c6] at H;have c6b0:=decide_eq_true c6;clear c6
      by_cases c7 : 0 ≤ x4_1
      ·
       rw [if_pos c7] at H;have c7b0:=decide_eq_true c7;clear c7;replace H:=Option.bind_eq_some_iff.mp H;obtain ⟨⟨t314,t315⟩,A80,H⟩:=H;(try dsimp only at H);have A8:=zA A80;clear A80
       by_cases c9 : x4_1 < (x3_1.length : Int)
       ·
        rw [if_pos c9] at H;have c9b0:=decide_eq_true c9;clear c9;obtain ⟨y318,hy318⟩ : ∃ y_ : List (S64),y_ = (x3_1.set (x4_1 : Int).toNat (⟨t314,t315⟩ : S64)):=⟨_,rfl⟩
        replace H : (laws_toFactS.l0 k1 l0 y318 (wrap64 (x4_1 + 1))) = some r:=by first|(rw [hy318];with_reducible exact H)|(have H2_:=(Option.bind_some _ _).symm.trans H;rw [hy318];with_reducible exact H2_)|(have H2_:=(Option.bind_some _ _).symm.trans H;with_reducible exact H2_)|with_reducible exact H|(rw [hy318];exact H)|exact H
        have Ny318:=zA hy318;clear hy318
        have H':=zA H
        clear H;have p313 : 0 ≤ (x4_1 : Int):=zXb ze;have q313 : x4_1 < (l0.length : Int):=zXb ze;obtain ⟨ad313,A313_1,c313_1,e313,hx313_0,hx313_1,hl313_1,hi313_1⟩:=at_T59 HR0.out x4_1 p313 q313
        cases e313
        replace hx313_0:=(HB.out.cell (World.block_lt_of_cell? w _ hx313_0)).trans hx313_0;replace hx313_1:=(HB.out.cell (World.block_lt_of_cell? w _ hx313_1)).trans hx313_1;have HR313_1:=zA hi313_1;have HC313_1:=zA hl313_1;clear hi313_1 hl313_1;replace p313:=eq_true p313;replace q313:=eq_true q313
        go_wp2_with (first|((with_reducible refine gate_callee (f:=35) rfl ?_);refine goesL_ (some 20) rfl rfl Tryz.func35 (by kernel_rfl) rfl #[.agg #[.int .i64 ((rd_T59 l0 x4_1).f0),.slice A313_1 ((rd_T59 l0 x4_1).f1).length c313_1]] rfl (by (try simp only [zCb,zMb,zNb]);first|done|rfl|(simp only [zLb,zDb];rfl)) ?_;(with_reducible refine (laws_toFact.calls k1 ((rd_T59 l0 x4_1).f0) _ _ ((rd_T59 l0 x4_1).f1) t314 t315 _ ?side1 ?side2 A8.out).mono ?_);(case side1 => exact zsd HR313_1 HB);(case side2 => exact HC313_1.out);rintro e w11 ⟨v316,rfl,ho0,hb⟩;refine ⟨_,rfl,?_⟩;replace HO_3:=zA (zSb (zy HO_3) (zW ho0) hb);have HO317:=zA (zHb ho0 (zT (zz HB)));replace HB:=zA (zJb (zz HB) hb);(try clear hb);(try clear hb2);(try clear hk);(try clear hi);(try clear ho0);have p10 : 0 ≤ (x4_1 : Int):=zXb ze;have q10 : (x4_1 : Int) < ((x3_1.length : Int) : Int):=zXb ze;obtain ⟨go10,co10,eo10,gb10,gl10,cl10,HG10⟩:=Kd.S_form HO_3.out (by omega);(first|cases eo10|(injection eo10 with ea_ en_ ec_;(first|subst ea_|(injection ea_ with ea_;subst ea_));subst ec_;clear en_));have GB10:=zA gb10;have GG10:=zA HG10;clear gb10 gl10 HG10;obtain ⟨_,ce10,hcl10,hM10,hcc10,hfr10,_,_⟩:=Kd.S_elem HO_3.out z64 (x4_1 : Int) p10 q10;obtain ⟨ve10_1,rfl,ge10_1⟩:=k64_openM hM10;have hx10_0 : w11.cell? ⟨go10,(x4_1 : Int).toNat * 2,none⟩ = some (.int .i64 ((rd_T64 x3_1 x4_1).f0)):=hcc10 0 _ rfl;have hx10_1 : w11.cell? ⟨go10,(x4_1 : Int).toNat * 2 + 1,none⟩ = some (ve10_1):=hcc10 1 _ rfl;have hf10_0 : w11.frozen? ⟨go10,(x4_1 : Int).toNat * 2,none⟩ = false:=hfr10 0;have hf10_1 : w11.frozen? ⟨go10,(x4_1 : Int).toNat * 2 + 1,none⟩ = false:=hfr10 1;clear hcl10 hcc10 hfr10 hM10;replace p10:=eq_true p10;replace q10:=eq_true q10;obtain ⟨Ao12,co12,eo12⟩:=Kd.R_slice HO317.out;subst eo12;have n_:=zA (zS (ok':=(fun k_ => some k_ ≠ (.slice Ao12 t315.length co12 : Value).ownBlock)) HO_3.out (fun k_ hk => hk.2));clear HO_3;have HO_3:=n_;clear n_;have HX13:=zA (show Kd.S k64 64 w11 w.heap.size (fun k_ => ((fun _ => True)) k_ ∧ ¬ ((fun k_ => some k_ = (.slice Ao12 t315.length co12 : Value).ownBlock)) k_) (.slice (some ⟨go10,0,none⟩) x3_1.length co10) x3_1 from (by (with_reducible repeat (first|apply zM|apply zL|apply zN));exact zS HO_3.out (fun k_ hk => ⟨trivial,fun e_ => hk e_⟩)));obtain ⟨oki13,ce13,hcl13,hM13,hcc13,hfr13,hoki13,hH13⟩:=Kd.S_elem HX13.out z64 (x4_1 : Int) (zXb ze) (by have h_ : (x4_1 : Int) < ((x3_1.length : Int) : Int):=zXb ze;first|exact h_|(have e_:=(Kd.S_reads' HO_3.out).1;omega)|simpa using h_);obtain ⟨ve13_1,rfl,ge13_1⟩:=k64_openM hM13;have HP13:=Kd.S_seg hH13 (zXb ze) (by have h_ : (x4_1 : Int) < ((x3_1.length : Int) : Int):=zXb ze;first|exact h_|(have e_:=(Kd.S_reads' HO_3.out).1;omega)|simpa using h_) (seg:=[.int .i64 t314,.slice Ao12 t315.length co12]) (j:=0) (show 2 ≤ 2 from by decide) (x':=(⟨t314,t315⟩ : S64)) (k64_mkM _ _ _ (⟨t314,t315⟩ : S64) (zGb (Kd.R_tight rfl (zGb (ok':=fun k_ => ((fun _ => True)) k_ ∧ k_ ≠ go10) (Kd.R_apart' (HO317.out) (Kd.S_typed HO_3.out) (by decide)) (fun k_ hk => ⟨trivial,fun e_ => (hk.2) (by rw [e_];rfl)⟩))) (fun _ h_ => Or.inr (h_)))) (fun _ hk => hk) (fun k_ hk_ => ((zGb (ok':=fun k_ => ((fun _ => True)) k_ ∧ k_ ≠ go10) (Kd.R_apart' (HO317.out) (Kd.S_typed HO_3.out) (by decide)) (fun k_ hk => ⟨trivial,fun e_ => (hk.2) (by rw [e_];rfl)⟩))).1 k_ hk_.symm);have hx13_0:=hcc13 0 _ rfl;(try simp only [show (k64).sz = 2 from rfl,Nat.mul_one,Nat.add_zero] at hx13_0);have hf13_0:=hfr13 0;(try simp only [show (k64).sz = 2 from rfl,Nat.mul_one,Nat.add_zero] at hf13_0);have hx13_1:=hcc13 1 _ rfl;(try simp only [show (k64).sz = 2 from rfl,Nat.mul_one,Nat.add_zero] at hx13_1);have hf13_1:=hfr13 1;(try simp only [show (k64).sz = 2 from rfl,Nat.mul_one,Nat.add_zero] at hf13_1);clear hcl13 hcc13 hfr13 hM13 hoki13 hH13)|((with_reducible refine gate_store (t:=64) (p:=21) rfl ?_);refine store_event (t:=64) (p:=21) (v:=?vo_w14) (w1:=((w11.setCell ⟨go10,(x4_1 : Int).toNat * 2,none⟩ (.int .i64 t314)).setCell ⟨go10,(x4_1 : Int).toNat * 2 + 1,none⟩ (.slice Ao12 t315.length co12))) ?hg ?ho ?hn ?hr ?_;(case ho => rfl);(case hg => rfl);(case hn => rfl);(case hr => first|(go_simp;done)|(go_simp;rfl));intro w14 hw;have hg : w11.grownBy w14 (some go10):=(by rw [hw];exact HP13.2);have hp_ : Kd.S k64 64 w14 w.heap.size (fun _ => True) (.slice (some ⟨go10,0,none⟩) x3_1.length co10) y318:=(by rw [hw,Ny318.out];exact HP13.1);clear HP13;replace HO_3:=zA (hp_);replace HB:=zA ((by rw [hw];exact zB (zB (HB.out) GB10.out) GB10.out : Below w.heap.size w w14));clear HO317;clear hg hw hp_))
        go_roundg k1
        case measure => have:=HK1.out;omega
        case rel => exact ⟨(y318),(wrap64 (x4_1 + 1)),za,H',⟨by have:=HK1.out;omega⟩,⟨zy HO_3⟩,⟨zz HB⟩⟩
       ·
        rw [if_neg c9] at H
        exact absurd H (by simp)
      ·
       rw [if_neg c7] at H
       exact absurd H (by simp)
     ·
      rw [if_neg c6] at H;have c6b0:=decide_eq_false c6;clear c6
      obtain rfl:=Option.some.inj H
      go_wp2
      go_ret
      exact ⟨_,by first|rfl|(simp [errW_none,errW_some] <;> rfl)|(simp [*,errW_none,errW_some] <;> rfl),zy HO_3,zz HB⟩
  ·
   rw [if_neg c3] at H
   exact absurd H (by simp)
 ·
  rw [if_neg c2] at H
  exact absurd H (by simp)

/-! ### impl_within: function 58 -/
def impl_within.f (a0 : Int) (a1 : Int) (a2 : Int) : Option (Bool) := if a0 ≥ a1 then (some (decide (a0 ≤ a2))) else (some false)
set_option maxHeartbeats 8000000 in
set_option maxRecDepth 100000 in
theorem impl_within.calls (a0 : Int) (a1 : Int) (a2 : Int) (r : Bool) (w : World) (h : impl_within.f a0 a1 a2 = some r) :
  Calls Tryz.prog 58 #[.int .i64 a0, .int .i64 a1, .int .i64 a2] w fun e w' => e = .returned (.bool r) ∧ Drawn0 w w' := by
 have H : (if a0 ≥ a1 then (some (decide (a0 ≤ a2))) else (some false)) = some r:=h
 clear h
 by_cases c4 : a0 ≥ a1
 ·
  rw [if_pos c4] at H
  have c4b0 : decide (a1 ≤ a0) = true:=decide_eq_true c4
  clear c4
  obtain rfl:=Option.some.inj H
  go_enter Tryz.func58,Tryz.ntmps58
  go_wp2
  go_ret
  exact ⟨by first|rfl|(simp;done)|(simp [*];done),by repeat (first|exact Drawn0.refl _|apply Drawn0.step)⟩
 ·
  rw [if_neg c4] at H
  have c4b0 : decide (a1 ≤ a0) = false:=decide_eq_false c4
  clear c4
  obtain rfl:=Option.some.inj H
  go_enter Tryz.func58,Tryz.ntmps58
  go_wp2
  go_ret
  exact ⟨by first|rfl|(simp;done)|(simp [*];done),by repeat (first|exact Drawn0.refl _|apply Drawn0.step)⟩

/-! ### impl_IsSchema: function 56 -/
def impl_IsSchema.l0 : Nat → List Int → Int → Int → List Int → Option (Bool)
 | 0, _, _, _, _ => none
 | k + 1, x6, x7, x8, x320000 => if x8 < x7 then (if 0 ≤ x8 then (if x8 < (x6.length : Int) then ((impl_within.f (rd x6 x8) 1 3).bind fun t321 => (if t321 = true then (impl_IsSchema.l0 k x6 x7 (wrap64 (x8 + 1)) x320000) else (some false))) else (none)) else (none)) else ((impl_within.f (x320000.length : Int) 1 4).bind fun t322 => (some t322))
def impl_IsSchema.f (k : Nat) (l0_0 : List Int) : Option (Bool) := impl_IsSchema.l0 k l0_0 (l0_0.length : Int) 0 l0_0
set_option maxHeartbeats 8000000 in
set_option maxRecDepth 100000 in
theorem impl_IsSchema.calls (k : Nat) (A0_0 : Option Addr) (c0_0 : Nat) (l0_0 : List Int) (r : Bool) (w : World) (hr0_0 : Kd.C (Kd.int .i64) w A0_0 l0_0.length l0_0) (hc0_0 : l0_0.length ≤ c0_0) (h : impl_IsSchema.f k l0_0 = some r) :
  Calls Tryz.prog 56 #[.agg #[.slice A0_0 l0_0.length c0_0]] w fun e w' => e = .returned (.bool r) ∧ Below w.heap.size w w' := by
 have hu34:=Tryz.underlying34;have HR0_0:=zA hr0_0;have HC0_0:=zA hc0_0;clear hr0_0 hc0_0;have HB:=zA (Below.refl w.heap.size w)
 have H : (impl_IsSchema.l0 k l0_0 (l0_0.length : Int) 0 l0_0) = some r:=h
 clear h
 have H':=zA H
 clear H
 go_enter Tryz.func56,Tryz.ntmps56
 go_wp2_with (first|((with_reducible refine gate_dst (N:=1) rfl ?_);refine box_event ?hg (N:=1) ?hd (cs:=#[.slice A0_0 l0_0.length c0_0]) (t:=34) ?hr ?_;(case hd => rfl);(case hg => rfl);(case hr => first|(go_simp;done)|(go_simp;rfl));intro gb319 hg w2 hbox hb;have BK319:=zA (hbox);have GW319:=zA ((by rw [hg];exact (zT (zz HB)) : w.heap.size ≤ gb319));have GE319:=zA ((by rw [hg];exact (zT (zz HB)) : w.heap.size ≤ gb319));replace HB:=zA (zJb (zz HB) hb);clear hb hbox hg;have hcz3_0:=zc (.slice A0_0 l0_0.length c0_0) BK319 0 rfl;have hfz3_0:=blk_frozen BK319.out 0))
 go_loopg [8] k (fun kq v8 w' => ∃ (x8_1 : Int),v8 = .int .i64 x8_1 ∧ Aside0 (impl_IsSchema.l0 kq l0_0 (l0_0.length : Int) x8_1 l0_0 = some r) ∧ Aside0 (kq ≤ k) ∧ Aside0 (w'.heap[gb319]? = some (.cells #[(.slice A0_0 l0_0.length c0_0)] 34 (0,0))) ∧ Aside0 (Below w.heap.size w w'))
 case atStart => exact ⟨(0),za,H',⟨Nat.le_refl _⟩,⟨zx BK319⟩,⟨zz HB⟩⟩
 case round =>
  clear H';(try clear p2);(try clear hcz3_0);(try clear hfz3_0);obtain ⟨x8_1,rfl,HA,HK1,BK319,HB⟩:=hrel
  cases gk with
  | zero => exact absurd HA.out (by simp [impl_IsSchema.l0])
  | succ k1 =>
   have H:=HA.out;clear HA;simp only [impl_IsSchema.l0] at H
   by_cases c4 : x8_1 < (l0_0.length : Int)
   ·
    rw [if_pos c4] at H;have c4b0:=decide_eq_true c4;clear c4
    by_cases c5 : 0 ≤ x8_1
    ·
     rw [if_pos c5] at H;have c5b0:=decide_eq_true c5;clear c5
     by_cases c6 : x8_1 < (l0_0.length : Int)
     ·
      rw [if_pos c6] at H;have c6b0:=decide_eq_true c6;clear c6;replace H:=Option.bind_eq_some_iff.mp H;obtain ⟨t321,A70,H⟩:=H;(try dsimp only at H);have A7:=zA A70;clear A70
      by_cases c8 : t321 = true
      ·
       subst c8
       rw [if_pos rfl] at H
       have H':=zA H
       clear H;have p320 : 0 ≤ (x8_1 : Int):=zXb ze;have q320 : x8_1 < (l0_0.length : Int):=zXb ze;obtain ⟨ad320,e320,hx320_0⟩:=Kd.at_int HR0_0.out x8_1 p320 q320
       cases e320
       replace hx320_0:=(HB.out.cell (World.block_lt_of_cell? w _ hx320_0)).trans hx320_0;replace p320:=eq_true p320;replace q320:=eq_true q320
       go_wp2_with (first|((with_reducible refine gate_callee (f:=58) rfl ?_);refine goesL_ (some 13) rfl rfl Tryz.func58 (by kernel_rfl) rfl #[.int .i64 (rd l0_0 x8_1),.int .i64 1,.int .i64 3] rfl (by (try simp only [zCb,zMb,zNb]);first|done|rfl|(simp only [zLb,zDb];rfl)) ?_;(with_reducible refine (impl_within.calls (rd l0_0 x8_1) 1 3 true _ A7.out).mono ?_);rintro e w' ⟨rfl,⟨nd,rfl⟩⟩;refine ⟨_,rfl,?_⟩))
       go_roundg k1
       case measure => have:=HK1.out;omega
       case rel => exact ⟨(wrap64 (x8_1 + 1)),za,H',⟨by have:=HK1.out;omega⟩,⟨zx BK319⟩,⟨zz HB⟩⟩
      ·
       replace c8:=Bool.eq_false_iff.mpr c8
       subst c8
       have H1 : (some false) = some r:=by rw [if_neg (show ¬ (false = true) by decide)] at H;exact H
       clear H;have H:=H1;clear H1
       obtain rfl:=Option.some.inj H
       have p320 : 0 ≤ (x8_1 : Int):=zXb ze;have q320 : x8_1 < (l0_0.length : Int):=zXb ze;obtain ⟨ad320,e320,hx320_0⟩:=Kd.at_int HR0_0.out x8_1 p320 q320
       cases e320
       replace hx320_0:=(HB.out.cell (World.block_lt_of_cell? w _ hx320_0)).trans hx320_0;replace p320:=eq_true p320;replace q320:=eq_true q320
       go_wp2_with (first|((with_reducible refine gate_callee (f:=58) rfl ?_);refine goesL_ (some 13) rfl rfl Tryz.func58 (by kernel_rfl) rfl #[.int .i64 (rd l0_0 x8_1),.int .i64 1,.int .i64 3] rfl (by (try simp only [zCb,zMb,zNb]);first|done|rfl|(simp only [zLb,zDb];rfl)) ?_;(with_reducible refine (impl_within.calls (rd l0_0 x8_1) 1 3 false _ A7.out).mono ?_);rintro e w' ⟨rfl,⟨nd,rfl⟩⟩;refine ⟨_,rfl,?_⟩))
       go_ret
       exact ⟨by first|rfl|(simp [errW_none,errW_some] <;> rfl)|(simp [*,errW_none,errW_some] <;> rfl),zz HB⟩
     ·
      rw [if_neg c6] at H
      exact absurd H (by simp)
    ·
     rw [if_neg c5] at H
     exact absurd H (by simp)
   ·
    rw [if_neg c4] at H;have c4b0:=decide_eq_false c4;clear c4;replace H:=Option.bind_eq_some_iff.mp H;obtain ⟨t322,A90,H⟩:=H;(try dsimp only at H);have A9:=zA A90;clear A90
    obtain rfl:=Option.some.inj H
    have hcz10_0:=zc (.slice A0_0 l0_0.length c0_0) BK319 0 rfl;have hfz10_0:=blk_frozen BK319.out 0
    go_wp2_with (first|((with_reducible refine gate_callee (f:=58) rfl ?_);refine goesL_ (some 19) rfl rfl Tryz.func58 (by kernel_rfl) rfl #[.int .i64 (l0_0.length : Int),.int .i64 1,.int .i64 4] rfl (by (try simp only [zCb,zMb,zNb]);first|done|rfl|(simp only [zLb,zDb];rfl)) ?_;(with_reducible refine (impl_within.calls (l0_0.length : Int) 1 4 t322 _ A9.out).mono ?_);rintro e w' ⟨rfl,⟨nd,rfl⟩⟩;refine ⟨_,rfl,?_⟩))
    go_ret
    exact ⟨by first|rfl|(simp [errW_none,errW_some] <;> rfl)|(simp [*,errW_none,errW_some] <;> rfl),zz HB⟩

/-! ### impl_IsTerm: function 77 -/
def impl_IsTerm.f (a0 : Int) : Option (Bool) := (impl_within.f a0 (-80) 19).bind fun t323 => (some t323)
set_option maxHeartbeats 8000000 in
set_option maxRecDepth 100000 in
theorem impl_IsTerm.calls (a0 : Int) (r : Bool) (w : World) (h : impl_IsTerm.f a0 = some r) :
  Calls Tryz.prog 77 #[.int .i64 a0] w fun e w' => e = .returned (.bool r) ∧ Drawn0 w w' := by
 have H : ((impl_within.f a0 (-80) 19).bind fun t323 => (some t323)) = some r:=h
 clear h;replace H:=Option.bind_eq_some_iff.mp H;obtain ⟨t323,A20,H⟩:=H;(try dsimp only at H);have A2:=zA A20;clear A20
 obtain rfl:=Option.some.inj H
 go_enter Tryz.func77,Tryz.ntmps77
 go_wp2_with (first|((with_reducible refine gate_callee (f:=58) rfl ?_);refine goesL_ (some 4) rfl rfl Tryz.func58 (by kernel_rfl) rfl #[.int .i64 a0,.int .i64 (-80),.int .i64 19] rfl (by (try simp only [zCb,zMb,zNb]);first|done|rfl|(simp only [zLb,zDb];rfl)) ?_;(with_reducible refine (impl_within.calls a0 (-80) 19 t323 _ A2.out).mono ?_);rintro e w' ⟨rfl,⟨nd,rfl⟩⟩;refine ⟨_,rfl,?_⟩))
 go_ret
 exact ⟨by first|rfl|(simp;done)|(simp [*];done),by repeat (first|exact Drawn0.refl _|apply Drawn0.step)⟩

/-! ### impl_areTerms: function 57 -/
def impl_areTerms.l0 : Nat → List Int → Int → Int → Option (Bool)
 | 0, _, _, _ => none
 | k + 1, x5, x6, x7 => if x7 < x6 then (if 0 ≤ x7 then (if x7 < (x5.length : Int) then ((impl_IsTerm.f (rd x5 x7)).bind fun t325 => (if t325 = true then (impl_areTerms.l0 k x5 x6 (wrap64 (x7 + 1))) else (some false))) else (none)) else (none)) else (some true)
def impl_areTerms.f (k : Nat) (l0 : List Int) : Option (Bool) := impl_areTerms.l0 k l0 (l0.length : Int) 0
set_option maxHeartbeats 8000000 in
set_option maxRecDepth 100000 in
theorem impl_areTerms.calls (k : Nat) (A0 : Option Addr) (c0 : Nat) (l0 : List Int) (r : Bool) (w : World) (hr0 : Kd.C (Kd.int .i64) w A0 l0.length l0) (hc0 : l0.length ≤ c0) (h : impl_areTerms.f k l0 = some r) :
  Calls Tryz.prog 57 #[.slice A0 l0.length c0] w fun e w' => e = .returned (.bool r) ∧ Drawn0 w w' := by
 have HR0:=zA hr0;have HC0:=zA hc0;clear hr0 hc0
 have H : (impl_areTerms.l0 k l0 (l0.length : Int) 0) = some r:=h
 clear h
 have H':=zA H
 clear H
 go_enter Tryz.func57,Tryz.ntmps57
 go_wp2
 go_loopg [7] k (fun kq v7 w' => ∃ (x7_1 : Int),v7 = .int .i64 x7_1 ∧ Aside0 (impl_areTerms.l0 kq l0 (l0.length : Int) x7_1 = some r) ∧ Aside0 (kq ≤ k) ∧ Drawn0 w w')
 case atStart => exact ⟨(0),za,H',⟨Nat.le_refl _⟩,by repeat (first|exact Drawn0.refl _|apply Drawn0.step)⟩
 case round =>
  clear H';obtain ⟨x7_1,rfl,HA,HK1,⟨m1,rfl⟩⟩:=hrel
  cases gk with
  | zero => exact absurd HA.out (by simp [impl_areTerms.l0])
  | succ k1 =>
   have H:=HA.out;clear HA;simp only [impl_areTerms.l0] at H
   by_cases c2 : x7_1 < (l0.length : Int)
   ·
    rw [if_pos c2] at H;have c2b0:=decide_eq_true c2;clear c2
    by_cases c3 : 0 ≤ x7_1
    ·
     rw [if_pos c3] at H;have c3b0:=decide_eq_true c3;clear c3
     by_cases c4 : x7_1 < (l0.length : Int)
     ·
      rw [if_pos c4] at H;have c4b0:=decide_eq_true c4;clear c4;replace H:=Option.bind_eq_some_iff.mp H;obtain ⟨t325,A50,H⟩:=H;(try dsimp only at H);have A5:=zA A50;clear A50
      by_cases c6 : t325 = true
      ·
       subst c6
       rw [if_pos rfl] at H
       have H':=zA H
       clear H;have p324 : 0 ≤ (x7_1 : Int):=zXb ze;have q324 : x7_1 < (l0.length : Int):=zXb ze;obtain ⟨ad324,e324,hx324_0⟩:=Kd.at_int HR0.out x7_1 p324 q324
       cases e324
       replace p324:=eq_true p324;replace q324:=eq_true q324
       go_wp2_with (first|((with_reducible refine gate_callee (f:=77) rfl ?_);refine goesL_ (some 12) rfl rfl Tryz.func77 (by kernel_rfl) rfl #[.int .i64 (rd l0 x7_1)] rfl (by (try simp only [zCb,zMb,zNb]);first|done|rfl|(simp only [zLb,zDb];rfl)) ?_;(with_reducible refine (impl_IsTerm.calls (rd l0 x7_1) true _ A5.out).mono ?_);rintro e w' ⟨rfl,⟨nd,rfl⟩⟩;refine ⟨_,rfl,?_⟩))
       go_roundg k1
       case measure => have:=HK1.out;omega
       case rel => exact ⟨(wrap64 (x7_1 + 1)),za,H',⟨by have:=HK1.out;omega⟩,by repeat (first|exact Drawn0.refl _|apply Drawn0.step)⟩
      ·
       replace c6:=Bool.eq_false_iff.mpr c6
       subst c6
       have H1 : (some false) = some r:=by rw [if_neg (show ¬ (false = true) by decide)] at H;exact H
       clear H;have H:=H1;clear H1
       obtain rfl:=Option.some.inj H
       have p324 : 0 ≤ (x7_1 : Int):=zXb ze;have q324 : x7_1 < (l0.length : Int):=zXb ze;obtain ⟨ad324,e324,hx324_0⟩:=Kd.at_int HR0.out x7_1 p324 q324
       cases e324
       replace p324:=eq_true p324;replace q324:=eq_true q324
       go_wp2_with (first|((with_reducible refine gate_callee (f:=77) rfl ?_);refine goesL_ (some 12) rfl rfl Tryz.func77 (by kernel_rfl) rfl #[.int .i64 (rd l0 x7_1)] rfl (by (try simp only [zCb,zMb,zNb]);first|done|rfl|(simp only [zLb,zDb];rfl)) ?_;(with_reducible refine (impl_IsTerm.calls (rd l0 x7_1) false _ A5.out).mono ?_);rintro e w' ⟨rfl,⟨nd,rfl⟩⟩;refine ⟨_,rfl,?_⟩))
       go_ret
       exact ⟨by first|rfl|(simp;done)|(simp [*];done),by repeat (first|exact Drawn0.refl _|apply Drawn0.step)⟩
     ·
      rw [if_neg c4] at H
      exact absurd H (by simp)
    ·
     rw [if_neg c3] at H
     exact absurd H (by simp)
   ·
    rw [if_neg c2] at H;have c2b0:=decide_eq_false c2;clear c2
    obtain rfl:=Option.some.inj H
    go_wp2
    go_ret
    exact ⟨by first|rfl|(simp;done)|(simp [*];done),by repeat (first|exact Drawn0.refl _|apply Drawn0.step)⟩

/-! ### impl_Schema_takes: function 78 -/
def impl_Schema_takes.f (k : Nat) (l0_0 : List Int) (a1 : Int) (a2 : Int) : Option (Bool) := (impl_IsSchema.f k l0_0).bind fun t327 => (if t327 = true then ((impl_within.f a1 0 (wrap64 ((l0_0.length : Int) - 1))).bind fun t328 => (if t328 = true then (if 0 ≤ a1 then (if a1 < (l0_0.length : Int) then (some ((rd l0_0 a1) == a2)) else (none)) else (none)) else (some false))) else (some false))
set_option maxHeartbeats 8000000 in
set_option maxRecDepth 100000 in
theorem impl_Schema_takes.calls (k : Nat) (A0_0 : Option Addr) (c0_0 : Nat) (l0_0 : List Int) (a1 : Int) (a2 : Int) (r : Bool) (w : World) (hr0_0 : Kd.C (Kd.int .i64) w A0_0 l0_0.length l0_0) (hc0_0 : l0_0.length ≤ c0_0) (h : impl_Schema_takes.f k l0_0 a1 a2 = some r) :
  Calls Tryz.prog 78 #[.agg #[.slice A0_0 l0_0.length c0_0], .int .i64 a1, .int .i64 a2] w fun e w' => e = .returned (.bool r) ∧ Below w.heap.size w w' := by
 have hu34:=Tryz.underlying34;have HR0_0:=zA hr0_0;have HC0_0:=zA hc0_0;clear hr0_0 hc0_0;have HB:=zA (Below.refl w.heap.size w)
 have H : ((impl_IsSchema.f k l0_0).bind fun t327 => (if t327 = true then ((impl_within.f a1 0 (wrap64 ((l0_0.length : Int) - 1))).bind fun t328 => (if t328 = true then (if 0 ≤ a1 then (if a1 < (l0_0.length : Int) then (some ((rd l0_0 a1) == a2)) else (none)) else (none)) else (some false))) else (some false))) = some r:=h
 clear h;replace H:=Option.bind_eq_some_iff.mp H;obtain ⟨t327,A40,H⟩:=H;(try dsimp only at H);have A4:=zA A40;clear A40
 by_cases c5 : t327 = true
 ·
  subst c5
  rw [if_pos rfl] at H;replace H:=Option.bind_eq_some_iff.mp H;obtain ⟨t328,A60,H⟩:=H;(try dsimp only at H);have A6:=zA A60;clear A60
  by_cases c7 : t328 = true
  ·
   subst c7
   rw [if_pos rfl] at H
   by_cases c8 : 0 ≤ a1
   ·
    rw [if_pos c8] at H;have c8b0:=decide_eq_true c8;clear c8
    by_cases c9 : a1 < (l0_0.length : Int)
    ·
     rw [if_pos c9] at H;have c9b0:=decide_eq_true c9;clear c9
     obtain rfl:=Option.some.inj H
     go_enter Tryz.func78,Tryz.ntmps78
     go_wp2_with (first|((with_reducible refine gate_dst (N:=3) rfl ?_);(try (refine gate_guard (by rfl) ?_;dsimp only));refine box_event ?hg (N:=3) ?hd (cs:=#[.slice A0_0 l0_0.length c0_0]) (t:=34) ?hr ?_;(case hd => rfl);(case hg => rfl);(case hr => first|(go_simp;done)|(go_simp;rfl));intro gb326 hg w10 hbox hb;have BK326:=zA (hbox);have GW326:=zA ((by rw [hg];exact (zT (zz HB)) : w.heap.size ≤ gb326));have GE326:=zA ((by rw [hg];exact (zT (zz HB)) : w.heap.size ≤ gb326));replace HB:=zA (zJb (zz HB) hb);clear hb hbox hg;have hcz11_0:=zc (.slice A0_0 l0_0.length c0_0) BK326 0 rfl;have hfz11_0:=blk_frozen BK326.out 0)|((with_reducible refine gate_callee (f:=56) rfl ?_);refine goesL_ (some 8) rfl rfl Tryz.func56 (by kernel_rfl) rfl #[.agg #[.slice A0_0 l0_0.length c0_0]] rfl (by (try simp only [zCb,zMb,zNb]);first|done|rfl|(simp only [zLb,zDb];rfl)) ?_;(with_reducible refine (impl_IsSchema.calls k _ _ l0_0 true _ ?side1 ?side2 A4.out).mono ?_);(case side1 => exact zsd HR0_0 HB);(case side2 => exact HC0_0.out);rintro e w12 ⟨rfl,hb⟩;refine ⟨_,rfl,?_⟩;replace BK326:=zA (zQ (g:=gb326) (o:=.cells #[.slice A0_0 l0_0.length c0_0] 34 (0,0)) (zx BK326) hb);replace HB:=zA (zJb (zz HB) hb);(try clear hb);(try clear hb2);(try clear hk);(try clear hi);have hcz13_0:=zc (.slice A0_0 l0_0.length c0_0) BK326 0 rfl;have hfz13_0:=blk_frozen BK326.out 0)|(go_at_call 58;(with_reducible refine (impl_within.calls a1 0 (wrap64 ((l0_0.length : Int) - 1)) true _ A6.out).mono ?_);rintro e w' ⟨rfl,⟨nd,rfl⟩⟩;have p329 : 0 ≤ (a1 : Int):=zXb ze;have q329 : a1 < (l0_0.length : Int):=zXb ze;obtain ⟨ad329,e329,hx329_0⟩:=Kd.at_int HR0_0.out a1 p329 q329;cases e329;replace hx329_0:=(HB.out.cell (World.block_lt_of_cell? w _ hx329_0)).trans hx329_0;replace p329:=eq_true p329;replace q329:=eq_true q329))
     go_ret
     exact ⟨by first|rfl|(simp [errW_none,errW_some] <;> rfl)|(simp [*,errW_none,errW_some] <;> rfl),zz HB⟩
    ·
     rw [if_neg c9] at H
     exact absurd H (by simp)
   ·
    rw [if_neg c8] at H
    exact absurd H (by simp)
  ·
   replace c7:=Bool.eq_false_iff.mpr c7
   subst c7
   have H1 : (some false) = some r:=by rw [if_neg (show ¬ (false = true) by decide)] at H;exact H
   clear H;have H:=H1;clear H1
   obtain rfl:=Option.some.inj H
   go_enter Tryz.func78,Tryz.ntmps78
   go_wp2_with (first|((with_reducible refine gate_dst (N:=3) rfl ?_);(try (refine gate_guard (by rfl) ?_;dsimp only));refine box_event ?hg (N:=3) ?hd (cs:=#[.slice A0_0 l0_0.length c0_0]) (t:=34) ?hr ?_;(case hd => rfl);(case hg => rfl);(case hr => first|(go_simp;done)|(go_simp;rfl));intro gb326 hg w14 hbox hb;have BK326:=zA (hbox);have GW326:=zA ((by rw [hg];exact (zT (zz HB)) : w.heap.size ≤ gb326));have GE326:=zA ((by rw [hg];exact (zT (zz HB)) : w.heap.size ≤ gb326));replace HB:=zA (zJb (zz HB) hb);clear hb hbox hg;have hcz15_0:=zc (.slice A0_0 l0_0.length c0_0) BK326 0 rfl;have hfz15_0:=blk_frozen BK326.out 0)|((with_reducible refine gate_callee (f:=56) rfl ?_);refine goesL_ (some 8) rfl rfl Tryz.func56 (by kernel_rfl) rfl #[.agg #[.slice A0_0 l0_0.length c0_0]] rfl (by (try simp only [zCb,zMb,zNb]);first|done|rfl|(simp only [zLb,zDb];rfl)) ?_;(with_reducible refine (impl_IsSchema.calls k _ _ l0_0 true _ ?side1 ?side2 A4.out).mono ?_);(case side1 => exact zsd HR0_0 HB);(case side2 => exact HC0_0.out);rintro e w16 ⟨rfl,hb⟩;refine ⟨_,rfl,?_⟩;replace BK326:=zA (zQ (g:=gb326) (o:=.cells #[.slice A0_0 l0_0.length c0_0] 34 (0,0)) (zx BK326) hb);replace HB:=zA (zJb (zz HB) hb);(try clear hb);(try clear hb2);(try clear hk);(try clear hi);have hcz17_0:=zc (.slice A0_0 l0_0.length c0_0) BK326 0 rfl;have hfz17_0:=blk_frozen BK326.out 0)|(go_at_call 58;(with_reducible refine (impl_within.calls a1 0 (wrap64 ((l0_0.length : Int) - 1)) false _ A6.out).mono ?_);rintro e w' ⟨rfl,⟨nd,rfl⟩⟩))
   go_ret
   exact ⟨by first|rfl|(simp [errW_none,errW_some] <;> rfl)|(simp [*,errW_none,errW_some] <;> rfl),zz HB⟩
 ·
  replace c5:=Bool.eq_false_iff.mpr c5
  subst c5
  have H1 : (some false) = some r:=by rw [if_neg (show ¬ (false = true) by decide)] at H;exact H
  clear H;have H:=H1;clear H1
  obtain rfl:=Option.some.inj H
  go_enter Tryz.func78,Tryz.ntmps78
  go_wp2_with (first|((with_reducible refine gate_dst (N:=3) rfl ?_);(try (refine gate_guard (by rfl) ?_;dsimp only));refine box_event ?hg (N:=3) ?hd (cs:=#[.slice A0_0 l0_0.length c0_0]) (t:=34) ?hr ?_;(case hd => rfl);(case hg => rfl);(case hr => first|(go_simp;done)|(go_simp;rfl));intro gb326 hg w18 hbox hb;have BK326:=zA (hbox);have GW326:=zA ((by rw [hg];exact (zT (zz HB)) : w.heap.size ≤ gb326));have GE326:=zA ((by rw [hg];exact (zT (zz HB)) : w.heap.size ≤ gb326));replace HB:=zA (zJb (zz HB) hb);clear hb hbox hg;have hcz19_0:=zc (.slice A0_0 l0_0.length c0_0) BK326 0 rfl;have hfz19_0:=blk_frozen BK326.out 0)|((with_reducible refine gate_callee (f:=56) rfl ?_);refine goesL_ (some 8) rfl rfl Tryz.func56 (by kernel_rfl) rfl #[.agg #[.slice A0_0 l0_0.length c0_0]] rfl (by (try simp only [zCb,zMb,zNb]);first|done|rfl|(simp only [zLb,zDb];rfl)) ?_;(with_reducible refine (impl_IsSchema.calls k _ _ l0_0 false _ ?side1 ?side2 A4.out).mono ?_);(case side1 => exact zsd HR0_0 HB);(case side2 => exact HC0_0.out);rintro e w20 ⟨rfl,hb⟩;refine ⟨_,rfl,?_⟩;replace BK326:=zA (zQ (g:=gb326) (o:=.cells #[.slice A0_0 l0_0.length c0_0] 34 (0,0)) (zx BK326) hb);replace HB:=zA (zJb (zz HB) hb);(try clear hb);(try clear hb2);(try clear hk);(try clear hi)))
  go_ret
  exact ⟨by first|rfl|(simp [errW_none,errW_some] <;> rfl)|(simp [*,errW_none,errW_some] <;> rfl),zz HB⟩

/-! ### impl_IsAtom: function 59 -/
def impl_IsAtom.f (k : Nat) (l0_0 : List Int) (a1_0 : Int) (l1_1 : List Int) : Option (Bool) := (impl_Schema_takes.f k l0_0 a1_0 (l1_1.length : Int)).bind fun t332 => (if t332 = true then ((impl_areTerms.f k l1_1).bind fun t333 => (some t333)) else (some false))
set_option maxHeartbeats 8000000 in
set_option maxRecDepth 100000 in
theorem impl_IsAtom.calls (k : Nat) (A0_0 : Option Addr) (c0_0 : Nat) (l0_0 : List Int) (a1_0 : Int) (A1_1 : Option Addr) (c1_1 : Nat) (l1_1 : List Int) (r : Bool) (w : World) (hr0_0 : Kd.C (Kd.int .i64) w A0_0 l0_0.length l0_0) (hc0_0 : l0_0.length ≤ c0_0) (hr1_1 : Kd.C (Kd.int .i64) w A1_1 l1_1.length l1_1) (hc1_1 : l1_1.length ≤ c1_1) (h : impl_IsAtom.f k l0_0 a1_0 l1_1 = some r) :
  Calls Tryz.prog 59 #[.agg #[.slice A0_0 l0_0.length c0_0], .agg #[.int .i64 a1_0, .slice A1_1 l1_1.length c1_1]] w fun e w' => e = .returned (.bool r) ∧ Below w.heap.size w w' := by
 have hu34:=Tryz.underlying34;have hu81:=Tryz.underlying81;have HR0_0:=zA hr0_0;have HC0_0:=zA hc0_0;clear hr0_0 hc0_0;have HR1_1:=zA hr1_1;have HC1_1:=zA hc1_1;clear hr1_1 hc1_1;have HB:=zA (Below.refl w.heap.size w)
 have H : ((impl_Schema_takes.f k l0_0 a1_0 (l1_1.length : Int)).bind fun t332 => (if t332 = true then ((impl_areTerms.f k l1_1).bind fun t333 => (some t333)) else (some false))) = some r:=h
 clear h;replace H:=Option.bind_eq_some_iff.mp H;obtain ⟨t332,A30,H⟩:=H;(try dsimp only at H);have A3:=zA A30;clear A30
 by_cases c4 : t332 = true
 ·
  subst c4
  rw [if_pos rfl] at H;replace H:=Option.bind_eq_some_iff.mp H;obtain ⟨t333,A50,H⟩:=H;(try dsimp only at H);have A5:=zA A50;clear A50
  obtain rfl:=Option.some.inj H
  go_enter Tryz.func59,Tryz.ntmps59
  go_wp2_with (first|((with_reducible refine gate_dst (N:=2) rfl ?_);refine box_event ?hg (N:=2) ?hd (cs:=#[.slice A0_0 l0_0.length c0_0]) (t:=34) ?hr ?_;(case hd => rfl);(case hg => rfl);(case hr => first|(go_simp;done)|(go_simp;rfl));intro gb330 hg w6 hbox hb;have BK330:=zA (hbox);have GW330:=zA ((by rw [hg];exact (zT (zz HB)) : w.heap.size ≤ gb330));have GE330:=zA ((by rw [hg];exact (zT (zz HB)) : w.heap.size ≤ gb330));replace HB:=zA (zJb (zz HB) hb);clear hb hbox hg)|((with_reducible refine gate_dst (N:=3) rfl ?_);refine box_event ?hg (N:=3) ?hd (cs:=#[.int .i64 a1_0,.slice A1_1 l1_1.length c1_1]) (t:=81) ?hr ?_;(case hd => rfl);(case hg => rfl);(case hr => first|(go_simp;done)|(go_simp;rfl));intro gb331 hg w7 hbox hb;have BK331:=zA (hbox);have GW331:=zA ((by rw [hg];exact (zT (zz HB)) : w.heap.size ≤ gb331));have GE331:=zA ((by rw [hg];exact (zT (zz HB)) : w.heap.size ≤ gb331));replace HB:=zA (zJb (zz HB) hb);have NB330_331:=zA ((by rw [hg];exact Nat.ne_of_lt (blk_lt (g:=gb330) (o:=.cells #[.slice A0_0 l0_0.length c0_0] 34 (0,0)) (zx BK330)) : gb330 ≠ gb331));have NB331_330:=zA ((by rw [hg];exact Nat.ne_of_gt (blk_lt (g:=gb330) (o:=.cells #[.slice A0_0 l0_0.length c0_0] 34 (0,0)) (zx BK330)) : gb331 ≠ gb330));replace BK330:=zA (zQ (g:=gb330) (o:=.cells #[.slice A0_0 l0_0.length c0_0] 34 (0,0)) (zx BK330) hb);clear hb hbox hg;have hnb8:=NB330_331.out;have hnc8:=NB331_330.out;have hcz9_0:=zc (.slice A0_0 l0_0.length c0_0) BK330 0 rfl;have hfz9_0:=blk_frozen BK330.out 0;have hcz10_0:=zc (.int .i64 a1_0) BK331 0 rfl;have hcz10_1:=zc (.slice A1_1 l1_1.length c1_1) BK331 1 rfl;have hfz10_0:=blk_frozen BK331.out 0;have hfz10_1:=blk_frozen BK331.out 1)|((with_reducible refine gate_callee (f:=78) rfl ?_);refine goesL_ (some 11) rfl rfl Tryz.func78 (by kernel_rfl) rfl #[.agg #[.slice A0_0 l0_0.length c0_0],.int .i64 a1_0,.int .i64 (l1_1.length : Int)] rfl (by (try simp only [zCb,zMb,zNb]);first|done|rfl|(simp only [zLb,zDb];rfl)) ?_;(with_reducible refine (impl_Schema_takes.calls k _ _ l0_0 a1_0 (l1_1.length : Int) true _ ?side1 ?side2 A3.out).mono ?_);(case side1 => exact zsd HR0_0 HB);(case side2 => exact HC0_0.out);rintro e w11 ⟨rfl,hb⟩;refine ⟨_,rfl,?_⟩;replace BK330:=zA (zQ (g:=gb330) (o:=.cells #[.slice A0_0 l0_0.length c0_0] 34 (0,0)) (zx BK330) hb);replace BK331:=zA (zQ (g:=gb331) (o:=.cells #[.int .i64 a1_0,.slice A1_1 l1_1.length c1_1] 81 (0,0)) (zx BK331) hb);replace HB:=zA (zJb (zz HB) hb);(try clear hb);(try clear hb2);(try clear hk);(try clear hi);have hcz12_0:=zc (.int .i64 a1_0) BK331 0 rfl;have hcz12_1:=zc (.slice A1_1 l1_1.length c1_1) BK331 1 rfl;have hfz12_0:=blk_frozen BK331.out 0;have hfz12_1:=blk_frozen BK331.out 1)|(go_at_call 57;(with_reducible refine (impl_areTerms.calls k _ _ l1_1 t333 _ ?side1 ?side2 A5.out).mono ?_);(case side1 => exact zsd HR1_1 HB);(case side2 => exact HC1_1.out);rintro e w' ⟨rfl,⟨nd,rfl⟩⟩))
  go_ret
  exact ⟨by first|rfl|(simp [errW_none,errW_some] <;> rfl)|(simp [*,errW_none,errW_some] <;> rfl),zz HB⟩
 ·
  replace c4:=Bool.eq_false_iff.mpr c4
  subst c4
  have H1 : (some false) = some r:=by rw [if_neg (show ¬ (false = true) by decide)] at H;exact H
  clear H;have H:=H1;clear H1
  obtain rfl:=Option.some.inj H
  go_enter Tryz.func59,Tryz.ntmps59
  go_wp2_with (first|((with_reducible refine gate_dst (N:=2) rfl ?_);refine box_event ?hg (N:=2) ?hd (cs:=#[.slice A0_0 l0_0.length c0_0]) (t:=34) ?hr ?_;(case hd => rfl);(case hg => rfl);(case hr => first|(go_simp;done)|(go_simp;rfl));intro gb330 hg w13 hbox hb;have BK330:=zA (hbox);have GW330:=zA ((by rw [hg];exact (zT (zz HB)) : w.heap.size ≤ gb330));have GE330:=zA ((by rw [hg];exact (zT (zz HB)) : w.heap.size ≤ gb330));replace HB:=zA (zJb (zz HB) hb);clear hb hbox hg)|((with_reducible refine gate_dst (N:=3) rfl ?_);refine box_event ?hg (N:=3) ?hd (cs:=#[.int .i64 a1_0,.slice A1_1 l1_1.length c1_1]) (t:=81) ?hr ?_;(case hd => rfl);(case hg => rfl);(case hr => first|(go_simp;done)|(go_simp;rfl));intro gb331 hg w14 hbox hb;have BK331:=zA (hbox);have GW331:=zA ((by rw [hg];exact (zT (zz HB)) : w.heap.size ≤ gb331));have GE331:=zA ((by rw [hg];exact (zT (zz HB)) : w.heap.size ≤ gb331));replace HB:=zA (zJb (zz HB) hb);have NB330_331:=zA ((by rw [hg];exact Nat.ne_of_lt (blk_lt (g:=gb330) (o:=.cells #[.slice A0_0 l0_0.length c0_0] 34 (0,0)) (zx BK330)) : gb330 ≠ gb331));have NB331_330:=zA ((by rw [hg];exact Nat.ne_of_gt (blk_lt (g:=gb330) (o:=.cells #[.slice A0_0 l0_0.length c0_0] 34 (0,0)) (zx BK330)) : gb331 ≠ gb330));replace BK330:=zA (zQ (g:=gb330) (o:=.cells #[.slice A0_0 l0_0.length c0_0] 34 (0,0)) (zx BK330) hb);clear hb hbox hg;have hnb15:=NB330_331.out;have hnc15:=NB331_330.out;have hcz16_0:=zc (.slice A0_0 l0_0.length c0_0) BK330 0 rfl;have hfz16_0:=blk_frozen BK330.out 0;have hcz17_0:=zc (.int .i64 a1_0) BK331 0 rfl;have hcz17_1:=zc (.slice A1_1 l1_1.length c1_1) BK331 1 rfl;have hfz17_0:=blk_frozen BK331.out 0;have hfz17_1:=blk_frozen BK331.out 1)|((with_reducible refine gate_callee (f:=78) rfl ?_);refine goesL_ (some 11) rfl rfl Tryz.func78 (by kernel_rfl) rfl #[.agg #[.slice A0_0 l0_0.length c0_0],.int .i64 a1_0,.int .i64 (l1_1.length : Int)] rfl (by (try simp only [zCb,zMb,zNb]);first|done|rfl|(simp only [zLb,zDb];rfl)) ?_;(with_reducible refine (impl_Schema_takes.calls k _ _ l0_0 a1_0 (l1_1.length : Int) false _ ?side1 ?side2 A3.out).mono ?_);(case side1 => exact zsd HR0_0 HB);(case side2 => exact HC0_0.out);rintro e w18 ⟨rfl,hb⟩;refine ⟨_,rfl,?_⟩;replace BK330:=zA (zQ (g:=gb330) (o:=.cells #[.slice A0_0 l0_0.length c0_0] 34 (0,0)) (zx BK330) hb);replace BK331:=zA (zQ (g:=gb331) (o:=.cells #[.int .i64 a1_0,.slice A1_1 l1_1.length c1_1] 81 (0,0)) (zx BK331) hb);replace HB:=zA (zJb (zz HB) hb);(try clear hb);(try clear hb2);(try clear hk);(try clear hi)))
  go_ret
  exact ⟨by first|rfl|(simp [errW_none,errW_some] <;> rfl)|(simp [*,errW_none,errW_some] <;> rfl),zz HB⟩

/-! ### impl_IsVar: function 79 -/
def impl_IsVar.f (a0 : Int) : Option (Bool) := (impl_within.f a0 0 19).bind fun t334 => (some t334)
set_option maxHeartbeats 8000000 in
set_option maxRecDepth 100000 in
theorem impl_IsVar.calls (a0 : Int) (r : Bool) (w : World) (h : impl_IsVar.f a0 = some r) :
  Calls Tryz.prog 79 #[.int .i64 a0] w fun e w' => e = .returned (.bool r) ∧ Drawn0 w w' := by
 have H : ((impl_within.f a0 0 19).bind fun t334 => (some t334)) = some r:=h
 clear h;replace H:=Option.bind_eq_some_iff.mp H;obtain ⟨t334,A20,H⟩:=H;(try dsimp only at H);have A2:=zA A20;clear A20
 obtain rfl:=Option.some.inj H
 go_enter Tryz.func79,Tryz.ntmps79
 go_wp2_with (first|((with_reducible refine gate_callee (f:=58) rfl ?_);refine goesL_ (some 4) rfl rfl Tryz.func58 (by kernel_rfl) rfl #[.int .i64 a0,.int .i64 0,.int .i64 19] rfl (by (try simp only [zCb,zMb,zNb]);first|done|rfl|(simp only [zLb,zDb];rfl)) ?_;(with_reducible refine (impl_within.calls a0 0 19 t334 _ A2.out).mono ?_);rintro e w' ⟨rfl,⟨nd,rfl⟩⟩;refine ⟨_,rfl,?_⟩))
 go_ret
 exact ⟨by first|rfl|(simp;done)|(simp [*];done),by repeat (first|exact Drawn0.refl _|apply Drawn0.step)⟩

/-! ### slices_Index_int_int: function 108 -/
def slices_Index_int_int.l0 : Nat → List Int → Int → Int → Int → Option (Int)
 | 0, _, _, _, _ => none
 | k + 1, x0, x1, x7, x8 => if x8 < x7 then (if 0 ≤ x8 then (if x8 < (x0.length : Int) then (if x1 = (rd x0 x8) then (some x8) else (slices_Index_int_int.l0 k x0 x1 x7 (wrap64 (x8 + 1)))) else (none)) else (none)) else (some (-1))
def slices_Index_int_int.f (k : Nat) (l0 : List Int) (a1 : Int) : Option (Int) := slices_Index_int_int.l0 k l0 a1 (l0.length : Int) 0
set_option maxHeartbeats 8000000 in
set_option maxRecDepth 100000 in
theorem slices_Index_int_int.calls (k : Nat) (A0 : Option Addr) (c0 : Nat) (l0 : List Int) (a1 : Int) (r : Int) (w : World) (hr0 : Kd.C (Kd.int .i64) w A0 l0.length l0) (hc0 : l0.length ≤ c0) (h : slices_Index_int_int.f k l0 a1 = some r) :
  Calls Tryz.prog 108 #[.slice A0 l0.length c0, .int .i64 a1] w fun e w' => e = .returned (.int .i64 r) ∧ Drawn0 w w' := by
 have HR0:=zA hr0;have HC0:=zA hc0;clear hr0 hc0
 have H : (slices_Index_int_int.l0 k l0 a1 (l0.length : Int) 0) = some r:=h
 clear h
 have H':=zA H
 clear H
 go_enter Tryz.func108,Tryz.ntmps108
 go_wp2
 go_loopg [8] k (fun kq v8 w' => ∃ (x8_1 : Int),v8 = .int .i64 x8_1 ∧ Aside0 (slices_Index_int_int.l0 kq l0 a1 (l0.length : Int) x8_1 = some r) ∧ Aside0 (kq ≤ k) ∧ Drawn0 w w')
 case atStart => exact ⟨(0),za,H',⟨Nat.le_refl _⟩,by repeat (first|exact Drawn0.refl _|apply Drawn0.step)⟩
 case round =>
  clear H';(try clear c1);(try clear p2);obtain ⟨x8_1,rfl,HA,HK1,⟨m1,rfl⟩⟩:=hrel
  cases gk with
  | zero => exact absurd HA.out (by simp [slices_Index_int_int.l0])
  | succ k1 =>
   have H:=HA.out;clear HA;simp only [slices_Index_int_int.l0] at H
   by_cases c3 : x8_1 < (l0.length : Int)
   ·
    rw [if_pos c3] at H;have c3b0:=decide_eq_true c3;clear c3
    by_cases c4 : 0 ≤ x8_1
    ·
     rw [if_pos c4] at H;have c4b0:=decide_eq_true c4;clear c4
     by_cases c5 : x8_1 < (l0.length : Int)
     ·
      rw [if_pos c5] at H;have c5b0:=decide_eq_true c5;clear c5
      by_cases c6 : a1 = (rd l0 x8_1)
      ·
       rw [if_pos c6] at H;have c6b0:=beq_iff_eq.mpr c6;have c6b1:=bne_eq_false_iff_eq.mpr c6;clear c6
       obtain rfl:=Option.some.inj H
       have p335 : 0 ≤ (x8_1 : Int):=zXb ze;have q335 : x8_1 < (l0.length : Int):=zXb ze;obtain ⟨ad335,e335,hx335_0⟩:=Kd.at_int HR0.out x8_1 p335 q335
       cases e335
       replace p335:=eq_true p335;replace q335:=eq_true q335
       go_wp2
       go_ret
       exact ⟨by first|rfl|(simp;done)|(simp [*];done),by repeat (first|exact Drawn0.refl _|apply Drawn0.step)⟩
      ·
       rw [if_neg c6] at H;have c6b0:=beq_eq_false_iff_ne.mpr c6;have c6b1:=bne_iff_ne.mpr c6
       have H':=zA H
       clear H;have p335 : 0 ≤ (x8_1 : Int):=zXb ze;have q335 : x8_1 < (l0.length : Int):=zXb ze;obtain ⟨ad335,e335,hx335_0⟩:=Kd.at_int HR0.out x8_1 p335 q335
       cases e335
       replace p335:=eq_true p335;replace q335:=eq_true q335
       go_wp2
       go_roundg k1
       case measure => have:=HK1.out;omega
       case rel => exact ⟨(wrap64 (x8_1 + 1)),za,H',⟨by have:=HK1.out;omega⟩,by repeat (first|exact Drawn0.refl _|apply Drawn0.step)⟩
     ·
      rw [if_neg c5] at H
      exact absurd H (by simp)
    ·
     rw [if_neg c4] at H
     exact absurd H (by simp)
   ·
    rw [if_neg c3] at H;have c3b0:=decide_eq_false c3;clear c3
    obtain rfl:=Option.some.inj H
    go_wp2
    go_ret
    exact ⟨by first|rfl|(simp;done)|(simp [*];done),by repeat (first|exact Drawn0.refl _|apply Drawn0.step)⟩

/-! ### slices_Contains_int_int: function 94 -/
def slices_Contains_int_int.f (k : Nat) (l0 : List Int) (a1 : Int) : Option (Bool) := (slices_Index_int_int.f k l0 a1).bind fun t336 => (some (decide (t336 ≥ 0)))
set_option maxHeartbeats 8000000 in
set_option maxRecDepth 100000 in
theorem slices_Contains_int_int.calls (k : Nat) (A0 : Option Addr) (c0 : Nat) (l0 : List Int) (a1 : Int) (r : Bool) (w : World) (hr0 : Kd.C (Kd.int .i64) w A0 l0.length l0) (hc0 : l0.length ≤ c0) (h : slices_Contains_int_int.f k l0 a1 = some r) :
  Calls Tryz.prog 94 #[.slice A0 l0.length c0, .int .i64 a1] w fun e w' => e = .returned (.bool r) ∧ Drawn0 w w' := by
 have HR0:=zA hr0;have HC0:=zA hc0;clear hr0 hc0
 have H : ((slices_Index_int_int.f k l0 a1).bind fun t336 => (some (decide (t336 ≥ 0)))) = some r:=h
 clear h;replace H:=Option.bind_eq_some_iff.mp H;obtain ⟨t336,A30,H⟩:=H;(try dsimp only at H);have A3:=zA A30;clear A30
 obtain rfl:=Option.some.inj H
 go_enter Tryz.func94,Tryz.ntmps94
 go_wp2_with (first|((with_reducible refine gate_callee (f:=108) rfl ?_);refine goesL_ (some 7) rfl rfl Tryz.func108 (by kernel_rfl) rfl #[.slice A0 l0.length c0,.int .i64 a1] rfl (by (try simp only [zCb,zMb,zNb]);first|done|rfl|(simp only [zLb,zDb];rfl)) ?_;(with_reducible refine (slices_Index_int_int.calls k _ _ l0 a1 t336 _ ?side1 ?side2 A3.out).mono ?_);(case side1 => repeat (first|exact HR0.out|(with_reducible refine zBb ?_ _)|(with_reducible refine zAb ?_ _)|(with_reducible refine zX ?_)));(case side2 => exact HC0.out);rintro e w' ⟨rfl,⟨nd,rfl⟩⟩;refine ⟨_,rfl,?_⟩))
 go_ret
 exact ⟨by first|rfl|(simp;done)|(simp [*];done),by repeat (first|exact Drawn0.refl _|apply Drawn0.step)⟩

end Go.Proofs.YtfelabhakgcifaaGreat.QFnExactAnswers
