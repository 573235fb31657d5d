/- Walks through the Go functions that FnExactEqualQueries reaches: each call returns what the Lean function beside it says, within the bounds that the theorem names. -/
import Derived.Test.YtanbgnjfllpkgaaQFnExactEqualQueriesx0
import Derived.Test.YtanbgnjfllpkgaaQFnExactEqualQueriesx1
import Derived.Test.YtanbgnjfllpkgaaQFnExactEqualQueriesx2
import Derived.Test.YtanbgnjfllpkgaaQFnExactEqualQueriesx3
import Derived.Test.YtanbgnjfllpkgaaQFnExactEqualQueriesx4
namespace Go.Proofs.Ytanbgnjfllpkgaa.QFnExactEqualQueries
open Go.RowKit Go.Proofs.YtanbgnjfllpkgaaW.PrintWords Go.Proofs.YtanbgnjfllpkgaaW.PrintLast Go.Proofs.YtanbgnjfllpkgaaW.PrintMore
attribute [local go_sem] max2_int min2_int max_two min_two max_three min_three max_four min_four   -- for this text's walks alone
set_option linter.unusedVariables false
set_option linter.unusedSimpArgs false
abbrev zA := @Aside0.mk
abbrev zB := @below_set
abbrev zC := @pw_below_drewN
abbrev zD := @Kd.R_drewN
abbrev zE := @Kd.R_alloc
abbrev zF := @blk_drewN
abbrev zG := @blk_alloc
abbrev zH := @Kd.R_drew
abbrev zI := @blk_drew
abbrev zJ := @below_drew1
abbrev zK := @below_alloc
abbrev zL := @Kd.S_drewN
abbrev zM := @Kd.S_alloc
abbrev zN := @Kd.S_drew
abbrev zO := @List.setIfInBounds_toArray
abbrev zP := @blk_cell
abbrev zQ := @blk_below
abbrev zR := @Kd.R_far
abbrev zS := @Kd.S_mono
abbrev zT := @below_size
abbrev zU := @Kd.S_told
abbrev zV := @Kd.S_new'
abbrev zW := @Kd.R_base
abbrev zX := @Kd.C_drew
abbrev zY := @Kd.S_below
abbrev zZ := @Kd.R_below
abbrev zAb := @Kd.C_drewN
abbrev zBb := @Kd.C_alloc
abbrev zCb := @List.map_toArray
abbrev zDb := @List.length_take
abbrev zEb := @List.set_cons_zero
abbrev zFb := @List.set_cons_succ
abbrev zGb := @Kd.R_mono
abbrev zHb := @Kd.R_lower
abbrev zIb := @Kd.S_lower
abbrev zJb := @below_step
abbrev zKb := @Kd.C_below
abbrev zLb := @List.length_drop
abbrev zMb := @List.map_cons
abbrev zNb := @List.map_nil
abbrev zOb := @Kd.R_lt
abbrev zQb := @Kd.R_new'
abbrev zTb := @Kd.R_elder'
abbrev zUb := @blk_far
abbrev zVb := @Kd.S_far

/-! ### laws_FnExactEqualQueries: function 6 -/
def laws_FnExactEqualQueries.f (k : Nat) (l0_0 : List Int) (l0_1 : List (S124)) (l1_0 : List Int) (l1_1 : List (S124)) : Option (Bool) := (laws_szQuery.f k l0_0 l0_1 1048576).bind fun t176 => (if t176 < 0 then (some true) else ((laws_szQuery.f k l1_0 l1_1 t176).bind fun t177 => (if t177 < 0 then (some true) else ((laws_toQuery.f k l0_0 l0_1).bind fun bt178 => ((laws_toQuery.f k l1_0 l1_1).bind fun bt184 => ((spec_EqualQueries.f k bt178.1 bt178.2 bt184.1 bt184.2).bind fun t190 => ((laws_toQuery.f k l0_0 l0_1).bind fun bt191 => ((laws_toQuery.f k l1_0 l1_1).bind fun bt198 => ((impl_EqualQueries.f k bt191.1 bt191.2 bt198.1 bt198.2).bind fun t205 => (if (t205 != t190) = true then (some false) else ((laws_toQuery.f k l0_0 l0_1).bind fun bt206 => ((laws_eqQuery.f k bt191.1 bt191.2 bt206.1 bt206.2).bind fun t212 => (if t212 = true then ((laws_toQuery.f k l1_0 l1_1).bind fun bt213 => ((laws_eqQuery.f k bt198.1 bt198.2 bt213.1 bt213.2).bind fun t219 => (if t219 = true then (some true) else (some false)))) else (some false))))))))))))))
theorem laws_FnExactEqualQueries.mono : ∀ a0 a1 a2 a3 k, LeO (laws_FnExactEqualQueries.f k a0 a1 a2 a3) (laws_FnExactEqualQueries.f (k + 1) a0 a1 a2 a3) := by
 intro a0 a1 a2 a3 k
 unfold laws_FnExactEqualQueries.f
 repeat' first
   | (with_reducible exact impl_EqualQueries.mono _ _ _ _ _)
   | (with_reducible exact laws_eqQuery.mono _ _ _ _ _)
   | (with_reducible exact laws_szQuery.mono _ _ _ _)
   | (with_reducible exact laws_toQuery.mono _ _ _)
   | (with_reducible exact spec_EqualQueries.mono _ _ _ _ _)
   | (with_reducible exact LeO.refl _)
   | (with_reducible exact LeO.none _)
   | (with_reducible refine LeO.ite ?_ ?_)
   | (with_reducible refine LeO.bind ?_ (fun _ => ?_))
   | exact impl_EqualQueries.mono _ _ _ _ _
   | exact laws_eqQuery.mono _ _ _ _ _
   | exact laws_szQuery.mono _ _ _ _
   | exact laws_toQuery.mono _ _ _
   | exact spec_EqualQueries.mono _ _ _ _ _
   | exact LeO.none _
   | refine LeO.ite ?_ ?_
   | refine LeO.bind ?_ (fun _ => ?_)
set_option maxHeartbeats 8000000 in
set_option maxRecDepth 100000 in
theorem laws_FnExactEqualQueries.calls (k : Nat) (A0_0 : Option Addr) (c0_0 : Nat) (l0_0 : List Int) (A0_1 : Option Addr) (c0_1 : Nat) (l0_1 : List (S124)) (A1_0 : Option Addr) (c1_0 : Nat) (l1_0 : List Int) (A1_1 : Option Addr) (c1_1 : Nat) (l1_1 : List (S124)) (r : Bool) (w : World) (hr0_0 : Kd.C (Kd.int .i64) w A0_0 l0_0.length l0_0) (hc0_0 : l0_0.length ≤ c0_0) (hr0_1 : Kd.C k124 w A0_1 l0_1.length l0_1) (hc0_1 : l0_1.length ≤ c0_1) (hr1_0 : Kd.C (Kd.int .i64) w A1_0 l1_0.length l1_0) (hc1_0 : l1_0.length ≤ c1_0) (hr1_1 : Kd.C k124 w A1_1 l1_1.length l1_1) (hc1_1 : l1_1.length ≤ c1_1) (h : laws_FnExactEqualQueries.f k l0_0 l0_1 l1_0 l1_1 = some r) :
  Calls Try.prog 6 #[.agg #[.slice A0_0 l0_0.length c0_0,.slice A0_1 l0_1.length c0_1],.agg #[.slice A1_0 l1_0.length c1_0,.slice A1_1 l1_1.length c1_1]] w fun e w' => e = .returned (.bool r) ∧ Below w.heap.size w w':=by
 have hu41:=Try.underlying41
 have hu46:=Try.underlying46
 have HR0_0:=zA hr0_0
 have HC0_0:=zA hc0_0
 clear hr0_0 hc0_0
 have HR0_1:=zA hr0_1
 have HC0_1:=zA hc0_1
 clear hr0_1 hc0_1
 have HR1_0:=zA hr1_0
 have HC1_0:=zA hc1_0
 clear hr1_0 hc1_0
 have HR1_1:=zA hr1_1
 have HC1_1:=zA hc1_1
 clear hr1_1 hc1_1
 have HB:=zA (Below.refl w.heap.size w)
 have H : ((laws_szQuery.f k l0_0 l0_1 1048576).bind fun t176 => (if t176 < 0 then (some true) else ((laws_szQuery.f k l1_0 l1_1 t176).bind fun t177 => (if t177 < 0 then (some true) else ((laws_toQuery.f k l0_0 l0_1).bind fun bt178 => ((laws_toQuery.f k l1_0 l1_1).bind fun bt184 => ((spec_EqualQueries.f k bt178.1 bt178.2 bt184.1 bt184.2).bind fun t190 => ((laws_toQuery.f k l0_0 l0_1).bind fun bt191 => ((laws_toQuery.f k l1_0 l1_1).bind fun bt198 => ((impl_EqualQueries.f k bt191.1 bt191.2 bt198.1 bt198.2).bind fun t205 => (if (t205 != t190) = true then (some false) else ((laws_toQuery.f k l0_0 l0_1).bind fun bt206 => ((laws_eqQuery.f k bt191.1 bt191.2 bt206.1 bt206.2).bind fun t212 => (if t212 = true then ((laws_toQuery.f k l1_0 l1_1).bind fun bt213 => ((laws_eqQuery.f k bt198.1 bt198.2 bt213.1 bt213.2).bind fun t219 => (if t219 = true then (some true) else (some false)))) else (some false))))))))))))))) = some r:=h
 clear h
 replace H:=Option.bind_eq_some_iff.mp H
 obtain ⟨t176,A30,H⟩:=H
 replace H : (if t176 < 0 then (some true) else ((laws_szQuery.f k l1_0 l1_1 t176).bind fun t177 => (if t177 < 0 then (some true) else ((laws_toQuery.f k l0_0 l0_1).bind fun bt178 => ((laws_toQuery.f k l1_0 l1_1).bind fun bt184 => ((spec_EqualQueries.f k bt178.1 bt178.2 bt184.1 bt184.2).bind fun t190 => ((laws_toQuery.f k l0_0 l0_1).bind fun bt191 => ((laws_toQuery.f k l1_0 l1_1).bind fun bt198 => ((impl_EqualQueries.f k bt191.1 bt191.2 bt198.1 bt198.2).bind fun t205 => (if (t205 != t190) = true then (some false) else ((laws_toQuery.f k l0_0 l0_1).bind fun bt206 => ((laws_eqQuery.f k bt191.1 bt191.2 bt206.1 bt206.2).bind fun t212 => (if t212 = true then ((laws_toQuery.f k l1_0 l1_1).bind fun bt213 => ((laws_eqQuery.f k bt198.1 bt198.2 bt213.1 bt213.2).bind fun t219 => (if t219 = true then (some true) else (some false)))) else (some false)))))))))))))) = some r:=H
 have A3:=zA A30
 clear A30
 by_cases c4 : t176 < 0
 ·
  rw [if_pos c4] at H
  have c4b0 : decide (t176 < 0) = true:=decide_eq_true c4
  clear c4
  obtain rfl:=Option.some.inj H
  go_enter Try.func6,Try.ntmps6
  go_wp2_with (first|((with_reducible refine gate_dst (N:=2) rfl ?_);refine box_event ?hg (N:=2) ?hd (cs:=#[.slice A0_0 l0_0.length c0_0,.slice A0_1 l0_1.length c0_1]) (t:=41) ?hr ?_;(case hd => rfl);(case hg => rfl);(case hr => first|(go_simp;done)|(go_simp;rfl));intro gb174 hg w5 hbox hb;have n0_:=zA (zJb (by repeat (first|(with_reducible first|exact HB.out|apply zK|apply zC|apply zJ)|exact HB.out)) hb);have n1_:=zA (hbox);have n2_:=zA ((by rw [hg];exact (zT (by repeat (first|(with_reducible first|exact HB.out|apply zK|apply zC|apply zJ)|exact HB.out))) : w.heap.size ≤ gb174));have n3_:=zA ((by rw [hg];exact (zT (by repeat (first|(with_reducible first|exact HB.out|apply zK|apply zC|apply zJ)|exact HB.out))) : w.heap.size ≤ gb174));clear HB;have HB:=n0_;have BK174:=n1_;have GW174:=n2_;have GE174:=n3_;clear n0_ n1_ n2_ n3_;clear hb hbox hg)|((with_reducible refine gate_dst (N:=3) rfl ?_);refine box_event ?hg (N:=3) ?hd (cs:=#[.slice A1_0 l1_0.length c1_0,.slice A1_1 l1_1.length c1_1]) (t:=41) ?hr ?_;(case hd => rfl);(case hg => rfl);(case hr => first|(go_simp;done)|(go_simp;rfl));intro gb175 hg w6 hbox hb;have n0_:=zA (zQ (g:=gb174) (o:=.cells #[.slice A0_0 l0_0.length c0_0,.slice A0_1 l0_1.length c0_1] 41 (0,0)) (by (with_reducible repeat (first|refine zF ?_ _|refine zI ?_|refine zG ?_ _));exact BK174.out) hb);have n1_:=zA (zJb (by repeat (first|(with_reducible first|exact HB.out|apply zK|apply zC|apply zJ|refine zB ?_ GE174.out)|exact HB.out)) hb);have n2_:=zA (hbox);have n3_:=zA ((by rw [hg];exact (zT (by repeat (first|(with_reducible first|exact HB.out|apply zK|apply zC|apply zJ|refine zB ?_ GE174.out)|exact HB.out))) : w.heap.size ≤ gb175));have n4_:=zA ((by rw [hg];exact (zT (by repeat (first|(with_reducible first|exact HB.out|apply zK|apply zC|apply zJ|refine zB ?_ GE174.out)|exact HB.out))) : w.heap.size ≤ gb175));have n5_:=zA ((by rw [hg];exact Nat.ne_of_lt (blk_lt (g:=gb174) (o:=.cells #[.slice A0_0 l0_0.length c0_0,.slice A0_1 l0_1.length c0_1] 41 (0,0)) (by (with_reducible repeat (first|refine zF ?_ _|refine zI ?_|refine zG ?_ _));exact BK174.out)) : gb174 ≠ gb175));have n6_:=zA ((by rw [hg];exact Nat.ne_of_gt (blk_lt (g:=gb174) (o:=.cells #[.slice A0_0 l0_0.length c0_0,.slice A0_1 l0_1.length c0_1] 41 (0,0)) (by (with_reducible repeat (first|refine zF ?_ _|refine zI ?_|refine zG ?_ _));exact BK174.out)) : gb175 ≠ gb174));clear BK174;clear HB;have BK174:=n0_;have HB:=n1_;have BK175:=n2_;have GW175:=n3_;have GE175:=n4_;have NB174_175:=n5_;have NB175_174:=n6_;clear n0_ n1_ n2_ n3_ n4_ n5_ n6_;clear hb hbox hg;have hnb7:=NB174_175.out;have hnc7:=NB175_174.out;have hcz8_0 : w6.cell? ⟨gb174,0,none⟩ = some (.slice A0_0 l0_0.length c0_0):=(zP BK174.out 0).trans rfl;have hcz8_1 : w6.cell? ⟨gb174,1,none⟩ = some (.slice A0_1 l0_1.length c0_1):=(zP BK174.out 1).trans rfl;have hfz8_0:=blk_frozen BK174.out 0;have hfz8_1:=blk_frozen BK174.out 1)|((with_reducible refine gate_callee (f:=30) rfl ?_);refine goesL_ (some 12) rfl rfl Try.func30 (by kernel_rfl) rfl #[.agg #[.slice A0_0 l0_0.length c0_0,.slice A0_1 l0_1.length c0_1],.int .i64 1048576] rfl (by (try simp only [zCb,zMb,zNb]);first|done|rfl|(simp only [zLb,zDb];rfl)) ?_;(with_reducible refine (laws_szQuery.calls k _ _ l0_0 _ _ l0_1 1048576 t176 _ ?side1 ?side2 ?side3 ?side4 A3.out).mono ?_);(case side1 => repeat (first|exact (zKb HR0_0.out HB.out)|(with_reducible refine zBb ?_ _)|(with_reducible refine zAb ?_ _)|(with_reducible refine zX ?_)));(case side2 => exact HC0_0.out);(case side3 => repeat (first|exact (zKb HR0_1.out HB.out)|(with_reducible refine zBb ?_ _)|(with_reducible refine zAb ?_ _)|(with_reducible refine zX ?_)));(case side4 => exact HC0_1.out);rintro e w9 ⟨rfl,hb⟩;refine ⟨_,rfl,?_⟩;have n0_:=zA (zQ (g:=gb174) (o:=.cells #[.slice A0_0 l0_0.length c0_0,.slice A0_1 l0_1.length c0_1] 41 (0,0)) (by (with_reducible repeat (first|refine zF ?_ _|refine zI ?_|refine zG ?_ _));exact BK174.out) hb);have n1_:=zA (zQ (g:=gb175) (o:=.cells #[.slice A1_0 l1_0.length c1_0,.slice A1_1 l1_1.length c1_1] 41 (0,0)) (by (with_reducible repeat (first|refine zF ?_ _|refine zI ?_|refine zG ?_ _));exact BK175.out) hb);have n2_:=zA (zJb (by repeat (first|(with_reducible first|exact HB.out|apply zK|apply zC|apply zJ|refine zB ?_ GE174.out|refine zB ?_ GE175.out)|exact HB.out)) hb);clear BK174;clear BK175;clear HB;have BK174:=n0_;have BK175:=n1_;have HB:=n2_;clear n0_ n1_ n2_;(try clear hb);(try clear hb2);(try clear hk);(try clear hi)))
  go_ret
  exact ⟨by first|rfl|(simp [errW_none,errW_some] <;> rfl)|(simp [*,errW_none,errW_some] <;> rfl),by repeat (first|(with_reducible first|exact HB.out|apply zK|apply zC|apply zJ|refine zB ?_ GE174.out|refine zB ?_ GE175.out)|exact HB.out)⟩
 ·
  rw [if_neg c4] at H
  have c4b0 : decide (t176 < 0) = false:=decide_eq_false c4
  clear c4
  replace H:=Option.bind_eq_some_iff.mp H
  obtain ⟨t177,A100,H⟩:=H
  replace H : (if t177 < 0 then (some true) else ((laws_toQuery.f k l0_0 l0_1).bind fun bt178 => ((laws_toQuery.f k l1_0 l1_1).bind fun bt184 => ((spec_EqualQueries.f k bt178.1 bt178.2 bt184.1 bt184.2).bind fun t190 => ((laws_toQuery.f k l0_0 l0_1).bind fun bt191 => ((laws_toQuery.f k l1_0 l1_1).bind fun bt198 => ((impl_EqualQueries.f k bt191.1 bt191.2 bt198.1 bt198.2).bind fun t205 => (if (t205 != t190) = true then (some false) else ((laws_toQuery.f k l0_0 l0_1).bind fun bt206 => ((laws_eqQuery.f k bt191.1 bt191.2 bt206.1 bt206.2).bind fun t212 => (if t212 = true then ((laws_toQuery.f k l1_0 l1_1).bind fun bt213 => ((laws_eqQuery.f k bt198.1 bt198.2 bt213.1 bt213.2).bind fun t219 => (if t219 = true then (some true) else (some false)))) else (some false)))))))))))) = some r:=H
  have A10:=zA A100
  clear A100
  by_cases c11 : t177 < 0
  ·
   rw [if_pos c11] at H
   have c11b0 : decide (t177 < 0) = true:=decide_eq_true c11
   clear c11
   obtain rfl:=Option.some.inj H
   go_enter Try.func6,Try.ntmps6
   go_wp2_with (first|((with_reducible refine gate_dst (N:=2) rfl ?_);refine box_event ?hg (N:=2) ?hd (cs:=#[.slice A0_0 l0_0.length c0_0,.slice A0_1 l0_1.length c0_1]) (t:=41) ?hr ?_;(case hd => rfl);(case hg => rfl);(case hr => first|(go_simp;done)|(go_simp;rfl));intro gb174 hg w12 hbox hb;have n0_:=zA (zJb (by repeat (first|(with_reducible first|exact HB.out|apply zK|apply zC|apply zJ)|exact HB.out)) hb);have n1_:=zA (hbox);have n2_:=zA ((by rw [hg];exact (zT (by repeat (first|(with_reducible first|exact HB.out|apply zK|apply zC|apply zJ)|exact HB.out))) : w.heap.size ≤ gb174));have n3_:=zA ((by rw [hg];exact (zT (by repeat (first|(with_reducible first|exact HB.out|apply zK|apply zC|apply zJ)|exact HB.out))) : w.heap.size ≤ gb174));clear HB;have HB:=n0_;have BK174:=n1_;have GW174:=n2_;have GE174:=n3_;clear n0_ n1_ n2_ n3_;clear hb hbox hg)|((with_reducible refine gate_dst (N:=3) rfl ?_);refine box_event ?hg (N:=3) ?hd (cs:=#[.slice A1_0 l1_0.length c1_0,.slice A1_1 l1_1.length c1_1]) (t:=41) ?hr ?_;(case hd => rfl);(case hg => rfl);(case hr => first|(go_simp;done)|(go_simp;rfl));intro gb175 hg w13 hbox hb;have n0_:=zA (zQ (g:=gb174) (o:=.cells #[.slice A0_0 l0_0.length c0_0,.slice A0_1 l0_1.length c0_1] 41 (0,0)) (by (with_reducible repeat (first|refine zF ?_ _|refine zI ?_|refine zG ?_ _));exact BK174.out) hb);have n1_:=zA (zJb (by repeat (first|(with_reducible first|exact HB.out|apply zK|apply zC|apply zJ|refine zB ?_ GE174.out)|exact HB.out)) hb);have n2_:=zA (hbox);have n3_:=zA ((by rw [hg];exact (zT (by repeat (first|(with_reducible first|exact HB.out|apply zK|apply zC|apply zJ|refine zB ?_ GE174.out)|exact HB.out))) : w.heap.size ≤ gb175));have n4_:=zA ((by rw [hg];exact (zT (by repeat (first|(with_reducible first|exact HB.out|apply zK|apply zC|apply zJ|refine zB ?_ GE174.out)|exact HB.out))) : w.heap.size ≤ gb175));have n5_:=zA ((by rw [hg];exact Nat.ne_of_lt (blk_lt (g:=gb174) (o:=.cells #[.slice A0_0 l0_0.length c0_0,.slice A0_1 l0_1.length c0_1] 41 (0,0)) (by (with_reducible repeat (first|refine zF ?_ _|refine zI ?_|refine zG ?_ _));exact BK174.out)) : gb174 ≠ gb175));have n6_:=zA ((by rw [hg];exact Nat.ne_of_gt (blk_lt (g:=gb174) (o:=.cells #[.slice A0_0 l0_0.length c0_0,.slice A0_1 l0_1.length c0_1] 41 (0,0)) (by (with_reducible repeat (first|refine zF ?_ _|refine zI ?_|refine zG ?_ _));exact BK174.out)) : gb175 ≠ gb174));clear BK174;clear HB;have BK174:=n0_;have HB:=n1_;have BK175:=n2_;have GW175:=n3_;have GE175:=n4_;have NB174_175:=n5_;have NB175_174:=n6_;clear n0_ n1_ n2_ n3_ n4_ n5_ n6_;clear hb hbox hg;have hnb14:=NB174_175.out;have hnc14:=NB175_174.out;have hcz15_0 : w13.cell? ⟨gb174,0,none⟩ = some (.slice A0_0 l0_0.length c0_0):=(zP BK174.out 0).trans rfl;have hcz15_1 : w13.cell? ⟨gb174,1,none⟩ = some (.slice A0_1 l0_1.length c0_1):=(zP BK174.out 1).trans rfl;have hfz15_0:=blk_frozen BK174.out 0;have hfz15_1:=blk_frozen BK174.out 1)|((with_reducible refine gate_callee (f:=30) rfl ?_);refine goesL_ (some 12) rfl rfl Try.func30 (by kernel_rfl) rfl #[.agg #[.slice A0_0 l0_0.length c0_0,.slice A0_1 l0_1.length c0_1],.int .i64 1048576] rfl (by (try simp only [zCb,zMb,zNb]);first|done|rfl|(simp only [zLb,zDb];rfl)) ?_;(with_reducible refine (laws_szQuery.calls k _ _ l0_0 _ _ l0_1 1048576 t176 _ ?side1 ?side2 ?side3 ?side4 A3.out).mono ?_);(case side1 => repeat (first|exact (zKb HR0_0.out HB.out)|(with_reducible refine zBb ?_ _)|(with_reducible refine zAb ?_ _)|(with_reducible refine zX ?_)));(case side2 => exact HC0_0.out);(case side3 => repeat (first|exact (zKb HR0_1.out HB.out)|(with_reducible refine zBb ?_ _)|(with_reducible refine zAb ?_ _)|(with_reducible refine zX ?_)));(case side4 => exact HC0_1.out);rintro e w16 ⟨rfl,hb⟩;refine ⟨_,rfl,?_⟩;have n0_:=zA (zQ (g:=gb174) (o:=.cells #[.slice A0_0 l0_0.length c0_0,.slice A0_1 l0_1.length c0_1] 41 (0,0)) (by (with_reducible repeat (first|refine zF ?_ _|refine zI ?_|refine zG ?_ _));exact BK174.out) hb);have n1_:=zA (zQ (g:=gb175) (o:=.cells #[.slice A1_0 l1_0.length c1_0,.slice A1_1 l1_1.length c1_1] 41 (0,0)) (by (with_reducible repeat (first|refine zF ?_ _|refine zI ?_|refine zG ?_ _));exact BK175.out) hb);have n2_:=zA (zJb (by repeat (first|(with_reducible first|exact HB.out|apply zK|apply zC|apply zJ|refine zB ?_ GE174.out|refine zB ?_ GE175.out)|exact HB.out)) hb);clear BK174;clear BK175;clear HB;have BK174:=n0_;have BK175:=n1_;have HB:=n2_;clear n0_ n1_ n2_;(try clear hb);(try clear hb2);(try clear hk);(try clear hi);have hcz17_0 : w16.cell? ⟨gb175,0,none⟩ = some (.slice A1_0 l1_0.length c1_0):=(zP BK175.out 0).trans rfl;have hcz17_1 : w16.cell? ⟨gb175,1,none⟩ = some (.slice A1_1 l1_1.length c1_1):=(zP BK175.out 1).trans rfl;have hfz17_0:=blk_frozen BK175.out 0;have hfz17_1:=blk_frozen BK175.out 1)|((with_reducible refine gate_callee (f:=30) rfl ?_);refine goesL_ (some 17) rfl rfl Try.func30 (by kernel_rfl) rfl #[.agg #[.slice A1_0 l1_0.length c1_0,.slice A1_1 l1_1.length c1_1],.int .i64 t176] rfl (by (try simp only [zCb,zMb,zNb]);first|done|rfl|(simp only [zLb,zDb];rfl)) ?_;(with_reducible refine (laws_szQuery.calls k _ _ l1_0 _ _ l1_1 t176 t177 _ ?side1 ?side2 ?side3 ?side4 A10.out).mono ?_);(case side1 => repeat (first|exact (zKb HR1_0.out HB.out)|(with_reducible refine zBb ?_ _)|(with_reducible refine zAb ?_ _)|(with_reducible refine zX ?_)));(case side2 => exact HC1_0.out);(case side3 => repeat (first|exact (zKb HR1_1.out HB.out)|(with_reducible refine zBb ?_ _)|(with_reducible refine zAb ?_ _)|(with_reducible refine zX ?_)));(case side4 => exact HC1_1.out);rintro e w18 ⟨rfl,hb⟩;refine ⟨_,rfl,?_⟩;have n0_:=zA (zQ (g:=gb174) (o:=.cells #[.slice A0_0 l0_0.length c0_0,.slice A0_1 l0_1.length c0_1] 41 (0,0)) (by (with_reducible repeat (first|refine zF ?_ _|refine zI ?_|refine zG ?_ _));exact BK174.out) hb);have n1_:=zA (zQ (g:=gb175) (o:=.cells #[.slice A1_0 l1_0.length c1_0,.slice A1_1 l1_1.length c1_1] 41 (0,0)) (by (with_reducible repeat (first|refine zF ?_ _|refine zI ?_|refine zG ?_ _));exact BK175.out) hb);have n2_:=zA (zJb (by repeat (first|(with_reducible first|exact HB.out|apply zK|apply zC|apply zJ|refine zB ?_ GE174.out|refine zB ?_ GE175.out)|exact HB.out)) hb);clear BK174;clear BK175;clear HB;have BK174:=n0_;have BK175:=n1_;have HB:=n2_;clear n0_ n1_ n2_;(try clear hb);(try clear hb2);(try clear hk);(try clear hi)))
   go_ret
   exact ⟨by first|rfl|(simp [errW_none,errW_some] <;> rfl)|(simp [*,errW_none,errW_some] <;> rfl),by repeat (first|(with_reducible first|exact HB.out|apply zK|apply zC|apply zJ|refine zB ?_ GE174.out|refine zB ?_ GE175.out)|exact HB.out)⟩
  ·
   rw [if_neg c11] at H
   have c11b0 : decide (t177 < 0) = false:=decide_eq_false c11
   clear c11
   replace H:=Option.bind_eq_some_iff.mp H
   obtain ⟨⟨t178,t181⟩,A190,H⟩:=H
   replace H : ((laws_toQuery.f k l1_0 l1_1).bind fun bt184 => ((spec_EqualQueries.f k t178 t181 bt184.1 bt184.2).bind fun t190 => ((laws_toQuery.f k l0_0 l0_1).bind fun bt191 => ((laws_toQuery.f k l1_0 l1_1).bind fun bt198 => ((impl_EqualQueries.f k bt191.1 bt191.2 bt198.1 bt198.2).bind fun t205 => (if (t205 != t190) = true then (some false) else ((laws_toQuery.f k l0_0 l0_1).bind fun bt206 => ((laws_eqQuery.f k bt191.1 bt191.2 bt206.1 bt206.2).bind fun t212 => (if t212 = true then ((laws_toQuery.f k l1_0 l1_1).bind fun bt213 => ((laws_eqQuery.f k bt198.1 bt198.2 bt213.1 bt213.2).bind fun t219 => (if t219 = true then (some true) else (some false)))) else (some false)))))))))) = some r:=H
   have A19:=zA A190
   clear A190
   replace H:=Option.bind_eq_some_iff.mp H
   obtain ⟨⟨t184,t187⟩,A200,H⟩:=H
   replace H : ((spec_EqualQueries.f k t178 t181 t184 t187).bind fun t190 => ((laws_toQuery.f k l0_0 l0_1).bind fun bt191 => ((laws_toQuery.f k l1_0 l1_1).bind fun bt198 => ((impl_EqualQueries.f k bt191.1 bt191.2 bt198.1 bt198.2).bind fun t205 => (if (t205 != t190) = true then (some false) else ((laws_toQuery.f k l0_0 l0_1).bind fun bt206 => ((laws_eqQuery.f k bt191.1 bt191.2 bt206.1 bt206.2).bind fun t212 => (if t212 = true then ((laws_toQuery.f k l1_0 l1_1).bind fun bt213 => ((laws_eqQuery.f k bt198.1 bt198.2 bt213.1 bt213.2).bind fun t219 => (if t219 = true then (some true) else (some false)))) else (some false))))))))) = some r:=H
   have A20:=zA A200
   clear A200
   replace H:=Option.bind_eq_some_iff.mp H
   obtain ⟨t190,A210,H⟩:=H
   replace H : ((laws_toQuery.f k l0_0 l0_1).bind fun bt191 => ((laws_toQuery.f k l1_0 l1_1).bind fun bt198 => ((impl_EqualQueries.f k bt191.1 bt191.2 bt198.1 bt198.2).bind fun t205 => (if (t205 != t190) = true then (some false) else ((laws_toQuery.f k l0_0 l0_1).bind fun bt206 => ((laws_eqQuery.f k bt191.1 bt191.2 bt206.1 bt206.2).bind fun t212 => (if t212 = true then ((laws_toQuery.f k l1_0 l1_1).bind fun bt213 => ((laws_eqQuery.f k bt198.1 bt198.2 bt213.1 bt213.2).bind fun t219 => (if t219 = true then (some true) else (some false)))) else (some false)))))))) = some r:=H
   have A21:=zA A210
   clear A210
   replace H:=Option.bind_eq_some_iff.mp H
   obtain ⟨⟨t191,t194⟩,A220,H⟩:=H
   replace H : ((laws_toQuery.f k l1_0 l1_1).bind fun bt198 => ((impl_EqualQueries.f k t191 t194 bt198.1 bt198.2).bind fun t205 => (if (t205 != t190) = true then (some false) else ((laws_toQuery.f k l0_0 l0_1).bind fun bt206 => ((laws_eqQuery.f k t191 t194 bt206.1 bt206.2).bind fun t212 => (if t212 = true then ((laws_toQuery.f k l1_0 l1_1).bind fun bt213 => ((laws_eqQuery.f k bt198.1 bt198.2 bt213.1 bt213.2).bind fun t219 => (if t219 = true then (some true) else (some false)))) else (some false))))))) = some r:=H
   have A22:=zA A220
   clear A220
   replace H:=Option.bind_eq_some_iff.mp H
   obtain ⟨⟨t198,t201⟩,A230,H⟩:=H
   replace H : ((impl_EqualQueries.f k t191 t194 t198 t201).bind fun t205 => (if (t205 != t190) = true then (some false) else ((laws_toQuery.f k l0_0 l0_1).bind fun bt206 => ((laws_eqQuery.f k t191 t194 bt206.1 bt206.2).bind fun t212 => (if t212 = true then ((laws_toQuery.f k l1_0 l1_1).bind fun bt213 => ((laws_eqQuery.f k t198 t201 bt213.1 bt213.2).bind fun t219 => (if t219 = true then (some true) else (some false)))) else (some false)))))) = some r:=H
   have A23:=zA A230
   clear A230
   replace H:=Option.bind_eq_some_iff.mp H
   obtain ⟨t205,A240,H⟩:=H
   replace H : (if (t205 != t190) = true then (some false) else ((laws_toQuery.f k l0_0 l0_1).bind fun bt206 => ((laws_eqQuery.f k t191 t194 bt206.1 bt206.2).bind fun t212 => (if t212 = true then ((laws_toQuery.f k l1_0 l1_1).bind fun bt213 => ((laws_eqQuery.f k t198 t201 bt213.1 bt213.2).bind fun t219 => (if t219 = true then (some true) else (some false)))) else (some false))))) = some r:=H
   have A24:=zA A240
   clear A240
   by_cases c25 : (t205 != t190) = true
   ·
    rw [if_pos c25] at H
    have c25b0 : (t205 != t190) = true:=c25
    (try (have c25b1 : decide (t205 = t190) = false:=by simpa using c25))
    (try (have c25b2 : (t205 == t190) = false:=by simpa using c25))
    (try (have c25b3 : ¬ (t205 = t190):=by simpa using c25))
    clear c25
    obtain rfl:=Option.some.inj H
    go_enter Try.func6,Try.ntmps6
    try go_wp2_with (first|((with_reducible refine gate_dst (N:=2) rfl ?_);refine box_event ?hg (N:=2) ?hd (cs:=#[.slice A0_0 l0_0.length c0_0,.slice A0_1 l0_1.length c0_1]) (t:=41) ?hr ?_;(case hd => rfl);(case hg => rfl);(case hr => first|(go_simp;done)|(go_simp;rfl));intro gb174 hg w26 hbox hb;have n0_:=zA (zJb (by repeat (first|(with_reducible first|exact HB.out|apply zK|apply zC|apply zJ)|exact HB.out)) hb);have n1_:=zA (hbox);have n2_:=zA ((by rw [hg];exact (zT (by repeat (first|(with_reducible first|exact HB.out|apply zK|apply zC|apply zJ)|exact HB.out))) : w.heap.size ≤ gb174));have n3_:=zA ((by rw [hg];exact (zT (by repeat (first|(with_reducible first|exact HB.out|apply zK|apply zC|apply zJ)|exact HB.out))) : w.heap.size ≤ gb174));clear HB;have HB:=n0_;have BK174:=n1_;have GW174:=n2_;have GE174:=n3_;clear n0_ n1_ n2_ n3_;clear hb hbox hg)|((with_reducible refine gate_dst (N:=3) rfl ?_);refine box_event ?hg (N:=3) ?hd (cs:=#[.slice A1_0 l1_0.length c1_0,.slice A1_1 l1_1.length c1_1]) (t:=41) ?hr ?_;(case hd => rfl);(case hg => rfl);(case hr => first|(go_simp;done)|(go_simp;rfl));intro gb175 hg w27 hbox hb;have n0_:=zA (zQ (g:=gb174) (o:=.cells #[.slice A0_0 l0_0.length c0_0,.slice A0_1 l0_1.length c0_1] 41 (0,0)) (by (with_reducible repeat (first|refine zF ?_ _|refine zI ?_|refine zG ?_ _));exact BK174.out) hb);have n1_:=zA (zJb (by repeat (first|(with_reducible first|exact HB.out|apply zK|apply zC|apply zJ|refine zB ?_ GE174.out)|exact HB.out)) hb);have n2_:=zA (hbox);have n3_:=zA ((by rw [hg];exact (zT (by repeat (first|(with_reducible first|exact HB.out|apply zK|apply zC|apply zJ|refine zB ?_ GE174.out)|exact HB.out))) : w.heap.size ≤ gb175));have n4_:=zA ((by rw [hg];exact (zT (by repeat (first|(with_reducible first|exact HB.out|apply zK|apply zC|apply zJ|refine zB ?_ GE174.out)|exact HB.out))) : w.heap.size ≤ gb175));have n5_:=zA ((by rw [hg];exact Nat.ne_of_lt (blk_lt (g:=gb174) (o:=.cells #[.slice A0_0 l0_0.length c0_0,.slice A0_1 l0_1.length c0_1] 41 (0,0)) (by (with_reducible repeat (first|refine zF ?_ _|refine zI ?_|refine zG ?_ _));exact BK174.out)) : gb174 ≠ gb175));have n6_:=zA ((by rw [hg];exact Nat.ne_of_gt (blk_lt (g:=gb174) (o:=.cells #[.slice A0_0 l0_0.length c0_0,.slice A0_1 l0_1.length c0_1] 41 (0,0)) (by (with_reducible repeat (first|refine zF ?_ _|refine zI ?_|refine zG ?_ _));exact BK174.out)) : gb175 ≠ gb174));clear BK174;clear HB;have BK174:=n0_;have HB:=n1_;have BK175:=n2_;have GW175:=n3_;have GE175:=n4_;have NB174_175:=n5_;have NB175_174:=n6_;clear n0_ n1_ n2_ n3_ n4_ n5_ n6_;clear hb hbox hg;have hnb28:=NB174_175.out;have hnc28:=NB175_174.out;have hcz29_0 : w27.cell? ⟨gb174,0,none⟩ = some (.slice A0_0 l0_0.length c0_0):=(zP BK174.out 0).trans rfl;have hcz29_1 : w27.cell? ⟨gb174,1,none⟩ = some (.slice A0_1 l0_1.length c0_1):=(zP BK174.out 1).trans rfl;have hfz29_0:=blk_frozen BK174.out 0;have hfz29_1:=blk_frozen BK174.out 1)|((with_reducible refine gate_callee (f:=30) rfl ?_);refine goesL_ (some 12) rfl rfl Try.func30 (by kernel_rfl) rfl #[.agg #[.slice A0_0 l0_0.length c0_0,.slice A0_1 l0_1.length c0_1],.int .i64 1048576] rfl (by (try simp only [zCb,zMb,zNb]);first|done|rfl|(simp only [zLb,zDb];rfl)) ?_;(with_reducible refine (laws_szQuery.calls k _ _ l0_0 _ _ l0_1 1048576 t176 _ ?side1 ?side2 ?side3 ?side4 A3.out).mono ?_);(case side1 => repeat (first|exact (zKb HR0_0.out HB.out)|(with_reducible refine zBb ?_ _)|(with_reducible refine zAb ?_ _)|(with_reducible refine zX ?_)));(case side2 => exact HC0_0.out);(case side3 => repeat (first|exact (zKb HR0_1.out HB.out)|(with_reducible refine zBb ?_ _)|(with_reducible refine zAb ?_ _)|(with_reducible refine zX ?_)));(case side4 => exact HC0_1.out);rintro e w30 ⟨rfl,hb⟩;refine ⟨_,rfl,?_⟩;have n0_:=zA (zQ (g:=gb174) (o:=.cells #[.slice A0_0 l0_0.length c0_0,.slice A0_1 l0_1.length c0_1] 41 (0,0)) (by (with_reducible repeat (first|refine zF ?_ _|refine zI ?_|refine zG ?_ _));exact BK174.out) hb);have n1_:=zA (zQ (g:=gb175) (o:=.cells #[.slice A1_0 l1_0.length c1_0,.slice A1_1 l1_1.length c1_1] 41 (0,0)) (by (with_reducible repeat (first|refine zF ?_ _|refine zI ?_|refine zG ?_ _));exact BK175.out) hb);have n2_:=zA (zJb (by repeat (first|(with_reducible first|exact HB.out|apply zK|apply zC|apply zJ|refine zB ?_ GE174.out|refine zB ?_ GE175.out)|exact HB.out)) hb);clear BK174;clear BK175;clear HB;have BK174:=n0_;have BK175:=n1_;have HB:=n2_;clear n0_ n1_ n2_;(try clear hb);(try clear hb2);(try clear hk);(try clear hi);have hcz31_0 : w30.cell? ⟨gb175,0,none⟩ = some (.slice A1_0 l1_0.length c1_0):=(zP BK175.out 0).trans rfl;have hcz31_1 : w30.cell? ⟨gb175,1,none⟩ = some (.slice A1_1 l1_1.length c1_1):=(zP BK175.out 1).trans rfl;have hfz31_0:=blk_frozen BK175.out 0;have hfz31_1:=blk_frozen BK175.out 1)|((with_reducible refine gate_callee (f:=30) rfl ?_);refine goesL_ (some 17) rfl rfl Try.func30 (by kernel_rfl) rfl #[.agg #[.slice A1_0 l1_0.length c1_0,.slice A1_1 l1_1.length c1_1],.int .i64 t176] rfl (by (try simp only [zCb,zMb,zNb]);first|done|rfl|(simp only [zLb,zDb];rfl)) ?_;(with_reducible refine (laws_szQuery.calls k _ _ l1_0 _ _ l1_1 t176 t177 _ ?side1 ?side2 ?side3 ?side4 A10.out).mono ?_);(case side1 => repeat (first|exact (zKb HR1_0.out HB.out)|(with_reducible refine zBb ?_ _)|(with_reducible refine zAb ?_ _)|(with_reducible refine zX ?_)));(case side2 => exact HC1_0.out);(case side3 => repeat (first|exact (zKb HR1_1.out HB.out)|(with_reducible refine zBb ?_ _)|(with_reducible refine zAb ?_ _)|(with_reducible refine zX ?_)));(case side4 => exact HC1_1.out);rintro e w32 ⟨rfl,hb⟩;refine ⟨_,rfl,?_⟩;have n0_:=zA (zQ (g:=gb174) (o:=.cells #[.slice A0_0 l0_0.length c0_0,.slice A0_1 l0_1.length c0_1] 41 (0,0)) (by (with_reducible repeat (first|refine zF ?_ _|refine zI ?_|refine zG ?_ _));exact BK174.out) hb);have n1_:=zA (zQ (g:=gb175) (o:=.cells #[.slice A1_0 l1_0.length c1_0,.slice A1_1 l1_1.length c1_1] 41 (0,0)) (by (with_reducible repeat (first|refine zF ?_ _|refine zI ?_|refine zG ?_ _));exact BK175.out) hb);have n2_:=zA (zJb (by repeat (first|(with_reducible first|exact HB.out|apply zK|apply zC|apply zJ|refine zB ?_ GE174.out|refine zB ?_ GE175.out)|exact HB.out)) hb);clear BK174;clear BK175;clear HB;have BK174:=n0_;have BK175:=n1_;have HB:=n2_;clear n0_ n1_ n2_;(try clear hb);(try clear hb2);(try clear hk);(try clear hi)))
    have n0_:=zA (zI BK174.out)
    have n1_:=zA (zI BK175.out)
    have n2_:=zA (zJ HB.out)
    clear BK174
    clear BK175
    clear HB
    have BK174:=n0_
    have BK175:=n1_
    have HB:=n2_
    clear n0_ n1_ n2_
    refine start_ (n:=6) (S:=fun w' => w'.cell? ⟨gb174,0,none⟩ = some (.slice A0_0 l0_0.length c0_0) ∧ w'.cell? ⟨gb174,1,none⟩ = some (.slice A0_1 l0_1.length c0_1) ∧ w'.cell? ⟨gb175,0,none⟩ = some (.slice A1_0 l1_0.length c1_0) ∧ w'.cell? ⟨gb175,1,none⟩ = some (.slice A1_1 l1_1.length c1_1)) (ds:=[]) #[false,false,false,false,false,false] (by kernel_rfl) rfl rfl ⟨(zP BK174.out 0).trans rfl,(zP BK174.out 1).trans rfl,(zP BK175.out 0).trans rfl,(zP BK175.out 1).trans rfl⟩ (fun hHeld => ?_)
    generalize w32.drew = w33 at BK174 BK175 HB hHeld ⊢
    refine take_ (i:=0) (N:=some 20) (v:=?_) (a':=?_) #[true,false,false,false,false,false] rfl rfl (by kernel_rfl) (fun _ _ _ h => h) (Or.inl ⟨by rfl,?_⟩) hHeld ?_ ?_
    rotate_left
    ·
     rintro w' ⟨s0,s1,s2,s3⟩
     go_simp
     with_reducible rfl
    rotate_left
    ·
     simp only [Act.put,zO,zEb,zFb,i64_w,i32_w]
     rfl
    refine take_ (i:=2) (N:=some 22) (v:=?_) (a':=?_) #[true,false,true,false,false,false] rfl rfl (by kernel_rfl) (fun _ _ _ h => h) (Or.inl ⟨by rfl,?_⟩) hHeld ?_ ?_
    rotate_left
    ·
     rintro w' ⟨s0,s1,s2,s3⟩
     go_simp
     with_reducible rfl
    rotate_left
    ·
     simp only [Act.put,zO,zEb,zFb,i64_w,i32_w]
     rfl
    refine one_ (i:=1) (N:=some 21) #[true,true,true,false,false,false] rfl rfl (by kernel_rfl) (by decide) (fun K hK => ?_)
    refine goes_ Try.func32 (by kernel_rfl) rfl #[.agg #[.slice A0_0 l0_0.length c0_0,.slice A0_1 l0_1.length c0_1]] (by rfl) rfl rfl (by (try simp only [zCb,zMb,zNb]);first|done|rfl|(simp only [zLb,zDb];rfl)) ?_
    with_reducible refine (laws_toQuery.calls k _ _ l0_0 _ _ l0_1 t178 t181 _ ?side1 ?side2 ?side3 ?side4 A19.out).mono ?_
    (case side1 => repeat (first|exact (zKb HR0_0.out HB.out)|(with_reducible refine zBb ?_ _)|(with_reducible refine zAb ?_ _)|(with_reducible refine zX ?_)))
    (case side2 => exact HC0_0.out)
    (case side3 => repeat (first|exact (zKb HR0_1.out HB.out)|(with_reducible refine zBb ?_ _)|(with_reducible refine zAb ?_ _)|(with_reducible refine zX ?_)))
    (case side4 => exact HC0_1.out)
    rintro e w34 ⟨v179,v182,rfl,ho0,ho1,hb⟩
    refine ⟨_,rfl,?_⟩
    have n0_:=zA (zHb ho0 (zT (by repeat (first|(with_reducible first|exact HB.out|apply zK|apply zC|apply zJ|refine zB ?_ GE174.out|refine zB ?_ GE175.out)|exact HB.out))))
    have n1_:=zA (zIb ho1 (zT (by repeat (first|(with_reducible first|exact HB.out|apply zK|apply zC|apply zJ|refine zB ?_ GE174.out|refine zB ?_ GE175.out)|exact HB.out))))
    have n2_:=zA (zQ (g:=gb174) (o:=.cells #[.slice A0_0 l0_0.length c0_0,.slice A0_1 l0_1.length c0_1] 41 (0,0)) (by (with_reducible repeat (first|refine zF ?_ _|refine zI ?_|refine zG ?_ _));exact BK174.out) hb)
    have n3_:=zA (zQ (g:=gb175) (o:=.cells #[.slice A1_0 l1_0.length c1_0,.slice A1_1 l1_1.length c1_1] 41 (0,0)) (by (with_reducible repeat (first|refine zF ?_ _|refine zI ?_|refine zG ?_ _));exact BK175.out) hb)
    have n4_:=zA (zJb (by repeat (first|(with_reducible first|exact HB.out|apply zK|apply zC|apply zJ|refine zB ?_ GE174.out|refine zB ?_ GE175.out)|exact HB.out)) hb)
    clear BK174
    clear BK175
    clear HB
    have HO180:=n0_
    have HO183:=n1_
    have BK174:=n2_
    have BK175:=n3_
    have HB:=n4_
    clear n0_ n1_ n2_ n3_ n4_
    (try clear hb)
    (try clear hb2)
    (try clear hk)
    (try clear hi)
    (try clear ho0)
    (try clear ho1)
    refine hK.out _ _ ⟨(zP BK174.out 0).trans rfl,(zP BK174.out 1).trans rfl,(zP BK175.out 0).trans rfl,(zP BK175.out 1).trans rfl⟩ (fun hHeld => ?_)
    clear hK K
    refine norm_ (a':=?_) ?_ ?_
    rotate_left
    ·
     show Act.put _ (some 21) _ = _
     simp only [Act.put,zO,zEb,zFb,i64_w,i32_w]
     rfl
    refine one_ (i:=3) (N:=some 23) #[true,true,true,true,false,false] rfl rfl (by kernel_rfl) (by decide) (fun K hK => ?_)
    refine goes_ Try.func32 (by kernel_rfl) rfl #[.agg #[.slice A1_0 l1_0.length c1_0,.slice A1_1 l1_1.length c1_1]] (by rfl) rfl rfl (by (try simp only [zCb,zMb,zNb]);first|done|rfl|(simp only [zLb,zDb];rfl)) ?_
    with_reducible refine (laws_toQuery.calls k _ _ l1_0 _ _ l1_1 t184 t187 _ ?side1 ?side2 ?side3 ?side4 A20.out).mono ?_
    (case side1 => repeat (first|exact (zKb HR1_0.out HB.out)|(with_reducible refine zBb ?_ _)|(with_reducible refine zAb ?_ _)|(with_reducible refine zX ?_)))
    (case side2 => exact HC1_0.out)
    (case side3 => repeat (first|exact (zKb HR1_1.out HB.out)|(with_reducible refine zBb ?_ _)|(with_reducible refine zAb ?_ _)|(with_reducible refine zX ?_)))
    (case side4 => exact HC1_1.out)
    rintro e w35 ⟨v185,v188,rfl,ho0,ho1,hb⟩
    refine ⟨_,rfl,?_⟩
    have n0_:=zA (zTb (by (with_reducible repeat (first|apply zE|apply zD|apply zH));exact HO180.out) (zW ho0) hb)
    have n1_:=zA (zS (zU (zU (Kd.S_old (by (with_reducible repeat (first|apply zM|apply zL|apply zN));exact HO183.out) hb) (zW ho0)) (Kd.S_base ho1)) (fun _ h_ => h_.1))
    have n2_:=zA (zHb (zQb ho0 (zOb (by (with_reducible repeat (first|apply zE|apply zD|apply zH));exact HO180.out))) (zT (by repeat (first|(with_reducible first|exact HB.out|apply zK|apply zC|apply zJ|refine zB ?_ GE174.out|refine zB ?_ GE175.out)|exact HB.out))))
    have n3_:=zA (zIb (zV (zV ho1 (zOb (by (with_reducible repeat (first|apply zE|apply zD|apply zH));exact HO180.out))) (Kd.S_lt (by (with_reducible repeat (first|apply zM|apply zL|apply zN));exact HO183.out))) (zT (by repeat (first|(with_reducible first|exact HB.out|apply zK|apply zC|apply zJ|refine zB ?_ GE174.out|refine zB ?_ GE175.out)|exact HB.out))))
    have n4_:=zA (zQ (g:=gb174) (o:=.cells #[.slice A0_0 l0_0.length c0_0,.slice A0_1 l0_1.length c0_1] 41 (0,0)) (by (with_reducible repeat (first|refine zF ?_ _|refine zI ?_|refine zG ?_ _));exact BK174.out) hb)
    have n5_:=zA (zQ (g:=gb175) (o:=.cells #[.slice A1_0 l1_0.length c1_0,.slice A1_1 l1_1.length c1_1] 41 (0,0)) (by (with_reducible repeat (first|refine zF ?_ _|refine zI ?_|refine zG ?_ _));exact BK175.out) hb)
    have n6_:=zA (zJb (by repeat (first|(with_reducible first|exact HB.out|apply zK|apply zC|apply zJ|refine zB ?_ GE174.out|refine zB ?_ GE175.out)|exact HB.out)) hb)
    clear HO180
    clear HO183
    clear BK174
    clear BK175
    clear HB
    have HO180:=n0_
    have HO183:=n1_
    have HO186:=n2_
    have HO189:=n3_
    have BK174:=n4_
    have BK175:=n5_
    have HB:=n6_
    clear n0_ n1_ n2_ n3_ n4_ n5_ n6_
    (try clear hb)
    (try clear hb2)
    (try clear hk)
    (try clear hi)
    (try clear ho0)
    (try clear ho1)
    obtain ⟨Ao36,co36,eo36⟩:=Kd.R_slice HO180.out
    (first|subst eo36|(injection eo36 with f1_ f2_ f3_;have f4_:=f1_.symm;have f5_:=f3_.symm;clear f1_ f2_ f3_;subst f4_;subst f5_))
    obtain ⟨Ao37,co37,eo37⟩:=Kd.S_slice HO183.out
    (first|subst eo37|(injection eo37 with f1_ f2_ f3_;have f4_:=f1_.symm;have f5_:=f3_.symm;clear f1_ f2_ f3_;subst f4_;subst f5_))
    obtain ⟨Ao38,co38,eo38⟩:=Kd.R_slice HO186.out
    (first|subst eo38|(injection eo38 with f1_ f2_ f3_;have f4_:=f1_.symm;have f5_:=f3_.symm;clear f1_ f2_ f3_;subst f4_;subst f5_))
    obtain ⟨Ao39,co39,eo39⟩:=Kd.S_slice HO189.out
    (first|subst eo39|(injection eo39 with f1_ f2_ f3_;have f4_:=f1_.symm;have f5_:=f3_.symm;clear f1_ f2_ f3_;subst f4_;subst f5_))
    refine hK.out _ _ ⟨(zP BK174.out 0).trans rfl,(zP BK174.out 1).trans rfl,(zP BK175.out 0).trans rfl,(zP BK175.out 1).trans rfl⟩ (fun hHeld => ?_)
    clear hK K
    refine norm_ (a':=?_) ?_ ?_
    rotate_left
    ·
     show Act.put _ (some 23) _ = _
     simp only [Act.put,zO,zEb,zFb,i64_w,i32_w]
     rfl
    refine one_ (i:=4) (N:=some 24) #[true,true,true,true,true,false] rfl rfl (by kernel_rfl) (by decide) (fun K hK => ?_)
    refine goes_ Try.func31 (by kernel_rfl) rfl #[.agg #[.slice Ao36 t178.length co36,.slice Ao37 t181.length co37],.agg #[.slice Ao38 t184.length co38,.slice Ao39 t187.length co39]] (by rfl) rfl rfl (by (try simp only [zCb,zMb,zNb]);first|done|rfl|(simp only [zLb,zDb];rfl)) ?_
    with_reducible refine (spec_EqualQueries.calls k _ _ t178 _ _ t181 _ _ t184 _ _ t187 t190 _ ?side1 ?side2 ?side3 ?side4 ?side5 ?side6 ?side7 ?side8 A21.out).mono ?_
    (case side1 => repeat (first|exact (Kd.R_reads' HO180.out).2.2|(with_reducible refine zBb ?_ _)|(with_reducible refine zAb ?_ _)|(with_reducible refine zX ?_)))
    (case side2 => exact (Kd.R_reads' HO180.out).2.1)
    (case side3 => repeat (first|exact (Kd.S_reads' HO183.out).2.2|(with_reducible refine zBb ?_ _)|(with_reducible refine zAb ?_ _)|(with_reducible refine zX ?_)))
    (case side4 => exact (Kd.S_reads' HO183.out).2.1)
    (case side5 => repeat (first|exact (Kd.R_reads' HO186.out).2.2|(with_reducible refine zBb ?_ _)|(with_reducible refine zAb ?_ _)|(with_reducible refine zX ?_)))
    (case side6 => exact (Kd.R_reads' HO186.out).2.1)
    (case side7 => repeat (first|exact (Kd.S_reads' HO189.out).2.2|(with_reducible refine zBb ?_ _)|(with_reducible refine zAb ?_ _)|(with_reducible refine zX ?_)))
    (case side8 => exact (Kd.S_reads' HO189.out).2.1)
    rintro e w40 ⟨rfl,hb⟩
    refine ⟨_,rfl,?_⟩
    have n0_:=zA (zZ (by (with_reducible repeat (first|apply zE|apply zD|apply zH));exact HO180.out) hb)
    have n1_:=zA (zY (by (with_reducible repeat (first|apply zM|apply zL|apply zN));exact HO183.out) hb)
    have n2_:=zA (zZ (by (with_reducible repeat (first|apply zE|apply zD|apply zH));exact HO186.out) hb)
    have n3_:=zA (zY (by (with_reducible repeat (first|apply zM|apply zL|apply zN));exact HO189.out) hb)
    have n4_:=zA (zQ (g:=gb174) (o:=.cells #[.slice A0_0 l0_0.length c0_0,.slice A0_1 l0_1.length c0_1] 41 (0,0)) (by (with_reducible repeat (first|refine zF ?_ _|refine zI ?_|refine zG ?_ _));exact BK174.out) hb)
    have n5_:=zA (zQ (g:=gb175) (o:=.cells #[.slice A1_0 l1_0.length c1_0,.slice A1_1 l1_1.length c1_1] 41 (0,0)) (by (with_reducible repeat (first|refine zF ?_ _|refine zI ?_|refine zG ?_ _));exact BK175.out) hb)
    have n6_:=zA (zJb (by repeat (first|(with_reducible first|exact HB.out|apply zK|apply zC|apply zJ|refine zB ?_ GE174.out|refine zB ?_ GE175.out)|exact HB.out)) hb)
    clear HO180
    clear HO183
    clear HO186
    clear HO189
    clear BK174
    clear BK175
    clear HB
    have HO180:=n0_
    have HO183:=n1_
    have HO186:=n2_
    have HO189:=n3_
    have BK174:=n4_
    have BK175:=n5_
    have HB:=n6_
    clear n0_ n1_ n2_ n3_ n4_ n5_ n6_
    (try clear hb)
    (try clear hb2)
    (try clear hk)
    (try clear hi)
    refine hK.out _ _ ⟨(zP BK174.out 0).trans rfl,(zP BK174.out 1).trans rfl,(zP BK175.out 0).trans rfl,(zP BK175.out 1).trans rfl⟩ (fun hHeld => ?_)
    clear hK K
    refine norm_ (a':=?_) ?_ ?_
    rotate_left
    ·
     show Act.put _ (some 24) _ = _
     simp only [Act.put,zO,zEb,zFb,i64_w,i32_w]
     rfl
    refine pure_ (i:=5) (N:=some 6) (v:=?_) (a':=?_) #[true,true,true,true,true,true] rfl rfl (by kernel_rfl) (fun _ _ _ h => h) (Or.inl ⟨by rfl,?_⟩) ?_ ?_
    rotate_left
    ·
     intro w'
     go_simp
     with_reducible rfl
    rotate_left
    ·
     simp only [Act.put,zO,zEb,zFb,i64_w,i32_w]
     rfl
    refine done_ (by kernel_rfl) ?_
    have hcz41_0 : w40.cell? ⟨gb174,0,none⟩ = some (.slice A0_0 l0_0.length c0_0):=(zP BK174.out 0).trans rfl
    have hcz41_1 : w40.cell? ⟨gb174,1,none⟩ = some (.slice A0_1 l0_1.length c0_1):=(zP BK174.out 1).trans rfl
    have hfz41_0:=blk_frozen BK174.out 0
    have hfz41_1:=blk_frozen BK174.out 1
    try go_wp2_with (first|((with_reducible refine gate_callee (f:=32) rfl ?_);refine goesL_ (some 26) rfl rfl Try.func32 (by kernel_rfl) rfl #[.agg #[.slice A0_0 l0_0.length c0_0,.slice A0_1 l0_1.length c0_1]] rfl (by (try simp only [zCb,zMb,zNb]);first|done|rfl|(simp only [zLb,zDb];rfl)) ?_;(with_reducible refine (laws_toQuery.calls k _ _ l0_0 _ _ l0_1 t191 t194 _ ?side1 ?side2 ?side3 ?side4 A22.out).mono ?_);(case side1 => repeat (first|exact (zKb HR0_0.out HB.out)|(with_reducible refine zBb ?_ _)|(with_reducible refine zAb ?_ _)|(with_reducible refine zX ?_)));(case side2 => exact HC0_0.out);(case side3 => repeat (first|exact (zKb HR0_1.out HB.out)|(with_reducible refine zBb ?_ _)|(with_reducible refine zAb ?_ _)|(with_reducible refine zX ?_)));(case side4 => exact HC0_1.out);rintro e w42 ⟨v192,v195,rfl,ho0,ho1,hb⟩;refine ⟨_,rfl,?_⟩;have n0_:=zA (zTb (by (with_reducible repeat (first|apply zE|apply zD|apply zH));exact HO180.out) (zW ho0) hb);have n1_:=zA (zS (zU (zU (Kd.S_old (by (with_reducible repeat (first|apply zM|apply zL|apply zN));exact HO183.out) hb) (zW ho0)) (Kd.S_base ho1)) (fun _ h_ => h_.1));have n2_:=zA (zTb (by (with_reducible repeat (first|apply zE|apply zD|apply zH));exact HO186.out) (zW ho0) hb);have n3_:=zA (zS (zU (zU (Kd.S_old (by (with_reducible repeat (first|apply zM|apply zL|apply zN));exact HO189.out) hb) (zW ho0)) (Kd.S_base ho1)) (fun _ h_ => h_.1));have n4_:=zA (zHb (zQb (zQb ho0 (zOb (by (with_reducible repeat (first|apply zE|apply zD|apply zH));exact HO180.out))) (zOb (by (with_reducible repeat (first|apply zE|apply zD|apply zH));exact HO186.out))) (zT (by repeat (first|(with_reducible first|exact HB.out|apply zK|apply zC|apply zJ|refine zB ?_ GE174.out|refine zB ?_ GE175.out)|exact HB.out))));have n5_:=zA (zIb (zV (zV (zV (zV ho1 (zOb (by (with_reducible repeat (first|apply zE|apply zD|apply zH));exact HO180.out))) (Kd.S_lt (by (with_reducible repeat (first|apply zM|apply zL|apply zN));exact HO183.out))) (zOb (by (with_reducible repeat (first|apply zE|apply zD|apply zH));exact HO186.out))) (Kd.S_lt (by (with_reducible repeat (first|apply zM|apply zL|apply zN));exact HO189.out))) (zT (by repeat (first|(with_reducible first|exact HB.out|apply zK|apply zC|apply zJ|refine zB ?_ GE174.out|refine zB ?_ GE175.out)|exact HB.out))));have n6_:=zA (zQ (g:=gb174) (o:=.cells #[.slice A0_0 l0_0.length c0_0,.slice A0_1 l0_1.length c0_1] 41 (0,0)) (by (with_reducible repeat (first|refine zF ?_ _|refine zI ?_|refine zG ?_ _));exact BK174.out) hb);have n7_:=zA (zQ (g:=gb175) (o:=.cells #[.slice A1_0 l1_0.length c1_0,.slice A1_1 l1_1.length c1_1] 41 (0,0)) (by (with_reducible repeat (first|refine zF ?_ _|refine zI ?_|refine zG ?_ _));exact BK175.out) hb);have n8_:=zA (zJb (by repeat (first|(with_reducible first|exact HB.out|apply zK|apply zC|apply zJ|refine zB ?_ GE174.out|refine zB ?_ GE175.out)|exact HB.out)) hb);clear HO180;clear HO183;clear HO186;clear HO189;clear BK174;clear BK175;clear HB;have HO180:=n0_;have HO183:=n1_;have HO186:=n2_;have HO189:=n3_;have HO193:=n4_;have HO196:=n5_;have BK174:=n6_;have BK175:=n7_;have HB:=n8_;clear n0_ n1_ n2_ n3_ n4_ n5_ n6_ n7_ n8_;(try clear hb);(try clear hb2);(try clear hk);(try clear hi);(try clear ho0);(try clear ho1))|((with_reducible refine gate_dst (N:=7) rfl ?_);refine box_event ?hg (N:=7) ?hd (cs:=#[.slice none 0 0,.slice none 0 0]) (t:=46) ?hr ?_;(case hd => rfl);(case hg => rfl);(case hr => first|(go_simp;done)|(go_simp;rfl));intro gb197 hg w43 hbox hb;have n0_:=zA (zZ (by (with_reducible repeat (first|apply zE|apply zD|apply zH));exact HO180.out) hb);have n1_:=zA (zY (by (with_reducible repeat (first|apply zM|apply zL|apply zN));exact HO183.out) hb);have n2_:=zA (zZ (by (with_reducible repeat (first|apply zE|apply zD|apply zH));exact HO186.out) hb);have n3_:=zA (zY (by (with_reducible repeat (first|apply zM|apply zL|apply zN));exact HO189.out) hb);have n4_:=zA (zZ (by (with_reducible repeat (first|apply zE|apply zD|apply zH));exact HO193.out) hb);have n5_:=zA (zY (by (with_reducible repeat (first|apply zM|apply zL|apply zN));exact HO196.out) hb);have n6_:=zA (zQ (g:=gb174) (o:=.cells #[.slice A0_0 l0_0.length c0_0,.slice A0_1 l0_1.length c0_1] 41 (0,0)) (by (with_reducible repeat (first|refine zF ?_ _|refine zI ?_|refine zG ?_ _));exact BK174.out) hb);have n7_:=zA (zQ (g:=gb175) (o:=.cells #[.slice A1_0 l1_0.length c1_0,.slice A1_1 l1_1.length c1_1] 41 (0,0)) (by (with_reducible repeat (first|refine zF ?_ _|refine zI ?_|refine zG ?_ _));exact BK175.out) hb);have n8_:=zA (zJb (by repeat (first|(with_reducible first|exact HB.out|apply zK|apply zC|apply zJ|refine zB ?_ GE174.out|refine zB ?_ GE175.out)|exact HB.out)) hb);have n9_:=zA (hbox);have n10_:=zA ((by rw [hg];exact (zT (by repeat (first|(with_reducible first|exact HB.out|apply zK|apply zC|apply zJ|refine zB ?_ GE174.out|refine zB ?_ GE175.out)|exact HB.out))) : w.heap.size ≤ gb197));have n11_:=zA ((by rw [hg];exact (zT (by repeat (first|(with_reducible first|exact HB.out|apply zK|apply zC|apply zJ|refine zB ?_ GE174.out|refine zB ?_ GE175.out)|exact HB.out))) : w.heap.size ≤ gb197));have n12_:=zA ((by rw [hg];exact Nat.ne_of_lt (blk_lt (g:=gb174) (o:=.cells #[.slice A0_0 l0_0.length c0_0,.slice A0_1 l0_1.length c0_1] 41 (0,0)) (by (with_reducible repeat (first|refine zF ?_ _|refine zI ?_|refine zG ?_ _));exact BK174.out)) : gb174 ≠ gb197));have n13_:=zA ((by rw [hg];exact Nat.ne_of_gt (blk_lt (g:=gb174) (o:=.cells #[.slice A0_0 l0_0.length c0_0,.slice A0_1 l0_1.length c0_1] 41 (0,0)) (by (with_reducible repeat (first|refine zF ?_ _|refine zI ?_|refine zG ?_ _));exact BK174.out)) : gb197 ≠ gb174));have n14_:=zA ((by rw [hg];exact Nat.ne_of_lt (blk_lt (g:=gb175) (o:=.cells #[.slice A1_0 l1_0.length c1_0,.slice A1_1 l1_1.length c1_1] 41 (0,0)) (by (with_reducible repeat (first|refine zF ?_ _|refine zI ?_|refine zG ?_ _));exact BK175.out)) : gb175 ≠ gb197));have n15_:=zA ((by rw [hg];exact Nat.ne_of_gt (blk_lt (g:=gb175) (o:=.cells #[.slice A1_0 l1_0.length c1_0,.slice A1_1 l1_1.length c1_1] 41 (0,0)) (by (with_reducible repeat (first|refine zF ?_ _|refine zI ?_|refine zG ?_ _));exact BK175.out)) : gb197 ≠ gb175));clear HO180;clear HO183;clear HO186;clear HO189;clear HO193;clear HO196;clear BK174;clear BK175;clear HB;have HO180:=n0_;have HO183:=n1_;have HO186:=n2_;have HO189:=n3_;have HO193:=n4_;have HO196:=n5_;have BK174:=n6_;have BK175:=n7_;have HB:=n8_;have BK197:=n9_;have GW197:=n10_;have GE197:=n11_;have NB174_197:=n12_;have NB197_174:=n13_;have NB175_197:=n14_;have NB197_175:=n15_;clear n0_ n1_ n2_ n3_ n4_ n5_ n6_ n7_ n8_ n9_ n10_ n11_ n12_ n13_ n14_ n15_;clear hb hbox hg;obtain ⟨Ao44,co44,eo44⟩:=Kd.R_slice HO193.out;subst eo44;have hnb45:=NB197_174.out;have hnc45:=NB174_197.out;have hnb46:=NB197_175.out;have hnc46:=NB175_197.out;have hcz47_0 : w43.cell? ⟨gb197,0,none⟩ = some (.slice none 0 0):=(zP BK197.out 0).trans rfl;have hcz47_1 : w43.cell? ⟨gb197,1,none⟩ = some (.slice none 0 0):=(zP BK197.out 1).trans rfl;have hfz47_0:=blk_frozen BK197.out 0;have hfz47_1:=blk_frozen BK197.out 1;obtain ⟨Ao48,co48,eo48⟩:=Kd.S_slice HO196.out;subst eo48;have hcz49_0 : w43.cell? ⟨gb175,0,none⟩ = some (.slice A1_0 l1_0.length c1_0):=(zP BK175.out 0).trans rfl;have hcz49_1 : w43.cell? ⟨gb175,1,none⟩ = some (.slice A1_1 l1_1.length c1_1):=(zP BK175.out 1).trans rfl;have hfz49_0:=blk_frozen BK175.out 0;have hfz49_1:=blk_frozen BK175.out 1)|((with_reducible refine gate_callee (f:=32) rfl ?_);refine goesL_ (some 28) rfl rfl Try.func32 (by kernel_rfl) rfl #[.agg #[.slice A1_0 l1_0.length c1_0,.slice A1_1 l1_1.length c1_1]] rfl (by (try simp only [zCb,zMb,zNb]);first|done|rfl|(simp only [zLb,zDb];rfl)) ?_;(with_reducible refine (laws_toQuery.calls k _ _ l1_0 _ _ l1_1 t198 t201 _ ?side1 ?side2 ?side3 ?side4 A23.out).mono ?_);(case side1 => exact zKb HR1_0.out (by repeat (first|(with_reducible first|exact HB.out|apply zK|apply zC|apply zJ|refine zB ?_ GE174.out|refine zB ?_ GE175.out|refine zB ?_ GE197.out)|exact HB.out)));(case side2 => exact HC1_0.out);(case side3 => exact zKb HR1_1.out (by repeat (first|(with_reducible first|exact HB.out|apply zK|apply zC|apply zJ|refine zB ?_ GE174.out|refine zB ?_ GE175.out|refine zB ?_ GE197.out)|exact HB.out)));(case side4 => exact HC1_1.out);rintro e w50 ⟨v199,v202,rfl,ho0,ho1,hb⟩;refine ⟨_,rfl,?_⟩;have n0_:=zA (zTb (by (with_reducible repeat (first|apply zE|apply zD|apply zH));exact (zGb (zR (p:=⟨gb197,1,none⟩) (zR (p:=⟨gb197,0,none⟩) (Kd.R_types HO180.out BK197.out (by decide)) (fun _ hk => hk.2) (.slice Ao44 t191.length co44)) (fun _ hk => hk.2) (.slice Ao48 t194.length co48)) (fun _ h_ => h_.1))) (zW ho0) hb);have n1_:=zA (zS (zU (zU (Kd.S_old (by (with_reducible repeat (first|apply zM|apply zL|apply zN));exact (zS (zVb (p:=⟨gb197,1,none⟩) (zVb (p:=⟨gb197,0,none⟩) (Kd.S_types HO183.out BK197.out (by decide)) (fun _ hk => hk.2) (.slice Ao44 t191.length co44)) (fun _ hk => hk.2) (.slice Ao48 t194.length co48)) (fun _ h_ => h_.1))) hb) (zW ho0)) (Kd.S_base ho1)) (fun _ h_ => h_.1));have n2_:=zA (zTb (by (with_reducible repeat (first|apply zE|apply zD|apply zH));exact (zGb (zR (p:=⟨gb197,1,none⟩) (zR (p:=⟨gb197,0,none⟩) (Kd.R_types HO186.out BK197.out (by decide)) (fun _ hk => hk.2) (.slice Ao44 t191.length co44)) (fun _ hk => hk.2) (.slice Ao48 t194.length co48)) (fun _ h_ => h_.1))) (zW ho0) hb);have n3_:=zA (zS (zU (zU (Kd.S_old (by (with_reducible repeat (first|apply zM|apply zL|apply zN));exact (zS (zVb (p:=⟨gb197,1,none⟩) (zVb (p:=⟨gb197,0,none⟩) (Kd.S_types HO189.out BK197.out (by decide)) (fun _ hk => hk.2) (.slice Ao44 t191.length co44)) (fun _ hk => hk.2) (.slice Ao48 t194.length co48)) (fun _ h_ => h_.1))) hb) (zW ho0)) (Kd.S_base ho1)) (fun _ h_ => h_.1));have n4_:=zA (zTb (by (with_reducible repeat (first|apply zE|apply zD|apply zH));exact (zGb (zR (p:=⟨gb197,1,none⟩) (zR (p:=⟨gb197,0,none⟩) (Kd.R_types HO193.out BK197.out (by decide)) (fun _ hk => hk.2) (.slice Ao44 t191.length co44)) (fun _ hk => hk.2) (.slice Ao48 t194.length co48)) (fun _ h_ => h_.1))) (zW ho0) hb);have n5_:=zA (zS (zU (zU (Kd.S_old (by (with_reducible repeat (first|apply zM|apply zL|apply zN));exact (zS (zVb (p:=⟨gb197,1,none⟩) (zVb (p:=⟨gb197,0,none⟩) (Kd.S_types HO196.out BK197.out (by decide)) (fun _ hk => hk.2) (.slice Ao44 t191.length co44)) (fun _ hk => hk.2) (.slice Ao48 t194.length co48)) (fun _ h_ => h_.1))) hb) (zW ho0)) (Kd.S_base ho1)) (fun _ h_ => h_.1));have n6_:=zA (zHb (zQb (zQb (zQb ho0 (zOb (by (with_reducible repeat (first|apply zE|apply zD|apply zH));exact (zGb (zR (p:=⟨gb197,1,none⟩) (zR (p:=⟨gb197,0,none⟩) (Kd.R_types HO180.out BK197.out (by decide)) (fun _ hk => hk.2) (.slice Ao44 t191.length co44)) (fun _ hk => hk.2) (.slice Ao48 t194.length co48)) (fun _ h_ => h_.1))))) (zOb (by (with_reducible repeat (first|apply zE|apply zD|apply zH));exact (zGb (zR (p:=⟨gb197,1,none⟩) (zR (p:=⟨gb197,0,none⟩) (Kd.R_types HO186.out BK197.out (by decide)) (fun _ hk => hk.2) (.slice Ao44 t191.length co44)) (fun _ hk => hk.2) (.slice Ao48 t194.length co48)) (fun _ h_ => h_.1))))) (zOb (by (with_reducible repeat (first|apply zE|apply zD|apply zH));exact (zGb (zR (p:=⟨gb197,1,none⟩) (zR (p:=⟨gb197,0,none⟩) (Kd.R_types HO193.out BK197.out (by decide)) (fun _ hk => hk.2) (.slice Ao44 t191.length co44)) (fun _ hk => hk.2) (.slice Ao48 t194.length co48)) (fun _ h_ => h_.1))))) (zT (by repeat (first|(with_reducible first|exact HB.out|apply zK|apply zC|apply zJ|refine zB ?_ GE174.out|refine zB ?_ GE175.out|refine zB ?_ GE197.out)|exact HB.out))));have n7_:=zA (zIb (zV (zV (zV (zV (zV (zV ho1 (zOb (by (with_reducible repeat (first|apply zE|apply zD|apply zH));exact (zGb (zR (p:=⟨gb197,1,none⟩) (zR (p:=⟨gb197,0,none⟩) (Kd.R_types HO180.out BK197.out (by decide)) (fun _ hk => hk.2) (.slice Ao44 t191.length co44)) (fun _ hk => hk.2) (.slice Ao48 t194.length co48)) (fun _ h_ => h_.1))))) (Kd.S_lt (by (with_reducible repeat (first|apply zM|apply zL|apply zN));exact (zS (zVb (p:=⟨gb197,1,none⟩) (zVb (p:=⟨gb197,0,none⟩) (Kd.S_types HO183.out BK197.out (by decide)) (fun _ hk => hk.2) (.slice Ao44 t191.length co44)) (fun _ hk => hk.2) (.slice Ao48 t194.length co48)) (fun _ h_ => h_.1))))) (zOb (by (with_reducible repeat (first|apply zE|apply zD|apply zH));exact (zGb (zR (p:=⟨gb197,1,none⟩) (zR (p:=⟨gb197,0,none⟩) (Kd.R_types HO186.out BK197.out (by decide)) (fun _ hk => hk.2) (.slice Ao44 t191.length co44)) (fun _ hk => hk.2) (.slice Ao48 t194.length co48)) (fun _ h_ => h_.1))))) (Kd.S_lt (by (with_reducible repeat (first|apply zM|apply zL|apply zN));exact (zS (zVb (p:=⟨gb197,1,none⟩) (zVb (p:=⟨gb197,0,none⟩) (Kd.S_types HO189.out BK197.out (by decide)) (fun _ hk => hk.2) (.slice Ao44 t191.length co44)) (fun _ hk => hk.2) (.slice Ao48 t194.length co48)) (fun _ h_ => h_.1))))) (zOb (by (with_reducible repeat (first|apply zE|apply zD|apply zH));exact (zGb (zR (p:=⟨gb197,1,none⟩) (zR (p:=⟨gb197,0,none⟩) (Kd.R_types HO193.out BK197.out (by decide)) (fun _ hk => hk.2) (.slice Ao44 t191.length co44)) (fun _ hk => hk.2) (.slice Ao48 t194.length co48)) (fun _ h_ => h_.1))))) (Kd.S_lt (by (with_reducible repeat (first|apply zM|apply zL|apply zN));exact (zS (zVb (p:=⟨gb197,1,none⟩) (zVb (p:=⟨gb197,0,none⟩) (Kd.S_types HO196.out BK197.out (by decide)) (fun _ hk => hk.2) (.slice Ao44 t191.length co44)) (fun _ hk => hk.2) (.slice Ao48 t194.length co48)) (fun _ h_ => h_.1))))) (zT (by repeat (first|(with_reducible first|exact HB.out|apply zK|apply zC|apply zJ|refine zB ?_ GE174.out|refine zB ?_ GE175.out|refine zB ?_ GE197.out)|exact HB.out))));have n8_:=zA (zQ (g:=gb174) (o:=.cells #[.slice A0_0 l0_0.length c0_0,.slice A0_1 l0_1.length c0_1] 41 (0,0)) (by (with_reducible repeat (first|refine zF ?_ _|refine zI ?_|refine zG ?_ _));refine zUb ?_ NB174_197.out _;(with_reducible repeat (first|refine zF ?_ _|refine zI ?_|refine zG ?_ _));refine zUb ?_ NB174_197.out _;(with_reducible repeat (first|refine zF ?_ _|refine zI ?_|refine zG ?_ _));exact BK174.out) hb);have n9_:=zA (zQ (g:=gb175) (o:=.cells #[.slice A1_0 l1_0.length c1_0,.slice A1_1 l1_1.length c1_1] 41 (0,0)) (by (with_reducible repeat (first|refine zF ?_ _|refine zI ?_|refine zG ?_ _));refine zUb ?_ NB175_197.out _;(with_reducible repeat (first|refine zF ?_ _|refine zI ?_|refine zG ?_ _));refine zUb ?_ NB175_197.out _;(with_reducible repeat (first|refine zF ?_ _|refine zI ?_|refine zG ?_ _));exact BK175.out) hb);have n10_:=zA (zQ (g:=gb197) (o:=.cells #[.slice Ao44 t191.length co44,.slice Ao48 t194.length co48] 46 (0,0)) (by (with_reducible repeat (first|refine zF ?_ _|refine zI ?_|refine zG ?_ _));refine blk_put (cs:=#[.slice Ao44 t191.length co44,.slice none 0 0]) ?_ 1 _ rfl;(with_reducible repeat (first|refine zF ?_ _|refine zI ?_|refine zG ?_ _));refine blk_put (cs:=#[.slice none 0 0,.slice none 0 0]) ?_ 0 _ rfl;(with_reducible repeat (first|refine zF ?_ _|refine zI ?_|refine zG ?_ _));exact BK197.out) hb);have n11_:=zA (zJb (by repeat (first|(with_reducible first|exact HB.out|apply zK|apply zC|apply zJ|refine zB ?_ GE174.out|refine zB ?_ GE175.out|refine zB ?_ GE197.out)|exact HB.out)) hb);clear HO180;clear HO183;clear HO186;clear HO189;clear HO193;clear HO196;clear BK174;clear BK175;clear BK197;clear HB;have HO180:=n0_;have HO183:=n1_;have HO186:=n2_;have HO189:=n3_;have HO193:=n4_;have HO196:=n5_;have HO200:=n6_;have HO203:=n7_;have BK174:=n8_;have BK175:=n9_;have BK197:=n10_;have HB:=n11_;clear n0_ n1_ n2_ n3_ n4_ n5_ n6_ n7_ n8_ n9_ n10_ n11_;(try clear hb);(try clear hb2);(try clear hk);(try clear hi);(try clear ho0);(try clear ho1))|((with_reducible refine gate_dst (N:=8) rfl ?_);refine box_event ?hg (N:=8) ?hd (cs:=#[.slice none 0 0,.slice none 0 0]) (t:=46) ?hr ?_;(case hd => rfl);(case hg => rfl);(case hr => first|(go_simp;done)|(go_simp;rfl));intro gb204 hg w51 hbox hb;have n0_:=zA (zZ (by (with_reducible repeat (first|apply zE|apply zD|apply zH));exact HO180.out) hb);have n1_:=zA (zY (by (with_reducible repeat (first|apply zM|apply zL|apply zN));exact HO183.out) hb);have n2_:=zA (zZ (by (with_reducible repeat (first|apply zE|apply zD|apply zH));exact HO186.out) hb);have n3_:=zA (zY (by (with_reducible repeat (first|apply zM|apply zL|apply zN));exact HO189.out) hb);have n4_:=zA (zZ (by (with_reducible repeat (first|apply zE|apply zD|apply zH));exact HO193.out) hb);have n5_:=zA (zY (by (with_reducible repeat (first|apply zM|apply zL|apply zN));exact HO196.out) hb);have n6_:=zA (zZ (by (with_reducible repeat (first|apply zE|apply zD|apply zH));exact HO200.out) hb);have n7_:=zA (zY (by (with_reducible repeat (first|apply zM|apply zL|apply zN));exact HO203.out) hb);have n8_:=zA (zQ (g:=gb174) (o:=.cells #[.slice A0_0 l0_0.length c0_0,.slice A0_1 l0_1.length c0_1] 41 (0,0)) (by (with_reducible repeat (first|refine zF ?_ _|refine zI ?_|refine zG ?_ _));exact BK174.out) hb);have n9_:=zA (zQ (g:=gb175) (o:=.cells #[.slice A1_0 l1_0.length c1_0,.slice A1_1 l1_1.length c1_1] 41 (0,0)) (by (with_reducible repeat (first|refine zF ?_ _|refine zI ?_|refine zG ?_ _));exact BK175.out) hb);have n10_:=zA (zQ (g:=gb197) (o:=.cells #[.slice Ao44 t191.length co44,.slice Ao48 t194.length co48] 46 (0,0)) (by (with_reducible repeat (first|refine zF ?_ _|refine zI ?_|refine zG ?_ _));exact BK197.out) hb);have n11_:=zA (zJb (by repeat (first|(with_reducible first|exact HB.out|apply zK|apply zC|apply zJ|refine zB ?_ GE174.out|refine zB ?_ GE175.out|refine zB ?_ GE197.out)|exact HB.out)) hb);have n12_:=zA (hbox);have n13_:=zA ((by rw [hg];exact (zT (by repeat (first|(with_reducible first|exact HB.out|apply zK|apply zC|apply zJ|refine zB ?_ GE174.out|refine zB ?_ GE175.out|refine zB ?_ GE197.out)|exact HB.out))) : w.heap.size ≤ gb204));have n14_:=zA ((by rw [hg];exact (zT (by repeat (first|(with_reducible first|exact HB.out|apply zK|apply zC|apply zJ|refine zB ?_ GE174.out|refine zB ?_ GE175.out|refine zB ?_ GE197.out)|exact HB.out))) : w.heap.size ≤ gb204));have n15_:=zA ((by rw [hg];exact Nat.ne_of_lt (blk_lt (g:=gb174) (o:=.cells #[.slice A0_0 l0_0.length c0_0,.slice A0_1 l0_1.length c0_1] 41 (0,0)) (by (with_reducible repeat (first|refine zF ?_ _|refine zI ?_|refine zG ?_ _));exact BK174.out)) : gb174 ≠ gb204));have n16_:=zA ((by rw [hg];exact Nat.ne_of_gt (blk_lt (g:=gb174) (o:=.cells #[.slice A0_0 l0_0.length c0_0,.slice A0_1 l0_1.length c0_1] 41 (0,0)) (by (with_reducible repeat (first|refine zF ?_ _|refine zI ?_|refine zG ?_ _));exact BK174.out)) : gb204 ≠ gb174));have n17_:=zA ((by rw [hg];exact Nat.ne_of_lt (blk_lt (g:=gb175) (o:=.cells #[.slice A1_0 l1_0.length c1_0,.slice A1_1 l1_1.length c1_1] 41 (0,0)) (by (with_reducible repeat (first|refine zF ?_ _|refine zI ?_|refine zG ?_ _));exact BK175.out)) : gb175 ≠ gb204));have n18_:=zA ((by rw [hg];exact Nat.ne_of_gt (blk_lt (g:=gb175) (o:=.cells #[.slice A1_0 l1_0.length c1_0,.slice A1_1 l1_1.length c1_1] 41 (0,0)) (by (with_reducible repeat (first|refine zF ?_ _|refine zI ?_|refine zG ?_ _));exact BK175.out)) : gb204 ≠ gb175));have n19_:=zA ((by rw [hg];exact Nat.ne_of_lt (blk_lt (g:=gb197) (o:=.cells #[.slice Ao44 t191.length co44,.slice Ao48 t194.length co48] 46 (0,0)) (by (with_reducible repeat (first|refine zF ?_ _|refine zI ?_|refine zG ?_ _));exact BK197.out)) : gb197 ≠ gb204));have n20_:=zA ((by rw [hg];exact Nat.ne_of_gt (blk_lt (g:=gb197) (o:=.cells #[.slice Ao44 t191.length co44,.slice Ao48 t194.length co48] 46 (0,0)) (by (with_reducible repeat (first|refine zF ?_ _|refine zI ?_|refine zG ?_ _));exact BK197.out)) : gb204 ≠ gb197));clear HO180;clear HO183;clear HO186;clear HO189;clear HO193;clear HO196;clear HO200;clear HO203;clear BK174;clear BK175;clear BK197;clear HB;have HO180:=n0_;have HO183:=n1_;have HO186:=n2_;have HO189:=n3_;have HO193:=n4_;have HO196:=n5_;have HO200:=n6_;have HO203:=n7_;have BK174:=n8_;have BK175:=n9_;have BK197:=n10_;have HB:=n11_;have BK204:=n12_;have GW204:=n13_;have GE204:=n14_;have NB174_204:=n15_;have NB204_174:=n16_;have NB175_204:=n17_;have NB204_175:=n18_;have NB197_204:=n19_;have NB204_197:=n20_;clear n0_ n1_ n2_ n3_ n4_ n5_ n6_ n7_ n8_ n9_ n10_ n11_ n12_ n13_ n14_ n15_ n16_ n17_ n18_ n19_ n20_;clear hb hbox hg;obtain ⟨Ao52,co52,eo52⟩:=Kd.R_slice HO200.out;subst eo52;have hnb53:=NB204_174.out;have hnc53:=NB174_204.out;have hnb54:=NB204_175.out;have hnc54:=NB175_204.out;have hnb55:=NB204_197.out;have hnc55:=NB197_204.out;have hcz56_0 : w51.cell? ⟨gb204,0,none⟩ = some (.slice none 0 0):=(zP BK204.out 0).trans rfl;have hcz56_1 : w51.cell? ⟨gb204,1,none⟩ = some (.slice none 0 0):=(zP BK204.out 1).trans rfl;have hfz56_0:=blk_frozen BK204.out 0;have hfz56_1:=blk_frozen BK204.out 1;obtain ⟨Ao57,co57,eo57⟩:=Kd.S_slice HO203.out;subst eo57;have hcz58_0 : w51.cell? ⟨gb197,0,none⟩ = some (.slice Ao44 t191.length co44):=(zP BK197.out 0).trans rfl;have hcz58_1 : w51.cell? ⟨gb197,1,none⟩ = some (.slice Ao48 t194.length co48):=(zP BK197.out 1).trans rfl;have hfz58_0:=blk_frozen BK197.out 0;have hfz58_1:=blk_frozen BK197.out 1)|((with_reducible refine gate_callee (f:=33) rfl ?_);refine goesL_ (some 31) rfl rfl Try.func33 (by kernel_rfl) rfl #[.agg #[.slice Ao44 t191.length co44,.slice Ao48 t194.length co48],.agg #[.slice Ao52 t198.length co52,.slice Ao57 t201.length co57]] rfl (by (try simp only [zCb,zMb,zNb]);first|done|rfl|(simp only [zLb,zDb];rfl)) ?_;(with_reducible refine (impl_EqualQueries.calls k _ _ t191 _ _ t194 _ _ t198 _ _ t201 t205 _ ?side1 ?side2 ?side3 ?side4 ?side5 ?side6 ?side7 ?side8 A24.out).mono ?_);(case side1 => refine (Kd.R_reads' (e:=3) (base:=w.heap.size) (ok:=fun k_ => (((True ∧ some k_ ≠ (.slice Ao36 t178.length co36 : Value).ownBlock) ∧ some k_ ≠ (.slice Ao38 t184.length co38 : Value).ownBlock) ∧ some k_ ≠ (.slice Ao52 t198.length co52 : Value).ownBlock)) (n:=t191.length) (c:=co44) ?_).2.2;exact (by (with_reducible repeat (first|apply zE|apply zD|apply zH));exact (zGb (zR (p:=⟨gb204,1,none⟩) (zR (p:=⟨gb204,0,none⟩) (Kd.R_types HO193.out BK204.out (by decide)) (fun _ hk => hk.2) (.slice Ao52 t198.length co52)) (fun _ hk => hk.2) (.slice Ao57 t201.length co57)) (fun _ h_ => h_.1))));(case side2 => exact (Kd.R_reads' HO193.out).2.1);(case side3 => refine (Kd.S_reads' (e:=97) (base:=w.heap.size) (ok:=fun k_ => ((((((some k_ ≠ (.slice Ao44 t191.length co44 : Value).ownBlock ∧ some k_ ≠ (.slice Ao36 t178.length co36 : Value).ownBlock) ∧ some k_ ≠ (.slice Ao37 t181.length co37 : Value).ownBlock) ∧ some k_ ≠ (.slice Ao38 t184.length co38 : Value).ownBlock) ∧ some k_ ≠ (.slice Ao39 t187.length co39 : Value).ownBlock) ∧ some k_ ≠ (.slice Ao52 t198.length co52 : Value).ownBlock) ∧ some k_ ≠ (.slice Ao57 t201.length co57 : Value).ownBlock)) (n:=t194.length) (c:=co48) ?_).2.2;exact (by (with_reducible repeat (first|apply zM|apply zL|apply zN));exact (zS (zVb (p:=⟨gb204,1,none⟩) (zVb (p:=⟨gb204,0,none⟩) (Kd.S_types HO196.out BK204.out (by decide)) (fun _ hk => hk.2) (.slice Ao52 t198.length co52)) (fun _ hk => hk.2) (.slice Ao57 t201.length co57)) (fun _ h_ => h_.1))));(case side4 => exact (Kd.S_reads' HO196.out).2.1);(case side5 => refine (Kd.R_reads' (e:=3) (base:=w.heap.size) (ok:=fun k_ => (((True ∧ some k_ ≠ (.slice Ao36 t178.length co36 : Value).ownBlock) ∧ some k_ ≠ (.slice Ao38 t184.length co38 : Value).ownBlock) ∧ some k_ ≠ (.slice Ao44 t191.length co44 : Value).ownBlock)) (n:=t198.length) (c:=co52) ?_).2.2;exact (by (with_reducible repeat (first|apply zE|apply zD|apply zH));exact (zGb (zR (p:=⟨gb204,1,none⟩) (zR (p:=⟨gb204,0,none⟩) (Kd.R_types HO200.out BK204.out (by decide)) (fun _ hk => hk.2) (.slice Ao52 t198.length co52)) (fun _ hk => hk.2) (.slice Ao57 t201.length co57)) (fun _ h_ => h_.1))));(case side6 => exact (Kd.R_reads' HO200.out).2.1);(case side7 => refine (Kd.S_reads' (e:=97) (base:=w.heap.size) (ok:=fun k_ => ((((((some k_ ≠ (.slice Ao52 t198.length co52 : Value).ownBlock ∧ some k_ ≠ (.slice Ao36 t178.length co36 : Value).ownBlock) ∧ some k_ ≠ (.slice Ao37 t181.length co37 : Value).ownBlock) ∧ some k_ ≠ (.slice Ao38 t184.length co38 : Value).ownBlock) ∧ some k_ ≠ (.slice Ao39 t187.length co39 : Value).ownBlock) ∧ some k_ ≠ (.slice Ao44 t191.length co44 : Value).ownBlock) ∧ some k_ ≠ (.slice Ao48 t194.length co48 : Value).ownBlock)) (n:=t201.length) (c:=co57) ?_).2.2;exact (by (with_reducible repeat (first|apply zM|apply zL|apply zN));exact (zS (zVb (p:=⟨gb204,1,none⟩) (zVb (p:=⟨gb204,0,none⟩) (Kd.S_types HO203.out BK204.out (by decide)) (fun _ hk => hk.2) (.slice Ao52 t198.length co52)) (fun _ hk => hk.2) (.slice Ao57 t201.length co57)) (fun _ h_ => h_.1))));(case side8 => exact (Kd.S_reads' HO203.out).2.1);rintro e w59 ⟨rfl,hb⟩;refine ⟨_,rfl,?_⟩;have n0_:=zA (zZ (by (with_reducible repeat (first|apply zE|apply zD|apply zH));exact (zGb (zR (p:=⟨gb204,1,none⟩) (zR (p:=⟨gb204,0,none⟩) (Kd.R_types HO180.out BK204.out (by decide)) (fun _ hk => hk.2) (.slice Ao52 t198.length co52)) (fun _ hk => hk.2) (.slice Ao57 t201.length co57)) (fun _ h_ => h_.1))) hb);have n1_:=zA (zY (by (with_reducible repeat (first|apply zM|apply zL|apply zN));exact (zS (zVb (p:=⟨gb204,1,none⟩) (zVb (p:=⟨gb204,0,none⟩) (Kd.S_types HO183.out BK204.out (by decide)) (fun _ hk => hk.2) (.slice Ao52 t198.length co52)) (fun _ hk => hk.2) (.slice Ao57 t201.length co57)) (fun _ h_ => h_.1))) hb);have n2_:=zA (zZ (by (with_reducible repeat (first|apply zE|apply zD|apply zH));exact (zGb (zR (p:=⟨gb204,1,none⟩) (zR (p:=⟨gb204,0,none⟩) (Kd.R_types HO186.out BK204.out (by decide)) (fun _ hk => hk.2) (.slice Ao52 t198.length co52)) (fun _ hk => hk.2) (.slice Ao57 t201.length co57)) (fun _ h_ => h_.1))) hb);have n3_:=zA (zY (by (with_reducible repeat (first|apply zM|apply zL|apply zN));exact (zS (zVb (p:=⟨gb204,1,none⟩) (zVb (p:=⟨gb204,0,none⟩) (Kd.S_types HO189.out BK204.out (by decide)) (fun _ hk => hk.2) (.slice Ao52 t198.length co52)) (fun _ hk => hk.2) (.slice Ao57 t201.length co57)) (fun _ h_ => h_.1))) hb);have n4_:=zA (zZ (by (with_reducible repeat (first|apply zE|apply zD|apply zH));exact (zGb (zR (p:=⟨gb204,1,none⟩) (zR (p:=⟨gb204,0,none⟩) (Kd.R_types HO193.out BK204.out (by decide)) (fun _ hk => hk.2) (.slice Ao52 t198.length co52)) (fun _ hk => hk.2) (.slice Ao57 t201.length co57)) (fun _ h_ => h_.1))) hb);have n5_:=zA (zY (by (with_reducible repeat (first|apply zM|apply zL|apply zN));exact (zS (zVb (p:=⟨gb204,1,none⟩) (zVb (p:=⟨gb204,0,none⟩) (Kd.S_types HO196.out BK204.out (by decide)) (fun _ hk => hk.2) (.slice Ao52 t198.length co52)) (fun _ hk => hk.2) (.slice Ao57 t201.length co57)) (fun _ h_ => h_.1))) hb);have n6_:=zA (zZ (by (with_reducible repeat (first|apply zE|apply zD|apply zH));exact (zGb (zR (p:=⟨gb204,1,none⟩) (zR (p:=⟨gb204,0,none⟩) (Kd.R_types HO200.out BK204.out (by decide)) (fun _ hk => hk.2) (.slice Ao52 t198.length co52)) (fun _ hk => hk.2) (.slice Ao57 t201.length co57)) (fun _ h_ => h_.1))) hb);have n7_:=zA (zY (by (with_reducible repeat (first|apply zM|apply zL|apply zN));exact (zS (zVb (p:=⟨gb204,1,none⟩) (zVb (p:=⟨gb204,0,none⟩) (Kd.S_types HO203.out BK204.out (by decide)) (fun _ hk => hk.2) (.slice Ao52 t198.length co52)) (fun _ hk => hk.2) (.slice Ao57 t201.length co57)) (fun _ h_ => h_.1))) hb);have n8_:=zA (zQ (g:=gb174) (o:=.cells #[.slice A0_0 l0_0.length c0_0,.slice A0_1 l0_1.length c0_1] 41 (0,0)) (by (with_reducible repeat (first|refine zF ?_ _|refine zI ?_|refine zG ?_ _));refine zUb ?_ NB174_204.out _;(with_reducible repeat (first|refine zF ?_ _|refine zI ?_|refine zG ?_ _));refine zUb ?_ NB174_204.out _;(with_reducible repeat (first|refine zF ?_ _|refine zI ?_|refine zG ?_ _));exact BK174.out) hb);have n9_:=zA (zQ (g:=gb175) (o:=.cells #[.slice A1_0 l1_0.length c1_0,.slice A1_1 l1_1.length c1_1] 41 (0,0)) (by (with_reducible repeat (first|refine zF ?_ _|refine zI ?_|refine zG ?_ _));refine zUb ?_ NB175_204.out _;(with_reducible repeat (first|refine zF ?_ _|refine zI ?_|refine zG ?_ _));refine zUb ?_ NB175_204.out _;(with_reducible repeat (first|refine zF ?_ _|refine zI ?_|refine zG ?_ _));exact BK175.out) hb);have n10_:=zA (zQ (g:=gb197) (o:=.cells #[.slice Ao44 t191.length co44,.slice Ao48 t194.length co48] 46 (0,0)) (by (with_reducible repeat (first|refine zF ?_ _|refine zI ?_|refine zG ?_ _));refine zUb ?_ NB197_204.out _;(with_reducible repeat (first|refine zF ?_ _|refine zI ?_|refine zG ?_ _));refine zUb ?_ NB197_204.out _;(with_reducible repeat (first|refine zF ?_ _|refine zI ?_|refine zG ?_ _));exact BK197.out) hb);have n11_:=zA (zQ (g:=gb204) (o:=.cells #[.slice Ao52 t198.length co52,.slice Ao57 t201.length co57] 46 (0,0)) (by (with_reducible repeat (first|refine zF ?_ _|refine zI ?_|refine zG ?_ _));refine blk_put (cs:=#[.slice Ao52 t198.length co52,.slice none 0 0]) ?_ 1 _ rfl;(with_reducible repeat (first|refine zF ?_ _|refine zI ?_|refine zG ?_ _));refine blk_put (cs:=#[.slice none 0 0,.slice none 0 0]) ?_ 0 _ rfl;(with_reducible repeat (first|refine zF ?_ _|refine zI ?_|refine zG ?_ _));exact BK204.out) hb);have n12_:=zA (zJb (by repeat (first|(with_reducible first|exact HB.out|apply zK|apply zC|apply zJ|refine zB ?_ GE174.out|refine zB ?_ GE175.out|refine zB ?_ GE197.out|refine zB ?_ GE204.out)|exact HB.out)) hb);clear HO180;clear HO183;clear HO186;clear HO189;clear HO193;clear HO196;clear HO200;clear HO203;clear BK174;clear BK175;clear BK197;clear BK204;clear HB;have HO180:=n0_;have HO183:=n1_;have HO186:=n2_;have HO189:=n3_;have HO193:=n4_;have HO196:=n5_;have HO200:=n6_;have HO203:=n7_;have BK174:=n8_;have BK175:=n9_;have BK197:=n10_;have BK204:=n11_;have HB:=n12_;clear n0_ n1_ n2_ n3_ n4_ n5_ n6_ n7_ n8_ n9_ n10_ n11_ n12_;(try clear hb);(try clear hb2);(try clear hk);(try clear hi)))
    go_ret
    exact ⟨by first|rfl|(simp [errW_none,errW_some] <;> rfl)|(simp [*,errW_none,errW_some] <;> rfl),by repeat (first|(with_reducible first|exact HB.out|apply zK|apply zC|apply zJ|refine zB ?_ GE174.out|refine zB ?_ GE175.out|refine zB ?_ GE197.out|refine zB ?_ GE204.out)|exact HB.out)⟩
   ·
    rw [if_neg c25] at H
    have c25b0 : (t205 != t190) = false:=by simpa using c25
    (try (have c25b1 : decide (t205 = t190) = true:=by simpa using c25))
    (try (have c25b2 : (t205 == t190) = true:=by simpa using c25))
    clear c25
    replace H:=Option.bind_eq_some_iff.mp H
    obtain ⟨⟨t206,t209⟩,A600,H⟩:=H
    replace H : ((laws_eqQuery.f k t191 t194 t206 t209).bind fun t212 => (if t212 = true then ((laws_toQuery.f k l1_0 l1_1).bind fun bt213 => ((laws_eqQuery.f k t198 t201 bt213.1 bt213.2).bind fun t219 => (if t219 = true then (some true) else (some false)))) else (some false))) = some r:=H
    have A60:=zA A600
    clear A600
    replace H:=Option.bind_eq_some_iff.mp H
    obtain ⟨t212,A610,H⟩:=H
    replace H : (if t212 = true then ((laws_toQuery.f k l1_0 l1_1).bind fun bt213 => ((laws_eqQuery.f k t198 t201 bt213.1 bt213.2).bind fun t219 => (if t219 = true then (some true) else (some false)))) else (some false)) = some r:=H
    have A61:=zA A610
    clear A610
    by_cases c62 : t212 = true
    ·
     subst c62
     have H1 : ((laws_toQuery.f k l1_0 l1_1).bind fun bt213 => ((laws_eqQuery.f k t198 t201 bt213.1 bt213.2).bind fun t219 => (if t219 = true then (some true) else (some false)))) = some r:=by rw [if_pos rfl] at H;exact H
     clear H
     have H:=H1
     clear H1
     replace H:=Option.bind_eq_some_iff.mp H
     obtain ⟨⟨t213,t216⟩,A630,H⟩:=H
     replace H : ((laws_eqQuery.f k t198 t201 t213 t216).bind fun t219 => (if t219 = true then (some true) else (some false))) = some r:=H
     have A63:=zA A630
     clear A630
     replace H:=Option.bind_eq_some_iff.mp H
     obtain ⟨t219,A640,H⟩:=H
     replace H : (if t219 = true then (some true) else (some false)) = some r:=H
     have A64:=zA A640
     clear A640
     by_cases c65 : t219 = true
     ·
      subst c65
      have H1 : (some true) = some r:=by rw [if_pos rfl] at H;exact H
      clear H
      have H:=H1
      clear H1
      obtain rfl:=Option.some.inj H
      go_enter Try.func6,Try.ntmps6
      try go_wp2_with (first|((with_reducible refine gate_dst (N:=2) rfl ?_);refine box_event ?hg (N:=2) ?hd (cs:=#[.slice A0_0 l0_0.length c0_0,.slice A0_1 l0_1.length c0_1]) (t:=41) ?hr ?_;(case hd => rfl);(case hg => rfl);(case hr => first|(go_simp;done)|(go_simp;rfl));intro gb174 hg w66 hbox hb;have n0_:=zA (zJb (by repeat (first|(with_reducible first|exact HB.out|apply zK|apply zC|apply zJ)|exact HB.out)) hb);have n1_:=zA (hbox);have n2_:=zA ((by rw [hg];exact (zT (by repeat (first|(with_reducible first|exact HB.out|apply zK|apply zC|apply zJ)|exact HB.out))) : w.heap.size ≤ gb174));have n3_:=zA ((by rw [hg];exact (zT (by repeat (first|(with_reducible first|exact HB.out|apply zK|apply zC|apply zJ)|exact HB.out))) : w.heap.size ≤ gb174));clear HB;have HB:=n0_;have BK174:=n1_;have GW174:=n2_;have GE174:=n3_;clear n0_ n1_ n2_ n3_;clear hb hbox hg)|((with_reducible refine gate_dst (N:=3) rfl ?_);refine box_event ?hg (N:=3) ?hd (cs:=#[.slice A1_0 l1_0.length c1_0,.slice A1_1 l1_1.length c1_1]) (t:=41) ?hr ?_;(case hd => rfl);(case hg => rfl);(case hr => first|(go_simp;done)|(go_simp;rfl));intro gb175 hg w67 hbox hb;have n0_:=zA (zQ (g:=gb174) (o:=.cells #[.slice A0_0 l0_0.length c0_0,.slice A0_1 l0_1.length c0_1] 41 (0,0)) (by (with_reducible repeat (first|refine zF ?_ _|refine zI ?_|refine zG ?_ _));exact BK174.out) hb);have n1_:=zA (zJb (by repeat (first|(with_reducible first|exact HB.out|apply zK|apply zC|apply zJ|refine zB ?_ GE174.out)|exact HB.out)) hb);have n2_:=zA (hbox);have n3_:=zA ((by rw [hg];exact (zT (by repeat (first|(with_reducible first|exact HB.out|apply zK|apply zC|apply zJ|refine zB ?_ GE174.out)|exact HB.out))) : w.heap.size ≤ gb175));have n4_:=zA ((by rw [hg];exact (zT (by repeat (first|(with_reducible first|exact HB.out|apply zK|apply zC|apply zJ|refine zB ?_ GE174.out)|exact HB.out))) : w.heap.size ≤ gb175));have n5_:=zA ((by rw [hg];exact Nat.ne_of_lt (blk_lt (g:=gb174) (o:=.cells #[.slice A0_0 l0_0.length c0_0,.slice A0_1 l0_1.length c0_1] 41 (0,0)) (by (with_reducible repeat (first|refine zF ?_ _|refine zI ?_|refine zG ?_ _));exact BK174.out)) : gb174 ≠ gb175));have n6_:=zA ((by rw [hg];exact Nat.ne_of_gt (blk_lt (g:=gb174) (o:=.cells #[.slice A0_0 l0_0.length c0_0,.slice A0_1 l0_1.length c0_1] 41 (0,0)) (by (with_reducible repeat (first|refine zF ?_ _|refine zI ?_|refine zG ?_ _));exact BK174.out)) : gb175 ≠ gb174));clear BK174;clear HB;have BK174:=n0_;have HB:=n1_;have BK175:=n2_;have GW175:=n3_;have GE175:=n4_;have NB174_175:=n5_;have NB175_174:=n6_;clear n0_ n1_ n2_ n3_ n4_ n5_ n6_;clear hb hbox hg;have hnb68:=NB174_175.out;have hnc68:=NB175_174.out;have hcz69_0 : w67.cell? ⟨gb174,0,none⟩ = some (.slice A0_0 l0_0.length c0_0):=(zP BK174.out 0).trans rfl;have hcz69_1 : w67.cell? ⟨gb174,1,none⟩ = some (.slice A0_1 l0_1.length c0_1):=(zP BK174.out 1).trans rfl;have hfz69_0:=blk_frozen BK174.out 0;have hfz69_1:=blk_frozen BK174.out 1)|((with_reducible refine gate_callee (f:=30) rfl ?_);refine goesL_ (some 12) rfl rfl Try.func30 (by kernel_rfl) rfl #[.agg #[.slice A0_0 l0_0.length c0_0,.slice A0_1 l0_1.length c0_1],.int .i64 1048576] rfl (by (try simp only [zCb,zMb,zNb]);first|done|rfl|(simp only [zLb,zDb];rfl)) ?_;(with_reducible refine (laws_szQuery.calls k _ _ l0_0 _ _ l0_1 1048576 t176 _ ?side1 ?side2 ?side3 ?side4 A3.out).mono ?_);(case side1 => repeat (first|exact (zKb HR0_0.out HB.out)|(with_reducible refine zBb ?_ _)|(with_reducible refine zAb ?_ _)|(with_reducible refine zX ?_)));(case side2 => exact HC0_0.out);(case side3 => repeat (first|exact (zKb HR0_1.out HB.out)|(with_reducible refine zBb ?_ _)|(with_reducible refine zAb ?_ _)|(with_reducible refine zX ?_)));(case side4 => exact HC0_1.out);rintro e w70 ⟨rfl,hb⟩;refine ⟨_,rfl,?_⟩;have n0_:=zA (zQ (g:=gb174) (o:=.cells #[.slice A0_0 l0_0.length c0_0,.slice A0_1 l0_1.length c0_1] 41 (0,0)) (by (with_reducible repeat (first|refine zF ?_ _|refine zI ?_|refine zG ?_ _));exact BK174.out) hb);have n1_:=zA (zQ (g:=gb175) (o:=.cells #[.slice A1_0 l1_0.length c1_0,.slice A1_1 l1_1.length c1_1] 41 (0,0)) (by (with_reducible repeat (first|refine zF ?_ _|refine zI ?_|refine zG ?_ _));exact BK175.out) hb);have n2_:=zA (zJb (by repeat (first|(with_reducible first|exact HB.out|apply zK|apply zC|apply zJ|refine zB ?_ GE174.out|refine zB ?_ GE175.out)|exact HB.out)) hb);clear BK174;clear BK175;clear HB;have BK174:=n0_;have BK175:=n1_;have HB:=n2_;clear n0_ n1_ n2_;(try clear hb);(try clear hb2);(try clear hk);(try clear hi);have hcz71_0 : w70.cell? ⟨gb175,0,none⟩ = some (.slice A1_0 l1_0.length c1_0):=(zP BK175.out 0).trans rfl;have hcz71_1 : w70.cell? ⟨gb175,1,none⟩ = some (.slice A1_1 l1_1.length c1_1):=(zP BK175.out 1).trans rfl;have hfz71_0:=blk_frozen BK175.out 0;have hfz71_1:=blk_frozen BK175.out 1)|((with_reducible refine gate_callee (f:=30) rfl ?_);refine goesL_ (some 17) rfl rfl Try.func30 (by kernel_rfl) rfl #[.agg #[.slice A1_0 l1_0.length c1_0,.slice A1_1 l1_1.length c1_1],.int .i64 t176] rfl (by (try simp only [zCb,zMb,zNb]);first|done|rfl|(simp only [zLb,zDb];rfl)) ?_;(with_reducible refine (laws_szQuery.calls k _ _ l1_0 _ _ l1_1 t176 t177 _ ?side1 ?side2 ?side3 ?side4 A10.out).mono ?_);(case side1 => repeat (first|exact (zKb HR1_0.out HB.out)|(with_reducible refine zBb ?_ _)|(with_reducible refine zAb ?_ _)|(with_reducible refine zX ?_)));(case side2 => exact HC1_0.out);(case side3 => repeat (first|exact (zKb HR1_1.out HB.out)|(with_reducible refine zBb ?_ _)|(with_reducible refine zAb ?_ _)|(with_reducible refine zX ?_)));(case side4 => exact HC1_1.out);rintro e w72 ⟨rfl,hb⟩;refine ⟨_,rfl,?_⟩;have n0_:=zA (zQ (g:=gb174) (o:=.cells #[.slice A0_0 l0_0.length c0_0,.slice A0_1 l0_1.length c0_1] 41 (0,0)) (by (with_reducible repeat (first|refine zF ?_ _|refine zI ?_|refine zG ?_ _));exact BK174.out) hb);have n1_:=zA (zQ (g:=gb175) (o:=.cells #[.slice A1_0 l1_0.length c1_0,.slice A1_1 l1_1.length c1_1] 41 (0,0)) (by (with_reducible repeat (first|refine zF ?_ _|refine zI ?_|refine zG ?_ _));exact BK175.out) hb);have n2_:=zA (zJb (by repeat (first|(with_reducible first|exact HB.out|apply zK|apply zC|apply zJ|refine zB ?_ GE174.out|refine zB ?_ GE175.out)|exact HB.out)) hb);clear BK174;clear BK175;clear HB;have BK174:=n0_;have BK175:=n1_;have HB:=n2_;clear n0_ n1_ n2_;(try clear hb);(try clear hb2);(try clear hk);(try clear hi)))
      have n0_:=zA (zI BK174.out)
      have n1_:=zA (zI BK175.out)
      have n2_:=zA (zJ HB.out)
      clear BK174
      clear BK175
      clear HB
      have BK174:=n0_
      have BK175:=n1_
      have HB:=n2_
      clear n0_ n1_ n2_
      refine start_ (n:=6) (S:=fun w' => w'.cell? ⟨gb174,0,none⟩ = some (.slice A0_0 l0_0.length c0_0) ∧ w'.cell? ⟨gb174,1,none⟩ = some (.slice A0_1 l0_1.length c0_1) ∧ w'.cell? ⟨gb175,0,none⟩ = some (.slice A1_0 l1_0.length c1_0) ∧ w'.cell? ⟨gb175,1,none⟩ = some (.slice A1_1 l1_1.length c1_1)) (ds:=[]) #[false,false,false,false,false,false] (by kernel_rfl) rfl rfl ⟨(zP BK174.out 0).trans rfl,(zP BK174.out 1).trans rfl,(zP BK175.out 0).trans rfl,(zP BK175.out 1).trans rfl⟩ (fun hHeld => ?_)
      generalize w72.drew = w73 at BK174 BK175 HB hHeld ⊢
      refine take_ (i:=0) (N:=some 20) (v:=?_) (a':=?_) #[true,false,false,false,false,false] rfl rfl (by kernel_rfl) (fun _ _ _ h => h) (Or.inl ⟨by rfl,?_⟩) hHeld ?_ ?_
      rotate_left
      ·
       rintro w' ⟨s0,s1,s2,s3⟩
       go_simp
       with_reducible rfl
      rotate_left
      ·
       simp only [Act.put,zO,zEb,zFb,i64_w,i32_w]
       rfl
      refine take_ (i:=2) (N:=some 22) (v:=?_) (a':=?_) #[true,false,true,false,false,false] rfl rfl (by kernel_rfl) (fun _ _ _ h => h) (Or.inl ⟨by rfl,?_⟩) hHeld ?_ ?_
      rotate_left
      ·
       rintro w' ⟨s0,s1,s2,s3⟩
       go_simp
       with_reducible rfl
      rotate_left
      ·
       simp only [Act.put,zO,zEb,zFb,i64_w,i32_w]
       rfl
      refine one_ (i:=1) (N:=some 21) #[true,true,true,false,false,false] rfl rfl (by kernel_rfl) (by decide) (fun K hK => ?_)
      refine goes_ Try.func32 (by kernel_rfl) rfl #[.agg #[.slice A0_0 l0_0.length c0_0,.slice A0_1 l0_1.length c0_1]] (by rfl) rfl rfl (by (try simp only [zCb,zMb,zNb]);first|done|rfl|(simp only [zLb,zDb];rfl)) ?_
      with_reducible refine (laws_toQuery.calls k _ _ l0_0 _ _ l0_1 t178 t181 _ ?side1 ?side2 ?side3 ?side4 A19.out).mono ?_
      (case side1 => repeat (first|exact (zKb HR0_0.out HB.out)|(with_reducible refine zBb ?_ _)|(with_reducible refine zAb ?_ _)|(with_reducible refine zX ?_)))
      (case side2 => exact HC0_0.out)
      (case side3 => repeat (first|exact (zKb HR0_1.out HB.out)|(with_reducible refine zBb ?_ _)|(with_reducible refine zAb ?_ _)|(with_reducible refine zX ?_)))
      (case side4 => exact HC0_1.out)
      rintro e w74 ⟨v179,v182,rfl,ho0,ho1,hb⟩
      refine ⟨_,rfl,?_⟩
      have n0_:=zA (zHb ho0 (zT (by repeat (first|(with_reducible first|exact HB.out|apply zK|apply zC|apply zJ|refine zB ?_ GE174.out|refine zB ?_ GE175.out)|exact HB.out))))
      have n1_:=zA (zIb ho1 (zT (by repeat (first|(with_reducible first|exact HB.out|apply zK|apply zC|apply zJ|refine zB ?_ GE174.out|refine zB ?_ GE175.out)|exact HB.out))))
      have n2_:=zA (zQ (g:=gb174) (o:=.cells #[.slice A0_0 l0_0.length c0_0,.slice A0_1 l0_1.length c0_1] 41 (0,0)) (by (with_reducible repeat (first|refine zF ?_ _|refine zI ?_|refine zG ?_ _));exact BK174.out) hb)
      have n3_:=zA (zQ (g:=gb175) (o:=.cells #[.slice A1_0 l1_0.length c1_0,.slice A1_1 l1_1.length c1_1] 41 (0,0)) (by (with_reducible repeat (first|refine zF ?_ _|refine zI ?_|refine zG ?_ _));exact BK175.out) hb)
      have n4_:=zA (zJb (by repeat (first|(with_reducible first|exact HB.out|apply zK|apply zC|apply zJ|refine zB ?_ GE174.out|refine zB ?_ GE175.out)|exact HB.out)) hb)
      clear BK174
      clear BK175
      clear HB
      have HO180:=n0_
      have HO183:=n1_
      have BK174:=n2_
      have BK175:=n3_
      have HB:=n4_
      clear n0_ n1_ n2_ n3_ n4_
      (try clear hb)
      (try clear hb2)
      (try clear hk)
      (try clear hi)
      (try clear ho0)
      (try clear ho1)
      refine hK.out _ _ ⟨(zP BK174.out 0).trans rfl,(zP BK174.out 1).trans rfl,(zP BK175.out 0).trans rfl,(zP BK175.out 1).trans rfl⟩ (fun hHeld => ?_)
      clear hK K
      refine norm_ (a':=?_) ?_ ?_
      rotate_left
      ·
       show Act.put _ (some 21) _ = _
       simp only [Act.put,zO,zEb,zFb,i64_w,i32_w]
       rfl
      refine one_ (i:=3) (N:=some 23) #[true,true,true,true,false,false] rfl rfl (by kernel_rfl) (by decide) (fun K hK => ?_)
      refine goes_ Try.func32 (by kernel_rfl) rfl #[.agg #[.slice A1_0 l1_0.length c1_0,.slice A1_1 l1_1.length c1_1]] (by rfl) rfl rfl (by (try simp only [zCb,zMb,zNb]);first|done|rfl|(simp only [zLb,zDb];rfl)) ?_
      with_reducible refine (laws_toQuery.calls k _ _ l1_0 _ _ l1_1 t184 t187 _ ?side1 ?side2 ?side3 ?side4 A20.out).mono ?_
      (case side1 => repeat (first|exact (zKb HR1_0.out HB.out)|(with_reducible refine zBb ?_ _)|(with_reducible refine zAb ?_ _)|(with_reducible refine zX ?_)))
      (case side2 => exact HC1_0.out)
      (case side3 => repeat (first|exact (zKb HR1_1.out HB.out)|(with_reducible refine zBb ?_ _)|(with_reducible refine zAb ?_ _)|(with_reducible refine zX ?_)))
      (case side4 => exact HC1_1.out)
      rintro e w75 ⟨v185,v188,rfl,ho0,ho1,hb⟩
      refine ⟨_,rfl,?_⟩
      have n0_:=zA (zTb (by (with_reducible repeat (first|apply zE|apply zD|apply zH));exact HO180.out) (zW ho0) hb)
      have n1_:=zA (zS (zU (zU (Kd.S_old (by (with_reducible repeat (first|apply zM|apply zL|apply zN));exact HO183.out) hb) (zW ho0)) (Kd.S_base ho1)) (fun _ h_ => h_.1))
      have n2_:=zA (zHb (zQb ho0 (zOb (by (with_reducible repeat (first|apply zE|apply zD|apply zH));exact HO180.out))) (zT (by repeat (first|(with_reducible first|exact HB.out|apply zK|apply zC|apply zJ|refine zB ?_ GE174.out|refine zB ?_ GE175.out)|exact HB.out))))
      have n3_:=zA (zIb (zV (zV ho1 (zOb (by (with_reducible repeat (first|apply zE|apply zD|apply zH));exact HO180.out))) (Kd.S_lt (by (with_reducible repeat (first|apply zM|apply zL|apply zN));exact HO183.out))) (zT (by repeat (first|(with_reducible first|exact HB.out|apply zK|apply zC|apply zJ|refine zB ?_ GE174.out|refine zB ?_ GE175.out)|exact HB.out))))
      have n4_:=zA (zQ (g:=gb174) (o:=.cells #[.slice A0_0 l0_0.length c0_0,.slice A0_1 l0_1.length c0_1] 41 (0,0)) (by (with_reducible repeat (first|refine zF ?_ _|refine zI ?_|refine zG ?_ _));exact BK174.out) hb)
      have n5_:=zA (zQ (g:=gb175) (o:=.cells #[.slice A1_0 l1_0.length c1_0,.slice A1_1 l1_1.length c1_1] 41 (0,0)) (by (with_reducible repeat (first|refine zF ?_ _|refine zI ?_|refine zG ?_ _));exact BK175.out) hb)
      have n6_:=zA (zJb (by repeat (first|(with_reducible first|exact HB.out|apply zK|apply zC|apply zJ|refine zB ?_ GE174.out|refine zB ?_ GE175.out)|exact HB.out)) hb)
      clear HO180
      clear HO183
      clear BK174
      clear BK175
      clear HB
      have HO180:=n0_
      have HO183:=n1_
      have HO186:=n2_
      have HO189:=n3_
      have BK174:=n4_
      have BK175:=n5_
      have HB:=n6_
      clear n0_ n1_ n2_ n3_ n4_ n5_ n6_
      (try clear hb)
      (try clear hb2)
      (try clear hk)
      (try clear hi)
      (try clear ho0)
      (try clear ho1)
      obtain ⟨Ao76,co76,eo76⟩:=Kd.R_slice HO180.out
      (first|subst eo76|(injection eo76 with f1_ f2_ f3_;have f4_:=f1_.symm;have f5_:=f3_.symm;clear f1_ f2_ f3_;subst f4_;subst f5_))
      obtain ⟨Ao77,co77,eo77⟩:=Kd.S_slice HO183.out
      (first|subst eo77|(injection eo77 with f1_ f2_ f3_;have f4_:=f1_.symm;have f5_:=f3_.symm;clear f1_ f2_ f3_;subst f4_;subst f5_))
      obtain ⟨Ao78,co78,eo78⟩:=Kd.R_slice HO186.out
      (first|subst eo78|(injection eo78 with f1_ f2_ f3_;have f4_:=f1_.symm;have f5_:=f3_.symm;clear f1_ f2_ f3_;subst f4_;subst f5_))
      obtain ⟨Ao79,co79,eo79⟩:=Kd.S_slice HO189.out
      (first|subst eo79|(injection eo79 with f1_ f2_ f3_;have f4_:=f1_.symm;have f5_:=f3_.symm;clear f1_ f2_ f3_;subst f4_;subst f5_))
      refine hK.out _ _ ⟨(zP BK174.out 0).trans rfl,(zP BK174.out 1).trans rfl,(zP BK175.out 0).trans rfl,(zP BK175.out 1).trans rfl⟩ (fun hHeld => ?_)
      clear hK K
      refine norm_ (a':=?_) ?_ ?_
      rotate_left
      ·
       show Act.put _ (some 23) _ = _
       simp only [Act.put,zO,zEb,zFb,i64_w,i32_w]
       rfl
      refine one_ (i:=4) (N:=some 24) #[true,true,true,true,true,false] rfl rfl (by kernel_rfl) (by decide) (fun K hK => ?_)
      refine goes_ Try.func31 (by kernel_rfl) rfl #[.agg #[.slice Ao76 t178.length co76,.slice Ao77 t181.length co77],.agg #[.slice Ao78 t184.length co78,.slice Ao79 t187.length co79]] (by rfl) rfl rfl (by (try simp only [zCb,zMb,zNb]);first|done|rfl|(simp only [zLb,zDb];rfl)) ?_
      with_reducible refine (spec_EqualQueries.calls k _ _ t178 _ _ t181 _ _ t184 _ _ t187 t190 _ ?side1 ?side2 ?side3 ?side4 ?side5 ?side6 ?side7 ?side8 A21.out).mono ?_
      (case side1 => repeat (first|exact (Kd.R_reads' HO180.out).2.2|(with_reducible refine zBb ?_ _)|(with_reducible refine zAb ?_ _)|(with_reducible refine zX ?_)))
      (case side2 => exact (Kd.R_reads' HO180.out).2.1)
      (case side3 => repeat (first|exact (Kd.S_reads' HO183.out).2.2|(with_reducible refine zBb ?_ _)|(with_reducible refine zAb ?_ _)|(with_reducible refine zX ?_)))
      (case side4 => exact (Kd.S_reads' HO183.out).2.1)
      (case side5 => repeat (first|exact (Kd.R_reads' HO186.out).2.2|(with_reducible refine zBb ?_ _)|(with_reducible refine zAb ?_ _)|(with_reducible refine zX ?_)))
      (case side6 => exact (Kd.R_reads' HO186.out).2.1)
      (case side7 => repeat (first|exact (Kd.S_reads' HO189.out).2.2|(with_reducible refine zBb ?_ _)|(with_reducible refine zAb ?_ _)|(with_reducible refine zX ?_)))
      (case side8 => exact (Kd.S_reads' HO189.out).2.1)
      rintro e w80 ⟨rfl,hb⟩
      refine ⟨_,rfl,?_⟩
      have n0_:=zA (zZ (by (with_reducible repeat (first|apply zE|apply zD|apply zH));exact HO180.out) hb)
      have n1_:=zA (zY (by (with_reducible repeat (first|apply zM|apply zL|apply zN));exact HO183.out) hb)
      have n2_:=zA (zZ (by (with_reducible repeat (first|apply zE|apply zD|apply zH));exact HO186.out) hb)
      have n3_:=zA (zY (by (with_reducible repeat (first|apply zM|apply zL|apply zN));exact HO189.out) hb)
      have n4_:=zA (zQ (g:=gb174) (o:=.cells #[.slice A0_0 l0_0.length c0_0,.slice A0_1 l0_1.length c0_1] 41 (0,0)) (by (with_reducible repeat (first|refine zF ?_ _|refine zI ?_|refine zG ?_ _));exact BK174.out) hb)
      have n5_:=zA (zQ (g:=gb175) (o:=.cells #[.slice A1_0 l1_0.length c1_0,.slice A1_1 l1_1.length c1_1] 41 (0,0)) (by (with_reducible repeat (first|refine zF ?_ _|refine zI ?_|refine zG ?_ _));exact BK175.out) hb)
      have n6_:=zA (zJb (by repeat (first|(with_reducible first|exact HB.out|apply zK|apply zC|apply zJ|refine zB ?_ GE174.out|refine zB ?_ GE175.out)|exact HB.out)) hb)
      clear HO180
      clear HO183
      clear HO186
      clear HO189
      clear BK174
      clear BK175
      clear HB
      have HO180:=n0_
      have HO183:=n1_
      have HO186:=n2_
      have HO189:=n3_
      have BK174:=n4_
      have BK175:=n5_
      have HB:=n6_
      clear n0_ n1_ n2_ n3_ n4_ n5_ n6_
      (try clear hb)
      (try clear hb2)
      (try clear hk)
      (try clear hi)
      refine hK.out _ _ ⟨(zP BK174.out 0).trans rfl,(zP BK174.out 1).trans rfl,(zP BK175.out 0).trans rfl,(zP BK175.out 1).trans rfl⟩ (fun hHeld => ?_)
      clear hK K
      refine norm_ (a':=?_) ?_ ?_
      rotate_left
      ·
       show Act.put _ (some 24) _ = _
       simp only [Act.put,zO,zEb,zFb,i64_w,i32_w]
       rfl
      refine pure_ (i:=5) (N:=some 6) (v:=?_) (a':=?_) #[true,true,true,true,true,true] rfl rfl (by kernel_rfl) (fun _ _ _ h => h) (Or.inl ⟨by rfl,?_⟩) ?_ ?_
      rotate_left
      ·
       intro w'
       go_simp
       with_reducible rfl
      rotate_left
      ·
       simp only [Act.put,zO,zEb,zFb,i64_w,i32_w]
       rfl
      refine done_ (by kernel_rfl) ?_
      have hcz81_0 : w80.cell? ⟨gb174,0,none⟩ = some (.slice A0_0 l0_0.length c0_0):=(zP BK174.out 0).trans rfl
      have hcz81_1 : w80.cell? ⟨gb174,1,none⟩ = some (.slice A0_1 l0_1.length c0_1):=(zP BK174.out 1).trans rfl
      have hfz81_0:=blk_frozen BK174.out 0
      have hfz81_1:=blk_frozen BK174.out 1
      try go_wp2_with (first|((with_reducible refine gate_callee (f:=32) rfl ?_);refine goesL_ (some 26) rfl rfl Try.func32 (by kernel_rfl) rfl #[.agg #[.slice A0_0 l0_0.length c0_0,.slice A0_1 l0_1.length c0_1]] rfl (by (try simp only [zCb,zMb,zNb]);first|done|rfl|(simp only [zLb,zDb];rfl)) ?_;(with_reducible refine (laws_toQuery.calls k _ _ l0_0 _ _ l0_1 t191 t194 _ ?side1 ?side2 ?side3 ?side4 A22.out).mono ?_);(case side1 => repeat (first|exact (zKb HR0_0.out HB.out)|(with_reducible refine zBb ?_ _)|(with_reducible refine zAb ?_ _)|(with_reducible refine zX ?_)));(case side2 => exact HC0_0.out);(case side3 => repeat (first|exact (zKb HR0_1.out HB.out)|(with_reducible refine zBb ?_ _)|(with_reducible refine zAb ?_ _)|(with_reducible refine zX ?_)));(case side4 => exact HC0_1.out);rintro e w82 ⟨v192,v195,rfl,ho0,ho1,hb⟩;refine ⟨_,rfl,?_⟩;have n0_:=zA (zTb (by (with_reducible repeat (first|apply zE|apply zD|apply zH));exact HO180.out) (zW ho0) hb);have n1_:=zA (zS (zU (zU (Kd.S_old (by (with_reducible repeat (first|apply zM|apply zL|apply zN));exact HO183.out) hb) (zW ho0)) (Kd.S_base ho1)) (fun _ h_ => h_.1));have n2_:=zA (zTb (by (with_reducible repeat (first|apply zE|apply zD|apply zH));exact HO186.out) (zW ho0) hb);have n3_:=zA (zS (zU (zU (Kd.S_old (by (with_reducible repeat (first|apply zM|apply zL|apply zN));exact HO189.out) hb) (zW ho0)) (Kd.S_base ho1)) (fun _ h_ => h_.1));have n4_:=zA (zHb (zQb (zQb ho0 (zOb (by (with_reducible repeat (first|apply zE|apply zD|apply zH));exact HO180.out))) (zOb (by (with_reducible repeat (first|apply zE|apply zD|apply zH));exact HO186.out))) (zT (by repeat (first|(with_reducible first|exact HB.out|apply zK|apply zC|apply zJ|refine zB ?_ GE174.out|refine zB ?_ GE175.out)|exact HB.out))));have n5_:=zA (zIb (zV (zV (zV (zV ho1 (zOb (by (with_reducible repeat (first|apply zE|apply zD|apply zH));exact HO180.out))) (Kd.S_lt (by (with_reducible repeat (first|apply zM|apply zL|apply zN));exact HO183.out))) (zOb (by (with_reducible repeat (first|apply zE|apply zD|apply zH));exact HO186.out))) (Kd.S_lt (by (with_reducible repeat (first|apply zM|apply zL|apply zN));exact HO189.out))) (zT (by repeat (first|(with_reducible first|exact HB.out|apply zK|apply zC|apply zJ|refine zB ?_ GE174.out|refine zB ?_ GE175.out)|exact HB.out))));have n6_:=zA (zQ (g:=gb174) (o:=.cells #[.slice A0_0 l0_0.length c0_0,.slice A0_1 l0_1.length c0_1] 41 (0,0)) (by (with_reducible repeat (first|refine zF ?_ _|refine zI ?_|refine zG ?_ _));exact BK174.out) hb);have n7_:=zA (zQ (g:=gb175) (o:=.cells #[.slice A1_0 l1_0.length c1_0,.slice A1_1 l1_1.length c1_1] 41 (0,0)) (by (with_reducible repeat (first|refine zF ?_ _|refine zI ?_|refine zG ?_ _));exact BK175.out) hb);have n8_:=zA (zJb (by repeat (first|(with_reducible first|exact HB.out|apply zK|apply zC|apply zJ|refine zB ?_ GE174.out|refine zB ?_ GE175.out)|exact HB.out)) hb);clear HO180;clear HO183;clear HO186;clear HO189;clear BK174;clear BK175;clear HB;have HO180:=n0_;have HO183:=n1_;have HO186:=n2_;have HO189:=n3_;have HO193:=n4_;have HO196:=n5_;have BK174:=n6_;have BK175:=n7_;have HB:=n8_;clear n0_ n1_ n2_ n3_ n4_ n5_ n6_ n7_ n8_;(try clear hb);(try clear hb2);(try clear hk);(try clear hi);(try clear ho0);(try clear ho1))|((with_reducible refine gate_dst (N:=7) rfl ?_);refine box_event ?hg (N:=7) ?hd (cs:=#[.slice none 0 0,.slice none 0 0]) (t:=46) ?hr ?_;(case hd => rfl);(case hg => rfl);(case hr => first|(go_simp;done)|(go_simp;rfl));intro gb197 hg w83 hbox hb;have n0_:=zA (zZ (by (with_reducible repeat (first|apply zE|apply zD|apply zH));exact HO180.out) hb);have n1_:=zA (zY (by (with_reducible repeat (first|apply zM|apply zL|apply zN));exact HO183.out) hb);have n2_:=zA (zZ (by (with_reducible repeat (first|apply zE|apply zD|apply zH));exact HO186.out) hb);have n3_:=zA (zY (by (with_reducible repeat (first|apply zM|apply zL|apply zN));exact HO189.out) hb);have n4_:=zA (zZ (by (with_reducible repeat (first|apply zE|apply zD|apply zH));exact HO193.out) hb);have n5_:=zA (zY (by (with_reducible repeat (first|apply zM|apply zL|apply zN));exact HO196.out) hb);have n6_:=zA (zQ (g:=gb174) (o:=.cells #[.slice A0_0 l0_0.length c0_0,.slice A0_1 l0_1.length c0_1] 41 (0,0)) (by (with_reducible repeat (first|refine zF ?_ _|refine zI ?_|refine zG ?_ _));exact BK174.out) hb);have n7_:=zA (zQ (g:=gb175) (o:=.cells #[.slice A1_0 l1_0.length c1_0,.slice A1_1 l1_1.length c1_1] 41 (0,0)) (by (with_reducible repeat (first|refine zF ?_ _|refine zI ?_|refine zG ?_ _));exact BK175.out) hb);have n8_:=zA (zJb (by repeat (first|(with_reducible first|exact HB.out|apply zK|apply zC|apply zJ|refine zB ?_ GE174.out|refine zB ?_ GE175.out)|exact HB.out)) hb);have n9_:=zA (hbox);have n10_:=zA ((by rw [hg];exact (zT (by repeat (first|(with_reducible first|exact HB.out|apply zK|apply zC|apply zJ|refine zB ?_ GE174.out|refine zB ?_ GE175.out)|exact HB.out))) : w.heap.size ≤ gb197));have n11_:=zA ((by rw [hg];exact (zT (by repeat (first|(with_reducible first|exact HB.out|apply zK|apply zC|apply zJ|refine zB ?_ GE174.out|refine zB ?_ GE175.out)|exact HB.out))) : w.heap.size ≤ gb197));have n12_:=zA ((by rw [hg];exact Nat.ne_of_lt (blk_lt (g:=gb174) (o:=.cells #[.slice A0_0 l0_0.length c0_0,.slice A0_1 l0_1.length c0_1] 41 (0,0)) (by (with_reducible repeat (first|refine zF ?_ _|refine zI ?_|refine zG ?_ _));exact BK174.out)) : gb174 ≠ gb197));have n13_:=zA ((by rw [hg];exact Nat.ne_of_gt (blk_lt (g:=gb174) (o:=.cells #[.slice A0_0 l0_0.length c0_0,.slice A0_1 l0_1.length c0_1] 41 (0,0)) (by (with_reducible repeat (first|refine zF ?_ _|refine zI ?_|refine zG ?_ _));exact BK174.out)) : gb197 ≠ gb174));have n14_:=zA ((by rw [hg];exact Nat.ne_of_lt (blk_lt (g:=gb175) (o:=.cells #[.slice A1_0 l1_0.length c1_0,.slice A1_1 l1_1.length c1_1] 41 (0,0)) (by (with_reducible repeat (first|refine zF ?_ _|refine zI ?_|refine zG ?_ _));exact BK175.out)) : gb175 ≠ gb197));have n15_:=zA ((by rw [hg];exact Nat.ne_of_gt (blk_lt (g:=gb175) (o:=.cells #[.slice A1_0 l1_0.length c1_0,.slice A1_1 l1_1.length c1_1] 41 (0,0)) (by (with_reducible repeat (first|refine zF ?_ _|refine zI ?_|refine zG ?_ _));exact BK175.out)) : gb197 ≠ gb175));clear HO180;clear HO183;clear HO186;clear HO189;clear HO193;clear HO196;clear BK174;clear BK175;clear HB;have HO180:=n0_;have HO183:=n1_;have HO186:=n2_;have HO189:=n3_;have HO193:=n4_;have HO196:=n5_;have BK174:=n6_;have BK175:=n7_;have HB:=n8_;have BK197:=n9_;have GW197:=n10_;have GE197:=n11_;have NB174_197:=n12_;have NB197_174:=n13_;have NB175_197:=n14_;have NB197_175:=n15_;clear n0_ n1_ n2_ n3_ n4_ n5_ n6_ n7_ n8_ n9_ n10_ n11_ n12_ n13_ n14_ n15_;clear hb hbox hg;obtain ⟨Ao84,co84,eo84⟩:=Kd.R_slice HO193.out;subst eo84;have hnb85:=NB197_174.out;have hnc85:=NB174_197.out;have hnb86:=NB197_175.out;have hnc86:=NB175_197.out;have hcz87_0 : w83.cell? ⟨gb197,0,none⟩ = some (.slice none 0 0):=(zP BK197.out 0).trans rfl;have hcz87_1 : w83.cell? ⟨gb197,1,none⟩ = some (.slice none 0 0):=(zP BK197.out 1).trans rfl;have hfz87_0:=blk_frozen BK197.out 0;have hfz87_1:=blk_frozen BK197.out 1;obtain ⟨Ao88,co88,eo88⟩:=Kd.S_slice HO196.out;subst eo88;have hcz89_0 : w83.cell? ⟨gb175,0,none⟩ = some (.slice A1_0 l1_0.length c1_0):=(zP BK175.out 0).trans rfl;have hcz89_1 : w83.cell? ⟨gb175,1,none⟩ = some (.slice A1_1 l1_1.length c1_1):=(zP BK175.out 1).trans rfl;have hfz89_0:=blk_frozen BK175.out 0;have hfz89_1:=blk_frozen BK175.out 1)|((with_reducible refine gate_callee (f:=32) rfl ?_);refine goesL_ (some 28) rfl rfl Try.func32 (by kernel_rfl) rfl #[.agg #[.slice A1_0 l1_0.length c1_0,.slice A1_1 l1_1.length c1_1]] rfl (by (try simp only [zCb,zMb,zNb]);first|done|rfl|(simp only [zLb,zDb];rfl)) ?_;(with_reducible refine (laws_toQuery.calls k _ _ l1_0 _ _ l1_1 t198 t201 _ ?side1 ?side2 ?side3 ?side4 A23.out).mono ?_);(case side1 => exact zKb HR1_0.out (by repeat (first|(with_reducible first|exact HB.out|apply zK|apply zC|apply zJ|refine zB ?_ GE174.out|refine zB ?_ GE175.out|refine zB ?_ GE197.out)|exact HB.out)));(case side2 => exact HC1_0.out);(case side3 => exact zKb HR1_1.out (by repeat (first|(with_reducible first|exact HB.out|apply zK|apply zC|apply zJ|refine zB ?_ GE174.out|refine zB ?_ GE175.out|refine zB ?_ GE197.out)|exact HB.out)));(case side4 => exact HC1_1.out);rintro e w90 ⟨v199,v202,rfl,ho0,ho1,hb⟩;refine ⟨_,rfl,?_⟩;have n0_:=zA (zTb (by (with_reducible repeat (first|apply zE|apply zD|apply zH));exact (zGb (zR (p:=⟨gb197,1,none⟩) (zR (p:=⟨gb197,0,none⟩) (Kd.R_types HO180.out BK197.out (by decide)) (fun _ hk => hk.2) (.slice Ao84 t191.length co84)) (fun _ hk => hk.2) (.slice Ao88 t194.length co88)) (fun _ h_ => h_.1))) (zW ho0) hb);have n1_:=zA (zS (zU (zU (Kd.S_old (by (with_reducible repeat (first|apply zM|apply zL|apply zN));exact (zS (zVb (p:=⟨gb197,1,none⟩) (zVb (p:=⟨gb197,0,none⟩) (Kd.S_types HO183.out BK197.out (by decide)) (fun _ hk => hk.2) (.slice Ao84 t191.length co84)) (fun _ hk => hk.2) (.slice Ao88 t194.length co88)) (fun _ h_ => h_.1))) hb) (zW ho0)) (Kd.S_base ho1)) (fun _ h_ => h_.1));have n2_:=zA (zTb (by (with_reducible repeat (first|apply zE|apply zD|apply zH));exact (zGb (zR (p:=⟨gb197,1,none⟩) (zR (p:=⟨gb197,0,none⟩) (Kd.R_types HO186.out BK197.out (by decide)) (fun _ hk => hk.2) (.slice Ao84 t191.length co84)) (fun _ hk => hk.2) (.slice Ao88 t194.length co88)) (fun _ h_ => h_.1))) (zW ho0) hb);have n3_:=zA (zS (zU (zU (Kd.S_old (by (with_reducible repeat (first|apply zM|apply zL|apply zN));exact (zS (zVb (p:=⟨gb197,1,none⟩) (zVb (p:=⟨gb197,0,none⟩) (Kd.S_types HO189.out BK197.out (by decide)) (fun _ hk => hk.2) (.slice Ao84 t191.length co84)) (fun _ hk => hk.2) (.slice Ao88 t194.length co88)) (fun _ h_ => h_.1))) hb) (zW ho0)) (Kd.S_base ho1)) (fun _ h_ => h_.1));have n4_:=zA (zTb (by (with_reducible repeat (first|apply zE|apply zD|apply zH));exact (zGb (zR (p:=⟨gb197,1,none⟩) (zR (p:=⟨gb197,0,none⟩) (Kd.R_types HO193.out BK197.out (by decide)) (fun _ hk => hk.2) (.slice Ao84 t191.length co84)) (fun _ hk => hk.2) (.slice Ao88 t194.length co88)) (fun _ h_ => h_.1))) (zW ho0) hb);have n5_:=zA (zS (zU (zU (Kd.S_old (by (with_reducible repeat (first|apply zM|apply zL|apply zN));exact (zS (zVb (p:=⟨gb197,1,none⟩) (zVb (p:=⟨gb197,0,none⟩) (Kd.S_types HO196.out BK197.out (by decide)) (fun _ hk => hk.2) (.slice Ao84 t191.length co84)) (fun _ hk => hk.2) (.slice Ao88 t194.length co88)) (fun _ h_ => h_.1))) hb) (zW ho0)) (Kd.S_base ho1)) (fun _ h_ => h_.1));have n6_:=zA (zHb (zQb (zQb (zQb ho0 (zOb (by (with_reducible repeat (first|apply zE|apply zD|apply zH));exact (zGb (zR (p:=⟨gb197,1,none⟩) (zR (p:=⟨gb197,0,none⟩) (Kd.R_types HO180.out BK197.out (by decide)) (fun _ hk => hk.2) (.slice Ao84 t191.length co84)) (fun _ hk => hk.2) (.slice Ao88 t194.length co88)) (fun _ h_ => h_.1))))) (zOb (by (with_reducible repeat (first|apply zE|apply zD|apply zH));exact (zGb (zR (p:=⟨gb197,1,none⟩) (zR (p:=⟨gb197,0,none⟩) (Kd.R_types HO186.out BK197.out (by decide)) (fun _ hk => hk.2) (.slice Ao84 t191.length co84)) (fun _ hk => hk.2) (.slice Ao88 t194.length co88)) (fun _ h_ => h_.1))))) (zOb (by (with_reducible repeat (first|apply zE|apply zD|apply zH));exact (zGb (zR (p:=⟨gb197,1,none⟩) (zR (p:=⟨gb197,0,none⟩) (Kd.R_types HO193.out BK197.out (by decide)) (fun _ hk => hk.2) (.slice Ao84 t191.length co84)) (fun _ hk => hk.2) (.slice Ao88 t194.length co88)) (fun _ h_ => h_.1))))) (zT (by repeat (first|(with_reducible first|exact HB.out|apply zK|apply zC|apply zJ|refine zB ?_ GE174.out|refine zB ?_ GE175.out|refine zB ?_ GE197.out)|exact HB.out))));have n7_:=zA (zIb (zV (zV (zV (zV (zV (zV ho1 (zOb (by (with_reducible repeat (first|apply zE|apply zD|apply zH));exact (zGb (zR (p:=⟨gb197,1,none⟩) (zR (p:=⟨gb197,0,none⟩) (Kd.R_types HO180.out BK197.out (by decide)) (fun _ hk => hk.2) (.slice Ao84 t191.length co84)) (fun _ hk => hk.2) (.slice Ao88 t194.length co88)) (fun _ h_ => h_.1))))) (Kd.S_lt (by (with_reducible repeat (first|apply zM|apply zL|apply zN));exact (zS (zVb (p:=⟨gb197,1,none⟩) (zVb (p:=⟨gb197,0,none⟩) (Kd.S_types HO183.out BK197.out (by decide)) (fun _ hk => hk.2) (.slice Ao84 t191.length co84)) (fun _ hk => hk.2) (.slice Ao88 t194.length co88)) (fun _ h_ => h_.1))))) (zOb (by (with_reducible repeat (first|apply zE|apply zD|apply zH));exact (zGb (zR (p:=⟨gb197,1,none⟩) (zR (p:=⟨gb197,0,none⟩) (Kd.R_types HO186.out BK197.out (by decide)) (fun _ hk => hk.2) (.slice Ao84 t191.length co84)) (fun _ hk => hk.2) (.slice Ao88 t194.length co88)) (fun _ h_ => h_.1))))) (Kd.S_lt (by (with_reducible repeat (first|apply zM|apply zL|apply zN));exact (zS (zVb (p:=⟨gb197,1,none⟩) (zVb (p:=⟨gb197,0,none⟩) (Kd.S_types HO189.out BK197.out (by decide)) (fun _ hk => hk.2) (.slice Ao84 t191.length co84)) (fun _ hk => hk.2) (.slice Ao88 t194.length co88)) (fun _ h_ => h_.1))))) (zOb (by (with_reducible repeat (first|apply zE|apply zD|apply zH));exact (zGb (zR (p:=⟨gb197,1,none⟩) (zR (p:=⟨gb197,0,none⟩) (Kd.R_types HO193.out BK197.out (by decide)) (fun _ hk => hk.2) (.slice Ao84 t191.length co84)) (fun _ hk => hk.2) (.slice Ao88 t194.length co88)) (fun _ h_ => h_.1))))) (Kd.S_lt (by (with_reducible repeat (first|apply zM|apply zL|apply zN));exact (zS (zVb (p:=⟨gb197,1,none⟩) (zVb (p:=⟨gb197,0,none⟩) (Kd.S_types HO196.out BK197.out (by decide)) (fun _ hk => hk.2) (.slice Ao84 t191.length co84)) (fun _ hk => hk.2) (.slice Ao88 t194.length co88)) (fun _ h_ => h_.1))))) (zT (by repeat (first|(with_reducible first|exact HB.out|apply zK|apply zC|apply zJ|refine zB ?_ GE174.out|refine zB ?_ GE175.out|refine zB ?_ GE197.out)|exact HB.out))));have n8_:=zA (zQ (g:=gb174) (o:=.cells #[.slice A0_0 l0_0.length c0_0,.slice A0_1 l0_1.length c0_1] 41 (0,0)) (by (with_reducible repeat (first|refine zF ?_ _|refine zI ?_|refine zG ?_ _));refine zUb ?_ NB174_197.out _;(with_reducible repeat (first|refine zF ?_ _|refine zI ?_|refine zG ?_ _));refine zUb ?_ NB174_197.out _;(with_reducible repeat (first|refine zF ?_ _|refine zI ?_|refine zG ?_ _));exact BK174.out) hb);have n9_:=zA (zQ (g:=gb175) (o:=.cells #[.slice A1_0 l1_0.length c1_0,.slice A1_1 l1_1.length c1_1] 41 (0,0)) (by (with_reducible repeat (first|refine zF ?_ _|refine zI ?_|refine zG ?_ _));refine zUb ?_ NB175_197.out _;(with_reducible repeat (first|refine zF ?_ _|refine zI ?_|refine zG ?_ _));refine zUb ?_ NB175_197.out _;(with_reducible repeat (first|refine zF ?_ _|refine zI ?_|refine zG ?_ _));exact BK175.out) hb);have n10_:=zA (zQ (g:=gb197) (o:=.cells #[.slice Ao84 t191.length co84,.slice Ao88 t194.length co88] 46 (0,0)) (by (with_reducible repeat (first|refine zF ?_ _|refine zI ?_|refine zG ?_ _));refine blk_put (cs:=#[.slice Ao84 t191.length co84,.slice none 0 0]) ?_ 1 _ rfl;(with_reducible repeat (first|refine zF ?_ _|refine zI ?_|refine zG ?_ _));refine blk_put (cs:=#[.slice none 0 0,.slice none 0 0]) ?_ 0 _ rfl;(with_reducible repeat (first|refine zF ?_ _|refine zI ?_|refine zG ?_ _));exact BK197.out) hb);have n11_:=zA (zJb (by repeat (first|(with_reducible first|exact HB.out|apply zK|apply zC|apply zJ|refine zB ?_ GE174.out|refine zB ?_ GE175.out|refine zB ?_ GE197.out)|exact HB.out)) hb);clear HO180;clear HO183;clear HO186;clear HO189;clear HO193;clear HO196;clear BK174;clear BK175;clear BK197;clear HB;have HO180:=n0_;have HO183:=n1_;have HO186:=n2_;have HO189:=n3_;have HO193:=n4_;have HO196:=n5_;have HO200:=n6_;have HO203:=n7_;have BK174:=n8_;have BK175:=n9_;have BK197:=n10_;have HB:=n11_;clear n0_ n1_ n2_ n3_ n4_ n5_ n6_ n7_ n8_ n9_ n10_ n11_;(try clear hb);(try clear hb2);(try clear hk);(try clear hi);(try clear ho0);(try clear ho1))|((with_reducible refine gate_dst (N:=8) rfl ?_);refine box_event ?hg (N:=8) ?hd (cs:=#[.slice none 0 0,.slice none 0 0]) (t:=46) ?hr ?_;(case hd => rfl);(case hg => rfl);(case hr => first|(go_simp;done)|(go_simp;rfl));intro gb204 hg w91 hbox hb;have n0_:=zA (zZ (by (with_reducible repeat (first|apply zE|apply zD|apply zH));exact HO180.out) hb);have n1_:=zA (zY (by (with_reducible repeat (first|apply zM|apply zL|apply zN));exact HO183.out) hb);have n2_:=zA (zZ (by (with_reducible repeat (first|apply zE|apply zD|apply zH));exact HO186.out) hb);have n3_:=zA (zY (by (with_reducible repeat (first|apply zM|apply zL|apply zN));exact HO189.out) hb);have n4_:=zA (zZ (by (with_reducible repeat (first|apply zE|apply zD|apply zH));exact HO193.out) hb);have n5_:=zA (zY (by (with_reducible repeat (first|apply zM|apply zL|apply zN));exact HO196.out) hb);have n6_:=zA (zZ (by (with_reducible repeat (first|apply zE|apply zD|apply zH));exact HO200.out) hb);have n7_:=zA (zY (by (with_reducible repeat (first|apply zM|apply zL|apply zN));exact HO203.out) hb);have n8_:=zA (zQ (g:=gb174) (o:=.cells #[.slice A0_0 l0_0.length c0_0,.slice A0_1 l0_1.length c0_1] 41 (0,0)) (by (with_reducible repeat (first|refine zF ?_ _|refine zI ?_|refine zG ?_ _));exact BK174.out) hb);have n9_:=zA (zQ (g:=gb175) (o:=.cells #[.slice A1_0 l1_0.length c1_0,.slice A1_1 l1_1.length c1_1] 41 (0,0)) (by (with_reducible repeat (first|refine zF ?_ _|refine zI ?_|refine zG ?_ _));exact BK175.out) hb);have n10_:=zA (zQ (g:=gb197) (o:=.cells #[.slice Ao84 t191.length co84,.slice Ao88 t194.length co88] 46 (0,0)) (by (with_reducible repeat (first|refine zF ?_ _|refine zI ?_|refine zG ?_ _));exact BK197.out) hb);have n11_:=zA (zJb (by repeat (first|(with_reducible first|exact HB.out|apply zK|apply zC|apply zJ|refine zB ?_ GE174.out|refine zB ?_ GE175.out|refine zB ?_ GE197.out)|exact HB.out)) hb);have n12_:=zA (hbox);have n13_:=zA ((by rw [hg];exact (zT (by repeat (first|(with_reducible first|exact HB.out|apply zK|apply zC|apply zJ|refine zB ?_ GE174.out|refine zB ?_ GE175.out|refine zB ?_ GE197.out)|exact HB.out))) : w.heap.size ≤ gb204));have n14_:=zA ((by rw [hg];exact (zT (by repeat (first|(with_reducible first|exact HB.out|apply zK|apply zC|apply zJ|refine zB ?_ GE174.out|refine zB ?_ GE175.out|refine zB ?_ GE197.out)|exact HB.out))) : w.heap.size ≤ gb204));have n15_:=zA ((by rw [hg];exact Nat.ne_of_lt (blk_lt (g:=gb174) (o:=.cells #[.slice A0_0 l0_0.length c0_0,.slice A0_1 l0_1.length c0_1] 41 (0,0)) (by (with_reducible repeat (first|refine zF ?_ _|refine zI ?_|refine zG ?_ _));exact BK174.out)) : gb174 ≠ gb204));have n16_:=zA ((by rw [hg];exact Nat.ne_of_gt (blk_lt (g:=gb174) (o:=.cells #[.slice A0_0 l0_0.length c0_0,.slice A0_1 l0_1.length c0_1] 41 (0,0)) (by (with_reducible repeat (first|refine zF ?_ _|refine zI ?_|refine zG ?_ _));exact BK174.out)) : gb204 ≠ gb174));have n17_:=zA ((by rw [hg];exact Nat.ne_of_lt (blk_lt (g:=gb175) (o:=.cells #[.slice A1_0 l1_0.length c1_0,.slice A1_1 l1_1.length c1_1] 41 (0,0)) (by (with_reducible repeat (first|refine zF ?_ _|refine zI ?_|refine zG ?_ _));exact BK175.out)) : gb175 ≠ gb204));have n18_:=zA ((by rw [hg];exact Nat.ne_of_gt (blk_lt (g:=gb175) (o:=.cells #[.slice A1_0 l1_0.length c1_0,.slice A1_1 l1_1.length c1_1] 41 (0,0)) (by (with_reducible repeat (first|refine zF ?_ _|refine zI ?_|refine zG ?_ _));exact BK175.out)) : gb204 ≠ gb175));have n19_:=zA ((by rw [hg];exact Nat.ne_of_lt (blk_lt (g:=gb197) (o:=.cells #[.slice Ao84 t191.length co84,.slice Ao88 t194.length co88] 46 (0,0)) (by (with_reducible repeat (first|refine zF ?_ _|refine zI ?_|refine zG ?_ _));exact BK197.out)) : gb197 ≠ gb204));have n20_:=zA ((by rw [hg];exact Nat.ne_of_gt (blk_lt (g:=gb197) (o:=.cells #[.slice Ao84 t191.length co84,.slice Ao88 t194.length co88] 46 (0,0)) (by (with_reducible repeat (first|refine zF ?_ _|refine zI ?_|refine zG ?_ _));exact BK197.out)) : gb204 ≠ gb197));clear HO180;clear HO183;clear HO186;clear HO189;clear HO193;clear HO196;clear HO200;clear HO203;clear BK174;clear BK175;clear BK197;clear HB;have HO180:=n0_;have HO183:=n1_;have HO186:=n2_;have HO189:=n3_;have HO193:=n4_;have HO196:=n5_;have HO200:=n6_;have HO203:=n7_;have BK174:=n8_;have BK175:=n9_;have BK197:=n10_;have HB:=n11_;have BK204:=n12_;have GW204:=n13_;have GE204:=n14_;have NB174_204:=n15_;have NB204_174:=n16_;have NB175_204:=n17_;have NB204_175:=n18_;have NB197_204:=n19_;have NB204_197:=n20_;clear n0_ n1_ n2_ n3_ n4_ n5_ n6_ n7_ n8_ n9_ n10_ n11_ n12_ n13_ n14_ n15_ n16_ n17_ n18_ n19_ n20_;clear hb hbox hg;obtain ⟨Ao92,co92,eo92⟩:=Kd.R_slice HO200.out;subst eo92;have hnb93:=NB204_174.out;have hnc93:=NB174_204.out;have hnb94:=NB204_175.out;have hnc94:=NB175_204.out;have hnb95:=NB204_197.out;have hnc95:=NB197_204.out;have hcz96_0 : w91.cell? ⟨gb204,0,none⟩ = some (.slice none 0 0):=(zP BK204.out 0).trans rfl;have hcz96_1 : w91.cell? ⟨gb204,1,none⟩ = some (.slice none 0 0):=(zP BK204.out 1).trans rfl;have hfz96_0:=blk_frozen BK204.out 0;have hfz96_1:=blk_frozen BK204.out 1;obtain ⟨Ao97,co97,eo97⟩:=Kd.S_slice HO203.out;subst eo97;have hcz98_0 : w91.cell? ⟨gb197,0,none⟩ = some (.slice Ao84 t191.length co84):=(zP BK197.out 0).trans rfl;have hcz98_1 : w91.cell? ⟨gb197,1,none⟩ = some (.slice Ao88 t194.length co88):=(zP BK197.out 1).trans rfl;have hfz98_0:=blk_frozen BK197.out 0;have hfz98_1:=blk_frozen BK197.out 1)|((with_reducible refine gate_callee (f:=33) rfl ?_);refine goesL_ (some 31) rfl rfl Try.func33 (by kernel_rfl) rfl #[.agg #[.slice Ao84 t191.length co84,.slice Ao88 t194.length co88],.agg #[.slice Ao92 t198.length co92,.slice Ao97 t201.length co97]] rfl (by (try simp only [zCb,zMb,zNb]);first|done|rfl|(simp only [zLb,zDb];rfl)) ?_;(with_reducible refine (impl_EqualQueries.calls k _ _ t191 _ _ t194 _ _ t198 _ _ t201 t205 _ ?side1 ?side2 ?side3 ?side4 ?side5 ?side6 ?side7 ?side8 A24.out).mono ?_);(case side1 => refine (Kd.R_reads' (e:=3) (base:=w.heap.size) (ok:=fun k_ => (((True ∧ some k_ ≠ (.slice Ao76 t178.length co76 : Value).ownBlock) ∧ some k_ ≠ (.slice Ao78 t184.length co78 : Value).ownBlock) ∧ some k_ ≠ (.slice Ao92 t198.length co92 : Value).ownBlock)) (n:=t191.length) (c:=co84) ?_).2.2;exact (by (with_reducible repeat (first|apply zE|apply zD|apply zH));exact (zGb (zR (p:=⟨gb204,1,none⟩) (zR (p:=⟨gb204,0,none⟩) (Kd.R_types HO193.out BK204.out (by decide)) (fun _ hk => hk.2) (.slice Ao92 t198.length co92)) (fun _ hk => hk.2) (.slice Ao97 t201.length co97)) (fun _ h_ => h_.1))));(case side2 => exact (Kd.R_reads' HO193.out).2.1);(case side3 => refine (Kd.S_reads' (e:=97) (base:=w.heap.size) (ok:=fun k_ => ((((((some k_ ≠ (.slice Ao84 t191.length co84 : Value).ownBlock ∧ some k_ ≠ (.slice Ao76 t178.length co76 : Value).ownBlock) ∧ some k_ ≠ (.slice Ao77 t181.length co77 : Value).ownBlock) ∧ some k_ ≠ (.slice Ao78 t184.length co78 : Value).ownBlock) ∧ some k_ ≠ (.slice Ao79 t187.length co79 : Value).ownBlock) ∧ some k_ ≠ (.slice Ao92 t198.length co92 : Value).ownBlock) ∧ some k_ ≠ (.slice Ao97 t201.length co97 : Value).ownBlock)) (n:=t194.length) (c:=co88) ?_).2.2;exact (by (with_reducible repeat (first|apply zM|apply zL|apply zN));exact (zS (zVb (p:=⟨gb204,1,none⟩) (zVb (p:=⟨gb204,0,none⟩) (Kd.S_types HO196.out BK204.out (by decide)) (fun _ hk => hk.2) (.slice Ao92 t198.length co92)) (fun _ hk => hk.2) (.slice Ao97 t201.length co97)) (fun _ h_ => h_.1))));(case side4 => exact (Kd.S_reads' HO196.out).2.1);(case side5 => refine (Kd.R_reads' (e:=3) (base:=w.heap.size) (ok:=fun k_ => (((True ∧ some k_ ≠ (.slice Ao76 t178.length co76 : Value).ownBlock) ∧ some k_ ≠ (.slice Ao78 t184.length co78 : Value).ownBlock) ∧ some k_ ≠ (.slice Ao84 t191.length co84 : Value).ownBlock)) (n:=t198.length) (c:=co92) ?_).2.2;exact (by (with_reducible repeat (first|apply zE|apply zD|apply zH));exact (zGb (zR (p:=⟨gb204,1,none⟩) (zR (p:=⟨gb204,0,none⟩) (Kd.R_types HO200.out BK204.out (by decide)) (fun _ hk => hk.2) (.slice Ao92 t198.length co92)) (fun _ hk => hk.2) (.slice Ao97 t201.length co97)) (fun _ h_ => h_.1))));(case side6 => exact (Kd.R_reads' HO200.out).2.1);(case side7 => refine (Kd.S_reads' (e:=97) (base:=w.heap.size) (ok:=fun k_ => ((((((some k_ ≠ (.slice Ao92 t198.length co92 : Value).ownBlock ∧ some k_ ≠ (.slice Ao76 t178.length co76 : Value).ownBlock) ∧ some k_ ≠ (.slice Ao77 t181.length co77 : Value).ownBlock) ∧ some k_ ≠ (.slice Ao78 t184.length co78 : Value).ownBlock) ∧ some k_ ≠ (.slice Ao79 t187.length co79 : Value).ownBlock) ∧ some k_ ≠ (.slice Ao84 t191.length co84 : Value).ownBlock) ∧ some k_ ≠ (.slice Ao88 t194.length co88 : Value).ownBlock)) (n:=t201.length) (c:=co97) ?_).2.2;exact (by (with_reducible repeat (first|apply zM|apply zL|apply zN));exact (zS (zVb (p:=⟨gb204,1,none⟩) (zVb (p:=⟨gb204,0,none⟩) (Kd.S_types HO203.out BK204.out (by decide)) (fun _ hk => hk.2) (.slice Ao92 t198.length co92)) (fun _ hk => hk.2) (.slice Ao97 t201.length co97)) (fun _ h_ => h_.1))));(case side8 => exact (Kd.S_reads' HO203.out).2.1);rintro e w99 ⟨rfl,hb⟩;refine ⟨_,rfl,?_⟩;have n0_:=zA (zZ (by (with_reducible repeat (first|apply zE|apply zD|apply zH));exact (zGb (zR (p:=⟨gb204,1,none⟩) (zR (p:=⟨gb204,0,none⟩) (Kd.R_types HO180.out BK204.out (by decide)) (fun _ hk => hk.2) (.slice Ao92 t198.length co92)) (fun _ hk => hk.2) (.slice Ao97 t201.length co97)) (fun _ h_ => h_.1))) hb);have n1_:=zA (zY (by (with_reducible repeat (first|apply zM|apply zL|apply zN));exact (zS (zVb (p:=⟨gb204,1,none⟩) (zVb (p:=⟨gb204,0,none⟩) (Kd.S_types HO183.out BK204.out (by decide)) (fun _ hk => hk.2) (.slice Ao92 t198.length co92)) (fun _ hk => hk.2) (.slice Ao97 t201.length co97)) (fun _ h_ => h_.1))) hb);have n2_:=zA (zZ (by (with_reducible repeat (first|apply zE|apply zD|apply zH));exact (zGb (zR (p:=⟨gb204,1,none⟩) (zR (p:=⟨gb204,0,none⟩) (Kd.R_types HO186.out BK204.out (by decide)) (fun _ hk => hk.2) (.slice Ao92 t198.length co92)) (fun _ hk => hk.2) (.slice Ao97 t201.length co97)) (fun _ h_ => h_.1))) hb);have n3_:=zA (zY (by (with_reducible repeat (first|apply zM|apply zL|apply zN));exact (zS (zVb (p:=⟨gb204,1,none⟩) (zVb (p:=⟨gb204,0,none⟩) (Kd.S_types HO189.out BK204.out (by decide)) (fun _ hk => hk.2) (.slice Ao92 t198.length co92)) (fun _ hk => hk.2) (.slice Ao97 t201.length co97)) (fun _ h_ => h_.1))) hb);have n4_:=zA (zZ (by (with_reducible repeat (first|apply zE|apply zD|apply zH));exact (zGb (zR (p:=⟨gb204,1,none⟩) (zR (p:=⟨gb204,0,none⟩) (Kd.R_types HO193.out BK204.out (by decide)) (fun _ hk => hk.2) (.slice Ao92 t198.length co92)) (fun _ hk => hk.2) (.slice Ao97 t201.length co97)) (fun _ h_ => h_.1))) hb);have n5_:=zA (zY (by (with_reducible repeat (first|apply zM|apply zL|apply zN));exact (zS (zVb (p:=⟨gb204,1,none⟩) (zVb (p:=⟨gb204,0,none⟩) (Kd.S_types HO196.out BK204.out (by decide)) (fun _ hk => hk.2) (.slice Ao92 t198.length co92)) (fun _ hk => hk.2) (.slice Ao97 t201.length co97)) (fun _ h_ => h_.1))) hb);have n6_:=zA (zZ (by (with_reducible repeat (first|apply zE|apply zD|apply zH));exact (zGb (zR (p:=⟨gb204,1,none⟩) (zR (p:=⟨gb204,0,none⟩) (Kd.R_types HO200.out BK204.out (by decide)) (fun _ hk => hk.2) (.slice Ao92 t198.length co92)) (fun _ hk => hk.2) (.slice Ao97 t201.length co97)) (fun _ h_ => h_.1))) hb);have n7_:=zA (zY (by (with_reducible repeat (first|apply zM|apply zL|apply zN));exact (zS (zVb (p:=⟨gb204,1,none⟩) (zVb (p:=⟨gb204,0,none⟩) (Kd.S_types HO203.out BK204.out (by decide)) (fun _ hk => hk.2) (.slice Ao92 t198.length co92)) (fun _ hk => hk.2) (.slice Ao97 t201.length co97)) (fun _ h_ => h_.1))) hb);have n8_:=zA (zQ (g:=gb174) (o:=.cells #[.slice A0_0 l0_0.length c0_0,.slice A0_1 l0_1.length c0_1] 41 (0,0)) (by (with_reducible repeat (first|refine zF ?_ _|refine zI ?_|refine zG ?_ _));refine zUb ?_ NB174_204.out _;(with_reducible repeat (first|refine zF ?_ _|refine zI ?_|refine zG ?_ _));refine zUb ?_ NB174_204.out _;(with_reducible repeat (first|refine zF ?_ _|refine zI ?_|refine zG ?_ _));exact BK174.out) hb);have n9_:=zA (zQ (g:=gb175) (o:=.cells #[.slice A1_0 l1_0.length c1_0,.slice A1_1 l1_1.length c1_1] 41 (0,0)) (by (with_reducible repeat (first|refine zF ?_ _|refine zI ?_|refine zG ?_ _));refine zUb ?_ NB175_204.out _;(with_reducible repeat (first|refine zF ?_ _|refine zI ?_|refine zG ?_ _));refine zUb ?_ NB175_204.out _;(with_reducible repeat (first|refine zF ?_ _|refine zI ?_|refine zG ?_ _));exact BK175.out) hb);have n10_:=zA (zQ (g:=gb197) (o:=.cells #[.slice Ao84 t191.length co84,.slice Ao88 t194.length co88] 46 (0,0)) (by (with_reducible repeat (first|refine zF ?_ _|refine zI ?_|refine zG ?_ _));refine zUb ?_ NB197_204.out _;(with_reducible repeat (first|refine zF ?_ _|refine zI ?_|refine zG ?_ _));refine zUb ?_ NB197_204.out _;(with_reducible repeat (first|refine zF ?_ _|refine zI ?_|refine zG ?_ _));exact BK197.out) hb);have n11_:=zA (zQ (g:=gb204) (o:=.cells #[.slice Ao92 t198.length co92,.slice Ao97 t201.length co97] 46 (0,0)) (by (with_reducible repeat (first|refine zF ?_ _|refine zI ?_|refine zG ?_ _));refine blk_put (cs:=#[.slice Ao92 t198.length co92,.slice none 0 0]) ?_ 1 _ rfl;(with_reducible repeat (first|refine zF ?_ _|refine zI ?_|refine zG ?_ _));refine blk_put (cs:=#[.slice none 0 0,.slice none 0 0]) ?_ 0 _ rfl;(with_reducible repeat (first|refine zF ?_ _|refine zI ?_|refine zG ?_ _));exact BK204.out) hb);have n12_:=zA (zJb (by repeat (first|(with_reducible first|exact HB.out|apply zK|apply zC|apply zJ|refine zB ?_ GE174.out|refine zB ?_ GE175.out|refine zB ?_ GE197.out|refine zB ?_ GE204.out)|exact HB.out)) hb);clear HO180;clear HO183;clear HO186;clear HO189;clear HO193;clear HO196;clear HO200;clear HO203;clear BK174;clear BK175;clear BK197;clear BK204;clear HB;have HO180:=n0_;have HO183:=n1_;have HO186:=n2_;have HO189:=n3_;have HO193:=n4_;have HO196:=n5_;have HO200:=n6_;have HO203:=n7_;have BK174:=n8_;have BK175:=n9_;have BK197:=n10_;have BK204:=n11_;have HB:=n12_;clear n0_ n1_ n2_ n3_ n4_ n5_ n6_ n7_ n8_ n9_ n10_ n11_ n12_;(try clear hb);(try clear hb2);(try clear hk);(try clear hi)))
      have n0_:=zA (zH HO180.out)
      have n1_:=zA (zN HO183.out)
      have n2_:=zA (zH HO186.out)
      have n3_:=zA (zN HO189.out)
      have n4_:=zA (zH HO193.out)
      have n5_:=zA (zN HO196.out)
      have n6_:=zA (zH HO200.out)
      have n7_:=zA (zN HO203.out)
      have n8_:=zA (zI BK174.out)
      have n9_:=zA (zI BK175.out)
      have n10_:=zA (zI BK197.out)
      have n11_:=zA (zI BK204.out)
      have n12_:=zA (zJ HB.out)
      clear HO180
      clear HO183
      clear HO186
      clear HO189
      clear HO193
      clear HO196
      clear HO200
      clear HO203
      clear BK174
      clear BK175
      clear BK197
      clear BK204
      clear HB
      have HO180:=n0_
      have HO183:=n1_
      have HO186:=n2_
      have HO189:=n3_
      have HO193:=n4_
      have HO196:=n5_
      have HO200:=n6_
      have HO203:=n7_
      have BK174:=n8_
      have BK175:=n9_
      have BK197:=n10_
      have BK204:=n11_
      have HB:=n12_
      clear n0_ n1_ n2_ n3_ n4_ n5_ n6_ n7_ n8_ n9_ n10_ n11_ n12_
      refine start_ (n:=5) (S:=fun w' => w'.cell? ⟨gb197,0,none⟩ = some (.slice Ao84 t191.length co84) ∧ w'.cell? ⟨gb197,1,none⟩ = some (.slice Ao88 t194.length co88) ∧ w'.cell? ⟨gb174,0,none⟩ = some (.slice A0_0 l0_0.length c0_0) ∧ w'.cell? ⟨gb174,1,none⟩ = some (.slice A0_1 l0_1.length c0_1)) (ds:=[]) #[false,false,false,false,false] (by kernel_rfl) rfl rfl ⟨(zP BK197.out 0).trans rfl,(zP BK197.out 1).trans rfl,(zP BK174.out 0).trans rfl,(zP BK174.out 1).trans rfl⟩ (fun hHeld => ?_)
      generalize w99.drew = w100 at HO180 HO183 HO186 HO189 HO193 HO196 HO200 HO203 BK174 BK175 BK197 BK204 HB hHeld ⊢
      refine take_ (i:=0) (N:=some 35) (v:=?_) (a':=?_) #[true,false,false,false,false] rfl rfl (by kernel_rfl) (fun _ _ _ h => h) (Or.inl ⟨by rfl,?_⟩) hHeld ?_ ?_
      rotate_left
      ·
       rintro w' ⟨s0,s1,s2,s3⟩
       go_simp
       with_reducible rfl
      rotate_left
      ·
       simp only [Act.put,zO,zEb,zFb,i64_w,i32_w]
       rfl
      refine take_ (i:=1) (N:=some 36) (v:=?_) (a':=?_) #[true,true,false,false,false] rfl rfl (by kernel_rfl) (fun _ _ _ h => h) (Or.inl ⟨by rfl,?_⟩) hHeld ?_ ?_
      rotate_left
      ·
       rintro w' ⟨s0,s1,s2,s3⟩
       go_simp
       with_reducible rfl
      rotate_left
      ·
       simp only [Act.put,zO,zEb,zFb,i64_w,i32_w]
       rfl
      refine one_ (i:=2) (N:=some 37) #[true,true,true,false,false] rfl rfl (by kernel_rfl) (by decide) (fun K hK => ?_)
      refine goes_ Try.func32 (by kernel_rfl) rfl #[.agg #[.slice A0_0 l0_0.length c0_0,.slice A0_1 l0_1.length c0_1]] (by rfl) rfl rfl (by (try simp only [zCb,zMb,zNb]);first|done|rfl|(simp only [zLb,zDb];rfl)) ?_
      with_reducible refine (laws_toQuery.calls k _ _ l0_0 _ _ l0_1 t206 t209 _ ?side1 ?side2 ?side3 ?side4 A60.out).mono ?_
      (case side1 => repeat (first|exact (zKb HR0_0.out HB.out)|(with_reducible refine zBb ?_ _)|(with_reducible refine zAb ?_ _)|(with_reducible refine zX ?_)))
      (case side2 => exact HC0_0.out)
      (case side3 => repeat (first|exact (zKb HR0_1.out HB.out)|(with_reducible refine zBb ?_ _)|(with_reducible refine zAb ?_ _)|(with_reducible refine zX ?_)))
      (case side4 => exact HC0_1.out)
      rintro e w101 ⟨v207,v210,rfl,ho0,ho1,hb⟩
      refine ⟨_,rfl,?_⟩
      have n0_:=zA (zTb (by (with_reducible repeat (first|apply zE|apply zD|apply zH));exact HO180.out) (zW ho0) hb)
      have n1_:=zA (zS (zU (zU (Kd.S_old (by (with_reducible repeat (first|apply zM|apply zL|apply zN));exact HO183.out) hb) (zW ho0)) (Kd.S_base ho1)) (fun _ h_ => h_.1))
      have n2_:=zA (zTb (by (with_reducible repeat (first|apply zE|apply zD|apply zH));exact HO186.out) (zW ho0) hb)
      have n3_:=zA (zS (zU (zU (Kd.S_old (by (with_reducible repeat (first|apply zM|apply zL|apply zN));exact HO189.out) hb) (zW ho0)) (Kd.S_base ho1)) (fun _ h_ => h_.1))
      have n4_:=zA (zTb (by (with_reducible repeat (first|apply zE|apply zD|apply zH));exact HO193.out) (zW ho0) hb)
      have n5_:=zA (zS (zU (zU (Kd.S_old (by (with_reducible repeat (first|apply zM|apply zL|apply zN));exact HO196.out) hb) (zW ho0)) (Kd.S_base ho1)) (fun _ h_ => h_.1))
      have n6_:=zA (zTb (by (with_reducible repeat (first|apply zE|apply zD|apply zH));exact HO200.out) (zW ho0) hb)
      have n7_:=zA (zS (zU (zU (Kd.S_old (by (with_reducible repeat (first|apply zM|apply zL|apply zN));exact HO203.out) hb) (zW ho0)) (Kd.S_base ho1)) (fun _ h_ => h_.1))
      have n8_:=zA (zHb (zQb (zQb (zQb (zQb ho0 (zOb (by (with_reducible repeat (first|apply zE|apply zD|apply zH));exact HO180.out))) (zOb (by (with_reducible repeat (first|apply zE|apply zD|apply zH));exact HO186.out))) (zOb (by (with_reducible repeat (first|apply zE|apply zD|apply zH));exact HO193.out))) (zOb (by (with_reducible repeat (first|apply zE|apply zD|apply zH));exact HO200.out))) (zT (by repeat (first|(with_reducible first|exact HB.out|apply zK|apply zC|apply zJ|refine zB ?_ GE174.out|refine zB ?_ GE175.out|refine zB ?_ GE197.out|refine zB ?_ GE204.out)|exact HB.out))))
      have n9_:=zA (zIb (zV (zV (zV (zV (zV (zV (zV (zV ho1 (zOb (by (with_reducible repeat (first|apply zE|apply zD|apply zH));exact HO180.out))) (Kd.S_lt (by (with_reducible repeat (first|apply zM|apply zL|apply zN));exact HO183.out))) (zOb (by (with_reducible repeat (first|apply zE|apply zD|apply zH));exact HO186.out))) (Kd.S_lt (by (with_reducible repeat (first|apply zM|apply zL|apply zN));exact HO189.out))) (zOb (by (with_reducible repeat (first|apply zE|apply zD|apply zH));exact HO193.out))) (Kd.S_lt (by (with_reducible repeat (first|apply zM|apply zL|apply zN));exact HO196.out))) (zOb (by (with_reducible repeat (first|apply zE|apply zD|apply zH));exact HO200.out))) (Kd.S_lt (by (with_reducible repeat (first|apply zM|apply zL|apply zN));exact HO203.out))) (zT (by repeat (first|(with_reducible first|exact HB.out|apply zK|apply zC|apply zJ|refine zB ?_ GE174.out|refine zB ?_ GE175.out|refine zB ?_ GE197.out|refine zB ?_ GE204.out)|exact HB.out))))
      have n10_:=zA (zQ (g:=gb174) (o:=.cells #[.slice A0_0 l0_0.length c0_0,.slice A0_1 l0_1.length c0_1] 41 (0,0)) (by (with_reducible repeat (first|refine zF ?_ _|refine zI ?_|refine zG ?_ _));exact BK174.out) hb)
      have n11_:=zA (zQ (g:=gb175) (o:=.cells #[.slice A1_0 l1_0.length c1_0,.slice A1_1 l1_1.length c1_1] 41 (0,0)) (by (with_reducible repeat (first|refine zF ?_ _|refine zI ?_|refine zG ?_ _));exact BK175.out) hb)
      have n12_:=zA (zQ (g:=gb197) (o:=.cells #[.slice Ao84 t191.length co84,.slice Ao88 t194.length co88] 46 (0,0)) (by (with_reducible repeat (first|refine zF ?_ _|refine zI ?_|refine zG ?_ _));exact BK197.out) hb)
      have n13_:=zA (zQ (g:=gb204) (o:=.cells #[.slice Ao92 t198.length co92,.slice Ao97 t201.length co97] 46 (0,0)) (by (with_reducible repeat (first|refine zF ?_ _|refine zI ?_|refine zG ?_ _));exact BK204.out) hb)
      have n14_:=zA (zJb (by repeat (first|(with_reducible first|exact HB.out|apply zK|apply zC|apply zJ|refine zB ?_ GE174.out|refine zB ?_ GE175.out|refine zB ?_ GE197.out|refine zB ?_ GE204.out)|exact HB.out)) hb)
      clear HO180
      clear HO183
      clear HO186
      clear HO189
      clear HO193
      clear HO196
      clear HO200
      clear HO203
      clear BK174
      clear BK175
      clear BK197
      clear BK204
      clear HB
      have HO180:=n0_
      have HO183:=n1_
      have HO186:=n2_
      have HO189:=n3_
      have HO193:=n4_
      have HO196:=n5_
      have HO200:=n6_
      have HO203:=n7_
      have HO208:=n8_
      have HO211:=n9_
      have BK174:=n10_
      have BK175:=n11_
      have BK197:=n12_
      have BK204:=n13_
      have HB:=n14_
      clear n0_ n1_ n2_ n3_ n4_ n5_ n6_ n7_ n8_ n9_ n10_ n11_ n12_ n13_ n14_
      (try clear hb)
      (try clear hb2)
      (try clear hk)
      (try clear hi)
      (try clear ho0)
      (try clear ho1)
      obtain ⟨Ao102,co102,eo102⟩:=Kd.R_slice HO208.out
      (first|subst eo102|(injection eo102 with f1_ f2_ f3_;have f4_:=f1_.symm;have f5_:=f3_.symm;clear f1_ f2_ f3_;subst f4_;subst f5_))
      obtain ⟨Ao103,co103,eo103⟩:=Kd.S_slice HO211.out
      (first|subst eo103|(injection eo103 with f1_ f2_ f3_;have f4_:=f1_.symm;have f5_:=f3_.symm;clear f1_ f2_ f3_;subst f4_;subst f5_))
      refine hK.out _ _ ⟨(zP BK197.out 0).trans rfl,(zP BK197.out 1).trans rfl,(zP BK174.out 0).trans rfl,(zP BK174.out 1).trans rfl⟩ (fun hHeld => ?_)
      clear hK K
      refine norm_ (a':=?_) ?_ ?_
      rotate_left
      ·
       show Act.put _ (some 37) _ = _
       simp only [Act.put,zO,zEb,zFb,i64_w,i32_w]
       rfl
      refine one_ (i:=3) (N:=some 38) #[true,true,true,true,false] rfl rfl (by kernel_rfl) (by decide) (fun K hK => ?_)
      refine goes_ Try.func34 (by kernel_rfl) rfl #[.agg #[.slice Ao84 t191.length co84,.slice Ao88 t194.length co88],.agg #[.slice Ao102 t206.length co102,.slice Ao103 t209.length co103]] (by rfl) rfl rfl (by (try simp only [zCb,zMb,zNb]);first|done|rfl|(simp only [zLb,zDb];rfl)) ?_
      with_reducible refine (laws_eqQuery.calls k _ _ t191 _ _ t194 _ _ t206 _ _ t209 true _ ?side1 ?side2 ?side3 ?side4 ?side5 ?side6 ?side7 ?side8 A61.out).mono ?_
      (case side1 => repeat (first|exact (Kd.R_reads' HO193.out).2.2|(with_reducible refine zBb ?_ _)|(with_reducible refine zAb ?_ _)|(with_reducible refine zX ?_)))
      (case side2 => exact (Kd.R_reads' HO193.out).2.1)
      (case side3 => repeat (first|exact (Kd.S_reads' HO196.out).2.2|(with_reducible refine zBb ?_ _)|(with_reducible refine zAb ?_ _)|(with_reducible refine zX ?_)))
      (case side4 => exact (Kd.S_reads' HO196.out).2.1)
      (case side5 => repeat (first|exact (Kd.R_reads' HO208.out).2.2|(with_reducible refine zBb ?_ _)|(with_reducible refine zAb ?_ _)|(with_reducible refine zX ?_)))
      (case side6 => exact (Kd.R_reads' HO208.out).2.1)
      (case side7 => repeat (first|exact (Kd.S_reads' HO211.out).2.2|(with_reducible refine zBb ?_ _)|(with_reducible refine zAb ?_ _)|(with_reducible refine zX ?_)))
      (case side8 => exact (Kd.S_reads' HO211.out).2.1)
      rintro e w104 ⟨rfl,hb⟩
      refine ⟨_,rfl,?_⟩
      have n0_:=zA (zZ (by (with_reducible repeat (first|apply zE|apply zD|apply zH));exact HO180.out) hb)
      have n1_:=zA (zY (by (with_reducible repeat (first|apply zM|apply zL|apply zN));exact HO183.out) hb)
      have n2_:=zA (zZ (by (with_reducible repeat (first|apply zE|apply zD|apply zH));exact HO186.out) hb)
      have n3_:=zA (zY (by (with_reducible repeat (first|apply zM|apply zL|apply zN));exact HO189.out) hb)
      have n4_:=zA (zZ (by (with_reducible repeat (first|apply zE|apply zD|apply zH));exact HO193.out) hb)
      have n5_:=zA (zY (by (with_reducible repeat (first|apply zM|apply zL|apply zN));exact HO196.out) hb)
      have n6_:=zA (zZ (by (with_reducible repeat (first|apply zE|apply zD|apply zH));exact HO200.out) hb)
      have n7_:=zA (zY (by (with_reducible repeat (first|apply zM|apply zL|apply zN));exact HO203.out) hb)
      have n8_:=zA (zZ (by (with_reducible repeat (first|apply zE|apply zD|apply zH));exact HO208.out) hb)
      have n9_:=zA (zY (by (with_reducible repeat (first|apply zM|apply zL|apply zN));exact HO211.out) hb)
      have n10_:=zA (zQ (g:=gb174) (o:=.cells #[.slice A0_0 l0_0.length c0_0,.slice A0_1 l0_1.length c0_1] 41 (0,0)) (by (with_reducible repeat (first|refine zF ?_ _|refine zI ?_|refine zG ?_ _));exact BK174.out) hb)
      have n11_:=zA (zQ (g:=gb175) (o:=.cells #[.slice A1_0 l1_0.length c1_0,.slice A1_1 l1_1.length c1_1] 41 (0,0)) (by (with_reducible repeat (first|refine zF ?_ _|refine zI ?_|refine zG ?_ _));exact BK175.out) hb)
      have n12_:=zA (zQ (g:=gb197) (o:=.cells #[.slice Ao84 t191.length co84,.slice Ao88 t194.length co88] 46 (0,0)) (by (with_reducible repeat (first|refine zF ?_ _|refine zI ?_|refine zG ?_ _));exact BK197.out) hb)
      have n13_:=zA (zQ (g:=gb204) (o:=.cells #[.slice Ao92 t198.length co92,.slice Ao97 t201.length co97] 46 (0,0)) (by (with_reducible repeat (first|refine zF ?_ _|refine zI ?_|refine zG ?_ _));exact BK204.out) hb)
      have n14_:=zA (zJb (by repeat (first|(with_reducible first|exact HB.out|apply zK|apply zC|apply zJ|refine zB ?_ GE174.out|refine zB ?_ GE175.out|refine zB ?_ GE197.out|refine zB ?_ GE204.out)|exact HB.out)) hb)
      clear HO180
      clear HO183
      clear HO186
      clear HO189
      clear HO193
      clear HO196
      clear HO200
      clear HO203
      clear HO208
      clear HO211
      clear BK174
      clear BK175
      clear BK197
      clear BK204
      clear HB
      have HO180:=n0_
      have HO183:=n1_
      have HO186:=n2_
      have HO189:=n3_
      have HO193:=n4_
      have HO196:=n5_
      have HO200:=n6_
      have HO203:=n7_
      have HO208:=n8_
      have HO211:=n9_
      have BK174:=n10_
      have BK175:=n11_
      have BK197:=n12_
      have BK204:=n13_
      have HB:=n14_
      clear n0_ n1_ n2_ n3_ n4_ n5_ n6_ n7_ n8_ n9_ n10_ n11_ n12_ n13_ n14_
      (try clear hb)
      (try clear hb2)
      (try clear hk)
      (try clear hi)
      refine hK.out _ _ ⟨(zP BK197.out 0).trans rfl,(zP BK197.out 1).trans rfl,(zP BK174.out 0).trans rfl,(zP BK174.out 1).trans rfl⟩ (fun hHeld => ?_)
      clear hK K
      refine norm_ (a':=?_) ?_ ?_
      rotate_left
      ·
       show Act.put _ (some 38) _ = _
       simp only [Act.put,zO,zEb,zFb,i64_w,i32_w]
       rfl
      refine pure_ (i:=4) (N:=some 39) (v:=?_) (a':=?_) #[true,true,true,true,true] rfl rfl (by kernel_rfl) (fun _ _ _ h => h) (Or.inl ⟨by rfl,?_⟩) ?_ ?_
      rotate_left
      ·
       intro w'
       go_simp
       with_reducible rfl
      rotate_left
      ·
       simp only [Act.put,zO,zEb,zFb,i64_w,i32_w]
       rfl
      refine done_ (by kernel_rfl) ?_
      try go_wp2
      have n0_:=zA (zH HO180.out)
      have n1_:=zA (zN HO183.out)
      have n2_:=zA (zH HO186.out)
      have n3_:=zA (zN HO189.out)
      have n4_:=zA (zH HO193.out)
      have n5_:=zA (zN HO196.out)
      have n6_:=zA (zH HO200.out)
      have n7_:=zA (zN HO203.out)
      have n8_:=zA (zH HO208.out)
      have n9_:=zA (zN HO211.out)
      have n10_:=zA (zI BK174.out)
      have n11_:=zA (zI BK175.out)
      have n12_:=zA (zI BK197.out)
      have n13_:=zA (zI BK204.out)
      have n14_:=zA (zJ HB.out)
      clear HO180
      clear HO183
      clear HO186
      clear HO189
      clear HO193
      clear HO196
      clear HO200
      clear HO203
      clear HO208
      clear HO211
      clear BK174
      clear BK175
      clear BK197
      clear BK204
      clear HB
      have HO180:=n0_
      have HO183:=n1_
      have HO186:=n2_
      have HO189:=n3_
      have HO193:=n4_
      have HO196:=n5_
      have HO200:=n6_
      have HO203:=n7_
      have HO208:=n8_
      have HO211:=n9_
      have BK174:=n10_
      have BK175:=n11_
      have BK197:=n12_
      have BK204:=n13_
      have HB:=n14_
      clear n0_ n1_ n2_ n3_ n4_ n5_ n6_ n7_ n8_ n9_ n10_ n11_ n12_ n13_ n14_
      refine start_ (n:=5) (S:=fun w' => w'.cell? ⟨gb204,0,none⟩ = some (.slice Ao92 t198.length co92) ∧ w'.cell? ⟨gb204,1,none⟩ = some (.slice Ao97 t201.length co97) ∧ w'.cell? ⟨gb175,0,none⟩ = some (.slice A1_0 l1_0.length c1_0) ∧ w'.cell? ⟨gb175,1,none⟩ = some (.slice A1_1 l1_1.length c1_1)) (ds:=[]) #[false,false,false,false,false] (by kernel_rfl) rfl rfl ⟨(zP BK204.out 0).trans rfl,(zP BK204.out 1).trans rfl,(zP BK175.out 0).trans rfl,(zP BK175.out 1).trans rfl⟩ (fun hHeld => ?_)
      generalize w104.drew = w105 at HO180 HO183 HO186 HO189 HO193 HO196 HO200 HO203 HO208 HO211 BK174 BK175 BK197 BK204 HB hHeld ⊢
      refine take_ (i:=0) (N:=some 40) (v:=?_) (a':=?_) #[true,false,false,false,false] rfl rfl (by kernel_rfl) (fun _ _ _ h => h) (Or.inl ⟨by rfl,?_⟩) hHeld ?_ ?_
      rotate_left
      ·
       rintro w' ⟨s0,s1,s2,s3⟩
       go_simp
       with_reducible rfl
      rotate_left
      ·
       simp only [Act.put,zO,zEb,zFb,i64_w,i32_w]
       rfl
      refine take_ (i:=1) (N:=some 41) (v:=?_) (a':=?_) #[true,true,false,false,false] rfl rfl (by kernel_rfl) (fun _ _ _ h => h) (Or.inl ⟨by rfl,?_⟩) hHeld ?_ ?_
      rotate_left
      ·
       rintro w' ⟨s0,s1,s2,s3⟩
       go_simp
       with_reducible rfl
      rotate_left
      ·
       simp only [Act.put,zO,zEb,zFb,i64_w,i32_w]
       rfl
      refine one_ (i:=2) (N:=some 42) #[true,true,true,false,false] rfl rfl (by kernel_rfl) (by decide) (fun K hK => ?_)
      refine goes_ Try.func32 (by kernel_rfl) rfl #[.agg #[.slice A1_0 l1_0.length c1_0,.slice A1_1 l1_1.length c1_1]] (by rfl) rfl rfl (by (try simp only [zCb,zMb,zNb]);first|done|rfl|(simp only [zLb,zDb];rfl)) ?_
      with_reducible refine (laws_toQuery.calls k _ _ l1_0 _ _ l1_1 t213 t216 _ ?side1 ?side2 ?side3 ?side4 A63.out).mono ?_
      (case side1 => repeat (first|exact (zKb HR1_0.out HB.out)|(with_reducible refine zBb ?_ _)|(with_reducible refine zAb ?_ _)|(with_reducible refine zX ?_)))
      (case side2 => exact HC1_0.out)
      (case side3 => repeat (first|exact (zKb HR1_1.out HB.out)|(with_reducible refine zBb ?_ _)|(with_reducible refine zAb ?_ _)|(with_reducible refine zX ?_)))
      (case side4 => exact HC1_1.out)
      rintro e w106 ⟨v214,v217,rfl,ho0,ho1,hb⟩
      refine ⟨_,rfl,?_⟩
      have n0_:=zA (zTb (by (with_reducible repeat (first|apply zE|apply zD|apply zH));exact HO180.out) (zW ho0) hb)
      have n1_:=zA (zS (zU (zU (Kd.S_old (by (with_reducible repeat (first|apply zM|apply zL|apply zN));exact HO183.out) hb) (zW ho0)) (Kd.S_base ho1)) (fun _ h_ => h_.1))
      have n2_:=zA (zTb (by (with_reducible repeat (first|apply zE|apply zD|apply zH));exact HO186.out) (zW ho0) hb)
      have n3_:=zA (zS (zU (zU (Kd.S_old (by (with_reducible repeat (first|apply zM|apply zL|apply zN));exact HO189.out) hb) (zW ho0)) (Kd.S_base ho1)) (fun _ h_ => h_.1))
      have n4_:=zA (zTb (by (with_reducible repeat (first|apply zE|apply zD|apply zH));exact HO193.out) (zW ho0) hb)
      have n5_:=zA (zS (zU (zU (Kd.S_old (by (with_reducible repeat (first|apply zM|apply zL|apply zN));exact HO196.out) hb) (zW ho0)) (Kd.S_base ho1)) (fun _ h_ => h_.1))
      have n6_:=zA (zTb (by (with_reducible repeat (first|apply zE|apply zD|apply zH));exact HO200.out) (zW ho0) hb)
      have n7_:=zA (zS (zU (zU (Kd.S_old (by (with_reducible repeat (first|apply zM|apply zL|apply zN));exact HO203.out) hb) (zW ho0)) (Kd.S_base ho1)) (fun _ h_ => h_.1))
      have n8_:=zA (zTb (by (with_reducible repeat (first|apply zE|apply zD|apply zH));exact HO208.out) (zW ho0) hb)
      have n9_:=zA (zS (zU (zU (Kd.S_old (by (with_reducible repeat (first|apply zM|apply zL|apply zN));exact HO211.out) hb) (zW ho0)) (Kd.S_base ho1)) (fun _ h_ => h_.1))
      have n10_:=zA (zHb (zQb (zQb (zQb (zQb (zQb ho0 (zOb (by (with_reducible repeat (first|apply zE|apply zD|apply zH));exact HO180.out))) (zOb (by (with_reducible repeat (first|apply zE|apply zD|apply zH));exact HO186.out))) (zOb (by (with_reducible repeat (first|apply zE|apply zD|apply zH));exact HO193.out))) (zOb (by (with_reducible repeat (first|apply zE|apply zD|apply zH));exact HO200.out))) (zOb (by (with_reducible repeat (first|apply zE|apply zD|apply zH));exact HO208.out))) (zT (by repeat (first|(with_reducible first|exact HB.out|apply zK|apply zC|apply zJ|refine zB ?_ GE174.out|refine zB ?_ GE175.out|refine zB ?_ GE197.out|refine zB ?_ GE204.out)|exact HB.out))))
      have n11_:=zA (zIb (zV (zV (zV (zV (zV (zV (zV (zV (zV (zV ho1 (zOb (by (with_reducible repeat (first|apply zE|apply zD|apply zH));exact HO180.out))) (Kd.S_lt (by (with_reducible repeat (first|apply zM|apply zL|apply zN));exact HO183.out))) (zOb (by (with_reducible repeat (first|apply zE|apply zD|apply zH));exact HO186.out))) (Kd.S_lt (by (with_reducible repeat (first|apply zM|apply zL|apply zN));exact HO189.out))) (zOb (by (with_reducible repeat (first|apply zE|apply zD|apply zH));exact HO193.out))) (Kd.S_lt (by (with_reducible repeat (first|apply zM|apply zL|apply zN));exact HO196.out))) (zOb (by (with_reducible repeat (first|apply zE|apply zD|apply zH));exact HO200.out))) (Kd.S_lt (by (with_reducible repeat (first|apply zM|apply zL|apply zN));exact HO203.out))) (zOb (by (with_reducible repeat (first|apply zE|apply zD|apply zH));exact HO208.out))) (Kd.S_lt (by (with_reducible repeat (first|apply zM|apply zL|apply zN));exact HO211.out))) (zT (by repeat (first|(with_reducible first|exact HB.out|apply zK|apply zC|apply zJ|refine zB ?_ GE174.out|refine zB ?_ GE175.out|refine zB ?_ GE197.out|refine zB ?_ GE204.out)|exact HB.out))))
      have n12_:=zA (zQ (g:=gb174) (o:=.cells #[.slice A0_0 l0_0.length c0_0,.slice A0_1 l0_1.length c0_1] 41 (0,0)) (by (with_reducible repeat (first|refine zF ?_ _|refine zI ?_|refine zG ?_ _));exact BK174.out) hb)
      have n13_:=zA (zQ (g:=gb175) (o:=.cells #[.slice A1_0 l1_0.length c1_0,.slice A1_1 l1_1.length c1_1] 41 (0,0)) (by (with_reducible repeat (first|refine zF ?_ _|refine zI ?_|refine zG ?_ _));exact BK175.out) hb)
      have n14_:=zA (zQ (g:=gb197) (o:=.cells #[.slice Ao84 t191.length co84,.slice Ao88 t194.length co88] 46 (0,0)) (by (with_reducible repeat (first|refine zF ?_ _|refine zI ?_|refine zG ?_ _));exact BK197.out) hb)
      have n15_:=zA (zQ (g:=gb204) (o:=.cells #[.slice Ao92 t198.length co92,.slice Ao97 t201.length co97] 46 (0,0)) (by (with_reducible repeat (first|refine zF ?_ _|refine zI ?_|refine zG ?_ _));exact BK204.out) hb)
      have n16_:=zA (zJb (by repeat (first|(with_reducible first|exact HB.out|apply zK|apply zC|apply zJ|refine zB ?_ GE174.out|refine zB ?_ GE175.out|refine zB ?_ GE197.out|refine zB ?_ GE204.out)|exact HB.out)) hb)
      clear HO180
      clear HO183
      clear HO186
      clear HO189
      clear HO193
      clear HO196
      clear HO200
      clear HO203
      clear HO208
      clear HO211
      clear BK174
      clear BK175
      clear BK197
      clear BK204
      clear HB
      have HO180:=n0_
      have HO183:=n1_
      have HO186:=n2_
      have HO189:=n3_
      have HO193:=n4_
      have HO196:=n5_
      have HO200:=n6_
      have HO203:=n7_
      have HO208:=n8_
      have HO211:=n9_
      have HO215:=n10_
      have HO218:=n11_
      have BK174:=n12_
      have BK175:=n13_
      have BK197:=n14_
      have BK204:=n15_
      have HB:=n16_
      clear n0_ n1_ n2_ n3_ n4_ n5_ n6_ n7_ n8_ n9_ n10_ n11_ n12_ n13_ n14_ n15_ n16_
      (try clear hb)
      (try clear hb2)
      (try clear hk)
      (try clear hi)
      (try clear ho0)
      (try clear ho1)
      obtain ⟨Ao107,co107,eo107⟩:=Kd.R_slice HO215.out
      (first|subst eo107|(injection eo107 with f1_ f2_ f3_;have f4_:=f1_.symm;have f5_:=f3_.symm;clear f1_ f2_ f3_;subst f4_;subst f5_))
      obtain ⟨Ao108,co108,eo108⟩:=Kd.S_slice HO218.out
      (first|subst eo108|(injection eo108 with f1_ f2_ f3_;have f4_:=f1_.symm;have f5_:=f3_.symm;clear f1_ f2_ f3_;subst f4_;subst f5_))
      refine hK.out _ _ ⟨(zP BK204.out 0).trans rfl,(zP BK204.out 1).trans rfl,(zP BK175.out 0).trans rfl,(zP BK175.out 1).trans rfl⟩ (fun hHeld => ?_)
      clear hK K
      refine norm_ (a':=?_) ?_ ?_
      rotate_left
      ·
       show Act.put _ (some 42) _ = _
       simp only [Act.put,zO,zEb,zFb,i64_w,i32_w]
       rfl
      refine one_ (i:=3) (N:=some 43) #[true,true,true,true,false] rfl rfl (by kernel_rfl) (by decide) (fun K hK => ?_)
      refine goes_ Try.func34 (by kernel_rfl) rfl #[.agg #[.slice Ao92 t198.length co92,.slice Ao97 t201.length co97],.agg #[.slice Ao107 t213.length co107,.slice Ao108 t216.length co108]] (by rfl) rfl rfl (by (try simp only [zCb,zMb,zNb]);first|done|rfl|(simp only [zLb,zDb];rfl)) ?_
      with_reducible refine (laws_eqQuery.calls k _ _ t198 _ _ t201 _ _ t213 _ _ t216 true _ ?side1 ?side2 ?side3 ?side4 ?side5 ?side6 ?side7 ?side8 A64.out).mono ?_
      (case side1 => repeat (first|exact (Kd.R_reads' HO200.out).2.2|(with_reducible refine zBb ?_ _)|(with_reducible refine zAb ?_ _)|(with_reducible refine zX ?_)))
      (case side2 => exact (Kd.R_reads' HO200.out).2.1)
      (case side3 => repeat (first|exact (Kd.S_reads' HO203.out).2.2|(with_reducible refine zBb ?_ _)|(with_reducible refine zAb ?_ _)|(with_reducible refine zX ?_)))
      (case side4 => exact (Kd.S_reads' HO203.out).2.1)
      (case side5 => repeat (first|exact (Kd.R_reads' HO215.out).2.2|(with_reducible refine zBb ?_ _)|(with_reducible refine zAb ?_ _)|(with_reducible refine zX ?_)))
      (case side6 => exact (Kd.R_reads' HO215.out).2.1)
      (case side7 => repeat (first|exact (Kd.S_reads' HO218.out).2.2|(with_reducible refine zBb ?_ _)|(with_reducible refine zAb ?_ _)|(with_reducible refine zX ?_)))
      (case side8 => exact (Kd.S_reads' HO218.out).2.1)
      rintro e w109 ⟨rfl,hb⟩
      refine ⟨_,rfl,?_⟩
      have n0_:=zA (zZ (by (with_reducible repeat (first|apply zE|apply zD|apply zH));exact HO180.out) hb)
      have n1_:=zA (zY (by (with_reducible repeat (first|apply zM|apply zL|apply zN));exact HO183.out) hb)
      have n2_:=zA (zZ (by (with_reducible repeat (first|apply zE|apply zD|apply zH));exact HO186.out) hb)
      have n3_:=zA (zY (by (with_reducible repeat (first|apply zM|apply zL|apply zN));exact HO189.out) hb)
      have n4_:=zA (zZ (by (with_reducible repeat (first|apply zE|apply zD|apply zH));exact HO193.out) hb)
      have n5_:=zA (zY (by (with_reducible repeat (first|apply zM|apply zL|apply zN));exact HO196.out) hb)
      have n6_:=zA (zZ (by (with_reducible repeat (first|apply zE|apply zD|apply zH));exact HO200.out) hb)
      have n7_:=zA (zY (by (with_reducible repeat (first|apply zM|apply zL|apply zN));exact HO203.out) hb)
      have n8_:=zA (zZ (by (with_reducible repeat (first|apply zE|apply zD|apply zH));exact HO208.out) hb)
      have n9_:=zA (zY (by (with_reducible repeat (first|apply zM|apply zL|apply zN));exact HO211.out) hb)
      have n10_:=zA (zZ (by (with_reducible repeat (first|apply zE|apply zD|apply zH));exact HO215.out) hb)
      have n11_:=zA (zY (by (with_reducible repeat (first|apply zM|apply zL|apply zN));exact HO218.out) hb)
      have n12_:=zA (zQ (g:=gb174) (o:=.cells #[.slice A0_0 l0_0.length c0_0,.slice A0_1 l0_1.length c0_1] 41 (0,0)) (by (with_reducible repeat (first|refine zF ?_ _|refine zI ?_|refine zG ?_ _));exact BK174.out) hb)
      have n13_:=zA (zQ (g:=gb175) (o:=.cells #[.slice A1_0 l1_0.length c1_0,.slice A1_1 l1_1.length c1_1] 41 (0,0)) (by (with_reducible repeat (first|refine zF ?_ _|refine zI ?_|refine zG ?_ _));exact BK175.out) hb)
      have n14_:=zA (zQ (g:=gb197) (o:=.cells #[.slice Ao84 t191.length co84,.slice Ao88 t194.length co88] 46 (0,0)) (by (with_reducible repeat (first|refine zF ?_ _|refine zI ?_|refine zG ?_ _));exact BK197.out) hb)
      have n15_:=zA (zQ (g:=gb204) (o:=.cells #[.slice Ao92 t198.length co92,.slice Ao97 t201.length co97] 46 (0,0)) (by (with_reducible repeat (first|refine zF ?_ _|refine zI ?_|refine zG ?_ _));exact BK204.out) hb)
      have n16_:=zA (zJb (by repeat (first|(with_reducible first|exact HB.out|apply zK|apply zC|apply zJ|refine zB ?_ GE174.out|refine zB ?_ GE175.out|refine zB ?_ GE197.out|refine zB ?_ GE204.out)|exact HB.out)) hb)
      clear HO180
      clear HO183
      clear HO186
      clear HO189
      clear HO193
      clear HO196
      clear HO200
      clear HO203
      clear HO208
      clear HO211
      clear HO215
      clear HO218
      clear BK174
      clear BK175
      clear BK197
      clear BK204
      clear HB
      have HO180:=n0_
      have HO183:=n1_
      have HO186:=n2_
      have HO189:=n3_
      have HO193:=n4_
      have HO196:=n5_
      have HO200:=n6_
      have HO203:=n7_
      have HO208:=n8_
      have HO211:=n9_
      have HO215:=n10_
      have HO218:=n11_
      have BK174:=n12_
      have BK175:=n13_
      have BK197:=n14_
      have BK204:=n15_
      have HB:=n16_
      clear n0_ n1_ n2_ n3_ n4_ n5_ n6_ n7_ n8_ n9_ n10_ n11_ n12_ n13_ n14_ n15_ n16_
      (try clear hb)
      (try clear hb2)
      (try clear hk)
      (try clear hi)
      refine hK.out _ _ ⟨(zP BK204.out 0).trans rfl,(zP BK204.out 1).trans rfl,(zP BK175.out 0).trans rfl,(zP BK175.out 1).trans rfl⟩ (fun hHeld => ?_)
      clear hK K
      refine norm_ (a':=?_) ?_ ?_
      rotate_left
      ·
       show Act.put _ (some 43) _ = _
       simp only [Act.put,zO,zEb,zFb,i64_w,i32_w]
       rfl
      refine pure_ (i:=4) (N:=some 44) (v:=?_) (a':=?_) #[true,true,true,true,true] rfl rfl (by kernel_rfl) (fun _ _ _ h => h) (Or.inl ⟨by rfl,?_⟩) ?_ ?_
      rotate_left
      ·
       intro w'
       go_simp
       with_reducible rfl
      rotate_left
      ·
       simp only [Act.put,zO,zEb,zFb,i64_w,i32_w]
       rfl
      refine done_ (by kernel_rfl) ?_
      try go_wp2
      go_ret
      exact ⟨by first|rfl|(simp [errW_none,errW_some] <;> rfl)|(simp [*,errW_none,errW_some] <;> rfl),by repeat (first|(with_reducible first|exact HB.out|apply zK|apply zC|apply zJ|refine zB ?_ GE174.out|refine zB ?_ GE175.out|refine zB ?_ GE197.out|refine zB ?_ GE204.out)|exact HB.out)⟩
     ·
      replace c65:=Bool.eq_false_iff.mpr c65
      subst c65
      have H1 : (some false) = some r:=by rw [if_neg (show ¬ (false = true) by decide)] at H;exact H
      clear H
      have H:=H1
      clear H1
      obtain rfl:=Option.some.inj H
      go_enter Try.func6,Try.ntmps6
      try go_wp2_with (first|((with_reducible refine gate_dst (N:=2) rfl ?_);refine box_event ?hg (N:=2) ?hd (cs:=#[.slice A0_0 l0_0.length c0_0,.slice A0_1 l0_1.length c0_1]) (t:=41) ?hr ?_;(case hd => rfl);(case hg => rfl);(case hr => first|(go_simp;done)|(go_simp;rfl));intro gb174 hg w110 hbox hb;have n0_:=zA (zJb (by repeat (first|(with_reducible first|exact HB.out|apply zK|apply zC|apply zJ)|exact HB.out)) hb);have n1_:=zA (hbox);have n2_:=zA ((by rw [hg];exact (zT (by repeat (first|(with_reducible first|exact HB.out|apply zK|apply zC|apply zJ)|exact HB.out))) : w.heap.size ≤ gb174));have n3_:=zA ((by rw [hg];exact (zT (by repeat (first|(with_reducible first|exact HB.out|apply zK|apply zC|apply zJ)|exact HB.out))) : w.heap.size ≤ gb174));clear HB;have HB:=n0_;have BK174:=n1_;have GW174:=n2_;have GE174:=n3_;clear n0_ n1_ n2_ n3_;clear hb hbox hg)|((with_reducible refine gate_dst (N:=3) rfl ?_);refine box_event ?hg (N:=3) ?hd (cs:=#[.slice A1_0 l1_0.length c1_0,.slice A1_1 l1_1.length c1_1]) (t:=41) ?hr ?_;(case hd => rfl);(case hg => rfl);(case hr => first|(go_simp;done)|(go_simp;rfl));intro gb175 hg w111 hbox hb;have n0_:=zA (zQ (g:=gb174) (o:=.cells #[.slice A0_0 l0_0.length c0_0,.slice A0_1 l0_1.length c0_1] 41 (0,0)) (by (with_reducible repeat (first|refine zF ?_ _|refine zI ?_|refine zG ?_ _));exact BK174.out) hb);have n1_:=zA (zJb (by repeat (first|(with_reducible first|exact HB.out|apply zK|apply zC|apply zJ|refine zB ?_ GE174.out)|exact HB.out)) hb);have n2_:=zA (hbox);have n3_:=zA ((by rw [hg];exact (zT (by repeat (first|(with_reducible first|exact HB.out|apply zK|apply zC|apply zJ|refine zB ?_ GE174.out)|exact HB.out))) : w.heap.size ≤ gb175));have n4_:=zA ((by rw [hg];exact (zT (by repeat (first|(with_reducible first|exact HB.out|apply zK|apply zC|apply zJ|refine zB ?_ GE174.out)|exact HB.out))) : w.heap.size ≤ gb175));have n5_:=zA ((by rw [hg];exact Nat.ne_of_lt (blk_lt (g:=gb174) (o:=.cells #[.slice A0_0 l0_0.length c0_0,.slice A0_1 l0_1.length c0_1] 41 (0,0)) (by (with_reducible repeat (first|refine zF ?_ _|refine zI ?_|refine zG ?_ _));exact BK174.out)) : gb174 ≠ gb175));have n6_:=zA ((by rw [hg];exact Nat.ne_of_gt (blk_lt (g:=gb174) (o:=.cells #[.slice A0_0 l0_0.length c0_0,.slice A0_1 l0_1.length c0_1] 41 (0,0)) (by (with_reducible repeat (first|refine zF ?_ _|refine zI ?_|refine zG ?_ _));exact BK174.out)) : gb175 ≠ gb174));clear BK174;clear HB;have BK174:=n0_;have HB:=n1_;have BK175:=n2_;have GW175:=n3_;have GE175:=n4_;have NB174_175:=n5_;have NB175_174:=n6_;clear n0_ n1_ n2_ n3_ n4_ n5_ n6_;clear hb hbox hg;have hnb112:=NB174_175.out;have hnc112:=NB175_174.out;have hcz113_0 : w111.cell? ⟨gb174,0,none⟩ = some (.slice A0_0 l0_0.length c0_0):=(zP BK174.out 0).trans rfl;have hcz113_1 : w111.cell? ⟨gb174,1,none⟩ = some (.slice A0_1 l0_1.length c0_1):=(zP BK174.out 1).trans rfl;have hfz113_0:=blk_frozen BK174.out 0;have hfz113_1:=blk_frozen BK174.out 1)|((with_reducible refine gate_callee (f:=30) rfl ?_);refine goesL_ (some 12) rfl rfl Try.func30 (by kernel_rfl) rfl #[.agg #[.slice A0_0 l0_0.length c0_0,.slice A0_1 l0_1.length c0_1],.int .i64 1048576] rfl (by (try simp only [zCb,zMb,zNb]);first|done|rfl|(simp only [zLb,zDb];rfl)) ?_;(with_reducible refine (laws_szQuery.calls k _ _ l0_0 _ _ l0_1 1048576 t176 _ ?side1 ?side2 ?side3 ?side4 A3.out).mono ?_);(case side1 => repeat (first|exact (zKb HR0_0.out HB.out)|(with_reducible refine zBb ?_ _)|(with_reducible refine zAb ?_ _)|(with_reducible refine zX ?_)));(case side2 => exact HC0_0.out);(case side3 => repeat (first|exact (zKb HR0_1.out HB.out)|(with_reducible refine zBb ?_ _)|(with_reducible refine zAb ?_ _)|(with_reducible refine zX ?_)));(case side4 => exact HC0_1.out);rintro e w114 ⟨rfl,hb⟩;refine ⟨_,rfl,?_⟩;have n0_:=zA (zQ (g:=gb174) (o:=.cells #[.slice A0_0 l0_0.length c0_0,.slice A0_1 l0_1.length c0_1] 41 (0,0)) (by (with_reducible repeat (first|refine zF ?_ _|refine zI ?_|refine zG ?_ _));exact BK174.out) hb);have n1_:=zA (zQ (g:=gb175) (o:=.cells #[.slice A1_0 l1_0.length c1_0,.slice A1_1 l1_1.length c1_1] 41 (0,0)) (by (with_reducible repeat (first|refine zF ?_ _|refine zI ?_|refine zG ?_ _));exact BK175.out) hb);have n2_:=zA (zJb (by repeat (first|(with_reducible first|exact HB.out|apply zK|apply zC|apply zJ|refine zB ?_ GE174.out|refine zB ?_ GE175.out)|exact HB.out)) hb);clear BK174;clear BK175;clear HB;have BK174:=n0_;have BK175:=n1_;have HB:=n2_;clear n0_ n1_ n2_;(try clear hb);(try clear hb2);(try clear hk);(try clear hi);have hcz115_0 : w114.cell? ⟨gb175,0,none⟩ = some (.slice A1_0 l1_0.length c1_0):=(zP BK175.out 0).trans rfl;have hcz115_1 : w114.cell? ⟨gb175,1,none⟩ = some (.slice A1_1 l1_1.length c1_1):=(zP BK175.out 1).trans rfl;have hfz115_0:=blk_frozen BK175.out 0;have hfz115_1:=blk_frozen BK175.out 1)|((with_reducible refine gate_callee (f:=30) rfl ?_);refine goesL_ (some 17) rfl rfl Try.func30 (by kernel_rfl) rfl #[.agg #[.slice A1_0 l1_0.length c1_0,.slice A1_1 l1_1.length c1_1],.int .i64 t176] rfl (by (try simp only [zCb,zMb,zNb]);first|done|rfl|(simp only [zLb,zDb];rfl)) ?_;(with_reducible refine (laws_szQuery.calls k _ _ l1_0 _ _ l1_1 t176 t177 _ ?side1 ?side2 ?side3 ?side4 A10.out).mono ?_);(case side1 => repeat (first|exact (zKb HR1_0.out HB.out)|(with_reducible refine zBb ?_ _)|(with_reducible refine zAb ?_ _)|(with_reducible refine zX ?_)));(case side2 => exact HC1_0.out);(case side3 => repeat (first|exact (zKb HR1_1.out HB.out)|(with_reducible refine zBb ?_ _)|(with_reducible refine zAb ?_ _)|(with_reducible refine zX ?_)));(case side4 => exact HC1_1.out);rintro e w116 ⟨rfl,hb⟩;refine ⟨_,rfl,?_⟩;have n0_:=zA (zQ (g:=gb174) (o:=.cells #[.slice A0_0 l0_0.length c0_0,.slice A0_1 l0_1.length c0_1] 41 (0,0)) (by (with_reducible repeat (first|refine zF ?_ _|refine zI ?_|refine zG ?_ _));exact BK174.out) hb);have n1_:=zA (zQ (g:=gb175) (o:=.cells #[.slice A1_0 l1_0.length c1_0,.slice A1_1 l1_1.length c1_1] 41 (0,0)) (by (with_reducible repeat (first|refine zF ?_ _|refine zI ?_|refine zG ?_ _));exact BK175.out) hb);have n2_:=zA (zJb (by repeat (first|(with_reducible first|exact HB.out|apply zK|apply zC|apply zJ|refine zB ?_ GE174.out|refine zB ?_ GE175.out)|exact HB.out)) hb);clear BK174;clear BK175;clear HB;have BK174:=n0_;have BK175:=n1_;have HB:=n2_;clear n0_ n1_ n2_;(try clear hb);(try clear hb2);(try clear hk);(try clear hi)))
      have n0_:=zA (zI BK174.out)
      have n1_:=zA (zI BK175.out)
      have n2_:=zA (zJ HB.out)
      clear BK174
      clear BK175
      clear HB
      have BK174:=n0_
      have BK175:=n1_
      have HB:=n2_
      clear n0_ n1_ n2_
      refine start_ (n:=6) (S:=fun w' => w'.cell? ⟨gb174,0,none⟩ = some (.slice A0_0 l0_0.length c0_0) ∧ w'.cell? ⟨gb174,1,none⟩ = some (.slice A0_1 l0_1.length c0_1) ∧ w'.cell? ⟨gb175,0,none⟩ = some (.slice A1_0 l1_0.length c1_0) ∧ w'.cell? ⟨gb175,1,none⟩ = some (.slice A1_1 l1_1.length c1_1)) (ds:=[]) #[false,false,false,false,false,false] (by kernel_rfl) rfl rfl ⟨(zP BK174.out 0).trans rfl,(zP BK174.out 1).trans rfl,(zP BK175.out 0).trans rfl,(zP BK175.out 1).trans rfl⟩ (fun hHeld => ?_)
      generalize w116.drew = w117 at BK174 BK175 HB hHeld ⊢
      refine take_ (i:=0) (N:=some 20) (v:=?_) (a':=?_) #[true,false,false,false,false,false] rfl rfl (by kernel_rfl) (fun _ _ _ h => h) (Or.inl ⟨by rfl,?_⟩) hHeld ?_ ?_
      rotate_left
      ·
       rintro w' ⟨s0,s1,s2,s3⟩
       go_simp
       with_reducible rfl
      rotate_left
      ·
       simp only [Act.put,zO,zEb,zFb,i64_w,i32_w]
       rfl
      refine take_ (i:=2) (N:=some 22) (v:=?_) (a':=?_) #[true,false,true,false,false,false] rfl rfl (by kernel_rfl) (fun _ _ _ h => h) (Or.inl ⟨by rfl,?_⟩) hHeld ?_ ?_
      rotate_left
      ·
       rintro w' ⟨s0,s1,s2,s3⟩
       go_simp
       with_reducible rfl
      rotate_left
      ·
       simp only [Act.put,zO,zEb,zFb,i64_w,i32_w]
       rfl
      refine one_ (i:=1) (N:=some 21) #[true,true,true,false,false,false] rfl rfl (by kernel_rfl) (by decide) (fun K hK => ?_)
      refine goes_ Try.func32 (by kernel_rfl) rfl #[.agg #[.slice A0_0 l0_0.length c0_0,.slice A0_1 l0_1.length c0_1]] (by rfl) rfl rfl (by (try simp only [zCb,zMb,zNb]);first|done|rfl|(simp only [zLb,zDb];rfl)) ?_
      with_reducible refine (laws_toQuery.calls k _ _ l0_0 _ _ l0_1 t178 t181 _ ?side1 ?side2 ?side3 ?side4 A19.out).mono ?_
      (case side1 => repeat (first|exact (zKb HR0_0.out HB.out)|(with_reducible refine zBb ?_ _)|(with_reducible refine zAb ?_ _)|(with_reducible refine zX ?_)))
      (case side2 => exact HC0_0.out)
      (case side3 => repeat (first|exact (zKb HR0_1.out HB.out)|(with_reducible refine zBb ?_ _)|(with_reducible refine zAb ?_ _)|(with_reducible refine zX ?_)))
      (case side4 => exact HC0_1.out)
      rintro e w118 ⟨v179,v182,rfl,ho0,ho1,hb⟩
      refine ⟨_,rfl,?_⟩
      have n0_:=zA (zHb ho0 (zT (by repeat (first|(with_reducible first|exact HB.out|apply zK|apply zC|apply zJ|refine zB ?_ GE174.out|refine zB ?_ GE175.out)|exact HB.out))))
      have n1_:=zA (zIb ho1 (zT (by repeat (first|(with_reducible first|exact HB.out|apply zK|apply zC|apply zJ|refine zB ?_ GE174.out|refine zB ?_ GE175.out)|exact HB.out))))
      have n2_:=zA (zQ (g:=gb174) (o:=.cells #[.slice A0_0 l0_0.length c0_0,.slice A0_1 l0_1.length c0_1] 41 (0,0)) (by (with_reducible repeat (first|refine zF ?_ _|refine zI ?_|refine zG ?_ _));exact BK174.out) hb)
      have n3_:=zA (zQ (g:=gb175) (o:=.cells #[.slice A1_0 l1_0.length c1_0,.slice A1_1 l1_1.length c1_1] 41 (0,0)) (by (with_reducible repeat (first|refine zF ?_ _|refine zI ?_|refine zG ?_ _));exact BK175.out) hb)
      have n4_:=zA (zJb (by repeat (first|(with_reducible first|exact HB.out|apply zK|apply zC|apply zJ|refine zB ?_ GE174.out|refine zB ?_ GE175.out)|exact HB.out)) hb)
      clear BK174
      clear BK175
      clear HB
      have HO180:=n0_
      have HO183:=n1_
      have BK174:=n2_
      have BK175:=n3_
      have HB:=n4_
      clear n0_ n1_ n2_ n3_ n4_
      (try clear hb)
      (try clear hb2)
      (try clear hk)
      (try clear hi)
      (try clear ho0)
      (try clear ho1)
      refine hK.out _ _ ⟨(zP BK174.out 0).trans rfl,(zP BK174.out 1).trans rfl,(zP BK175.out 0).trans rfl,(zP BK175.out 1).trans rfl⟩ (fun hHeld => ?_)
      clear hK K
      refine norm_ (a':=?_) ?_ ?_
      rotate_left
      ·
       show Act.put _ (some 21) _ = _
       simp only [Act.put,zO,zEb,zFb,i64_w,i32_w]
       rfl
      refine one_ (i:=3) (N:=some 23) #[true,true,true,true,false,false] rfl rfl (by kernel_rfl) (by decide) (fun K hK => ?_)
      refine goes_ Try.func32 (by kernel_rfl) rfl #[.agg #[.slice A1_0 l1_0.length c1_0,.slice A1_1 l1_1.length c1_1]] (by rfl) rfl rfl (by (try simp only [zCb,zMb,zNb]);first|done|rfl|(simp only [zLb,zDb];rfl)) ?_
      with_reducible refine (laws_toQuery.calls k _ _ l1_0 _ _ l1_1 t184 t187 _ ?side1 ?side2 ?side3 ?side4 A20.out).mono ?_
      (case side1 => repeat (first|exact (zKb HR1_0.out HB.out)|(with_reducible refine zBb ?_ _)|(with_reducible refine zAb ?_ _)|(with_reducible refine zX ?_)))
      (case side2 => exact HC1_0.out)
      (case side3 => repeat (first|exact (zKb HR1_1.out HB.out)|(with_reducible refine zBb ?_ _)|(with_reducible refine zAb ?_ _)|(with_reducible refine zX ?_)))
      (case side4 => exact HC1_1.out)
      rintro e w119 ⟨v185,v188,rfl,ho0,ho1,hb⟩
      refine ⟨_,rfl,?_⟩
      have n0_:=zA (zTb (by (with_reducible repeat (first|apply zE|apply zD|apply zH));exact HO180.out) (zW ho0) hb)
      have n1_:=zA (zS (zU (zU (Kd.S_old (by (with_reducible repeat (first|apply zM|apply zL|apply zN));exact HO183.out) hb) (zW ho0)) (Kd.S_base ho1)) (fun _ h_ => h_.1))
      have n2_:=zA (zHb (zQb ho0 (zOb (by (with_reducible repeat (first|apply zE|apply zD|apply zH));exact HO180.out))) (zT (by repeat (first|(with_reducible first|exact HB.out|apply zK|apply zC|apply zJ|refine zB ?_ GE174.out|refine zB ?_ GE175.out)|exact HB.out))))
      have n3_:=zA (zIb (zV (zV ho1 (zOb (by (with_reducible repeat (first|apply zE|apply zD|apply zH));exact HO180.out))) (Kd.S_lt (by (with_reducible repeat (first|apply zM|apply zL|apply zN));exact HO183.out))) (zT (by repeat (first|(with_reducible first|exact HB.out|apply zK|apply zC|apply zJ|refine zB ?_ GE174.out|refine zB ?_ GE175.out)|exact HB.out))))
      have n4_:=zA (zQ (g:=gb174) (o:=.cells #[.slice A0_0 l0_0.length c0_0,.slice A0_1 l0_1.length c0_1] 41 (0,0)) (by (with_reducible repeat (first|refine zF ?_ _|refine zI ?_|refine zG ?_ _));exact BK174.out) hb)
      have n5_:=zA (zQ (g:=gb175) (o:=.cells #[.slice A1_0 l1_0.length c1_0,.slice A1_1 l1_1.length c1_1] 41 (0,0)) (by (with_reducible repeat (first|refine zF ?_ _|refine zI ?_|refine zG ?_ _));exact BK175.out) hb)
      have n6_:=zA (zJb (by repeat (first|(with_reducible first|exact HB.out|apply zK|apply zC|apply zJ|refine zB ?_ GE174.out|refine zB ?_ GE175.out)|exact HB.out)) hb)
      clear HO180
      clear HO183
      clear BK174
      clear BK175
      clear HB
      have HO180:=n0_
      have HO183:=n1_
      have HO186:=n2_
      have HO189:=n3_
      have BK174:=n4_
      have BK175:=n5_
      have HB:=n6_
      clear n0_ n1_ n2_ n3_ n4_ n5_ n6_
      (try clear hb)
      (try clear hb2)
      (try clear hk)
      (try clear hi)
      (try clear ho0)
      (try clear ho1)
      obtain ⟨Ao120,co120,eo120⟩:=Kd.R_slice HO180.out
      (first|subst eo120|(injection eo120 with f1_ f2_ f3_;have f4_:=f1_.symm;have f5_:=f3_.symm;clear f1_ f2_ f3_;subst f4_;subst f5_))
      obtain ⟨Ao121,co121,eo121⟩:=Kd.S_slice HO183.out
      (first|subst eo121|(injection eo121 with f1_ f2_ f3_;have f4_:=f1_.symm;have f5_:=f3_.symm;clear f1_ f2_ f3_;subst f4_;subst f5_))
      obtain ⟨Ao122,co122,eo122⟩:=Kd.R_slice HO186.out
      (first|subst eo122|(injection eo122 with f1_ f2_ f3_;have f4_:=f1_.symm;have f5_:=f3_.symm;clear f1_ f2_ f3_;subst f4_;subst f5_))
      obtain ⟨Ao123,co123,eo123⟩:=Kd.S_slice HO189.out
      (first|subst eo123|(injection eo123 with f1_ f2_ f3_;have f4_:=f1_.symm;have f5_:=f3_.symm;clear f1_ f2_ f3_;subst f4_;subst f5_))
      refine hK.out _ _ ⟨(zP BK174.out 0).trans rfl,(zP BK174.out 1).trans rfl,(zP BK175.out 0).trans rfl,(zP BK175.out 1).trans rfl⟩ (fun hHeld => ?_)
      clear hK K
      refine norm_ (a':=?_) ?_ ?_
      rotate_left
      ·
       show Act.put _ (some 23) _ = _
       simp only [Act.put,zO,zEb,zFb,i64_w,i32_w]
       rfl
      refine one_ (i:=4) (N:=some 24) #[true,true,true,true,true,false] rfl rfl (by kernel_rfl) (by decide) (fun K hK => ?_)
      refine goes_ Try.func31 (by kernel_rfl) rfl #[.agg #[.slice Ao120 t178.length co120,.slice Ao121 t181.length co121],.agg #[.slice Ao122 t184.length co122,.slice Ao123 t187.length co123]] (by rfl) rfl rfl (by (try simp only [zCb,zMb,zNb]);first|done|rfl|(simp only [zLb,zDb];rfl)) ?_
      with_reducible refine (spec_EqualQueries.calls k _ _ t178 _ _ t181 _ _ t184 _ _ t187 t190 _ ?side1 ?side2 ?side3 ?side4 ?side5 ?side6 ?side7 ?side8 A21.out).mono ?_
      (case side1 => repeat (first|exact (Kd.R_reads' HO180.out).2.2|(with_reducible refine zBb ?_ _)|(with_reducible refine zAb ?_ _)|(with_reducible refine zX ?_)))
      (case side2 => exact (Kd.R_reads' HO180.out).2.1)
      (case side3 => repeat (first|exact (Kd.S_reads' HO183.out).2.2|(with_reducible refine zBb ?_ _)|(with_reducible refine zAb ?_ _)|(with_reducible refine zX ?_)))
      (case side4 => exact (Kd.S_reads' HO183.out).2.1)
      (case side5 => repeat (first|exact (Kd.R_reads' HO186.out).2.2|(with_reducible refine zBb ?_ _)|(with_reducible refine zAb ?_ _)|(with_reducible refine zX ?_)))
      (case side6 => exact (Kd.R_reads' HO186.out).2.1)
      (case side7 => repeat (first|exact (Kd.S_reads' HO189.out).2.2|(with_reducible refine zBb ?_ _)|(with_reducible refine zAb ?_ _)|(with_reducible refine zX ?_)))
      (case side8 => exact (Kd.S_reads' HO189.out).2.1)
      rintro e w124 ⟨rfl,hb⟩
      refine ⟨_,rfl,?_⟩
      have n0_:=zA (zZ (by (with_reducible repeat (first|apply zE|apply zD|apply zH));exact HO180.out) hb)
      have n1_:=zA (zY (by (with_reducible repeat (first|apply zM|apply zL|apply zN));exact HO183.out) hb)
      have n2_:=zA (zZ (by (with_reducible repeat (first|apply zE|apply zD|apply zH));exact HO186.out) hb)
      have n3_:=zA (zY (by (with_reducible repeat (first|apply zM|apply zL|apply zN));exact HO189.out) hb)
      have n4_:=zA (zQ (g:=gb174) (o:=.cells #[.slice A0_0 l0_0.length c0_0,.slice A0_1 l0_1.length c0_1] 41 (0,0)) (by (with_reducible repeat (first|refine zF ?_ _|refine zI ?_|refine zG ?_ _));exact BK174.out) hb)
      have n5_:=zA (zQ (g:=gb175) (o:=.cells #[.slice A1_0 l1_0.length c1_0,.slice A1_1 l1_1.length c1_1] 41 (0,0)) (by (with_reducible repeat (first|refine zF ?_ _|refine zI ?_|refine zG ?_ _));exact BK175.out) hb)
      have n6_:=zA (zJb (by repeat (first|(with_reducible first|exact HB.out|apply zK|apply zC|apply zJ|refine zB ?_ GE174.out|refine zB ?_ GE175.out)|exact HB.out)) hb)
      clear HO180
      clear HO183
      clear HO186
      clear HO189
      clear BK174
      clear BK175
      clear HB
      have HO180:=n0_
      have HO183:=n1_
      have HO186:=n2_
      have HO189:=n3_
      have BK174:=n4_
      have BK175:=n5_
      have HB:=n6_
      clear n0_ n1_ n2_ n3_ n4_ n5_ n6_
      (try clear hb)
      (try clear hb2)
      (try clear hk)
      (try clear hi)
      refine hK.out _ _ ⟨(zP BK174.out 0).trans rfl,(zP BK174.out 1).trans rfl,(zP BK175.out 0).trans rfl,(zP BK175.out 1).trans rfl⟩ (fun hHeld => ?_)
      clear hK K
      refine norm_ (a':=?_) ?_ ?_
      rotate_left
      ·
       show Act.put _ (some 24) _ = _
       simp only [Act.put,zO,zEb,zFb,i64_w,i32_w]
       rfl
      refine pure_ (i:=5) (N:=some 6) (v:=?_) (a':=?_) #[true,true,true,true,true,true] rfl rfl (by kernel_rfl) (fun _ _ _ h => h) (Or.inl ⟨by rfl,?_⟩) ?_ ?_
      rotate_left
      ·
       intro w'
       go_simp
       with_reducible rfl
      rotate_left
      ·
       simp only [Act.put,zO,zEb,zFb,i64_w,i32_w]
       rfl
      refine done_ (by kernel_rfl) ?_
      have hcz125_0 : w124.cell? ⟨gb174,0,none⟩ = some (.slice A0_0 l0_0.length c0_0):=(zP BK174.out 0).trans rfl
      have hcz125_1 : w124.cell? ⟨gb174,1,none⟩ = some (.slice A0_1 l0_1.length c0_1):=(zP BK174.out 1).trans rfl
      have hfz125_0:=blk_frozen BK174.out 0
      have hfz125_1:=blk_frozen BK174.out 1
      try go_wp2_with (first|((with_reducible refine gate_callee (f:=32) rfl ?_);refine goesL_ (some 26) rfl rfl Try.func32 (by kernel_rfl) rfl #[.agg #[.slice A0_0 l0_0.length c0_0,.slice A0_1 l0_1.length c0_1]] rfl (by (try simp only [zCb,zMb,zNb]);first|done|rfl|(simp only [zLb,zDb];rfl)) ?_;(with_reducible refine (laws_toQuery.calls k _ _ l0_0 _ _ l0_1 t191 t194 _ ?side1 ?side2 ?side3 ?side4 A22.out).mono ?_);(case side1 => repeat (first|exact (zKb HR0_0.out HB.out)|(with_reducible refine zBb ?_ _)|(with_reducible refine zAb ?_ _)|(with_reducible refine zX ?_)));(case side2 => exact HC0_0.out);(case side3 => repeat (first|exact (zKb HR0_1.out HB.out)|(with_reducible refine zBb ?_ _)|(with_reducible refine zAb ?_ _)|(with_reducible refine zX ?_)));(case side4 => exact HC0_1.out);rintro e w126 ⟨v192,v195,rfl,ho0,ho1,hb⟩;refine ⟨_,rfl,?_⟩;have n0_:=zA (zTb (by (with_reducible repeat (first|apply zE|apply zD|apply zH));exact HO180.out) (zW ho0) hb);have n1_:=zA (zS (zU (zU (Kd.S_old (by (with_reducible repeat (first|apply zM|apply zL|apply zN));exact HO183.out) hb) (zW ho0)) (Kd.S_base ho1)) (fun _ h_ => h_.1));have n2_:=zA (zTb (by (with_reducible repeat (first|apply zE|apply zD|apply zH));exact HO186.out) (zW ho0) hb);have n3_:=zA (zS (zU (zU (Kd.S_old (by (with_reducible repeat (first|apply zM|apply zL|apply zN));exact HO189.out) hb) (zW ho0)) (Kd.S_base ho1)) (fun _ h_ => h_.1));have n4_:=zA (zHb (zQb (zQb ho0 (zOb (by (with_reducible repeat (first|apply zE|apply zD|apply zH));exact HO180.out))) (zOb (by (with_reducible repeat (first|apply zE|apply zD|apply zH));exact HO186.out))) (zT (by repeat (first|(with_reducible first|exact HB.out|apply zK|apply zC|apply zJ|refine zB ?_ GE174.out|refine zB ?_ GE175.out)|exact HB.out))));have n5_:=zA (zIb (zV (zV (zV (zV ho1 (zOb (by (with_reducible repeat (first|apply zE|apply zD|apply zH));exact HO180.out))) (Kd.S_lt (by (with_reducible repeat (first|apply zM|apply zL|apply zN));exact HO183.out))) (zOb (by (with_reducible repeat (first|apply zE|apply zD|apply zH));exact HO186.out))) (Kd.S_lt (by (with_reducible repeat (first|apply zM|apply zL|apply zN));exact HO189.out))) (zT (by repeat (first|(with_reducible first|exact HB.out|apply zK|apply zC|apply zJ|refine zB ?_ GE174.out|refine zB ?_ GE175.out)|exact HB.out))));have n6_:=zA (zQ (g:=gb174) (o:=.cells #[.slice A0_0 l0_0.length c0_0,.slice A0_1 l0_1.length c0_1] 41 (0,0)) (by (with_reducible repeat (first|refine zF ?_ _|refine zI ?_|refine zG ?_ _));exact BK174.out) hb);have n7_:=zA (zQ (g:=gb175) (o:=.cells #[.slice A1_0 l1_0.length c1_0,.slice A1_1 l1_1.length c1_1] 41 (0,0)) (by (with_reducible repeat (first|refine zF ?_ _|refine zI ?_|refine zG ?_ _));exact BK175.out) hb);have n8_:=zA (zJb (by repeat (first|(with_reducible first|exact HB.out|apply zK|apply zC|apply zJ|refine zB ?_ GE174.out|refine zB ?_ GE175.out)|exact HB.out)) hb);clear HO180;clear HO183;clear HO186;clear HO189;clear BK174;clear BK175;clear HB;have HO180:=n0_;have HO183:=n1_;have HO186:=n2_;have HO189:=n3_;have HO193:=n4_;have HO196:=n5_;have BK174:=n6_;have BK175:=n7_;have HB:=n8_;clear n0_ n1_ n2_ n3_ n4_ n5_ n6_ n7_ n8_;(try clear hb);(try clear hb2);(try clear hk);(try clear hi);(try clear ho0);(try clear ho1))|((with_reducible refine gate_dst (N:=7) rfl ?_);refine box_event ?hg (N:=7) ?hd (cs:=#[.slice none 0 0,.slice none 0 0]) (t:=46) ?hr ?_;(case hd => rfl);(case hg => rfl);(case hr => first|(go_simp;done)|(go_simp;rfl));intro gb197 hg w127 hbox hb;have n0_:=zA (zZ (by (with_reducible repeat (first|apply zE|apply zD|apply zH));exact HO180.out) hb);have n1_:=zA (zY (by (with_reducible repeat (first|apply zM|apply zL|apply zN));exact HO183.out) hb);have n2_:=zA (zZ (by (with_reducible repeat (first|apply zE|apply zD|apply zH));exact HO186.out) hb);have n3_:=zA (zY (by (with_reducible repeat (first|apply zM|apply zL|apply zN));exact HO189.out) hb);have n4_:=zA (zZ (by (with_reducible repeat (first|apply zE|apply zD|apply zH));exact HO193.out) hb);have n5_:=zA (zY (by (with_reducible repeat (first|apply zM|apply zL|apply zN));exact HO196.out) hb);have n6_:=zA (zQ (g:=gb174) (o:=.cells #[.slice A0_0 l0_0.length c0_0,.slice A0_1 l0_1.length c0_1] 41 (0,0)) (by (with_reducible repeat (first|refine zF ?_ _|refine zI ?_|refine zG ?_ _));exact BK174.out) hb);have n7_:=zA (zQ (g:=gb175) (o:=.cells #[.slice A1_0 l1_0.length c1_0,.slice A1_1 l1_1.length c1_1] 41 (0,0)) (by (with_reducible repeat (first|refine zF ?_ _|refine zI ?_|refine zG ?_ _));exact BK175.out) hb);have n8_:=zA (zJb (by repeat (first|(with_reducible first|exact HB.out|apply zK|apply zC|apply zJ|refine zB ?_ GE174.out|refine zB ?_ GE175.out)|exact HB.out)) hb);have n9_:=zA (hbox);have n10_:=zA ((by rw [hg];exact (zT (by repeat (first|(with_reducible first|exact HB.out|apply zK|apply zC|apply zJ|refine zB ?_ GE174.out|refine zB ?_ GE175.out)|exact HB.out))) : w.heap.size ≤ gb197));have n11_:=zA ((by rw [hg];exact (zT (by repeat (first|(with_reducible first|exact HB.out|apply zK|apply zC|apply zJ|refine zB ?_ GE174.out|refine zB ?_ GE175.out)|exact HB.out))) : w.heap.size ≤ gb197));have n12_:=zA ((by rw [hg];exact Nat.ne_of_lt (blk_lt (g:=gb174) (o:=.cells #[.slice A0_0 l0_0.length c0_0,.slice A0_1 l0_1.length c0_1] 41 (0,0)) (by (with_reducible repeat (first|refine zF ?_ _|refine zI ?_|refine zG ?_ _));exact BK174.out)) : gb174 ≠ gb197));have n13_:=zA ((by rw [hg];exact Nat.ne_of_gt (blk_lt (g:=gb174) (o:=.cells #[.slice A0_0 l0_0.length c0_0,.slice A0_1 l0_1.length c0_1] 41 (0,0)) (by (with_reducible repeat (first|refine zF ?_ _|refine zI ?_|refine zG ?_ _));exact BK174.out)) : gb197 ≠ gb174));have n14_:=zA ((by rw [hg];exact Nat.ne_of_lt (blk_lt (g:=gb175) (o:=.cells #[.slice A1_0 l1_0.length c1_0,.slice A1_1 l1_1.length c1_1] 41 (0,0)) (by (with_reducible repeat (first|refine zF ?_ _|refine zI ?_|refine zG ?_ _));exact BK175.out)) : gb175 ≠ gb197));have n15_:=zA ((by rw [hg];exact Nat.ne_of_gt (blk_lt (g:=gb175) (o:=.cells #[.slice A1_0 l1_0.length c1_0,.slice A1_1 l1_1.length c1_1] 41 (0,0)) (by (with_reducible repeat (first|refine zF ?_ _|refine zI ?_|refine zG ?_ _));exact BK175.out)) : gb197 ≠ gb175));clear HO180;clear HO183;clear HO186;clear HO189;clear HO193;clear HO196;clear BK174;clear BK175;clear HB;have HO180:=n0_;have HO183:=n1_;have HO186:=n2_;have HO189:=n3_;have HO193:=n4_;have HO196:=n5_;have BK174:=n6_;have BK175:=n7_;have HB:=n8_;have BK197:=n9_;have GW197:=n10_;have GE197:=n11_;have NB174_197:=n12_;have NB197_174:=n13_;have NB175_197:=n14_;have NB197_175:=n15_;clear n0_ n1_ n2_ n3_ n4_ n5_ n6_ n7_ n8_ n9_ n10_ n11_ n12_ n13_ n14_ n15_;clear hb hbox hg;obtain ⟨Ao128,co128,eo128⟩:=Kd.R_slice HO193.out;subst eo128;have hnb129:=NB197_174.out;have hnc129:=NB174_197.out;have hnb130:=NB197_175.out;have hnc130:=NB175_197.out;have hcz131_0 : w127.cell? ⟨gb197,0,none⟩ = some (.slice none 0 0):=(zP BK197.out 0).trans rfl;have hcz131_1 : w127.cell? ⟨gb197,1,none⟩ = some (.slice none 0 0):=(zP BK197.out 1).trans rfl;have hfz131_0:=blk_frozen BK197.out 0;have hfz131_1:=blk_frozen BK197.out 1;obtain ⟨Ao132,co132,eo132⟩:=Kd.S_slice HO196.out;subst eo132;have hcz133_0 : w127.cell? ⟨gb175,0,none⟩ = some (.slice A1_0 l1_0.length c1_0):=(zP BK175.out 0).trans rfl;have hcz133_1 : w127.cell? ⟨gb175,1,none⟩ = some (.slice A1_1 l1_1.length c1_1):=(zP BK175.out 1).trans rfl;have hfz133_0:=blk_frozen BK175.out 0;have hfz133_1:=blk_frozen BK175.out 1)|((with_reducible refine gate_callee (f:=32) rfl ?_);refine goesL_ (some 28) rfl rfl Try.func32 (by kernel_rfl) rfl #[.agg #[.slice A1_0 l1_0.length c1_0,.slice A1_1 l1_1.length c1_1]] rfl (by (try simp only [zCb,zMb,zNb]);first|done|rfl|(simp only [zLb,zDb];rfl)) ?_;(with_reducible refine (laws_toQuery.calls k _ _ l1_0 _ _ l1_1 t198 t201 _ ?side1 ?side2 ?side3 ?side4 A23.out).mono ?_);(case side1 => exact zKb HR1_0.out (by repeat (first|(with_reducible first|exact HB.out|apply zK|apply zC|apply zJ|refine zB ?_ GE174.out|refine zB ?_ GE175.out|refine zB ?_ GE197.out)|exact HB.out)));(case side2 => exact HC1_0.out);(case side3 => exact zKb HR1_1.out (by repeat (first|(with_reducible first|exact HB.out|apply zK|apply zC|apply zJ|refine zB ?_ GE174.out|refine zB ?_ GE175.out|refine zB ?_ GE197.out)|exact HB.out)));(case side4 => exact HC1_1.out);rintro e w134 ⟨v199,v202,rfl,ho0,ho1,hb⟩;refine ⟨_,rfl,?_⟩;have n0_:=zA (zTb (by (with_reducible repeat (first|apply zE|apply zD|apply zH));exact (zGb (zR (p:=⟨gb197,1,none⟩) (zR (p:=⟨gb197,0,none⟩) (Kd.R_types HO180.out BK197.out (by decide)) (fun _ hk => hk.2) (.slice Ao128 t191.length co128)) (fun _ hk => hk.2) (.slice Ao132 t194.length co132)) (fun _ h_ => h_.1))) (zW ho0) hb);have n1_:=zA (zS (zU (zU (Kd.S_old (by (with_reducible repeat (first|apply zM|apply zL|apply zN));exact (zS (zVb (p:=⟨gb197,1,none⟩) (zVb (p:=⟨gb197,0,none⟩) (Kd.S_types HO183.out BK197.out (by decide)) (fun _ hk => hk.2) (.slice Ao128 t191.length co128)) (fun _ hk => hk.2) (.slice Ao132 t194.length co132)) (fun _ h_ => h_.1))) hb) (zW ho0)) (Kd.S_base ho1)) (fun _ h_ => h_.1));have n2_:=zA (zTb (by (with_reducible repeat (first|apply zE|apply zD|apply zH));exact (zGb (zR (p:=⟨gb197,1,none⟩) (zR (p:=⟨gb197,0,none⟩) (Kd.R_types HO186.out BK197.out (by decide)) (fun _ hk => hk.2) (.slice Ao128 t191.length co128)) (fun _ hk => hk.2) (.slice Ao132 t194.length co132)) (fun _ h_ => h_.1))) (zW ho0) hb);have n3_:=zA (zS (zU (zU (Kd.S_old (by (with_reducible repeat (first|apply zM|apply zL|apply zN));exact (zS (zVb (p:=⟨gb197,1,none⟩) (zVb (p:=⟨gb197,0,none⟩) (Kd.S_types HO189.out BK197.out (by decide)) (fun _ hk => hk.2) (.slice Ao128 t191.length co128)) (fun _ hk => hk.2) (.slice Ao132 t194.length co132)) (fun _ h_ => h_.1))) hb) (zW ho0)) (Kd.S_base ho1)) (fun _ h_ => h_.1));have n4_:=zA (zTb (by (with_reducible repeat (first|apply zE|apply zD|apply zH));exact (zGb (zR (p:=⟨gb197,1,none⟩) (zR (p:=⟨gb197,0,none⟩) (Kd.R_types HO193.out BK197.out (by decide)) (fun _ hk => hk.2) (.slice Ao128 t191.length co128)) (fun _ hk => hk.2) (.slice Ao132 t194.length co132)) (fun _ h_ => h_.1))) (zW ho0) hb);have n5_:=zA (zS (zU (zU (Kd.S_old (by (with_reducible repeat (first|apply zM|apply zL|apply zN));exact (zS (zVb (p:=⟨gb197,1,none⟩) (zVb (p:=⟨gb197,0,none⟩) (Kd.S_types HO196.out BK197.out (by decide)) (fun _ hk => hk.2) (.slice Ao128 t191.length co128)) (fun _ hk => hk.2) (.slice Ao132 t194.length co132)) (fun _ h_ => h_.1))) hb) (zW ho0)) (Kd.S_base ho1)) (fun _ h_ => h_.1));have n6_:=zA (zHb (zQb (zQb (zQb ho0 (zOb (by (with_reducible repeat (first|apply zE|apply zD|apply zH));exact (zGb (zR (p:=⟨gb197,1,none⟩) (zR (p:=⟨gb197,0,none⟩) (Kd.R_types HO180.out BK197.out (by decide)) (fun _ hk => hk.2) (.slice Ao128 t191.length co128)) (fun _ hk => hk.2) (.slice Ao132 t194.length co132)) (fun _ h_ => h_.1))))) (zOb (by (with_reducible repeat (first|apply zE|apply zD|apply zH));exact (zGb (zR (p:=⟨gb197,1,none⟩) (zR (p:=⟨gb197,0,none⟩) (Kd.R_types HO186.out BK197.out (by decide)) (fun _ hk => hk.2) (.slice Ao128 t191.length co128)) (fun _ hk => hk.2) (.slice Ao132 t194.length co132)) (fun _ h_ => h_.1))))) (zOb (by (with_reducible repeat (first|apply zE|apply zD|apply zH));exact (zGb (zR (p:=⟨gb197,1,none⟩) (zR (p:=⟨gb197,0,none⟩) (Kd.R_types HO193.out BK197.out (by decide)) (fun _ hk => hk.2) (.slice Ao128 t191.length co128)) (fun _ hk => hk.2) (.slice Ao132 t194.length co132)) (fun _ h_ => h_.1))))) (zT (by repeat (first|(with_reducible first|exact HB.out|apply zK|apply zC|apply zJ|refine zB ?_ GE174.out|refine zB ?_ GE175.out|refine zB ?_ GE197.out)|exact HB.out))));have n7_:=zA (zIb (zV (zV (zV (zV (zV (zV ho1 (zOb (by (with_reducible repeat (first|apply zE|apply zD|apply zH));exact (zGb (zR (p:=⟨gb197,1,none⟩) (zR (p:=⟨gb197,0,none⟩) (Kd.R_types HO180.out BK197.out (by decide)) (fun _ hk => hk.2) (.slice Ao128 t191.length co128)) (fun _ hk => hk.2) (.slice Ao132 t194.length co132)) (fun _ h_ => h_.1))))) (Kd.S_lt (by (with_reducible repeat (first|apply zM|apply zL|apply zN));exact (zS (zVb (p:=⟨gb197,1,none⟩) (zVb (p:=⟨gb197,0,none⟩) (Kd.S_types HO183.out BK197.out (by decide)) (fun _ hk => hk.2) (.slice Ao128 t191.length co128)) (fun _ hk => hk.2) (.slice Ao132 t194.length co132)) (fun _ h_ => h_.1))))) (zOb (by (with_reducible repeat (first|apply zE|apply zD|apply zH));exact (zGb (zR (p:=⟨gb197,1,none⟩) (zR (p:=⟨gb197,0,none⟩) (Kd.R_types HO186.out BK197.out (by decide)) (fun _ hk => hk.2) (.slice Ao128 t191.length co128)) (fun _ hk => hk.2) (.slice Ao132 t194.length co132)) (fun _ h_ => h_.1))))) (Kd.S_lt (by (with_reducible repeat (first|apply zM|apply zL|apply zN));exact (zS (zVb (p:=⟨gb197,1,none⟩) (zVb (p:=⟨gb197,0,none⟩) (Kd.S_types HO189.out BK197.out (by decide)) (fun _ hk => hk.2) (.slice Ao128 t191.length co128)) (fun _ hk => hk.2) (.slice Ao132 t194.length co132)) (fun _ h_ => h_.1))))) (zOb (by (with_reducible repeat (first|apply zE|apply zD|apply zH));exact (zGb (zR (p:=⟨gb197,1,none⟩) (zR (p:=⟨gb197,0,none⟩) (Kd.R_types HO193.out BK197.out (by decide)) (fun _ hk => hk.2) (.slice Ao128 t191.length co128)) (fun _ hk => hk.2) (.slice Ao132 t194.length co132)) (fun _ h_ => h_.1))))) (Kd.S_lt (by (with_reducible repeat (first|apply zM|apply zL|apply zN));exact (zS (zVb (p:=⟨gb197,1,none⟩) (zVb (p:=⟨gb197,0,none⟩) (Kd.S_types HO196.out BK197.out (by decide)) (fun _ hk => hk.2) (.slice Ao128 t191.length co128)) (fun _ hk => hk.2) (.slice Ao132 t194.length co132)) (fun _ h_ => h_.1))))) (zT (by repeat (first|(with_reducible first|exact HB.out|apply zK|apply zC|apply zJ|refine zB ?_ GE174.out|refine zB ?_ GE175.out|refine zB ?_ GE197.out)|exact HB.out))));have n8_:=zA (zQ (g:=gb174) (o:=.cells #[.slice A0_0 l0_0.length c0_0,.slice A0_1 l0_1.length c0_1] 41 (0,0)) (by (with_reducible repeat (first|refine zF ?_ _|refine zI ?_|refine zG ?_ _));refine zUb ?_ NB174_197.out _;(with_reducible repeat (first|refine zF ?_ _|refine zI ?_|refine zG ?_ _));refine zUb ?_ NB174_197.out _;(with_reducible repeat (first|refine zF ?_ _|refine zI ?_|refine zG ?_ _));exact BK174.out) hb);have n9_:=zA (zQ (g:=gb175) (o:=.cells #[.slice A1_0 l1_0.length c1_0,.slice A1_1 l1_1.length c1_1] 41 (0,0)) (by (with_reducible repeat (first|refine zF ?_ _|refine zI ?_|refine zG ?_ _));refine zUb ?_ NB175_197.out _;(with_reducible repeat (first|refine zF ?_ _|refine zI ?_|refine zG ?_ _));refine zUb ?_ NB175_197.out _;(with_reducible repeat (first|refine zF ?_ _|refine zI ?_|refine zG ?_ _));exact BK175.out) hb);have n10_:=zA (zQ (g:=gb197) (o:=.cells #[.slice Ao128 t191.length co128,.slice Ao132 t194.length co132] 46 (0,0)) (by (with_reducible repeat (first|refine zF ?_ _|refine zI ?_|refine zG ?_ _));refine blk_put (cs:=#[.slice Ao128 t191.length co128,.slice none 0 0]) ?_ 1 _ rfl;(with_reducible repeat (first|refine zF ?_ _|refine zI ?_|refine zG ?_ _));refine blk_put (cs:=#[.slice none 0 0,.slice none 0 0]) ?_ 0 _ rfl;(with_reducible repeat (first|refine zF ?_ _|refine zI ?_|refine zG ?_ _));exact BK197.out) hb);have n11_:=zA (zJb (by repeat (first|(with_reducible first|exact HB.out|apply zK|apply zC|apply zJ|refine zB ?_ GE174.out|refine zB ?_ GE175.out|refine zB ?_ GE197.out)|exact HB.out)) hb);clear HO180;clear HO183;clear HO186;clear HO189;clear HO193;clear HO196;clear BK174;clear BK175;clear BK197;clear HB;have HO180:=n0_;have HO183:=n1_;have HO186:=n2_;have HO189:=n3_;have HO193:=n4_;have HO196:=n5_;have HO200:=n6_;have HO203:=n7_;have BK174:=n8_;have BK175:=n9_;have BK197:=n10_;have HB:=n11_;clear n0_ n1_ n2_ n3_ n4_ n5_ n6_ n7_ n8_ n9_ n10_ n11_;(try clear hb);(try clear hb2);(try clear hk);(try clear hi);(try clear ho0);(try clear ho1))|((with_reducible refine gate_dst (N:=8) rfl ?_);refine box_event ?hg (N:=8) ?hd (cs:=#[.slice none 0 0,.slice none 0 0]) (t:=46) ?hr ?_;(case hd => rfl);(case hg => rfl);(case hr => first|(go_simp;done)|(go_simp;rfl));intro gb204 hg w135 hbox hb;have n0_:=zA (zZ (by (with_reducible repeat (first|apply zE|apply zD|apply zH));exact HO180.out) hb);have n1_:=zA (zY (by (with_reducible repeat (first|apply zM|apply zL|apply zN));exact HO183.out) hb);have n2_:=zA (zZ (by (with_reducible repeat (first|apply zE|apply zD|apply zH));exact HO186.out) hb);have n3_:=zA (zY (by (with_reducible repeat (first|apply zM|apply zL|apply zN));exact HO189.out) hb);have n4_:=zA (zZ (by (with_reducible repeat (first|apply zE|apply zD|apply zH));exact HO193.out) hb);have n5_:=zA (zY (by (with_reducible repeat (first|apply zM|apply zL|apply zN));exact HO196.out) hb);have n6_:=zA (zZ (by (with_reducible repeat (first|apply zE|apply zD|apply zH));exact HO200.out) hb);have n7_:=zA (zY (by (with_reducible repeat (first|apply zM|apply zL|apply zN));exact HO203.out) hb);have n8_:=zA (zQ (g:=gb174) (o:=.cells #[.slice A0_0 l0_0.length c0_0,.slice A0_1 l0_1.length c0_1] 41 (0,0)) (by (with_reducible repeat (first|refine zF ?_ _|refine zI ?_|refine zG ?_ _));exact BK174.out) hb);have n9_:=zA (zQ (g:=gb175) (o:=.cells #[.slice A1_0 l1_0.length c1_0,.slice A1_1 l1_1.length c1_1] 41 (0,0)) (by (with_reducible repeat (first|refine zF ?_ _|refine zI ?_|refine zG ?_ _));exact BK175.out) hb);have n10_:=zA (zQ (g:=gb197) (o:=.cells #[.slice Ao128 t191.length co128,.slice Ao132 t194.length co132] 46 (0,0)) (by (with_reducible repeat (first|refine zF ?_ _|refine zI ?_|refine zG ?_ _));exact BK197.out) hb);have n11_:=zA (zJb (by repeat (first|(with_reducible first|exact HB.out|apply zK|apply zC|apply zJ|refine zB ?_ GE174.out|refine zB ?_ GE175.out|refine zB ?_ GE197.out)|exact HB.out)) hb);have n12_:=zA (hbox);have n13_:=zA ((by rw [hg];exact (zT (by repeat (first|(with_reducible first|exact HB.out|apply zK|apply zC|apply zJ|refine zB ?_ GE174.out|refine zB ?_ GE175.out|refine zB ?_ GE197.out)|exact HB.out))) : w.heap.size ≤ gb204));have n14_:=zA ((by rw [hg];exact (zT (by repeat (first|(with_reducible first|exact HB.out|apply zK|apply zC|apply zJ|refine zB ?_ GE174.out|refine zB ?_ GE175.out|refine zB ?_ GE197.out)|exact HB.out))) : w.heap.size ≤ gb204));have n15_:=zA ((by rw [hg];exact Nat.ne_of_lt (blk_lt (g:=gb174) (o:=.cells #[.slice A0_0 l0_0.length c0_0,.slice A0_1 l0_1.length c0_1] 41 (0,0)) (by (with_reducible repeat (first|refine zF ?_ _|refine zI ?_|refine zG ?_ _));exact BK174.out)) : gb174 ≠ gb204));have n16_:=zA ((by rw [hg];exact Nat.ne_of_gt (blk_lt (g:=gb174) (o:=.cells #[.slice A0_0 l0_0.length c0_0,.slice A0_1 l0_1.length c0_1] 41 (0,0)) (by (with_reducible repeat (first|refine zF ?_ _|refine zI ?_|refine zG ?_ _));exact BK174.out)) : gb204 ≠ gb174));have n17_:=zA ((by rw [hg];exact Nat.ne_of_lt (blk_lt (g:=gb175) (o:=.cells #[.slice A1_0 l1_0.length c1_0,.slice A1_1 l1_1.length c1_1] 41 (0,0)) (by (with_reducible repeat (first|refine zF ?_ _|refine zI ?_|refine zG ?_ _));exact BK175.out)) : gb175 ≠ gb204));have n18_:=zA ((by rw [hg];exact Nat.ne_of_gt (blk_lt (g:=gb175) (o:=.cells #[.slice A1_0 l1_0.length c1_0,.slice A1_1 l1_1.length c1_1] 41 (0,0)) (by (with_reducible repeat (first|refine zF ?_ _|refine zI ?_|refine zG ?_ _));exact BK175.out)) : gb204 ≠ gb175));have n19_:=zA ((by rw [hg];exact Nat.ne_of_lt (blk_lt (g:=gb197) (o:=.cells #[.slice Ao128 t191.length co128,.slice Ao132 t194.length co132] 46 (0,0)) (by (with_reducible repeat (first|refine zF ?_ _|refine zI ?_|refine zG ?_ _));exact BK197.out)) : gb197 ≠ gb204));have n20_:=zA ((by rw [hg];exact Nat.ne_of_gt (blk_lt (g:=gb197) (o:=.cells #[.slice Ao128 t191.length co128,.slice Ao132 t194.length co132] 46 (0,0)) (by (with_reducible repeat (first|refine zF ?_ _|refine zI ?_|refine zG ?_ _));exact BK197.out)) : gb204 ≠ gb197));clear HO180;clear HO183;clear HO186;clear HO189;clear HO193;clear HO196;clear HO200;clear HO203;clear BK174;clear BK175;clear BK197;clear HB;have HO180:=n0_;have HO183:=n1_;have HO186:=n2_;have HO189:=n3_;have HO193:=n4_;have HO196:=n5_;have HO200:=n6_;have HO203:=n7_;have BK174:=n8_;have BK175:=n9_;have BK197:=n10_;have HB:=n11_;have BK204:=n12_;have GW204:=n13_;have GE204:=n14_;have NB174_204:=n15_;have NB204_174:=n16_;have NB175_204:=n17_;have NB204_175:=n18_;have NB197_204:=n19_;have NB204_197:=n20_;clear n0_ n1_ n2_ n3_ n4_ n5_ n6_ n7_ n8_ n9_ n10_ n11_ n12_ n13_ n14_ n15_ n16_ n17_ n18_ n19_ n20_;clear hb hbox hg;obtain ⟨Ao136,co136,eo136⟩:=Kd.R_slice HO200.out;subst eo136;have hnb137:=NB204_174.out;have hnc137:=NB174_204.out;have hnb138:=NB204_175.out;have hnc138:=NB175_204.out;have hnb139:=NB204_197.out;have hnc139:=NB197_204.out;have hcz140_0 : w135.cell? ⟨gb204,0,none⟩ = some (.slice none 0 0):=(zP BK204.out 0).trans rfl;have hcz140_1 : w135.cell? ⟨gb204,1,none⟩ = some (.slice none 0 0):=(zP BK204.out 1).trans rfl;have hfz140_0:=blk_frozen BK204.out 0;have hfz140_1:=blk_frozen BK204.out 1;obtain ⟨Ao141,co141,eo141⟩:=Kd.S_slice HO203.out;subst eo141;have hcz142_0 : w135.cell? ⟨gb197,0,none⟩ = some (.slice Ao128 t191.length co128):=(zP BK197.out 0).trans rfl;have hcz142_1 : w135.cell? ⟨gb197,1,none⟩ = some (.slice Ao132 t194.length co132):=(zP BK197.out 1).trans rfl;have hfz142_0:=blk_frozen BK197.out 0;have hfz142_1:=blk_frozen BK197.out 1)|((with_reducible refine gate_callee (f:=33) rfl ?_);refine goesL_ (some 31) rfl rfl Try.func33 (by kernel_rfl) rfl #[.agg #[.slice Ao128 t191.length co128,.slice Ao132 t194.length co132],.agg #[.slice Ao136 t198.length co136,.slice Ao141 t201.length co141]] rfl (by (try simp only [zCb,zMb,zNb]);first|done|rfl|(simp only [zLb,zDb];rfl)) ?_;(with_reducible refine (impl_EqualQueries.calls k _ _ t191 _ _ t194 _ _ t198 _ _ t201 t205 _ ?side1 ?side2 ?side3 ?side4 ?side5 ?side6 ?side7 ?side8 A24.out).mono ?_);(case side1 => refine (Kd.R_reads' (e:=3) (base:=w.heap.size) (ok:=fun k_ => (((True ∧ some k_ ≠ (.slice Ao120 t178.length co120 : Value).ownBlock) ∧ some k_ ≠ (.slice Ao122 t184.length co122 : Value).ownBlock) ∧ some k_ ≠ (.slice Ao136 t198.length co136 : Value).ownBlock)) (n:=t191.length) (c:=co128) ?_).2.2;exact (by (with_reducible repeat (first|apply zE|apply zD|apply zH));exact (zGb (zR (p:=⟨gb204,1,none⟩) (zR (p:=⟨gb204,0,none⟩) (Kd.R_types HO193.out BK204.out (by decide)) (fun _ hk => hk.2) (.slice Ao136 t198.length co136)) (fun _ hk => hk.2) (.slice Ao141 t201.length co141)) (fun _ h_ => h_.1))));(case side2 => exact (Kd.R_reads' HO193.out).2.1);(case side3 => refine (Kd.S_reads' (e:=97) (base:=w.heap.size) (ok:=fun k_ => ((((((some k_ ≠ (.slice Ao128 t191.length co128 : Value).ownBlock ∧ some k_ ≠ (.slice Ao120 t178.length co120 : Value).ownBlock) ∧ some k_ ≠ (.slice Ao121 t181.length co121 : Value).ownBlock) ∧ some k_ ≠ (.slice Ao122 t184.length co122 : Value).ownBlock) ∧ some k_ ≠ (.slice Ao123 t187.length co123 : Value).ownBlock) ∧ some k_ ≠ (.slice Ao136 t198.length co136 : Value).ownBlock) ∧ some k_ ≠ (.slice Ao141 t201.length co141 : Value).ownBlock)) (n:=t194.length) (c:=co132) ?_).2.2;exact (by (with_reducible repeat (first|apply zM|apply zL|apply zN));exact (zS (zVb (p:=⟨gb204,1,none⟩) (zVb (p:=⟨gb204,0,none⟩) (Kd.S_types HO196.out BK204.out (by decide)) (fun _ hk => hk.2) (.slice Ao136 t198.length co136)) (fun _ hk => hk.2) (.slice Ao141 t201.length co141)) (fun _ h_ => h_.1))));(case side4 => exact (Kd.S_reads' HO196.out).2.1);(case side5 => refine (Kd.R_reads' (e:=3) (base:=w.heap.size) (ok:=fun k_ => (((True ∧ some k_ ≠ (.slice Ao120 t178.length co120 : Value).ownBlock) ∧ some k_ ≠ (.slice Ao122 t184.length co122 : Value).ownBlock) ∧ some k_ ≠ (.slice Ao128 t191.length co128 : Value).ownBlock)) (n:=t198.length) (c:=co136) ?_).2.2;exact (by (with_reducible repeat (first|apply zE|apply zD|apply zH));exact (zGb (zR (p:=⟨gb204,1,none⟩) (zR (p:=⟨gb204,0,none⟩) (Kd.R_types HO200.out BK204.out (by decide)) (fun _ hk => hk.2) (.slice Ao136 t198.length co136)) (fun _ hk => hk.2) (.slice Ao141 t201.length co141)) (fun _ h_ => h_.1))));(case side6 => exact (Kd.R_reads' HO200.out).2.1);(case side7 => refine (Kd.S_reads' (e:=97) (base:=w.heap.size) (ok:=fun k_ => ((((((some k_ ≠ (.slice Ao136 t198.length co136 : Value).ownBlock ∧ some k_ ≠ (.slice Ao120 t178.length co120 : Value).ownBlock) ∧ some k_ ≠ (.slice Ao121 t181.length co121 : Value).ownBlock) ∧ some k_ ≠ (.slice Ao122 t184.length co122 : Value).ownBlock) ∧ some k_ ≠ (.slice Ao123 t187.length co123 : Value).ownBlock) ∧ some k_ ≠ (.slice Ao128 t191.length co128 : Value).ownBlock) ∧ some k_ ≠ (.slice Ao132 t194.length co132 : Value).ownBlock)) (n:=t201.length) (c:=co141) ?_).2.2;exact (by (with_reducible repeat (first|apply zM|apply zL|apply zN));exact (zS (zVb (p:=⟨gb204,1,none⟩) (zVb (p:=⟨gb204,0,none⟩) (Kd.S_types HO203.out BK204.out (by decide)) (fun _ hk => hk.2) (.slice Ao136 t198.length co136)) (fun _ hk => hk.2) (.slice Ao141 t201.length co141)) (fun _ h_ => h_.1))));(case side8 => exact (Kd.S_reads' HO203.out).2.1);rintro e w143 ⟨rfl,hb⟩;refine ⟨_,rfl,?_⟩;have n0_:=zA (zZ (by (with_reducible repeat (first|apply zE|apply zD|apply zH));exact (zGb (zR (p:=⟨gb204,1,none⟩) (zR (p:=⟨gb204,0,none⟩) (Kd.R_types HO180.out BK204.out (by decide)) (fun _ hk => hk.2) (.slice Ao136 t198.length co136)) (fun _ hk => hk.2) (.slice Ao141 t201.length co141)) (fun _ h_ => h_.1))) hb);have n1_:=zA (zY (by (with_reducible repeat (first|apply zM|apply zL|apply zN));exact (zS (zVb (p:=⟨gb204,1,none⟩) (zVb (p:=⟨gb204,0,none⟩) (Kd.S_types HO183.out BK204.out (by decide)) (fun _ hk => hk.2) (.slice Ao136 t198.length co136)) (fun _ hk => hk.2) (.slice Ao141 t201.length co141)) (fun _ h_ => h_.1))) hb);have n2_:=zA (zZ (by (with_reducible repeat (first|apply zE|apply zD|apply zH));exact (zGb (zR (p:=⟨gb204,1,none⟩) (zR (p:=⟨gb204,0,none⟩) (Kd.R_types HO186.out BK204.out (by decide)) (fun _ hk => hk.2) (.slice Ao136 t198.length co136)) (fun _ hk => hk.2) (.slice Ao141 t201.length co141)) (fun _ h_ => h_.1))) hb);have n3_:=zA (zY (by (with_reducible repeat (first|apply zM|apply zL|apply zN));exact (zS (zVb (p:=⟨gb204,1,none⟩) (zVb (p:=⟨gb204,0,none⟩) (Kd.S_types HO189.out BK204.out (by decide)) (fun _ hk => hk.2) (.slice Ao136 t198.length co136)) (fun _ hk => hk.2) (.slice Ao141 t201.length co141)) (fun _ h_ => h_.1))) hb);have n4_:=zA (zZ (by (with_reducible repeat (first|apply zE|apply zD|apply zH));exact (zGb (zR (p:=⟨gb204,1,none⟩) (zR (p:=⟨gb204,0,none⟩) (Kd.R_types HO193.out BK204.out (by decide)) (fun _ hk => hk.2) (.slice Ao136 t198.length co136)) (fun _ hk => hk.2) (.slice Ao141 t201.length co141)) (fun _ h_ => h_.1))) hb);have n5_:=zA (zY (by (with_reducible repeat (first|apply zM|apply zL|apply zN));exact (zS (zVb (p:=⟨gb204,1,none⟩) (zVb (p:=⟨gb204,0,none⟩) (Kd.S_types HO196.out BK204.out (by decide)) (fun _ hk => hk.2) (.slice Ao136 t198.length co136)) (fun _ hk => hk.2) (.slice Ao141 t201.length co141)) (fun _ h_ => h_.1))) hb);have n6_:=zA (zZ (by (with_reducible repeat (first|apply zE|apply zD|apply zH));exact (zGb (zR (p:=⟨gb204,1,none⟩) (zR (p:=⟨gb204,0,none⟩) (Kd.R_types HO200.out BK204.out (by decide)) (fun _ hk => hk.2) (.slice Ao136 t198.length co136)) (fun _ hk => hk.2) (.slice Ao141 t201.length co141)) (fun _ h_ => h_.1))) hb);have n7_:=zA (zY (by (with_reducible repeat (first|apply zM|apply zL|apply zN));exact (zS (zVb (p:=⟨gb204,1,none⟩) (zVb (p:=⟨gb204,0,none⟩) (Kd.S_types HO203.out BK204.out (by decide)) (fun _ hk => hk.2) (.slice Ao136 t198.length co136)) (fun _ hk => hk.2) (.slice Ao141 t201.length co141)) (fun _ h_ => h_.1))) hb);have n8_:=zA (zQ (g:=gb174) (o:=.cells #[.slice A0_0 l0_0.length c0_0,.slice A0_1 l0_1.length c0_1] 41 (0,0)) (by (with_reducible repeat (first|refine zF ?_ _|refine zI ?_|refine zG ?_ _));refine zUb ?_ NB174_204.out _;(with_reducible repeat (first|refine zF ?_ _|refine zI ?_|refine zG ?_ _));refine zUb ?_ NB174_204.out _;(with_reducible repeat (first|refine zF ?_ _|refine zI ?_|refine zG ?_ _));exact BK174.out) hb);have n9_:=zA (zQ (g:=gb175) (o:=.cells #[.slice A1_0 l1_0.length c1_0,.slice A1_1 l1_1.length c1_1] 41 (0,0)) (by (with_reducible repeat (first|refine zF ?_ _|refine zI ?_|refine zG ?_ _));refine zUb ?_ NB175_204.out _;(with_reducible repeat (first|refine zF ?_ _|refine zI ?_|refine zG ?_ _));refine zUb ?_ NB175_204.out _;(with_reducible repeat (first|refine zF ?_ _|refine zI ?_|refine zG ?_ _));exact BK175.out) hb);have n10_:=zA (zQ (g:=gb197) (o:=.cells #[.slice Ao128 t191.length co128,.slice Ao132 t194.length co132] 46 (0,0)) (by (with_reducible repeat (first|refine zF ?_ _|refine zI ?_|refine zG ?_ _));refine zUb ?_ NB197_204.out _;(with_reducible repeat (first|refine zF ?_ _|refine zI ?_|refine zG ?_ _));refine zUb ?_ NB197_204.out _;(with_reducible repeat (first|refine zF ?_ _|refine zI ?_|refine zG ?_ _));exact BK197.out) hb);have n11_:=zA (zQ (g:=gb204) (o:=.cells #[.slice Ao136 t198.length co136,.slice Ao141 t201.length co141] 46 (0,0)) (by (with_reducible repeat (first|refine zF ?_ _|refine zI ?_|refine zG ?_ _));refine blk_put (cs:=#[.slice Ao136 t198.length co136,.slice none 0 0]) ?_ 1 _ rfl;(with_reducible repeat (first|refine zF ?_ _|refine zI ?_|refine zG ?_ _));refine blk_put (cs:=#[.slice none 0 0,.slice none 0 0]) ?_ 0 _ rfl;(with_reducible repeat (first|refine zF ?_ _|refine zI ?_|refine zG ?_ _));exact BK204.out) hb);have n12_:=zA (zJb (by repeat (first|(with_reducible first|exact HB.out|apply zK|apply zC|apply zJ|refine zB ?_ GE174.out|refine zB ?_ GE175.out|refine zB ?_ GE197.out|refine zB ?_ GE204.out)|exact HB.out)) hb);clear HO180;clear HO183;clear HO186;clear HO189;clear HO193;clear HO196;clear HO200;clear HO203;clear BK174;clear BK175;clear BK197;clear BK204;clear HB;have HO180:=n0_;have HO183:=n1_;have HO186:=n2_;have HO189:=n3_;have HO193:=n4_;have HO196:=n5_;have HO200:=n6_;have HO203:=n7_;have BK174:=n8_;have BK175:=n9_;have BK197:=n10_;have BK204:=n11_;have HB:=n12_;clear n0_ n1_ n2_ n3_ n4_ n5_ n6_ n7_ n8_ n9_ n10_ n11_ n12_;(try clear hb);(try clear hb2);(try clear hk);(try clear hi)))
      have n0_:=zA (zH HO180.out)
      have n1_:=zA (zN HO183.out)
      have n2_:=zA (zH HO186.out)
      have n3_:=zA (zN HO189.out)
      have n4_:=zA (zH HO193.out)
      have n5_:=zA (zN HO196.out)
      have n6_:=zA (zH HO200.out)
      have n7_:=zA (zN HO203.out)
      have n8_:=zA (zI BK174.out)
      have n9_:=zA (zI BK175.out)
      have n10_:=zA (zI BK197.out)
      have n11_:=zA (zI BK204.out)
      have n12_:=zA (zJ HB.out)
      clear HO180
      clear HO183
      clear HO186
      clear HO189
      clear HO193
      clear HO196
      clear HO200
      clear HO203
      clear BK174
      clear BK175
      clear BK197
      clear BK204
      clear HB
      have HO180:=n0_
      have HO183:=n1_
      have HO186:=n2_
      have HO189:=n3_
      have HO193:=n4_
      have HO196:=n5_
      have HO200:=n6_
      have HO203:=n7_
      have BK174:=n8_
      have BK175:=n9_
      have BK197:=n10_
      have BK204:=n11_
      have HB:=n12_
      clear n0_ n1_ n2_ n3_ n4_ n5_ n6_ n7_ n8_ n9_ n10_ n11_ n12_
      refine start_ (n:=5) (S:=fun w' => w'.cell? ⟨gb197,0,none⟩ = some (.slice Ao128 t191.length co128) ∧ w'.cell? ⟨gb197,1,none⟩ = some (.slice Ao132 t194.length co132) ∧ w'.cell? ⟨gb174,0,none⟩ = some (.slice A0_0 l0_0.length c0_0) ∧ w'.cell? ⟨gb174,1,none⟩ = some (.slice A0_1 l0_1.length c0_1)) (ds:=[]) #[false,false,false,false,false] (by kernel_rfl) rfl rfl ⟨(zP BK197.out 0).trans rfl,(zP BK197.out 1).trans rfl,(zP BK174.out 0).trans rfl,(zP BK174.out 1).trans rfl⟩ (fun hHeld => ?_)
      generalize w143.drew = w144 at HO180 HO183 HO186 HO189 HO193 HO196 HO200 HO203 BK174 BK175 BK197 BK204 HB hHeld ⊢
      refine take_ (i:=0) (N:=some 35) (v:=?_) (a':=?_) #[true,false,false,false,false] rfl rfl (by kernel_rfl) (fun _ _ _ h => h) (Or.inl ⟨by rfl,?_⟩) hHeld ?_ ?_
      rotate_left
      ·
       rintro w' ⟨s0,s1,s2,s3⟩
       go_simp
       with_reducible rfl
      rotate_left
      ·
       simp only [Act.put,zO,zEb,zFb,i64_w,i32_w]
       rfl
      refine take_ (i:=1) (N:=some 36) (v:=?_) (a':=?_) #[true,true,false,false,false] rfl rfl (by kernel_rfl) (fun _ _ _ h => h) (Or.inl ⟨by rfl,?_⟩) hHeld ?_ ?_
      rotate_left
      ·
       rintro w' ⟨s0,s1,s2,s3⟩
       go_simp
       with_reducible rfl
      rotate_left
      ·
       simp only [Act.put,zO,zEb,zFb,i64_w,i32_w]
       rfl
      refine one_ (i:=2) (N:=some 37) #[true,true,true,false,false] rfl rfl (by kernel_rfl) (by decide) (fun K hK => ?_)
      refine goes_ Try.func32 (by kernel_rfl) rfl #[.agg #[.slice A0_0 l0_0.length c0_0,.slice A0_1 l0_1.length c0_1]] (by rfl) rfl rfl (by (try simp only [zCb,zMb,zNb]);first|done|rfl|(simp only [zLb,zDb];rfl)) ?_
      with_reducible refine (laws_toQuery.calls k _ _ l0_0 _ _ l0_1 t206 t209 _ ?side1 ?side2 ?side3 ?side4 A60.out).mono ?_
      (case side1 => repeat (first|exact (zKb HR0_0.out HB.out)|(with_reducible refine zBb ?_ _)|(with_reducible refine zAb ?_ _)|(with_reducible refine zX ?_)))
      (case side2 => exact HC0_0.out)
      (case side3 => repeat (first|exact (zKb HR0_1.out HB.out)|(with_reducible refine zBb ?_ _)|(with_reducible refine zAb ?_ _)|(with_reducible refine zX ?_)))
      (case side4 => exact HC0_1.out)
      rintro e w145 ⟨v207,v210,rfl,ho0,ho1,hb⟩
      refine ⟨_,rfl,?_⟩
      have n0_:=zA (zTb (by (with_reducible repeat (first|apply zE|apply zD|apply zH));exact HO180.out) (zW ho0) hb)
      have n1_:=zA (zS (zU (zU (Kd.S_old (by (with_reducible repeat (first|apply zM|apply zL|apply zN));exact HO183.out) hb) (zW ho0)) (Kd.S_base ho1)) (fun _ h_ => h_.1))
      have n2_:=zA (zTb (by (with_reducible repeat (first|apply zE|apply zD|apply zH));exact HO186.out) (zW ho0) hb)
      have n3_:=zA (zS (zU (zU (Kd.S_old (by (with_reducible repeat (first|apply zM|apply zL|apply zN));exact HO189.out) hb) (zW ho0)) (Kd.S_base ho1)) (fun _ h_ => h_.1))
      have n4_:=zA (zTb (by (with_reducible repeat (first|apply zE|apply zD|apply zH));exact HO193.out) (zW ho0) hb)
      have n5_:=zA (zS (zU (zU (Kd.S_old (by (with_reducible repeat (first|apply zM|apply zL|apply zN));exact HO196.out) hb) (zW ho0)) (Kd.S_base ho1)) (fun _ h_ => h_.1))
      have n6_:=zA (zTb (by (with_reducible repeat (first|apply zE|apply zD|apply zH));exact HO200.out) (zW ho0) hb)
      have n7_:=zA (zS (zU (zU (Kd.S_old (by (with_reducible repeat (first|apply zM|apply zL|apply zN));exact HO203.out) hb) (zW ho0)) (Kd.S_base ho1)) (fun _ h_ => h_.1))
      have n8_:=zA (zHb (zQb (zQb (zQb (zQb ho0 (zOb (by (with_reducible repeat (first|apply zE|apply zD|apply zH));exact HO180.out))) (zOb (by (with_reducible repeat (first|apply zE|apply zD|apply zH));exact HO186.out))) (zOb (by (with_reducible repeat (first|apply zE|apply zD|apply zH));exact HO193.out))) (zOb (by (with_reducible repeat (first|apply zE|apply zD|apply zH));exact HO200.out))) (zT (by repeat (first|(with_reducible first|exact HB.out|apply zK|apply zC|apply zJ|refine zB ?_ GE174.out|refine zB ?_ GE175.out|refine zB ?_ GE197.out|refine zB ?_ GE204.out)|exact HB.out))))
      have n9_:=zA (zIb (zV (zV (zV (zV (zV (zV (zV (zV ho1 (zOb (by (with_reducible repeat (first|apply zE|apply zD|apply zH));exact HO180.out))) (Kd.S_lt (by (with_reducible repeat (first|apply zM|apply zL|apply zN));exact HO183.out))) (zOb (by (with_reducible repeat (first|apply zE|apply zD|apply zH));exact HO186.out))) (Kd.S_lt (by (with_reducible repeat (first|apply zM|apply zL|apply zN));exact HO189.out))) (zOb (by (with_reducible repeat (first|apply zE|apply zD|apply zH));exact HO193.out))) (Kd.S_lt (by (with_reducible repeat (first|apply zM|apply zL|apply zN));exact HO196.out))) (zOb (by (with_reducible repeat (first|apply zE|apply zD|apply zH));exact HO200.out))) (Kd.S_lt (by (with_reducible repeat (first|apply zM|apply zL|apply zN));exact HO203.out))) (zT (by repeat (first|(with_reducible first|exact HB.out|apply zK|apply zC|apply zJ|refine zB ?_ GE174.out|refine zB ?_ GE175.out|refine zB ?_ GE197.out|refine zB ?_ GE204.out)|exact HB.out))))
      have n10_:=zA (zQ (g:=gb174) (o:=.cells #[.slice A0_0 l0_0.length c0_0,.slice A0_1 l0_1.length c0_1] 41 (0,0)) (by (with_reducible repeat (first|refine zF ?_ _|refine zI ?_|refine zG ?_ _));exact BK174.out) hb)
      have n11_:=zA (zQ (g:=gb175) (o:=.cells #[.slice A1_0 l1_0.length c1_0,.slice A1_1 l1_1.length c1_1] 41 (0,0)) (by (with_reducible repeat (first|refine zF ?_ _|refine zI ?_|refine zG ?_ _));exact BK175.out) hb)
      have n12_:=zA (zQ (g:=gb197) (o:=.cells #[.slice Ao128 t191.length co128,.slice Ao132 t194.length co132] 46 (0,0)) (by (with_reducible repeat (first|refine zF ?_ _|refine zI ?_|refine zG ?_ _));exact BK197.out) hb)
      have n13_:=zA (zQ (g:=gb204) (o:=.cells #[.slice Ao136 t198.length co136,.slice Ao141 t201.length co141] 46 (0,0)) (by (with_reducible repeat (first|refine zF ?_ _|refine zI ?_|refine zG ?_ _));exact BK204.out) hb)
      have n14_:=zA (zJb (by repeat (first|(with_reducible first|exact HB.out|apply zK|apply zC|apply zJ|refine zB ?_ GE174.out|refine zB ?_ GE175.out|refine zB ?_ GE197.out|refine zB ?_ GE204.out)|exact HB.out)) hb)
      clear HO180
      clear HO183
      clear HO186
      clear HO189
      clear HO193
      clear HO196
      clear HO200
      clear HO203
      clear BK174
      clear BK175
      clear BK197
      clear BK204
      clear HB
      have HO180:=n0_
      have HO183:=n1_
      have HO186:=n2_
      have HO189:=n3_
      have HO193:=n4_
      have HO196:=n5_
      have HO200:=n6_
      have HO203:=n7_
      have HO208:=n8_
      have HO211:=n9_
      have BK174:=n10_
      have BK175:=n11_
      have BK197:=n12_
      have BK204:=n13_
      have HB:=n14_
      clear n0_ n1_ n2_ n3_ n4_ n5_ n6_ n7_ n8_ n9_ n10_ n11_ n12_ n13_ n14_
      (try clear hb)
      (try clear hb2)
      (try clear hk)
      (try clear hi)
      (try clear ho0)
      (try clear ho1)
      obtain ⟨Ao146,co146,eo146⟩:=Kd.R_slice HO208.out
      (first|subst eo146|(injection eo146 with f1_ f2_ f3_;have f4_:=f1_.symm;have f5_:=f3_.symm;clear f1_ f2_ f3_;subst f4_;subst f5_))
      obtain ⟨Ao147,co147,eo147⟩:=Kd.S_slice HO211.out
      (first|subst eo147|(injection eo147 with f1_ f2_ f3_;have f4_:=f1_.symm;have f5_:=f3_.symm;clear f1_ f2_ f3_;subst f4_;subst f5_))
      refine hK.out _ _ ⟨(zP BK197.out 0).trans rfl,(zP BK197.out 1).trans rfl,(zP BK174.out 0).trans rfl,(zP BK174.out 1).trans rfl⟩ (fun hHeld => ?_)
      clear hK K
      refine norm_ (a':=?_) ?_ ?_
      rotate_left
      ·
       show Act.put _ (some 37) _ = _
       simp only [Act.put,zO,zEb,zFb,i64_w,i32_w]
       rfl
      refine one_ (i:=3) (N:=some 38) #[true,true,true,true,false] rfl rfl (by kernel_rfl) (by decide) (fun K hK => ?_)
      refine goes_ Try.func34 (by kernel_rfl) rfl #[.agg #[.slice Ao128 t191.length co128,.slice Ao132 t194.length co132],.agg #[.slice Ao146 t206.length co146,.slice Ao147 t209.length co147]] (by rfl) rfl rfl (by (try simp only [zCb,zMb,zNb]);first|done|rfl|(simp only [zLb,zDb];rfl)) ?_
      with_reducible refine (laws_eqQuery.calls k _ _ t191 _ _ t194 _ _ t206 _ _ t209 true _ ?side1 ?side2 ?side3 ?side4 ?side5 ?side6 ?side7 ?side8 A61.out).mono ?_
      (case side1 => repeat (first|exact (Kd.R_reads' HO193.out).2.2|(with_reducible refine zBb ?_ _)|(with_reducible refine zAb ?_ _)|(with_reducible refine zX ?_)))
      (case side2 => exact (Kd.R_reads' HO193.out).2.1)
      (case side3 => repeat (first|exact (Kd.S_reads' HO196.out).2.2|(with_reducible refine zBb ?_ _)|(with_reducible refine zAb ?_ _)|(with_reducible refine zX ?_)))
      (case side4 => exact (Kd.S_reads' HO196.out).2.1)
      (case side5 => repeat (first|exact (Kd.R_reads' HO208.out).2.2|(with_reducible refine zBb ?_ _)|(with_reducible refine zAb ?_ _)|(with_reducible refine zX ?_)))
      (case side6 => exact (Kd.R_reads' HO208.out).2.1)
      (case side7 => repeat (first|exact (Kd.S_reads' HO211.out).2.2|(with_reducible refine zBb ?_ _)|(with_reducible refine zAb ?_ _)|(with_reducible refine zX ?_)))
      (case side8 => exact (Kd.S_reads' HO211.out).2.1)
      rintro e w148 ⟨rfl,hb⟩
      refine ⟨_,rfl,?_⟩
      have n0_:=zA (zZ (by (with_reducible repeat (first|apply zE|apply zD|apply zH));exact HO180.out) hb)
      have n1_:=zA (zY (by (with_reducible repeat (first|apply zM|apply zL|apply zN));exact HO183.out) hb)
      have n2_:=zA (zZ (by (with_reducible repeat (first|apply zE|apply zD|apply zH));exact HO186.out) hb)
      have n3_:=zA (zY (by (with_reducible repeat (first|apply zM|apply zL|apply zN));exact HO189.out) hb)
      have n4_:=zA (zZ (by (with_reducible repeat (first|apply zE|apply zD|apply zH));exact HO193.out) hb)
      have n5_:=zA (zY (by (with_reducible repeat (first|apply zM|apply zL|apply zN));exact HO196.out) hb)
      have n6_:=zA (zZ (by (with_reducible repeat (first|apply zE|apply zD|apply zH));exact HO200.out) hb)
      have n7_:=zA (zY (by (with_reducible repeat (first|apply zM|apply zL|apply zN));exact HO203.out) hb)
      have n8_:=zA (zZ (by (with_reducible repeat (first|apply zE|apply zD|apply zH));exact HO208.out) hb)
      have n9_:=zA (zY (by (with_reducible repeat (first|apply zM|apply zL|apply zN));exact HO211.out) hb)
      have n10_:=zA (zQ (g:=gb174) (o:=.cells #[.slice A0_0 l0_0.length c0_0,.slice A0_1 l0_1.length c0_1] 41 (0,0)) (by (with_reducible repeat (first|refine zF ?_ _|refine zI ?_|refine zG ?_ _));exact BK174.out) hb)
      have n11_:=zA (zQ (g:=gb175) (o:=.cells #[.slice A1_0 l1_0.length c1_0,.slice A1_1 l1_1.length c1_1] 41 (0,0)) (by (with_reducible repeat (first|refine zF ?_ _|refine zI ?_|refine zG ?_ _));exact BK175.out) hb)
      have n12_:=zA (zQ (g:=gb197) (o:=.cells #[.slice Ao128 t191.length co128,.slice Ao132 t194.length co132] 46 (0,0)) (by (with_reducible repeat (first|refine zF ?_ _|refine zI ?_|refine zG ?_ _));exact BK197.out) hb)
      have n13_:=zA (zQ (g:=gb204) (o:=.cells #[.slice Ao136 t198.length co136,.slice Ao141 t201.length co141] 46 (0,0)) (by (with_reducible repeat (first|refine zF ?_ _|refine zI ?_|refine zG ?_ _));exact BK204.out) hb)
      have n14_:=zA (zJb (by repeat (first|(with_reducible first|exact HB.out|apply zK|apply zC|apply zJ|refine zB ?_ GE174.out|refine zB ?_ GE175.out|refine zB ?_ GE197.out|refine zB ?_ GE204.out)|exact HB.out)) hb)
      clear HO180
      clear HO183
      clear HO186
      clear HO189
      clear HO193
      clear HO196
      clear HO200
      clear HO203
      clear HO208
      clear HO211
      clear BK174
      clear BK175
      clear BK197
      clear BK204
      clear HB
      have HO180:=n0_
      have HO183:=n1_
      have HO186:=n2_
      have HO189:=n3_
      have HO193:=n4_
      have HO196:=n5_
      have HO200:=n6_
      have HO203:=n7_
      have HO208:=n8_
      have HO211:=n9_
      have BK174:=n10_
      have BK175:=n11_
      have BK197:=n12_
      have BK204:=n13_
      have HB:=n14_
      clear n0_ n1_ n2_ n3_ n4_ n5_ n6_ n7_ n8_ n9_ n10_ n11_ n12_ n13_ n14_
      (try clear hb)
      (try clear hb2)
      (try clear hk)
      (try clear hi)
      refine hK.out _ _ ⟨(zP BK197.out 0).trans rfl,(zP BK197.out 1).trans rfl,(zP BK174.out 0).trans rfl,(zP BK174.out 1).trans rfl⟩ (fun hHeld => ?_)
      clear hK K
      refine norm_ (a':=?_) ?_ ?_
      rotate_left
      ·
       show Act.put _ (some 38) _ = _
       simp only [Act.put,zO,zEb,zFb,i64_w,i32_w]
       rfl
      refine pure_ (i:=4) (N:=some 39) (v:=?_) (a':=?_) #[true,true,true,true,true] rfl rfl (by kernel_rfl) (fun _ _ _ h => h) (Or.inl ⟨by rfl,?_⟩) ?_ ?_
      rotate_left
      ·
       intro w'
       go_simp
       with_reducible rfl
      rotate_left
      ·
       simp only [Act.put,zO,zEb,zFb,i64_w,i32_w]
       rfl
      refine done_ (by kernel_rfl) ?_
      try go_wp2
      have n0_:=zA (zH HO180.out)
      have n1_:=zA (zN HO183.out)
      have n2_:=zA (zH HO186.out)
      have n3_:=zA (zN HO189.out)
      have n4_:=zA (zH HO193.out)
      have n5_:=zA (zN HO196.out)
      have n6_:=zA (zH HO200.out)
      have n7_:=zA (zN HO203.out)
      have n8_:=zA (zH HO208.out)
      have n9_:=zA (zN HO211.out)
      have n10_:=zA (zI BK174.out)
      have n11_:=zA (zI BK175.out)
      have n12_:=zA (zI BK197.out)
      have n13_:=zA (zI BK204.out)
      have n14_:=zA (zJ HB.out)
      clear HO180
      clear HO183
      clear HO186
      clear HO189
      clear HO193
      clear HO196
      clear HO200
      clear HO203
      clear HO208
      clear HO211
      clear BK174
      clear BK175
      clear BK197
      clear BK204
      clear HB
      have HO180:=n0_
      have HO183:=n1_
      have HO186:=n2_
      have HO189:=n3_
      have HO193:=n4_
      have HO196:=n5_
      have HO200:=n6_
      have HO203:=n7_
      have HO208:=n8_
      have HO211:=n9_
      have BK174:=n10_
      have BK175:=n11_
      have BK197:=n12_
      have BK204:=n13_
      have HB:=n14_
      clear n0_ n1_ n2_ n3_ n4_ n5_ n6_ n7_ n8_ n9_ n10_ n11_ n12_ n13_ n14_
      refine start_ (n:=5) (S:=fun w' => w'.cell? ⟨gb204,0,none⟩ = some (.slice Ao136 t198.length co136) ∧ w'.cell? ⟨gb204,1,none⟩ = some (.slice Ao141 t201.length co141) ∧ w'.cell? ⟨gb175,0,none⟩ = some (.slice A1_0 l1_0.length c1_0) ∧ w'.cell? ⟨gb175,1,none⟩ = some (.slice A1_1 l1_1.length c1_1)) (ds:=[]) #[false,false,false,false,false] (by kernel_rfl) rfl rfl ⟨(zP BK204.out 0).trans rfl,(zP BK204.out 1).trans rfl,(zP BK175.out 0).trans rfl,(zP BK175.out 1).trans rfl⟩ (fun hHeld => ?_)
      generalize w148.drew = w149 at HO180 HO183 HO186 HO189 HO193 HO196 HO200 HO203 HO208 HO211 BK174 BK175 BK197 BK204 HB hHeld ⊢
      refine take_ (i:=0) (N:=some 40) (v:=?_) (a':=?_) #[true,false,false,false,false] rfl rfl (by kernel_rfl) (fun _ _ _ h => h) (Or.inl ⟨by rfl,?_⟩) hHeld ?_ ?_
      rotate_left
      ·
       rintro w' ⟨s0,s1,s2,s3⟩
       go_simp
       with_reducible rfl
      rotate_left
      ·
       simp only [Act.put,zO,zEb,zFb,i64_w,i32_w]
       rfl
      refine take_ (i:=1) (N:=some 41) (v:=?_) (a':=?_) #[true,true,false,false,false] rfl rfl (by kernel_rfl) (fun _ _ _ h => h) (Or.inl ⟨by rfl,?_⟩) hHeld ?_ ?_
      rotate_left
      ·
       rintro w' ⟨s0,s1,s2,s3⟩
       go_simp
       with_reducible rfl
      rotate_left
      ·
       simp only [Act.put,zO,zEb,zFb,i64_w,i32_w]
       rfl
      refine one_ (i:=2) (N:=some 42) #[true,true,true,false,false] rfl rfl (by kernel_rfl) (by decide) (fun K hK => ?_)
      refine goes_ Try.func32 (by kernel_rfl) rfl #[.agg #[.slice A1_0 l1_0.length c1_0,.slice A1_1 l1_1.length c1_1]] (by rfl) rfl rfl (by (try simp only [zCb,zMb,zNb]);first|done|rfl|(simp only [zLb,zDb];rfl)) ?_
      with_reducible refine (laws_toQuery.calls k _ _ l1_0 _ _ l1_1 t213 t216 _ ?side1 ?side2 ?side3 ?side4 A63.out).mono ?_
      (case side1 => repeat (first|exact (zKb HR1_0.out HB.out)|(with_reducible refine zBb ?_ _)|(with_reducible refine zAb ?_ _)|(with_reducible refine zX ?_)))
      (case side2 => exact HC1_0.out)
      (case side3 => repeat (first|exact (zKb HR1_1.out HB.out)|(with_reducible refine zBb ?_ _)|(with_reducible refine zAb ?_ _)|(with_reducible refine zX ?_)))
      (case side4 => exact HC1_1.out)
      rintro e w150 ⟨v214,v217,rfl,ho0,ho1,hb⟩
      refine ⟨_,rfl,?_⟩
      have n0_:=zA (zTb (by (with_reducible repeat (first|apply zE|apply zD|apply zH));exact HO180.out) (zW ho0) hb)
      have n1_:=zA (zS (zU (zU (Kd.S_old (by (with_reducible repeat (first|apply zM|apply zL|apply zN));exact HO183.out) hb) (zW ho0)) (Kd.S_base ho1)) (fun _ h_ => h_.1))
      have n2_:=zA (zTb (by (with_reducible repeat (first|apply zE|apply zD|apply zH));exact HO186.out) (zW ho0) hb)
      have n3_:=zA (zS (zU (zU (Kd.S_old (by (with_reducible repeat (first|apply zM|apply zL|apply zN));exact HO189.out) hb) (zW ho0)) (Kd.S_base ho1)) (fun _ h_ => h_.1))
      have n4_:=zA (zTb (by (with_reducible repeat (first|apply zE|apply zD|apply zH));exact HO193.out) (zW ho0) hb)
      have n5_:=zA (zS (zU (zU (Kd.S_old (by (with_reducible repeat (first|apply zM|apply zL|apply zN));exact HO196.out) hb) (zW ho0)) (Kd.S_base ho1)) (fun _ h_ => h_.1))
      have n6_:=zA (zTb (by (with_reducible repeat (first|apply zE|apply zD|apply zH));exact HO200.out) (zW ho0) hb)
      have n7_:=zA (zS (zU (zU (Kd.S_old (by (with_reducible repeat (first|apply zM|apply zL|apply zN));exact HO203.out) hb) (zW ho0)) (Kd.S_base ho1)) (fun _ h_ => h_.1))
      have n8_:=zA (zTb (by (with_reducible repeat (first|apply zE|apply zD|apply zH));exact HO208.out) (zW ho0) hb)
      have n9_:=zA (zS (zU (zU (Kd.S_old (by (with_reducible repeat (first|apply zM|apply zL|apply zN));exact HO211.out) hb) (zW ho0)) (Kd.S_base ho1)) (fun _ h_ => h_.1))
      have n10_:=zA (zHb (zQb (zQb (zQb (zQb (zQb ho0 (zOb (by (with_reducible repeat (first|apply zE|apply zD|apply zH));exact HO180.out))) (zOb (by (with_reducible repeat (first|apply zE|apply zD|apply zH));exact HO186.out))) (zOb (by (with_reducible repeat (first|apply zE|apply zD|apply zH));exact HO193.out))) (zOb (by (with_reducible repeat (first|apply zE|apply zD|apply zH));exact HO200.out))) (zOb (by (with_reducible repeat (first|apply zE|apply zD|apply zH));exact HO208.out))) (zT (by repeat (first|(with_reducible first|exact HB.out|apply zK|apply zC|apply zJ|refine zB ?_ GE174.out|refine zB ?_ GE175.out|refine zB ?_ GE197.out|refine zB ?_ GE204.out)|exact HB.out))))
      have n11_:=zA (zIb (zV (zV (zV (zV (zV (zV (zV (zV (zV (zV ho1 (zOb (by (with_reducible repeat (first|apply zE|apply zD|apply zH));exact HO180.out))) (Kd.S_lt (by (with_reducible repeat (first|apply zM|apply zL|apply zN));exact HO183.out))) (zOb (by (with_reducible repeat (first|apply zE|apply zD|apply zH));exact HO186.out))) (Kd.S_lt (by (with_reducible repeat (first|apply zM|apply zL|apply zN));exact HO189.out))) (zOb (by (with_reducible repeat (first|apply zE|apply zD|apply zH));exact HO193.out))) (Kd.S_lt (by (with_reducible repeat (first|apply zM|apply zL|apply zN));exact HO196.out))) (zOb (by (with_reducible repeat (first|apply zE|apply zD|apply zH));exact HO200.out))) (Kd.S_lt (by (with_reducible repeat (first|apply zM|apply zL|apply zN));exact HO203.out))) (zOb (by (with_reducible repeat (first|apply zE|apply zD|apply zH));exact HO208.out))) (Kd.S_lt (by (with_reducible repeat (first|apply zM|apply zL|apply zN));exact HO211.out))) (zT (by repeat (first|(with_reducible first|exact HB.out|apply zK|apply zC|apply zJ|refine zB ?_ GE174.out|refine zB ?_ GE175.out|refine zB ?_ GE197.out|refine zB ?_ GE204.out)|exact HB.out))))
      have n12_:=zA (zQ (g:=gb174) (o:=.cells #[.slice A0_0 l0_0.length c0_0,.slice A0_1 l0_1.length c0_1] 41 (0,0)) (by (with_reducible repeat (first|refine zF ?_ _|refine zI ?_|refine zG ?_ _));exact BK174.out) hb)
      have n13_:=zA (zQ (g:=gb175) (o:=.cells #[.slice A1_0 l1_0.length c1_0,.slice A1_1 l1_1.length c1_1] 41 (0,0)) (by (with_reducible repeat (first|refine zF ?_ _|refine zI ?_|refine zG ?_ _));exact BK175.out) hb)
      have n14_:=zA (zQ (g:=gb197) (o:=.cells #[.slice Ao128 t191.length co128,.slice Ao132 t194.length co132] 46 (0,0)) (by (with_reducible repeat (first|refine zF ?_ _|refine zI ?_|refine zG ?_ _));exact BK197.out) hb)
      have n15_:=zA (zQ (g:=gb204) (o:=.cells #[.slice Ao136 t198.length co136,.slice Ao141 t201.length co141] 46 (0,0)) (by (with_reducible repeat (first|refine zF ?_ _|refine zI ?_|refine zG ?_ _));exact BK204.out) hb)
      have n16_:=zA (zJb (by repeat (first|(with_reducible first|exact HB.out|apply zK|apply zC|apply zJ|refine zB ?_ GE174.out|refine zB ?_ GE175.out|refine zB ?_ GE197.out|refine zB ?_ GE204.out)|exact HB.out)) hb)
      clear HO180
      clear HO183
      clear HO186
      clear HO189
      clear HO193
      clear HO196
      clear HO200
      clear HO203
      clear HO208
      clear HO211
      clear BK174
      clear BK175
      clear BK197
      clear BK204
      clear HB
      have HO180:=n0_
      have HO183:=n1_
      have HO186:=n2_
      have HO189:=n3_
      have HO193:=n4_
      have HO196:=n5_
      have HO200:=n6_
      have HO203:=n7_
      have HO208:=n8_
      have HO211:=n9_
      have HO215:=n10_
      have HO218:=n11_
      have BK174:=n12_
      have BK175:=n13_
      have BK197:=n14_
      have BK204:=n15_
      have HB:=n16_
      clear n0_ n1_ n2_ n3_ n4_ n5_ n6_ n7_ n8_ n9_ n10_ n11_ n12_ n13_ n14_ n15_ n16_
      (try clear hb)
      (try clear hb2)
      (try clear hk)
      (try clear hi)
      (try clear ho0)
      (try clear ho1)
      obtain ⟨Ao151,co151,eo151⟩:=Kd.R_slice HO215.out
      (first|subst eo151|(injection eo151 with f1_ f2_ f3_;have f4_:=f1_.symm;have f5_:=f3_.symm;clear f1_ f2_ f3_;subst f4_;subst f5_))
      obtain ⟨Ao152,co152,eo152⟩:=Kd.S_slice HO218.out
      (first|subst eo152|(injection eo152 with f1_ f2_ f3_;have f4_:=f1_.symm;have f5_:=f3_.symm;clear f1_ f2_ f3_;subst f4_;subst f5_))
      refine hK.out _ _ ⟨(zP BK204.out 0).trans rfl,(zP BK204.out 1).trans rfl,(zP BK175.out 0).trans rfl,(zP BK175.out 1).trans rfl⟩ (fun hHeld => ?_)
      clear hK K
      refine norm_ (a':=?_) ?_ ?_
      rotate_left
      ·
       show Act.put _ (some 42) _ = _
       simp only [Act.put,zO,zEb,zFb,i64_w,i32_w]
       rfl
      refine one_ (i:=3) (N:=some 43) #[true,true,true,true,false] rfl rfl (by kernel_rfl) (by decide) (fun K hK => ?_)
      refine goes_ Try.func34 (by kernel_rfl) rfl #[.agg #[.slice Ao136 t198.length co136,.slice Ao141 t201.length co141],.agg #[.slice Ao151 t213.length co151,.slice Ao152 t216.length co152]] (by rfl) rfl rfl (by (try simp only [zCb,zMb,zNb]);first|done|rfl|(simp only [zLb,zDb];rfl)) ?_
      with_reducible refine (laws_eqQuery.calls k _ _ t198 _ _ t201 _ _ t213 _ _ t216 false _ ?side1 ?side2 ?side3 ?side4 ?side5 ?side6 ?side7 ?side8 A64.out).mono ?_
      (case side1 => repeat (first|exact (Kd.R_reads' HO200.out).2.2|(with_reducible refine zBb ?_ _)|(with_reducible refine zAb ?_ _)|(with_reducible refine zX ?_)))
      (case side2 => exact (Kd.R_reads' HO200.out).2.1)
      (case side3 => repeat (first|exact (Kd.S_reads' HO203.out).2.2|(with_reducible refine zBb ?_ _)|(with_reducible refine zAb ?_ _)|(with_reducible refine zX ?_)))
      (case side4 => exact (Kd.S_reads' HO203.out).2.1)
      (case side5 => repeat (first|exact (Kd.R_reads' HO215.out).2.2|(with_reducible refine zBb ?_ _)|(with_reducible refine zAb ?_ _)|(with_reducible refine zX ?_)))
      (case side6 => exact (Kd.R_reads' HO215.out).2.1)
      (case side7 => repeat (first|exact (Kd.S_reads' HO218.out).2.2|(with_reducible refine zBb ?_ _)|(with_reducible refine zAb ?_ _)|(with_reducible refine zX ?_)))
      (case side8 => exact (Kd.S_reads' HO218.out).2.1)
      rintro e w153 ⟨rfl,hb⟩
      refine ⟨_,rfl,?_⟩
      have n0_:=zA (zZ (by (with_reducible repeat (first|apply zE|apply zD|apply zH));exact HO180.out) hb)
      have n1_:=zA (zY (by (with_reducible repeat (first|apply zM|apply zL|apply zN));exact HO183.out) hb)
      have n2_:=zA (zZ (by (with_reducible repeat (first|apply zE|apply zD|apply zH));exact HO186.out) hb)
      have n3_:=zA (zY (by (with_reducible repeat (first|apply zM|apply zL|apply zN));exact HO189.out) hb)
      have n4_:=zA (zZ (by (with_reducible repeat (first|apply zE|apply zD|apply zH));exact HO193.out) hb)
      have n5_:=zA (zY (by (with_reducible repeat (first|apply zM|apply zL|apply zN));exact HO196.out) hb)
      have n6_:=zA (zZ (by (with_reducible repeat (first|apply zE|apply zD|apply zH));exact HO200.out) hb)
      have n7_:=zA (zY (by (with_reducible repeat (first|apply zM|apply zL|apply zN));exact HO203.out) hb)
      have n8_:=zA (zZ (by (with_reducible repeat (first|apply zE|apply zD|apply zH));exact HO208.out) hb)
      have n9_:=zA (zY (by (with_reducible repeat (first|apply zM|apply zL|apply zN));exact HO211.out) hb)
      have n10_:=zA (zZ (by (with_reducible repeat (first|apply zE|apply zD|apply zH));exact HO215.out) hb)
      have n11_:=zA (zY (by (with_reducible repeat (first|apply zM|apply zL|apply zN));exact HO218.out) hb)
      have n12_:=zA (zQ (g:=gb174) (o:=.cells #[.slice A0_0 l0_0.length c0_0,.slice A0_1 l0_1.length c0_1] 41 (0,0)) (by (with_reducible repeat (first|refine zF ?_ _|refine zI ?_|refine zG ?_ _));exact BK174.out) hb)
      have n13_:=zA (zQ (g:=gb175) (o:=.cells #[.slice A1_0 l1_0.length c1_0,.slice A1_1 l1_1.length c1_1] 41 (0,0)) (by (with_reducible repeat (first|refine zF ?_ _|refine zI ?_|refine zG ?_ _));exact BK175.out) hb)
      have n14_:=zA (zQ (g:=gb197) (o:=.cells #[.slice Ao128 t191.length co128,.slice Ao132 t194.length co132] 46 (0,0)) (by (with_reducible repeat (first|refine zF ?_ _|refine zI ?_|refine zG ?_ _));exact BK197.out) hb)
      have n15_:=zA (zQ (g:=gb204) (o:=.cells #[.slice Ao136 t198.length co136,.slice Ao141 t201.length co141] 46 (0,0)) (by (with_reducible repeat (first|refine zF ?_ _|refine zI ?_|refine zG ?_ _));exact BK204.out) hb)
      have n16_:=zA (zJb (by repeat (first|(with_reducible first|exact HB.out|apply zK|apply zC|apply zJ|refine zB ?_ GE174.out|refine zB ?_ GE175.out|refine zB ?_ GE197.out|refine zB ?_ GE204.out)|exact HB.out)) hb)
      clear HO180
      clear HO183
      clear HO186
      clear HO189
      clear HO193
      clear HO196
      clear HO200
      clear HO203
      clear HO208
      clear HO211
      clear HO215
      clear HO218
      clear BK174
      clear BK175
      clear BK197
      clear BK204
      clear HB
      have HO180:=n0_
      have HO183:=n1_
      have HO186:=n2_
      have HO189:=n3_
      have HO193:=n4_
      have HO196:=n5_
      have HO200:=n6_
      have HO203:=n7_
      have HO208:=n8_
      have HO211:=n9_
      have HO215:=n10_
      have HO218:=n11_
      have BK174:=n12_
      have BK175:=n13_
      have BK197:=n14_
      have BK204:=n15_
      have HB:=n16_
      clear n0_ n1_ n2_ n3_ n4_ n5_ n6_ n7_ n8_ n9_ n10_ n11_ n12_ n13_ n14_ n15_ n16_
      (try clear hb)
      (try clear hb2)
      (try clear hk)
      (try clear hi)
      refine hK.out _ _ ⟨(zP BK204.out 0).trans rfl,(zP BK204.out 1).trans rfl,(zP BK175.out 0).trans rfl,(zP BK175.out 1).trans rfl⟩ (fun hHeld => ?_)
      clear hK K
      refine norm_ (a':=?_) ?_ ?_
      rotate_left
      ·
       show Act.put _ (some 43) _ = _
       simp only [Act.put,zO,zEb,zFb,i64_w,i32_w]
       rfl
      refine pure_ (i:=4) (N:=some 44) (v:=?_) (a':=?_) #[true,true,true,true,true] rfl rfl (by kernel_rfl) (fun _ _ _ h => h) (Or.inl ⟨by rfl,?_⟩) ?_ ?_
      rotate_left
      ·
       intro w'
       go_simp
       with_reducible rfl
      rotate_left
      ·
       simp only [Act.put,zO,zEb,zFb,i64_w,i32_w]
       rfl
      refine done_ (by kernel_rfl) ?_
      try go_wp2
      go_ret
      exact ⟨by first|rfl|(simp [errW_none,errW_some] <;> rfl)|(simp [*,errW_none,errW_some] <;> rfl),by repeat (first|(with_reducible first|exact HB.out|apply zK|apply zC|apply zJ|refine zB ?_ GE174.out|refine zB ?_ GE175.out|refine zB ?_ GE197.out|refine zB ?_ GE204.out)|exact HB.out)⟩
    ·
     replace c62:=Bool.eq_false_iff.mpr c62
     subst c62
     have H1 : (some false) = some r:=by rw [if_neg (show ¬ (false = true) by decide)] at H;exact H
     clear H
     have H:=H1
     clear H1
     obtain rfl:=Option.some.inj H
     go_enter Try.func6,Try.ntmps6
     try go_wp2_with (first|((with_reducible refine gate_dst (N:=2) rfl ?_);refine box_event ?hg (N:=2) ?hd (cs:=#[.slice A0_0 l0_0.length c0_0,.slice A0_1 l0_1.length c0_1]) (t:=41) ?hr ?_;(case hd => rfl);(case hg => rfl);(case hr => first|(go_simp;done)|(go_simp;rfl));intro gb174 hg w154 hbox hb;have n0_:=zA (zJb (by repeat (first|(with_reducible first|exact HB.out|apply zK|apply zC|apply zJ)|exact HB.out)) hb);have n1_:=zA (hbox);have n2_:=zA ((by rw [hg];exact (zT (by repeat (first|(with_reducible first|exact HB.out|apply zK|apply zC|apply zJ)|exact HB.out))) : w.heap.size ≤ gb174));have n3_:=zA ((by rw [hg];exact (zT (by repeat (first|(with_reducible first|exact HB.out|apply zK|apply zC|apply zJ)|exact HB.out))) : w.heap.size ≤ gb174));clear HB;have HB:=n0_;have BK174:=n1_;have GW174:=n2_;have GE174:=n3_;clear n0_ n1_ n2_ n3_;clear hb hbox hg)|((with_reducible refine gate_dst (N:=3) rfl ?_);refine box_event ?hg (N:=3) ?hd (cs:=#[.slice A1_0 l1_0.length c1_0,.slice A1_1 l1_1.length c1_1]) (t:=41) ?hr ?_;(case hd => rfl);(case hg => rfl);(case hr => first|(go_simp;done)|(go_simp;rfl));intro gb175 hg w155 hbox hb;have n0_:=zA (zQ (g:=gb174) (o:=.cells #[.slice A0_0 l0_0.length c0_0,.slice A0_1 l0_1.length c0_1] 41 (0,0)) (by (with_reducible repeat (first|refine zF ?_ _|refine zI ?_|refine zG ?_ _));exact BK174.out) hb);have n1_:=zA (zJb (by repeat (first|(with_reducible first|exact HB.out|apply zK|apply zC|apply zJ|refine zB ?_ GE174.out)|exact HB.out)) hb);have n2_:=zA (hbox);have n3_:=zA ((by rw [hg];exact (zT (by repeat (first|(with_reducible first|exact HB.out|apply zK|apply zC|apply zJ|refine zB ?_ GE174.out)|exact HB.out))) : w.heap.size ≤ gb175));have n4_:=zA ((by rw [hg];exact (zT (by repeat (first|(with_reducible first|exact HB.out|apply zK|apply zC|apply zJ|refine zB ?_ GE174.out)|exact HB.out))) : w.heap.size ≤ gb175));have n5_:=zA ((by rw [hg];exact Nat.ne_of_lt (blk_lt (g:=gb174) (o:=.cells #[.slice A0_0 l0_0.length c0_0,.slice A0_1 l0_1.length c0_1] 41 (0,0)) (by (with_reducible repeat (first|refine zF ?_ _|refine zI ?_|refine zG ?_ _));exact BK174.out)) : gb174 ≠ gb175));have n6_:=zA ((by rw [hg];exact Nat.ne_of_gt (blk_lt (g:=gb174) (o:=.cells #[.slice A0_0 l0_0.length c0_0,.slice A0_1 l0_1.length c0_1] 41 (0,0)) (by (with_reducible repeat (first|refine zF ?_ _|refine zI ?_|refine zG ?_ _));exact BK174.out)) : gb175 ≠ gb174));clear BK174;clear HB;have BK174:=n0_;have HB:=n1_;have BK175:=n2_;have GW175:=n3_;have GE175:=n4_;have NB174_175:=n5_;have NB175_174:=n6_;clear n0_ n1_ n2_ n3_ n4_ n5_ n6_;clear hb hbox hg;have hnb156:=NB174_175.out;have hnc156:=NB175_174.out;have hcz157_0 : w155.cell? ⟨gb174,0,none⟩ = some (.slice A0_0 l0_0.length c0_0):=(zP BK174.out 0).trans rfl;have hcz157_1 : w155.cell? ⟨gb174,1,none⟩ = some (.slice A0_1 l0_1.length c0_1):=(zP BK174.out 1).trans rfl;have hfz157_0:=blk_frozen BK174.out 0;have hfz157_1:=blk_frozen BK174.out 1)|((with_reducible refine gate_callee (f:=30) rfl ?_);refine goesL_ (some 12) rfl rfl Try.func30 (by kernel_rfl) rfl #[.agg #[.slice A0_0 l0_0.length c0_0,.slice A0_1 l0_1.length c0_1],.int .i64 1048576] rfl (by (try simp only [zCb,zMb,zNb]);first|done|rfl|(simp only [zLb,zDb];rfl)) ?_;(with_reducible refine (laws_szQuery.calls k _ _ l0_0 _ _ l0_1 1048576 t176 _ ?side1 ?side2 ?side3 ?side4 A3.out).mono ?_);(case side1 => repeat (first|exact (zKb HR0_0.out HB.out)|(with_reducible refine zBb ?_ _)|(with_reducible refine zAb ?_ _)|(with_reducible refine zX ?_)));(case side2 => exact HC0_0.out);(case side3 => repeat (first|exact (zKb HR0_1.out HB.out)|(with_reducible refine zBb ?_ _)|(with_reducible refine zAb ?_ _)|(with_reducible refine zX ?_)));(case side4 => exact HC0_1.out);rintro e w158 ⟨rfl,hb⟩;refine ⟨_,rfl,?_⟩;have n0_:=zA (zQ (g:=gb174) (o:=.cells #[.slice A0_0 l0_0.length c0_0,.slice A0_1 l0_1.length c0_1] 41 (0,0)) (by (with_reducible repeat (first|refine zF ?_ _|refine zI ?_|refine zG ?_ _));exact BK174.out) hb);have n1_:=zA (zQ (g:=gb175) (o:=.cells #[.slice A1_0 l1_0.length c1_0,.slice A1_1 l1_1.length c1_1] 41 (0,0)) (by (with_reducible repeat (first|refine zF ?_ _|refine zI ?_|refine zG ?_ _));exact BK175.out) hb);have n2_:=zA (zJb (by repeat (first|(with_reducible first|exact HB.out|apply zK|apply zC|apply zJ|refine zB ?_ GE174.out|refine zB ?_ GE175.out)|exact HB.out)) hb);clear BK174;clear BK175;clear HB;have BK174:=n0_;have BK175:=n1_;have HB:=n2_;clear n0_ n1_ n2_;(try clear hb);(try clear hb2);(try clear hk);(try clear hi);have hcz159_0 : w158.cell? ⟨gb175,0,none⟩ = some (.slice A1_0 l1_0.length c1_0):=(zP BK175.out 0).trans rfl;have hcz159_1 : w158.cell? ⟨gb175,1,none⟩ = some (.slice A1_1 l1_1.length c1_1):=(zP BK175.out 1).trans rfl;have hfz159_0:=blk_frozen BK175.out 0;have hfz159_1:=blk_frozen BK175.out 1)|((with_reducible refine gate_callee (f:=30) rfl ?_);refine goesL_ (some 17) rfl rfl Try.func30 (by kernel_rfl) rfl #[.agg #[.slice A1_0 l1_0.length c1_0,.slice A1_1 l1_1.length c1_1],.int .i64 t176] rfl (by (try simp only [zCb,zMb,zNb]);first|done|rfl|(simp only [zLb,zDb];rfl)) ?_;(with_reducible refine (laws_szQuery.calls k _ _ l1_0 _ _ l1_1 t176 t177 _ ?side1 ?side2 ?side3 ?side4 A10.out).mono ?_);(case side1 => repeat (first|exact (zKb HR1_0.out HB.out)|(with_reducible refine zBb ?_ _)|(with_reducible refine zAb ?_ _)|(with_reducible refine zX ?_)));(case side2 => exact HC1_0.out);(case side3 => repeat (first|exact (zKb HR1_1.out HB.out)|(with_reducible refine zBb ?_ _)|(with_reducible refine zAb ?_ _)|(with_reducible refine zX ?_)));(case side4 => exact HC1_1.out);rintro e w160 ⟨rfl,hb⟩;refine ⟨_,rfl,?_⟩;have n0_:=zA (zQ (g:=gb174) (o:=.cells #[.slice A0_0 l0_0.length c0_0,.slice A0_1 l0_1.length c0_1] 41 (0,0)) (by (with_reducible repeat (first|refine zF ?_ _|refine zI ?_|refine zG ?_ _));exact BK174.out) hb);have n1_:=zA (zQ (g:=gb175) (o:=.cells #[.slice A1_0 l1_0.length c1_0,.slice A1_1 l1_1.length c1_1] 41 (0,0)) (by (with_reducible repeat (first|refine zF ?_ _|refine zI ?_|refine zG ?_ _));exact BK175.out) hb);have n2_:=zA (zJb (by repeat (first|(with_reducible first|exact HB.out|apply zK|apply zC|apply zJ|refine zB ?_ GE174.out|refine zB ?_ GE175.out)|exact HB.out)) hb);clear BK174;clear BK175;clear HB;have BK174:=n0_;have BK175:=n1_;have HB:=n2_;clear n0_ n1_ n2_;(try clear hb);(try clear hb2);(try clear hk);(try clear hi)))
     have n0_:=zA (zI BK174.out)
     have n1_:=zA (zI BK175.out)
     have n2_:=zA (zJ HB.out)
     clear BK174
     clear BK175
     clear HB
     have BK174:=n0_
     have BK175:=n1_
     have HB:=n2_
     clear n0_ n1_ n2_
     refine start_ (n:=6) (S:=fun w' => w'.cell? ⟨gb174,0,none⟩ = some (.slice A0_0 l0_0.length c0_0) ∧ w'.cell? ⟨gb174,1,none⟩ = some (.slice A0_1 l0_1.length c0_1) ∧ w'.cell? ⟨gb175,0,none⟩ = some (.slice A1_0 l1_0.length c1_0) ∧ w'.cell? ⟨gb175,1,none⟩ = some (.slice A1_1 l1_1.length c1_1)) (ds:=[]) #[false,false,false,false,false,false] (by kernel_rfl) rfl rfl ⟨(zP BK174.out 0).trans rfl,(zP BK174.out 1).trans rfl,(zP BK175.out 0).trans rfl,(zP BK175.out 1).trans rfl⟩ (fun hHeld => ?_)
     generalize w160.drew = w161 at BK174 BK175 HB hHeld ⊢
     refine take_ (i:=0) (N:=some 20) (v:=?_) (a':=?_) #[true,false,false,false,false,false] rfl rfl (by kernel_rfl) (fun _ _ _ h => h) (Or.inl ⟨by rfl,?_⟩) hHeld ?_ ?_
     rotate_left
     ·
      rintro w' ⟨s0,s1,s2,s3⟩
      go_simp
      with_reducible rfl
     rotate_left
     ·
      simp only [Act.put,zO,zEb,zFb,i64_w,i32_w]
      rfl
     refine take_ (i:=2) (N:=some 22) (v:=?_) (a':=?_) #[true,false,true,false,false,false] rfl rfl (by kernel_rfl) (fun _ _ _ h => h) (Or.inl ⟨by rfl,?_⟩) hHeld ?_ ?_
     rotate_left
     ·
      rintro w' ⟨s0,s1,s2,s3⟩
      go_simp
      with_reducible rfl
     rotate_left
     ·
      simp only [Act.put,zO,zEb,zFb,i64_w,i32_w]
      rfl
     refine one_ (i:=1) (N:=some 21) #[true,true,true,false,false,false] rfl rfl (by kernel_rfl) (by decide) (fun K hK => ?_)
     refine goes_ Try.func32 (by kernel_rfl) rfl #[.agg #[.slice A0_0 l0_0.length c0_0,.slice A0_1 l0_1.length c0_1]] (by rfl) rfl rfl (by (try simp only [zCb,zMb,zNb]);first|done|rfl|(simp only [zLb,zDb];rfl)) ?_
     with_reducible refine (laws_toQuery.calls k _ _ l0_0 _ _ l0_1 t178 t181 _ ?side1 ?side2 ?side3 ?side4 A19.out).mono ?_
     (case side1 => repeat (first|exact (zKb HR0_0.out HB.out)|(with_reducible refine zBb ?_ _)|(with_reducible refine zAb ?_ _)|(with_reducible refine zX ?_)))
     (case side2 => exact HC0_0.out)
     (case side3 => repeat (first|exact (zKb HR0_1.out HB.out)|(with_reducible refine zBb ?_ _)|(with_reducible refine zAb ?_ _)|(with_reducible refine zX ?_)))
     (case side4 => exact HC0_1.out)
     rintro e w162 ⟨v179,v182,rfl,ho0,ho1,hb⟩
     refine ⟨_,rfl,?_⟩
     have n0_:=zA (zHb ho0 (zT (by repeat (first|(with_reducible first|exact HB.out|apply zK|apply zC|apply zJ|refine zB ?_ GE174.out|refine zB ?_ GE175.out)|exact HB.out))))
     have n1_:=zA (zIb ho1 (zT (by repeat (first|(with_reducible first|exact HB.out|apply zK|apply zC|apply zJ|refine zB ?_ GE174.out|refine zB ?_ GE175.out)|exact HB.out))))
     have n2_:=zA (zQ (g:=gb174) (o:=.cells #[.slice A0_0 l0_0.length c0_0,.slice A0_1 l0_1.length c0_1] 41 (0,0)) (by (with_reducible repeat (first|refine zF ?_ _|refine zI ?_|refine zG ?_ _));exact BK174.out) hb)
     have n3_:=zA (zQ (g:=gb175) (o:=.cells #[.slice A1_0 l1_0.length c1_0,.slice A1_1 l1_1.length c1_1] 41 (0,0)) (by (with_reducible repeat (first|refine zF ?_ _|refine zI ?_|refine zG ?_ _));exact BK175.out) hb)
     have n4_:=zA (zJb (by repeat (first|(with_reducible first|exact HB.out|apply zK|apply zC|apply zJ|refine zB ?_ GE174.out|refine zB ?_ GE175.out)|exact HB.out)) hb)
     clear BK174
     clear BK175
     clear HB
     have HO180:=n0_
     have HO183:=n1_
     have BK174:=n2_
     have BK175:=n3_
     have HB:=n4_
     clear n0_ n1_ n2_ n3_ n4_
     (try clear hb)
     (try clear hb2)
     (try clear hk)
     (try clear hi)
     (try clear ho0)
     (try clear ho1)
     refine hK.out _ _ ⟨(zP BK174.out 0).trans rfl,(zP BK174.out 1).trans rfl,(zP BK175.out 0).trans rfl,(zP BK175.out 1).trans rfl⟩ (fun hHeld => ?_)
     clear hK K
     refine norm_ (a':=?_) ?_ ?_
     rotate_left
     ·
      show Act.put _ (some 21) _ = _
      simp only [Act.put,zO,zEb,zFb,i64_w,i32_w]
      rfl
     refine one_ (i:=3) (N:=some 23) #[true,true,true,true,false,false] rfl rfl (by kernel_rfl) (by decide) (fun K hK => ?_)
     refine goes_ Try.func32 (by kernel_rfl) rfl #[.agg #[.slice A1_0 l1_0.length c1_0,.slice A1_1 l1_1.length c1_1]] (by rfl) rfl rfl (by (try simp only [zCb,zMb,zNb]);first|done|rfl|(simp only [zLb,zDb];rfl)) ?_
     with_reducible refine (laws_toQuery.calls k _ _ l1_0 _ _ l1_1 t184 t187 _ ?side1 ?side2 ?side3 ?side4 A20.out).mono ?_
     (case side1 => repeat (first|exact (zKb HR1_0.out HB.out)|(with_reducible refine zBb ?_ _)|(with_reducible refine zAb ?_ _)|(with_reducible refine zX ?_)))
     (case side2 => exact HC1_0.out)
     (case side3 => repeat (first|exact (zKb HR1_1.out HB.out)|(with_reducible refine zBb ?_ _)|(with_reducible refine zAb ?_ _)|(with_reducible refine zX ?_)))
     (case side4 => exact HC1_1.out)
     rintro e w163 ⟨v185,v188,rfl,ho0,ho1,hb⟩
     refine ⟨_,rfl,?_⟩
     have n0_:=zA (zTb (by (with_reducible repeat (first|apply zE|apply zD|apply zH));exact HO180.out) (zW ho0) hb)
     have n1_:=zA (zS (zU (zU (Kd.S_old (by (with_reducible repeat (first|apply zM|apply zL|apply zN));exact HO183.out) hb) (zW ho0)) (Kd.S_base ho1)) (fun _ h_ => h_.1))
     have n2_:=zA (zHb (zQb ho0 (zOb (by (with_reducible repeat (first|apply zE|apply zD|apply zH));exact HO180.out))) (zT (by repeat (first|(with_reducible first|exact HB.out|apply zK|apply zC|apply zJ|refine zB ?_ GE174.out|refine zB ?_ GE175.out)|exact HB.out))))
     have n3_:=zA (zIb (zV (zV ho1 (zOb (by (with_reducible repeat (first|apply zE|apply zD|apply zH));exact HO180.out))) (Kd.S_lt (by (with_reducible repeat (first|apply zM|apply zL|apply zN));exact HO183.out))) (zT (by repeat (first|(with_reducible first|exact HB.out|apply zK|apply zC|apply zJ|refine zB ?_ GE174.out|refine zB ?_ GE175.out)|exact HB.out))))
     have n4_:=zA (zQ (g:=gb174) (o:=.cells #[.slice A0_0 l0_0.length c0_0,.slice A0_1 l0_1.length c0_1] 41 (0,0)) (by (with_reducible repeat (first|refine zF ?_ _|refine zI ?_|refine zG ?_ _));exact BK174.out) hb)
     have n5_:=zA (zQ (g:=gb175) (o:=.cells #[.slice A1_0 l1_0.length c1_0,.slice A1_1 l1_1.length c1_1] 41 (0,0)) (by (with_reducible repeat (first|refine zF ?_ _|refine zI ?_|refine zG ?_ _));exact BK175.out) hb)
     have n6_:=zA (zJb (by repeat (first|(with_reducible first|exact HB.out|apply zK|apply zC|apply zJ|refine zB ?_ GE174.out|refine zB ?_ GE175.out)|exact HB.out)) hb)
     clear HO180
     clear HO183
     clear BK174
     clear BK175
     clear HB
     have HO180:=n0_
     have HO183:=n1_
     have HO186:=n2_
     have HO189:=n3_
     have BK174:=n4_
     have BK175:=n5_
     have HB:=n6_
     clear n0_ n1_ n2_ n3_ n4_ n5_ n6_
     (try clear hb)
     (try clear hb2)
     (try clear hk)
     (try clear hi)
     (try clear ho0)
     (try clear ho1)
     obtain ⟨Ao164,co164,eo164⟩:=Kd.R_slice HO180.out
     (first|subst eo164|(injection eo164 with f1_ f2_ f3_;have f4_:=f1_.symm;have f5_:=f3_.symm;clear f1_ f2_ f3_;subst f4_;subst f5_))
     obtain ⟨Ao165,co165,eo165⟩:=Kd.S_slice HO183.out
     (first|subst eo165|(injection eo165 with f1_ f2_ f3_;have f4_:=f1_.symm;have f5_:=f3_.symm;clear f1_ f2_ f3_;subst f4_;subst f5_))
     obtain ⟨Ao166,co166,eo166⟩:=Kd.R_slice HO186.out
     (first|subst eo166|(injection eo166 with f1_ f2_ f3_;have f4_:=f1_.symm;have f5_:=f3_.symm;clear f1_ f2_ f3_;subst f4_;subst f5_))
     obtain ⟨Ao167,co167,eo167⟩:=Kd.S_slice HO189.out
     (first|subst eo167|(injection eo167 with f1_ f2_ f3_;have f4_:=f1_.symm;have f5_:=f3_.symm;clear f1_ f2_ f3_;subst f4_;subst f5_))
     refine hK.out _ _ ⟨(zP BK174.out 0).trans rfl,(zP BK174.out 1).trans rfl,(zP BK175.out 0).trans rfl,(zP BK175.out 1).trans rfl⟩ (fun hHeld => ?_)
     clear hK K
     refine norm_ (a':=?_) ?_ ?_
     rotate_left
     ·
      show Act.put _ (some 23) _ = _
      simp only [Act.put,zO,zEb,zFb,i64_w,i32_w]
      rfl
     refine one_ (i:=4) (N:=some 24) #[true,true,true,true,true,false] rfl rfl (by kernel_rfl) (by decide) (fun K hK => ?_)
     refine goes_ Try.func31 (by kernel_rfl) rfl #[.agg #[.slice Ao164 t178.length co164,.slice Ao165 t181.length co165],.agg #[.slice Ao166 t184.length co166,.slice Ao167 t187.length co167]] (by rfl) rfl rfl (by (try simp only [zCb,zMb,zNb]);first|done|rfl|(simp only [zLb,zDb];rfl)) ?_
     with_reducible refine (spec_EqualQueries.calls k _ _ t178 _ _ t181 _ _ t184 _ _ t187 t190 _ ?side1 ?side2 ?side3 ?side4 ?side5 ?side6 ?side7 ?side8 A21.out).mono ?_
     (case side1 => repeat (first|exact (Kd.R_reads' HO180.out).2.2|(with_reducible refine zBb ?_ _)|(with_reducible refine zAb ?_ _)|(with_reducible refine zX ?_)))
     (case side2 => exact (Kd.R_reads' HO180.out).2.1)
     (case side3 => repeat (first|exact (Kd.S_reads' HO183.out).2.2|(with_reducible refine zBb ?_ _)|(with_reducible refine zAb ?_ _)|(with_reducible refine zX ?_)))
     (case side4 => exact (Kd.S_reads' HO183.out).2.1)
     (case side5 => repeat (first|exact (Kd.R_reads' HO186.out).2.2|(with_reducible refine zBb ?_ _)|(with_reducible refine zAb ?_ _)|(with_reducible refine zX ?_)))
     (case side6 => exact (Kd.R_reads' HO186.out).2.1)
     (case side7 => repeat (first|exact (Kd.S_reads' HO189.out).2.2|(with_reducible refine zBb ?_ _)|(with_reducible refine zAb ?_ _)|(with_reducible refine zX ?_)))
     (case side8 => exact (Kd.S_reads' HO189.out).2.1)
     rintro e w168 ⟨rfl,hb⟩
     refine ⟨_,rfl,?_⟩
     have n0_:=zA (zZ (by (with_reducible repeat (first|apply zE|apply zD|apply zH));exact HO180.out) hb)
     have n1_:=zA (zY (by (with_reducible repeat (first|apply zM|apply zL|apply zN));exact HO183.out) hb)
     have n2_:=zA (zZ (by (with_reducible repeat (first|apply zE|apply zD|apply zH));exact HO186.out) hb)
     have n3_:=zA (zY (by (with_reducible repeat (first|apply zM|apply zL|apply zN));exact HO189.out) hb)
     have n4_:=zA (zQ (g:=gb174) (o:=.cells #[.slice A0_0 l0_0.length c0_0,.slice A0_1 l0_1.length c0_1] 41 (0,0)) (by (with_reducible repeat (first|refine zF ?_ _|refine zI ?_|refine zG ?_ _));exact BK174.out) hb)
     have n5_:=zA (zQ (g:=gb175) (o:=.cells #[.slice A1_0 l1_0.length c1_0,.slice A1_1 l1_1.length c1_1] 41 (0,0)) (by (with_reducible repeat (first|refine zF ?_ _|refine zI ?_|refine zG ?_ _));exact BK175.out) hb)
     have n6_:=zA (zJb (by repeat (first|(with_reducible first|exact HB.out|apply zK|apply zC|apply zJ|refine zB ?_ GE174.out|refine zB ?_ GE175.out)|exact HB.out)) hb)
     clear HO180
     clear HO183
     clear HO186
     clear HO189
     clear BK174
     clear BK175
     clear HB
     have HO180:=n0_
     have HO183:=n1_
     have HO186:=n2_
     have HO189:=n3_
     have BK174:=n4_
     have BK175:=n5_
     have HB:=n6_
     clear n0_ n1_ n2_ n3_ n4_ n5_ n6_
     (try clear hb)
     (try clear hb2)
     (try clear hk)
     (try clear hi)
     refine hK.out _ _ ⟨(zP BK174.out 0).trans rfl,(zP BK174.out 1).trans rfl,(zP BK175.out 0).trans rfl,(zP BK175.out 1).trans rfl⟩ (fun hHeld => ?_)
     clear hK K
     refine norm_ (a':=?_) ?_ ?_
     rotate_left
     ·
      show Act.put _ (some 24) _ = _
      simp only [Act.put,zO,zEb,zFb,i64_w,i32_w]
      rfl
     refine pure_ (i:=5) (N:=some 6) (v:=?_) (a':=?_) #[true,true,true,true,true,true] rfl rfl (by kernel_rfl) (fun _ _ _ h => h) (Or.inl ⟨by rfl,?_⟩) ?_ ?_
     rotate_left
     ·
      intro w'
      go_simp
      with_reducible rfl
     rotate_left
     ·
      simp only [Act.put,zO,zEb,zFb,i64_w,i32_w]
      rfl
     refine done_ (by kernel_rfl) ?_
     have hcz169_0 : w168.cell? ⟨gb174,0,none⟩ = some (.slice A0_0 l0_0.length c0_0):=(zP BK174.out 0).trans rfl
     have hcz169_1 : w168.cell? ⟨gb174,1,none⟩ = some (.slice A0_1 l0_1.length c0_1):=(zP BK174.out 1).trans rfl
     have hfz169_0:=blk_frozen BK174.out 0
     have hfz169_1:=blk_frozen BK174.out 1
     try go_wp2_with (first|((with_reducible refine gate_callee (f:=32) rfl ?_);refine goesL_ (some 26) rfl rfl Try.func32 (by kernel_rfl) rfl #[.agg #[.slice A0_0 l0_0.length c0_0,.slice A0_1 l0_1.length c0_1]] rfl (by (try simp only [zCb,zMb,zNb]);first|done|rfl|(simp only [zLb,zDb];rfl)) ?_;(with_reducible refine (laws_toQuery.calls k _ _ l0_0 _ _ l0_1 t191 t194 _ ?side1 ?side2 ?side3 ?side4 A22.out).mono ?_);(case side1 => repeat (first|exact (zKb HR0_0.out HB.out)|(with_reducible refine zBb ?_ _)|(with_reducible refine zAb ?_ _)|(with_reducible refine zX ?_)));(case side2 => exact HC0_0.out);(case side3 => repeat (first|exact (zKb HR0_1.out HB.out)|(with_reducible refine zBb ?_ _)|(with_reducible refine zAb ?_ _)|(with_reducible refine zX ?_)));(case side4 => exact HC0_1.out);rintro e w170 ⟨v192,v195,rfl,ho0,ho1,hb⟩;refine ⟨_,rfl,?_⟩;have n0_:=zA (zTb (by (with_reducible repeat (first|apply zE|apply zD|apply zH));exact HO180.out) (zW ho0) hb);have n1_:=zA (zS (zU (zU (Kd.S_old (by (with_reducible repeat (first|apply zM|apply zL|apply zN));exact HO183.out) hb) (zW ho0)) (Kd.S_base ho1)) (fun _ h_ => h_.1));have n2_:=zA (zTb (by (with_reducible repeat (first|apply zE|apply zD|apply zH));exact HO186.out) (zW ho0) hb);have n3_:=zA (zS (zU (zU (Kd.S_old (by (with_reducible repeat (first|apply zM|apply zL|apply zN));exact HO189.out) hb) (zW ho0)) (Kd.S_base ho1)) (fun _ h_ => h_.1));have n4_:=zA (zHb (zQb (zQb ho0 (zOb (by (with_reducible repeat (first|apply zE|apply zD|apply zH));exact HO180.out))) (zOb (by (with_reducible repeat (first|apply zE|apply zD|apply zH));exact HO186.out))) (zT (by repeat (first|(with_reducible first|exact HB.out|apply zK|apply zC|apply zJ|refine zB ?_ GE174.out|refine zB ?_ GE175.out)|exact HB.out))));have n5_:=zA (zIb (zV (zV (zV (zV ho1 (zOb (by (with_reducible repeat (first|apply zE|apply zD|apply zH));exact HO180.out))) (Kd.S_lt (by (with_reducible repeat (first|apply zM|apply zL|apply zN));exact HO183.out))) (zOb (by (with_reducible repeat (first|apply zE|apply zD|apply zH));exact HO186.out))) (Kd.S_lt (by (with_reducible repeat (first|apply zM|apply zL|apply zN));exact HO189.out))) (zT (by repeat (first|(with_reducible first|exact HB.out|apply zK|apply zC|apply zJ|refine zB ?_ GE174.out|refine zB ?_ GE175.out)|exact HB.out))));have n6_:=zA (zQ (g:=gb174) (o:=.cells #[.slice A0_0 l0_0.length c0_0,.slice A0_1 l0_1.length c0_1] 41 (0,0)) (by (with_reducible repeat (first|refine zF ?_ _|refine zI ?_|refine zG ?_ _));exact BK174.out) hb);have n7_:=zA (zQ (g:=gb175) (o:=.cells #[.slice A1_0 l1_0.length c1_0,.slice A1_1 l1_1.length c1_1] 41 (0,0)) (by (with_reducible repeat (first|refine zF ?_ _|refine zI ?_|refine zG ?_ _));exact BK175.out) hb);have n8_:=zA (zJb (by repeat (first|(with_reducible first|exact HB.out|apply zK|apply zC|apply zJ|refine zB ?_ GE174.out|refine zB ?_ GE175.out)|exact HB.out)) hb);clear HO180;clear HO183;clear HO186;clear HO189;clear BK174;clear BK175;clear HB;have HO180:=n0_;have HO183:=n1_;have HO186:=n2_;have HO189:=n3_;have HO193:=n4_;have HO196:=n5_;have BK174:=n6_;have BK175:=n7_;have HB:=n8_;clear n0_ n1_ n2_ n3_ n4_ n5_ n6_ n7_ n8_;(try clear hb);(try clear hb2);(try clear hk);(try clear hi);(try clear ho0);(try clear ho1))|((with_reducible refine gate_dst (N:=7) rfl ?_);refine box_event ?hg (N:=7) ?hd (cs:=#[.slice none 0 0,.slice none 0 0]) (t:=46) ?hr ?_;(case hd => rfl);(case hg => rfl);(case hr => first|(go_simp;done)|(go_simp;rfl));intro gb197 hg w171 hbox hb;have n0_:=zA (zZ (by (with_reducible repeat (first|apply zE|apply zD|apply zH));exact HO180.out) hb);have n1_:=zA (zY (by (with_reducible repeat (first|apply zM|apply zL|apply zN));exact HO183.out) hb);have n2_:=zA (zZ (by (with_reducible repeat (first|apply zE|apply zD|apply zH));exact HO186.out) hb);have n3_:=zA (zY (by (with_reducible repeat (first|apply zM|apply zL|apply zN));exact HO189.out) hb);have n4_:=zA (zZ (by (with_reducible repeat (first|apply zE|apply zD|apply zH));exact HO193.out) hb);have n5_:=zA (zY (by (with_reducible repeat (first|apply zM|apply zL|apply zN));exact HO196.out) hb);have n6_:=zA (zQ (g:=gb174) (o:=.cells #[.slice A0_0 l0_0.length c0_0,.slice A0_1 l0_1.length c0_1] 41 (0,0)) (by (with_reducible repeat (first|refine zF ?_ _|refine zI ?_|refine zG ?_ _));exact BK174.out) hb);have n7_:=zA (zQ (g:=gb175) (o:=.cells #[.slice A1_0 l1_0.length c1_0,.slice A1_1 l1_1.length c1_1] 41 (0,0)) (by (with_reducible repeat (first|refine zF ?_ _|refine zI ?_|refine zG ?_ _));exact BK175.out) hb);have n8_:=zA (zJb (by repeat (first|(with_reducible first|exact HB.out|apply zK|apply zC|apply zJ|refine zB ?_ GE174.out|refine zB ?_ GE175.out)|exact HB.out)) hb);have n9_:=zA (hbox);have n10_:=zA ((by rw [hg];exact (zT (by repeat (first|(with_reducible first|exact HB.out|apply zK|apply zC|apply zJ|refine zB ?_ GE174.out|refine zB ?_ GE175.out)|exact HB.out))) : w.heap.size ≤ gb197));have n11_:=zA ((by rw [hg];exact (zT (by repeat (first|(with_reducible first|exact HB.out|apply zK|apply zC|apply zJ|refine zB ?_ GE174.out|refine zB ?_ GE175.out)|exact HB.out))) : w.heap.size ≤ gb197));have n12_:=zA ((by rw [hg];exact Nat.ne_of_lt (blk_lt (g:=gb174) (o:=.cells #[.slice A0_0 l0_0.length c0_0,.slice A0_1 l0_1.length c0_1] 41 (0,0)) (by (with_reducible repeat (first|refine zF ?_ _|refine zI ?_|refine zG ?_ _));exact BK174.out)) : gb174 ≠ gb197));have n13_:=zA ((by rw [hg];exact Nat.ne_of_gt (blk_lt (g:=gb174) (o:=.cells #[.slice A0_0 l0_0.length c0_0,.slice A0_1 l0_1.length c0_1] 41 (0,0)) (by (with_reducible repeat (first|refine zF ?_ _|refine zI ?_|refine zG ?_ _));exact BK174.out)) : gb197 ≠ gb174));have n14_:=zA ((by rw [hg];exact Nat.ne_of_lt (blk_lt (g:=gb175) (o:=.cells #[.slice A1_0 l1_0.length c1_0,.slice A1_1 l1_1.length c1_1] 41 (0,0)) (by (with_reducible repeat (first|refine zF ?_ _|refine zI ?_|refine zG ?_ _));exact BK175.out)) : gb175 ≠ gb197));have n15_:=zA ((by rw [hg];exact Nat.ne_of_gt (blk_lt (g:=gb175) (o:=.cells #[.slice A1_0 l1_0.length c1_0,.slice A1_1 l1_1.length c1_1] 41 (0,0)) (by (with_reducible repeat (first|refine zF ?_ _|refine zI ?_|refine zG ?_ _));exact BK175.out)) : gb197 ≠ gb175));clear HO180;clear HO183;clear HO186;clear HO189;clear HO193;clear HO196;clear BK174;clear BK175;clear HB;have HO180:=n0_;have HO183:=n1_;have HO186:=n2_;have HO189:=n3_;have HO193:=n4_;have HO196:=n5_;have BK174:=n6_;have BK175:=n7_;have HB:=n8_;have BK197:=n9_;have GW197:=n10_;have GE197:=n11_;have NB174_197:=n12_;have NB197_174:=n13_;have NB175_197:=n14_;have NB197_175:=n15_;clear n0_ n1_ n2_ n3_ n4_ n5_ n6_ n7_ n8_ n9_ n10_ n11_ n12_ n13_ n14_ n15_;clear hb hbox hg;obtain ⟨Ao172,co172,eo172⟩:=Kd.R_slice HO193.out;subst eo172;have hnb173:=NB197_174.out;have hnc173:=NB174_197.out;have hnb174:=NB197_175.out;have hnc174:=NB175_197.out;have hcz175_0 : w171.cell? ⟨gb197,0,none⟩ = some (.slice none 0 0):=(zP BK197.out 0).trans rfl;have hcz175_1 : w171.cell? ⟨gb197,1,none⟩ = some (.slice none 0 0):=(zP BK197.out 1).trans rfl;have hfz175_0:=blk_frozen BK197.out 0;have hfz175_1:=blk_frozen BK197.out 1;obtain ⟨Ao176,co176,eo176⟩:=Kd.S_slice HO196.out;subst eo176;have hcz177_0 : w171.cell? ⟨gb175,0,none⟩ = some (.slice A1_0 l1_0.length c1_0):=(zP BK175.out 0).trans rfl;have hcz177_1 : w171.cell? ⟨gb175,1,none⟩ = some (.slice A1_1 l1_1.length c1_1):=(zP BK175.out 1).trans rfl;have hfz177_0:=blk_frozen BK175.out 0;have hfz177_1:=blk_frozen BK175.out 1)|((with_reducible refine gate_callee (f:=32) rfl ?_);refine goesL_ (some 28) rfl rfl Try.func32 (by kernel_rfl) rfl #[.agg #[.slice A1_0 l1_0.length c1_0,.slice A1_1 l1_1.length c1_1]] rfl (by (try simp only [zCb,zMb,zNb]);first|done|rfl|(simp only [zLb,zDb];rfl)) ?_;(with_reducible refine (laws_toQuery.calls k _ _ l1_0 _ _ l1_1 t198 t201 _ ?side1 ?side2 ?side3 ?side4 A23.out).mono ?_);(case side1 => exact zKb HR1_0.out (by repeat (first|(with_reducible first|exact HB.out|apply zK|apply zC|apply zJ|refine zB ?_ GE174.out|refine zB ?_ GE175.out|refine zB ?_ GE197.out)|exact HB.out)));(case side2 => exact HC1_0.out);(case side3 => exact zKb HR1_1.out (by repeat (first|(with_reducible first|exact HB.out|apply zK|apply zC|apply zJ|refine zB ?_ GE174.out|refine zB ?_ GE175.out|refine zB ?_ GE197.out)|exact HB.out)));(case side4 => exact HC1_1.out);rintro e w178 ⟨v199,v202,rfl,ho0,ho1,hb⟩;refine ⟨_,rfl,?_⟩;have n0_:=zA (zTb (by (with_reducible repeat (first|apply zE|apply zD|apply zH));exact (zGb (zR (p:=⟨gb197,1,none⟩) (zR (p:=⟨gb197,0,none⟩) (Kd.R_types HO180.out BK197.out (by decide)) (fun _ hk => hk.2) (.slice Ao172 t191.length co172)) (fun _ hk => hk.2) (.slice Ao176 t194.length co176)) (fun _ h_ => h_.1))) (zW ho0) hb);have n1_:=zA (zS (zU (zU (Kd.S_old (by (with_reducible repeat (first|apply zM|apply zL|apply zN));exact (zS (zVb (p:=⟨gb197,1,none⟩) (zVb (p:=⟨gb197,0,none⟩) (Kd.S_types HO183.out BK197.out (by decide)) (fun _ hk => hk.2) (.slice Ao172 t191.length co172)) (fun _ hk => hk.2) (.slice Ao176 t194.length co176)) (fun _ h_ => h_.1))) hb) (zW ho0)) (Kd.S_base ho1)) (fun _ h_ => h_.1));have n2_:=zA (zTb (by (with_reducible repeat (first|apply zE|apply zD|apply zH));exact (zGb (zR (p:=⟨gb197,1,none⟩) (zR (p:=⟨gb197,0,none⟩) (Kd.R_types HO186.out BK197.out (by decide)) (fun _ hk => hk.2) (.slice Ao172 t191.length co172)) (fun _ hk => hk.2) (.slice Ao176 t194.length co176)) (fun _ h_ => h_.1))) (zW ho0) hb);have n3_:=zA (zS (zU (zU (Kd.S_old (by (with_reducible repeat (first|apply zM|apply zL|apply zN));exact (zS (zVb (p:=⟨gb197,1,none⟩) (zVb (p:=⟨gb197,0,none⟩) (Kd.S_types HO189.out BK197.out (by decide)) (fun _ hk => hk.2) (.slice Ao172 t191.length co172)) (fun _ hk => hk.2) (.slice Ao176 t194.length co176)) (fun _ h_ => h_.1))) hb) (zW ho0)) (Kd.S_base ho1)) (fun _ h_ => h_.1));have n4_:=zA (zTb (by (with_reducible repeat (first|apply zE|apply zD|apply zH));exact (zGb (zR (p:=⟨gb197,1,none⟩) (zR (p:=⟨gb197,0,none⟩) (Kd.R_types HO193.out BK197.out (by decide)) (fun _ hk => hk.2) (.slice Ao172 t191.length co172)) (fun _ hk => hk.2) (.slice Ao176 t194.length co176)) (fun _ h_ => h_.1))) (zW ho0) hb);have n5_:=zA (zS (zU (zU (Kd.S_old (by (with_reducible repeat (first|apply zM|apply zL|apply zN));exact (zS (zVb (p:=⟨gb197,1,none⟩) (zVb (p:=⟨gb197,0,none⟩) (Kd.S_types HO196.out BK197.out (by decide)) (fun _ hk => hk.2) (.slice Ao172 t191.length co172)) (fun _ hk => hk.2) (.slice Ao176 t194.length co176)) (fun _ h_ => h_.1))) hb) (zW ho0)) (Kd.S_base ho1)) (fun _ h_ => h_.1));have n6_:=zA (zHb (zQb (zQb (zQb ho0 (zOb (by (with_reducible repeat (first|apply zE|apply zD|apply zH));exact (zGb (zR (p:=⟨gb197,1,none⟩) (zR (p:=⟨gb197,0,none⟩) (Kd.R_types HO180.out BK197.out (by decide)) (fun _ hk => hk.2) (.slice Ao172 t191.length co172)) (fun _ hk => hk.2) (.slice Ao176 t194.length co176)) (fun _ h_ => h_.1))))) (zOb (by (with_reducible repeat (first|apply zE|apply zD|apply zH));exact (zGb (zR (p:=⟨gb197,1,none⟩) (zR (p:=⟨gb197,0,none⟩) (Kd.R_types HO186.out BK197.out (by decide)) (fun _ hk => hk.2) (.slice Ao172 t191.length co172)) (fun _ hk => hk.2) (.slice Ao176 t194.length co176)) (fun _ h_ => h_.1))))) (zOb (by (with_reducible repeat (first|apply zE|apply zD|apply zH));exact (zGb (zR (p:=⟨gb197,1,none⟩) (zR (p:=⟨gb197,0,none⟩) (Kd.R_types HO193.out BK197.out (by decide)) (fun _ hk => hk.2) (.slice Ao172 t191.length co172)) (fun _ hk => hk.2) (.slice Ao176 t194.length co176)) (fun _ h_ => h_.1))))) (zT (by repeat (first|(with_reducible first|exact HB.out|apply zK|apply zC|apply zJ|refine zB ?_ GE174.out|refine zB ?_ GE175.out|refine zB ?_ GE197.out)|exact HB.out))));have n7_:=zA (zIb (zV (zV (zV (zV (zV (zV ho1 (zOb (by (with_reducible repeat (first|apply zE|apply zD|apply zH));exact (zGb (zR (p:=⟨gb197,1,none⟩) (zR (p:=⟨gb197,0,none⟩) (Kd.R_types HO180.out BK197.out (by decide)) (fun _ hk => hk.2) (.slice Ao172 t191.length co172)) (fun _ hk => hk.2) (.slice Ao176 t194.length co176)) (fun _ h_ => h_.1))))) (Kd.S_lt (by (with_reducible repeat (first|apply zM|apply zL|apply zN));exact (zS (zVb (p:=⟨gb197,1,none⟩) (zVb (p:=⟨gb197,0,none⟩) (Kd.S_types HO183.out BK197.out (by decide)) (fun _ hk => hk.2) (.slice Ao172 t191.length co172)) (fun _ hk => hk.2) (.slice Ao176 t194.length co176)) (fun _ h_ => h_.1))))) (zOb (by (with_reducible repeat (first|apply zE|apply zD|apply zH));exact (zGb (zR (p:=⟨gb197,1,none⟩) (zR (p:=⟨gb197,0,none⟩) (Kd.R_types HO186.out BK197.out (by decide)) (fun _ hk => hk.2) (.slice Ao172 t191.length co172)) (fun _ hk => hk.2) (.slice Ao176 t194.length co176)) (fun _ h_ => h_.1))))) (Kd.S_lt (by (with_reducible repeat (first|apply zM|apply zL|apply zN));exact (zS (zVb (p:=⟨gb197,1,none⟩) (zVb (p:=⟨gb197,0,none⟩) (Kd.S_types HO189.out BK197.out (by decide)) (fun _ hk => hk.2) (.slice Ao172 t191.length co172)) (fun _ hk => hk.2) (.slice Ao176 t194.length co176)) (fun _ h_ => h_.1))))) (zOb (by (with_reducible repeat (first|apply zE|apply zD|apply zH));exact (zGb (zR (p:=⟨gb197,1,none⟩) (zR (p:=⟨gb197,0,none⟩) (Kd.R_types HO193.out BK197.out (by decide)) (fun _ hk => hk.2) (.slice Ao172 t191.length co172)) (fun _ hk => hk.2) (.slice Ao176 t194.length co176)) (fun _ h_ => h_.1))))) (Kd.S_lt (by (with_reducible repeat (first|apply zM|apply zL|apply zN));exact (zS (zVb (p:=⟨gb197,1,none⟩) (zVb (p:=⟨gb197,0,none⟩) (Kd.S_types HO196.out BK197.out (by decide)) (fun _ hk => hk.2) (.slice Ao172 t191.length co172)) (fun _ hk => hk.2) (.slice Ao176 t194.length co176)) (fun _ h_ => h_.1))))) (zT (by repeat (first|(with_reducible first|exact HB.out|apply zK|apply zC|apply zJ|refine zB ?_ GE174.out|refine zB ?_ GE175.out|refine zB ?_ GE197.out)|exact HB.out))));have n8_:=zA (zQ (g:=gb174) (o:=.cells #[.slice A0_0 l0_0.length c0_0,.slice A0_1 l0_1.length c0_1] 41 (0,0)) (by (with_reducible repeat (first|refine zF ?_ _|refine zI ?_|refine zG ?_ _));refine zUb ?_ NB174_197.out _;(with_reducible repeat (first|refine zF ?_ _|refine zI ?_|refine zG ?_ _));refine zUb ?_ NB174_197.out _;(with_reducible repeat (first|refine zF ?_ _|refine zI ?_|refine zG ?_ _));exact BK174.out) hb);have n9_:=zA (zQ (g:=gb175) (o:=.cells #[.slice A1_0 l1_0.length c1_0,.slice A1_1 l1_1.length c1_1] 41 (0,0)) (by (with_reducible repeat (first|refine zF ?_ _|refine zI ?_|refine zG ?_ _));refine zUb ?_ NB175_197.out _;(with_reducible repeat (first|refine zF ?_ _|refine zI ?_|refine zG ?_ _));refine zUb ?_ NB175_197.out _;(with_reducible repeat (first|refine zF ?_ _|refine zI ?_|refine zG ?_ _));exact BK175.out) hb);have n10_:=zA (zQ (g:=gb197) (o:=.cells #[.slice Ao172 t191.length co172,.slice Ao176 t194.length co176] 46 (0,0)) (by (with_reducible repeat (first|refine zF ?_ _|refine zI ?_|refine zG ?_ _));refine blk_put (cs:=#[.slice Ao172 t191.length co172,.slice none 0 0]) ?_ 1 _ rfl;(with_reducible repeat (first|refine zF ?_ _|refine zI ?_|refine zG ?_ _));refine blk_put (cs:=#[.slice none 0 0,.slice none 0 0]) ?_ 0 _ rfl;(with_reducible repeat (first|refine zF ?_ _|refine zI ?_|refine zG ?_ _));exact BK197.out) hb);have n11_:=zA (zJb (by repeat (first|(with_reducible first|exact HB.out|apply zK|apply zC|apply zJ|refine zB ?_ GE174.out|refine zB ?_ GE175.out|refine zB ?_ GE197.out)|exact HB.out)) hb);clear HO180;clear HO183;clear HO186;clear HO189;clear HO193;clear HO196;clear BK174;clear BK175;clear BK197;clear HB;have HO180:=n0_;have HO183:=n1_;have HO186:=n2_;have HO189:=n3_;have HO193:=n4_;have HO196:=n5_;have HO200:=n6_;have HO203:=n7_;have BK174:=n8_;have BK175:=n9_;have BK197:=n10_;have HB:=n11_;clear n0_ n1_ n2_ n3_ n4_ n5_ n6_ n7_ n8_ n9_ n10_ n11_;(try clear hb);(try clear hb2);(try clear hk);(try clear hi);(try clear ho0);(try clear ho1))|((with_reducible refine gate_dst (N:=8) rfl ?_);refine box_event ?hg (N:=8) ?hd (cs:=#[.slice none 0 0,.slice none 0 0]) (t:=46) ?hr ?_;(case hd => rfl);(case hg => rfl);(case hr => first|(go_simp;done)|(go_simp;rfl));intro gb204 hg w179 hbox hb;have n0_:=zA (zZ (by (with_reducible repeat (first|apply zE|apply zD|apply zH));exact HO180.out) hb);have n1_:=zA (zY (by (with_reducible repeat (first|apply zM|apply zL|apply zN));exact HO183.out) hb);have n2_:=zA (zZ (by (with_reducible repeat (first|apply zE|apply zD|apply zH));exact HO186.out) hb);have n3_:=zA (zY (by (with_reducible repeat (first|apply zM|apply zL|apply zN));exact HO189.out) hb);have n4_:=zA (zZ (by (with_reducible repeat (first|apply zE|apply zD|apply zH));exact HO193.out) hb);have n5_:=zA (zY (by (with_reducible repeat (first|apply zM|apply zL|apply zN));exact HO196.out) hb);have n6_:=zA (zZ (by (with_reducible repeat (first|apply zE|apply zD|apply zH));exact HO200.out) hb);have n7_:=zA (zY (by (with_reducible repeat (first|apply zM|apply zL|apply zN));exact HO203.out) hb);have n8_:=zA (zQ (g:=gb174) (o:=.cells #[.slice A0_0 l0_0.length c0_0,.slice A0_1 l0_1.length c0_1] 41 (0,0)) (by (with_reducible repeat (first|refine zF ?_ _|refine zI ?_|refine zG ?_ _));exact BK174.out) hb);have n9_:=zA (zQ (g:=gb175) (o:=.cells #[.slice A1_0 l1_0.length c1_0,.slice A1_1 l1_1.length c1_1] 41 (0,0)) (by (with_reducible repeat (first|refine zF ?_ _|refine zI ?_|refine zG ?_ _));exact BK175.out) hb);have n10_:=zA (zQ (g:=gb197) (o:=.cells #[.slice Ao172 t191.length co172,.slice Ao176 t194.length co176] 46 (0,0)) (by (with_reducible repeat (first|refine zF ?_ _|refine zI ?_|refine zG ?_ _));exact BK197.out) hb);have n11_:=zA (zJb (by repeat (first|(with_reducible first|exact HB.out|apply zK|apply zC|apply zJ|refine zB ?_ GE174.out|refine zB ?_ GE175.out|refine zB ?_ GE197.out)|exact HB.out)) hb);have n12_:=zA (hbox);have n13_:=zA ((by rw [hg];exact (zT (by repeat (first|(with_reducible first|exact HB.out|apply zK|apply zC|apply zJ|refine zB ?_ GE174.out|refine zB ?_ GE175.out|refine zB ?_ GE197.out)|exact HB.out))) : w.heap.size ≤ gb204));have n14_:=zA ((by rw [hg];exact (zT (by repeat (first|(with_reducible first|exact HB.out|apply zK|apply zC|apply zJ|refine zB ?_ GE174.out|refine zB ?_ GE175.out|refine zB ?_ GE197.out)|exact HB.out))) : w.heap.size ≤ gb204));have n15_:=zA ((by rw [hg];exact Nat.ne_of_lt (blk_lt (g:=gb174) (o:=.cells #[.slice A0_0 l0_0.length c0_0,.slice A0_1 l0_1.length c0_1] 41 (0,0)) (by (with_reducible repeat (first|refine zF ?_ _|refine zI ?_|refine zG ?_ _));exact BK174.out)) : gb174 ≠ gb204));have n16_:=zA ((by rw [hg];exact Nat.ne_of_gt (blk_lt (g:=gb174) (o:=.cells #[.slice A0_0 l0_0.length c0_0,.slice A0_1 l0_1.length c0_1] 41 (0,0)) (by (with_reducible repeat (first|refine zF ?_ _|refine zI ?_|refine zG ?_ _));exact BK174.out)) : gb204 ≠ gb174));have n17_:=zA ((by rw [hg];exact Nat.ne_of_lt (blk_lt (g:=gb175) (o:=.cells #[.slice A1_0 l1_0.length c1_0,.slice A1_1 l1_1.length c1_1] 41 (0,0)) (by (with_reducible repeat (first|refine zF ?_ _|refine zI ?_|refine zG ?_ _));exact BK175.out)) : gb175 ≠ gb204));have n18_:=zA ((by rw [hg];exact Nat.ne_of_gt (blk_lt (g:=gb175) (o:=.cells #[.slice A1_0 l1_0.length c1_0,.slice A1_1 l1_1.length c1_1] 41 (0,0)) (by (with_reducible repeat (first|refine zF ?_ _|refine zI ?_|refine zG ?_ _));exact BK175.out)) : gb204 ≠ gb175));have n19_:=zA ((by rw [hg];exact Nat.ne_of_lt (blk_lt (g:=gb197) (o:=.cells #[.slice Ao172 t191.length co172,.slice Ao176 t194.length co176] 46 (0,0)) (by (with_reducible repeat (first|refine zF ?_ _|refine zI ?_|refine zG ?_ _));exact BK197.out)) : gb197 ≠ gb204));have n20_:=zA ((by rw [hg];exact Nat.ne_of_gt (blk_lt (g:=gb197) (o:=.cells #[.slice Ao172 t191.length co172,.slice Ao176 t194.length co176] 46 (0,0)) (by (with_reducible repeat (first|refine zF ?_ _|refine zI ?_|refine zG ?_ _));exact BK197.out)) : gb204 ≠ gb197));clear HO180;clear HO183;clear HO186;clear HO189;clear HO193;clear HO196;clear HO200;clear HO203;clear BK174;clear BK175;clear BK197;clear HB;have HO180:=n0_;have HO183:=n1_;have HO186:=n2_;have HO189:=n3_;have HO193:=n4_;have HO196:=n5_;have HO200:=n6_;have HO203:=n7_;have BK174:=n8_;have BK175:=n9_;have BK197:=n10_;have HB:=n11_;have BK204:=n12_;have GW204:=n13_;have GE204:=n14_;have NB174_204:=n15_;have NB204_174:=n16_;have NB175_204:=n17_;have NB204_175:=n18_;have NB197_204:=n19_;have NB204_197:=n20_;clear n0_ n1_ n2_ n3_ n4_ n5_ n6_ n7_ n8_ n9_ n10_ n11_ n12_ n13_ n14_ n15_ n16_ n17_ n18_ n19_ n20_;clear hb hbox hg;obtain ⟨Ao180,co180,eo180⟩:=Kd.R_slice HO200.out;subst eo180;have hnb181:=NB204_174.out;have hnc181:=NB174_204.out;have hnb182:=NB204_175.out;have hnc182:=NB175_204.out;have hnb183:=NB204_197.out;have hnc183:=NB197_204.out;have hcz184_0 : w179.cell? ⟨gb204,0,none⟩ = some (.slice none 0 0):=(zP BK204.out 0).trans rfl;have hcz184_1 : w179.cell? ⟨gb204,1,none⟩ = some (.slice none 0 0):=(zP BK204.out 1).trans rfl;have hfz184_0:=blk_frozen BK204.out 0;have hfz184_1:=blk_frozen BK204.out 1;obtain ⟨Ao185,co185,eo185⟩:=Kd.S_slice HO203.out;subst eo185;have hcz186_0 : w179.cell? ⟨gb197,0,none⟩ = some (.slice Ao172 t191.length co172):=(zP BK197.out 0).trans rfl;have hcz186_1 : w179.cell? ⟨gb197,1,none⟩ = some (.slice Ao176 t194.length co176):=(zP BK197.out 1).trans rfl;have hfz186_0:=blk_frozen BK197.out 0;have hfz186_1:=blk_frozen BK197.out 1)|((with_reducible refine gate_callee (f:=33) rfl ?_);refine goesL_ (some 31) rfl rfl Try.func33 (by kernel_rfl) rfl #[.agg #[.slice Ao172 t191.length co172,.slice Ao176 t194.length co176],.agg #[.slice Ao180 t198.length co180,.slice Ao185 t201.length co185]] rfl (by (try simp only [zCb,zMb,zNb]);first|done|rfl|(simp only [zLb,zDb];rfl)) ?_;(with_reducible refine (impl_EqualQueries.calls k _ _ t191 _ _ t194 _ _ t198 _ _ t201 t205 _ ?side1 ?side2 ?side3 ?side4 ?side5 ?side6 ?side7 ?side8 A24.out).mono ?_);(case side1 => refine (Kd.R_reads' (e:=3) (base:=w.heap.size) (ok:=fun k_ => (((True ∧ some k_ ≠ (.slice Ao164 t178.length co164 : Value).ownBlock) ∧ some k_ ≠ (.slice Ao166 t184.length co166 : Value).ownBlock) ∧ some k_ ≠ (.slice Ao180 t198.length co180 : Value).ownBlock)) (n:=t191.length) (c:=co172) ?_).2.2;exact (by (with_reducible repeat (first|apply zE|apply zD|apply zH));exact (zGb (zR (p:=⟨gb204,1,none⟩) (zR (p:=⟨gb204,0,none⟩) (Kd.R_types HO193.out BK204.out (by decide)) (fun _ hk => hk.2) (.slice Ao180 t198.length co180)) (fun _ hk => hk.2) (.slice Ao185 t201.length co185)) (fun _ h_ => h_.1))));(case side2 => exact (Kd.R_reads' HO193.out).2.1);(case side3 => refine (Kd.S_reads' (e:=97) (base:=w.heap.size) (ok:=fun k_ => ((((((some k_ ≠ (.slice Ao172 t191.length co172 : Value).ownBlock ∧ some k_ ≠ (.slice Ao164 t178.length co164 : Value).ownBlock) ∧ some k_ ≠ (.slice Ao165 t181.length co165 : Value).ownBlock) ∧ some k_ ≠ (.slice Ao166 t184.length co166 : Value).ownBlock) ∧ some k_ ≠ (.slice Ao167 t187.length co167 : Value).ownBlock) ∧ some k_ ≠ (.slice Ao180 t198.length co180 : Value).ownBlock) ∧ some k_ ≠ (.slice Ao185 t201.length co185 : Value).ownBlock)) (n:=t194.length) (c:=co176) ?_).2.2;exact (by (with_reducible repeat (first|apply zM|apply zL|apply zN));exact (zS (zVb (p:=⟨gb204,1,none⟩) (zVb (p:=⟨gb204,0,none⟩) (Kd.S_types HO196.out BK204.out (by decide)) (fun _ hk => hk.2) (.slice Ao180 t198.length co180)) (fun _ hk => hk.2) (.slice Ao185 t201.length co185)) (fun _ h_ => h_.1))));(case side4 => exact (Kd.S_reads' HO196.out).2.1);(case side5 => refine (Kd.R_reads' (e:=3) (base:=w.heap.size) (ok:=fun k_ => (((True ∧ some k_ ≠ (.slice Ao164 t178.length co164 : Value).ownBlock) ∧ some k_ ≠ (.slice Ao166 t184.length co166 : Value).ownBlock) ∧ some k_ ≠ (.slice Ao172 t191.length co172 : Value).ownBlock)) (n:=t198.length) (c:=co180) ?_).2.2;exact (by (with_reducible repeat (first|apply zE|apply zD|apply zH));exact (zGb (zR (p:=⟨gb204,1,none⟩) (zR (p:=⟨gb204,0,none⟩) (Kd.R_types HO200.out BK204.out (by decide)) (fun _ hk => hk.2) (.slice Ao180 t198.length co180)) (fun _ hk => hk.2) (.slice Ao185 t201.length co185)) (fun _ h_ => h_.1))));(case side6 => exact (Kd.R_reads' HO200.out).2.1);(case side7 => refine (Kd.S_reads' (e:=97) (base:=w.heap.size) (ok:=fun k_ => ((((((some k_ ≠ (.slice Ao180 t198.length co180 : Value).ownBlock ∧ some k_ ≠ (.slice Ao164 t178.length co164 : Value).ownBlock) ∧ some k_ ≠ (.slice Ao165 t181.length co165 : Value).ownBlock) ∧ some k_ ≠ (.slice Ao166 t184.length co166 : Value).ownBlock) ∧ some k_ ≠ (.slice Ao167 t187.length co167 : Value).ownBlock) ∧ some k_ ≠ (.slice Ao172 t191.length co172 : Value).ownBlock) ∧ some k_ ≠ (.slice Ao176 t194.length co176 : Value).ownBlock)) (n:=t201.length) (c:=co185) ?_).2.2;exact (by (with_reducible repeat (first|apply zM|apply zL|apply zN));exact (zS (zVb (p:=⟨gb204,1,none⟩) (zVb (p:=⟨gb204,0,none⟩) (Kd.S_types HO203.out BK204.out (by decide)) (fun _ hk => hk.2) (.slice Ao180 t198.length co180)) (fun _ hk => hk.2) (.slice Ao185 t201.length co185)) (fun _ h_ => h_.1))));(case side8 => exact (Kd.S_reads' HO203.out).2.1);rintro e w187 ⟨rfl,hb⟩;refine ⟨_,rfl,?_⟩;have n0_:=zA (zZ (by (with_reducible repeat (first|apply zE|apply zD|apply zH));exact (zGb (zR (p:=⟨gb204,1,none⟩) (zR (p:=⟨gb204,0,none⟩) (Kd.R_types HO180.out BK204.out (by decide)) (fun _ hk => hk.2) (.slice Ao180 t198.length co180)) (fun _ hk => hk.2) (.slice Ao185 t201.length co185)) (fun _ h_ => h_.1))) hb);have n1_:=zA (zY (by (with_reducible repeat (first|apply zM|apply zL|apply zN));exact (zS (zVb (p:=⟨gb204,1,none⟩) (zVb (p:=⟨gb204,0,none⟩) (Kd.S_types HO183.out BK204.out (by decide)) (fun _ hk => hk.2) (.slice Ao180 t198.length co180)) (fun _ hk => hk.2) (.slice Ao185 t201.length co185)) (fun _ h_ => h_.1))) hb);have n2_:=zA (zZ (by (with_reducible repeat (first|apply zE|apply zD|apply zH));exact (zGb (zR (p:=⟨gb204,1,none⟩) (zR (p:=⟨gb204,0,none⟩) (Kd.R_types HO186.out BK204.out (by decide)) (fun _ hk => hk.2) (.slice Ao180 t198.length co180)) (fun _ hk => hk.2) (.slice Ao185 t201.length co185)) (fun _ h_ => h_.1))) hb);have n3_:=zA (zY (by (with_reducible repeat (first|apply zM|apply zL|apply zN));exact (zS (zVb (p:=⟨gb204,1,none⟩) (zVb (p:=⟨gb204,0,none⟩) (Kd.S_types HO189.out BK204.out (by decide)) (fun _ hk => hk.2) (.slice Ao180 t198.length co180)) (fun _ hk => hk.2) (.slice Ao185 t201.length co185)) (fun _ h_ => h_.1))) hb);have n4_:=zA (zZ (by (with_reducible repeat (first|apply zE|apply zD|apply zH));exact (zGb (zR (p:=⟨gb204,1,none⟩) (zR (p:=⟨gb204,0,none⟩) (Kd.R_types HO193.out BK204.out (by decide)) (fun _ hk => hk.2) (.slice Ao180 t198.length co180)) (fun _ hk => hk.2) (.slice Ao185 t201.length co185)) (fun _ h_ => h_.1))) hb);have n5_:=zA (zY (by (with_reducible repeat (first|apply zM|apply zL|apply zN));exact (zS (zVb (p:=⟨gb204,1,none⟩) (zVb (p:=⟨gb204,0,none⟩) (Kd.S_types HO196.out BK204.out (by decide)) (fun _ hk => hk.2) (.slice Ao180 t198.length co180)) (fun _ hk => hk.2) (.slice Ao185 t201.length co185)) (fun _ h_ => h_.1))) hb);have n6_:=zA (zZ (by (with_reducible repeat (first|apply zE|apply zD|apply zH));exact (zGb (zR (p:=⟨gb204,1,none⟩) (zR (p:=⟨gb204,0,none⟩) (Kd.R_types HO200.out BK204.out (by decide)) (fun _ hk => hk.2) (.slice Ao180 t198.length co180)) (fun _ hk => hk.2) (.slice Ao185 t201.length co185)) (fun _ h_ => h_.1))) hb);have n7_:=zA (zY (by (with_reducible repeat (first|apply zM|apply zL|apply zN));exact (zS (zVb (p:=⟨gb204,1,none⟩) (zVb (p:=⟨gb204,0,none⟩) (Kd.S_types HO203.out BK204.out (by decide)) (fun _ hk => hk.2) (.slice Ao180 t198.length co180)) (fun _ hk => hk.2) (.slice Ao185 t201.length co185)) (fun _ h_ => h_.1))) hb);have n8_:=zA (zQ (g:=gb174) (o:=.cells #[.slice A0_0 l0_0.length c0_0,.slice A0_1 l0_1.length c0_1] 41 (0,0)) (by (with_reducible repeat (first|refine zF ?_ _|refine zI ?_|refine zG ?_ _));refine zUb ?_ NB174_204.out _;(with_reducible repeat (first|refine zF ?_ _|refine zI ?_|refine zG ?_ _));refine zUb ?_ NB174_204.out _;(with_reducible repeat (first|refine zF ?_ _|refine zI ?_|refine zG ?_ _));exact BK174.out) hb);have n9_:=zA (zQ (g:=gb175) (o:=.cells #[.slice A1_0 l1_0.length c1_0,.slice A1_1 l1_1.length c1_1] 41 (0,0)) (by (with_reducible repeat (first|refine zF ?_ _|refine zI ?_|refine zG ?_ _));refine zUb ?_ NB175_204.out _;(with_reducible repeat (first|refine zF ?_ _|refine zI ?_|refine zG ?_ _));refine zUb ?_ NB175_204.out _;(with_reducible repeat (first|refine zF ?_ _|refine zI ?_|refine zG ?_ _));exact BK175.out) hb);have n10_:=zA (zQ (g:=gb197) (o:=.cells #[.slice Ao172 t191.length co172,.slice Ao176 t194.length co176] 46 (0,0)) (by (with_reducible repeat (first|refine zF ?_ _|refine zI ?_|refine zG ?_ _));refine zUb ?_ NB197_204.out _;(with_reducible repeat (first|refine zF ?_ _|refine zI ?_|refine zG ?_ _));refine zUb ?_ NB197_204.out _;(with_reducible repeat (first|refine zF ?_ _|refine zI ?_|refine zG ?_ _));exact BK197.out) hb);have n11_:=zA (zQ (g:=gb204) (o:=.cells #[.slice Ao180 t198.length co180,.slice Ao185 t201.length co185] 46 (0,0)) (by (with_reducible repeat (first|refine zF ?_ _|refine zI ?_|refine zG ?_ _));refine blk_put (cs:=#[.slice Ao180 t198.length co180,.slice none 0 0]) ?_ 1 _ rfl;(with_reducible repeat (first|refine zF ?_ _|refine zI ?_|refine zG ?_ _));refine blk_put (cs:=#[.slice none 0 0,.slice none 0 0]) ?_ 0 _ rfl;(with_reducible repeat (first|refine zF ?_ _|refine zI ?_|refine zG ?_ _));exact BK204.out) hb);have n12_:=zA (zJb (by repeat (first|(with_reducible first|exact HB.out|apply zK|apply zC|apply zJ|refine zB ?_ GE174.out|refine zB ?_ GE175.out|refine zB ?_ GE197.out|refine zB ?_ GE204.out)|exact HB.out)) hb);clear HO180;clear HO183;clear HO186;clear HO189;clear HO193;clear HO196;clear HO200;clear HO203;clear BK174;clear BK175;clear BK197;clear BK204;clear HB;have HO180:=n0_;have HO183:=n1_;have HO186:=n2_;have HO189:=n3_;have HO193:=n4_;have HO196:=n5_;have HO200:=n6_;have HO203:=n7_;have BK174:=n8_;have BK175:=n9_;have BK197:=n10_;have BK204:=n11_;have HB:=n12_;clear n0_ n1_ n2_ n3_ n4_ n5_ n6_ n7_ n8_ n9_ n10_ n11_ n12_;(try clear hb);(try clear hb2);(try clear hk);(try clear hi)))
     have n0_:=zA (zH HO180.out)
     have n1_:=zA (zN HO183.out)
     have n2_:=zA (zH HO186.out)
     have n3_:=zA (zN HO189.out)
     have n4_:=zA (zH HO193.out)
     have n5_:=zA (zN HO196.out)
     have n6_:=zA (zH HO200.out)
     have n7_:=zA (zN HO203.out)
     have n8_:=zA (zI BK174.out)
     have n9_:=zA (zI BK175.out)
     have n10_:=zA (zI BK197.out)
     have n11_:=zA (zI BK204.out)
     have n12_:=zA (zJ HB.out)
     clear HO180
     clear HO183
     clear HO186
     clear HO189
     clear HO193
     clear HO196
     clear HO200
     clear HO203
     clear BK174
     clear BK175
     clear BK197
     clear BK204
     clear HB
     have HO180:=n0_
     have HO183:=n1_
     have HO186:=n2_
     have HO189:=n3_
     have HO193:=n4_
     have HO196:=n5_
     have HO200:=n6_
     have HO203:=n7_
     have BK174:=n8_
     have BK175:=n9_
     have BK197:=n10_
     have BK204:=n11_
     have HB:=n12_
     clear n0_ n1_ n2_ n3_ n4_ n5_ n6_ n7_ n8_ n9_ n10_ n11_ n12_
     refine start_ (n:=5) (S:=fun w' => w'.cell? ⟨gb197,0,none⟩ = some (.slice Ao172 t191.length co172) ∧ w'.cell? ⟨gb197,1,none⟩ = some (.slice Ao176 t194.length co176) ∧ w'.cell? ⟨gb174,0,none⟩ = some (.slice A0_0 l0_0.length c0_0) ∧ w'.cell? ⟨gb174,1,none⟩ = some (.slice A0_1 l0_1.length c0_1)) (ds:=[]) #[false,false,false,false,false] (by kernel_rfl) rfl rfl ⟨(zP BK197.out 0).trans rfl,(zP BK197.out 1).trans rfl,(zP BK174.out 0).trans rfl,(zP BK174.out 1).trans rfl⟩ (fun hHeld => ?_)
     generalize w187.drew = w188 at HO180 HO183 HO186 HO189 HO193 HO196 HO200 HO203 BK174 BK175 BK197 BK204 HB hHeld ⊢
     refine take_ (i:=0) (N:=some 35) (v:=?_) (a':=?_) #[true,false,false,false,false] rfl rfl (by kernel_rfl) (fun _ _ _ h => h) (Or.inl ⟨by rfl,?_⟩) hHeld ?_ ?_
     rotate_left
     ·
      rintro w' ⟨s0,s1,s2,s3⟩
      go_simp
      with_reducible rfl
     rotate_left
     ·
      simp only [Act.put,zO,zEb,zFb,i64_w,i32_w]
      rfl
     refine take_ (i:=1) (N:=some 36) (v:=?_) (a':=?_) #[true,true,false,false,false] rfl rfl (by kernel_rfl) (fun _ _ _ h => h) (Or.inl ⟨by rfl,?_⟩) hHeld ?_ ?_
     rotate_left
     ·
      rintro w' ⟨s0,s1,s2,s3⟩
      go_simp
      with_reducible rfl
     rotate_left
     ·
      simp only [Act.put,zO,zEb,zFb,i64_w,i32_w]
      rfl
     refine one_ (i:=2) (N:=some 37) #[true,true,true,false,false] rfl rfl (by kernel_rfl) (by decide) (fun K hK => ?_)
     refine goes_ Try.func32 (by kernel_rfl) rfl #[.agg #[.slice A0_0 l0_0.length c0_0,.slice A0_1 l0_1.length c0_1]] (by rfl) rfl rfl (by (try simp only [zCb,zMb,zNb]);first|done|rfl|(simp only [zLb,zDb];rfl)) ?_
     with_reducible refine (laws_toQuery.calls k _ _ l0_0 _ _ l0_1 t206 t209 _ ?side1 ?side2 ?side3 ?side4 A60.out).mono ?_
     (case side1 => repeat (first|exact (zKb HR0_0.out HB.out)|(with_reducible refine zBb ?_ _)|(with_reducible refine zAb ?_ _)|(with_reducible refine zX ?_)))
     (case side2 => exact HC0_0.out)
     (case side3 => repeat (first|exact (zKb HR0_1.out HB.out)|(with_reducible refine zBb ?_ _)|(with_reducible refine zAb ?_ _)|(with_reducible refine zX ?_)))
     (case side4 => exact HC0_1.out)
     rintro e w189 ⟨v207,v210,rfl,ho0,ho1,hb⟩
     refine ⟨_,rfl,?_⟩
     have n0_:=zA (zTb (by (with_reducible repeat (first|apply zE|apply zD|apply zH));exact HO180.out) (zW ho0) hb)
     have n1_:=zA (zS (zU (zU (Kd.S_old (by (with_reducible repeat (first|apply zM|apply zL|apply zN));exact HO183.out) hb) (zW ho0)) (Kd.S_base ho1)) (fun _ h_ => h_.1))
     have n2_:=zA (zTb (by (with_reducible repeat (first|apply zE|apply zD|apply zH));exact HO186.out) (zW ho0) hb)
     have n3_:=zA (zS (zU (zU (Kd.S_old (by (with_reducible repeat (first|apply zM|apply zL|apply zN));exact HO189.out) hb) (zW ho0)) (Kd.S_base ho1)) (fun _ h_ => h_.1))
     have n4_:=zA (zTb (by (with_reducible repeat (first|apply zE|apply zD|apply zH));exact HO193.out) (zW ho0) hb)
     have n5_:=zA (zS (zU (zU (Kd.S_old (by (with_reducible repeat (first|apply zM|apply zL|apply zN));exact HO196.out) hb) (zW ho0)) (Kd.S_base ho1)) (fun _ h_ => h_.1))
     have n6_:=zA (zTb (by (with_reducible repeat (first|apply zE|apply zD|apply zH));exact HO200.out) (zW ho0) hb)
     have n7_:=zA (zS (zU (zU (Kd.S_old (by (with_reducible repeat (first|apply zM|apply zL|apply zN));exact HO203.out) hb) (zW ho0)) (Kd.S_base ho1)) (fun _ h_ => h_.1))
     have n8_:=zA (zHb (zQb (zQb (zQb (zQb ho0 (zOb (by (with_reducible repeat (first|apply zE|apply zD|apply zH));exact HO180.out))) (zOb (by (with_reducible repeat (first|apply zE|apply zD|apply zH));exact HO186.out))) (zOb (by (with_reducible repeat (first|apply zE|apply zD|apply zH));exact HO193.out))) (zOb (by (with_reducible repeat (first|apply zE|apply zD|apply zH));exact HO200.out))) (zT (by repeat (first|(with_reducible first|exact HB.out|apply zK|apply zC|apply zJ|refine zB ?_ GE174.out|refine zB ?_ GE175.out|refine zB ?_ GE197.out|refine zB ?_ GE204.out)|exact HB.out))))
     have n9_:=zA (zIb (zV (zV (zV (zV (zV (zV (zV (zV ho1 (zOb (by (with_reducible repeat (first|apply zE|apply zD|apply zH));exact HO180.out))) (Kd.S_lt (by (with_reducible repeat (first|apply zM|apply zL|apply zN));exact HO183.out))) (zOb (by (with_reducible repeat (first|apply zE|apply zD|apply zH));exact HO186.out))) (Kd.S_lt (by (with_reducible repeat (first|apply zM|apply zL|apply zN));exact HO189.out))) (zOb (by (with_reducible repeat (first|apply zE|apply zD|apply zH));exact HO193.out))) (Kd.S_lt (by (with_reducible repeat (first|apply zM|apply zL|apply zN));exact HO196.out))) (zOb (by (with_reducible repeat (first|apply zE|apply zD|apply zH));exact HO200.out))) (Kd.S_lt (by (with_reducible repeat (first|apply zM|apply zL|apply zN));exact HO203.out))) (zT (by repeat (first|(with_reducible first|exact HB.out|apply zK|apply zC|apply zJ|refine zB ?_ GE174.out|refine zB ?_ GE175.out|refine zB ?_ GE197.out|refine zB ?_ GE204.out)|exact HB.out))))
     have n10_:=zA (zQ (g:=gb174) (o:=.cells #[.slice A0_0 l0_0.length c0_0,.slice A0_1 l0_1.length c0_1] 41 (0,0)) (by (with_reducible repeat (first|refine zF ?_ _|refine zI ?_|refine zG ?_ _));exact BK174.out) hb)
     have n11_:=zA (zQ (g:=gb175) (o:=.cells #[.slice A1_0 l1_0.length c1_0,.slice A1_1 l1_1.length c1_1] 41 (0,0)) (by (with_reducible repeat (first|refine zF ?_ _|refine zI ?_|refine zG ?_ _));exact BK175.out) hb)
     have n12_:=zA (zQ (g:=gb197) (o:=.cells #[.slice Ao172 t191.length co172,.slice Ao176 t194.length co176] 46 (0,0)) (by (with_reducible repeat (first|refine zF ?_ _|refine zI ?_|refine zG ?_ _));exact BK197.out) hb)
     have n13_:=zA (zQ (g:=gb204) (o:=.cells #[.slice Ao180 t198.length co180,.slice Ao185 t201.length co185] 46 (0,0)) (by (with_reducible repeat (first|refine zF ?_ _|refine zI ?_|refine zG ?_ _));exact BK204.out) hb)
     have n14_:=zA (zJb (by repeat (first|(with_reducible first|exact HB.out|apply zK|apply zC|apply zJ|refine zB ?_ GE174.out|refine zB ?_ GE175.out|refine zB ?_ GE197.out|refine zB ?_ GE204.out)|exact HB.out)) hb)
     clear HO180
     clear HO183
     clear HO186
     clear HO189
     clear HO193
     clear HO196
     clear HO200
     clear HO203
     clear BK174
     clear BK175
     clear BK197
     clear BK204
     clear HB
     have HO180:=n0_
     have HO183:=n1_
     have HO186:=n2_
     have HO189:=n3_
     have HO193:=n4_
     have HO196:=n5_
     have HO200:=n6_
     have HO203:=n7_
     have HO208:=n8_
     have HO211:=n9_
     have BK174:=n10_
     have BK175:=n11_
     have BK197:=n12_
     have BK204:=n13_
     have HB:=n14_
     clear n0_ n1_ n2_ n3_ n4_ n5_ n6_ n7_ n8_ n9_ n10_ n11_ n12_ n13_ n14_
     (try clear hb)
     (try clear hb2)
     (try clear hk)
     (try clear hi)
     (try clear ho0)
     (try clear ho1)
     obtain ⟨Ao190,co190,eo190⟩:=Kd.R_slice HO208.out
     (first|subst eo190|(injection eo190 with f1_ f2_ f3_;have f4_:=f1_.symm;have f5_:=f3_.symm;clear f1_ f2_ f3_;subst f4_;subst f5_))
     obtain ⟨Ao191,co191,eo191⟩:=Kd.S_slice HO211.out
     (first|subst eo191|(injection eo191 with f1_ f2_ f3_;have f4_:=f1_.symm;have f5_:=f3_.symm;clear f1_ f2_ f3_;subst f4_;subst f5_))
     refine hK.out _ _ ⟨(zP BK197.out 0).trans rfl,(zP BK197.out 1).trans rfl,(zP BK174.out 0).trans rfl,(zP BK174.out 1).trans rfl⟩ (fun hHeld => ?_)
     clear hK K
     refine norm_ (a':=?_) ?_ ?_
     rotate_left
     ·
      show Act.put _ (some 37) _ = _
      simp only [Act.put,zO,zEb,zFb,i64_w,i32_w]
      rfl
     refine one_ (i:=3) (N:=some 38) #[true,true,true,true,false] rfl rfl (by kernel_rfl) (by decide) (fun K hK => ?_)
     refine goes_ Try.func34 (by kernel_rfl) rfl #[.agg #[.slice Ao172 t191.length co172,.slice Ao176 t194.length co176],.agg #[.slice Ao190 t206.length co190,.slice Ao191 t209.length co191]] (by rfl) rfl rfl (by (try simp only [zCb,zMb,zNb]);first|done|rfl|(simp only [zLb,zDb];rfl)) ?_
     with_reducible refine (laws_eqQuery.calls k _ _ t191 _ _ t194 _ _ t206 _ _ t209 false _ ?side1 ?side2 ?side3 ?side4 ?side5 ?side6 ?side7 ?side8 A61.out).mono ?_
     (case side1 => repeat (first|exact (Kd.R_reads' HO193.out).2.2|(with_reducible refine zBb ?_ _)|(with_reducible refine zAb ?_ _)|(with_reducible refine zX ?_)))
     (case side2 => exact (Kd.R_reads' HO193.out).2.1)
     (case side3 => repeat (first|exact (Kd.S_reads' HO196.out).2.2|(with_reducible refine zBb ?_ _)|(with_reducible refine zAb ?_ _)|(with_reducible refine zX ?_)))
     (case side4 => exact (Kd.S_reads' HO196.out).2.1)
     (case side5 => repeat (first|exact (Kd.R_reads' HO208.out).2.2|(with_reducible refine zBb ?_ _)|(with_reducible refine zAb ?_ _)|(with_reducible refine zX ?_)))
     (case side6 => exact (Kd.R_reads' HO208.out).2.1)
     (case side7 => repeat (first|exact (Kd.S_reads' HO211.out).2.2|(with_reducible refine zBb ?_ _)|(with_reducible refine zAb ?_ _)|(with_reducible refine zX ?_)))
     (case side8 => exact (Kd.S_reads' HO211.out).2.1)
     rintro e w192 ⟨rfl,hb⟩
     refine ⟨_,rfl,?_⟩
     have n0_:=zA (zZ (by (with_reducible repeat (first|apply zE|apply zD|apply zH));exact HO180.out) hb)
     have n1_:=zA (zY (by (with_reducible repeat (first|apply zM|apply zL|apply zN));exact HO183.out) hb)
     have n2_:=zA (zZ (by (with_reducible repeat (first|apply zE|apply zD|apply zH));exact HO186.out) hb)
     have n3_:=zA (zY (by (with_reducible repeat (first|apply zM|apply zL|apply zN));exact HO189.out) hb)
     have n4_:=zA (zZ (by (with_reducible repeat (first|apply zE|apply zD|apply zH));exact HO193.out) hb)
     have n5_:=zA (zY (by (with_reducible repeat (first|apply zM|apply zL|apply zN));exact HO196.out) hb)
     have n6_:=zA (zZ (by (with_reducible repeat (first|apply zE|apply zD|apply zH));exact HO200.out) hb)
     have n7_:=zA (zY (by (with_reducible repeat (first|apply zM|apply zL|apply zN));exact HO203.out) hb)
     have n8_:=zA (zZ (by (with_reducible repeat (first|apply zE|apply zD|apply zH));exact HO208.out) hb)
     have n9_:=zA (zY (by (with_reducible repeat (first|apply zM|apply zL|apply zN));exact HO211.out) hb)
     have n10_:=zA (zQ (g:=gb174) (o:=.cells #[.slice A0_0 l0_0.length c0_0,.slice A0_1 l0_1.length c0_1] 41 (0,0)) (by (with_reducible repeat (first|refine zF ?_ _|refine zI ?_|refine zG ?_ _));exact BK174.out) hb)
     have n11_:=zA (zQ (g:=gb175) (o:=.cells #[.slice A1_0 l1_0.length c1_0,.slice A1_1 l1_1.length c1_1] 41 (0,0)) (by (with_reducible repeat (first|refine zF ?_ _|refine zI ?_|refine zG ?_ _));exact BK175.out) hb)
     have n12_:=zA (zQ (g:=gb197) (o:=.cells #[.slice Ao172 t191.length co172,.slice Ao176 t194.length co176] 46 (0,0)) (by (with_reducible repeat (first|refine zF ?_ _|refine zI ?_|refine zG ?_ _));exact BK197.out) hb)
     have n13_:=zA (zQ (g:=gb204) (o:=.cells #[.slice Ao180 t198.length co180,.slice Ao185 t201.length co185] 46 (0,0)) (by (with_reducible repeat (first|refine zF ?_ _|refine zI ?_|refine zG ?_ _));exact BK204.out) hb)
     have n14_:=zA (zJb (by repeat (first|(with_reducible first|exact HB.out|apply zK|apply zC|apply zJ|refine zB ?_ GE174.out|refine zB ?_ GE175.out|refine zB ?_ GE197.out|refine zB ?_ GE204.out)|exact HB.out)) hb)
     clear HO180
     clear HO183
     clear HO186
     clear HO189
     clear HO193
     clear HO196
     clear HO200
     clear HO203
     clear HO208
     clear HO211
     clear BK174
     clear BK175
     clear BK197
     clear BK204
     clear HB
     have HO180:=n0_
     have HO183:=n1_
     have HO186:=n2_
     have HO189:=n3_
     have HO193:=n4_
     have HO196:=n5_
     have HO200:=n6_
     have HO203:=n7_
     have HO208:=n8_
     have HO211:=n9_
     have BK174:=n10_
     have BK175:=n11_
     have BK197:=n12_
     have BK204:=n13_
     have HB:=n14_
     clear n0_ n1_ n2_ n3_ n4_ n5_ n6_ n7_ n8_ n9_ n10_ n11_ n12_ n13_ n14_
     (try clear hb)
     (try clear hb2)
     (try clear hk)
     (try clear hi)
     refine hK.out _ _ ⟨(zP BK197.out 0).trans rfl,(zP BK197.out 1).trans rfl,(zP BK174.out 0).trans rfl,(zP BK174.out 1).trans rfl⟩ (fun hHeld => ?_)
     clear hK K
     refine norm_ (a':=?_) ?_ ?_
     rotate_left
     ·
      show Act.put _ (some 38) _ = _
      simp only [Act.put,zO,zEb,zFb,i64_w,i32_w]
      rfl
     refine pure_ (i:=4) (N:=some 39) (v:=?_) (a':=?_) #[true,true,true,true,true] rfl rfl (by kernel_rfl) (fun _ _ _ h => h) (Or.inl ⟨by rfl,?_⟩) ?_ ?_
     rotate_left
     ·
      intro w'
      go_simp
      with_reducible rfl
     rotate_left
     ·
      simp only [Act.put,zO,zEb,zFb,i64_w,i32_w]
      rfl
     refine done_ (by kernel_rfl) ?_
     try go_wp2
     go_ret
     exact ⟨by first|rfl|(simp [errW_none,errW_some] <;> rfl)|(simp [*,errW_none,errW_some] <;> rfl),by repeat (first|(with_reducible first|exact HB.out|apply zK|apply zC|apply zJ|refine zB ?_ GE174.out|refine zB ?_ GE175.out|refine zB ?_ GE197.out|refine zB ?_ GE204.out)|exact HB.out)⟩

end Go.Proofs.Ytanbgnjfllpkgaa.QFnExactEqualQueries
