/- Walks through the Go functions that FnFacts reaches: each call returns what the Lean function beside it says, within the bounds that the theorem names. -/
import Derived.Test.YtfelabhakgcifaaQFnFactsx0
import Derived.Test.YtfelabhakgcifaaQFnFactsx4
import Derived.Test.YtfelabhakgcifaaQFnFactsx5
namespace Go.Proofs.Ytfelabhakgcifaa.QFnFacts
open Go.RowKit Go.Proofs.YtfelabhakgcifaaW.PrintWords Go.Proofs.YtfelabhakgcifaaW.PrintLast Go.Proofs.YtfelabhakgcifaaW.PrintMore
attribute [local go_sem] max2_int min2_int max_two min_two max_three min_three max_four min_four   -- for this text's walks alone
set_option linter.unusedVariables false
set_option linter.unusedSimpArgs false


/-! ### spec_RemoveFact: function 31 -/
mutual
def spec_RemoveFact.j0 : Nat → List (S37) → Bool → Int → List Int → Option ((List (S37)) × Bool)
 | 0, _, _, _, _ => none
 | k + 1, x1, x19, x480000, x480001 => if x19 = true then ((spec_l5All.f k x1).bind fun t482 => (some (t482, false))) else (spec_RemoveFact.l0 k x1 (([] : List (S37))) 0 x480000 x480001)
def spec_RemoveFact.l0 : Nat → List (S37) → List (S37) → Int → Int → List Int → Option ((List (S37)) × Bool)
 | 0, _, _, _, _, _ => none
 | k + 1, x1, x8, x9, x480000, x480001 => if x9 < (x1.length : Int) then (if 0 ≤ x9 then ((spec_l5Same.f k ((rd_T37 x1 x9).f0) ((rd_T37 x1 x9).f1) x480000 x480001).bind fun t489 => (if t489 = true then (spec_RemoveFact.l0 k x1 x8 (wrap64 (x9 + 1)) x480000 x480001) else ((spec_l5Copy.f ((rd_T37 x1 x9).f0) ((rd_T37 x1 x9).f1)).bind fun bt491 => (if x8.length < 4398046511104 then (spec_RemoveFact.l0 k x1 (x8 ++ [(⟨bt491.1, bt491.2⟩ : S37)]) (wrap64 (x9 + 1)) x480000 x480001) else (none))))) else (none)) else (some (x8, true))
end
def spec_RemoveFact.f (k : Nat) (l0_0 : List Int) (l1 : List (S37)) (a2_0 : Int) (l2_1 : List Int) : Option ((List (S37)) × Bool) := (spec_IsDatabase.f k l0_0 l1).bind fun t480 => (if t480 = true then ((spec_HasFact.f k l1 a2_0 l2_1).bind fun t481 => (spec_RemoveFact.j0 k l1 (!t481) a2_0 l2_1)) else (spec_RemoveFact.j0 k l1 true a2_0 l2_1))
theorem spec_RemoveFact.mono_l : ∀ k, (∀ y0 y1 y2 y3, LeO (spec_RemoveFact.j0 k y0 y1 y2 y3) (spec_RemoveFact.j0 (k + 1) y0 y1 y2 y3)) ∧ (∀ y0 y1 y2 y3 y4, LeO (spec_RemoveFact.l0 k y0 y1 y2 y3 y4) (spec_RemoveFact.l0 (k + 1) y0 y1 y2 y3 y4))
 | 0 => ⟨fun _ _ _ _ r h => by simp [spec_RemoveFact.j0] at h, fun _ _ _ _ _ r h => by simp [spec_RemoveFact.l0] at h⟩
 | k + 1 => by
  obtain ⟨ih0,ih1⟩:=spec_RemoveFact.mono_l k
  refine ⟨?_,?_⟩
  (intros;unfold spec_RemoveFact.j0;rotate_left)
  (intros;unfold spec_RemoveFact.l0;rotate_left)
  all_goals repeat' first
  | (with_reducible exact ih0 _ _ _ _)
  | (with_reducible exact ih1 _ _ _ _ _)
  | (with_reducible exact spec_HasFact.mono _ _ _ _)
  | (with_reducible exact spec_IsDatabase.mono _ _ _)
  | (with_reducible exact spec_l5All.mono _ _)
  | (with_reducible exact spec_l5Same.mono _ _ _ _ _)
  | (with_reducible exact LeO.refl _)
  | (with_reducible exact LeO.none _)
  | (with_reducible refine LeO.ite ?_ ?_)
  | (with_reducible refine LeO.bind ?_ (fun _ => ?_))
  | exact ih0 _ _ _ _
  | exact ih1 _ _ _ _ _
  | exact LeO.none _
  | refine LeO.ite ?_ ?_
  | refine LeO.bind ?_ (fun _ => ?_)
theorem spec_RemoveFact.mono : ∀ a0 a1 a2 a3 k, LeO (spec_RemoveFact.f k a0 a1 a2 a3) (spec_RemoveFact.f (k + 1) a0 a1 a2 a3) := by
 intro a0 a1 a2 a3 k
 obtain ⟨ih0,ih1⟩:=spec_RemoveFact.mono_l k
 unfold spec_RemoveFact.f
 repeat' first
   | (with_reducible exact ih0 _ _ _ _)
   | (with_reducible exact ih1 _ _ _ _ _)
   | (with_reducible exact spec_HasFact.mono _ _ _ _)
   | (with_reducible exact spec_IsDatabase.mono _ _ _)
   | (with_reducible exact spec_l5All.mono _ _)
   | (with_reducible exact spec_l5Same.mono _ _ _ _ _)
   | (with_reducible exact LeO.refl _)
   | (with_reducible exact LeO.none _)
   | (with_reducible refine LeO.ite ?_ ?_)
   | (with_reducible refine LeO.bind ?_ (fun _ => ?_))
   | exact ih0 _ _ _ _
   | exact ih1 _ _ _ _ _
   | exact LeO.none _
   | refine LeO.ite ?_ ?_
   | refine LeO.bind ?_ (fun _ => ?_)
set_option maxHeartbeats 8000000 in
set_option maxRecDepth 100000 in
theorem spec_RemoveFact.calls (k : Nat) (A0_0 : Option Addr) (c0_0 : Nat) (l0_0 : List Int) (A1 : Option Addr) (c1 : Nat) (l1 : List (S37)) (a2_0 : Int) (A2_1 : Option Addr) (c2_1 : Nat) (l2_1 : List Int) (r1 : List (S37)) (r2 : Bool) (w : World) (hr0_0 : Kd.C (Kd.int .i64) w A0_0 l0_0.length l0_0) (hc0_0 : l0_0.length ≤ c0_0) (hr1 : Kd.C k37 w A1 l1.length l1) (hc1 : l1.length ≤ c1) (hr2_1 : Kd.C (Kd.int .i64) w A2_1 l2_1.length l2_1) (hc2_1 : l2_1.length ≤ c2_1) (h : spec_RemoveFact.f k l0_0 l1 a2_0 l2_1 = some (r1, r2)) :
  Calls Try.prog 31 #[.agg #[.slice A0_0 l0_0.length c0_0], .slice A1 l1.length c1, .agg #[.int .i64 a2_0, .slice A2_1 l2_1.length c2_1]] w fun e w' => ∃ v0_ : Value, e = .returned (.tuple #[v0_, .bool r2]) ∧ Kd.S k37 37 w' w.heap.size (fun _ => True) v0_ r1 ∧ Below w.heap.size w w' := by
 have hu34:=Try.underlying34;have hu37:=Try.underlying37;have HR0_0:=zA hr0_0;have HC0_0:=zA hc0_0;clear hr0_0 hc0_0;have HR1:=zA hr1;have HC1:=zA hc1;clear hr1 hc1;have HR2_1:=zA hr2_1;have HC2_1:=zA hc2_1;clear hr2_1 hc2_1;have HB:=zA (Below.refl w.heap.size w)
 have H : ((spec_IsDatabase.f k l0_0 l1).bind fun t480 => (if t480 = true then ((spec_HasFact.f k l1 a2_0 l2_1).bind fun t481 => (spec_RemoveFact.j0 k l1 (!t481) a2_0 l2_1)) else (spec_RemoveFact.j0 k l1 true a2_0 l2_1))) = some (r1,r2):=h
 clear h;have HC4:=zA H;clear H
 go_enter Try.func31,Try.ntmps31
 go_upto_region 1 with (first|((with_reducible refine gate_dst (N:=3) rfl ?_);refine box_event ?hg (N:=3) ?hd (cs:=#[.slice A0_0 l0_0.length c0_0]) (t:=34) ?hr ?_;(case hd => rfl);(case hg => rfl);(case hr => first|(go_simp;done)|(go_simp;rfl));intro gb478 hg w5 hbox hb;have BK478:=zA (hbox);have GW478:=zA ((by rw [hg];exact (zT (zz HB)) : w.heap.size ≤ gb478));have GE478:=zA ((by rw [hg];exact (zT (zz HB)) : w.heap.size ≤ gb478));replace HB:=zA (zJb (zz HB) hb);clear hb hbox hg)|((with_reducible refine gate_dst (N:=5) rfl ?_);refine box_event ?hg (N:=5) ?hd (cs:=#[.int .i64 a2_0,.slice A2_1 l2_1.length c2_1]) (t:=37) ?hr ?_;(case hd => rfl);(case hg => rfl);(case hr => first|(go_simp;done)|(go_simp;rfl));intro gb479 hg w6 hbox hb;have BK479:=zA (hbox);have GW479:=zA ((by rw [hg];exact (zT (zz HB)) : w.heap.size ≤ gb479));have GE479:=zA ((by rw [hg];exact (zT (zz HB)) : w.heap.size ≤ gb479));replace HB:=zA (zJb (zz HB) hb);have NB478_479:=zA ((by rw [hg];exact Nat.ne_of_lt (blk_lt (g:=gb478) (o:=.cells #[.slice A0_0 l0_0.length c0_0] 34 (0,0)) (zx BK478)) : gb478 ≠ gb479));have NB479_478:=zA ((by rw [hg];exact Nat.ne_of_gt (blk_lt (g:=gb478) (o:=.cells #[.slice A0_0 l0_0.length c0_0] 34 (0,0)) (zx BK478)) : gb479 ≠ gb478));replace BK478:=zA (zQ (g:=gb478) (o:=.cells #[.slice A0_0 l0_0.length c0_0] 34 (0,0)) (zx BK478) hb);clear hb hbox hg))
 (try simp only [Act.put,zO,zEb,zFb])
 go_cut [19] (fun v19 wc => ∃ (kq : Nat) (x19_3 : Bool),v19 = .bool x19_3 ∧ Aside0 (spec_RemoveFact.j0 kq l1 x19_3 a2_0 l2_1 = some (r1,r2)) ∧ Aside0 (kq ≤ k) ∧ Aside0 (wc.heap[gb478]? = some (.cells #[(.slice A0_0 l0_0.length c0_0)] 34 (0,0))) ∧ Aside0 (wc.heap[gb479]? = some (.cells #[.int .i64 a2_0,(.slice A2_1 l2_1.length c2_1)] 37 (0,0))) ∧ Aside0 (Below w.heap.size w wc))
 case first =>
  have H:=HC4.out;clear HC4;replace H:=Option.bind_eq_some_iff.mp H;obtain ⟨t480,A70,H⟩:=H;(try dsimp only at H);have A7:=zA A70;clear A70
  by_cases c8 : t480 = true
  ·
   subst c8
   rw [if_pos rfl] at H;replace H:=Option.bind_eq_some_iff.mp H;obtain ⟨t481,A90,H⟩:=H;(try dsimp only at H);have A9:=zA A90;clear A90
   have H':=zA H
   clear H;have hnb10:=NB478_479.out;have hnc10:=NB479_478.out;have hcz11_0:=zc (.slice A0_0 l0_0.length c0_0) BK478 0 rfl;have hfz11_0:=blk_frozen BK478.out 0
   go_wp2_with (first|((with_reducible refine gate_callee (f:=26) rfl ?_);refine goesL_ (some 12) rfl rfl Try.func26 (by kernel_rfl) rfl #[.agg #[.slice A0_0 l0_0.length c0_0],.slice A1 l1.length c1] rfl (by (try simp only [zCb,zMb,zNb]);first|done|rfl|(simp only [zLb,zDb];rfl)) ?_;(with_reducible refine (spec_IsDatabase.calls k _ _ l0_0 _ _ l1 true _ ?side1 ?side2 ?side3 ?side4 A7.out).mono ?_);(case side1 => repeat (first|exact (zKb HR0_0.out HB.out)|(with_reducible refine zBb ?_ _)|(with_reducible refine zAb ?_ _)|(with_reducible refine zX ?_)));(case side2 => exact HC0_0.out);(case side3 => repeat (first|exact (zKb HR1.out HB.out)|(with_reducible refine zBb ?_ _)|(with_reducible refine zAb ?_ _)|(with_reducible refine zX ?_)));(case side4 => exact HC1.out);rintro e w12 ⟨rfl,hb⟩;refine ⟨_,rfl,?_⟩;replace BK478:=zA (zQ (g:=gb478) (o:=.cells #[.slice A0_0 l0_0.length c0_0] 34 (0,0)) (zx BK478) hb);replace BK479:=zA (zQ (g:=gb479) (o:=.cells #[.int .i64 a2_0,.slice A2_1 l2_1.length c2_1] 37 (0,0)) (zx BK479) hb);replace HB:=zA (zJb (zz HB) hb);(try clear hb);(try clear hb2);(try clear hk);(try clear hi);have hcz13_0:=zc (.int .i64 a2_0) BK479 0 rfl;have hcz13_1:=zc (.slice A2_1 l2_1.length c2_1) BK479 1 rfl;have hfz13_0:=blk_frozen BK479.out 0;have hfz13_1:=blk_frozen BK479.out 1)|(go_at_call 48;(with_reducible refine (spec_HasFact.calls k _ _ l1 a2_0 _ _ l2_1 t481 _ ?side1 ?side2 ?side3 ?side4 A9.out).mono ?_);(case side1 => repeat (first|exact (zKb HR1.out HB.out)|(with_reducible refine zBb ?_ _)|(with_reducible refine zAb ?_ _)|(with_reducible refine zX ?_)));(case side2 => exact HC1.out);(case side3 => repeat (first|exact (zKb HR2_1.out HB.out)|(with_reducible refine zBb ?_ _)|(with_reducible refine zAb ?_ _)|(with_reducible refine zX ?_)));(case side4 => exact HC2_1.out);rintro e w14 ⟨rfl,hb⟩;replace BK478:=zA (zQ (g:=gb478) (o:=.cells #[.slice A0_0 l0_0.length c0_0] 34 (0,0)) (zx BK478) hb);replace BK479:=zA (zQ (g:=gb479) (o:=.cells #[.int .i64 a2_0,.slice A2_1 l2_1.length c2_1] 37 (0,0)) (zx BK479) hb);replace HB:=zA (zJb (zz HB) hb);(try clear hb);(try clear hb2);(try clear hk);(try clear hi)))
   go_meet
   case rel => exact ⟨_,(!t481),za,H',⟨by first|omega|exact Nat.le_refl _⟩,⟨zx BK478⟩,⟨zx BK479⟩,⟨zz HB⟩⟩
  ·
   replace c8:=Bool.eq_false_iff.mpr c8
   subst c8
   have H1 : (spec_RemoveFact.j0 k l1 true a2_0 l2_1) = some (r1,r2):=by rw [if_neg (show ¬ (false = true) by decide)] at H;exact H
   clear H;have H:=H1;clear H1
   have H':=zA H
   clear H;have hnb15:=NB478_479.out;have hnc15:=NB479_478.out;have hcz16_0:=zc (.slice A0_0 l0_0.length c0_0) BK478 0 rfl;have hfz16_0:=blk_frozen BK478.out 0
   go_wp2_with (first|((with_reducible refine gate_callee (f:=26) rfl ?_);refine goesL_ (some 12) rfl rfl Try.func26 (by kernel_rfl) rfl #[.agg #[.slice A0_0 l0_0.length c0_0],.slice A1 l1.length c1] rfl (by (try simp only [zCb,zMb,zNb]);first|done|rfl|(simp only [zLb,zDb];rfl)) ?_;(with_reducible refine (spec_IsDatabase.calls k _ _ l0_0 _ _ l1 false _ ?side1 ?side2 ?side3 ?side4 A7.out).mono ?_);(case side1 => repeat (first|exact (zKb HR0_0.out HB.out)|(with_reducible refine zBb ?_ _)|(with_reducible refine zAb ?_ _)|(with_reducible refine zX ?_)));(case side2 => exact HC0_0.out);(case side3 => repeat (first|exact (zKb HR1.out HB.out)|(with_reducible refine zBb ?_ _)|(with_reducible refine zAb ?_ _)|(with_reducible refine zX ?_)));(case side4 => exact HC1.out);rintro e w17 ⟨rfl,hb⟩;refine ⟨_,rfl,?_⟩;replace BK478:=zA (zQ (g:=gb478) (o:=.cells #[.slice A0_0 l0_0.length c0_0] 34 (0,0)) (zx BK478) hb);replace BK479:=zA (zQ (g:=gb479) (o:=.cells #[.int .i64 a2_0,.slice A2_1 l2_1.length c2_1] 37 (0,0)) (zx BK479) hb);replace HB:=zA (zJb (zz HB) hb);(try clear hb);(try clear hb2);(try clear hk);(try clear hi)))
   go_meet
   case rel => exact ⟨_,(true),za,H',⟨by first|omega|exact Nat.le_refl _⟩,⟨zx BK478⟩,⟨zx BK479⟩,⟨zz HB⟩⟩
 case rest =>
  clear HC4;(try clear c1);(try clear c2);(try clear p2);(try clear c3);(try clear c8);(try clear c10);(try clear c15);(try clear hcz11_0);(try clear hcz13_0);(try clear hcz13_1);(try clear hcz16_0);(try clear hfz11_0);(try clear hfz13_0);(try clear hfz13_1);(try clear hfz16_0);obtain ⟨kq,x19_3,rfl,HA,HJ3,BK478,BK479,HB⟩:=hcut
  cases kq with
  | zero => exact absurd HA.out (by simp [spec_RemoveFact.j0])
  | succ kj3 =>
   have H:=HA.out;clear HA;simp only [spec_RemoveFact.j0] at H
   by_cases c18 : x19_3 = true
   ·
    subst c18
    rw [if_pos rfl] at H;replace H:=Option.bind_eq_some_iff.mp H;obtain ⟨t482,A190,H⟩:=H;(try dsimp only at H);have A19:=zA A190;clear A190;simp only [Option.some.injEq,Prod.mk.injEq] at H;obtain ⟨rfl,rfl⟩:=H
    go_wp2_with (first|((with_reducible refine gate_callee (f:=49) rfl ?_);refine goesL_ (some 21) rfl rfl Try.func49 (by kernel_rfl) rfl #[.slice A1 l1.length c1] rfl (by (try simp only [zCb,zMb,zNb]);first|done|rfl|(simp only [zLb,zDb];rfl)) ?_;(with_reducible refine (spec_l5All.calls kj3 _ _ l1 t482 _ ?side1 ?side2 A19.out).mono ?_);(case side1 => repeat (first|exact (zKb HR1.out HB.out)|(with_reducible refine zBb ?_ _)|(with_reducible refine zAb ?_ _)|(with_reducible refine zX ?_)));(case side2 => exact HC1.out);rintro e w20 ⟨v483,rfl,ho0,hb⟩;refine ⟨_,rfl,?_⟩;have HO484:=zA (zIb (Kd.S_newB ho0 (g:=gb479) (o:=.cells #[.int .i64 a2_0,.slice A2_1 l2_1.length c2_1] 37 (0,0)) (zx BK479)) (zT (zz HB)));replace BK478:=zA (zQ (g:=gb478) (o:=.cells #[.slice A0_0 l0_0.length c0_0] 34 (0,0)) (zx BK478) hb);replace BK479:=zA (zQ (g:=gb479) (o:=.cells #[.int .i64 a2_0,.slice A2_1 l2_1.length c2_1] 37 (0,0)) (zx BK479) hb);replace HB:=zA (zJb (zz HB) hb);(try clear hb);(try clear hb2);(try clear hk);(try clear hi);(try clear ho0)))
    go_ret2
    exact ⟨_,by first|rfl|(simp [errW_none,errW_some] <;> rfl)|(simp [*,errW_none,errW_some] <;> rfl),by (with_reducible repeat (first|apply zM|apply zL|apply zN));exact zS HO484.out (fun _ hk => trivial),zz HB⟩
   ·
    replace c18:=Bool.eq_false_iff.mpr c18
    subst c18
    have H1 : (spec_RemoveFact.l0 kj3 l1 (([] : List (S37))) 0 a2_0 l2_1) = some (r1,r2):=by rw [if_neg (show ¬ (false = true) by decide)] at H;exact H
    clear H;have H:=H1;clear H1;obtain ⟨y485,hy485⟩ : ∃ y_ : List (S37),y_ = (([] : List (S37))):=⟨_,rfl⟩
    replace H : (spec_RemoveFact.l0 kj3 l1 y485 0 a2_0 l2_1) = some (r1,r2):=by first|(rw [hy485];with_reducible exact H)|(have H2_:=(Option.bind_some _ _).symm.trans H;rw [hy485];with_reducible exact H2_)|(have H2_:=(Option.bind_some _ _).symm.trans H;with_reducible exact H2_)|with_reducible exact H|(rw [hy485];exact H)|exact H
    have Ny485:=zA hy485;clear hy485
    have H':=zA H
    clear H
    go_wp2_with (first|((with_reducible refine gate_dst (N:=22) rfl ?_);refine Kd.S_lit k37 _ 37 ?hg (N:=22) ?hd (xs:=([] : List (S37))) (inner:=[]) (ok:=fun _ => True) (okp:=fun _ => True) ?hr ?hp (fun _ hk => hk) trivial (Below.refl _ _) (Nat.le_refl _) (by simp) ?_;(case hd => rfl);(case hg => rfl);(case hr => first|(go_simp;done)|(go_simp;rfl));(case hp => exact (Reps.none _ _));intro v486 w21 ho22 hb hg_ hnew_;clear hg_ hnew_;(first|rw [← Ny485.out] at ho22|(simp only [Int.reduceToNat] at ho22;rw [← Ny485.out] at ho22));have HO487:=zA (zIb (Kd.S_newB ho22 (g:=gb479) (o:=.cells #[.int .i64 a2_0,.slice A2_1 l2_1.length c2_1] 37 (0,0)) (zx BK479)) (zT (zz HB)));replace BK478:=zA (zQ (g:=gb478) (o:=.cells #[.slice A0_0 l0_0.length c0_0] 34 (0,0)) (zx BK478) hb);replace BK479:=zA (zQ (g:=gb479) (o:=.cells #[.int .i64 a2_0,.slice A2_1 l2_1.length c2_1] 37 (0,0)) (zx BK479) hb);replace HB:=zA (zJb (zz HB) hb);clear hb ho22))
    go_loopg [8,9] kj3 (fun kq v8 v9 w' => ∃ (x8_2 : List (S37)) (x9_2 : Int),v9 = .int .i64 x9_2 ∧ Aside0 (spec_RemoveFact.l0 kq l1 x8_2 x9_2 a2_0 l2_1 = some (r1,r2)) ∧ Aside0 (kq ≤ kj3) ∧ Aside0 (Kd.S k37 37 w' w.heap.size (fun k_ => k_ ≠ gb479) v8 x8_2) ∧ Aside0 (w'.heap[gb478]? = some (.cells #[(.slice A0_0 l0_0.length c0_0)] 34 (0,0))) ∧ Aside0 (w'.heap[gb479]? = some (.cells #[.int .i64 a2_0,(.slice A2_1 l2_1.length c2_1)] 37 (0,0))) ∧ Aside0 (Below w.heap.size w w'))
    case atStart => exact ⟨(y485),(0),za,H',⟨Nat.le_refl _⟩,⟨by (with_reducible repeat (first|apply zM|apply zL|apply zN));exact zS HO487.out (fun _ hk => hk.2)⟩,⟨zx BK478⟩,⟨zx BK479⟩,⟨zz HB⟩⟩
    case round =>
     clear H';(try clear c1);(try clear c2);(try clear p2);(try clear c3);(try clear c4);(try clear c8);(try clear c10);(try clear c15);(try clear c18);(try clear hcz11_0);(try clear hcz13_0);(try clear hcz13_1);(try clear hcz16_0);(try clear hfz11_0);(try clear hfz13_0);(try clear hfz13_1);(try clear hfz16_0);(try clear p2);obtain ⟨x8_2,x9_2,rfl,HA,HK2,HO_8,BK478,BK479,HB⟩:=hrel
     cases gk with
     | zero => exact absurd HA.out (by simp [spec_RemoveFact.l0])
     | succ k2 =>
      have H:=HA.out;clear HA;simp only [spec_RemoveFact.l0] at H
      by_cases c23 : x9_2 < (l1.length : Int)
      ·
       rw [if_pos c23] at H;have c23b0:=decide_eq_true c23;clear c23
       by_cases c24 : 0 ≤ x9_2
       ·
        rw [if_pos c24] at H;have c24b0:=decide_eq_true c24;clear c24;replace H:=Option.bind_eq_some_iff.mp H;obtain ⟨t489,A250,H⟩:=H;(try dsimp only at H);have A25:=zA A250;clear A250
        by_cases c26 : t489 = true
        ·
         subst c26
         rw [if_pos rfl] at H
         have H':=zA H
         clear H
         try go_wp2
         have n0_:=zA (zN HO_8.out);have n1_:=zA (zI BK478.out);have n2_:=zA (zI BK479.out);have n3_:=zA (zJ HB.out);clear HO_8;clear BK478;clear BK479;clear HB;have HO_8:=n0_;have BK478:=n1_;have BK479:=n2_;have HB:=n3_;clear n0_ n1_ n2_ n3_;have p488 : 0 ≤ (x9_2 : Int):=zXb ze;have q488 : x9_2 < (l1.length : Int):=zXb ze;obtain ⟨ad488,A488_1,c488_1,e488,hx488_0,hx488_1,hl488_1,hi488_1⟩:=at_T37 HR1.out x9_2 p488 q488;have hw488_1:=hx488_1;have hw488_0:=hx488_0
         cases e488
         replace hx488_0:=(HB.out.cell (World.block_lt_of_cell? w _ hx488_0)).trans hx488_0;replace hx488_1:=(HB.out.cell (World.block_lt_of_cell? w _ hx488_1)).trans hx488_1;have HR488_1:=zA hi488_1;have HC488_1:=zA hl488_1;clear hi488_1 hl488_1;replace p488:=eq_true p488;replace q488:=eq_true q488
         refine start_ (n:=7) (S:=fun w' => w'.cell? ⟨gb479,0,none⟩ = some (.int .i64 a2_0) ∧ w'.cell? ⟨gb479,1,none⟩ = some (.slice A2_1 l2_1.length c2_1) ∧ w'.cell? (ad488.add ((x9_2).toNat * 2)) = some (.int .i64 ((rd_T37 l1 x9_2).f0)) ∧ w'.cell? ⟨(ad488.add ((x9_2).toNat * 2)).block,(ad488.add ((x9_2).toNat * 2)).off + 1,none⟩ = some (.slice A488_1 ((rd_T37 l1 x9_2).f1).length c488_1)) (ds:=[]) #[false,false,false,false,false,false,false] (by kernel_rfl) rfl rfl ⟨(zP BK479.out 0).trans rfl,(zP BK479.out 1).trans rfl,((HB.out.cell (World.block_lt_of_cell? w _ hw488_0)).trans hw488_0),((HB.out.cell (World.block_lt_of_cell? w _ hw488_1)).trans hw488_1)⟩ (fun hHeld => ?_)
         generalize wr.drew = w27 at HO_8 BK478 BK479 HB HR488_1 hx488_0 hx488_1 hHeld ⊢
         refine pure_ (i:=0) (N:=some 29) (v:=?_) (a':=?_) #[true,false,false,false,false,false,false] rfl rfl (by kernel_rfl) (fun _ _ _ h => h) (Or.inl ⟨by rfl,?_⟩) ?_ ?_
         rotate_left
         ·
          intro w'
          go_simp
          with_reducible rfl
         rotate_left
         ·
          simp only [Act.put,zO,zEb,zFb,i64_w,i32_w]
          rfl
         refine pure_ (i:=1) (N:=some 30) (v:=?_) (a':=?_) #[true,true,false,false,false,false,false] rfl rfl (by kernel_rfl) (fun _ _ _ h => h) (Or.inl ⟨by rfl,?_⟩) ?_ ?_
         rotate_left
         ·
          intro w'
          go_simp
          with_reducible rfl
         rotate_left
         ·
          simp only [Act.put,zO,zEb,zFb,i64_w,i32_w]
          rfl
         refine pure_ (i:=2) (N:=some 31) (v:=?_) (a':=?_) #[true,true,true,false,false,false,false] rfl rfl (by kernel_rfl) (fun _ _ _ h => h) (Or.inl ⟨by rfl,?_⟩) ?_ ?_
         rotate_left
         ·
          intro w'
          go_simp
          with_reducible rfl
         rotate_left
         ·
          simp only [Act.put,zO,zEb,zFb,i64_w,i32_w]
          rfl
         refine take_ (i:=3) (N:=some 32) (v:=?_) (a':=?_) #[true,true,true,true,false,false,false] rfl rfl (by kernel_rfl) (fun _ _ _ h => h) (Or.inl ⟨by rfl,?_⟩) hHeld ?_ ?_
         rotate_left
         ·
          rintro w' ⟨s0,s1,s2,s3⟩
          go_simp
          with_reducible rfl
         rotate_left
         ·
          simp only [Act.put,zO,zEb,zFb,i64_w,i32_w]
          rfl
         refine take_ (i:=4) (N:=some 33) (v:=?_) (a':=?_) #[true,true,true,true,true,false,false] rfl rfl (by kernel_rfl) (fun _ _ _ h => h) (Or.inl ⟨by rfl,?_⟩) hHeld ?_ ?_
         rotate_left
         ·
          rintro w' ⟨s0,s1,s2,s3⟩
          go_simp
          with_reducible rfl
         rotate_left
         ·
          simp only [Act.put,zO,zEb,zFb,i64_w,i32_w]
          rfl
         refine one_ (i:=5) (N:=some 34) #[true,true,true,true,true,true,false] rfl rfl (by kernel_rfl) (by decide) (fun K hK => ?_)
         refine goes_ Try.func58 (by kernel_rfl) rfl #[.agg #[.int .i64 ((rd_T37 l1 x9_2).f0),.slice A488_1 ((rd_T37 l1 x9_2).f1).length c488_1],.agg #[.int .i64 a2_0,.slice A2_1 l2_1.length c2_1]] (by rfl) rfl rfl (by (try simp only [zCb,zMb,zNb]);first|done|rfl|(simp only [zLb,zDb];rfl)) ?_
         with_reducible refine (spec_l5Same.calls k2 ((rd_T37 l1 x9_2).f0) _ _ ((rd_T37 l1 x9_2).f1) a2_0 _ _ l2_1 true _ ?side1 ?side2 ?side3 ?side4 A25.out).mono ?_
         (case side1 => repeat (first|exact (zKb HR488_1.out HB.out)|(with_reducible refine zBb ?_ _)|(with_reducible refine zAb ?_ _)|(with_reducible refine zX ?_)))
         (case side2 => exact HC488_1.out)
         (case side3 => repeat (first|exact (zKb HR2_1.out HB.out)|(with_reducible refine zBb ?_ _)|(with_reducible refine zAb ?_ _)|(with_reducible refine zX ?_)))
         (case side4 => exact HC2_1.out)
         rintro e w28 ⟨rfl,hb⟩
         refine ⟨_,rfl,?_⟩
         have n0_:=zA (zY (zy HO_8) hb);have n1_:=zA (zQ (g:=gb478) (o:=.cells #[.slice A0_0 l0_0.length c0_0] 34 (0,0)) (zx BK478) hb);have n2_:=zA (zQ (g:=gb479) (o:=.cells #[.int .i64 a2_0,.slice A2_1 l2_1.length c2_1] 37 (0,0)) (zx BK479) hb);have n3_:=zA (zJb (zz HB) hb);clear HO_8;clear BK478;clear BK479;clear HB;have HO_8:=n0_;have BK478:=n1_;have BK479:=n2_;have HB:=n3_;clear n0_ n1_ n2_ n3_;(try clear hb);(try clear hb2);(try clear hk);(try clear hi)
         refine hK.out _ _ ⟨(zP BK479.out 0).trans rfl,(zP BK479.out 1).trans rfl,((HB.out.cell (World.block_lt_of_cell? w _ hw488_0)).trans hw488_0),((HB.out.cell (World.block_lt_of_cell? w _ hw488_1)).trans hw488_1)⟩ (fun hHeld => ?_)
         clear hK K
         refine norm_ (a':=?_) ?_ ?_
         rotate_left
         ·
          show Act.put _ (some 34) _ = _
          simp only [Act.put,zO,zEb,zFb,i64_w,i32_w]
          rfl
         refine pure_ (i:=6) (N:=some 35) (v:=?_) (a':=?_) #[true,true,true,true,true,true,true] rfl rfl (by kernel_rfl) (fun _ _ _ h => h) (Or.inl ⟨by rfl,?_⟩) ?_ ?_
         rotate_left
         ·
          intro w'
          go_simp
          with_reducible rfl
         rotate_left
         ·
          simp only [Act.put,zO,zEb,zFb,i64_w,i32_w]
          rfl
         refine done_ (by kernel_rfl) ?_
         try go_wp2
         go_roundg k2
         case measure => have:=HJ3.out;have:=HK2.out;omega
         case rel => exact ⟨(x8_2),(wrap64 (x9_2 + 1)),za,H',⟨by have:=HJ3.out;have:=HK2.out;omega⟩,⟨zy HO_8⟩,⟨zx BK478⟩,⟨zx BK479⟩,⟨zz HB⟩⟩
        ·
         replace c26:=Bool.eq_false_iff.mpr c26
         subst c26
         have H1 : ((spec_l5Copy.f ((rd_T37 l1 x9_2).f0) ((rd_T37 l1 x9_2).f1)).bind fun bt491 => (if x8_2.length < 4398046511104 then (spec_RemoveFact.l0 k2 l1 (x8_2 ++ [(⟨bt491.1,bt491.2⟩ : S37)]) (wrap64 (x9_2 + 1)) a2_0 l2_1) else (none))) = some (r1,r2):=by rw [if_neg (show ¬ (false = true) by decide)] at H;exact H
         clear H;have H:=H1;clear H1;replace H:=Option.bind_eq_some_iff.mp H;obtain ⟨⟨t491,t492⟩,A290,H⟩:=H;(try dsimp only at H);have A29:=zA A290;clear A290
         by_cases c30 : x8_2.length < 4398046511104
         ·
          rw [if_pos c30] at H;have LMc30:=zA c30;clear c30;obtain ⟨y495,hy495⟩ : ∃ y_ : List (S37),y_ = (x8_2 ++ [(⟨t491,t492⟩ : S37)]):=⟨_,rfl⟩
          replace H : (spec_RemoveFact.l0 k2 l1 y495 (wrap64 (x9_2 + 1)) a2_0 l2_1) = some (r1,r2):=by first|(rw [hy495];with_reducible exact H)|(have H2_:=(Option.bind_some _ _).symm.trans H;rw [hy495];with_reducible exact H2_)|(have H2_:=(Option.bind_some _ _).symm.trans H;with_reducible exact H2_)|with_reducible exact H|(rw [hy495];exact H)|exact H
          have Ny495:=zA hy495;clear hy495
          have H':=zA H
          clear H
          try go_wp2
          have n0_:=zA (zN HO_8.out);have n1_:=zA (zI BK478.out);have n2_:=zA (zI BK479.out);have n3_:=zA (zJ HB.out);clear HO_8;clear BK478;clear BK479;clear HB;have HO_8:=n0_;have BK478:=n1_;have BK479:=n2_;have HB:=n3_;clear n0_ n1_ n2_ n3_;have p488 : 0 ≤ (x9_2 : Int):=zXb ze;have q488 : x9_2 < (l1.length : Int):=zXb ze;obtain ⟨ad488,A488_1,c488_1,e488,hx488_0,hx488_1,hl488_1,hi488_1⟩:=at_T37 HR1.out x9_2 p488 q488;have hw488_1:=hx488_1;have hw488_0:=hx488_0
          cases e488
          replace hx488_0:=(HB.out.cell (World.block_lt_of_cell? w _ hx488_0)).trans hx488_0;replace hx488_1:=(HB.out.cell (World.block_lt_of_cell? w _ hx488_1)).trans hx488_1;have HR488_1:=zA hi488_1;have HC488_1:=zA hl488_1;clear hi488_1 hl488_1;replace p488:=eq_true p488;replace q488:=eq_true q488
          refine start_ (n:=7) (S:=fun w' => w'.cell? ⟨gb479,0,none⟩ = some (.int .i64 a2_0) ∧ w'.cell? ⟨gb479,1,none⟩ = some (.slice A2_1 l2_1.length c2_1) ∧ w'.cell? (ad488.add ((x9_2).toNat * 2)) = some (.int .i64 ((rd_T37 l1 x9_2).f0)) ∧ w'.cell? ⟨(ad488.add ((x9_2).toNat * 2)).block,(ad488.add ((x9_2).toNat * 2)).off + 1,none⟩ = some (.slice A488_1 ((rd_T37 l1 x9_2).f1).length c488_1)) (ds:=[]) #[false,false,false,false,false,false,false] (by kernel_rfl) rfl rfl ⟨(zP BK479.out 0).trans rfl,(zP BK479.out 1).trans rfl,((HB.out.cell (World.block_lt_of_cell? w _ hw488_0)).trans hw488_0),((HB.out.cell (World.block_lt_of_cell? w _ hw488_1)).trans hw488_1)⟩ (fun hHeld => ?_)
          generalize wr.drew = w31 at HO_8 BK478 BK479 HB HR488_1 hx488_0 hx488_1 hHeld ⊢
          refine pure_ (i:=0) (N:=some 29) (v:=?_) (a':=?_) #[true,false,false,false,false,false,false] rfl rfl (by kernel_rfl) (fun _ _ _ h => h) (Or.inl ⟨by rfl,?_⟩) ?_ ?_
          rotate_left
          ·
           intro w'
           go_simp
           with_reducible rfl
          rotate_left
          ·
           simp only [Act.put,zO,zEb,zFb,i64_w,i32_w]
           rfl
          refine pure_ (i:=1) (N:=some 30) (v:=?_) (a':=?_) #[true,true,false,false,false,false,false] rfl rfl (by kernel_rfl) (fun _ _ _ h => h) (Or.inl ⟨by rfl,?_⟩) ?_ ?_
          rotate_left
          ·
           intro w'
           go_simp
           with_reducible rfl
          rotate_left
          ·
           simp only [Act.put,zO,zEb,zFb,i64_w,i32_w]
           rfl
          refine pure_ (i:=2) (N:=some 31) (v:=?_) (a':=?_) #[true,true,true,false,false,false,false] rfl rfl (by kernel_rfl) (fun _ _ _ h => h) (Or.inl ⟨by rfl,?_⟩) ?_ ?_
          rotate_left
          ·
           intro w'
           go_simp
           with_reducible rfl
          rotate_left
          ·
           simp only [Act.put,zO,zEb,zFb,i64_w,i32_w]
           rfl
          refine take_ (i:=3) (N:=some 32) (v:=?_) (a':=?_) #[true,true,true,true,false,false,false] rfl rfl (by kernel_rfl) (fun _ _ _ h => h) (Or.inl ⟨by rfl,?_⟩) hHeld ?_ ?_
          rotate_left
          ·
           rintro w' ⟨s0,s1,s2,s3⟩
           go_simp
           with_reducible rfl
          rotate_left
          ·
           simp only [Act.put,zO,zEb,zFb,i64_w,i32_w]
           rfl
          refine take_ (i:=4) (N:=some 33) (v:=?_) (a':=?_) #[true,true,true,true,true,false,false] rfl rfl (by kernel_rfl) (fun _ _ _ h => h) (Or.inl ⟨by rfl,?_⟩) hHeld ?_ ?_
          rotate_left
          ·
           rintro w' ⟨s0,s1,s2,s3⟩
           go_simp
           with_reducible rfl
          rotate_left
          ·
           simp only [Act.put,zO,zEb,zFb,i64_w,i32_w]
           rfl
          refine one_ (i:=5) (N:=some 34) #[true,true,true,true,true,true,false] rfl rfl (by kernel_rfl) (by decide) (fun K hK => ?_)
          refine goes_ Try.func58 (by kernel_rfl) rfl #[.agg #[.int .i64 ((rd_T37 l1 x9_2).f0),.slice A488_1 ((rd_T37 l1 x9_2).f1).length c488_1],.agg #[.int .i64 a2_0,.slice A2_1 l2_1.length c2_1]] (by rfl) rfl rfl (by (try simp only [zCb,zMb,zNb]);first|done|rfl|(simp only [zLb,zDb];rfl)) ?_
          with_reducible refine (spec_l5Same.calls k2 ((rd_T37 l1 x9_2).f0) _ _ ((rd_T37 l1 x9_2).f1) a2_0 _ _ l2_1 false _ ?side1 ?side2 ?side3 ?side4 A25.out).mono ?_
          (case side1 => repeat (first|exact (zKb HR488_1.out HB.out)|(with_reducible refine zBb ?_ _)|(with_reducible refine zAb ?_ _)|(with_reducible refine zX ?_)))
          (case side2 => exact HC488_1.out)
          (case side3 => repeat (first|exact (zKb HR2_1.out HB.out)|(with_reducible refine zBb ?_ _)|(with_reducible refine zAb ?_ _)|(with_reducible refine zX ?_)))
          (case side4 => exact HC2_1.out)
          rintro e w32 ⟨rfl,hb⟩
          refine ⟨_,rfl,?_⟩
          have n0_:=zA (zY (zy HO_8) hb);have n1_:=zA (zQ (g:=gb478) (o:=.cells #[.slice A0_0 l0_0.length c0_0] 34 (0,0)) (zx BK478) hb);have n2_:=zA (zQ (g:=gb479) (o:=.cells #[.int .i64 a2_0,.slice A2_1 l2_1.length c2_1] 37 (0,0)) (zx BK479) hb);have n3_:=zA (zJb (zz HB) hb);clear HO_8;clear BK478;clear BK479;clear HB;have HO_8:=n0_;have BK478:=n1_;have BK479:=n2_;have HB:=n3_;clear n0_ n1_ n2_ n3_;(try clear hb);(try clear hb2);(try clear hk);(try clear hi)
          refine hK.out _ _ ⟨(zP BK479.out 0).trans rfl,(zP BK479.out 1).trans rfl,((HB.out.cell (World.block_lt_of_cell? w _ hw488_0)).trans hw488_0),((HB.out.cell (World.block_lt_of_cell? w _ hw488_1)).trans hw488_1)⟩ (fun hHeld => ?_)
          clear hK K
          refine norm_ (a':=?_) ?_ ?_
          rotate_left
          ·
           show Act.put _ (some 34) _ = _
           simp only [Act.put,zO,zEb,zFb,i64_w,i32_w]
           rfl
          refine pure_ (i:=6) (N:=some 35) (v:=?_) (a':=?_) #[true,true,true,true,true,true,true] rfl rfl (by kernel_rfl) (fun _ _ _ h => h) (Or.inl ⟨by rfl,?_⟩) ?_ ?_
          rotate_left
          ·
           intro w'
           go_simp
           with_reducible rfl
          rotate_left
          ·
           simp only [Act.put,zO,zEb,zFb,i64_w,i32_w]
           rfl
          refine done_ (by kernel_rfl) ?_
          have p490 : 0 ≤ (x9_2 : Int):=zXb ze;have q490 : x9_2 < (l1.length : Int):=zXb ze;obtain ⟨ad490,A490_1,c490_1,e490,hx490_0,hx490_1,hl490_1,hi490_1⟩:=at_T37 HR1.out x9_2 p490 q490
          obtain rfl : ad488 = ad490:=(by injection e490)
          obtain ⟨rfl,rfl⟩ : A488_1 = A490_1 ∧ c488_1 = c490_1:=by
           have h_:=Option.some.inj (hw488_1.symm.trans hx490_1)
           injection h_ with h1_ h2_ h3_
           exact ⟨h1_,h3_⟩
          replace hx490_0:=(HB.out.cell (World.block_lt_of_cell? w _ hx490_0)).trans hx490_0;replace hx490_1:=(HB.out.cell (World.block_lt_of_cell? w _ hx490_1)).trans hx490_1;have HR490_1:=zA hi490_1;have HC490_1:=zA hl490_1;clear hi490_1 hl490_1;replace p490:=eq_true p490;replace q490:=eq_true q490
          try go_wp2_with (first|((with_reducible refine gate_callee (f:=64) rfl ?_);refine goesL_ (some 41) rfl rfl Try.func64 (by kernel_rfl) rfl #[.agg #[.int .i64 ((rd_T37 l1 x9_2).f0),.slice A488_1 ((rd_T37 l1 x9_2).f1).length c488_1]] rfl (by (try simp only [zCb,zMb,zNb]);first|done|rfl|(simp only [zLb,zDb];rfl)) ?_;(with_reducible refine (spec_l5Copy.calls ((rd_T37 l1 x9_2).f0) _ _ ((rd_T37 l1 x9_2).f1) t491 t492 _ ?side1 ?side2 A29.out).mono ?_);(case side1 => repeat (first|exact (zKb HR490_1.out HB.out)|(with_reducible refine zBb ?_ _)|(with_reducible refine zAb ?_ _)|(with_reducible refine zX ?_)));(case side2 => exact HC490_1.out);rintro e w33 ⟨v493,rfl,ho0,hb⟩;refine ⟨_,rfl,?_⟩;replace HO_8:=zA (zSb (zy HO_8) (zW ho0) hb);have HO494:=zA (zHb ho0 (zT (zz HB)));replace BK478:=zA (zQ (g:=gb478) (o:=.cells #[.slice A0_0 l0_0.length c0_0] 34 (0,0)) (zx BK478) hb);replace BK479:=zA (zQ (g:=gb479) (o:=.cells #[.int .i64 a2_0,.slice A2_1 l2_1.length c2_1] 37 (0,0)) (zx BK479) hb);replace HB:=zA (zJb (zz HB) hb);(try clear hb);(try clear hb2);(try clear hk);(try clear hi);(try clear ho0);obtain ⟨Ao35,co35,eo35⟩:=Kd.R_slice HO494.out;subst eo35)|((with_reducible refine gate_builtin (b:=.append) (xs:=#[.tmp 36,.tmp 42]) rfl ?_);at_builtin;refine Kd.S_append k37 (w0:=w) w.heap.size rfl (.tmp 36) (.tmp 42) 31 37 (.agg #[(.int .i64 0),(.slice none 0 0)]) 32 rfl Try.underlying31 info37 rfl (by decide) (by omega) u8 x8_2 (⟨t491,t492⟩ : S37) [.int .i64 t491,.slice Ao35 t492.length co35] (fun k_ => k_ ≠ gb479) (fun k_ => some k_ = (.slice Ao35 t492.length co35 : Value).ownBlock) rfl rfl ?aP (fun k_ hk_ => ((zGb (ok':=fun k_ => ((fun k_ => k_ ≠ gb479)) k_ ∧ some k_ ≠ (u8 : Value).ownBlock) (Kd.R_types (Kd.R_apart' (HO494.out) (Kd.S_typed HO_8.out) (by decide)) BK479.out (by decide)) (fun k_ hk => ⟨hk.2,hk.1.2⟩))).1 k_ hk_.symm) ?aF ?aO ?aB ?aS ?aL ?_;(case aP => exact k37_mkM _ _ _ (⟨t491,t492⟩ : S37) (zGb (Kd.R_tight rfl (zGb (ok':=fun k_ => ((fun k_ => k_ ≠ gb479)) k_ ∧ some k_ ≠ (u8 : Value).ownBlock) (Kd.R_types (Kd.R_apart' (HO494.out) (Kd.S_typed HO_8.out) (by decide)) BK479.out (by decide)) (fun k_ hk => ⟨hk.2,hk.1.2⟩))) (fun _ h_ => h_)));(case aB => exact (zz HB));(case aF => exact (fun k_ hk => Kd.freshB (g:=gb479) (o:=.cells #[.int .i64 a2_0,.slice A2_1 l2_1.length c2_1] 37 (0,0)) (zx BK479) k_ hk));(case aO => exact (by (with_reducible repeat (first|apply zM|apply zL|apply zN));exact zS HO_8.out (fun k_ hk => ⟨hk.1,fun e_ => hk.2 e_⟩)));(case aS => exact (zT (zz HB)));(case aL => have:=LMc30.out;omega);intro v496 w34 ho hb hg hat;rw [← Ny495.out] at ho;replace BK478:=zA (blk_grown (g:=gb478) (o:=.cells #[.slice A0_0 l0_0.length c0_0] 34 (0,0)) (zx BK478) hg (Kd.S_ne HO_8.out BK478.out (by decide)));replace BK479:=zA (blk_grown (g:=gb479) (o:=.cells #[.int .i64 a2_0,.slice A2_1 l2_1.length c2_1] 37 (0,0)) (zx BK479) hg (Kd.S_away HO_8.out (fun _ hk => hk.1)));replace HB:=zA (hb);have HO497:=zA (ho);clear HO_8 HO494;clear ho hb hg hat))
          go_roundg k2
          case measure => have:=HJ3.out;have:=HK2.out;omega
          case rel => exact ⟨(y495),(wrap64 (x9_2 + 1)),za,H',⟨by have:=HJ3.out;have:=HK2.out;omega⟩,⟨zy HO497⟩,⟨zx BK478⟩,⟨zx BK479⟩,⟨zz HB⟩⟩
         ·
          rw [if_neg c30] at H
          exact absurd H (by simp)
       ·
        rw [if_neg c24] at H
        exact absurd H (by simp)
      ·
       rw [if_neg c23] at H;have c23b0:=decide_eq_false c23;clear c23;simp only [Option.some.injEq,Prod.mk.injEq] at H;obtain ⟨rfl,rfl⟩:=H
       go_wp2
       go_ret2
       exact ⟨_,by first|rfl|(simp [errW_none,errW_some] <;> rfl)|(simp [*,errW_none,errW_some] <;> rfl),by (with_reducible repeat (first|apply zM|apply zL|apply zN));exact zS HO_8.out (fun _ hk => trivial),zz HB⟩

-- NOT PRINTED: function 4 (laws_FnFacts)

end Go.Proofs.Ytfelabhakgcifaa.QFnFacts
