/- Walks through the Go functions that FnFacts reaches: each call returns what the Lean function beside it says, within the bounds that the theorem names. -/
import Derived.Test.YtfelabhakgcifaaQFnFactsx0
import Derived.Test.YtfelabhakgcifaaQFnFactsx9
import Derived.Test.YtfelabhakgcifaaQFnFactsx10
namespace Go.Proofs.Ytfelabhakgcifaa.QFnFacts
open Go.RowKit Go.Proofs.YtfelabhakgcifaaW.PrintWords Go.Proofs.YtfelabhakgcifaaW.PrintLast Go.Proofs.YtfelabhakgcifaaW.PrintMore
attribute [local go_sem] max2_int min2_int max_two min_two max_three min_three max_four min_four   -- for this text's walks alone
set_option linter.unusedVariables false
set_option linter.unusedSimpArgs false


/-! ### impl_RemoveFact: function 27 -/
mutual
def impl_RemoveFact.j0 : Nat → List (S37) → Bool → Int → List Int → Option ((List (S37)) × Bool)
 | 0, _, _, _, _ => none
 | k + 1, x1, x20, x452000, x452001 => if x20 = true then ((impl_copyFacts.f k x1).bind fun t454 => (some (t454, false))) else (impl_RemoveFact.l0 k (([] : List (S37))) x1 (x1.length : Int) 0 x452000 x452001)
def impl_RemoveFact.l0 : Nat → List (S37) → List (S37) → Int → Int → Int → List Int → Option ((List (S37)) × Bool)
 | 0, _, _, _, _, _, _ => none
 | k + 1, x8, x24, x25, x26, x452000, x452001 => if x26 < x25 then (if 0 ≤ x26 then (if x26 < (x24.length : Int) then ((impl_equalFact.f k ((rd_T37 x24 x26).f0) ((rd_T37 x24 x26).f1) x452000 x452001).bind fun t462 => (if t462 = true then (impl_RemoveFact.l0 k x8 x24 x25 (wrap64 (x26 + 1)) x452000 x452001) else ((impl_copyFact.f ((rd_T37 x24 x26).f0) ((rd_T37 x24 x26).f1)).bind fun bt463 => (if x8.length < 4398046511104 then (impl_RemoveFact.l0 k (x8 ++ [(⟨bt463.1, bt463.2⟩ : S37)]) x24 x25 (wrap64 (x26 + 1)) x452000 x452001) else (none))))) else (none)) else (none)) else (some (x8, true))
end
def impl_RemoveFact.f (k : Nat) (l0_0 : List Int) (l1 : List (S37)) (a2_0 : Int) (l2_1 : List Int) : Option ((List (S37)) × Bool) := (impl_IsDatabase.f k l0_0 l1).bind fun t452 => (if t452 = true then ((impl_HasFact.f k l1 a2_0 l2_1).bind fun t453 => (impl_RemoveFact.j0 k l1 (!t453) a2_0 l2_1)) else (impl_RemoveFact.j0 k l1 true a2_0 l2_1))
theorem impl_RemoveFact.mono_l : ∀ k, (∀ y0 y1 y2 y3, LeO (impl_RemoveFact.j0 k y0 y1 y2 y3) (impl_RemoveFact.j0 (k + 1) y0 y1 y2 y3)) ∧ (∀ y0 y1 y2 y3 y4 y5, LeO (impl_RemoveFact.l0 k y0 y1 y2 y3 y4 y5) (impl_RemoveFact.l0 (k + 1) y0 y1 y2 y3 y4 y5))
 | 0 => ⟨fun _ _ _ _ r h => by simp [impl_RemoveFact.j0] at h, fun _ _ _ _ _ _ r h => by simp [impl_RemoveFact.l0] at h⟩
 | k + 1 => by
  obtain ⟨ih0,ih1⟩:=impl_RemoveFact.mono_l k
  refine ⟨?_,?_⟩
  (intros;unfold impl_RemoveFact.j0;rotate_left)
  (intros;unfold impl_RemoveFact.l0;rotate_left)
  all_goals repeat' first
  | (with_reducible exact ih0 _ _ _ _)
  | (with_reducible exact ih1 _ _ _ _ _ _)
  | (with_reducible exact impl_HasFact.mono _ _ _ _)
  | (with_reducible exact impl_IsDatabase.mono _ _ _)
  | (with_reducible exact impl_copyFacts.mono _ _)
  | (with_reducible exact impl_equalFact.mono _ _ _ _ _)
  | (with_reducible exact LeO.refl _)
  | (with_reducible exact LeO.none _)
  | (with_reducible refine LeO.ite ?_ ?_)
  | (with_reducible refine LeO.bind ?_ (fun _ => ?_))
  | exact ih0 _ _ _ _
  | exact ih1 _ _ _ _ _ _
  | exact LeO.none _
  | refine LeO.ite ?_ ?_
  | refine LeO.bind ?_ (fun _ => ?_)
theorem impl_RemoveFact.mono : ∀ a0 a1 a2 a3 k, LeO (impl_RemoveFact.f k a0 a1 a2 a3) (impl_RemoveFact.f (k + 1) a0 a1 a2 a3) := by
 intro a0 a1 a2 a3 k
 obtain ⟨ih0,ih1⟩:=impl_RemoveFact.mono_l k
 unfold impl_RemoveFact.f
 repeat' first
   | (with_reducible exact ih0 _ _ _ _)
   | (with_reducible exact ih1 _ _ _ _ _ _)
   | (with_reducible exact impl_HasFact.mono _ _ _ _)
   | (with_reducible exact impl_IsDatabase.mono _ _ _)
   | (with_reducible exact impl_copyFacts.mono _ _)
   | (with_reducible exact impl_equalFact.mono _ _ _ _ _)
   | (with_reducible exact LeO.refl _)
   | (with_reducible exact LeO.none _)
   | (with_reducible refine LeO.ite ?_ ?_)
   | (with_reducible refine LeO.bind ?_ (fun _ => ?_))
   | exact ih0 _ _ _ _
   | exact ih1 _ _ _ _ _ _
   | exact LeO.none _
   | refine LeO.ite ?_ ?_
   | refine LeO.bind ?_ (fun _ => ?_)
set_option maxHeartbeats 8000000 in
set_option maxRecDepth 100000 in
theorem impl_RemoveFact.calls (k : Nat) (A0_0 : Option Addr) (c0_0 : Nat) (l0_0 : List Int) (A1 : Option Addr) (c1 : Nat) (l1 : List (S37)) (a2_0 : Int) (A2_1 : Option Addr) (c2_1 : Nat) (l2_1 : List Int) (r1 : List (S37)) (r2 : Bool) (w : World) (hr0_0 : Kd.C (Kd.int .i64) w A0_0 l0_0.length l0_0) (hc0_0 : l0_0.length ≤ c0_0) (hr1 : Kd.C k37 w A1 l1.length l1) (hc1 : l1.length ≤ c1) (hr2_1 : Kd.C (Kd.int .i64) w A2_1 l2_1.length l2_1) (hc2_1 : l2_1.length ≤ c2_1) (h : impl_RemoveFact.f k l0_0 l1 a2_0 l2_1 = some (r1, r2)) :
  Calls Try.prog 27 #[.agg #[.slice A0_0 l0_0.length c0_0], .slice A1 l1.length c1, .agg #[.int .i64 a2_0, .slice A2_1 l2_1.length c2_1]] w fun e w' => ∃ v0_ : Value, e = .returned (.tuple #[v0_, .bool r2]) ∧ Kd.S k37 37 w' w.heap.size (fun _ => True) v0_ r1 ∧ Below w.heap.size w w' := by
 have hu34:=Try.underlying34;have hu37:=Try.underlying37;have HR0_0:=zA hr0_0;have HC0_0:=zA hc0_0;clear hr0_0 hc0_0;have HR1:=zA hr1;have HC1:=zA hc1;clear hr1 hc1;have HR2_1:=zA hr2_1;have HC2_1:=zA hc2_1;clear hr2_1 hc2_1;have HB:=zA (Below.refl w.heap.size w)
 have H : ((impl_IsDatabase.f k l0_0 l1).bind fun t452 => (if t452 = true then ((impl_HasFact.f k l1 a2_0 l2_1).bind fun t453 => (impl_RemoveFact.j0 k l1 (!t453) a2_0 l2_1)) else (impl_RemoveFact.j0 k l1 true a2_0 l2_1))) = some (r1,r2):=h
 clear h;have HC4:=zA H;clear H
 go_enter Try.func27,Try.ntmps27
 go_upto_region 1 with (first|((with_reducible refine gate_dst (N:=3) rfl ?_);refine box_event ?hg (N:=3) ?hd (cs:=#[.slice A0_0 l0_0.length c0_0]) (t:=34) ?hr ?_;(case hd => rfl);(case hg => rfl);(case hr => first|(go_simp;done)|(go_simp;rfl));intro gb450 hg w5 hbox hb;have BK450:=zA (hbox);have GW450:=zA ((by rw [hg];exact (zT (zz HB)) : w.heap.size ≤ gb450));have GE450:=zA ((by rw [hg];exact (zT (zz HB)) : w.heap.size ≤ gb450));replace HB:=zA (zJb (zz HB) hb);clear hb hbox hg)|((with_reducible refine gate_dst (N:=5) rfl ?_);refine box_event ?hg (N:=5) ?hd (cs:=#[.int .i64 a2_0,.slice A2_1 l2_1.length c2_1]) (t:=37) ?hr ?_;(case hd => rfl);(case hg => rfl);(case hr => first|(go_simp;done)|(go_simp;rfl));intro gb451 hg w6 hbox hb;have BK451:=zA (hbox);have GW451:=zA ((by rw [hg];exact (zT (zz HB)) : w.heap.size ≤ gb451));have GE451:=zA ((by rw [hg];exact (zT (zz HB)) : w.heap.size ≤ gb451));replace HB:=zA (zJb (zz HB) hb);have NB450_451:=zA ((by rw [hg];exact Nat.ne_of_lt (blk_lt (g:=gb450) (o:=.cells #[.slice A0_0 l0_0.length c0_0] 34 (0,0)) (zx BK450)) : gb450 ≠ gb451));have NB451_450:=zA ((by rw [hg];exact Nat.ne_of_gt (blk_lt (g:=gb450) (o:=.cells #[.slice A0_0 l0_0.length c0_0] 34 (0,0)) (zx BK450)) : gb451 ≠ gb450));replace BK450:=zA (zQ (g:=gb450) (o:=.cells #[.slice A0_0 l0_0.length c0_0] 34 (0,0)) (zx BK450) hb);clear hb hbox hg))
 (try simp only [Act.put,zO,zEb,zFb])
 go_cut [20] (fun v20 wc => ∃ (kq : Nat) (x20_3 : Bool),v20 = .bool x20_3 ∧ Aside0 (impl_RemoveFact.j0 kq l1 x20_3 a2_0 l2_1 = some (r1,r2)) ∧ Aside0 (kq ≤ k) ∧ Aside0 (wc.heap[gb450]? = some (.cells #[(.slice A0_0 l0_0.length c0_0)] 34 (0,0))) ∧ Aside0 (wc.heap[gb451]? = some (.cells #[.int .i64 a2_0,(.slice A2_1 l2_1.length c2_1)] 37 (0,0))) ∧ Aside0 (Below w.heap.size w wc))
 case first =>
  have H:=HC4.out;clear HC4;replace H:=Option.bind_eq_some_iff.mp H;obtain ⟨t452,A70,H⟩:=H;(try dsimp only at H);have A7:=zA A70;clear A70
  by_cases c8 : t452 = true
  ·
   subst c8
   rw [if_pos rfl] at H;replace H:=Option.bind_eq_some_iff.mp H;obtain ⟨t453,A90,H⟩:=H;(try dsimp only at H);have A9:=zA A90;clear A90
   have H':=zA H
   clear H;have hnb10:=NB450_451.out;have hnc10:=NB451_450.out;have hcz11_0:=zc (.slice A0_0 l0_0.length c0_0) BK450 0 rfl;have hfz11_0:=blk_frozen BK450.out 0
   go_wp2_with (first|((with_reducible refine gate_callee (f:=25) rfl ?_);refine goesL_ (some 13) rfl rfl Try.func25 (by kernel_rfl) rfl #[.agg #[.slice A0_0 l0_0.length c0_0],.slice A1 l1.length c1] rfl (by (try simp only [zCb,zMb,zNb]);first|done|rfl|(simp only [zLb,zDb];rfl)) ?_;(with_reducible refine (impl_IsDatabase.calls k _ _ l0_0 _ _ l1 true _ ?side1 ?side2 ?side3 ?side4 A7.out).mono ?_);(case side1 => repeat (first|exact (zKb HR0_0.out HB.out)|(with_reducible refine zBb ?_ _)|(with_reducible refine zAb ?_ _)|(with_reducible refine zX ?_)));(case side2 => exact HC0_0.out);(case side3 => repeat (first|exact (zKb HR1.out HB.out)|(with_reducible refine zBb ?_ _)|(with_reducible refine zAb ?_ _)|(with_reducible refine zX ?_)));(case side4 => exact HC1.out);rintro e w12 ⟨rfl,hb⟩;refine ⟨_,rfl,?_⟩;replace BK450:=zA (zQ (g:=gb450) (o:=.cells #[.slice A0_0 l0_0.length c0_0] 34 (0,0)) (zx BK450) hb);replace BK451:=zA (zQ (g:=gb451) (o:=.cells #[.int .i64 a2_0,.slice A2_1 l2_1.length c2_1] 37 (0,0)) (zx BK451) hb);replace HB:=zA (zJb (zz HB) hb);(try clear hb);(try clear hb2);(try clear hk);(try clear hi);have hcz13_0:=zc (.int .i64 a2_0) BK451 0 rfl;have hcz13_1:=zc (.slice A2_1 l2_1.length c2_1) BK451 1 rfl;have hfz13_0:=blk_frozen BK451.out 0;have hfz13_1:=blk_frozen BK451.out 1)|(go_at_call 29;(with_reducible refine (impl_HasFact.calls k _ _ l1 a2_0 _ _ l2_1 t453 _ ?side1 ?side2 ?side3 ?side4 A9.out).mono ?_);(case side1 => repeat (first|exact (zKb HR1.out HB.out)|(with_reducible refine zBb ?_ _)|(with_reducible refine zAb ?_ _)|(with_reducible refine zX ?_)));(case side2 => exact HC1.out);(case side3 => repeat (first|exact (zKb HR2_1.out HB.out)|(with_reducible refine zBb ?_ _)|(with_reducible refine zAb ?_ _)|(with_reducible refine zX ?_)));(case side4 => exact HC2_1.out);rintro e w14 ⟨rfl,hb⟩;replace BK450:=zA (zQ (g:=gb450) (o:=.cells #[.slice A0_0 l0_0.length c0_0] 34 (0,0)) (zx BK450) hb);replace BK451:=zA (zQ (g:=gb451) (o:=.cells #[.int .i64 a2_0,.slice A2_1 l2_1.length c2_1] 37 (0,0)) (zx BK451) hb);replace HB:=zA (zJb (zz HB) hb);(try clear hb);(try clear hb2);(try clear hk);(try clear hi)))
   go_meet
   case rel => exact ⟨_,(!t453),za,H',⟨by first|omega|exact Nat.le_refl _⟩,⟨zx BK450⟩,⟨zx BK451⟩,⟨zz HB⟩⟩
  ·
   replace c8:=Bool.eq_false_iff.mpr c8
   subst c8
   have H1 : (impl_RemoveFact.j0 k l1 true a2_0 l2_1) = some (r1,r2):=by rw [if_neg (show ¬ (false = true) by decide)] at H;exact H
   clear H;have H:=H1;clear H1
   have H':=zA H
   clear H;have hnb15:=NB450_451.out;have hnc15:=NB451_450.out;have hcz16_0:=zc (.slice A0_0 l0_0.length c0_0) BK450 0 rfl;have hfz16_0:=blk_frozen BK450.out 0
   go_wp2_with (first|((with_reducible refine gate_callee (f:=25) rfl ?_);refine goesL_ (some 13) rfl rfl Try.func25 (by kernel_rfl) rfl #[.agg #[.slice A0_0 l0_0.length c0_0],.slice A1 l1.length c1] rfl (by (try simp only [zCb,zMb,zNb]);first|done|rfl|(simp only [zLb,zDb];rfl)) ?_;(with_reducible refine (impl_IsDatabase.calls k _ _ l0_0 _ _ l1 false _ ?side1 ?side2 ?side3 ?side4 A7.out).mono ?_);(case side1 => repeat (first|exact (zKb HR0_0.out HB.out)|(with_reducible refine zBb ?_ _)|(with_reducible refine zAb ?_ _)|(with_reducible refine zX ?_)));(case side2 => exact HC0_0.out);(case side3 => repeat (first|exact (zKb HR1.out HB.out)|(with_reducible refine zBb ?_ _)|(with_reducible refine zAb ?_ _)|(with_reducible refine zX ?_)));(case side4 => exact HC1.out);rintro e w17 ⟨rfl,hb⟩;refine ⟨_,rfl,?_⟩;replace BK450:=zA (zQ (g:=gb450) (o:=.cells #[.slice A0_0 l0_0.length c0_0] 34 (0,0)) (zx BK450) hb);replace BK451:=zA (zQ (g:=gb451) (o:=.cells #[.int .i64 a2_0,.slice A2_1 l2_1.length c2_1] 37 (0,0)) (zx BK451) hb);replace HB:=zA (zJb (zz HB) hb);(try clear hb);(try clear hb2);(try clear hk);(try clear hi)))
   go_meet
   case rel => exact ⟨_,(true),za,H',⟨by first|omega|exact Nat.le_refl _⟩,⟨zx BK450⟩,⟨zx BK451⟩,⟨zz HB⟩⟩
 case rest =>
  clear HC4;(try clear c1);(try clear c2);(try clear p2);(try clear c8);(try clear c10);(try clear c15);(try clear hcz11_0);(try clear hcz13_0);(try clear hcz13_1);(try clear hcz16_0);(try clear hfz11_0);(try clear hfz13_0);(try clear hfz13_1);(try clear hfz16_0);obtain ⟨kq,x20_3,rfl,HA,HJ3,BK450,BK451,HB⟩:=hcut
  cases kq with
  | zero => exact absurd HA.out (by simp [impl_RemoveFact.j0])
  | succ kj3 =>
   have H:=HA.out;clear HA;simp only [impl_RemoveFact.j0] at H
   by_cases c18 : x20_3 = true
   ·
    subst c18
    rw [if_pos rfl] at H;replace H:=Option.bind_eq_some_iff.mp H;obtain ⟨t454,A190,H⟩:=H;(try dsimp only at H);have A19:=zA A190;clear A190;simp only [Option.some.injEq,Prod.mk.injEq] at H;obtain ⟨rfl,rfl⟩:=H
    go_wp2_with (first|((with_reducible refine gate_callee (f:=51) rfl ?_);refine goesL_ (some 22) rfl rfl Try.func51 (by kernel_rfl) rfl #[.slice A1 l1.length c1] rfl (by (try simp only [zCb,zMb,zNb]);first|done|rfl|(simp only [zLb,zDb];rfl)) ?_;(with_reducible refine (impl_copyFacts.calls kj3 _ _ l1 t454 _ ?side1 ?side2 A19.out).mono ?_);(case side1 => repeat (first|exact (zKb HR1.out HB.out)|(with_reducible refine zBb ?_ _)|(with_reducible refine zAb ?_ _)|(with_reducible refine zX ?_)));(case side2 => exact HC1.out);rintro e w20 ⟨v455,rfl,ho0,hb⟩;refine ⟨_,rfl,?_⟩;have HO456:=zA (zIb (Kd.S_newB ho0 (g:=gb451) (o:=.cells #[.int .i64 a2_0,.slice A2_1 l2_1.length c2_1] 37 (0,0)) (zx BK451)) (zT (zz HB)));replace BK450:=zA (zQ (g:=gb450) (o:=.cells #[.slice A0_0 l0_0.length c0_0] 34 (0,0)) (zx BK450) hb);replace BK451:=zA (zQ (g:=gb451) (o:=.cells #[.int .i64 a2_0,.slice A2_1 l2_1.length c2_1] 37 (0,0)) (zx BK451) hb);replace HB:=zA (zJb (zz HB) hb);(try clear hb);(try clear hb2);(try clear hk);(try clear hi);(try clear ho0)))
    go_ret2
    exact ⟨_,by first|rfl|(simp [errW_none,errW_some] <;> rfl)|(simp [*,errW_none,errW_some] <;> rfl),by (with_reducible repeat (first|apply zM|apply zL|apply zN));exact zS HO456.out (fun _ hk => trivial),zz HB⟩
   ·
    replace c18:=Bool.eq_false_iff.mpr c18
    subst c18
    have H1 : (impl_RemoveFact.l0 kj3 (([] : List (S37))) l1 (l1.length : Int) 0 a2_0 l2_1) = some (r1,r2):=by rw [if_neg (show ¬ (false = true) by decide)] at H;exact H
    clear H;have H:=H1;clear H1;obtain ⟨y457,hy457⟩ : ∃ y_ : List (S37),y_ = (([] : List (S37))):=⟨_,rfl⟩
    replace H : (impl_RemoveFact.l0 kj3 y457 l1 (l1.length : Int) 0 a2_0 l2_1) = some (r1,r2):=by first|(rw [hy457];with_reducible exact H)|(have H2_:=(Option.bind_some _ _).symm.trans H;rw [hy457];with_reducible exact H2_)|(have H2_:=(Option.bind_some _ _).symm.trans H;with_reducible exact H2_)|with_reducible exact H|(rw [hy457];exact H)|exact H
    have Ny457:=zA hy457;clear hy457
    have H':=zA H
    clear H
    go_wp2_with (first|((with_reducible refine gate_dst (N:=23) rfl ?_);refine Kd.S_lit k37 _ 37 ?hg (N:=23) ?hd (xs:=([] : List (S37))) (inner:=[]) (ok:=fun _ => True) (okp:=fun _ => True) ?hr ?hp (fun _ hk => hk) trivial (Below.refl _ _) (Nat.le_refl _) (by simp) ?_;(case hd => rfl);(case hg => rfl);(case hr => first|(go_simp;done)|(go_simp;rfl));(case hp => exact (Reps.none _ _));intro v458 w21 ho22 hb hg_ hnew_;clear hg_ hnew_;(first|rw [← Ny457.out] at ho22|(simp only [Int.reduceToNat] at ho22;rw [← Ny457.out] at ho22));have HO459:=zA (zIb (Kd.S_newB ho22 (g:=gb451) (o:=.cells #[.int .i64 a2_0,.slice A2_1 l2_1.length c2_1] 37 (0,0)) (zx BK451)) (zT (zz HB)));replace BK450:=zA (zQ (g:=gb450) (o:=.cells #[.slice A0_0 l0_0.length c0_0] 34 (0,0)) (zx BK450) hb);replace BK451:=zA (zQ (g:=gb451) (o:=.cells #[.int .i64 a2_0,.slice A2_1 l2_1.length c2_1] 37 (0,0)) (zx BK451) hb);replace HB:=zA (zJb (zz HB) hb);clear hb ho22))
    go_loopg [8,26] kj3 (fun kq v8 v26 w' => ∃ (x8_2 : List (S37)) (x26_2 : Int),v26 = .int .i64 x26_2 ∧ Aside0 (impl_RemoveFact.l0 kq x8_2 l1 (l1.length : Int) x26_2 a2_0 l2_1 = some (r1,r2)) ∧ Aside0 (kq ≤ kj3) ∧ Aside0 (Kd.S k37 37 w' w.heap.size (fun k_ => k_ ≠ gb451) v8 x8_2) ∧ Aside0 (w'.heap[gb450]? = some (.cells #[(.slice A0_0 l0_0.length c0_0)] 34 (0,0))) ∧ Aside0 (w'.heap[gb451]? = some (.cells #[.int .i64 a2_0,(.slice A2_1 l2_1.length c2_1)] 37 (0,0))) ∧ Aside0 (Below w.heap.size w w'))
    case atStart => exact ⟨(y457),(0),za,H',⟨Nat.le_refl _⟩,⟨by (with_reducible repeat (first|apply zM|apply zL|apply zN));exact zS HO459.out (fun _ hk => hk.2)⟩,⟨zx BK450⟩,⟨zx BK451⟩,⟨zz HB⟩⟩
    case round =>
     clear H';(try clear c1);(try clear c2);(try clear p2);(try clear c5);(try clear c8);(try clear c10);(try clear c15);(try clear c18);(try clear hcz11_0);(try clear hcz13_0);(try clear hcz13_1);(try clear hcz16_0);(try clear hfz11_0);(try clear hfz13_0);(try clear hfz13_1);(try clear hfz16_0);(try clear p2);obtain ⟨x8_2,x26_2,rfl,HA,HK2,HO_8,BK450,BK451,HB⟩:=hrel
     cases gk with
     | zero => exact absurd HA.out (by simp [impl_RemoveFact.l0])
     | succ k2 =>
      have H:=HA.out;clear HA;simp only [impl_RemoveFact.l0] at H
      by_cases c23 : x26_2 < (l1.length : Int)
      ·
       rw [if_pos c23] at H;have c23b0:=decide_eq_true c23;clear c23
       by_cases c24 : 0 ≤ x26_2
       ·
        rw [if_pos c24] at H;have c24b0:=decide_eq_true c24;clear c24
        by_cases c25 : x26_2 < (l1.length : Int)
        ·
         rw [if_pos c25] at H;have c25b0:=decide_eq_true c25;clear c25;replace H:=Option.bind_eq_some_iff.mp H;obtain ⟨t462,A260,H⟩:=H;(try dsimp only at H);have A26:=zA A260;clear A260
         by_cases c27 : t462 = true
         ·
          subst c27
          rw [if_pos rfl] at H
          have H':=zA H
          clear H;have p460 : 0 ≤ (x26_2 : Int):=zXb ze;have q460 : x26_2 < (l1.length : Int):=zXb ze;obtain ⟨ad460,A460_1,c460_1,e460,hx460_0,hx460_1,hl460_1,hi460_1⟩:=at_T37 HR1.out x26_2 p460 q460
          cases e460
          replace hx460_0:=(HB.out.cell (World.block_lt_of_cell? w _ hx460_0)).trans hx460_0;replace hx460_1:=(HB.out.cell (World.block_lt_of_cell? w _ hx460_1)).trans hx460_1;have HR460_1:=zA hi460_1;have HC460_1:=zA hl460_1;clear hi460_1 hl460_1;replace p460:=eq_true p460;replace q460:=eq_true q460
          go_wp2_with (first|((with_reducible refine gate_dst (N:=10) rfl ?_);refine box_event ?hg (N:=10) ?hd (cs:=#[.int .i64 0,.slice none 0 0]) (t:=37) ?hr ?_;(case hd => rfl);(case hg => rfl);(case hr => first|(go_simp;done)|(go_simp;rfl));intro gb461 hg w28 hbox hb;replace HO_8:=zA (zY (Kd.S_elderB (zy HO_8) gb461 (Nat.le_of_eq hg.symm)) hb);have BK461:=zA (hbox);have GW461:=zA ((by rw [hg];exact (zT (zz HB)) : w.heap.size ≤ gb461));have GE461:=zA ((by rw [hg];exact (zT (zz HB)) : w.heap.size ≤ gb461));replace HB:=zA (zJb (zz HB) hb);have NB450_461:=zA ((by rw [hg];exact Nat.ne_of_lt (blk_lt (g:=gb450) (o:=.cells #[.slice A0_0 l0_0.length c0_0] 34 (0,0)) (zx BK450)) : gb450 ≠ gb461));have NB461_450:=zA ((by rw [hg];exact Nat.ne_of_gt (blk_lt (g:=gb450) (o:=.cells #[.slice A0_0 l0_0.length c0_0] 34 (0,0)) (zx BK450)) : gb461 ≠ gb450));replace BK450:=zA (zQ (g:=gb450) (o:=.cells #[.slice A0_0 l0_0.length c0_0] 34 (0,0)) (zx BK450) hb);have NB451_461:=zA ((by rw [hg];exact Nat.ne_of_lt (blk_lt (g:=gb451) (o:=.cells #[.int .i64 a2_0,.slice A2_1 l2_1.length c2_1] 37 (0,0)) (zx BK451)) : gb451 ≠ gb461));have NB461_451:=zA ((by rw [hg];exact Nat.ne_of_gt (blk_lt (g:=gb451) (o:=.cells #[.int .i64 a2_0,.slice A2_1 l2_1.length c2_1] 37 (0,0)) (zx BK451)) : gb461 ≠ gb451));replace BK451:=zA (zQ (g:=gb451) (o:=.cells #[.int .i64 a2_0,.slice A2_1 l2_1.length c2_1] 37 (0,0)) (zx BK451) hb);clear hb hbox hg;have hnb29:=NB461_450.out;have hnc29:=NB450_461.out;have hnb30:=NB461_451.out;have hnc30:=NB451_461.out;have hcz31_0:=zc (.int .i64 0) BK461 0 rfl;have hcz31_1:=zc (.slice none 0 0) BK461 1 rfl;have hfz31_0:=blk_frozen BK461.out 0;have hfz31_1:=blk_frozen BK461.out 1;have hnb32:=NB451_450.out;have hnc32:=NB450_451.out;have hcz33_0:=zc (.int .i64 a2_0) BK451 0 rfl;have hcz33_1:=zc (.slice A2_1 l2_1.length c2_1) BK451 1 rfl;have hfz33_0:=blk_frozen BK451.out 0;have hfz33_1:=blk_frozen BK451.out 1)|((with_reducible refine gate_callee (f:=62) rfl ?_);refine goesL_ (some 32) rfl rfl Try.func62 (by kernel_rfl) rfl #[.agg #[.int .i64 ((rd_T37 l1 x26_2).f0),.slice A460_1 ((rd_T37 l1 x26_2).f1).length c460_1],.agg #[.int .i64 a2_0,.slice A2_1 l2_1.length c2_1]] rfl (by (try simp only [zCb,zMb,zNb]);first|done|rfl|(simp only [zLb,zDb];rfl)) ?_;(with_reducible refine (impl_equalFact.calls k2 ((rd_T37 l1 x26_2).f0) _ _ ((rd_T37 l1 x26_2).f1) a2_0 _ _ l2_1 true _ ?side1 ?side2 ?side3 ?side4 A26.out).mono ?_);(case side1 => exact zKb HR460_1.out (zz HB));(case side2 => exact HC460_1.out);(case side3 => exact zKb HR2_1.out (zz HB));(case side4 => exact HC2_1.out);rintro e w34 ⟨rfl,hb⟩;refine ⟨_,rfl,?_⟩;replace HO_8:=zA (zY (by (with_reducible repeat (first|apply zM|apply zL|apply zN));exact (zS (zVb (p:=⟨gb461,1,none⟩) (zVb (p:=⟨gb461,0,none⟩) (zS HO_8.out (fun k_ hk => (⟨hk,hk.2⟩ : _ ∧ k_ ≠ gb461))) (fun _ hk => hk.2) (.int .i64 ((rd_T37 l1 x26_2).f0))) (fun _ hk => hk.2) (.slice A460_1 ((rd_T37 l1 x26_2).f1).length c460_1)) (fun _ h_ => h_.1))) hb);replace BK450:=zA (zQ (g:=gb450) (o:=.cells #[.slice A0_0 l0_0.length c0_0] 34 (0,0)) (by (with_reducible repeat (first|refine zF ?_ _|refine zI ?_|refine zG ?_ _));refine zUb ?_ NB450_461.out _;(with_reducible repeat (first|refine zF ?_ _|refine zI ?_|refine zG ?_ _));refine zUb ?_ NB450_461.out _;(with_reducible repeat (first|refine zF ?_ _|refine zI ?_|refine zG ?_ _));exact BK450.out) hb);replace BK451:=zA (zQ (g:=gb451) (o:=.cells #[.int .i64 a2_0,.slice A2_1 l2_1.length c2_1] 37 (0,0)) (by (with_reducible repeat (first|refine zF ?_ _|refine zI ?_|refine zG ?_ _));refine zUb ?_ NB451_461.out _;(with_reducible repeat (first|refine zF ?_ _|refine zI ?_|refine zG ?_ _));refine zUb ?_ NB451_461.out _;(with_reducible repeat (first|refine zF ?_ _|refine zI ?_|refine zG ?_ _));exact BK451.out) hb);replace BK461:=zA (zQ (g:=gb461) (o:=.cells #[.int .i64 ((rd_T37 l1 x26_2).f0),.slice A460_1 ((rd_T37 l1 x26_2).f1).length c460_1] 37 (0,0)) (by (with_reducible repeat (first|refine zF ?_ _|refine zI ?_|refine zG ?_ _));refine blk_put (cs:=#[.int .i64 ((rd_T37 l1 x26_2).f0),.slice none 0 0]) ?_ 1 _ rfl;(with_reducible repeat (first|refine zF ?_ _|refine zI ?_|refine zG ?_ _));refine blk_put (cs:=#[.int .i64 0,.slice none 0 0]) ?_ 0 _ rfl;(with_reducible repeat (first|refine zF ?_ _|refine zI ?_|refine zG ?_ _));exact BK461.out) hb);replace HB:=zA (zJb (zz HB) hb);(try clear hb);(try clear hb2);(try clear hk);(try clear hi)))
          go_roundg k2
          case measure => have:=HJ3.out;have:=HK2.out;omega
          case rel => exact ⟨(x8_2),(wrap64 (x26_2 + 1)),za,H',⟨by have:=HJ3.out;have:=HK2.out;omega⟩,⟨by (with_reducible repeat (first|apply zM|apply zL|apply zN));exact zS HO_8.out (fun _ hk => hk.1)⟩,⟨zx BK450⟩,⟨zx BK451⟩,⟨zz HB⟩⟩
         ·
          replace c27:=Bool.eq_false_iff.mpr c27
          subst c27
          have H1 : ((impl_copyFact.f ((rd_T37 l1 x26_2).f0) ((rd_T37 l1 x26_2).f1)).bind fun bt463 => (if x8_2.length < 4398046511104 then (impl_RemoveFact.l0 k2 (x8_2 ++ [(⟨bt463.1,bt463.2⟩ : S37)]) l1 (l1.length : Int) (wrap64 (x26_2 + 1)) a2_0 l2_1) else (none))) = some (r1,r2):=by rw [if_neg (show ¬ (false = true) by decide)] at H;exact H
          clear H;have H:=H1;clear H1;replace H:=Option.bind_eq_some_iff.mp H;obtain ⟨⟨t463,t464⟩,A350,H⟩:=H;(try dsimp only at H);have A35:=zA A350;clear A350
          by_cases c36 : x8_2.length < 4398046511104
          ·
           rw [if_pos c36] at H;have LMc36:=zA c36;clear c36;obtain ⟨y467,hy467⟩ : ∃ y_ : List (S37),y_ = (x8_2 ++ [(⟨t463,t464⟩ : S37)]):=⟨_,rfl⟩
           replace H : (impl_RemoveFact.l0 k2 y467 l1 (l1.length : Int) (wrap64 (x26_2 + 1)) a2_0 l2_1) = some (r1,r2):=by first|(rw [hy467];with_reducible exact H)|(have H2_:=(Option.bind_some _ _).symm.trans H;rw [hy467];with_reducible exact H2_)|(have H2_:=(Option.bind_some _ _).symm.trans H;with_reducible exact H2_)|with_reducible exact H|(rw [hy467];exact H)|exact H
           have Ny467:=zA hy467;clear hy467
           have H':=zA H
           clear H;have p460 : 0 ≤ (x26_2 : Int):=zXb ze;have q460 : x26_2 < (l1.length : Int):=zXb ze;obtain ⟨ad460,A460_1,c460_1,e460,hx460_0,hx460_1,hl460_1,hi460_1⟩:=at_T37 HR1.out x26_2 p460 q460
           cases e460
           replace hx460_0:=(HB.out.cell (World.block_lt_of_cell? w _ hx460_0)).trans hx460_0;replace hx460_1:=(HB.out.cell (World.block_lt_of_cell? w _ hx460_1)).trans hx460_1;have HR460_1:=zA hi460_1;have HC460_1:=zA hl460_1;clear hi460_1 hl460_1;replace p460:=eq_true p460;replace q460:=eq_true q460
           go_wp2_with (first|((with_reducible refine gate_dst (N:=10) rfl ?_);refine box_event ?hg (N:=10) ?hd (cs:=#[.int .i64 0,.slice none 0 0]) (t:=37) ?hr ?_;(case hd => rfl);(case hg => rfl);(case hr => first|(go_simp;done)|(go_simp;rfl));intro gb461 hg w37 hbox hb;replace HO_8:=zA (zY (Kd.S_elderB (zy HO_8) gb461 (Nat.le_of_eq hg.symm)) hb);have BK461:=zA (hbox);have GW461:=zA ((by rw [hg];exact (zT (zz HB)) : w.heap.size ≤ gb461));have GE461:=zA ((by rw [hg];exact (zT (zz HB)) : w.heap.size ≤ gb461));replace HB:=zA (zJb (zz HB) hb);have NB450_461:=zA ((by rw [hg];exact Nat.ne_of_lt (blk_lt (g:=gb450) (o:=.cells #[.slice A0_0 l0_0.length c0_0] 34 (0,0)) (zx BK450)) : gb450 ≠ gb461));have NB461_450:=zA ((by rw [hg];exact Nat.ne_of_gt (blk_lt (g:=gb450) (o:=.cells #[.slice A0_0 l0_0.length c0_0] 34 (0,0)) (zx BK450)) : gb461 ≠ gb450));replace BK450:=zA (zQ (g:=gb450) (o:=.cells #[.slice A0_0 l0_0.length c0_0] 34 (0,0)) (zx BK450) hb);have NB451_461:=zA ((by rw [hg];exact Nat.ne_of_lt (blk_lt (g:=gb451) (o:=.cells #[.int .i64 a2_0,.slice A2_1 l2_1.length c2_1] 37 (0,0)) (zx BK451)) : gb451 ≠ gb461));have NB461_451:=zA ((by rw [hg];exact Nat.ne_of_gt (blk_lt (g:=gb451) (o:=.cells #[.int .i64 a2_0,.slice A2_1 l2_1.length c2_1] 37 (0,0)) (zx BK451)) : gb461 ≠ gb451));replace BK451:=zA (zQ (g:=gb451) (o:=.cells #[.int .i64 a2_0,.slice A2_1 l2_1.length c2_1] 37 (0,0)) (zx BK451) hb);clear hb hbox hg;have hnb38:=NB461_450.out;have hnc38:=NB450_461.out;have hnb39:=NB461_451.out;have hnc39:=NB451_461.out;have hcz40_0:=zc (.int .i64 0) BK461 0 rfl;have hcz40_1:=zc (.slice none 0 0) BK461 1 rfl;have hfz40_0:=blk_frozen BK461.out 0;have hfz40_1:=blk_frozen BK461.out 1;have hnb41:=NB451_450.out;have hnc41:=NB450_451.out;have hcz42_0:=zc (.int .i64 a2_0) BK451 0 rfl;have hcz42_1:=zc (.slice A2_1 l2_1.length c2_1) BK451 1 rfl;have hfz42_0:=blk_frozen BK451.out 0;have hfz42_1:=blk_frozen BK451.out 1)|((with_reducible refine gate_callee (f:=62) rfl ?_);refine goesL_ (some 32) rfl rfl Try.func62 (by kernel_rfl) rfl #[.agg #[.int .i64 ((rd_T37 l1 x26_2).f0),.slice A460_1 ((rd_T37 l1 x26_2).f1).length c460_1],.agg #[.int .i64 a2_0,.slice A2_1 l2_1.length c2_1]] rfl (by (try simp only [zCb,zMb,zNb]);first|done|rfl|(simp only [zLb,zDb];rfl)) ?_;(with_reducible refine (impl_equalFact.calls k2 ((rd_T37 l1 x26_2).f0) _ _ ((rd_T37 l1 x26_2).f1) a2_0 _ _ l2_1 false _ ?side1 ?side2 ?side3 ?side4 A26.out).mono ?_);(case side1 => exact zKb HR460_1.out (zz HB));(case side2 => exact HC460_1.out);(case side3 => exact zKb HR2_1.out (zz HB));(case side4 => exact HC2_1.out);rintro e w43 ⟨rfl,hb⟩;refine ⟨_,rfl,?_⟩;replace HO_8:=zA (zY (by (with_reducible repeat (first|apply zM|apply zL|apply zN));exact (zS (zVb (p:=⟨gb461,1,none⟩) (zVb (p:=⟨gb461,0,none⟩) (zS HO_8.out (fun k_ hk => (⟨hk,hk.2⟩ : _ ∧ k_ ≠ gb461))) (fun _ hk => hk.2) (.int .i64 ((rd_T37 l1 x26_2).f0))) (fun _ hk => hk.2) (.slice A460_1 ((rd_T37 l1 x26_2).f1).length c460_1)) (fun _ h_ => h_.1))) hb);replace BK450:=zA (zQ (g:=gb450) (o:=.cells #[.slice A0_0 l0_0.length c0_0] 34 (0,0)) (by (with_reducible repeat (first|refine zF ?_ _|refine zI ?_|refine zG ?_ _));refine zUb ?_ NB450_461.out _;(with_reducible repeat (first|refine zF ?_ _|refine zI ?_|refine zG ?_ _));refine zUb ?_ NB450_461.out _;(with_reducible repeat (first|refine zF ?_ _|refine zI ?_|refine zG ?_ _));exact BK450.out) hb);replace BK451:=zA (zQ (g:=gb451) (o:=.cells #[.int .i64 a2_0,.slice A2_1 l2_1.length c2_1] 37 (0,0)) (by (with_reducible repeat (first|refine zF ?_ _|refine zI ?_|refine zG ?_ _));refine zUb ?_ NB451_461.out _;(with_reducible repeat (first|refine zF ?_ _|refine zI ?_|refine zG ?_ _));refine zUb ?_ NB451_461.out _;(with_reducible repeat (first|refine zF ?_ _|refine zI ?_|refine zG ?_ _));exact BK451.out) hb);replace BK461:=zA (zQ (g:=gb461) (o:=.cells #[.int .i64 ((rd_T37 l1 x26_2).f0),.slice A460_1 ((rd_T37 l1 x26_2).f1).length c460_1] 37 (0,0)) (by (with_reducible repeat (first|refine zF ?_ _|refine zI ?_|refine zG ?_ _));refine blk_put (cs:=#[.int .i64 ((rd_T37 l1 x26_2).f0),.slice none 0 0]) ?_ 1 _ rfl;(with_reducible repeat (first|refine zF ?_ _|refine zI ?_|refine zG ?_ _));refine blk_put (cs:=#[.int .i64 0,.slice none 0 0]) ?_ 0 _ rfl;(with_reducible repeat (first|refine zF ?_ _|refine zI ?_|refine zG ?_ _));exact BK461.out) hb);replace HB:=zA (zJb (zz HB) hb);(try clear hb);(try clear hb2);(try clear hk);(try clear hi);have hcz44_0:=zc (.int .i64 ((rd_T37 l1 x26_2).f0)) BK461 0 rfl;have hcz44_1:=zc (.slice A460_1 ((rd_T37 l1 x26_2).f1).length c460_1) BK461 1 rfl;have hfz44_0:=blk_frozen BK461.out 0;have hfz44_1:=blk_frozen BK461.out 1)|((with_reducible refine gate_callee (f:=52) rfl ?_);refine goesL_ (some 36) rfl rfl Try.func52 (by kernel_rfl) rfl #[.agg #[.int .i64 ((rd_T37 l1 x26_2).f0),.slice A460_1 ((rd_T37 l1 x26_2).f1).length c460_1]] rfl (by (try simp only [zCb,zMb,zNb]);first|done|rfl|(simp only [zLb,zDb];rfl)) ?_;(with_reducible refine (impl_copyFact.calls ((rd_T37 l1 x26_2).f0) _ _ ((rd_T37 l1 x26_2).f1) t463 t464 _ ?side1 ?side2 A35.out).mono ?_);(case side1 => repeat (first|exact (zKb HR460_1.out HB.out)|(with_reducible refine zBb ?_ _)|(with_reducible refine zAb ?_ _)|(with_reducible refine zX ?_)));(case side2 => exact HC460_1.out);rintro e w45 ⟨v465,rfl,ho0,hb⟩;refine ⟨_,rfl,?_⟩;replace HO_8:=zA (zSb (zy HO_8) (zW ho0) hb);have HO466:=zA (zHb ho0 (zT (zz HB)));replace BK450:=zA (zQ (g:=gb450) (o:=.cells #[.slice A0_0 l0_0.length c0_0] 34 (0,0)) (zx BK450) hb);replace BK451:=zA (zQ (g:=gb451) (o:=.cells #[.int .i64 a2_0,.slice A2_1 l2_1.length c2_1] 37 (0,0)) (zx BK451) hb);replace BK461:=zA (zQ (g:=gb461) (o:=.cells #[.int .i64 ((rd_T37 l1 x26_2).f0),.slice A460_1 ((rd_T37 l1 x26_2).f1).length c460_1] 37 (0,0)) (zx BK461) hb);replace HB:=zA (zJb (zz HB) hb);(try clear hb);(try clear hb2);(try clear hk);(try clear hi);(try clear ho0);obtain ⟨Ao47,co47,eo47⟩:=Kd.R_slice HO466.out;subst eo47)|((with_reducible refine gate_builtin (b:=.append) (xs:=#[.tmp 34,.tmp 37]) rfl ?_);at_builtin;refine Kd.S_append k37 (w0:=w) w.heap.size rfl (.tmp 34) (.tmp 37) 31 37 (.agg #[(.int .i64 0),(.slice none 0 0)]) 32 rfl Try.underlying31 info37 rfl (by decide) (by omega) u8 x8_2 (⟨t463,t464⟩ : S37) [.int .i64 t463,.slice Ao47 t464.length co47] (fun k_ => k_ ≠ gb451 ∧ k_ ≠ gb461) (fun k_ => some k_ = (.slice Ao47 t464.length co47 : Value).ownBlock) rfl rfl ?aP (fun k_ hk_ => ((zGb (ok':=fun k_ => ((fun k_ => k_ ≠ gb451 ∧ k_ ≠ gb461)) k_ ∧ some k_ ≠ (u8 : Value).ownBlock) (Kd.R_types (Kd.R_types (Kd.R_apart' (HO466.out) (Kd.S_typed HO_8.out) (by decide)) BK451.out (by decide)) BK461.out (by decide)) (fun k_ hk => ⟨⟨hk.1.2,hk.2⟩,hk.1.1.2⟩))).1 k_ hk_.symm) ?aF ?aO ?aB ?aS ?aL ?_;(case aP => exact k37_mkM _ _ _ (⟨t463,t464⟩ : S37) (zGb (Kd.R_tight rfl (zGb (ok':=fun k_ => ((fun k_ => k_ ≠ gb451 ∧ k_ ≠ gb461)) k_ ∧ some k_ ≠ (u8 : Value).ownBlock) (Kd.R_types (Kd.R_types (Kd.R_apart' (HO466.out) (Kd.S_typed HO_8.out) (by decide)) BK451.out (by decide)) BK461.out (by decide)) (fun k_ hk => ⟨⟨hk.1.2,hk.2⟩,hk.1.1.2⟩))) (fun _ h_ => h_)));(case aB => exact (zz HB));(case aF => exact (fun k_ hk => ⟨Kd.freshB (g:=gb451) (o:=.cells #[.int .i64 a2_0,.slice A2_1 l2_1.length c2_1] 37 (0,0)) (zx BK451) k_ hk,Kd.freshB (g:=gb461) (o:=.cells #[.int .i64 ((rd_T37 l1 x26_2).f0),.slice A460_1 ((rd_T37 l1 x26_2).f1).length c460_1] 37 (0,0)) (zx BK461) k_ hk⟩));(case aO => exact (by (with_reducible repeat (first|apply zM|apply zL|apply zN));exact zS HO_8.out (fun k_ hk => ⟨⟨hk.1.1,hk.1.2⟩,fun e_ => hk.2 e_⟩)));(case aS => exact (zT (zz HB)));(case aL => have:=LMc36.out;omega);intro v468 w46 ho hb hg hat;rw [← Ny467.out] at ho;replace BK450:=zA (blk_grown (g:=gb450) (o:=.cells #[.slice A0_0 l0_0.length c0_0] 34 (0,0)) (zx BK450) hg (Kd.S_ne HO_8.out BK450.out (by decide)));replace BK451:=zA (blk_grown (g:=gb451) (o:=.cells #[.int .i64 a2_0,.slice A2_1 l2_1.length c2_1] 37 (0,0)) (zx BK451) hg (Kd.S_away HO_8.out (fun _ hk => hk.1.1)));replace BK461:=zA (blk_grown (g:=gb461) (o:=.cells #[.int .i64 ((rd_T37 l1 x26_2).f0),.slice A460_1 ((rd_T37 l1 x26_2).f1).length c460_1] 37 (0,0)) (zx BK461) hg (Kd.S_away HO_8.out (fun _ hk => hk.1.2)));replace HB:=zA (hb);have HO469:=zA (ho);clear HO_8 HO466;clear ho hb hg hat))
           go_roundg k2
           case measure => have:=HJ3.out;have:=HK2.out;omega
           case rel => exact ⟨(y467),(wrap64 (x26_2 + 1)),za,H',⟨by have:=HJ3.out;have:=HK2.out;omega⟩,⟨by (with_reducible repeat (first|apply zM|apply zL|apply zN));exact zS HO469.out (fun _ hk => hk.1)⟩,⟨zx BK450⟩,⟨zx BK451⟩,⟨zz HB⟩⟩
          ·
           rw [if_neg c36] at H
           exact absurd H (by simp)
        ·
         rw [if_neg c25] at H
         exact absurd H (by simp)
       ·
        rw [if_neg c24] at H
        exact absurd H (by simp)
      ·
       rw [if_neg c23] at H;have c23b0:=decide_eq_false c23;clear c23;simp only [Option.some.injEq,Prod.mk.injEq] at H;obtain ⟨rfl,rfl⟩:=H
       go_wp2
       go_ret2
       exact ⟨_,by first|rfl|(simp [errW_none,errW_some] <;> rfl)|(simp [*,errW_none,errW_some] <;> rfl),by (with_reducible repeat (first|apply zM|apply zL|apply zN));exact zS HO_8.out (fun _ hk => trivial),zz HB⟩

/-! ### impl_Fact_63: function 63 -/
def impl_Fact_63.l0 : Nat → List (S37) → List (S37) → Int → Int → Option (Bool)
 | 0, _, _, _, _ => none
 | k + 1, x1, x15, x16, x17 => if x17 < x16 then (if 0 ≤ x17 then (if x17 < (x15.length : Int) then (if x17 < (x1.length : Int) then ((impl_equalFact.f k ((rd_T37 x15 x17).f0) ((rd_T37 x15 x17).f1) ((rd_T37 x1 x17).f0) ((rd_T37 x1 x17).f1)).bind fun t474 => (if t474 = true then (impl_Fact_63.l0 k x1 x15 x16 (wrap64 (x17 + 1))) else (some false))) else (none)) else (none)) else (none)) else (some true)
def impl_Fact_63.f (k : Nat) (l0 : List (S37)) (l1 : List (S37)) (a2 : Int) : Option (Bool) := if (l0.length : Int) = (l1.length : Int) then (impl_Fact_63.l0 k l1 l0 (l0.length : Int) 0) else (some false)
theorem impl_Fact_63.mono_l : ∀ k, (∀ y0 y1 y2 y3, LeO (impl_Fact_63.l0 k y0 y1 y2 y3) (impl_Fact_63.l0 (k + 1) y0 y1 y2 y3))
 | 0 => fun _ _ _ _ r h => by simp [impl_Fact_63.l0] at h
 | k + 1 => by
  have ih0:=impl_Fact_63.mono_l k
  ·
   intro y0 y1 y2 y3
   unfold impl_Fact_63.l0
   repeat' first
   | (with_reducible exact ih0 _ _ _ _)
   | (with_reducible exact impl_equalFact.mono _ _ _ _ _)
   | (with_reducible exact LeO.refl _)
   | (with_reducible exact LeO.none _)
   | (with_reducible refine LeO.ite ?_ ?_)
   | (with_reducible refine LeO.bind ?_ (fun _ => ?_))
   | exact ih0 _ _ _ _
   | exact LeO.none _
   | refine LeO.ite ?_ ?_
   | refine LeO.bind ?_ (fun _ => ?_)
theorem impl_Fact_63.mono : ∀ a0 a1 a2 k, LeO (impl_Fact_63.f k a0 a1 a2) (impl_Fact_63.f (k + 1) a0 a1 a2) := by
 intro a0 a1 a2 k
 have ih0:=impl_Fact_63.mono_l k
 unfold impl_Fact_63.f
 repeat' first
   | (with_reducible exact ih0 _ _ _ _)
   | (with_reducible exact impl_equalFact.mono _ _ _ _ _)
   | (with_reducible exact LeO.refl _)
   | (with_reducible exact LeO.none _)
   | (with_reducible refine LeO.ite ?_ ?_)
   | (with_reducible refine LeO.bind ?_ (fun _ => ?_))
   | exact ih0 _ _ _ _
   | exact LeO.none _
   | refine LeO.ite ?_ ?_
   | refine LeO.bind ?_ (fun _ => ?_)
set_option maxHeartbeats 8000000 in
set_option maxRecDepth 100000 in
theorem impl_Fact_63.calls (k : Nat) (A0 : Option Addr) (c0 : Nat) (l0 : List (S37)) (A1 : Option Addr) (c1 : Nat) (l1 : List (S37)) (a2 : Int) (r : Bool) (w : World) (hr0 : Kd.C k37 w A0 l0.length l0) (hc0 : l0.length ≤ c0) (hr1 : Kd.C k37 w A1 l1.length l1) (hc1 : l1.length ≤ c1) (h : impl_Fact_63.f k l0 l1 a2 = some r) :
  Calls Try.prog 63 #[.slice A0 l0.length c0, .slice A1 l1.length c1, .func (.func 62) #[] #[]] w fun e w' => e = .returned (.bool r) ∧ Below w.heap.size w w' := by
 have hu37:=Try.underlying37;have HR0:=zA hr0;have HC0:=zA hc0;clear hr0 hc0;have HR1:=zA hr1;have HC1:=zA hc1;clear hr1 hc1;have HB:=zA (Below.refl w.heap.size w)
 have H : (if (l0.length : Int) = (l1.length : Int) then (impl_Fact_63.l0 k l1 l0 (l0.length : Int) 0) else (some false)) = some r:=h
 clear h
 by_cases c4 : (l0.length : Int) = (l1.length : Int)
 ·
  rw [if_pos c4] at H;have c4b0:=beq_iff_eq.mpr c4;have c4b1:=bne_eq_false_iff_eq.mpr c4
  have c4b2 : (l0.length == l1.length) = true:=by first|simpa using c4|(simp at c4 ⊢;omega)
  clear c4
  have H':=zA H
  clear H
  go_enter Try.func63,Try.ntmps63
  go_wp2
  go_loopg [17] k (fun kq v17 w' => ∃ (x17_1 : Int),v17 = .int .i64 x17_1 ∧ Aside0 (impl_Fact_63.l0 kq l1 l0 (l0.length : Int) x17_1 = some r) ∧ Aside0 (kq ≤ k) ∧ Aside0 (Below w.heap.size w w'))
  case atStart => exact ⟨(0),za,H',⟨Nat.le_refl _⟩,⟨zz HB⟩⟩
  case round =>
   clear H';(try clear c1);(try clear p2);(try clear c4);(try clear c4b0);(try clear c4b1);(try clear c4b2);obtain ⟨x17_1,rfl,HA,HK1,HB⟩:=hrel
   cases gk with
   | zero => exact absurd HA.out (by simp [impl_Fact_63.l0])
   | succ k1 =>
    have H:=HA.out;clear HA;simp only [impl_Fact_63.l0] at H
    by_cases c5 : x17_1 < (l0.length : Int)
    ·
     rw [if_pos c5] at H;have c5b0:=decide_eq_true c5;clear c5
     by_cases c6 : 0 ≤ x17_1
     ·
      rw [if_pos c6] at H;have c6b0:=decide_eq_true c6;clear c6
      by_cases c7 : x17_1 < (l0.length : Int)
      ·
       rw [if_pos c7] at H;have c7b0:=decide_eq_true c7;clear c7
       by_cases c8 : x17_1 < (l1.length : Int)
       ·
        rw [if_pos c8] at H;have c8b0:=decide_eq_true c8;clear c8;replace H:=Option.bind_eq_some_iff.mp H;obtain ⟨t474,A90,H⟩:=H;(try dsimp only at H);have A9:=zA A90;clear A90
        by_cases c10 : t474 = true
        ·
         subst c10
         rw [if_pos rfl] at H
         have H':=zA H
         clear H;have p470 : 0 ≤ (x17_1 : Int):=zXb ze;have q470 : x17_1 < (l0.length : Int):=zXb ze;obtain ⟨ad470,A470_1,c470_1,e470,hx470_0,hx470_1,hl470_1,hi470_1⟩:=at_T37 HR0.out x17_1 p470 q470
         cases e470
         replace hx470_0:=(HB.out.cell (World.block_lt_of_cell? w _ hx470_0)).trans hx470_0;replace hx470_1:=(HB.out.cell (World.block_lt_of_cell? w _ hx470_1)).trans hx470_1;have HR470_1:=zA hi470_1;have HC470_1:=zA hl470_1;clear hi470_1 hl470_1;replace p470:=eq_true p470;replace q470:=eq_true q470
         go_wp2_with (first|((with_reducible refine gate_dst (N:=8) rfl ?_);refine box_event ?hg (N:=8) ?hd (cs:=#[.int .i64 0,.slice none 0 0]) (t:=37) ?hr ?_;(case hd => rfl);(case hg => rfl);(case hr => first|(go_simp;done)|(go_simp;rfl));intro gb471 hg w11 hbox hb;have BK471:=zA (hbox);have GW471:=zA ((by rw [hg];exact (zT (zz HB)) : w.heap.size ≤ gb471));have GE471:=zA ((by rw [hg];exact (zT (zz HB)) : w.heap.size ≤ gb471));replace HB:=zA (zJb (zz HB) hb);clear hb hbox hg;have hcz12_0:=zc (.int .i64 0) BK471 0 rfl;have hcz12_1:=zc (.slice none 0 0) BK471 1 rfl;have hfz12_0:=blk_frozen BK471.out 0;have hfz12_1:=blk_frozen BK471.out 1;have p472 : 0 ≤ (x17_1 : Int):=zXb ze;have q472 : x17_1 < (l1.length : Int):=zXb ze;obtain ⟨ad472,A472_1,c472_1,e472,hx472_0,hx472_1,hl472_1,hi472_1⟩:=at_T37 HR1.out x17_1 p472 q472;cases e472;have hn472_0 : ad472.block ≠ gb471:=Nat.ne_of_lt (Nat.lt_of_lt_of_le (by have:=World.block_lt_of_cell? _ _ hx472_0;first|rwa [add_block] at this|exact this) GW471.out);have hn472_1 : ad472.block ≠ gb471:=Nat.ne_of_lt (Nat.lt_of_lt_of_le (by have:=World.block_lt_of_cell? _ _ hx472_0;first|rwa [add_block] at this|exact this) GW471.out);replace hx472_0:=(HB.out.cell (World.block_lt_of_cell? w _ hx472_0)).trans hx472_0;replace hx472_1:=(HB.out.cell (World.block_lt_of_cell? w _ hx472_1)).trans hx472_1;have HR472_1:=zA hi472_1;have HC472_1:=zA hl472_1;clear hi472_1 hl472_1;replace hx472_0:=(zWb (p:=⟨gb471,0,none⟩) (by first|(rw [add_block];exact hn472_0)|(show (Addr.add _ _).block ≠ _;rw [add_block];exact hn472_0)|exact hn472_0) (.int .i64 ((rd_T37 l0 x17_1).f0))).trans hx472_0;replace hx472_1:=(zWb (p:=⟨gb471,0,none⟩) (by first|(rw [add_block];exact hn472_0)|(show (Addr.add _ _).block ≠ _;rw [add_block];exact hn472_0)|exact hn472_0) (.int .i64 ((rd_T37 l0 x17_1).f0))).trans hx472_1;replace hx472_0:=(zWb (p:=⟨gb471,1,none⟩) (by first|(rw [add_block];exact hn472_1)|(show (Addr.add _ _).block ≠ _;rw [add_block];exact hn472_1)|exact hn472_1) (.slice A470_1 ((rd_T37 l0 x17_1).f1).length c470_1)).trans hx472_0;replace hx472_1:=(zWb (p:=⟨gb471,1,none⟩) (by first|(rw [add_block];exact hn472_1)|(show (Addr.add _ _).block ≠ _;rw [add_block];exact hn472_1)|exact hn472_1) (.slice A470_1 ((rd_T37 l0 x17_1).f1).length c470_1)).trans hx472_1;clear hn472_0;clear hn472_1;replace p472:=eq_true p472;replace q472:=eq_true q472)|((with_reducible refine gate_dst (N:=9) rfl ?_);refine box_event ?hg (N:=9) ?hd (cs:=#[.int .i64 0,.slice none 0 0]) (t:=37) ?hr ?_;(case hd => rfl);(case hg => rfl);(case hr => first|(go_simp;done)|(go_simp;rfl));intro gb473 hg w13 hbox hb;have BK473:=zA (hbox);have GW473:=zA ((by rw [hg];exact (zT (zz HB)) : w.heap.size ≤ gb473));have GE473:=zA ((by rw [hg];exact (zT (zz HB)) : w.heap.size ≤ gb473));replace HB:=zA (zJb (zz HB) hb);have NB471_473:=zA ((by rw [hg];exact Nat.ne_of_lt (blk_lt (g:=gb471) (o:=.cells #[.int .i64 ((rd_T37 l0 x17_1).f0),.slice A470_1 ((rd_T37 l0 x17_1).f1).length c470_1] 37 (0,0)) (by (with_reducible repeat (first|refine zF ?_ _|refine zI ?_|refine zG ?_ _));refine blk_put (cs:=#[.int .i64 ((rd_T37 l0 x17_1).f0),.slice none 0 0]) ?_ 1 _ rfl;(with_reducible repeat (first|refine zF ?_ _|refine zI ?_|refine zG ?_ _));refine blk_put (cs:=#[.int .i64 0,.slice none 0 0]) ?_ 0 _ rfl;(with_reducible repeat (first|refine zF ?_ _|refine zI ?_|refine zG ?_ _));exact BK471.out)) : gb471 ≠ gb473));have NB473_471:=zA ((by rw [hg];exact Nat.ne_of_gt (blk_lt (g:=gb471) (o:=.cells #[.int .i64 ((rd_T37 l0 x17_1).f0),.slice A470_1 ((rd_T37 l0 x17_1).f1).length c470_1] 37 (0,0)) (by (with_reducible repeat (first|refine zF ?_ _|refine zI ?_|refine zG ?_ _));refine blk_put (cs:=#[.int .i64 ((rd_T37 l0 x17_1).f0),.slice none 0 0]) ?_ 1 _ rfl;(with_reducible repeat (first|refine zF ?_ _|refine zI ?_|refine zG ?_ _));refine blk_put (cs:=#[.int .i64 0,.slice none 0 0]) ?_ 0 _ rfl;(with_reducible repeat (first|refine zF ?_ _|refine zI ?_|refine zG ?_ _));exact BK471.out)) : gb473 ≠ gb471));replace BK471:=zA (zQ (g:=gb471) (o:=.cells #[.int .i64 ((rd_T37 l0 x17_1).f0),.slice A470_1 ((rd_T37 l0 x17_1).f1).length c470_1] 37 (0,0)) (by (with_reducible repeat (first|refine zF ?_ _|refine zI ?_|refine zG ?_ _));refine blk_put (cs:=#[.int .i64 ((rd_T37 l0 x17_1).f0),.slice none 0 0]) ?_ 1 _ rfl;(with_reducible repeat (first|refine zF ?_ _|refine zI ?_|refine zG ?_ _));refine blk_put (cs:=#[.int .i64 0,.slice none 0 0]) ?_ 0 _ rfl;(with_reducible repeat (first|refine zF ?_ _|refine zI ?_|refine zG ?_ _));exact BK471.out) hb);clear hb hbox hg;have hnb14:=NB473_471.out;have hnc14:=NB471_473.out;have hcz15_0:=zc (.int .i64 0) BK473 0 rfl;have hcz15_1:=zc (.slice none 0 0) BK473 1 rfl;have hfz15_0:=blk_frozen BK473.out 0;have hfz15_1:=blk_frozen BK473.out 1;have hcz16_0:=zc (.int .i64 ((rd_T37 l0 x17_1).f0)) BK471 0 rfl;have hcz16_1:=zc (.slice A470_1 ((rd_T37 l0 x17_1).f1).length c470_1) BK471 1 rfl;have hfz16_0:=blk_frozen BK471.out 0;have hfz16_1:=blk_frozen BK471.out 1)|(go_at_call 62;(with_reducible refine (impl_equalFact.calls k1 ((rd_T37 l0 x17_1).f0) _ _ ((rd_T37 l0 x17_1).f1) ((rd_T37 l1 x17_1).f0) _ _ ((rd_T37 l1 x17_1).f1) true _ ?side1 ?side2 ?side3 ?side4 A9.out).mono ?_);(case side1 => exact zKb HR470_1.out (zz HB));(case side2 => exact HC470_1.out);(case side3 => exact zKb HR472_1.out (zz HB));(case side4 => exact HC472_1.out);rintro e w17 ⟨rfl,hb⟩;replace BK471:=zA (zQ (g:=gb471) (o:=.cells #[.int .i64 ((rd_T37 l0 x17_1).f0),.slice A470_1 ((rd_T37 l0 x17_1).f1).length c470_1] 37 (0,0)) (by (with_reducible repeat (first|refine zF ?_ _|refine zI ?_|refine zG ?_ _));refine zUb ?_ NB471_473.out _;(with_reducible repeat (first|refine zF ?_ _|refine zI ?_|refine zG ?_ _));refine zUb ?_ NB471_473.out _;(with_reducible repeat (first|refine zF ?_ _|refine zI ?_|refine zG ?_ _));exact BK471.out) hb);replace BK473:=zA (zQ (g:=gb473) (o:=.cells #[.int .i64 ((rd_T37 l1 x17_1).f0),.slice A472_1 ((rd_T37 l1 x17_1).f1).length c472_1] 37 (0,0)) (by (with_reducible repeat (first|refine zF ?_ _|refine zI ?_|refine zG ?_ _));refine blk_put (cs:=#[.int .i64 ((rd_T37 l1 x17_1).f0),.slice none 0 0]) ?_ 1 _ rfl;(with_reducible repeat (first|refine zF ?_ _|refine zI ?_|refine zG ?_ _));refine blk_put (cs:=#[.int .i64 0,.slice none 0 0]) ?_ 0 _ rfl;(with_reducible repeat (first|refine zF ?_ _|refine zI ?_|refine zG ?_ _));exact BK473.out) hb);replace HB:=zA (zJb (zz HB) hb);(try clear hb);(try clear hb2);(try clear hk);(try clear hi)))
         go_roundg k1
         case measure => have:=HK1.out;omega
         case rel => exact ⟨(wrap64 (x17_1 + 1)),za,H',⟨by have:=HK1.out;omega⟩,⟨zz HB⟩⟩
        ·
         replace c10:=Bool.eq_false_iff.mpr c10
         subst c10
         have H1 : (some false) = some r:=by rw [if_neg (show ¬ (false = true) by decide)] at H;exact H
         clear H;have H:=H1;clear H1
         obtain rfl:=Option.some.inj H
         have p470 : 0 ≤ (x17_1 : Int):=zXb ze;have q470 : x17_1 < (l0.length : Int):=zXb ze;obtain ⟨ad470,A470_1,c470_1,e470,hx470_0,hx470_1,hl470_1,hi470_1⟩:=at_T37 HR0.out x17_1 p470 q470
         cases e470
         replace hx470_0:=(HB.out.cell (World.block_lt_of_cell? w _ hx470_0)).trans hx470_0;replace hx470_1:=(HB.out.cell (World.block_lt_of_cell? w _ hx470_1)).trans hx470_1;have HR470_1:=zA hi470_1;have HC470_1:=zA hl470_1;clear hi470_1 hl470_1;replace p470:=eq_true p470;replace q470:=eq_true q470
         go_wp2_with (first|((with_reducible refine gate_dst (N:=8) rfl ?_);refine box_event ?hg (N:=8) ?hd (cs:=#[.int .i64 0,.slice none 0 0]) (t:=37) ?hr ?_;(case hd => rfl);(case hg => rfl);(case hr => first|(go_simp;done)|(go_simp;rfl));intro gb471 hg w18 hbox hb;have BK471:=zA (hbox);have GW471:=zA ((by rw [hg];exact (zT (zz HB)) : w.heap.size ≤ gb471));have GE471:=zA ((by rw [hg];exact (zT (zz HB)) : w.heap.size ≤ gb471));replace HB:=zA (zJb (zz HB) hb);clear hb hbox hg;have hcz19_0:=zc (.int .i64 0) BK471 0 rfl;have hcz19_1:=zc (.slice none 0 0) BK471 1 rfl;have hfz19_0:=blk_frozen BK471.out 0;have hfz19_1:=blk_frozen BK471.out 1;have p472 : 0 ≤ (x17_1 : Int):=zXb ze;have q472 : x17_1 < (l1.length : Int):=zXb ze;obtain ⟨ad472,A472_1,c472_1,e472,hx472_0,hx472_1,hl472_1,hi472_1⟩:=at_T37 HR1.out x17_1 p472 q472;cases e472;have hn472_0 : ad472.block ≠ gb471:=Nat.ne_of_lt (Nat.lt_of_lt_of_le (by have:=World.block_lt_of_cell? _ _ hx472_0;first|rwa [add_block] at this|exact this) GW471.out);have hn472_1 : ad472.block ≠ gb471:=Nat.ne_of_lt (Nat.lt_of_lt_of_le (by have:=World.block_lt_of_cell? _ _ hx472_0;first|rwa [add_block] at this|exact this) GW471.out);replace hx472_0:=(HB.out.cell (World.block_lt_of_cell? w _ hx472_0)).trans hx472_0;replace hx472_1:=(HB.out.cell (World.block_lt_of_cell? w _ hx472_1)).trans hx472_1;have HR472_1:=zA hi472_1;have HC472_1:=zA hl472_1;clear hi472_1 hl472_1;replace hx472_0:=(zWb (p:=⟨gb471,0,none⟩) (by first|(rw [add_block];exact hn472_0)|(show (Addr.add _ _).block ≠ _;rw [add_block];exact hn472_0)|exact hn472_0) (.int .i64 ((rd_T37 l0 x17_1).f0))).trans hx472_0;replace hx472_1:=(zWb (p:=⟨gb471,0,none⟩) (by first|(rw [add_block];exact hn472_0)|(show (Addr.add _ _).block ≠ _;rw [add_block];exact hn472_0)|exact hn472_0) (.int .i64 ((rd_T37 l0 x17_1).f0))).trans hx472_1;replace hx472_0:=(zWb (p:=⟨gb471,1,none⟩) (by first|(rw [add_block];exact hn472_1)|(show (Addr.add _ _).block ≠ _;rw [add_block];exact hn472_1)|exact hn472_1) (.slice A470_1 ((rd_T37 l0 x17_1).f1).length c470_1)).trans hx472_0;replace hx472_1:=(zWb (p:=⟨gb471,1,none⟩) (by first|(rw [add_block];exact hn472_1)|(show (Addr.add _ _).block ≠ _;rw [add_block];exact hn472_1)|exact hn472_1) (.slice A470_1 ((rd_T37 l0 x17_1).f1).length c470_1)).trans hx472_1;clear hn472_0;clear hn472_1;replace p472:=eq_true p472;replace q472:=eq_true q472)|((with_reducible refine gate_dst (N:=9) rfl ?_);refine box_event ?hg (N:=9) ?hd (cs:=#[.int .i64 0,.slice none 0 0]) (t:=37) ?hr ?_;(case hd => rfl);(case hg => rfl);(case hr => first|(go_simp;done)|(go_simp;rfl));intro gb473 hg w20 hbox hb;have BK473:=zA (hbox);have GW473:=zA ((by rw [hg];exact (zT (zz HB)) : w.heap.size ≤ gb473));have GE473:=zA ((by rw [hg];exact (zT (zz HB)) : w.heap.size ≤ gb473));replace HB:=zA (zJb (zz HB) hb);have NB471_473:=zA ((by rw [hg];exact Nat.ne_of_lt (blk_lt (g:=gb471) (o:=.cells #[.int .i64 ((rd_T37 l0 x17_1).f0),.slice A470_1 ((rd_T37 l0 x17_1).f1).length c470_1] 37 (0,0)) (by (with_reducible repeat (first|refine zF ?_ _|refine zI ?_|refine zG ?_ _));refine blk_put (cs:=#[.int .i64 ((rd_T37 l0 x17_1).f0),.slice none 0 0]) ?_ 1 _ rfl;(with_reducible repeat (first|refine zF ?_ _|refine zI ?_|refine zG ?_ _));refine blk_put (cs:=#[.int .i64 0,.slice none 0 0]) ?_ 0 _ rfl;(with_reducible repeat (first|refine zF ?_ _|refine zI ?_|refine zG ?_ _));exact BK471.out)) : gb471 ≠ gb473));have NB473_471:=zA ((by rw [hg];exact Nat.ne_of_gt (blk_lt (g:=gb471) (o:=.cells #[.int .i64 ((rd_T37 l0 x17_1).f0),.slice A470_1 ((rd_T37 l0 x17_1).f1).length c470_1] 37 (0,0)) (by (with_reducible repeat (first|refine zF ?_ _|refine zI ?_|refine zG ?_ _));refine blk_put (cs:=#[.int .i64 ((rd_T37 l0 x17_1).f0),.slice none 0 0]) ?_ 1 _ rfl;(with_reducible repeat (first|refine zF ?_ _|refine zI ?_|refine zG ?_ _));refine blk_put (cs:=#[.int .i64 0,.slice none 0 0]) ?_ 0 _ rfl;(with_reducible repeat (first|refine zF ?_ _|refine zI ?_|refine zG ?_ _));exact BK471.out)) : gb473 ≠ gb471));replace BK471:=zA (zQ (g:=gb471) (o:=.cells #[.int .i64 ((rd_T37 l0 x17_1).f0),.slice A470_1 ((rd_T37 l0 x17_1).f1).length c470_1] 37 (0,0)) (by (with_reducible repeat (first|refine zF ?_ _|refine zI ?_|refine zG ?_ _));refine blk_put (cs:=#[.int .i64 ((rd_T37 l0 x17_1).f0),.slice none 0 0]) ?_ 1 _ rfl;(with_reducible repeat (first|refine zF ?_ _|refine zI ?_|refine zG ?_ _));refine blk_put (cs:=#[.int .i64 0,.slice none 0 0]) ?_ 0 _ rfl;(with_reducible repeat (first|refine zF ?_ _|refine zI ?_|refine zG ?_ _));exact BK471.out) hb);clear hb hbox hg;have hnb21:=NB473_471.out;have hnc21:=NB471_473.out;have hcz22_0:=zc (.int .i64 0) BK473 0 rfl;have hcz22_1:=zc (.slice none 0 0) BK473 1 rfl;have hfz22_0:=blk_frozen BK473.out 0;have hfz22_1:=blk_frozen BK473.out 1;have hcz23_0:=zc (.int .i64 ((rd_T37 l0 x17_1).f0)) BK471 0 rfl;have hcz23_1:=zc (.slice A470_1 ((rd_T37 l0 x17_1).f1).length c470_1) BK471 1 rfl;have hfz23_0:=blk_frozen BK471.out 0;have hfz23_1:=blk_frozen BK471.out 1)|(go_at_call 62;(with_reducible refine (impl_equalFact.calls k1 ((rd_T37 l0 x17_1).f0) _ _ ((rd_T37 l0 x17_1).f1) ((rd_T37 l1 x17_1).f0) _ _ ((rd_T37 l1 x17_1).f1) false _ ?side1 ?side2 ?side3 ?side4 A9.out).mono ?_);(case side1 => exact zKb HR470_1.out (zz HB));(case side2 => exact HC470_1.out);(case side3 => exact zKb HR472_1.out (zz HB));(case side4 => exact HC472_1.out);rintro e w24 ⟨rfl,hb⟩;replace BK471:=zA (zQ (g:=gb471) (o:=.cells #[.int .i64 ((rd_T37 l0 x17_1).f0),.slice A470_1 ((rd_T37 l0 x17_1).f1).length c470_1] 37 (0,0)) (by (with_reducible repeat (first|refine zF ?_ _|refine zI ?_|refine zG ?_ _));refine zUb ?_ NB471_473.out _;(with_reducible repeat (first|refine zF ?_ _|refine zI ?_|refine zG ?_ _));refine zUb ?_ NB471_473.out _;(with_reducible repeat (first|refine zF ?_ _|refine zI ?_|refine zG ?_ _));exact BK471.out) hb);replace BK473:=zA (zQ (g:=gb473) (o:=.cells #[.int .i64 ((rd_T37 l1 x17_1).f0),.slice A472_1 ((rd_T37 l1 x17_1).f1).length c472_1] 37 (0,0)) (by (with_reducible repeat (first|refine zF ?_ _|refine zI ?_|refine zG ?_ _));refine blk_put (cs:=#[.int .i64 ((rd_T37 l1 x17_1).f0),.slice none 0 0]) ?_ 1 _ rfl;(with_reducible repeat (first|refine zF ?_ _|refine zI ?_|refine zG ?_ _));refine blk_put (cs:=#[.int .i64 0,.slice none 0 0]) ?_ 0 _ rfl;(with_reducible repeat (first|refine zF ?_ _|refine zI ?_|refine zG ?_ _));exact BK473.out) hb);replace HB:=zA (zJb (zz HB) hb);(try clear hb);(try clear hb2);(try clear hk);(try clear hi)))
         go_ret
         exact ⟨by first|rfl|(simp [errW_none,errW_some] <;> rfl)|(simp [*,errW_none,errW_some] <;> rfl),zz HB⟩
       ·
        rw [if_neg c8] at H
        exact absurd H (by simp)
      ·
       rw [if_neg c7] at H
       exact absurd H (by simp)
     ·
      rw [if_neg c6] at H
      exact absurd H (by simp)
    ·
     rw [if_neg c5] at H;have c5b0:=decide_eq_false c5;clear c5
     obtain rfl:=Option.some.inj H
     go_wp2
     go_ret
     exact ⟨by first|rfl|(simp [errW_none,errW_some] <;> rfl)|(simp [*,errW_none,errW_some] <;> rfl),zz HB⟩
 ·
  rw [if_neg c4] at H;have c4b0:=beq_eq_false_iff_ne.mpr c4;have c4b1:=bne_iff_ne.mpr c4
  have c4b2 : (l0.length == l1.length) = false:=by first|simpa using c4|(simp at c4 ⊢;omega)
  obtain rfl:=Option.some.inj H
  go_enter Try.func63,Try.ntmps63
  go_wp2
  go_ret
  exact ⟨by first|rfl|(simp [errW_none,errW_some] <;> rfl)|(simp [*,errW_none,errW_some] <;> rfl),zz HB⟩

/-! ### impl_EqualFacts: function 28 -/
def impl_EqualFacts.f (k : Nat) (l0 : List (S37)) (l1 : List (S37)) : Option (Bool) := (impl_Fact_63.f k l0 l1 0).bind fun t475 => (some t475)
theorem impl_EqualFacts.mono : ∀ a0 a1 k, LeO (impl_EqualFacts.f k a0 a1) (impl_EqualFacts.f (k + 1) a0 a1) := by
 intro a0 a1 k
 unfold impl_EqualFacts.f
 repeat' first
   | (with_reducible exact impl_Fact_63.mono _ _ _ _)
   | (with_reducible exact LeO.refl _)
   | (with_reducible exact LeO.none _)
   | (with_reducible refine LeO.ite ?_ ?_)
   | (with_reducible refine LeO.bind ?_ (fun _ => ?_))
   | exact LeO.none _
   | refine LeO.ite ?_ ?_
   | refine LeO.bind ?_ (fun _ => ?_)
set_option maxHeartbeats 8000000 in
set_option maxRecDepth 100000 in
theorem impl_EqualFacts.calls (k : Nat) (A0 : Option Addr) (c0 : Nat) (l0 : List (S37)) (A1 : Option Addr) (c1 : Nat) (l1 : List (S37)) (r : Bool) (w : World) (hr0 : Kd.C k37 w A0 l0.length l0) (hc0 : l0.length ≤ c0) (hr1 : Kd.C k37 w A1 l1.length l1) (hc1 : l1.length ≤ c1) (h : impl_EqualFacts.f k l0 l1 = some r) :
  Calls Try.prog 28 #[.slice A0 l0.length c0, .slice A1 l1.length c1] w fun e w' => e = .returned (.bool r) ∧ Below w.heap.size w w' := by
 have HR0:=zA hr0;have HC0:=zA hc0;clear hr0 hc0;have HR1:=zA hr1;have HC1:=zA hc1;clear hr1 hc1;have HB:=zA (Below.refl w.heap.size w)
 have H : ((impl_Fact_63.f k l0 l1 0).bind fun t475 => (some t475)) = some r:=h
 clear h;replace H:=Option.bind_eq_some_iff.mp H;obtain ⟨t475,A30,H⟩:=H;(try dsimp only at H);have A3:=zA A30;clear A30
 obtain rfl:=Option.some.inj H
 go_enter Try.func28,Try.ntmps28
 go_wp2_with (first|((with_reducible refine gate_callee (f:=63) rfl ?_);refine goesL_ (some 7) rfl rfl Try.func63 (by kernel_rfl) rfl #[.slice A0 l0.length c0,.slice A1 l1.length c1,.func (.func 62) #[] #[]] rfl (by (try simp only [zCb,zMb,zNb]);first|done|rfl|(simp only [zLb,zDb];rfl)) ?_;(with_reducible refine (impl_Fact_63.calls k _ _ l0 _ _ l1 0 t475 _ ?side1 ?side2 ?side3 ?side4 A3.out).mono ?_);(case side1 => repeat (first|exact HR0.out|(with_reducible refine zBb ?_ _)|(with_reducible refine zAb ?_ _)|(with_reducible refine zX ?_)));(case side2 => exact HC0.out);(case side3 => repeat (first|exact HR1.out|(with_reducible refine zBb ?_ _)|(with_reducible refine zAb ?_ _)|(with_reducible refine zX ?_)));(case side4 => exact HC1.out);rintro e w4 ⟨rfl,hb⟩;refine ⟨_,rfl,?_⟩;replace HB:=zA (zJb (zz HB) hb);(try clear hb);(try clear hb2);(try clear hk);(try clear hi)))
 go_ret
 exact ⟨by first|rfl|(simp [errW_none,errW_some] <;> rfl)|(simp [*,errW_none,errW_some] <;> rfl),zz HB⟩

-- NOT PRINTED: function 30 (spec_DrawRemoveFact)

end Go.Proofs.Ytfelabhakgcifaa.QFnFacts
