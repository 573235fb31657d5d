/- Walks through the Go functions that FnExactAddFact reaches: each call returns what the Lean function beside it says, within the bounds that the theorem names. -/
import Derived.Test.YtfelabhakgcifaaQFnExactAddFactx0
import Derived.Test.YtfelabhakgcifaaQFnExactAddFactx2
import Derived.Test.YtfelabhakgcifaaQFnExactAddFactx4
import Derived.Test.YtfelabhakgcifaaQFnExactAddFactx5
import Derived.Test.YtfelabhakgcifaaQFnExactAddFactx6
namespace Go.Proofs.Ytfelabhakgcifaa.QFnExactAddFact
open Go.RowKit Go.Proofs.YtfelabhakgcifaaW.PrintWords Go.Proofs.YtfelabhakgcifaaW.PrintLast Go.Proofs.YtfelabhakgcifaaW.PrintMore
attribute [local go_sem] max2_int min2_int max_two min_two max_three min_three max_four min_four   -- for this text's walks alone
set_option linter.unusedVariables false
set_option linter.unusedSimpArgs false


/-! ### spec_AddFact: function 10 -/
def spec_AddFact.j0 : Nat → List (S37) → Bool → Int → List Int → Option ((List (S37)) × Bool)
 | 0, _, _, _, _ => none
 | k + 1, x1, x27, x208000, x208001 => if x27 = true then ((spec_l5All.f k x1).bind fun t211 => (some (t211, false))) else ((spec_l5Put.f k x1 x208000 x208001).bind fun t214 => (some (t214, true)))
def spec_AddFact.f (k : Nat) (l0_0 : List Int) (l1 : List (S37)) (a2_0 : Int) (l2_1 : List Int) : Option ((List (S37)) × Bool) := (spec_IsDatabase.f k l0_0 l1).bind fun t208 => (if t208 = true then ((spec_IsFact.f k l0_0 a2_0 l2_1).bind fun t209 => (if t209 = true then ((spec_HasFact.f k l1 a2_0 l2_1).bind fun t210 => (if t210 = true then (spec_AddFact.j0 k l1 true a2_0 l2_1) else (spec_AddFact.j0 k l1 (decide ((l1.length : Int) ≥ 24)) a2_0 l2_1))) else (spec_AddFact.j0 k l1 true a2_0 l2_1))) else (spec_AddFact.j0 k l1 true a2_0 l2_1))
theorem spec_AddFact.mono_l : ∀ k, (∀ y0 y1 y2 y3, LeO (spec_AddFact.j0 k y0 y1 y2 y3) (spec_AddFact.j0 (k + 1) y0 y1 y2 y3))
 | 0 => fun _ _ _ _ r h => by simp [spec_AddFact.j0] at h
 | k + 1 => by
  have ih0:=spec_AddFact.mono_l k
  ·
   intro y0 y1 y2 y3
   unfold spec_AddFact.j0
   repeat' first
   | (with_reducible exact ih0 _ _ _ _)
   | (with_reducible exact spec_HasFact.mono _ _ _ _)
   | (with_reducible exact spec_IsDatabase.mono _ _ _)
   | (with_reducible exact spec_IsFact.mono _ _ _ _)
   | (with_reducible exact spec_l5All.mono _ _)
   | (with_reducible exact spec_l5Put.mono _ _ _ _)
   | (with_reducible exact LeO.refl _)
   | (with_reducible exact LeO.none _)
   | (with_reducible refine LeO.ite ?_ ?_)
   | (with_reducible refine LeO.bind ?_ (fun _ => ?_))
   | exact ih0 _ _ _ _
   | exact LeO.none _
   | refine LeO.ite ?_ ?_
   | refine LeO.bind ?_ (fun _ => ?_)
theorem spec_AddFact.mono : ∀ a0 a1 a2 a3 k, LeO (spec_AddFact.f k a0 a1 a2 a3) (spec_AddFact.f (k + 1) a0 a1 a2 a3) := by
 intro a0 a1 a2 a3 k
 have ih0:=spec_AddFact.mono_l k
 unfold spec_AddFact.f
 repeat' first
   | (with_reducible exact ih0 _ _ _ _)
   | (with_reducible exact spec_HasFact.mono _ _ _ _)
   | (with_reducible exact spec_IsDatabase.mono _ _ _)
   | (with_reducible exact spec_IsFact.mono _ _ _ _)
   | (with_reducible exact spec_l5All.mono _ _)
   | (with_reducible exact spec_l5Put.mono _ _ _ _)
   | (with_reducible exact LeO.refl _)
   | (with_reducible exact LeO.none _)
   | (with_reducible refine LeO.ite ?_ ?_)
   | (with_reducible refine LeO.bind ?_ (fun _ => ?_))
   | exact ih0 _ _ _ _
   | exact LeO.none _
   | refine LeO.ite ?_ ?_
   | refine LeO.bind ?_ (fun _ => ?_)
set_option maxHeartbeats 8000000 in
set_option maxRecDepth 100000 in
theorem spec_AddFact.calls (k : Nat) (A0_0 : Option Addr) (c0_0 : Nat) (l0_0 : List Int) (A1 : Option Addr) (c1 : Nat) (l1 : List (S37)) (a2_0 : Int) (A2_1 : Option Addr) (c2_1 : Nat) (l2_1 : List Int) (r1 : List (S37)) (r2 : Bool) (w : World) (hr0_0 : Kd.C (Kd.int .i64) w A0_0 l0_0.length l0_0) (hc0_0 : l0_0.length ≤ c0_0) (hr1 : Kd.C k37 w A1 l1.length l1) (hc1 : l1.length ≤ c1) (hr2_1 : Kd.C (Kd.int .i64) w A2_1 l2_1.length l2_1) (hc2_1 : l2_1.length ≤ c2_1) (h : spec_AddFact.f k l0_0 l1 a2_0 l2_1 = some (r1, r2)) :
  Calls Try.prog 10 #[.agg #[.slice A0_0 l0_0.length c0_0], .slice A1 l1.length c1, .agg #[.int .i64 a2_0, .slice A2_1 l2_1.length c2_1]] w fun e w' => ∃ v0_ : Value, e = .returned (.tuple #[v0_, .bool r2]) ∧ Kd.S k37 37 w' w.heap.size (fun _ => True) v0_ r1 ∧ Below w.heap.size w w' := by
 have hu34:=Try.underlying34;have hu37:=Try.underlying37;have HR0_0:=zA hr0_0;have HC0_0:=zA hc0_0;clear hr0_0 hc0_0;have HR1:=zA hr1;have HC1:=zA hc1;clear hr1 hc1;have HR2_1:=zA hr2_1;have HC2_1:=zA hc2_1;clear hr2_1 hc2_1;have HB:=zA (Below.refl w.heap.size w)
 have H : ((spec_IsDatabase.f k l0_0 l1).bind fun t208 => (if t208 = true then ((spec_IsFact.f k l0_0 a2_0 l2_1).bind fun t209 => (if t209 = true then ((spec_HasFact.f k l1 a2_0 l2_1).bind fun t210 => (if t210 = true then (spec_AddFact.j0 k l1 true a2_0 l2_1) else (spec_AddFact.j0 k l1 (decide ((l1.length : Int) ≥ 24)) a2_0 l2_1))) else (spec_AddFact.j0 k l1 true a2_0 l2_1))) else (spec_AddFact.j0 k l1 true a2_0 l2_1))) = some (r1,r2):=h
 clear h;have HC4:=zA H;clear H
 go_enter Try.func10,Try.ntmps10
 go_upto_region 1 with (first|((with_reducible refine gate_dst (N:=3) rfl ?_);(try (refine gate_guard (by rfl) ?_;dsimp only));refine box_event ?hg (N:=3) ?hd (cs:=#[.slice A0_0 l0_0.length c0_0]) (t:=34) ?hr ?_;(case hd => rfl);(case hg => rfl);(case hr => first|(go_simp;done)|(go_simp;rfl));intro gb206 hg w5 hbox hb;have BK206:=zA (hbox);have GW206:=zA ((by rw [hg];exact (zT (zz HB)) : w.heap.size ≤ gb206));have GE206:=zA ((by rw [hg];exact (zT (zz HB)) : w.heap.size ≤ gb206));replace HB:=zA (zJb (zz HB) hb);clear hb hbox hg)|((with_reducible refine gate_dst (N:=5) rfl ?_);(try (refine gate_guard (by rfl) ?_;dsimp only));refine box_event ?hg (N:=5) ?hd (cs:=#[.int .i64 a2_0,.slice A2_1 l2_1.length c2_1]) (t:=37) ?hr ?_;(case hd => rfl);(case hg => rfl);(case hr => first|(go_simp;done)|(go_simp;rfl));intro gb207 hg w6 hbox hb;have BK207:=zA (hbox);have GW207:=zA ((by rw [hg];exact (zT (zz HB)) : w.heap.size ≤ gb207));have GE207:=zA ((by rw [hg];exact (zT (zz HB)) : w.heap.size ≤ gb207));replace HB:=zA (zJb (zz HB) hb);have NB206_207:=zA ((by rw [hg];exact Nat.ne_of_lt (blk_lt (g:=gb206) (o:=.cells #[.slice A0_0 l0_0.length c0_0] 34 (0,0)) (zx BK206)) : gb206 ≠ gb207));have NB207_206:=zA ((by rw [hg];exact Nat.ne_of_gt (blk_lt (g:=gb206) (o:=.cells #[.slice A0_0 l0_0.length c0_0] 34 (0,0)) (zx BK206)) : gb207 ≠ gb206));replace BK206:=zA (zQ (g:=gb206) (o:=.cells #[.slice A0_0 l0_0.length c0_0] 34 (0,0)) (zx BK206) hb);clear hb hbox hg))
 (try simp only [Act.put,zO,zEb,zFb])
 go_cut [27] (fun v27 wc => ∃ (kq : Nat) (x27_3 : Bool),v27 = .bool x27_3 ∧ Aside0 (spec_AddFact.j0 kq l1 x27_3 a2_0 l2_1 = some (r1,r2)) ∧ Aside0 (kq ≤ k) ∧ Aside0 (wc.heap[gb206]? = some (.cells #[(.slice A0_0 l0_0.length c0_0)] 34 (0,0))) ∧ Aside0 (wc.heap[gb207]? = some (.cells #[.int .i64 a2_0,(.slice A2_1 l2_1.length c2_1)] 37 (0,0))) ∧ Aside0 (Below w.heap.size w wc))
 case first =>
  have H:=HC4.out;clear HC4;replace H:=Option.bind_eq_some_iff.mp H;obtain ⟨t208,A70,H⟩:=H;(try dsimp only at H);have A7:=zA A70;clear A70
  by_cases c8 : t208 = true
  ·
   subst c8
   rw [if_pos rfl] at H;replace H:=Option.bind_eq_some_iff.mp H;obtain ⟨t209,A90,H⟩:=H;(try dsimp only at H);have A9:=zA A90;clear A90
   by_cases c10 : t209 = true
   ·
    subst c10
    rw [if_pos rfl] at H;replace H:=Option.bind_eq_some_iff.mp H;obtain ⟨t210,A110,H⟩:=H;(try dsimp only at H);have A11:=zA A110;clear A110
    by_cases c12 : t210 = true
    ·
     subst c12
     rw [if_pos rfl] at H
     have H':=zA H
     clear H;have hnb13:=NB206_207.out;have hnc13:=NB207_206.out;have hcz14_0:=zc (.slice A0_0 l0_0.length c0_0) BK206 0 rfl;have hfz14_0:=blk_frozen BK206.out 0
     go_wp2_with (first|((with_reducible refine gate_callee (f:=26) rfl ?_);refine goesL_ (some 10) rfl rfl Try.func26 (by kernel_rfl) rfl #[.agg #[.slice A0_0 l0_0.length c0_0],.slice A1 l1.length c1] rfl (by (try simp only [zCb,zMb,zNb]);first|done|rfl|(simp only [zLb,zDb];rfl)) ?_;(with_reducible refine (spec_IsDatabase.calls k _ _ l0_0 _ _ l1 true _ ?side1 ?side2 ?side3 ?side4 A7.out).mono ?_);(case side1 => repeat (first|exact (zKb HR0_0.out HB.out)|(with_reducible refine zBb ?_ _)|(with_reducible refine zAb ?_ _)|(with_reducible refine zX ?_)));(case side2 => exact HC0_0.out);(case side3 => repeat (first|exact (zKb HR1.out HB.out)|(with_reducible refine zBb ?_ _)|(with_reducible refine zAb ?_ _)|(with_reducible refine zX ?_)));(case side4 => exact HC1.out);rintro e w15 ⟨rfl,hb⟩;refine ⟨_,rfl,?_⟩;replace BK206:=zA (zQ (g:=gb206) (o:=.cells #[.slice A0_0 l0_0.length c0_0] 34 (0,0)) (zx BK206) hb);replace BK207:=zA (zQ (g:=gb207) (o:=.cells #[.int .i64 a2_0,.slice A2_1 l2_1.length c2_1] 37 (0,0)) (zx BK207) hb);replace HB:=zA (zJb (zz HB) hb);(try clear hb);(try clear hb2);(try clear hk);(try clear hi);have hcz16_0:=zc (.slice A0_0 l0_0.length c0_0) BK206 0 rfl;have hfz16_0:=blk_frozen BK206.out 0;have hcz17_0:=zc (.int .i64 a2_0) BK207 0 rfl;have hcz17_1:=zc (.slice A2_1 l2_1.length c2_1) BK207 1 rfl;have hfz17_0:=blk_frozen BK207.out 0;have hfz17_1:=blk_frozen BK207.out 1)|(go_at_call 33;(with_reducible refine (spec_IsFact.calls k _ _ l0_0 a2_0 _ _ l2_1 true _ ?side1 ?side2 ?side3 ?side4 A9.out).mono ?_);(case side1 => repeat (first|exact (zKb HR0_0.out HB.out)|(with_reducible refine zBb ?_ _)|(with_reducible refine zAb ?_ _)|(with_reducible refine zX ?_)));(case side2 => exact HC0_0.out);(case side3 => repeat (first|exact (zKb HR2_1.out HB.out)|(with_reducible refine zBb ?_ _)|(with_reducible refine zAb ?_ _)|(with_reducible refine zX ?_)));(case side4 => exact HC2_1.out);rintro e w18 ⟨rfl,hb⟩;replace BK206:=zA (zQ (g:=gb206) (o:=.cells #[.slice A0_0 l0_0.length c0_0] 34 (0,0)) (zx BK206) hb);replace BK207:=zA (zQ (g:=gb207) (o:=.cells #[.int .i64 a2_0,.slice A2_1 l2_1.length c2_1] 37 (0,0)) (zx BK207) hb);replace HB:=zA (zJb (zz HB) hb);(try clear hb);(try clear hb2);(try clear hk);(try clear hi);have hcz19_0:=zc (.int .i64 a2_0) BK207 0 rfl;have hcz19_1:=zc (.slice A2_1 l2_1.length c2_1) BK207 1 rfl;have hfz19_0:=blk_frozen BK207.out 0;have hfz19_1:=blk_frozen BK207.out 1)|(go_at_call 48;(with_reducible refine (spec_HasFact.calls k _ _ l1 a2_0 _ _ l2_1 true _ ?side1 ?side2 ?side3 ?side4 A11.out).mono ?_);(case side1 => repeat (first|exact (zKb HR1.out HB.out)|(with_reducible refine zBb ?_ _)|(with_reducible refine zAb ?_ _)|(with_reducible refine zX ?_)));(case side2 => exact HC1.out);(case side3 => repeat (first|exact (zKb HR2_1.out HB.out)|(with_reducible refine zBb ?_ _)|(with_reducible refine zAb ?_ _)|(with_reducible refine zX ?_)));(case side4 => exact HC2_1.out);rintro e w20 ⟨rfl,hb⟩;replace BK206:=zA (zQ (g:=gb206) (o:=.cells #[.slice A0_0 l0_0.length c0_0] 34 (0,0)) (zx BK206) hb);replace BK207:=zA (zQ (g:=gb207) (o:=.cells #[.int .i64 a2_0,.slice A2_1 l2_1.length c2_1] 37 (0,0)) (zx BK207) hb);replace HB:=zA (zJb (zz HB) hb);(try clear hb);(try clear hb2);(try clear hk);(try clear hi)))
     go_meet
     case rel => exact ⟨_,(true),za,H',⟨by first|omega|exact Nat.le_refl _⟩,⟨zx BK206⟩,⟨zx BK207⟩,⟨zz HB⟩⟩
    ·
     replace c12:=Bool.eq_false_iff.mpr c12
     subst c12
     have H1 : (spec_AddFact.j0 k l1 (decide ((l1.length : Int) ≥ 24)) a2_0 l2_1) = some (r1,r2):=by rw [if_neg (show ¬ (false = true) by decide)] at H;exact H
     clear H;have H:=H1;clear H1
     have H':=zA H
     clear H;have hnb21:=NB206_207.out;have hnc21:=NB207_206.out;have hcz22_0:=zc (.slice A0_0 l0_0.length c0_0) BK206 0 rfl;have hfz22_0:=blk_frozen BK206.out 0
     go_wp2_with (first|((with_reducible refine gate_callee (f:=26) rfl ?_);refine goesL_ (some 10) rfl rfl Try.func26 (by kernel_rfl) rfl #[.agg #[.slice A0_0 l0_0.length c0_0],.slice A1 l1.length c1] rfl (by (try simp only [zCb,zMb,zNb]);first|done|rfl|(simp only [zLb,zDb];rfl)) ?_;(with_reducible refine (spec_IsDatabase.calls k _ _ l0_0 _ _ l1 true _ ?side1 ?side2 ?side3 ?side4 A7.out).mono ?_);(case side1 => repeat (first|exact (zKb HR0_0.out HB.out)|(with_reducible refine zBb ?_ _)|(with_reducible refine zAb ?_ _)|(with_reducible refine zX ?_)));(case side2 => exact HC0_0.out);(case side3 => repeat (first|exact (zKb HR1.out HB.out)|(with_reducible refine zBb ?_ _)|(with_reducible refine zAb ?_ _)|(with_reducible refine zX ?_)));(case side4 => exact HC1.out);rintro e w23 ⟨rfl,hb⟩;refine ⟨_,rfl,?_⟩;replace BK206:=zA (zQ (g:=gb206) (o:=.cells #[.slice A0_0 l0_0.length c0_0] 34 (0,0)) (zx BK206) hb);replace BK207:=zA (zQ (g:=gb207) (o:=.cells #[.int .i64 a2_0,.slice A2_1 l2_1.length c2_1] 37 (0,0)) (zx BK207) hb);replace HB:=zA (zJb (zz HB) hb);(try clear hb);(try clear hb2);(try clear hk);(try clear hi);have hcz24_0:=zc (.slice A0_0 l0_0.length c0_0) BK206 0 rfl;have hfz24_0:=blk_frozen BK206.out 0;have hcz25_0:=zc (.int .i64 a2_0) BK207 0 rfl;have hcz25_1:=zc (.slice A2_1 l2_1.length c2_1) BK207 1 rfl;have hfz25_0:=blk_frozen BK207.out 0;have hfz25_1:=blk_frozen BK207.out 1)|(go_at_call 33;(with_reducible refine (spec_IsFact.calls k _ _ l0_0 a2_0 _ _ l2_1 true _ ?side1 ?side2 ?side3 ?side4 A9.out).mono ?_);(case side1 => repeat (first|exact (zKb HR0_0.out HB.out)|(with_reducible refine zBb ?_ _)|(with_reducible refine zAb ?_ _)|(with_reducible refine zX ?_)));(case side2 => exact HC0_0.out);(case side3 => repeat (first|exact (zKb HR2_1.out HB.out)|(with_reducible refine zBb ?_ _)|(with_reducible refine zAb ?_ _)|(with_reducible refine zX ?_)));(case side4 => exact HC2_1.out);rintro e w26 ⟨rfl,hb⟩;replace BK206:=zA (zQ (g:=gb206) (o:=.cells #[.slice A0_0 l0_0.length c0_0] 34 (0,0)) (zx BK206) hb);replace BK207:=zA (zQ (g:=gb207) (o:=.cells #[.int .i64 a2_0,.slice A2_1 l2_1.length c2_1] 37 (0,0)) (zx BK207) hb);replace HB:=zA (zJb (zz HB) hb);(try clear hb);(try clear hb2);(try clear hk);(try clear hi);have hcz27_0:=zc (.int .i64 a2_0) BK207 0 rfl;have hcz27_1:=zc (.slice A2_1 l2_1.length c2_1) BK207 1 rfl;have hfz27_0:=blk_frozen BK207.out 0;have hfz27_1:=blk_frozen BK207.out 1)|(go_at_call 48;(with_reducible refine (spec_HasFact.calls k _ _ l1 a2_0 _ _ l2_1 false _ ?side1 ?side2 ?side3 ?side4 A11.out).mono ?_);(case side1 => repeat (first|exact (zKb HR1.out HB.out)|(with_reducible refine zBb ?_ _)|(with_reducible refine zAb ?_ _)|(with_reducible refine zX ?_)));(case side2 => exact HC1.out);(case side3 => repeat (first|exact (zKb HR2_1.out HB.out)|(with_reducible refine zBb ?_ _)|(with_reducible refine zAb ?_ _)|(with_reducible refine zX ?_)));(case side4 => exact HC2_1.out);rintro e w28 ⟨rfl,hb⟩;replace BK206:=zA (zQ (g:=gb206) (o:=.cells #[.slice A0_0 l0_0.length c0_0] 34 (0,0)) (zx BK206) hb);replace BK207:=zA (zQ (g:=gb207) (o:=.cells #[.int .i64 a2_0,.slice A2_1 l2_1.length c2_1] 37 (0,0)) (zx BK207) hb);replace HB:=zA (zJb (zz HB) hb);(try clear hb);(try clear hb2);(try clear hk);(try clear hi)))
     go_meet
     case rel => exact ⟨_,(decide ((l1.length : Int) ≥ 24)),za,H',⟨by first|omega|exact Nat.le_refl _⟩,⟨zx BK206⟩,⟨zx BK207⟩,⟨zz HB⟩⟩
   ·
    replace c10:=Bool.eq_false_iff.mpr c10
    subst c10
    have H1 : (spec_AddFact.j0 k l1 true a2_0 l2_1) = some (r1,r2):=by rw [if_neg (show ¬ (false = true) by decide)] at H;exact H
    clear H;have H:=H1;clear H1
    have H':=zA H
    clear H;have hnb29:=NB206_207.out;have hnc29:=NB207_206.out;have hcz30_0:=zc (.slice A0_0 l0_0.length c0_0) BK206 0 rfl;have hfz30_0:=blk_frozen BK206.out 0
    go_wp2_with (first|((with_reducible refine gate_callee (f:=26) rfl ?_);refine goesL_ (some 10) rfl rfl Try.func26 (by kernel_rfl) rfl #[.agg #[.slice A0_0 l0_0.length c0_0],.slice A1 l1.length c1] rfl (by (try simp only [zCb,zMb,zNb]);first|done|rfl|(simp only [zLb,zDb];rfl)) ?_;(with_reducible refine (spec_IsDatabase.calls k _ _ l0_0 _ _ l1 true _ ?side1 ?side2 ?side3 ?side4 A7.out).mono ?_);(case side1 => repeat (first|exact (zKb HR0_0.out HB.out)|(with_reducible refine zBb ?_ _)|(with_reducible refine zAb ?_ _)|(with_reducible refine zX ?_)));(case side2 => exact HC0_0.out);(case side3 => repeat (first|exact (zKb HR1.out HB.out)|(with_reducible refine zBb ?_ _)|(with_reducible refine zAb ?_ _)|(with_reducible refine zX ?_)));(case side4 => exact HC1.out);rintro e w31 ⟨rfl,hb⟩;refine ⟨_,rfl,?_⟩;replace BK206:=zA (zQ (g:=gb206) (o:=.cells #[.slice A0_0 l0_0.length c0_0] 34 (0,0)) (zx BK206) hb);replace BK207:=zA (zQ (g:=gb207) (o:=.cells #[.int .i64 a2_0,.slice A2_1 l2_1.length c2_1] 37 (0,0)) (zx BK207) hb);replace HB:=zA (zJb (zz HB) hb);(try clear hb);(try clear hb2);(try clear hk);(try clear hi);have hcz32_0:=zc (.slice A0_0 l0_0.length c0_0) BK206 0 rfl;have hfz32_0:=blk_frozen BK206.out 0;have hcz33_0:=zc (.int .i64 a2_0) BK207 0 rfl;have hcz33_1:=zc (.slice A2_1 l2_1.length c2_1) BK207 1 rfl;have hfz33_0:=blk_frozen BK207.out 0;have hfz33_1:=blk_frozen BK207.out 1)|(go_at_call 33;(with_reducible refine (spec_IsFact.calls k _ _ l0_0 a2_0 _ _ l2_1 false _ ?side1 ?side2 ?side3 ?side4 A9.out).mono ?_);(case side1 => repeat (first|exact (zKb HR0_0.out HB.out)|(with_reducible refine zBb ?_ _)|(with_reducible refine zAb ?_ _)|(with_reducible refine zX ?_)));(case side2 => exact HC0_0.out);(case side3 => repeat (first|exact (zKb HR2_1.out HB.out)|(with_reducible refine zBb ?_ _)|(with_reducible refine zAb ?_ _)|(with_reducible refine zX ?_)));(case side4 => exact HC2_1.out);rintro e w34 ⟨rfl,hb⟩;replace BK206:=zA (zQ (g:=gb206) (o:=.cells #[.slice A0_0 l0_0.length c0_0] 34 (0,0)) (zx BK206) hb);replace BK207:=zA (zQ (g:=gb207) (o:=.cells #[.int .i64 a2_0,.slice A2_1 l2_1.length c2_1] 37 (0,0)) (zx BK207) hb);replace HB:=zA (zJb (zz HB) hb);(try clear hb);(try clear hb2);(try clear hk);(try clear hi)))
    go_meet
    case rel => exact ⟨_,(true),za,H',⟨by first|omega|exact Nat.le_refl _⟩,⟨zx BK206⟩,⟨zx BK207⟩,⟨zz HB⟩⟩
  ·
   replace c8:=Bool.eq_false_iff.mpr c8
   subst c8
   have H1 : (spec_AddFact.j0 k l1 true a2_0 l2_1) = some (r1,r2):=by rw [if_neg (show ¬ (false = true) by decide)] at H;exact H
   clear H;have H:=H1;clear H1
   have H':=zA H
   clear H;have hnb35:=NB206_207.out;have hnc35:=NB207_206.out;have hcz36_0:=zc (.slice A0_0 l0_0.length c0_0) BK206 0 rfl;have hfz36_0:=blk_frozen BK206.out 0
   go_wp2_with (first|((with_reducible refine gate_callee (f:=26) rfl ?_);refine goesL_ (some 10) rfl rfl Try.func26 (by kernel_rfl) rfl #[.agg #[.slice A0_0 l0_0.length c0_0],.slice A1 l1.length c1] rfl (by (try simp only [zCb,zMb,zNb]);first|done|rfl|(simp only [zLb,zDb];rfl)) ?_;(with_reducible refine (spec_IsDatabase.calls k _ _ l0_0 _ _ l1 false _ ?side1 ?side2 ?side3 ?side4 A7.out).mono ?_);(case side1 => repeat (first|exact (zKb HR0_0.out HB.out)|(with_reducible refine zBb ?_ _)|(with_reducible refine zAb ?_ _)|(with_reducible refine zX ?_)));(case side2 => exact HC0_0.out);(case side3 => repeat (first|exact (zKb HR1.out HB.out)|(with_reducible refine zBb ?_ _)|(with_reducible refine zAb ?_ _)|(with_reducible refine zX ?_)));(case side4 => exact HC1.out);rintro e w37 ⟨rfl,hb⟩;refine ⟨_,rfl,?_⟩;replace BK206:=zA (zQ (g:=gb206) (o:=.cells #[.slice A0_0 l0_0.length c0_0] 34 (0,0)) (zx BK206) hb);replace BK207:=zA (zQ (g:=gb207) (o:=.cells #[.int .i64 a2_0,.slice A2_1 l2_1.length c2_1] 37 (0,0)) (zx BK207) hb);replace HB:=zA (zJb (zz HB) hb);(try clear hb);(try clear hb2);(try clear hk);(try clear hi)))
   go_meet
   case rel => exact ⟨_,(true),za,H',⟨by first|omega|exact Nat.le_refl _⟩,⟨zx BK206⟩,⟨zx BK207⟩,⟨zz HB⟩⟩
 case rest =>
  clear HC4;(try clear c1);(try clear c2);(try clear p2);(try clear c3);(try clear c8);(try clear c10);(try clear c12);(try clear c13);(try clear c21);(try clear c26);(try clear c29);(try clear c35);(try clear hcz14_0);(try clear hcz16_0);(try clear hcz17_0);(try clear hcz17_1);(try clear hcz19_0);(try clear hcz19_1);(try clear hcz22_0);(try clear hcz24_0);(try clear hcz25_0);(try clear hcz25_1);(try clear hcz27_0);(try clear hcz27_1);(try clear hcz30_0);(try clear hcz32_0);(try clear hcz33_0);(try clear hcz33_1);(try clear hcz36_0);(try clear hfz14_0);(try clear hfz16_0);(try clear hfz17_0);(try clear hfz17_1);(try clear hfz19_0);(try clear hfz19_1);(try clear hfz22_0);(try clear hfz24_0);(try clear hfz25_0);(try clear hfz25_1);(try clear hfz27_0);(try clear hfz27_1);(try clear hfz30_0);(try clear hfz32_0);(try clear hfz33_0);(try clear hfz33_1);(try clear hfz36_0);obtain ⟨kq,x27_3,rfl,HA,HJ3,BK206,BK207,HB⟩:=hcut
  cases kq with
  | zero => exact absurd HA.out (by simp [spec_AddFact.j0])
  | succ kj3 =>
   have H:=HA.out;clear HA;simp only [spec_AddFact.j0] at H
   by_cases c38 : x27_3 = true
   ·
    subst c38
    rw [if_pos rfl] at H;replace H:=Option.bind_eq_some_iff.mp H;obtain ⟨t211,A390,H⟩:=H;(try dsimp only at H);have A39:=zA A390;clear A390;simp only [Option.some.injEq,Prod.mk.injEq] at H;obtain ⟨rfl,rfl⟩:=H
    go_wp2_with (first|((with_reducible refine gate_callee (f:=49) rfl ?_);refine goesL_ (some 29) rfl rfl Try.func49 (by kernel_rfl) rfl #[.slice A1 l1.length c1] rfl (by (try simp only [zCb,zMb,zNb]);first|done|rfl|(simp only [zLb,zDb];rfl)) ?_;(with_reducible refine (spec_l5All.calls kj3 _ _ l1 t211 _ ?side1 ?side2 A39.out).mono ?_);(case side1 => repeat (first|exact (zKb HR1.out HB.out)|(with_reducible refine zBb ?_ _)|(with_reducible refine zAb ?_ _)|(with_reducible refine zX ?_)));(case side2 => exact HC1.out);rintro e w40 ⟨v212,rfl,ho0,hb⟩;refine ⟨_,rfl,?_⟩;have HO213:=zA (zIb (Kd.S_newB ho0 (g:=gb207) (o:=.cells #[.int .i64 a2_0,.slice A2_1 l2_1.length c2_1] 37 (0,0)) (zx BK207)) (zT (zz HB)));replace BK206:=zA (zQ (g:=gb206) (o:=.cells #[.slice A0_0 l0_0.length c0_0] 34 (0,0)) (zx BK206) hb);replace BK207:=zA (zQ (g:=gb207) (o:=.cells #[.int .i64 a2_0,.slice A2_1 l2_1.length c2_1] 37 (0,0)) (zx BK207) hb);replace HB:=zA (zJb (zz HB) hb);(try clear hb);(try clear hb2);(try clear hk);(try clear hi);(try clear ho0)))
    go_ret2
    exact ⟨_,by first|rfl|(simp [errW_none,errW_some] <;> rfl)|(simp [*,errW_none,errW_some] <;> rfl),by (with_reducible repeat (first|apply zM|apply zL|apply zN));exact zS HO213.out (fun _ hk => trivial),zz HB⟩
   ·
    replace c38:=Bool.eq_false_iff.mpr c38
    subst c38
    have H1 : ((spec_l5Put.f kj3 l1 a2_0 l2_1).bind fun t214 => (some (t214,true))) = some (r1,r2):=by rw [if_neg (show ¬ (false = true) by decide)] at H;exact H
    clear H;have H:=H1;clear H1;replace H:=Option.bind_eq_some_iff.mp H;obtain ⟨t214,A410,H⟩:=H;(try dsimp only at H);have A41:=zA A410;clear A410;simp only [Option.some.injEq,Prod.mk.injEq] at H;obtain ⟨rfl,rfl⟩:=H;have hnb42:=NB207_206.out;have hnc42:=NB206_207.out;have hcz43_0:=zc (.int .i64 a2_0) BK207 0 rfl;have hcz43_1:=zc (.slice A2_1 l2_1.length c2_1) BK207 1 rfl;have hfz43_0:=blk_frozen BK207.out 0;have hfz43_1:=blk_frozen BK207.out 1
    go_wp2_with (first|((with_reducible refine gate_callee (f:=50) rfl ?_);refine goesL_ (some 32) rfl rfl Try.func50 (by kernel_rfl) rfl #[.slice A1 l1.length c1,.agg #[.int .i64 a2_0,.slice A2_1 l2_1.length c2_1]] rfl (by (try simp only [zCb,zMb,zNb]);first|done|rfl|(simp only [zLb,zDb];rfl)) ?_;(with_reducible refine (spec_l5Put.calls kj3 _ _ l1 a2_0 _ _ l2_1 t214 _ ?side1 ?side2 ?side3 ?side4 A41.out).mono ?_);(case side1 => repeat (first|exact (zKb HR1.out HB.out)|(with_reducible refine zBb ?_ _)|(with_reducible refine zAb ?_ _)|(with_reducible refine zX ?_)));(case side2 => exact HC1.out);(case side3 => repeat (first|exact (zKb HR2_1.out HB.out)|(with_reducible refine zBb ?_ _)|(with_reducible refine zAb ?_ _)|(with_reducible refine zX ?_)));(case side4 => exact HC2_1.out);rintro e w44 ⟨v215,rfl,ho0,hb⟩;refine ⟨_,rfl,?_⟩;have HO216:=zA (zIb (Kd.S_newB ho0 (g:=gb207) (o:=.cells #[.int .i64 a2_0,.slice A2_1 l2_1.length c2_1] 37 (0,0)) (zx BK207)) (zT (zz HB)));replace BK206:=zA (zQ (g:=gb206) (o:=.cells #[.slice A0_0 l0_0.length c0_0] 34 (0,0)) (zx BK206) hb);replace BK207:=zA (zQ (g:=gb207) (o:=.cells #[.int .i64 a2_0,.slice A2_1 l2_1.length c2_1] 37 (0,0)) (zx BK207) hb);replace HB:=zA (zJb (zz HB) hb);(try clear hb);(try clear hb2);(try clear hk);(try clear hi);(try clear ho0)))
    go_ret2
    exact ⟨_,by first|rfl|(simp [errW_none,errW_some] <;> rfl)|(simp [*,errW_none,errW_some] <;> rfl),by (with_reducible repeat (first|apply zM|apply zL|apply zN));exact zS HO216.out (fun _ hk => trivial),zz HB⟩

/-! ### laws_toIntS: function 44 -/
def laws_toIntS.l0 : Nat → List Int → List Int → Int → Option (List Int)
 | 0, _, _, _ => none
 | k + 1, x0, x3, x4 => if x4 < (x0.length : Int) then (if 0 ≤ x4 then (if x4 < (x3.length : Int) then (laws_toIntS.l0 k x0 (x3.set (x4 : Int).toNat (rd x0 x4)) (wrap64 (x4 + 1))) else (none)) else (none)) else (some x3)
def laws_toIntS.f (k : Nat) (l0 : List Int) : Option (List Int) := if 0 ≤ (l0.length : Int) then (if ((l0.length : Int) : Int).toNat ≤ 35184372088832 then (laws_toIntS.l0 k l0 (List.replicate ((l0.length : Int) : Int).toNat 0) 0) else (none)) else (none)
theorem laws_toIntS.mono_l : ∀ k, (∀ y0 y1 y2, LeO (laws_toIntS.l0 k y0 y1 y2) (laws_toIntS.l0 (k + 1) y0 y1 y2))
 | 0 => fun _ _ _ r h => by simp [laws_toIntS.l0] at h
 | k + 1 => by
  have ih0:=laws_toIntS.mono_l k
  ·
   intro y0 y1 y2
   unfold laws_toIntS.l0
   repeat' first
   | (with_reducible exact ih0 _ _ _)
   | (with_reducible exact LeO.refl _)
   | (with_reducible exact LeO.none _)
   | (with_reducible refine LeO.ite ?_ ?_)
   | (with_reducible refine LeO.bind ?_ (fun _ => ?_))
   | exact ih0 _ _ _
   | exact LeO.none _
   | refine LeO.ite ?_ ?_
   | refine LeO.bind ?_ (fun _ => ?_)
theorem laws_toIntS.mono : ∀ a0 k, LeO (laws_toIntS.f k a0) (laws_toIntS.f (k + 1) a0) := by
 intro a0 k
 have ih0:=laws_toIntS.mono_l k
 unfold laws_toIntS.f
 repeat' first
   | (with_reducible exact ih0 _ _ _)
   | (with_reducible exact LeO.refl _)
   | (with_reducible exact LeO.none _)
   | (with_reducible refine LeO.ite ?_ ?_)
   | (with_reducible refine LeO.bind ?_ (fun _ => ?_))
   | exact ih0 _ _ _
   | exact LeO.none _
   | refine LeO.ite ?_ ?_
   | refine LeO.bind ?_ (fun _ => ?_)
set_option maxHeartbeats 8000000 in
set_option maxRecDepth 100000 in
theorem laws_toIntS.calls (k : Nat) (A0 : Option Addr) (c0 : Nat) (l0 : List Int) (r : List Int) (w : World) (hr0 : Kd.C (Kd.int .i64) w A0 l0.length l0) (hc0 : l0.length ≤ c0) (h : laws_toIntS.f k l0 = some r) :
  Calls Try.prog 44 #[.slice A0 l0.length c0] w fun e w' => ∃ v0_ : Value, e = .returned (v0_) ∧ Kd.R (Kd.int .i64) 3 w' w.heap.size (fun _ => True) v0_ r ∧ Below w.heap.size w w' := by
 have HR0:=zA hr0;have HC0:=zA hc0;clear hr0 hc0;have HB:=zA (Below.refl w.heap.size w)
 have H : (if 0 ≤ (l0.length : Int) then (if ((l0.length : Int) : Int).toNat ≤ 35184372088832 then (laws_toIntS.l0 k l0 (List.replicate ((l0.length : Int) : Int).toNat 0) 0) else (none)) else (none)) = some r:=h
 clear h
 by_cases c2 : 0 ≤ (l0.length : Int)
 ·
  rw [if_pos c2] at H;have c2b0:=eq_true c2;have c2b1:=decide_eq_true c2;clear c2
  by_cases c3 : ((l0.length : Int) : Int).toNat ≤ 35184372088832
  ·
   rw [if_pos c3] at H;have c3b0:=eq_true c3;have c3b1:=decide_eq_true c3;clear c3;obtain ⟨y217,hy217⟩ : ∃ y_ : List Int,y_ = (List.replicate ((l0.length : Int) : Int).toNat 0):=⟨_,rfl⟩
   replace H : (laws_toIntS.l0 k l0 y217 0) = some r:=by first|(rw [hy217];with_reducible exact H)|(have H2_:=(Option.bind_some _ _).symm.trans H;rw [hy217];with_reducible exact H2_)|(have H2_:=(Option.bind_some _ _).symm.trans H;with_reducible exact H2_)|with_reducible exact H|(rw [hy217];exact H)|exact H
   have Ny217:=zA hy217;clear hy217
   have H':=zA H
   clear H
   go_enter Try.func44,Try.ntmps44
   go_wp2_with (first|((with_reducible refine gate_dst (N:=7) rfl ?_);refine Kd.R_make (Kd.int .i64) _ 3 rfl (N:=7) rfl 22 _ _ rfl (l0.length : Int) rfl rfl Try.underlying22 (.int .i64 0) 8 info3 rfl (by decide) (by omega) 0 (ok:=fun _ => True) (okp:=fun _ => True) rfl (fun _ hk => hk) trivial (zXb ze) (Nat.le_trans (Nat.mul_le_mul_right _ (zXb ze : (l0.length : Int).toNat ≤ 35184372088832)) (by omega)) (Below.refl _ _) (Nat.le_refl _) ?_;intro v218 w4 ho5 hb hg_ hnew_;clear hg_ hnew_;(first|rw [← Ny217.out] at ho5|(simp only [Int.reduceToNat] at ho5;rw [← Ny217.out] at ho5));have HO219:=zA (zHb ho5 (zT (zz HB)));replace HB:=zA (zJb (zz HB) hb);clear hb ho5))
   go_loopg [4] k (fun kq v4 w' => ∃ (x3_1 : List Int) (x4_1 : Int),v4 = .int .i64 x4_1 ∧ Aside0 (laws_toIntS.l0 kq l0 x3_1 x4_1 = some r) ∧ Aside0 (kq ≤ k) ∧ Aside0 (Kd.R (Kd.int .i64) 3 w' w.heap.size (fun _ => True) v218 x3_1) ∧ Aside0 (Below w.heap.size w w'))
   case atStart => exact ⟨(y217),(0),za,H',⟨Nat.le_refl _⟩,⟨zq HO219⟩,⟨zz HB⟩⟩
   case round =>
    clear H';(try clear c2);(try clear c2b0);(try clear c2b1);(try clear p2);(try clear c3);(try clear c3b0);(try clear c3b1);(try clear c4);obtain ⟨x3_1,x4_1,rfl,HA,HK1,HO_3,HB⟩:=hrel
    cases gk with
    | zero => exact absurd HA.out (by simp [laws_toIntS.l0])
    | succ k1 =>
     have H:=HA.out;clear HA;simp only [laws_toIntS.l0] at H
     by_cases c6 : x4_1 < (l0.length : Int)
     ·
      rw [if_pos c6] at H;have c6b0:=decide_eq_true c6;clear c6
      by_cases c7 : 0 ≤ x4_1
      ·
       rw [if_pos c7] at H;have c7b0:=decide_eq_true c7;clear c7
       by_cases c8 : x4_1 < (x3_1.length : Int)
       ·
        rw [if_pos c8] at H;have c8b0:=decide_eq_true c8;clear c8;obtain ⟨y221,hy221⟩ : ∃ y_ : List Int,y_ = (x3_1.set (x4_1 : Int).toNat (rd l0 x4_1)):=⟨_,rfl⟩
        replace H : (laws_toIntS.l0 k1 l0 y221 (wrap64 (x4_1 + 1))) = some r:=by first|(rw [hy221];with_reducible exact H)|(have H2_:=(Option.bind_some _ _).symm.trans H;rw [hy221];with_reducible exact H2_)|(have H2_:=(Option.bind_some _ _).symm.trans H;with_reducible exact H2_)|with_reducible exact H|(rw [hy221];exact H)|exact H
        have Ny221:=zA hy221;clear hy221
        have H':=zA H
        clear H;have p220 : 0 ≤ (x4_1 : Int):=zXb ze;have q220 : x4_1 < (l0.length : Int):=zXb ze;obtain ⟨ad220,e220,hx220_0⟩:=Kd.at_int HR0.out x4_1 p220 q220
        cases e220
        replace hx220_0:=(HB.out.cell (World.block_lt_of_cell? w _ hx220_0)).trans hx220_0;replace p220:=eq_true p220;replace q220:=eq_true q220;have p9 : 0 ≤ (x4_1 : Int):=zXb ze;have q9 : (x4_1 : Int) < ((x3_1.length : Int) : Int):=zXb ze;obtain ⟨go9,co9,eo9,gb9,gl9,cl9,HG9⟩:=Kd.R_form HO_3.out (by omega)
        (first|cases eo9|(injection eo9 with ea_ en_ ec_;(first|subst ea_|(injection ea_ with ea_;subst ea_));subst ec_;clear en_))
        have GB9:=zA gb9;have GG9:=zA HG9;clear gb9 gl9 HG9;obtain ⟨hx9_0,hf9_0⟩:=Kd.R_celln 0 HO_3.out (x4_1 : Int) p9 q9;replace p9:=eq_true p9;replace q9:=eq_true q9;have HP10:=Kd.R_putg HO_3.out (x4_1 : Int) (rd l0 x4_1)
        go_wp2_with (first|((with_reducible refine gate_store (t:=3) (p:=20) rfl ?_);refine store_event (t:=3) (p:=20) (v:=?vo_w11) (w1:=(wr.setCell ⟨go9,(x4_1 : Int).toNat,none⟩ (.int .i64 (rd l0 x4_1)))) ?hg ?ho ?hn ?hr ?_;(case ho => rfl);(case hg => rfl);(case hn => rfl);(case hr => first|(go_simp;done)|(go_simp;rfl));intro w11 hw;have hg : wr.grownBy w11 (some go9):=(by rw [hw];exact HP10.2);have hp_ : Kd.R (Kd.int .i64) 3 w11 w.heap.size (fun _ => True) (.slice (some ⟨go9,0,none⟩) x3_1.length co9) y221:=(by rw [hw,Ny221.out];exact HP10.1);clear HP10;replace HO_3:=zA (hp_);replace HB:=zA ((by rw [hw];exact zB (HB.out) GB9.out : Below w.heap.size w w11));clear hg hw hp_))
        go_roundg k1
        case measure => have:=HK1.out;omega
        case rel => exact ⟨(y221),(wrap64 (x4_1 + 1)),za,H',⟨by have:=HK1.out;omega⟩,⟨zq HO_3⟩,⟨zz HB⟩⟩
       ·
        rw [if_neg c8] at H
        exact absurd H (by simp)
      ·
       rw [if_neg c7] at H
       exact absurd H (by simp)
     ·
      rw [if_neg c6] at H;have c6b0:=decide_eq_false c6;clear c6
      obtain rfl:=Option.some.inj H
      go_wp2
      go_ret
      exact ⟨_,by first|rfl|(simp [errW_none,errW_some] <;> rfl)|(simp [*,errW_none,errW_some] <;> rfl),zq HO_3,zz HB⟩
  ·
   rw [if_neg c3] at H
   exact absurd H (by simp)
 ·
  rw [if_neg c2] at H
  exact absurd H (by simp)

/-! ### laws_toSchema: function 11 -/
def laws_toSchema.f (k : Nat) (l0_0 : List Int) : Option (List Int) := (laws_toIntS.f k l0_0).bind fun t225 => (some t225)
theorem laws_toSchema.mono : ∀ a0 k, LeO (laws_toSchema.f k a0) (laws_toSchema.f (k + 1) a0) := by
 intro a0 k
 unfold laws_toSchema.f
 repeat' first
   | (with_reducible exact laws_toIntS.mono _ _)
   | (with_reducible exact LeO.refl _)
   | (with_reducible exact LeO.none _)
   | (with_reducible refine LeO.ite ?_ ?_)
   | (with_reducible refine LeO.bind ?_ (fun _ => ?_))
   | exact LeO.none _
   | refine LeO.ite ?_ ?_
   | refine LeO.bind ?_ (fun _ => ?_)
set_option maxHeartbeats 8000000 in
set_option maxRecDepth 100000 in
theorem laws_toSchema.calls (k : Nat) (A0_0 : Option Addr) (c0_0 : Nat) (l0_0 : List Int) (r : List Int) (w : World) (hr0_0 : Kd.C (Kd.int .i64) w A0_0 l0_0.length l0_0) (hc0_0 : l0_0.length ≤ c0_0) (h : laws_toSchema.f k l0_0 = some r) :
  Calls Try.prog 11 #[.agg #[.slice A0_0 l0_0.length c0_0]] w fun e w' => ∃ v0_ : Value, e = .returned (.agg #[v0_]) ∧ Kd.R (Kd.int .i64) 3 w' w.heap.size (fun _ => True) v0_ r ∧ Below w.heap.size w w' := by
 have hu24:=Try.underlying24;have hu34:=Try.underlying34;have HR0_0:=zA hr0_0;have HC0_0:=zA hc0_0;clear hr0_0 hc0_0;have HB:=zA (Below.refl w.heap.size w)
 have H : ((laws_toIntS.f k l0_0).bind fun t225 => (some t225)) = some r:=h
 clear h;replace H:=Option.bind_eq_some_iff.mp H;obtain ⟨t225,A20,H⟩:=H;(try dsimp only at H);have A2:=zA A20;clear A20
 obtain rfl:=Option.some.inj H
 go_enter Try.func11,Try.ntmps11
 go_wp2_with (first|((with_reducible refine gate_dst (N:=1) rfl ?_);refine box_event ?hg (N:=1) ?hd (cs:=#[.slice A0_0 l0_0.length c0_0]) (t:=24) ?hr ?_;(case hd => rfl);(case hg => rfl);(case hr => first|(go_simp;done)|(go_simp;rfl));intro gb222 hg w3 hbox hb;have BK222:=zA (hbox);have GW222:=zA ((by rw [hg];exact (zT (zz HB)) : w.heap.size ≤ gb222));have GE222:=zA ((by rw [hg];exact (zT (zz HB)) : w.heap.size ≤ gb222));replace HB:=zA (zJb (zz HB) hb);clear hb hbox hg)|((with_reducible refine gate_dst (N:=2) rfl ?_);refine box_event ?hg (N:=2) ?hd (cs:=#[.slice none 0 0]) (t:=34) ?hr ?_;(case hd => rfl);(case hg => rfl);(case hr => first|(go_simp;done)|(go_simp;rfl));intro gb223 hg w4 hbox hb;have BK223:=zA (hbox);have GW223:=zA ((by rw [hg];exact (zT (zz HB)) : w.heap.size ≤ gb223));have GE223:=zA ((by rw [hg];exact (zT (zz HB)) : w.heap.size ≤ gb223));replace HB:=zA (zJb (zz HB) hb);have NB222_223:=zA ((by rw [hg];exact Nat.ne_of_lt (blk_lt (g:=gb222) (o:=.cells #[.slice A0_0 l0_0.length c0_0] 24 (0,0)) (zx BK222)) : gb222 ≠ gb223));have NB223_222:=zA ((by rw [hg];exact Nat.ne_of_gt (blk_lt (g:=gb222) (o:=.cells #[.slice A0_0 l0_0.length c0_0] 24 (0,0)) (zx BK222)) : gb223 ≠ gb222));replace BK222:=zA (zQ (g:=gb222) (o:=.cells #[.slice A0_0 l0_0.length c0_0] 24 (0,0)) (zx BK222) hb);clear hb hbox hg)|((with_reducible refine gate_dst (N:=3) rfl ?_);refine box_event ?hg (N:=3) ?hd (cs:=#[.slice none 0 0]) (t:=34) ?hr ?_;(case hd => rfl);(case hg => rfl);(case hr => first|(go_simp;done)|(go_simp;rfl));intro gb224 hg w5 hbox hb;have BK224:=zA (hbox);have GW224:=zA ((by rw [hg];exact (zT (zz HB)) : w.heap.size ≤ gb224));have GE224:=zA ((by rw [hg];exact (zT (zz HB)) : w.heap.size ≤ gb224));replace HB:=zA (zJb (zz HB) hb);have NB222_224:=zA ((by rw [hg];exact Nat.ne_of_lt (blk_lt (g:=gb222) (o:=.cells #[.slice A0_0 l0_0.length c0_0] 24 (0,0)) (zx BK222)) : gb222 ≠ gb224));have NB224_222:=zA ((by rw [hg];exact Nat.ne_of_gt (blk_lt (g:=gb222) (o:=.cells #[.slice A0_0 l0_0.length c0_0] 24 (0,0)) (zx BK222)) : gb224 ≠ gb222));replace BK222:=zA (zQ (g:=gb222) (o:=.cells #[.slice A0_0 l0_0.length c0_0] 24 (0,0)) (zx BK222) hb);have NB223_224:=zA ((by rw [hg];exact Nat.ne_of_lt (blk_lt (g:=gb223) (o:=.cells #[.slice none 0 0] 34 (0,0)) (zx BK223)) : gb223 ≠ gb224));have NB224_223:=zA ((by rw [hg];exact Nat.ne_of_gt (blk_lt (g:=gb223) (o:=.cells #[.slice none 0 0] 34 (0,0)) (zx BK223)) : gb224 ≠ gb223));replace BK223:=zA (zQ (g:=gb223) (o:=.cells #[.slice none 0 0] 34 (0,0)) (zx BK223) hb);clear hb hbox hg;have hnb6:=NB222_223.out;have hnc6:=NB223_222.out;have hnb7:=NB222_224.out;have hnc7:=NB224_222.out;have hcz8_0:=zc (.slice A0_0 l0_0.length c0_0) BK222 0 rfl;have hfz8_0:=blk_frozen BK222.out 0)|((with_reducible refine gate_callee (f:=44) rfl ?_);refine goesL_ (some 6) rfl rfl Try.func44 (by kernel_rfl) rfl #[.slice A0_0 l0_0.length c0_0] rfl (by (try simp only [zCb,zMb,zNb]);first|done|rfl|(simp only [zLb,zDb];rfl)) ?_;(with_reducible refine (laws_toIntS.calls k _ _ l0_0 t225 _ ?side1 ?side2 A2.out).mono ?_);(case side1 => repeat (first|exact (zKb HR0_0.out HB.out)|(with_reducible refine zBb ?_ _)|(with_reducible refine zAb ?_ _)|(with_reducible refine zX ?_)));(case side2 => exact HC0_0.out);rintro e w9 ⟨v226,rfl,ho0,hb⟩;refine ⟨_,rfl,?_⟩;have HO227:=zA (zHb ho0 (zT (zz HB)));replace BK222:=zA (zQ (g:=gb222) (o:=.cells #[.slice A0_0 l0_0.length c0_0] 24 (0,0)) (zx BK222) hb);replace BK223:=zA (zQ (g:=gb223) (o:=.cells #[.slice none 0 0] 34 (0,0)) (zx BK223) hb);replace BK224:=zA (zQ (g:=gb224) (o:=.cells #[.slice none 0 0] 34 (0,0)) (zx BK224) hb);replace HB:=zA (zJb (zz HB) hb);(try clear hb);(try clear hb2);(try clear hk);(try clear hi);(try clear ho0);obtain ⟨Ao10,co10,eo10⟩:=Kd.R_slice HO227.out;subst eo10;have hnb11:=NB224_223.out;have hnc11:=NB223_224.out;have hcz12_0:=zc (.slice none 0 0) BK224 0 rfl;have hfz12_0:=blk_frozen BK224.out 0;have hcz13_0:=zc (.slice none 0 0) BK223 0 rfl;have hfz13_0:=blk_frozen BK223.out 0))
 refine bodyPost_ret (results_cell_row rfl _ _ gb223 34 #[.slice Ao10 t225.length co10] (0,0) _ rfl (by (with_reducible repeat (first|refine zF ?_ _|refine zI ?_|refine zG ?_ _));refine blk_put (cs:=#[.slice none 0 0]) ?_ 0 _ rfl;(with_reducible repeat (first|refine zF ?_ _|refine zI ?_|refine zG ?_ _));refine zUb ?_ NB223_224.out _;(with_reducible repeat (first|refine zF ?_ _|refine zI ?_|refine zG ?_ _));exact BK223.out) Try.underlying34 rfl (by kernel_rfl)) rfl ?_
 exact ⟨_,by first|rfl|(simp [errW_none,errW_some] <;> rfl)|(simp [*,errW_none,errW_some] <;> rfl),by (with_reducible repeat (first|apply zE|apply zD|apply zH));exact zGb (zR (p:=⟨gb223,0,none⟩) (zR (p:=⟨gb224,0,none⟩) (Kd.R_types (Kd.R_types HO227.out BK224.out (by decide)) BK223.out (by decide)) (fun _ hk => hk.1.2) (.slice Ao10 t225.length co10)) (fun _ hk => hk.2) (.slice Ao10 t225.length co10)) (fun _ hk => trivial),zz HB⟩

/-! ### laws_toFact: function 13 -/
def laws_toFact.f (k : Nat) (a0_0 : Int) (l0_1 : List Int) : Option (Int × List Int) := (laws_toIntS.f k l0_1).bind fun t231 => (some (a0_0, t231))
theorem laws_toFact.mono : ∀ a0 a1 k, LeO (laws_toFact.f k a0 a1) (laws_toFact.f (k + 1) a0 a1) := by
 intro a0 a1 k
 unfold laws_toFact.f
 repeat' first
   | (with_reducible exact laws_toIntS.mono _ _)
   | (with_reducible exact LeO.refl _)
   | (with_reducible exact LeO.none _)
   | (with_reducible refine LeO.ite ?_ ?_)
   | (with_reducible refine LeO.bind ?_ (fun _ => ?_))
   | exact LeO.none _
   | refine LeO.ite ?_ ?_
   | refine LeO.bind ?_ (fun _ => ?_)
set_option maxHeartbeats 8000000 in
set_option maxRecDepth 100000 in
theorem laws_toFact.calls (k : Nat) (a0_0 : Int) (A0_1 : Option Addr) (c0_1 : Nat) (l0_1 : List Int) (r1 : Int) (r2 : List Int) (w : World) (hr0_1 : Kd.C (Kd.int .i64) w A0_1 l0_1.length l0_1) (hc0_1 : l0_1.length ≤ c0_1) (h : laws_toFact.f k a0_0 l0_1 = some (r1, r2)) :
  Calls Try.prog 13 #[.agg #[.int .i64 a0_0, .slice A0_1 l0_1.length c0_1]] w fun e w' => ∃ v1_ : Value, e = .returned (.agg #[.int .i64 r1, v1_]) ∧ Kd.R (Kd.int .i64) 3 w' w.heap.size (fun _ => True) v1_ r2 ∧ Below w.heap.size w w' := by
 have hu27:=Try.underlying27;have hu37:=Try.underlying37;have HR0_1:=zA hr0_1;have HC0_1:=zA hc0_1;clear hr0_1 hc0_1;have HB:=zA (Below.refl w.heap.size w)
 have H : ((laws_toIntS.f k l0_1).bind fun t231 => (some (a0_0,t231))) = some (r1,r2):=h
 clear h;replace H:=Option.bind_eq_some_iff.mp H;obtain ⟨t231,A20,H⟩:=H;(try dsimp only at H);have A2:=zA A20;clear A20;simp only [Option.some.injEq,Prod.mk.injEq] at H;obtain ⟨rfl,rfl⟩:=H
 go_enter Try.func13,Try.ntmps13
 go_wp2_with (first|((with_reducible refine gate_dst (N:=1) rfl ?_);refine box_event ?hg (N:=1) ?hd (cs:=#[.int .i64 a0_0,.slice A0_1 l0_1.length c0_1]) (t:=27) ?hr ?_;(case hd => rfl);(case hg => rfl);(case hr => first|(go_simp;done)|(go_simp;rfl));intro gb228 hg w3 hbox hb;have BK228:=zA (hbox);have GW228:=zA ((by rw [hg];exact (zT (zz HB)) : w.heap.size ≤ gb228));have GE228:=zA ((by rw [hg];exact (zT (zz HB)) : w.heap.size ≤ gb228));replace HB:=zA (zJb (zz HB) hb);clear hb hbox hg)|((with_reducible refine gate_dst (N:=2) rfl ?_);refine box_event ?hg (N:=2) ?hd (cs:=#[.int .i64 0,.slice none 0 0]) (t:=37) ?hr ?_;(case hd => rfl);(case hg => rfl);(case hr => first|(go_simp;done)|(go_simp;rfl));intro gb229 hg w4 hbox hb;have BK229:=zA (hbox);have GW229:=zA ((by rw [hg];exact (zT (zz HB)) : w.heap.size ≤ gb229));have GE229:=zA ((by rw [hg];exact (zT (zz HB)) : w.heap.size ≤ gb229));replace HB:=zA (zJb (zz HB) hb);have NB228_229:=zA ((by rw [hg];exact Nat.ne_of_lt (blk_lt (g:=gb228) (o:=.cells #[.int .i64 a0_0,.slice A0_1 l0_1.length c0_1] 27 (0,0)) (zx BK228)) : gb228 ≠ gb229));have NB229_228:=zA ((by rw [hg];exact Nat.ne_of_gt (blk_lt (g:=gb228) (o:=.cells #[.int .i64 a0_0,.slice A0_1 l0_1.length c0_1] 27 (0,0)) (zx BK228)) : gb229 ≠ gb228));replace BK228:=zA (zQ (g:=gb228) (o:=.cells #[.int .i64 a0_0,.slice A0_1 l0_1.length c0_1] 27 (0,0)) (zx BK228) hb);clear hb hbox hg)|((with_reducible refine gate_dst (N:=3) rfl ?_);refine box_event ?hg (N:=3) ?hd (cs:=#[.int .i64 0,.slice none 0 0]) (t:=37) ?hr ?_;(case hd => rfl);(case hg => rfl);(case hr => first|(go_simp;done)|(go_simp;rfl));intro gb230 hg w5 hbox hb;have BK230:=zA (hbox);have GW230:=zA ((by rw [hg];exact (zT (zz HB)) : w.heap.size ≤ gb230));have GE230:=zA ((by rw [hg];exact (zT (zz HB)) : w.heap.size ≤ gb230));replace HB:=zA (zJb (zz HB) hb);have NB228_230:=zA ((by rw [hg];exact Nat.ne_of_lt (blk_lt (g:=gb228) (o:=.cells #[.int .i64 a0_0,.slice A0_1 l0_1.length c0_1] 27 (0,0)) (zx BK228)) : gb228 ≠ gb230));have NB230_228:=zA ((by rw [hg];exact Nat.ne_of_gt (blk_lt (g:=gb228) (o:=.cells #[.int .i64 a0_0,.slice A0_1 l0_1.length c0_1] 27 (0,0)) (zx BK228)) : gb230 ≠ gb228));replace BK228:=zA (zQ (g:=gb228) (o:=.cells #[.int .i64 a0_0,.slice A0_1 l0_1.length c0_1] 27 (0,0)) (zx BK228) hb);have NB229_230:=zA ((by rw [hg];exact Nat.ne_of_lt (blk_lt (g:=gb229) (o:=.cells #[.int .i64 0,.slice none 0 0] 37 (0,0)) (zx BK229)) : gb229 ≠ gb230));have NB230_229:=zA ((by rw [hg];exact Nat.ne_of_gt (blk_lt (g:=gb229) (o:=.cells #[.int .i64 0,.slice none 0 0] 37 (0,0)) (zx BK229)) : gb230 ≠ gb229));replace BK229:=zA (zQ (g:=gb229) (o:=.cells #[.int .i64 0,.slice none 0 0] 37 (0,0)) (zx BK229) hb);clear hb hbox hg;have hnb6:=NB228_229.out;have hnc6:=NB229_228.out;have hnb7:=NB228_230.out;have hnc7:=NB230_228.out;have hcz8_0:=zc (.int .i64 a0_0) BK228 0 rfl;have hcz8_1:=zc (.slice A0_1 l0_1.length c0_1) BK228 1 rfl;have hfz8_0:=blk_frozen BK228.out 0;have hfz8_1:=blk_frozen BK228.out 1;have hnb9:=NB230_229.out;have hnc9:=NB229_230.out;have hcz10_0:=zc (.int .i64 0) BK230 0 rfl;have hcz10_1:=zc (.slice none 0 0) BK230 1 rfl;have hfz10_0:=blk_frozen BK230.out 0;have hfz10_1:=blk_frozen BK230.out 1)|((with_reducible refine gate_callee (f:=44) rfl ?_);refine goesL_ (some 9) rfl rfl Try.func44 (by kernel_rfl) rfl #[.slice A0_1 l0_1.length c0_1] rfl (by (try simp only [zCb,zMb,zNb]);first|done|rfl|(simp only [zLb,zDb];rfl)) ?_;(with_reducible refine (laws_toIntS.calls k _ _ l0_1 t231 _ ?side1 ?side2 A2.out).mono ?_);(case side1 => exact zKb HR0_1.out (zz HB));(case side2 => exact HC0_1.out);rintro e w11 ⟨v232,rfl,ho0,hb⟩;refine ⟨_,rfl,?_⟩;have HO233:=zA (zHb ho0 (zT (zz HB)));replace BK228:=zA (zQ (g:=gb228) (o:=.cells #[.int .i64 a0_0,.slice A0_1 l0_1.length c0_1] 27 (0,0)) (by (with_reducible repeat (first|refine zF ?_ _|refine zI ?_|refine zG ?_ _));refine zUb ?_ NB228_230.out _;(with_reducible repeat (first|refine zF ?_ _|refine zI ?_|refine zG ?_ _));exact BK228.out) hb);replace BK229:=zA (zQ (g:=gb229) (o:=.cells #[.int .i64 0,.slice none 0 0] 37 (0,0)) (by (with_reducible repeat (first|refine zF ?_ _|refine zI ?_|refine zG ?_ _));refine zUb ?_ NB229_230.out _;(with_reducible repeat (first|refine zF ?_ _|refine zI ?_|refine zG ?_ _));exact BK229.out) hb);replace BK230:=zA (zQ (g:=gb230) (o:=.cells #[.int .i64 a0_0,.slice none 0 0] 37 (0,0)) (by (with_reducible repeat (first|refine zF ?_ _|refine zI ?_|refine zG ?_ _));refine blk_put (cs:=#[.int .i64 0,.slice none 0 0]) ?_ 0 _ rfl;(with_reducible repeat (first|refine zF ?_ _|refine zI ?_|refine zG ?_ _));exact BK230.out) hb);replace HB:=zA (zJb (zz HB) hb);(try clear hb);(try clear hb2);(try clear hk);(try clear hi);(try clear ho0);obtain ⟨Ao12,co12,eo12⟩:=Kd.R_slice HO233.out;subst eo12;have hcz13_0:=zc (.int .i64 a0_0) BK230 0 rfl;have hcz13_1:=zc (.slice none 0 0) BK230 1 rfl;have hfz13_0:=blk_frozen BK230.out 0;have hfz13_1:=blk_frozen BK230.out 1;have hcz14_0:=zc (.int .i64 0) BK229 0 rfl;have hcz14_1:=zc (.slice none 0 0) BK229 1 rfl;have hfz14_0:=blk_frozen BK229.out 0;have hfz14_1:=blk_frozen BK229.out 1))
 refine bodyPost_ret (results_cell_row rfl _ _ gb229 37 #[.int .i64 a0_0,.slice Ao12 t231.length co12] (0,0) _ rfl (by (with_reducible repeat (first|refine zF ?_ _|refine zI ?_|refine zG ?_ _));refine blk_put (cs:=#[.int .i64 a0_0,.slice none 0 0]) ?_ 1 _ rfl;(with_reducible repeat (first|refine zF ?_ _|refine zI ?_|refine zG ?_ _));refine blk_put (cs:=#[.int .i64 0,.slice none 0 0]) ?_ 0 _ rfl;(with_reducible repeat (first|refine zF ?_ _|refine zI ?_|refine zG ?_ _));refine zUb ?_ NB229_230.out _;(with_reducible repeat (first|refine zF ?_ _|refine zI ?_|refine zG ?_ _));exact BK229.out) Try.underlying37 rfl (by kernel_rfl)) rfl ?_
 exact ⟨_,by first|rfl|(simp [errW_none,errW_some] <;> rfl)|(simp [*,errW_none,errW_some] <;> rfl),by (with_reducible repeat (first|apply zE|apply zD|apply zH));exact zGb (zR (p:=⟨gb229,1,none⟩) (zR (p:=⟨gb229,0,none⟩) (zR (p:=⟨gb230,1,none⟩) (Kd.R_types (Kd.R_types HO233.out BK230.out (by decide)) BK229.out (by decide)) (fun _ hk => hk.1.2) (.slice Ao12 t231.length co12)) (fun _ hk => hk.2) (.int .i64 a0_0)) (fun _ hk => hk.2) (.slice Ao12 t231.length co12)) (fun _ hk => trivial),zz HB⟩

/-! ### laws_toFactS: function 12 -/
def laws_toFactS.l0 : Nat → List (S27) → List (S37) → Int → Option ((List (S37)))
 | 0, _, _, _ => none
 | k + 1, x0, x3, x4 => if x4 < (x0.length : Int) then (if 0 ≤ x4 then ((laws_toFact.f k ((rd_T27 x0 x4).f0) ((rd_T27 x0 x4).f1)).bind fun bt238 => (if x4 < (x3.length : Int) then (laws_toFactS.l0 k x0 (x3.set (x4 : Int).toNat (⟨bt238.1, bt238.2⟩ : S37)) (wrap64 (x4 + 1))) else (none))) else (none)) else (some x3)
def laws_toFactS.f (k : Nat) (l0 : List (S27)) : Option ((List (S37))) := if 0 ≤ (l0.length : Int) then (if ((l0.length : Int) : Int).toNat ≤ 8796093022208 then (laws_toFactS.l0 k l0 (List.replicate ((l0.length : Int) : Int).toNat z37) 0) else (none)) else (none)
theorem laws_toFactS.mono_l : ∀ k, (∀ y0 y1 y2, LeO (laws_toFactS.l0 k y0 y1 y2) (laws_toFactS.l0 (k + 1) y0 y1 y2))
 | 0 => fun _ _ _ r h => by simp [laws_toFactS.l0] at h
 | k + 1 => by
  have ih0:=laws_toFactS.mono_l k
  ·
   intro y0 y1 y2
   unfold laws_toFactS.l0
   repeat' first
   | (with_reducible exact ih0 _ _ _)
   | (with_reducible exact laws_toFact.mono _ _ _)
   | (with_reducible exact LeO.refl _)
   | (with_reducible exact LeO.none _)
   | (with_reducible refine LeO.ite ?_ ?_)
   | (with_reducible refine LeO.bind ?_ (fun _ => ?_))
   | exact ih0 _ _ _
   | exact LeO.none _
   | refine LeO.ite ?_ ?_
   | refine LeO.bind ?_ (fun _ => ?_)
theorem laws_toFactS.mono : ∀ a0 k, LeO (laws_toFactS.f k a0) (laws_toFactS.f (k + 1) a0) := by
 intro a0 k
 have ih0:=laws_toFactS.mono_l k
 unfold laws_toFactS.f
 repeat' first
   | (with_reducible exact ih0 _ _ _)
   | (with_reducible exact laws_toFact.mono _ _ _)
   | (with_reducible exact LeO.refl _)
   | (with_reducible exact LeO.none _)
   | (with_reducible refine LeO.ite ?_ ?_)
   | (with_reducible refine LeO.bind ?_ (fun _ => ?_))
   | exact ih0 _ _ _
   | exact LeO.none _
   | refine LeO.ite ?_ ?_
   | refine LeO.bind ?_ (fun _ => ?_)
set_option maxHeartbeats 8000000 in
set_option maxRecDepth 100000 in
theorem laws_toFactS.calls (k : Nat) (A0 : Option Addr) (c0 : Nat) (l0 : List (S27)) (r : List (S37)) (w : World) (hr0 : Kd.C k27 w A0 l0.length l0) (hc0 : l0.length ≤ c0) (h : laws_toFactS.f k l0 = some r) :
  Calls Try.prog 12 #[.slice A0 l0.length c0] w fun e w' => ∃ v0_ : Value, e = .returned (v0_) ∧ Kd.S k37 37 w' w.heap.size (fun _ => True) v0_ r ∧ Below w.heap.size w w' := by
 have hu27:=Try.underlying27;have hu37:=Try.underlying37;have HR0:=zA hr0;have HC0:=zA hc0;clear hr0 hc0;have HB:=zA (Below.refl w.heap.size w)
 have H : (if 0 ≤ (l0.length : Int) then (if ((l0.length : Int) : Int).toNat ≤ 8796093022208 then (laws_toFactS.l0 k l0 (List.replicate ((l0.length : Int) : Int).toNat z37) 0) else (none)) else (none)) = some r:=h
 clear h
 by_cases c2 : 0 ≤ (l0.length : Int)
 ·
  rw [if_pos c2] at H;have c2b0:=eq_true c2;have c2b1:=decide_eq_true c2;clear c2
  by_cases c3 : ((l0.length : Int) : Int).toNat ≤ 8796093022208
  ·
   rw [if_pos c3] at H;have c3b0:=eq_true c3;have c3b1:=decide_eq_true c3;clear c3;obtain ⟨y234,hy234⟩ : ∃ y_ : List (S37),y_ = (List.replicate ((l0.length : Int) : Int).toNat z37):=⟨_,rfl⟩
   replace H : (laws_toFactS.l0 k l0 y234 0) = some r:=by first|(rw [hy234];with_reducible exact H)|(have H2_:=(Option.bind_some _ _).symm.trans H;rw [hy234];with_reducible exact H2_)|(have H2_:=(Option.bind_some _ _).symm.trans H;with_reducible exact H2_)|with_reducible exact H|(rw [hy234];exact H)|exact H
   have Ny234:=zA hy234;clear hy234
   have H':=zA H
   clear H
   go_enter Try.func12,Try.ntmps12
   go_wp2_with (first|((with_reducible refine gate_dst (N:=7) rfl ?_);refine Kd.S_make k37 _ 37 rfl (N:=7) rfl 31 _ _ rfl (l0.length : Int) rfl rfl Try.underlying31 (.agg #[(.int .i64 0),(.slice none 0 0)]) 32 info37 rfl (by decide) (by omega) z37 (ok:=fun _ => True) (okp:=fun _ => True) (k37_mkM _ _ _ z37 (Kd.R_nil _ _ _ _ _)) (fun _ hk => hk) trivial (zXb ze) (Nat.le_trans (Nat.mul_le_mul_right _ (zXb ze : (l0.length : Int).toNat ≤ 8796093022208)) (by omega)) (Below.refl _ _) (Nat.le_refl _) ?_;intro v235 w4 ho5 hb hg_ hnew_;clear hg_ hnew_;(first|rw [← Ny234.out] at ho5|(simp only [Int.reduceToNat] at ho5;rw [← Ny234.out] at ho5));have HO236:=zA (zIb ho5 (zT (zz HB)));replace HB:=zA (zJb (zz HB) hb);clear hb ho5))
   go_loopg [4] k (fun kq v4 w' => ∃ (x3_1 : List (S37)) (x4_1 : Int),v4 = .int .i64 x4_1 ∧ Aside0 (laws_toFactS.l0 kq l0 x3_1 x4_1 = some r) ∧ Aside0 (kq ≤ k) ∧ Aside0 (Kd.S k37 37 w' w.heap.size (fun _ => True) v235 x3_1) ∧ Aside0 (Below w.heap.size w w'))
   case atStart => exact ⟨(y234),(0),za,H',⟨Nat.le_refl _⟩,⟨zy HO236⟩,⟨zz HB⟩⟩
   case round =>
    clear H';(try clear c1);(try clear c2);(try clear c2b0);(try clear c2b1);(try clear p2);(try clear c3);(try clear c3b0);(try clear c3b1);obtain ⟨x3_1,x4_1,rfl,HA,HK1,HO_3,HB⟩:=hrel
    cases gk with
    | zero => exact absurd HA.out (by simp [laws_toFactS.l0])
    | succ k1 =>
     have H:=HA.out;clear HA;simp only [laws_toFactS.l0] at H
     by_cases c6 : x4_1 < (l0.length : Int)
     ·
      rw [if_pos c6] at H;have c6b0:=decide_eq_true c6;clear c6
      by_cases c7 : 0 ≤ x4_1
      ·
       rw [if_pos c7] at H;have c7b0:=decide_eq_true c7;clear c7;replace H:=Option.bind_eq_some_iff.mp H;obtain ⟨⟨t238,t239⟩,A80,H⟩:=H;(try dsimp only at H);have A8:=zA A80;clear A80
       by_cases c9 : x4_1 < (x3_1.length : Int)
       ·
        rw [if_pos c9] at H;have c9b0:=decide_eq_true c9;clear c9;obtain ⟨y242,hy242⟩ : ∃ y_ : List (S37),y_ = (x3_1.set (x4_1 : Int).toNat (⟨t238,t239⟩ : S37)):=⟨_,rfl⟩
        replace H : (laws_toFactS.l0 k1 l0 y242 (wrap64 (x4_1 + 1))) = some r:=by first|(rw [hy242];with_reducible exact H)|(have H2_:=(Option.bind_some _ _).symm.trans H;rw [hy242];with_reducible exact H2_)|(have H2_:=(Option.bind_some _ _).symm.trans H;with_reducible exact H2_)|with_reducible exact H|(rw [hy242];exact H)|exact H
        have Ny242:=zA hy242;clear hy242
        have H':=zA H
        clear H;have p237 : 0 ≤ (x4_1 : Int):=zXb ze;have q237 : x4_1 < (l0.length : Int):=zXb ze;obtain ⟨ad237,A237_1,c237_1,e237,hx237_0,hx237_1,hl237_1,hi237_1⟩:=at_T27 HR0.out x4_1 p237 q237
        cases e237
        replace hx237_0:=(HB.out.cell (World.block_lt_of_cell? w _ hx237_0)).trans hx237_0;replace hx237_1:=(HB.out.cell (World.block_lt_of_cell? w _ hx237_1)).trans hx237_1;have HR237_1:=zA hi237_1;have HC237_1:=zA hl237_1;clear hi237_1 hl237_1;replace p237:=eq_true p237;replace q237:=eq_true q237
        go_wp2_with (first|((with_reducible refine gate_callee (f:=13) rfl ?_);refine goesL_ (some 20) rfl rfl Try.func13 (by kernel_rfl) rfl #[.agg #[.int .i64 ((rd_T27 l0 x4_1).f0),.slice A237_1 ((rd_T27 l0 x4_1).f1).length c237_1]] rfl (by (try simp only [zCb,zMb,zNb]);first|done|rfl|(simp only [zLb,zDb];rfl)) ?_;(with_reducible refine (laws_toFact.calls k1 ((rd_T27 l0 x4_1).f0) _ _ ((rd_T27 l0 x4_1).f1) t238 t239 _ ?side1 ?side2 A8.out).mono ?_);(case side1 => repeat (first|exact (zKb HR237_1.out HB.out)|(with_reducible refine zBb ?_ _)|(with_reducible refine zAb ?_ _)|(with_reducible refine zX ?_)));(case side2 => exact HC237_1.out);rintro e w11 ⟨v240,rfl,ho0,hb⟩;refine ⟨_,rfl,?_⟩;replace HO_3:=zA (zSb (zy HO_3) (zW ho0) hb);have HO241:=zA (zHb ho0 (zT (zz HB)));replace HB:=zA (zJb (zz HB) hb);(try clear hb);(try clear hb2);(try clear hk);(try clear hi);(try clear ho0);have p10 : 0 ≤ (x4_1 : Int):=zXb ze;have q10 : (x4_1 : Int) < ((x3_1.length : Int) : Int):=zXb ze;obtain ⟨go10,co10,eo10,gb10,gl10,cl10,HG10⟩:=Kd.S_form HO_3.out (by omega);(first|cases eo10|(injection eo10 with ea_ en_ ec_;(first|subst ea_|(injection ea_ with ea_;subst ea_));subst ec_;clear en_));have GB10:=zA gb10;have GG10:=zA HG10;clear gb10 gl10 HG10;obtain ⟨_,ce10,hcl10,hM10,hcc10,hfr10,_,_⟩:=Kd.S_elem HO_3.out z37 (x4_1 : Int) p10 q10;obtain ⟨ve10_1,rfl,ge10_1⟩:=k37_openM hM10;have hx10_0 : w11.cell? ⟨go10,(x4_1 : Int).toNat * 2,none⟩ = some (.int .i64 ((rd_T37 x3_1 x4_1).f0)):=hcc10 0 _ rfl;have hx10_1 : w11.cell? ⟨go10,(x4_1 : Int).toNat * 2 + 1,none⟩ = some (ve10_1):=hcc10 1 _ rfl;have hf10_0 : w11.frozen? ⟨go10,(x4_1 : Int).toNat * 2,none⟩ = false:=hfr10 0;have hf10_1 : w11.frozen? ⟨go10,(x4_1 : Int).toNat * 2 + 1,none⟩ = false:=hfr10 1;clear hcl10 hcc10 hfr10 hM10;replace p10:=eq_true p10;replace q10:=eq_true q10;obtain ⟨Ao12,co12,eo12⟩:=Kd.R_slice HO241.out;subst eo12;have n_:=zA (zS (ok':=(fun k_ => some k_ ≠ (.slice Ao12 t239.length co12 : Value).ownBlock)) HO_3.out (fun k_ hk => hk.2));clear HO_3;have HO_3:=n_;clear n_;have HX13:=zA (show Kd.S k37 37 w11 w.heap.size (fun k_ => ((fun _ => True)) k_ ∧ ¬ ((fun k_ => some k_ = (.slice Ao12 t239.length co12 : Value).ownBlock)) k_) (.slice (some ⟨go10,0,none⟩) x3_1.length co10) x3_1 from (by (with_reducible repeat (first|apply zM|apply zL|apply zN));exact zS HO_3.out (fun k_ hk => ⟨trivial,fun e_ => hk e_⟩)));obtain ⟨oki13,ce13,hcl13,hM13,hcc13,hfr13,hoki13,hH13⟩:=Kd.S_elem HX13.out z37 (x4_1 : Int) (zXb ze) (by have h_ : (x4_1 : Int) < ((x3_1.length : Int) : Int):=zXb ze;first|exact h_|(have e_:=(Kd.S_reads' HO_3.out).1;omega)|simpa using h_);obtain ⟨ve13_1,rfl,ge13_1⟩:=k37_openM hM13;have HP13:=Kd.S_seg hH13 (zXb ze) (by have h_ : (x4_1 : Int) < ((x3_1.length : Int) : Int):=zXb ze;first|exact h_|(have e_:=(Kd.S_reads' HO_3.out).1;omega)|simpa using h_) (seg:=[.int .i64 t238,.slice Ao12 t239.length co12]) (j:=0) (show 2 ≤ 2 from by decide) (x':=(⟨t238,t239⟩ : S37)) (k37_mkM _ _ _ (⟨t238,t239⟩ : S37) (zGb (Kd.R_tight rfl (zGb (ok':=fun k_ => ((fun _ => True)) k_ ∧ k_ ≠ go10) (Kd.R_apart' (HO241.out) (Kd.S_typed HO_3.out) (by decide)) (fun k_ hk => ⟨trivial,fun e_ => (hk.2) (by rw [e_];rfl)⟩))) (fun _ h_ => Or.inr (h_)))) (fun _ hk => hk) (fun k_ hk_ => ((zGb (ok':=fun k_ => ((fun _ => True)) k_ ∧ k_ ≠ go10) (Kd.R_apart' (HO241.out) (Kd.S_typed HO_3.out) (by decide)) (fun k_ hk => ⟨trivial,fun e_ => (hk.2) (by rw [e_];rfl)⟩))).1 k_ hk_.symm);have hx13_0:=hcc13 0 _ rfl;(try simp only [show (k37).sz = 2 from rfl,Nat.mul_one,Nat.add_zero] at hx13_0);have hf13_0:=hfr13 0;(try simp only [show (k37).sz = 2 from rfl,Nat.mul_one,Nat.add_zero] at hf13_0);have hx13_1:=hcc13 1 _ rfl;(try simp only [show (k37).sz = 2 from rfl,Nat.mul_one,Nat.add_zero] at hx13_1);have hf13_1:=hfr13 1;(try simp only [show (k37).sz = 2 from rfl,Nat.mul_one,Nat.add_zero] at hf13_1);clear hcl13 hcc13 hfr13 hM13 hoki13 hH13)|((with_reducible refine gate_store (t:=37) (p:=21) rfl ?_);refine store_event (t:=37) (p:=21) (v:=?vo_w14) (w1:=((w11.setCell ⟨go10,(x4_1 : Int).toNat * 2,none⟩ (.int .i64 t238)).setCell ⟨go10,(x4_1 : Int).toNat * 2 + 1,none⟩ (.slice Ao12 t239.length co12))) ?hg ?ho ?hn ?hr ?_;(case ho => rfl);(case hg => rfl);(case hn => rfl);(case hr => first|(go_simp;done)|(go_simp;rfl));intro w14 hw;have hg : w11.grownBy w14 (some go10):=(by rw [hw];exact HP13.2);have hp_ : Kd.S k37 37 w14 w.heap.size (fun _ => True) (.slice (some ⟨go10,0,none⟩) x3_1.length co10) y242:=(by rw [hw,Ny242.out];exact HP13.1);clear HP13;replace HO_3:=zA (hp_);replace HB:=zA ((by rw [hw];exact zB (zB (HB.out) GB10.out) GB10.out : Below w.heap.size w w14));clear HO241;clear hg hw hp_))
        go_roundg k1
        case measure => have:=HK1.out;omega
        case rel => exact ⟨(y242),(wrap64 (x4_1 + 1)),za,H',⟨by have:=HK1.out;omega⟩,⟨zy HO_3⟩,⟨zz HB⟩⟩
       ·
        rw [if_neg c9] at H
        exact absurd H (by simp)
      ·
       rw [if_neg c7] at H
       exact absurd H (by simp)
     ·
      rw [if_neg c6] at H;have c6b0:=decide_eq_false c6;clear c6
      obtain rfl:=Option.some.inj H
      go_wp2
      go_ret
      exact ⟨_,by first|rfl|(simp [errW_none,errW_some] <;> rfl)|(simp [*,errW_none,errW_some] <;> rfl),zy HO_3,zz HB⟩
  ·
   rw [if_neg c3] at H
   exact absurd H (by simp)
 ·
  rw [if_neg c2] at H
  exact absurd H (by simp)

/-! ### impl_within: function 92 -/
def impl_within.f (a0 : Int) (a1 : Int) (a2 : Int) : Option (Bool) := if a0 ≥ a1 then (some (decide (a0 ≤ a2))) else (some false)
set_option maxHeartbeats 8000000 in
set_option maxRecDepth 100000 in
theorem impl_within.calls (a0 : Int) (a1 : Int) (a2 : Int) (r : Bool) (w : World) (h : impl_within.f a0 a1 a2 = some r) :
  Calls Try.prog 92 #[.int .i64 a0, .int .i64 a1, .int .i64 a2] w fun e w' => e = .returned (.bool r) ∧ Drawn0 w w' := by
 have H : (if a0 ≥ a1 then (some (decide (a0 ≤ a2))) else (some false)) = some r:=h
 clear h
 by_cases c4 : a0 ≥ a1
 ·
  rw [if_pos c4] at H
  have c4b0 : decide (a1 ≤ a0) = true:=decide_eq_true c4
  clear c4
  obtain rfl:=Option.some.inj H
  go_enter Try.func92,Try.ntmps92
  go_wp2
  go_ret
  exact ⟨by first|rfl|(simp;done)|(simp [*];done),by repeat (first|exact Drawn0.refl _|apply Drawn0.step)⟩
 ·
  rw [if_neg c4] at H
  have c4b0 : decide (a1 ≤ a0) = false:=decide_eq_false c4
  clear c4
  obtain rfl:=Option.some.inj H
  go_enter Try.func92,Try.ntmps92
  go_wp2
  go_ret
  exact ⟨by first|rfl|(simp;done)|(simp [*];done),by repeat (first|exact Drawn0.refl _|apply Drawn0.step)⟩

/-! ### impl_IsSchema: function 59 -/
def impl_IsSchema.l0 : Nat → List Int → Int → Int → List Int → Option (Bool)
 | 0, _, _, _, _ => none
 | k + 1, x6, x7, x8, x244000 => if x8 < x7 then (if 0 ≤ x8 then (if x8 < (x6.length : Int) then ((impl_within.f (rd x6 x8) 1 3).bind fun t245 => (if t245 = true then (impl_IsSchema.l0 k x6 x7 (wrap64 (x8 + 1)) x244000) else (some false))) else (none)) else (none)) else ((impl_within.f (x244000.length : Int) 1 4).bind fun t246 => (some t246))
def impl_IsSchema.f (k : Nat) (l0_0 : List Int) : Option (Bool) := impl_IsSchema.l0 k l0_0 (l0_0.length : Int) 0 l0_0
theorem impl_IsSchema.mono_l : ∀ k, (∀ y0 y1 y2 y3, LeO (impl_IsSchema.l0 k y0 y1 y2 y3) (impl_IsSchema.l0 (k + 1) y0 y1 y2 y3))
 | 0 => fun _ _ _ _ r h => by simp [impl_IsSchema.l0] at h
 | k + 1 => by
  have ih0:=impl_IsSchema.mono_l k
  ·
   intro y0 y1 y2 y3
   unfold impl_IsSchema.l0
   repeat' first
   | (with_reducible exact ih0 _ _ _ _)
   | (with_reducible exact LeO.refl _)
   | (with_reducible exact LeO.none _)
   | (with_reducible refine LeO.ite ?_ ?_)
   | (with_reducible refine LeO.bind ?_ (fun _ => ?_))
   | exact ih0 _ _ _ _
   | exact LeO.none _
   | refine LeO.ite ?_ ?_
   | refine LeO.bind ?_ (fun _ => ?_)
theorem impl_IsSchema.mono : ∀ a0 k, LeO (impl_IsSchema.f k a0) (impl_IsSchema.f (k + 1) a0) := by
 intro a0 k
 have ih0:=impl_IsSchema.mono_l k
 unfold impl_IsSchema.f
 repeat' first
   | (with_reducible exact ih0 _ _ _ _)
   | (with_reducible exact LeO.refl _)
   | (with_reducible exact LeO.none _)
   | (with_reducible refine LeO.ite ?_ ?_)
   | (with_reducible refine LeO.bind ?_ (fun _ => ?_))
   | exact ih0 _ _ _ _
   | exact LeO.none _
   | refine LeO.ite ?_ ?_
   | refine LeO.bind ?_ (fun _ => ?_)
set_option maxHeartbeats 8000000 in
set_option maxRecDepth 100000 in
theorem impl_IsSchema.calls (k : Nat) (A0_0 : Option Addr) (c0_0 : Nat) (l0_0 : List Int) (r : Bool) (w : World) (hr0_0 : Kd.C (Kd.int .i64) w A0_0 l0_0.length l0_0) (hc0_0 : l0_0.length ≤ c0_0) (h : impl_IsSchema.f k l0_0 = some r) :
  Calls Try.prog 59 #[.agg #[.slice A0_0 l0_0.length c0_0]] w fun e w' => e = .returned (.bool r) ∧ Below w.heap.size w w' := by
 have hu34:=Try.underlying34;have HR0_0:=zA hr0_0;have HC0_0:=zA hc0_0;clear hr0_0 hc0_0;have HB:=zA (Below.refl w.heap.size w)
 have H : (impl_IsSchema.l0 k l0_0 (l0_0.length : Int) 0 l0_0) = some r:=h
 clear h
 have H':=zA H
 clear H
 go_enter Try.func59,Try.ntmps59
 go_wp2_with (first|((with_reducible refine gate_dst (N:=1) rfl ?_);refine box_event ?hg (N:=1) ?hd (cs:=#[.slice A0_0 l0_0.length c0_0]) (t:=34) ?hr ?_;(case hd => rfl);(case hg => rfl);(case hr => first|(go_simp;done)|(go_simp;rfl));intro gb243 hg w2 hbox hb;have BK243:=zA (hbox);have GW243:=zA ((by rw [hg];exact (zT (zz HB)) : w.heap.size ≤ gb243));have GE243:=zA ((by rw [hg];exact (zT (zz HB)) : w.heap.size ≤ gb243));replace HB:=zA (zJb (zz HB) hb);clear hb hbox hg;have hcz3_0:=zc (.slice A0_0 l0_0.length c0_0) BK243 0 rfl;have hfz3_0:=blk_frozen BK243.out 0))
 go_loopg [8] k (fun kq v8 w' => ∃ (x8_1 : Int),v8 = .int .i64 x8_1 ∧ Aside0 (impl_IsSchema.l0 kq l0_0 (l0_0.length : Int) x8_1 l0_0 = some r) ∧ Aside0 (kq ≤ k) ∧ Aside0 (w'.heap[gb243]? = some (.cells #[(.slice A0_0 l0_0.length c0_0)] 34 (0,0))) ∧ Aside0 (Below w.heap.size w w'))
 case atStart => exact ⟨(0),za,H',⟨Nat.le_refl _⟩,⟨zx BK243⟩,⟨zz HB⟩⟩
 case round =>
  clear H';(try clear p2);(try clear hcz3_0);(try clear hfz3_0);obtain ⟨x8_1,rfl,HA,HK1,BK243,HB⟩:=hrel
  cases gk with
  | zero => exact absurd HA.out (by simp [impl_IsSchema.l0])
  | succ k1 =>
   have H:=HA.out;clear HA;simp only [impl_IsSchema.l0] at H
   by_cases c4 : x8_1 < (l0_0.length : Int)
   ·
    rw [if_pos c4] at H;have c4b0:=decide_eq_true c4;clear c4
    by_cases c5 : 0 ≤ x8_1
    ·
     rw [if_pos c5] at H;have c5b0:=decide_eq_true c5;clear c5
     by_cases c6 : x8_1 < (l0_0.length : Int)
     ·
      rw [if_pos c6] at H;have c6b0:=decide_eq_true c6;clear c6;replace H:=Option.bind_eq_some_iff.mp H;obtain ⟨t245,A70,H⟩:=H;(try dsimp only at H);have A7:=zA A70;clear A70
      by_cases c8 : t245 = true
      ·
       subst c8
       rw [if_pos rfl] at H
       have H':=zA H
       clear H;have p244 : 0 ≤ (x8_1 : Int):=zXb ze;have q244 : x8_1 < (l0_0.length : Int):=zXb ze;obtain ⟨ad244,e244,hx244_0⟩:=Kd.at_int HR0_0.out x8_1 p244 q244
       cases e244
       replace hx244_0:=(HB.out.cell (World.block_lt_of_cell? w _ hx244_0)).trans hx244_0;replace p244:=eq_true p244;replace q244:=eq_true q244
       go_wp2_with (first|((with_reducible refine gate_callee (f:=92) rfl ?_);refine goesL_ (some 13) rfl rfl Try.func92 (by kernel_rfl) rfl #[.int .i64 (rd l0_0 x8_1),.int .i64 1,.int .i64 3] rfl (by (try simp only [zCb,zMb,zNb]);first|done|rfl|(simp only [zLb,zDb];rfl)) ?_;(with_reducible refine (impl_within.calls (rd l0_0 x8_1) 1 3 true _ A7.out).mono ?_);rintro e w' ⟨rfl,⟨nd,rfl⟩⟩;refine ⟨_,rfl,?_⟩))
       go_roundg k1
       case measure => have:=HK1.out;omega
       case rel => exact ⟨(wrap64 (x8_1 + 1)),za,H',⟨by have:=HK1.out;omega⟩,⟨zx BK243⟩,⟨zz HB⟩⟩
      ·
       replace c8:=Bool.eq_false_iff.mpr c8
       subst c8
       have H1 : (some false) = some r:=by rw [if_neg (show ¬ (false = true) by decide)] at H;exact H
       clear H;have H:=H1;clear H1
       obtain rfl:=Option.some.inj H
       have p244 : 0 ≤ (x8_1 : Int):=zXb ze;have q244 : x8_1 < (l0_0.length : Int):=zXb ze;obtain ⟨ad244,e244,hx244_0⟩:=Kd.at_int HR0_0.out x8_1 p244 q244
       cases e244
       replace hx244_0:=(HB.out.cell (World.block_lt_of_cell? w _ hx244_0)).trans hx244_0;replace p244:=eq_true p244;replace q244:=eq_true q244
       go_wp2_with (first|((with_reducible refine gate_callee (f:=92) rfl ?_);refine goesL_ (some 13) rfl rfl Try.func92 (by kernel_rfl) rfl #[.int .i64 (rd l0_0 x8_1),.int .i64 1,.int .i64 3] rfl (by (try simp only [zCb,zMb,zNb]);first|done|rfl|(simp only [zLb,zDb];rfl)) ?_;(with_reducible refine (impl_within.calls (rd l0_0 x8_1) 1 3 false _ A7.out).mono ?_);rintro e w' ⟨rfl,⟨nd,rfl⟩⟩;refine ⟨_,rfl,?_⟩))
       go_ret
       exact ⟨by first|rfl|(simp [errW_none,errW_some] <;> rfl)|(simp [*,errW_none,errW_some] <;> rfl),zz HB⟩
     ·
      rw [if_neg c6] at H
      exact absurd H (by simp)
    ·
     rw [if_neg c5] at H
     exact absurd H (by simp)
   ·
    rw [if_neg c4] at H;have c4b0:=decide_eq_false c4;clear c4;replace H:=Option.bind_eq_some_iff.mp H;obtain ⟨t246,A90,H⟩:=H;(try dsimp only at H);have A9:=zA A90;clear A90
    obtain rfl:=Option.some.inj H
    have hcz10_0:=zc (.slice A0_0 l0_0.length c0_0) BK243 0 rfl;have hfz10_0:=blk_frozen BK243.out 0
    go_wp2_with (first|((with_reducible refine gate_callee (f:=92) rfl ?_);refine goesL_ (some 19) rfl rfl Try.func92 (by kernel_rfl) rfl #[.int .i64 (l0_0.length : Int),.int .i64 1,.int .i64 4] rfl (by (try simp only [zCb,zMb,zNb]);first|done|rfl|(simp only [zLb,zDb];rfl)) ?_;(with_reducible refine (impl_within.calls (l0_0.length : Int) 1 4 t246 _ A9.out).mono ?_);rintro e w' ⟨rfl,⟨nd,rfl⟩⟩;refine ⟨_,rfl,?_⟩))
    go_ret
    exact ⟨by first|rfl|(simp [errW_none,errW_some] <;> rfl)|(simp [*,errW_none,errW_some] <;> rfl),zz HB⟩

/-! ### impl_Schema_takes: function 65 -/
def impl_Schema_takes.f (k : Nat) (l0_0 : List Int) (a1 : Int) (a2 : Int) : Option (Bool) := (impl_IsSchema.f k l0_0).bind fun t248 => (if t248 = true then ((impl_within.f a1 0 (wrap64 ((l0_0.length : Int) - 1))).bind fun t249 => (if t249 = true then (if 0 ≤ a1 then (if a1 < (l0_0.length : Int) then (some ((rd l0_0 a1) == a2)) else (none)) else (none)) else (some false))) else (some false))
theorem impl_Schema_takes.mono : ∀ a0 a1 a2 k, LeO (impl_Schema_takes.f k a0 a1 a2) (impl_Schema_takes.f (k + 1) a0 a1 a2) := by
 intro a0 a1 a2 k
 unfold impl_Schema_takes.f
 repeat' first
   | (with_reducible exact impl_IsSchema.mono _ _)
   | (with_reducible exact LeO.refl _)
   | (with_reducible exact LeO.none _)
   | (with_reducible refine LeO.ite ?_ ?_)
   | (with_reducible refine LeO.bind ?_ (fun _ => ?_))
   | exact LeO.none _
   | refine LeO.ite ?_ ?_
   | refine LeO.bind ?_ (fun _ => ?_)
set_option maxHeartbeats 8000000 in
set_option maxRecDepth 100000 in
theorem impl_Schema_takes.calls (k : Nat) (A0_0 : Option Addr) (c0_0 : Nat) (l0_0 : List Int) (a1 : Int) (a2 : Int) (r : Bool) (w : World) (hr0_0 : Kd.C (Kd.int .i64) w A0_0 l0_0.length l0_0) (hc0_0 : l0_0.length ≤ c0_0) (h : impl_Schema_takes.f k l0_0 a1 a2 = some r) :
  Calls Try.prog 65 #[.agg #[.slice A0_0 l0_0.length c0_0], .int .i64 a1, .int .i64 a2] w fun e w' => e = .returned (.bool r) ∧ Below w.heap.size w w' := by
 have hu34:=Try.underlying34;have HR0_0:=zA hr0_0;have HC0_0:=zA hc0_0;clear hr0_0 hc0_0;have HB:=zA (Below.refl w.heap.size w)
 have H : ((impl_IsSchema.f k l0_0).bind fun t248 => (if t248 = true then ((impl_within.f a1 0 (wrap64 ((l0_0.length : Int) - 1))).bind fun t249 => (if t249 = true then (if 0 ≤ a1 then (if a1 < (l0_0.length : Int) then (some ((rd l0_0 a1) == a2)) else (none)) else (none)) else (some false))) else (some false))) = some r:=h
 clear h;replace H:=Option.bind_eq_some_iff.mp H;obtain ⟨t248,A40,H⟩:=H;(try dsimp only at H);have A4:=zA A40;clear A40
 by_cases c5 : t248 = true
 ·
  subst c5
  rw [if_pos rfl] at H;replace H:=Option.bind_eq_some_iff.mp H;obtain ⟨t249,A60,H⟩:=H;(try dsimp only at H);have A6:=zA A60;clear A60
  by_cases c7 : t249 = true
  ·
   subst c7
   rw [if_pos rfl] at H
   by_cases c8 : 0 ≤ a1
   ·
    rw [if_pos c8] at H;have c8b0:=decide_eq_true c8;clear c8
    by_cases c9 : a1 < (l0_0.length : Int)
    ·
     rw [if_pos c9] at H;have c9b0:=decide_eq_true c9;clear c9
     obtain rfl:=Option.some.inj H
     go_enter Try.func65,Try.ntmps65
     go_wp2_with (first|((with_reducible refine gate_dst (N:=3) rfl ?_);(try (refine gate_guard (by rfl) ?_;dsimp only));refine box_event ?hg (N:=3) ?hd (cs:=#[.slice A0_0 l0_0.length c0_0]) (t:=34) ?hr ?_;(case hd => rfl);(case hg => rfl);(case hr => first|(go_simp;done)|(go_simp;rfl));intro gb247 hg w10 hbox hb;have BK247:=zA (hbox);have GW247:=zA ((by rw [hg];exact (zT (zz HB)) : w.heap.size ≤ gb247));have GE247:=zA ((by rw [hg];exact (zT (zz HB)) : w.heap.size ≤ gb247));replace HB:=zA (zJb (zz HB) hb);clear hb hbox hg;have hcz11_0:=zc (.slice A0_0 l0_0.length c0_0) BK247 0 rfl;have hfz11_0:=blk_frozen BK247.out 0)|((with_reducible refine gate_callee (f:=59) rfl ?_);refine goesL_ (some 8) rfl rfl Try.func59 (by kernel_rfl) rfl #[.agg #[.slice A0_0 l0_0.length c0_0]] rfl (by (try simp only [zCb,zMb,zNb]);first|done|rfl|(simp only [zLb,zDb];rfl)) ?_;(with_reducible refine (impl_IsSchema.calls k _ _ l0_0 true _ ?side1 ?side2 A4.out).mono ?_);(case side1 => repeat (first|exact (zKb HR0_0.out HB.out)|(with_reducible refine zBb ?_ _)|(with_reducible refine zAb ?_ _)|(with_reducible refine zX ?_)));(case side2 => exact HC0_0.out);rintro e w12 ⟨rfl,hb⟩;refine ⟨_,rfl,?_⟩;replace BK247:=zA (zQ (g:=gb247) (o:=.cells #[.slice A0_0 l0_0.length c0_0] 34 (0,0)) (zx BK247) hb);replace HB:=zA (zJb (zz HB) hb);(try clear hb);(try clear hb2);(try clear hk);(try clear hi);have hcz13_0:=zc (.slice A0_0 l0_0.length c0_0) BK247 0 rfl;have hfz13_0:=blk_frozen BK247.out 0)|(go_at_call 92;(with_reducible refine (impl_within.calls a1 0 (wrap64 ((l0_0.length : Int) - 1)) true _ A6.out).mono ?_);rintro e w' ⟨rfl,⟨nd,rfl⟩⟩;have p250 : 0 ≤ (a1 : Int):=zXb ze;have q250 : a1 < (l0_0.length : Int):=zXb ze;obtain ⟨ad250,e250,hx250_0⟩:=Kd.at_int HR0_0.out a1 p250 q250;cases e250;replace hx250_0:=(HB.out.cell (World.block_lt_of_cell? w _ hx250_0)).trans hx250_0;replace p250:=eq_true p250;replace q250:=eq_true q250))
     go_ret
     exact ⟨by first|rfl|(simp [errW_none,errW_some] <;> rfl)|(simp [*,errW_none,errW_some] <;> rfl),zz HB⟩
    ·
     rw [if_neg c9] at H
     exact absurd H (by simp)
   ·
    rw [if_neg c8] at H
    exact absurd H (by simp)
  ·
   replace c7:=Bool.eq_false_iff.mpr c7
   subst c7
   have H1 : (some false) = some r:=by rw [if_neg (show ¬ (false = true) by decide)] at H;exact H
   clear H;have H:=H1;clear H1
   obtain rfl:=Option.some.inj H
   go_enter Try.func65,Try.ntmps65
   go_wp2_with (first|((with_reducible refine gate_dst (N:=3) rfl ?_);(try (refine gate_guard (by rfl) ?_;dsimp only));refine box_event ?hg (N:=3) ?hd (cs:=#[.slice A0_0 l0_0.length c0_0]) (t:=34) ?hr ?_;(case hd => rfl);(case hg => rfl);(case hr => first|(go_simp;done)|(go_simp;rfl));intro gb247 hg w14 hbox hb;have BK247:=zA (hbox);have GW247:=zA ((by rw [hg];exact (zT (zz HB)) : w.heap.size ≤ gb247));have GE247:=zA ((by rw [hg];exact (zT (zz HB)) : w.heap.size ≤ gb247));replace HB:=zA (zJb (zz HB) hb);clear hb hbox hg;have hcz15_0:=zc (.slice A0_0 l0_0.length c0_0) BK247 0 rfl;have hfz15_0:=blk_frozen BK247.out 0)|((with_reducible refine gate_callee (f:=59) rfl ?_);refine goesL_ (some 8) rfl rfl Try.func59 (by kernel_rfl) rfl #[.agg #[.slice A0_0 l0_0.length c0_0]] rfl (by (try simp only [zCb,zMb,zNb]);first|done|rfl|(simp only [zLb,zDb];rfl)) ?_;(with_reducible refine (impl_IsSchema.calls k _ _ l0_0 true _ ?side1 ?side2 A4.out).mono ?_);(case side1 => repeat (first|exact (zKb HR0_0.out HB.out)|(with_reducible refine zBb ?_ _)|(with_reducible refine zAb ?_ _)|(with_reducible refine zX ?_)));(case side2 => exact HC0_0.out);rintro e w16 ⟨rfl,hb⟩;refine ⟨_,rfl,?_⟩;replace BK247:=zA (zQ (g:=gb247) (o:=.cells #[.slice A0_0 l0_0.length c0_0] 34 (0,0)) (zx BK247) hb);replace HB:=zA (zJb (zz HB) hb);(try clear hb);(try clear hb2);(try clear hk);(try clear hi);have hcz17_0:=zc (.slice A0_0 l0_0.length c0_0) BK247 0 rfl;have hfz17_0:=blk_frozen BK247.out 0)|(go_at_call 92;(with_reducible refine (impl_within.calls a1 0 (wrap64 ((l0_0.length : Int) - 1)) false _ A6.out).mono ?_);rintro e w' ⟨rfl,⟨nd,rfl⟩⟩))
   go_ret
   exact ⟨by first|rfl|(simp [errW_none,errW_some] <;> rfl)|(simp [*,errW_none,errW_some] <;> rfl),zz HB⟩
 ·
  replace c5:=Bool.eq_false_iff.mpr c5
  subst c5
  have H1 : (some false) = some r:=by rw [if_neg (show ¬ (false = true) by decide)] at H;exact H
  clear H;have H:=H1;clear H1
  obtain rfl:=Option.some.inj H
  go_enter Try.func65,Try.ntmps65
  go_wp2_with (first|((with_reducible refine gate_dst (N:=3) rfl ?_);(try (refine gate_guard (by rfl) ?_;dsimp only));refine box_event ?hg (N:=3) ?hd (cs:=#[.slice A0_0 l0_0.length c0_0]) (t:=34) ?hr ?_;(case hd => rfl);(case hg => rfl);(case hr => first|(go_simp;done)|(go_simp;rfl));intro gb247 hg w18 hbox hb;have BK247:=zA (hbox);have GW247:=zA ((by rw [hg];exact (zT (zz HB)) : w.heap.size ≤ gb247));have GE247:=zA ((by rw [hg];exact (zT (zz HB)) : w.heap.size ≤ gb247));replace HB:=zA (zJb (zz HB) hb);clear hb hbox hg;have hcz19_0:=zc (.slice A0_0 l0_0.length c0_0) BK247 0 rfl;have hfz19_0:=blk_frozen BK247.out 0)|((with_reducible refine gate_callee (f:=59) rfl ?_);refine goesL_ (some 8) rfl rfl Try.func59 (by kernel_rfl) rfl #[.agg #[.slice A0_0 l0_0.length c0_0]] rfl (by (try simp only [zCb,zMb,zNb]);first|done|rfl|(simp only [zLb,zDb];rfl)) ?_;(with_reducible refine (impl_IsSchema.calls k _ _ l0_0 false _ ?side1 ?side2 A4.out).mono ?_);(case side1 => repeat (first|exact (zKb HR0_0.out HB.out)|(with_reducible refine zBb ?_ _)|(with_reducible refine zAb ?_ _)|(with_reducible refine zX ?_)));(case side2 => exact HC0_0.out);rintro e w20 ⟨rfl,hb⟩;refine ⟨_,rfl,?_⟩;replace BK247:=zA (zQ (g:=gb247) (o:=.cells #[.slice A0_0 l0_0.length c0_0] 34 (0,0)) (zx BK247) hb);replace HB:=zA (zJb (zz HB) hb);(try clear hb);(try clear hb2);(try clear hk);(try clear hi)))
  go_ret
  exact ⟨by first|rfl|(simp [errW_none,errW_some] <;> rfl)|(simp [*,errW_none,errW_some] <;> rfl),zz HB⟩

end Go.Proofs.Ytfelabhakgcifaa.QFnExactAddFact
