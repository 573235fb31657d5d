/- Walks through Go functions that FnExactAnswers reaches, by hand: each call returns what is said beside it, within the bounds that the theorem names. -/
import Derived.Test.YtfelabhakgcifaaGreatQFnExactAnswersx0
import Derived.Test.YtfelabhakgcifaaGreatQFnExactAnswersx1
import Derived.Test.YtfelabhakgcifaaGreatQFnExactAnswersx2
import Derived.Test.YtfelabhakgcifaaGreatQFnExactAnswersx3
import Derived.Test.YtfelabhakgcifaaGreatQFnExactAnswersx4
import Derived.Test.YtfelabhakgcifaaGreatQFnExactAnswersx5
import Derived.Test.YtfelabhakgcifaaGreatQFnExactAnswersx6
import Derived.Test.YtfelabhakgcifaaGreatQFnExactAnswersx7
import Derived.Test.YtfelabhakgcifaaGreatQFnExactAnswersx8
import Derived.Test.YtfelabhakgcifaaGreatQFnExactAnswersx9
import Derived.Test.YtfelabhakgcifaaGreatQFnExactAnswersx10
import Derived.Test.YtfelabhakgcifaaGreatQFnExactAnswersx11
import Derived.Test.YtfelabhakgcifaaGreatQFnExactAnswersx12
import Derived.Test.YtfelabhakgcifaaGreatQFnExactAnswersx13
import Derived.Test.YtfelabhakgcifaaGreatQFnExactAnswersx14
import Derived.Test.YtfelabhakgcifaaGreatQFnExactAnswersx15
import Derived.Test.YtfelabhakgcifaaGreatQFnExactAnswersx16
import Derived.Test.YtfelabhakgcifaaGreatQFnExactAnswersx17
import Derived.Test.YtfelabhakgcifaaGreatQFnExactAnswersx18
import Derived.Test.YtfelabhakgcifaaGreatVFnExactAnswersMine
import Derived.Test.YtfelabhakgcifaaGreatPureFnExactAnswers
import Derived.Shelf.SlSortCmp.Whole1
import Derived.Shelf.SlSortCmp.KitK
import Derived.Lib.SliceRun
import Derived.Shelf.SlSortCmp.NoneTotal
import Derived.Test.YtfelabhakgcifaaGreatShelfR
import Derived.Test.YtfelabhakgcifaaGreatHandPFnExactAnswers
set_option linter.unusedVariables false
set_option linter.unusedSimpArgs false
namespace Go.Proofs.YtfelabhakgcifaaGreat.Hand
open Go.RowKit Go.Proofs.YtfelabhakgcifaaGreat.QFnExactAnswers Go.Proofs.YtfelabhakgcifaaGreatW.PrintWords Go.Proofs.YtfelabhakgcifaaGreatW.PrintLast Go.Proofs.YtfelabhakgcifaaGreatW.PrintMore Go.Proofs.YtfelabhakgcifaaGreat.Mine Go.Proofs.YtfelabhakgcifaaGreat.Open Go.Proofs.YtfelabhakgcifaaGreat.Pure
attribute [local go_sem] max2_int min2_int max_two min_two max_three min_three max_four min_four

set_option maxHeartbeats 8000000 in
set_option maxRecDepth 100000 in
theorem laws_FnExactAnswers_out0 (A0_0 : Option Addr) (c0_0 : Nat) (l0_0 : List Int) (A1_0 : Option Addr) (c1_0 : Nat) (l1_0 : List Int) (A1_1 : Option Addr) (c1_1 : Nat) (l1_1 : List S79) (A2 : Option Addr) (c2 : Nat) (l2 : List S59) (w : World) (hr0_0 : Kd.C (Kd.int .i64) w A0_0 l0_0.length l0_0) (hc0_0 : l0_0.length ≤ c0_0) (hr1_0 : Kd.C (Kd.int .i64) w A1_0 l1_0.length l1_0) (hc1_0 : l1_0.length ≤ c1_0) (hr1_1 : Kd.C k79 w A1_1 l1_1.length l1_1) (hc1_1 : l1_1.length ≤ c1_1) (hr2 : Kd.C k59 w A2 l2.length l2) (hc2 : l2.length ≤ c2) (r0_0 : Int)
  (e0 : laws_szSchema.f l0_0 1048576 = some r0_0)
 (ct0 : r0_0 < 0) :
  Calls Tryz.prog 3 #[.agg #[.slice A0_0 l0_0.length c0_0], .agg #[.slice A1_0 l1_0.length c1_0, .slice A1_1 l1_1.length c1_1], .slice A2 l2.length c2] w fun e w' => e = .returned (.bool true) ∧ Below w.heap.size w w' := by
 have H0_0:=zA hr0_0
 have HC0_0:=zA hc0_0
 clear hr0_0 hc0_0
 have H1_0:=zA hr1_0
 have HC1_0:=zA hc1_0
 clear hr1_0 hc1_0
 have H1_1:=zA hr1_1
 have HC1_1:=zA hc1_1
 clear hr1_1 hc1_1
 have H2:=zA hr2
 have HC2:=zA hc2
 clear hr2 hc2
 have Ee0:=zA e0;clear e0
 have ct0b:=decide_eq_true (show r0_0 < 0 from ct0)
 clear ct0
 have HB:=zA (Below.refl w.heap.size w)
 have hu24:=Tryz.underlying24
 have hu27:=Tryz.underlying27
 go_enter Tryz.func3,Tryz.ntmps3
 go_wp2_with (first|((with_reducible refine gate_dst (N:=3) rfl ?_);refine hold ?_))
 unfold Hold
 refine box_event ?hg (N:=3) ?hd (cs:=#[.slice A0_0 l0_0.length c0_0]) (t:=24) ?hr ?_
 case hd => rfl
 case hg => rfl
 case hr => first|(go_simp;done)|(go_simp;rfl)
 intro g1 hg w1_ hbox hb
 have Bg1:=zA hbox
 have Gg1:=zA (show w.heap.size ≤ g1 ∧ g1 < w1_.heap.size from ⟨by rw [hg];exact Nat.le_refl _,blk_lt hbox⟩)
 clear hbox hg
 have Z1_:=zA (show w.heap.size ≤ w1_.heap.size from hb.size)
 replace HB:=zA (zJb HB.out hb)
 have hxg1_0:=zc (.slice A0_0 l0_0.length c0_0) Bg1 0 rfl
 have hfg1_0:=blk_frozen Bg1.out 0
 clear hb
 go_wp2_with (first|((with_reducible refine gate_dst (N:=4) rfl ?_);refine hold ?_))
 unfold Hold
 refine box_event ?hg (N:=4) ?hd (cs:=#[.slice A1_0 l1_0.length c1_0,.slice A1_1 l1_1.length c1_1]) (t:=27) ?hr ?_
 case hd => rfl
 case hg => rfl
 case hr => first|(go_simp;done)|(go_simp;rfl)
 intro g2 hg w2_ hbox hb
 have Bg2:=zA hbox
 have Gg2:=zA (show w1_.heap.size ≤ g2 ∧ g2 < w2_.heap.size from ⟨by rw [hg];exact Nat.le_refl _,blk_lt hbox⟩)
 clear hbox hg
 have Z2_:=zA (show w1_.heap.size ≤ w2_.heap.size from hb.size)
 replace Bg1:=zA (zQ Bg1.out hb)
 replace HB:=zA (zJb HB.out hb)
 clear hxg1_0
 clear hfg1_0
 have hxg1_0:=zc (.slice A0_0 l0_0.length c0_0) Bg1 0 rfl
 have hfg1_0:=blk_frozen Bg1.out 0
 have hxg2_0:=zc (.slice A1_0 l1_0.length c1_0) Bg2 0 rfl
 have hxg2_1:=zc (.slice A1_1 l1_1.length c1_1) Bg2 1 rfl
 have hfg2_0:=blk_frozen Bg2.out 0
 have hfg2_1:=blk_frozen Bg2.out 1
 clear hb
 go_wp2_with (first|(go_at_call 5;refine hold ?_))
 unfold Hold
 refine (laws_szSchema.calls _ _ l0_0 1048576 r0_0 _ (zKb H0_0.out HB.out) HC0_0.out Ee0.out).mono ?_
 rintro e w3_ ⟨rfl,hb⟩
 have Z3_:=zA (show w2_.heap.size ≤ w3_.heap.size from hb.size)
 replace Bg1:=zA (zQ Bg1.out hb)
 replace Bg2:=zA (zQ Bg2.out hb)
 replace HB:=zA (zJb HB.out hb)
 clear hxg1_0
 clear hfg1_0
 clear hxg2_0
 clear hxg2_1
 clear hfg2_0
 clear hfg2_1
 have hxg1_0:=zc (.slice A0_0 l0_0.length c0_0) Bg1 0 rfl
 have hfg1_0:=blk_frozen Bg1.out 0
 have hxg2_0:=zc (.slice A1_0 l1_0.length c1_0) Bg2 0 rfl
 have hxg2_1:=zc (.slice A1_1 l1_1.length c1_1) Bg2 1 rfl
 have hfg2_0:=blk_frozen Bg2.out 0
 have hfg2_1:=blk_frozen Bg2.out 1
 clear hb
 go_wp2
 go_ret
 exact ⟨rfl,HB.out⟩
set_option maxHeartbeats 8000000 in
set_option maxRecDepth 100000 in
theorem laws_FnExactAnswers_out1 (A0_0 : Option Addr) (c0_0 : Nat) (l0_0 : List Int) (A1_0 : Option Addr) (c1_0 : Nat) (l1_0 : List Int) (A1_1 : Option Addr) (c1_1 : Nat) (l1_1 : List S79) (A2 : Option Addr) (c2 : Nat) (l2 : List S59) (w : World) (hr0_0 : Kd.C (Kd.int .i64) w A0_0 l0_0.length l0_0) (hc0_0 : l0_0.length ≤ c0_0) (hr1_0 : Kd.C (Kd.int .i64) w A1_0 l1_0.length l1_0) (hc1_0 : l1_0.length ≤ c1_0) (hr1_1 : Kd.C k79 w A1_1 l1_1.length l1_1) (hc1_1 : l1_1.length ≤ c1_1) (hr2 : Kd.C k59 w A2 l2.length l2) (hc2 : l2.length ≤ c2) (r0_0 : Int) (r2_0 : Int)
  (e0 : laws_szSchema.f l0_0 1048576 = some r0_0)
 (ct0 : ¬ r0_0 < 0)
 (e2 : ∃ k,laws_szQuery.f k l1_0 l1_1 r0_0 = some r2_0)
 (ct1 : r2_0 < 0) :
  Calls Tryz.prog 3 #[.agg #[.slice A0_0 l0_0.length c0_0], .agg #[.slice A1_0 l1_0.length c1_0, .slice A1_1 l1_1.length c1_1], .slice A2 l2.length c2] w fun e w' => e = .returned (.bool true) ∧ Below w.heap.size w w' := by
 have H0_0:=zA hr0_0
 have HC0_0:=zA hc0_0
 clear hr0_0 hc0_0
 have H1_0:=zA hr1_0
 have HC1_0:=zA hc1_0
 clear hr1_0 hc1_0
 have H1_1:=zA hr1_1
 have HC1_1:=zA hc1_1
 clear hr1_1 hc1_1
 have H2:=zA hr2
 have HC2:=zA hc2
 clear hr2 hc2
 have Ee0:=zA e0;clear e0
 have ct0b:=decide_eq_false (show ¬ r0_0 < 0 from ct0)
 clear ct0
 obtain ⟨ke2,q_⟩:=e2;have Ee2:=zA q_;clear q_
 have ct1b:=decide_eq_true (show r2_0 < 0 from ct1)
 clear ct1
 have HB:=zA (Below.refl w.heap.size w)
 have hu24:=Tryz.underlying24
 have hu27:=Tryz.underlying27
 go_enter Tryz.func3,Tryz.ntmps3
 go_wp2_with (first|((with_reducible refine gate_dst (N:=3) rfl ?_);refine hold ?_))
 unfold Hold
 refine box_event ?hg (N:=3) ?hd (cs:=#[.slice A0_0 l0_0.length c0_0]) (t:=24) ?hr ?_
 case hd => rfl
 case hg => rfl
 case hr => first|(go_simp;done)|(go_simp;rfl)
 intro g1 hg w1_ hbox hb
 have Bg1:=zA hbox
 have Gg1:=zA (show w.heap.size ≤ g1 ∧ g1 < w1_.heap.size from ⟨by rw [hg];exact Nat.le_refl _,blk_lt hbox⟩)
 clear hbox hg
 have Z1_:=zA (show w.heap.size ≤ w1_.heap.size from hb.size)
 replace HB:=zA (zJb HB.out hb)
 have hxg1_0:=zc (.slice A0_0 l0_0.length c0_0) Bg1 0 rfl
 have hfg1_0:=blk_frozen Bg1.out 0
 clear hb
 go_wp2_with (first|((with_reducible refine gate_dst (N:=4) rfl ?_);refine hold ?_))
 unfold Hold
 refine box_event ?hg (N:=4) ?hd (cs:=#[.slice A1_0 l1_0.length c1_0,.slice A1_1 l1_1.length c1_1]) (t:=27) ?hr ?_
 case hd => rfl
 case hg => rfl
 case hr => first|(go_simp;done)|(go_simp;rfl)
 intro g2 hg w2_ hbox hb
 have Bg2:=zA hbox
 have Gg2:=zA (show w1_.heap.size ≤ g2 ∧ g2 < w2_.heap.size from ⟨by rw [hg];exact Nat.le_refl _,blk_lt hbox⟩)
 clear hbox hg
 have Z2_:=zA (show w1_.heap.size ≤ w2_.heap.size from hb.size)
 replace Bg1:=zA (zQ Bg1.out hb)
 replace HB:=zA (zJb HB.out hb)
 clear hxg1_0
 clear hfg1_0
 have hxg1_0:=zc (.slice A0_0 l0_0.length c0_0) Bg1 0 rfl
 have hfg1_0:=blk_frozen Bg1.out 0
 have hxg2_0:=zc (.slice A1_0 l1_0.length c1_0) Bg2 0 rfl
 have hxg2_1:=zc (.slice A1_1 l1_1.length c1_1) Bg2 1 rfl
 have hfg2_0:=blk_frozen Bg2.out 0
 have hfg2_1:=blk_frozen Bg2.out 1
 clear hb
 go_wp2_with (first|(go_at_call 5;refine hold ?_))
 unfold Hold
 refine (laws_szSchema.calls _ _ l0_0 1048576 r0_0 _ (zKb H0_0.out HB.out) HC0_0.out Ee0.out).mono ?_
 rintro e w3_ ⟨rfl,hb⟩
 have Z3_:=zA (show w2_.heap.size ≤ w3_.heap.size from hb.size)
 replace Bg1:=zA (zQ Bg1.out hb)
 replace Bg2:=zA (zQ Bg2.out hb)
 replace HB:=zA (zJb HB.out hb)
 clear hxg1_0
 clear hfg1_0
 clear hxg2_0
 clear hxg2_1
 clear hfg2_0
 clear hfg2_1
 have hxg1_0:=zc (.slice A0_0 l0_0.length c0_0) Bg1 0 rfl
 have hfg1_0:=blk_frozen Bg1.out 0
 have hxg2_0:=zc (.slice A1_0 l1_0.length c1_0) Bg2 0 rfl
 have hxg2_1:=zc (.slice A1_1 l1_1.length c1_1) Bg2 1 rfl
 have hfg2_0:=blk_frozen Bg2.out 0
 have hfg2_1:=blk_frozen Bg2.out 1
 clear hb
 go_wp2_with (first|(go_at_call 6;refine hold ?_))
 unfold Hold
 refine (laws_szQuery.calls ke2 _ _ l1_0 _ _ l1_1 r0_0 r2_0 _ (zKb H1_0.out HB.out) HC1_0.out (zKb H1_1.out HB.out) HC1_1.out Ee2.out).mono ?_
 rintro e w4_ ⟨rfl,hb⟩
 have Z4_:=zA (show w3_.heap.size ≤ w4_.heap.size from hb.size)
 replace Bg1:=zA (zQ Bg1.out hb)
 replace Bg2:=zA (zQ Bg2.out hb)
 replace HB:=zA (zJb HB.out hb)
 clear hxg1_0
 clear hfg1_0
 clear hxg2_0
 clear hxg2_1
 clear hfg2_0
 clear hfg2_1
 have hxg1_0:=zc (.slice A0_0 l0_0.length c0_0) Bg1 0 rfl
 have hfg1_0:=blk_frozen Bg1.out 0
 have hxg2_0:=zc (.slice A1_0 l1_0.length c1_0) Bg2 0 rfl
 have hxg2_1:=zc (.slice A1_1 l1_1.length c1_1) Bg2 1 rfl
 have hfg2_0:=blk_frozen Bg2.out 0
 have hfg2_1:=blk_frozen Bg2.out 1
 clear hb
 go_wp2
 go_ret
 exact ⟨rfl,HB.out⟩
set_option maxHeartbeats 8000000 in
set_option maxRecDepth 100000 in
theorem laws_FnExactAnswers_out2 (A0_0 : Option Addr) (c0_0 : Nat) (l0_0 : List Int) (A1_0 : Option Addr) (c1_0 : Nat) (l1_0 : List Int) (A1_1 : Option Addr) (c1_1 : Nat) (l1_1 : List S79) (A2 : Option Addr) (c2 : Nat) (l2 : List S59) (w : World) (hr0_0 : Kd.C (Kd.int .i64) w A0_0 l0_0.length l0_0) (hc0_0 : l0_0.length ≤ c0_0) (hr1_0 : Kd.C (Kd.int .i64) w A1_0 l1_0.length l1_0) (hc1_0 : l1_0.length ≤ c1_0) (hr1_1 : Kd.C k79 w A1_1 l1_1.length l1_1) (hc1_1 : l1_1.length ≤ c1_1) (hr2 : Kd.C k59 w A2 l2.length l2) (hc2 : l2.length ≤ c2) (r0_0 : Int) (r2_0 : Int) (r4_0 : Int)
  (e0 : laws_szSchema.f l0_0 1048576 = some r0_0)
 (ct0 : ¬ r0_0 < 0)
 (e2 : ∃ k,laws_szQuery.f k l1_0 l1_1 r0_0 = some r2_0)
 (ct1 : ¬ r2_0 < 0)
 (e4 : ∃ k,laws_szFactS.f k l2 r2_0 = some r4_0)
 (ct2 : r4_0 < 0) :
  Calls Tryz.prog 3 #[.agg #[.slice A0_0 l0_0.length c0_0], .agg #[.slice A1_0 l1_0.length c1_0, .slice A1_1 l1_1.length c1_1], .slice A2 l2.length c2] w fun e w' => e = .returned (.bool true) ∧ Below w.heap.size w w' := by
 have H0_0:=zA hr0_0
 have HC0_0:=zA hc0_0
 clear hr0_0 hc0_0
 have H1_0:=zA hr1_0
 have HC1_0:=zA hc1_0
 clear hr1_0 hc1_0
 have H1_1:=zA hr1_1
 have HC1_1:=zA hc1_1
 clear hr1_1 hc1_1
 have H2:=zA hr2
 have HC2:=zA hc2
 clear hr2 hc2
 have Ee0:=zA e0;clear e0
 have ct0b:=decide_eq_false (show ¬ r0_0 < 0 from ct0)
 clear ct0
 obtain ⟨ke2,q_⟩:=e2;have Ee2:=zA q_;clear q_
 have ct1b:=decide_eq_false (show ¬ r2_0 < 0 from ct1)
 clear ct1
 obtain ⟨ke4,q_⟩:=e4;have Ee4:=zA q_;clear q_
 have ct2b:=decide_eq_true (show r4_0 < 0 from ct2)
 clear ct2
 have HB:=zA (Below.refl w.heap.size w)
 have hu24:=Tryz.underlying24
 have hu27:=Tryz.underlying27
 go_enter Tryz.func3,Tryz.ntmps3
 go_wp2_with (first|((with_reducible refine gate_dst (N:=3) rfl ?_);refine hold ?_))
 unfold Hold
 refine box_event ?hg (N:=3) ?hd (cs:=#[.slice A0_0 l0_0.length c0_0]) (t:=24) ?hr ?_
 case hd => rfl
 case hg => rfl
 case hr => first|(go_simp;done)|(go_simp;rfl)
 intro g1 hg w1_ hbox hb
 have Bg1:=zA hbox
 have Gg1:=zA (show w.heap.size ≤ g1 ∧ g1 < w1_.heap.size from ⟨by rw [hg];exact Nat.le_refl _,blk_lt hbox⟩)
 clear hbox hg
 have Z1_:=zA (show w.heap.size ≤ w1_.heap.size from hb.size)
 replace HB:=zA (zJb HB.out hb)
 have hxg1_0:=zc (.slice A0_0 l0_0.length c0_0) Bg1 0 rfl
 have hfg1_0:=blk_frozen Bg1.out 0
 clear hb
 go_wp2_with (first|((with_reducible refine gate_dst (N:=4) rfl ?_);refine hold ?_))
 unfold Hold
 refine box_event ?hg (N:=4) ?hd (cs:=#[.slice A1_0 l1_0.length c1_0,.slice A1_1 l1_1.length c1_1]) (t:=27) ?hr ?_
 case hd => rfl
 case hg => rfl
 case hr => first|(go_simp;done)|(go_simp;rfl)
 intro g2 hg w2_ hbox hb
 have Bg2:=zA hbox
 have Gg2:=zA (show w1_.heap.size ≤ g2 ∧ g2 < w2_.heap.size from ⟨by rw [hg];exact Nat.le_refl _,blk_lt hbox⟩)
 clear hbox hg
 have Z2_:=zA (show w1_.heap.size ≤ w2_.heap.size from hb.size)
 replace Bg1:=zA (zQ Bg1.out hb)
 replace HB:=zA (zJb HB.out hb)
 clear hxg1_0
 clear hfg1_0
 have hxg1_0:=zc (.slice A0_0 l0_0.length c0_0) Bg1 0 rfl
 have hfg1_0:=blk_frozen Bg1.out 0
 have hxg2_0:=zc (.slice A1_0 l1_0.length c1_0) Bg2 0 rfl
 have hxg2_1:=zc (.slice A1_1 l1_1.length c1_1) Bg2 1 rfl
 have hfg2_0:=blk_frozen Bg2.out 0
 have hfg2_1:=blk_frozen Bg2.out 1
 clear hb
 go_wp2_with (first|(go_at_call 5;refine hold ?_))
 unfold Hold
 refine (laws_szSchema.calls _ _ l0_0 1048576 r0_0 _ (zKb H0_0.out HB.out) HC0_0.out Ee0.out).mono ?_
 rintro e w3_ ⟨rfl,hb⟩
 have Z3_:=zA (show w2_.heap.size ≤ w3_.heap.size from hb.size)
 replace Bg1:=zA (zQ Bg1.out hb)
 replace Bg2:=zA (zQ Bg2.out hb)
 replace HB:=zA (zJb HB.out hb)
 clear hxg1_0
 clear hfg1_0
 clear hxg2_0
 clear hxg2_1
 clear hfg2_0
 clear hfg2_1
 have hxg1_0:=zc (.slice A0_0 l0_0.length c0_0) Bg1 0 rfl
 have hfg1_0:=blk_frozen Bg1.out 0
 have hxg2_0:=zc (.slice A1_0 l1_0.length c1_0) Bg2 0 rfl
 have hxg2_1:=zc (.slice A1_1 l1_1.length c1_1) Bg2 1 rfl
 have hfg2_0:=blk_frozen Bg2.out 0
 have hfg2_1:=blk_frozen Bg2.out 1
 clear hb
 go_wp2_with (first|(go_at_call 6;refine hold ?_))
 unfold Hold
 refine (laws_szQuery.calls ke2 _ _ l1_0 _ _ l1_1 r0_0 r2_0 _ (zKb H1_0.out HB.out) HC1_0.out (zKb H1_1.out HB.out) HC1_1.out Ee2.out).mono ?_
 rintro e w4_ ⟨rfl,hb⟩
 have Z4_:=zA (show w3_.heap.size ≤ w4_.heap.size from hb.size)
 replace Bg1:=zA (zQ Bg1.out hb)
 replace Bg2:=zA (zQ Bg2.out hb)
 replace HB:=zA (zJb HB.out hb)
 clear hxg1_0
 clear hfg1_0
 clear hxg2_0
 clear hxg2_1
 clear hfg2_0
 clear hfg2_1
 have hxg1_0:=zc (.slice A0_0 l0_0.length c0_0) Bg1 0 rfl
 have hfg1_0:=blk_frozen Bg1.out 0
 have hxg2_0:=zc (.slice A1_0 l1_0.length c1_0) Bg2 0 rfl
 have hxg2_1:=zc (.slice A1_1 l1_1.length c1_1) Bg2 1 rfl
 have hfg2_0:=blk_frozen Bg2.out 0
 have hfg2_1:=blk_frozen Bg2.out 1
 clear hb
 go_wp2_with (first|(go_at_call 7;refine hold ?_))
 unfold Hold
 refine (laws_szFactS.calls ke4 _ _ l2 r2_0 r4_0 _ (zKb H2.out HB.out) HC2.out Ee4.out).mono ?_
 rintro e w5_ ⟨rfl,hb⟩
 have Z5_:=zA (show w4_.heap.size ≤ w5_.heap.size from hb.size)
 replace Bg1:=zA (zQ Bg1.out hb)
 replace Bg2:=zA (zQ Bg2.out hb)
 replace HB:=zA (zJb HB.out hb)
 clear hxg1_0
 clear hfg1_0
 clear hxg2_0
 clear hxg2_1
 clear hfg2_0
 clear hfg2_1
 have hxg1_0:=zc (.slice A0_0 l0_0.length c0_0) Bg1 0 rfl
 have hfg1_0:=blk_frozen Bg1.out 0
 have hxg2_0:=zc (.slice A1_0 l1_0.length c1_0) Bg2 0 rfl
 have hxg2_1:=zc (.slice A1_1 l1_1.length c1_1) Bg2 1 rfl
 have hfg2_0:=blk_frozen Bg2.out 0
 have hfg2_1:=blk_frozen Bg2.out 1
 clear hb
 go_wp2
 go_ret
 exact ⟨rfl,HB.out⟩
set_option maxHeartbeats 8000000 in
set_option maxRecDepth 100000 in
theorem laws_FnExactAnswers_walk (A0_0 : Option Addr) (c0_0 : Nat) (l0_0 : List Int) (A1_0 : Option Addr) (c1_0 : Nat) (l1_0 : List Int) (A1_1 : Option Addr) (c1_1 : Nat) (l1_1 : List S79) (A2 : Option Addr) (c2 : Nat) (l2 : List S59) (w : World) (hr0_0 : Kd.C (Kd.int .i64) w A0_0 l0_0.length l0_0) (hc0_0 : l0_0.length ≤ c0_0) (hr1_0 : Kd.C (Kd.int .i64) w A1_0 l1_0.length l1_0) (hc1_0 : l1_0.length ≤ c1_0) (hr1_1 : Kd.C k79 w A1_1 l1_1.length l1_1) (hc1_1 : l1_1.length ≤ c1_1) (hr2 : Kd.C k59 w A2 l2.length l2) (hc2 : l2.length ≤ c2) (r0_0 : Int) (r2_0 : Int) (r4_0 : Int) (r6_0 : List Int) (r7_0 : List Int) (r7_1 : List (S81)) (r8_0 : List (S64)) (r9_0 : List (List Int)) (r15_0 : Int) (r15_1 : List Int) (r16_0 : Int) (r16_1 : List Int) (r16_2 : List S81) (r17_0 : Int) (r17_1 : List S64) (r19_0 : Int) (r19_1 : List (List Int))
  (e0 : laws_szSchema.f l0_0 1048576 = some r0_0)
 (ct0 : ¬ r0_0 < 0)
 (e2 : ∃ k,laws_szQuery.f k l1_0 l1_1 r0_0 = some r2_0)
 (ct1 : ¬ r2_0 < 0)
 (e4 : ∃ k,laws_szFactS.f k l2 r2_0 = some r4_0)
 (ct2 : ¬ r4_0 < 0)
 (e6 : ∃ k,laws_toSchema.f k l0_0 = some r6_0)
 (e7 : ∃ k,laws_toQuery.f k l1_0 l1_1 = some (r7_0,r7_1))
 (e8 : ∃ k,laws_toFactS.f k l2 = some r8_0)
 (e9 : mAnswers r6_0 r7_0 r7_1 r8_0 = r9_0)
 (e9_hz0_ : (r6_0.length ≤ 1048576 ∧ r7_0.length ≤ 1048576 ∧ r7_1.length ≤ 1048576 ∧ r8_0.length ≤ 1048576) ∧ (∀ x ∈ r7_1,x.f1.length ≤ 1048576) ∧ ∀ x ∈ r8_0,x.f1.length ≤ 1048576)
 (e10 : mAnswers r6_0 r7_0 r7_1 r8_0 = r9_0)
 (e10_hz0_ : (r6_0.length ≤ 1048576 ∧ r7_0.length ≤ 1048576 ∧ r7_1.length ≤ 1048576 ∧ r8_0.length ≤ 1048576) ∧ (∀ x ∈ r7_1,x.f1.length ≤ 1048576) ∧ ∀ x ∈ r8_0,x.f1.length ≤ 1048576)
 (e11 : ∃ k,laws_eqIntSS.f k r9_0 r9_0 = some true)
 (e12 : ∃ k,laws_eqSchema.f k r6_0 r6_0 = some true)
 (e13 : ∃ k,laws_eqQuery.f k r7_0 r7_1 r7_0 r7_1 = some true)
 (e14 : ∃ k,laws_eqFactS.f k r8_0 r8_0 = some true)
 (e15 : ∃ k,laws_markSchema.f k r6_0 1 = some (r15_0,r15_1))
 (e16 : mkQ r7_0 r7_1 r15_0 = (r16_0,r16_1,r16_2))
 (e16_hz0_ : (0 ≤ r15_0 ∧ r15_0 + (r7_0.length : Int) + (szA r7_1 : Int) ≤ 4611686018427387904) ∧ r7_0.length ≤ 17592186044416 ∧ r7_1.length ≤ 17592186044416 ∧ ∀ x ∈ r7_1,x.f1.length ≤ 17592186044416)
 (e17 : mkF r8_0 r16_0 = (r17_1,r17_0))
 (e17_hz0_ : (0 ≤ r16_0 ∧ r16_0 + (szF r8_0 : Int) ≤ 4611686018427387904) ∧ r8_0.length ≤ 17592186044416 ∧ ∀ x ∈ r8_0,x.f1.length ≤ 17592186044416)
 (ct3 : ¬ r17_0 < 0)
 (e19 : mkR r9_0 1 = (r19_1,r19_0))
 (e19_hz0_ : (0 ≤ (1 : Int) ∧ (1 : Int) + (szR r9_0 : Int) ≤ 4611686018427387904) ∧ r9_0.length ≤ 17592186044416 ∧ ∀ x ∈ r9_0,x.length ≤ 17592186044416)
 (e20 : ∃ k,laws_heldIntSS.f k r19_1 1 = some r19_0)
 (ct4 : ¬ r19_0 < 0) :
  Calls Tryz.prog 3 #[.agg #[.slice A0_0 l0_0.length c0_0], .agg #[.slice A1_0 l1_0.length c1_0, .slice A1_1 l1_1.length c1_1], .slice A2 l2.length c2] w fun e w' => e = .returned (.bool true) ∧ Below w.heap.size w w' := by
 have H0_0:=zA hr0_0
 have HC0_0:=zA hc0_0
 clear hr0_0 hc0_0
 have H1_0:=zA hr1_0
 have HC1_0:=zA hc1_0
 clear hr1_0 hc1_0
 have H1_1:=zA hr1_1
 have HC1_1:=zA hc1_1
 clear hr1_1 hc1_1
 have H2:=zA hr2
 have HC2:=zA hc2
 clear hr2 hc2
 have Ee0:=zA e0;clear e0
 have ct0b:=decide_eq_false (show ¬ r0_0 < 0 from ct0)
 clear ct0
 obtain ⟨ke2,q_⟩:=e2;have Ee2:=zA q_;clear q_
 have ct1b:=decide_eq_false (show ¬ r2_0 < 0 from ct1)
 clear ct1
 obtain ⟨ke4,q_⟩:=e4;have Ee4:=zA q_;clear q_
 have ct2b:=decide_eq_false (show ¬ r4_0 < 0 from ct2)
 clear ct2
 obtain ⟨ke6,q_⟩:=e6;have Ee6:=zA q_;clear q_
 obtain ⟨ke7,q_⟩:=e7;have Ee7:=zA q_;clear q_
 obtain ⟨ke8,q_⟩:=e8;have Ee8:=zA q_;clear q_
 have e9_hz0:=zA e9_hz0_;clear e9_hz0_
 have Ee9:=zA e9;clear e9
 have e10_hz0:=zA e10_hz0_;clear e10_hz0_
 have Ee10:=zA e10;clear e10
 obtain ⟨ke11,q_⟩:=e11;have Ee11:=zA q_;clear q_
 obtain ⟨ke12,q_⟩:=e12;have Ee12:=zA q_;clear q_
 obtain ⟨ke13,q_⟩:=e13;have Ee13:=zA q_;clear q_
 obtain ⟨ke14,q_⟩:=e14;have Ee14:=zA q_;clear q_
 obtain ⟨ke15,q_⟩:=e15;have Ee15:=zA q_;clear q_
 have e16_hz0:=zA e16_hz0_;clear e16_hz0_
 have Ee16:=zA e16;clear e16
 have e17_hz0:=zA e17_hz0_;clear e17_hz0_
 have Ee17:=zA e17;clear e17
 have ct3b:=decide_eq_false (show ¬ r17_0 < 0 from ct3)
 clear ct3
 have e19_hz0:=zA e19_hz0_;clear e19_hz0_
 have Ee19:=zA e19;clear e19
 obtain ⟨ke20,q_⟩:=e20;have Ee20:=zA q_;clear q_
 have ct4b:=decide_eq_false (show ¬ r19_0 < 0 from ct4)
 clear ct4
 have HB:=zA (Below.refl w.heap.size w)
 have hu34:=Tryz.underlying34
 have hu38:=Tryz.underlying38
 have hu24:=Tryz.underlying24
 have hu27:=Tryz.underlying27
 go_enter Tryz.func3,Tryz.ntmps3
 go_wp2_with (first|((with_reducible refine gate_dst (N:=3) rfl ?_);refine hold ?_))
 unfold Hold
 refine box_event ?hg (N:=3) ?hd (cs:=#[.slice A0_0 l0_0.length c0_0]) (t:=24) ?hr ?_
 case hd => rfl
 case hg => rfl
 case hr => first|(go_simp;done)|(go_simp;rfl)
 intro g1 hg w1_ hbox hb
 have Bg1:=zA hbox
 have Gg1:=zA (show w.heap.size ≤ g1 ∧ g1 < w1_.heap.size from ⟨by rw [hg];exact Nat.le_refl _,blk_lt hbox⟩)
 clear hbox hg
 have Z1_:=zA (show w.heap.size ≤ w1_.heap.size from hb.size)
 replace HB:=zA (zJb HB.out hb)
 have hxg1_0:=zc (.slice A0_0 l0_0.length c0_0) Bg1 0 rfl
 have hfg1_0:=blk_frozen Bg1.out 0
 clear hb
 go_wp2_with (first|((with_reducible refine gate_dst (N:=4) rfl ?_);refine hold ?_))
 unfold Hold
 refine box_event ?hg (N:=4) ?hd (cs:=#[.slice A1_0 l1_0.length c1_0,.slice A1_1 l1_1.length c1_1]) (t:=27) ?hr ?_
 case hd => rfl
 case hg => rfl
 case hr => first|(go_simp;done)|(go_simp;rfl)
 intro g2 hg w2_ hbox hb
 have Bg2:=zA hbox
 have Gg2:=zA (show w1_.heap.size ≤ g2 ∧ g2 < w2_.heap.size from ⟨by rw [hg];exact Nat.le_refl _,blk_lt hbox⟩)
 clear hbox hg
 have Z2_:=zA (show w1_.heap.size ≤ w2_.heap.size from hb.size)
 replace Bg1:=zA (zQ Bg1.out hb)
 replace HB:=zA (zJb HB.out hb)
 clear hxg1_0
 clear hfg1_0
 have hxg1_0:=zc (.slice A0_0 l0_0.length c0_0) Bg1 0 rfl
 have hfg1_0:=blk_frozen Bg1.out 0
 have hxg2_0:=zc (.slice A1_0 l1_0.length c1_0) Bg2 0 rfl
 have hxg2_1:=zc (.slice A1_1 l1_1.length c1_1) Bg2 1 rfl
 have hfg2_0:=blk_frozen Bg2.out 0
 have hfg2_1:=blk_frozen Bg2.out 1
 clear hb
 go_wp2_with (first|(go_at_call 5;refine hold ?_))
 unfold Hold
 refine (laws_szSchema.calls _ _ l0_0 1048576 r0_0 _ (zKb H0_0.out HB.out) HC0_0.out Ee0.out).mono ?_
 rintro e w3_ ⟨rfl,hb⟩
 have Z3_:=zA (show w2_.heap.size ≤ w3_.heap.size from hb.size)
 replace Bg1:=zA (zQ Bg1.out hb)
 replace Bg2:=zA (zQ Bg2.out hb)
 replace HB:=zA (zJb HB.out hb)
 clear hxg1_0
 clear hfg1_0
 clear hxg2_0
 clear hxg2_1
 clear hfg2_0
 clear hfg2_1
 have hxg1_0:=zc (.slice A0_0 l0_0.length c0_0) Bg1 0 rfl
 have hfg1_0:=blk_frozen Bg1.out 0
 have hxg2_0:=zc (.slice A1_0 l1_0.length c1_0) Bg2 0 rfl
 have hxg2_1:=zc (.slice A1_1 l1_1.length c1_1) Bg2 1 rfl
 have hfg2_0:=blk_frozen Bg2.out 0
 have hfg2_1:=blk_frozen Bg2.out 1
 clear hb
 go_wp2_with (first|(go_at_call 6;refine hold ?_))
 unfold Hold
 refine (laws_szQuery.calls ke2 _ _ l1_0 _ _ l1_1 r0_0 r2_0 _ (zKb H1_0.out HB.out) HC1_0.out (zKb H1_1.out HB.out) HC1_1.out Ee2.out).mono ?_
 rintro e w4_ ⟨rfl,hb⟩
 have Z4_:=zA (show w3_.heap.size ≤ w4_.heap.size from hb.size)
 replace Bg1:=zA (zQ Bg1.out hb)
 replace Bg2:=zA (zQ Bg2.out hb)
 replace HB:=zA (zJb HB.out hb)
 clear hxg1_0
 clear hfg1_0
 clear hxg2_0
 clear hxg2_1
 clear hfg2_0
 clear hfg2_1
 have hxg1_0:=zc (.slice A0_0 l0_0.length c0_0) Bg1 0 rfl
 have hfg1_0:=blk_frozen Bg1.out 0
 have hxg2_0:=zc (.slice A1_0 l1_0.length c1_0) Bg2 0 rfl
 have hxg2_1:=zc (.slice A1_1 l1_1.length c1_1) Bg2 1 rfl
 have hfg2_0:=blk_frozen Bg2.out 0
 have hfg2_1:=blk_frozen Bg2.out 1
 clear hb
 go_wp2_with (first|(go_at_call 7;refine hold ?_))
 unfold Hold
 refine (laws_szFactS.calls ke4 _ _ l2 r2_0 r4_0 _ (zKb H2.out HB.out) HC2.out Ee4.out).mono ?_
 rintro e w5_ ⟨rfl,hb⟩
 have Z5_:=zA (show w4_.heap.size ≤ w5_.heap.size from hb.size)
 replace Bg1:=zA (zQ Bg1.out hb)
 replace Bg2:=zA (zQ Bg2.out hb)
 replace HB:=zA (zJb HB.out hb)
 clear hxg1_0
 clear hfg1_0
 clear hxg2_0
 clear hxg2_1
 clear hfg2_0
 clear hfg2_1
 have hxg1_0:=zc (.slice A0_0 l0_0.length c0_0) Bg1 0 rfl
 have hfg1_0:=blk_frozen Bg1.out 0
 have hxg2_0:=zc (.slice A1_0 l1_0.length c1_0) Bg2 0 rfl
 have hxg2_1:=zc (.slice A1_1 l1_1.length c1_1) Bg2 1 rfl
 have hfg2_0:=blk_frozen Bg2.out 0
 have hfg2_1:=blk_frozen Bg2.out 1
 clear hb
 try go_wp2
 replace Bg1:=zA (zI Bg1.out)
 replace Bg2:=zA (zI Bg2.out)
 replace HB:=zA (zJ HB.out)
 clear hxg1_0
 clear hfg1_0
 clear hxg2_0
 clear hxg2_1
 clear hfg2_0
 clear hfg2_1
 have hz:=zA (show w5_.heap.size ≤ w5_.drew.heap.size from Nat.le_refl _)
 refine start_ (n:=8) (S:=fun w' => w'.cell? ⟨g1,0,none⟩ = some (.slice A0_0 l0_0.length c0_0) ∧ w'.cell? ⟨g2,0,none⟩ = some (.slice A1_0 l1_0.length c1_0) ∧ w'.cell? ⟨g2,1,none⟩ = some (.slice A1_1 l1_1.length c1_1)) (ds:=[]) #[yf,yf,yf,yf,yf,yf,yf,yf] (by kernel_rfl) rfl rfl ⟨(zP Bg1.out 0).trans rfl,(zP Bg2.out 0).trans rfl,(zP Bg2.out 1).trans rfl⟩ (fun hHeld => ?_)
 generalize w5_.drew = w6_ at Bg1 Bg2 HB hz hHeld ⊢
 have Z6_:=hz;clear hz
 refine zw 0 32 hHeld ?_;refine zw 2 34 hHeld ?_;refine zu 4 36 ?_
 refine one_ (i:=1) (N:=some 33) #[yt,yt,yt,yf,yt,yf,yf,yf] rfl rfl (by kernel_rfl) (by decide) (fun K hK => ?_)
 refine goes_ Tryz.func9 (by kernel_rfl) rfl #[.agg #[.slice A0_0 l0_0.length c0_0]] (by rfl) rfl rfl (by (try simp only [zCb,zMb,zNb]);first|done|rfl) ?_
 with_reducible refine (laws_toSchema.calls ke6 _ _ l0_0 r6_0 _ (zKb H0_0.out HB.out) HC0_0.out Ee6.out).mono ?_
 rintro e w7_ ⟨v7_0_,rfl,ho0,hb⟩
 refine ⟨_,rfl,?_⟩
 have O7_0:=zA (newR ho0 HB.out.size)
 have Z7_:=zA (show w6_.heap.size ≤ w7_.heap.size from hb.size)
 replace Bg1:=zA (zQ Bg1.out hb)
 replace Bg2:=zA (zQ Bg2.out hb)
 replace HB:=zA (zJb HB.out hb)
 have hxg1_0:=zc (.slice A0_0 l0_0.length c0_0) Bg1 0 rfl
 have hfg1_0:=blk_frozen Bg1.out 0
 have hxg2_0:=zc (.slice A1_0 l1_0.length c1_0) Bg2 0 rfl
 have hxg2_1:=zc (.slice A1_1 l1_1.length c1_1) Bg2 1 rfl
 have hfg2_0:=blk_frozen Bg2.out 0
 have hfg2_1:=blk_frozen Bg2.out 1
 clear hb ho0
 obtain ⟨A7_0_,c7_0_,eq_⟩:=Kd.R_slice O7_0.out
 subst eq_
 clear hxg1_0
 clear hfg1_0
 clear hxg2_0
 clear hxg2_1
 clear hfg2_0
 clear hfg2_1
 refine hK.out _ _ ⟨(zP Bg1.out 0).trans rfl,(zP Bg2.out 0).trans rfl,(zP Bg2.out 1).trans rfl⟩ (fun hHeld => ?_)
 clear hK K
 refine norm_ (a':=?_) ?_ ?_
 rotate_left
 ·show Act.put _ (some 33) _ = _;simp only [Act.put,zO,zEb,zFb,i64_w,i32_w];rfl
 refine one_ (i:=3) (N:=some 35) #[yt,yt,yt,yt,yt,yf,yf,yf] rfl rfl (by kernel_rfl) (by decide) (fun K hK => ?_)
 refine goes_ Tryz.func10 (by kernel_rfl) rfl #[.agg #[.slice A1_0 l1_0.length c1_0,.slice A1_1 l1_1.length c1_1]] (by rfl) rfl rfl (by (try simp only [zCb,zMb,zNb]);first|done|rfl) ?_
 with_reducible refine (laws_toQuery.calls ke7 _ _ l1_0 _ _ l1_1 r7_0 r7_1 _ (zKb H1_0.out HB.out) HC1_0.out (zKb H1_1.out HB.out) HC1_1.out Ee7.out).mono ?_
 rintro e w8_ ⟨v8_0_,v8_1_,rfl,ho0,ho1,hb⟩
 refine ⟨_,rfl,?_⟩
 have O8_0:=zA (newR ho0 HB.out.size)
 have O8_1:=zA (newS ho1 HB.out.size)
 have Z8_:=zA (show w7_.heap.size ≤ w8_.heap.size from hb.size)
 replace O7_0:=zA (zZ O7_0.out hb)
 replace Bg1:=zA (zQ Bg1.out hb)
 replace Bg2:=zA (zQ Bg2.out hb)
 replace HB:=zA (zJb HB.out hb)
 have hxg1_0:=zc (.slice A0_0 l0_0.length c0_0) Bg1 0 rfl
 have hfg1_0:=blk_frozen Bg1.out 0
 have hxg2_0:=zc (.slice A1_0 l1_0.length c1_0) Bg2 0 rfl
 have hxg2_1:=zc (.slice A1_1 l1_1.length c1_1) Bg2 1 rfl
 have hfg2_0:=blk_frozen Bg2.out 0
 have hfg2_1:=blk_frozen Bg2.out 1
 clear hb ho0 ho1
 obtain ⟨A8_0_,c8_0_,eq_⟩:=Kd.R_slice O8_0.out
 subst eq_
 obtain ⟨A8_1_,c8_1_,eq_⟩:=Kd.S_slice O8_1.out
 subst eq_
 clear hxg1_0
 clear hfg1_0
 clear hxg2_0
 clear hxg2_1
 clear hfg2_0
 clear hfg2_1
 refine hK.out _ _ ⟨(zP Bg1.out 0).trans rfl,(zP Bg2.out 0).trans rfl,(zP Bg2.out 1).trans rfl⟩ (fun hHeld => ?_)
 clear hK K
 refine norm_ (a':=?_) ?_ ?_
 rotate_left
 ·show Act.put _ (some 35) _ = _;simp only [Act.put,zO,zEb,zFb,i64_w,i32_w];rfl
 refine one_ (i:=5) (N:=some 37) #[yt,yt,yt,yt,yt,yt,yf,yf] rfl rfl (by kernel_rfl) (by decide) (fun K hK => ?_)
 refine goes_ Tryz.func11 (by kernel_rfl) rfl #[.slice A2 l2.length c2] (by rfl) rfl rfl (by (try simp only [zCb,zMb,zNb]);first|done|rfl) ?_
 with_reducible refine (laws_toFactS.calls ke8 _ _ l2 r8_0 _ (zKb H2.out HB.out) HC2.out Ee8.out).mono ?_
 rintro e w9_ ⟨v9_0_,rfl,ho0,hb⟩
 refine ⟨_,rfl,?_⟩
 have O9_0:=zA (newS ho0 HB.out.size)
 have Z9_:=zA (show w8_.heap.size ≤ w9_.heap.size from hb.size)
 replace O7_0:=zA (zZ O7_0.out hb)
 replace O8_0:=zA (zZ O8_0.out hb)
 replace O8_1:=zA (zY O8_1.out hb)
 replace Bg1:=zA (zQ Bg1.out hb)
 replace Bg2:=zA (zQ Bg2.out hb)
 replace HB:=zA (zJb HB.out hb)
 have hxg1_0:=zc (.slice A0_0 l0_0.length c0_0) Bg1 0 rfl
 have hfg1_0:=blk_frozen Bg1.out 0
 have hxg2_0:=zc (.slice A1_0 l1_0.length c1_0) Bg2 0 rfl
 have hxg2_1:=zc (.slice A1_1 l1_1.length c1_1) Bg2 1 rfl
 have hfg2_0:=blk_frozen Bg2.out 0
 have hfg2_1:=blk_frozen Bg2.out 1
 clear hb ho0
 obtain ⟨A9_0_,c9_0_,eq_⟩:=Kd.S_slice O9_0.out
 subst eq_
 clear hxg1_0
 clear hfg1_0
 clear hxg2_0
 clear hxg2_1
 clear hfg2_0
 clear hfg2_1
 refine hK.out _ _ ⟨(zP Bg1.out 0).trans rfl,(zP Bg2.out 0).trans rfl,(zP Bg2.out 1).trans rfl⟩ (fun hHeld => ?_)
 clear hK K
 refine norm_ (a':=?_) ?_ ?_
 rotate_left
 ·show Act.put _ (some 37) _ = _;simp only [Act.put,zO,zEb,zFb,i64_w,i32_w];rfl
 refine one_ (i:=6) (N:=some 38) #[yt,yt,yt,yt,yt,yt,yt,yf] rfl rfl (by kernel_rfl) (by decide) (fun K hK => ?_)
 refine goes_ Tryz.func8 (by kernel_rfl) rfl #[.agg #[.slice A7_0_ r6_0.length c7_0_],.agg #[.slice A8_0_ r7_0.length c8_0_,.slice A8_1_ r7_1.length c8_1_],.slice A9_0_ r8_0.length c9_0_] (by rfl) rfl rfl (by (try simp only [zCb,zMb,zNb]);first|done|rfl) ?_
 with_reducible refine (spec_Answers_calls _ _ r6_0 _ _ r7_0 _ _ r7_1 _ _ r8_0 r9_0 _ (Kd.R_reads' O7_0.out).2.2 (Kd.R_reads' O7_0.out).2.1 (Kd.R_reads' O8_0.out).2.2 (Kd.R_reads' O8_0.out).2.1 (Kd.S_reads' O8_1.out).2.2 (Kd.S_reads' O8_1.out).2.1 (Kd.S_reads' O9_0.out).2.2 (Kd.S_reads' O9_0.out).2.1 e9_hz0.out Ee9.out).mono ?_
 rintro e w10_ ⟨v10_0_,rfl,ho0,hb⟩
 refine ⟨_,rfl,?_⟩
 have O10_0:=zA (newN ho0 HB.out.size)
 have Z10_:=zA (show w9_.heap.size ≤ w10_.heap.size from hb.size)
 replace O7_0:=zA (zZ O7_0.out hb)
 replace O8_0:=zA (zZ O8_0.out hb)
 replace O8_1:=zA (zY O8_1.out hb)
 replace O9_0:=zA (zY O9_0.out hb)
 replace Bg1:=zA (zQ Bg1.out hb)
 replace Bg2:=zA (zQ Bg2.out hb)
 replace HB:=zA (zJb HB.out hb)
 have hxg1_0:=zc (.slice A0_0 l0_0.length c0_0) Bg1 0 rfl
 have hfg1_0:=blk_frozen Bg1.out 0
 have hxg2_0:=zc (.slice A1_0 l1_0.length c1_0) Bg2 0 rfl
 have hxg2_1:=zc (.slice A1_1 l1_1.length c1_1) Bg2 1 rfl
 have hfg2_0:=blk_frozen Bg2.out 0
 have hfg2_1:=blk_frozen Bg2.out 1
 clear hb ho0
 obtain ⟨A10_0_,c10_0_,eq_⟩:=Kd.N_slice O10_0.out
 subst eq_
 clear hxg1_0
 clear hfg1_0
 clear hxg2_0
 clear hxg2_1
 clear hfg2_0
 clear hfg2_1
 refine hK.out _ _ ⟨(zP Bg1.out 0).trans rfl,(zP Bg2.out 0).trans rfl,(zP Bg2.out 1).trans rfl⟩ (fun hHeld => ?_)
 clear hK K
 refine norm_ (a':=?_) ?_ ?_
 rotate_left
 ·show Act.put _ (some 38) _ = _;simp only [Act.put,zO,zEb,zFb,i64_w,i32_w];rfl
 refine zu 7 8 ?_
 refine done_ (by kernel_rfl) ?_
 have hxg1_0:=zc (.slice A0_0 l0_0.length c0_0) Bg1 0 rfl
 have hfg1_0:=blk_frozen Bg1.out 0
 have hxg2_0:=zc (.slice A1_0 l1_0.length c1_0) Bg2 0 rfl
 have hxg2_1:=zc (.slice A1_1 l1_1.length c1_1) Bg2 1 rfl
 have hfg2_0:=blk_frozen Bg2.out 0
 have hfg2_1:=blk_frozen Bg2.out 1
 go_wp2_with (first|(go_at_call 9;refine hold ?_))
 unfold Hold
 refine (laws_toSchema.calls ke6 _ _ l0_0 r6_0 _ (zKb H0_0.out HB.out) HC0_0.out Ee6.out).mono ?_
 rintro e w11_ ⟨v11_0_,rfl,ho0,hb⟩
 have O11_0:=zA (newR ho0 HB.out.size)
 have Z11_:=zA (show w10_.heap.size ≤ w11_.heap.size from hb.size)
 replace O7_0:=zA (zZ O7_0.out hb)
 replace O8_0:=zA (zZ O8_0.out hb)
 replace O8_1:=zA (zY O8_1.out hb)
 replace O9_0:=zA (zY O9_0.out hb)
 replace O10_0:=zA (Kd.N_below O10_0.out hb)
 replace Bg1:=zA (zQ Bg1.out hb)
 replace Bg2:=zA (zQ Bg2.out hb)
 replace HB:=zA (zJb HB.out hb)
 clear hxg1_0
 clear hfg1_0
 clear hxg2_0
 clear hxg2_1
 clear hfg2_0
 clear hfg2_1
 have hxg1_0:=zc (.slice A0_0 l0_0.length c0_0) Bg1 0 rfl
 have hfg1_0:=blk_frozen Bg1.out 0
 have hxg2_0:=zc (.slice A1_0 l1_0.length c1_0) Bg2 0 rfl
 have hxg2_1:=zc (.slice A1_1 l1_1.length c1_1) Bg2 1 rfl
 have hfg2_0:=blk_frozen Bg2.out 0
 have hfg2_1:=blk_frozen Bg2.out 1
 clear hb ho0
 obtain ⟨A11_0_,c11_0_,eq_⟩:=Kd.R_slice O11_0.out
 subst eq_
 go_wp2_with (first|((with_reducible refine gate_dst (N:=9) rfl ?_);refine hold ?_))
 unfold Hold
 refine box_event ?hg (N:=9) ?hd (cs:=#[.slice none 0 0]) (t:=34) ?hr ?_
 case hd => rfl
 case hg => rfl
 case hr => first|(go_simp;done)|(go_simp;rfl)
 intro g10 hg w12_ hbox hb
 have Bg10:=zA hbox
 have Gg10:=zA (show w11_.heap.size ≤ g10 ∧ g10 < w12_.heap.size from ⟨by rw [hg];exact Nat.le_refl _,blk_lt hbox⟩)
 clear hbox hg
 have Z12_:=zA (show w11_.heap.size ≤ w12_.heap.size from hb.size)
 replace O7_0:=zA (zZ O7_0.out hb)
 replace O8_0:=zA (zZ O8_0.out hb)
 replace O8_1:=zA (zY O8_1.out hb)
 replace O9_0:=zA (zY O9_0.out hb)
 replace O10_0:=zA (Kd.N_below O10_0.out hb)
 replace O11_0:=zA (zZ O11_0.out hb)
 replace Bg1:=zA (zQ Bg1.out hb)
 replace Bg2:=zA (zQ Bg2.out hb)
 replace HB:=zA (zJb HB.out hb)
 clear hxg1_0
 clear hfg1_0
 clear hxg2_0
 clear hxg2_1
 clear hfg2_0
 clear hfg2_1
 have hxg1_0:=zc (.slice A0_0 l0_0.length c0_0) Bg1 0 rfl
 have hfg1_0:=blk_frozen Bg1.out 0
 have hxg2_0:=zc (.slice A1_0 l1_0.length c1_0) Bg2 0 rfl
 have hxg2_1:=zc (.slice A1_1 l1_1.length c1_1) Bg2 1 rfl
 have hfg2_0:=blk_frozen Bg2.out 0
 have hfg2_1:=blk_frozen Bg2.out 1
 have hxg10_0:=zc (.slice none 0 0) Bg10 0 rfl
 have hfg10_0:=blk_frozen Bg10.out 0
 clear hb
 go_wp2_with (first|((with_reducible refine gate_store (t:=34) (p:=9) rfl ?_);refine hold ?_))
 unfold Hold
 refine store_event (t:=34) (p:=9) (v:=?vo12) (w1:=(w12_.setCell ⟨g10,0,none⟩ (.slice A11_0_ r6_0.length c11_0_))) ?hg ?ho ?hn ?hr ?_
 case ho => rfl
 case hg => rfl
 case hn => rfl
 case hr => first|(go_simp;done)|(go_simp;rfl)
 intro w13_ hw
 have hk : Kept w12_ w13_ (fun k => k = g10):=by rw [hw];exact kept_one _
 have hb0 : Below w.heap.size w w13_:=by rw [hw];exact (zB HB.out (Nat.le_trans (by have z1_:=Z1_.out;have z2_:=Z2_.out;have z3_:=Z3_.out;have z4_:=Z4_.out;have z5_:=Z5_.out;have z6_:=Z6_.out;have z7_:=Z7_.out;have z8_:=Z8_.out;have z9_:=Z9_.out;have z10_:=Z10_.out;have z11_:=Z11_.out;omega) Gg10.out.1))
 have n_:=zA (show w13_.heap[g10]? = some (.cells #[.slice A11_0_ r6_0.length c11_0_] 34 (0,0)) by rw [hw];exact (blk_put (cs:=#[.slice none 0 0]) (cs':=#[.slice A11_0_ r6_0.length c11_0_]) Bg10.out 0 _ rfl))
 clear Bg10;have Bg10:=n_;clear n_ hw
 have Z13_:=zA (show w12_.heap.size ≤ w13_.heap.size from hk.1)
 have n_:=zA (Kd.R_kept O7_0.out hk (fun k_ hk1 hk2 => by obtain ⟨a1_,a2_⟩:=hk1.1;have e_ : k_ = g10:=hk2;obtain ⟨b1_,b2_⟩:=Gg10.out;have z8_:=Z8_.out;have z9_:=Z9_.out;have z10_:=Z10_.out;have z11_:=Z11_.out;omega));clear O7_0;have O7_0:=n_;clear n_
 have n_:=zA (Kd.R_kept O8_0.out hk (fun k_ hk1 hk2 => by obtain ⟨a1_,a2_⟩:=hk1.1;have e_ : k_ = g10:=hk2;obtain ⟨b1_,b2_⟩:=Gg10.out;have z9_:=Z9_.out;have z10_:=Z10_.out;have z11_:=Z11_.out;omega));clear O8_0;have O8_0:=n_;clear n_
 have n_:=zA (Kd.S_kept O8_1.out hk (fun k_ hk1 hk2 => by obtain ⟨a1_,a2_⟩:=hk1.1;have e_ : k_ = g10:=hk2;obtain ⟨b1_,b2_⟩:=Gg10.out;have z9_:=Z9_.out;have z10_:=Z10_.out;have z11_:=Z11_.out;omega));clear O8_1;have O8_1:=n_;clear n_
 have n_:=zA (Kd.S_kept O9_0.out hk (fun k_ hk1 hk2 => by obtain ⟨a1_,a2_⟩:=hk1.1;have e_ : k_ = g10:=hk2;obtain ⟨b1_,b2_⟩:=Gg10.out;have z10_:=Z10_.out;have z11_:=Z11_.out;omega));clear O9_0;have O9_0:=n_;clear n_
 have n_:=zA (Kd.N_kept O10_0.out hk (fun k_ hk1 hk2 => by obtain ⟨a1_,a2_⟩:=hk1.1;have e_ : k_ = g10:=hk2;obtain ⟨b1_,b2_⟩:=Gg10.out;have z11_:=Z11_.out;omega));clear O10_0;have O10_0:=n_;clear n_
 have n_:=zA (Kd.R_kept O11_0.out hk (fun k_ hk1 hk2 => by obtain ⟨a1_,a2_⟩:=hk1.1;have e_ : k_ = g10:=hk2;obtain ⟨b1_,b2_⟩:=Gg10.out;omega));clear O11_0;have O11_0:=n_;clear n_
 have n_:=zA (blk_kept Bg1.out hk (fun hk2 => by obtain ⟨a1_,a2_⟩:=Gg1.out;have e_ : g1 = g10:=hk2;obtain ⟨b1_,b2_⟩:=Gg10.out;have z2_:=Z2_.out;have z3_:=Z3_.out;have z4_:=Z4_.out;have z5_:=Z5_.out;have z6_:=Z6_.out;have z7_:=Z7_.out;have z8_:=Z8_.out;have z9_:=Z9_.out;have z10_:=Z10_.out;have z11_:=Z11_.out;omega));clear Bg1;have Bg1:=n_;clear n_
 have n_:=zA (blk_kept Bg2.out hk (fun hk2 => by obtain ⟨a1_,a2_⟩:=Gg2.out;have e_ : g2 = g10:=hk2;obtain ⟨b1_,b2_⟩:=Gg10.out;have z3_:=Z3_.out;have z4_:=Z4_.out;have z5_:=Z5_.out;have z6_:=Z6_.out;have z7_:=Z7_.out;have z8_:=Z8_.out;have z9_:=Z9_.out;have z10_:=Z10_.out;have z11_:=Z11_.out;omega));clear Bg2;have Bg2:=n_;clear n_
 clear HB;have HB:=zA hb0
 clear hxg1_0
 clear hfg1_0
 clear hxg2_0
 clear hxg2_1
 clear hfg2_0
 clear hfg2_1
 clear hxg10_0
 clear hfg10_0
 have hxg1_0:=zc (.slice A0_0 l0_0.length c0_0) Bg1 0 rfl
 have hfg1_0:=blk_frozen Bg1.out 0
 have hxg2_0:=zc (.slice A1_0 l1_0.length c1_0) Bg2 0 rfl
 have hxg2_1:=zc (.slice A1_1 l1_1.length c1_1) Bg2 1 rfl
 have hfg2_0:=blk_frozen Bg2.out 0
 have hfg2_1:=blk_frozen Bg2.out 1
 have hxg10_0:=zc (.slice A11_0_ r6_0.length c11_0_) Bg10 0 rfl
 have hfg10_0:=blk_frozen Bg10.out 0
 clear hk hb0
 go_wp2_with (first|(go_at_call 10;refine hold ?_))
 unfold Hold
 refine (laws_toQuery.calls ke7 _ _ l1_0 _ _ l1_1 r7_0 r7_1 _ (zKb H1_0.out HB.out) HC1_0.out (zKb H1_1.out HB.out) HC1_1.out Ee7.out).mono ?_
 rintro e w14_ ⟨v14_0_,v14_1_,rfl,ho0,ho1,hb⟩
 have O14_0:=zA (newR ho0 HB.out.size)
 have O14_1:=zA (newS ho1 HB.out.size)
 have Z14_:=zA (show w13_.heap.size ≤ w14_.heap.size from hb.size)
 replace O7_0:=zA (zZ O7_0.out hb)
 replace O8_0:=zA (zZ O8_0.out hb)
 replace O8_1:=zA (zY O8_1.out hb)
 replace O9_0:=zA (zY O9_0.out hb)
 replace O10_0:=zA (Kd.N_below O10_0.out hb)
 replace O11_0:=zA (zZ O11_0.out hb)
 replace Bg1:=zA (zQ Bg1.out hb)
 replace Bg2:=zA (zQ Bg2.out hb)
 replace Bg10:=zA (zQ Bg10.out hb)
 replace HB:=zA (zJb HB.out hb)
 clear hxg1_0
 clear hfg1_0
 clear hxg2_0
 clear hxg2_1
 clear hfg2_0
 clear hfg2_1
 clear hxg10_0
 clear hfg10_0
 have hxg1_0:=zc (.slice A0_0 l0_0.length c0_0) Bg1 0 rfl
 have hfg1_0:=blk_frozen Bg1.out 0
 have hxg2_0:=zc (.slice A1_0 l1_0.length c1_0) Bg2 0 rfl
 have hxg2_1:=zc (.slice A1_1 l1_1.length c1_1) Bg2 1 rfl
 have hfg2_0:=blk_frozen Bg2.out 0
 have hfg2_1:=blk_frozen Bg2.out 1
 have hxg10_0:=zc (.slice A11_0_ r6_0.length c11_0_) Bg10 0 rfl
 have hfg10_0:=blk_frozen Bg10.out 0
 clear hb ho0 ho1
 obtain ⟨A14_0_,c14_0_,eq_⟩:=Kd.R_slice O14_0.out
 subst eq_
 obtain ⟨A14_1_,c14_1_,eq_⟩:=Kd.S_slice O14_1.out
 subst eq_
 go_wp2_with (first|((with_reducible refine gate_dst (N:=10) rfl ?_);refine hold ?_))
 unfold Hold
 refine box_event ?hg (N:=10) ?hd (cs:=#[.slice none 0 0,.slice none 0 0]) (t:=38) ?hr ?_
 case hd => rfl
 case hg => rfl
 case hr => first|(go_simp;done)|(go_simp;rfl)
 intro g11 hg w15_ hbox hb
 have Bg11:=zA hbox
 have Gg11:=zA (show w14_.heap.size ≤ g11 ∧ g11 < w15_.heap.size from ⟨by rw [hg];exact Nat.le_refl _,blk_lt hbox⟩)
 clear hbox hg
 have Z15_:=zA (show w14_.heap.size ≤ w15_.heap.size from hb.size)
 replace O7_0:=zA (zZ O7_0.out hb)
 replace O8_0:=zA (zZ O8_0.out hb)
 replace O8_1:=zA (zY O8_1.out hb)
 replace O9_0:=zA (zY O9_0.out hb)
 replace O10_0:=zA (Kd.N_below O10_0.out hb)
 replace O11_0:=zA (zZ O11_0.out hb)
 replace O14_0:=zA (zZ O14_0.out hb)
 replace O14_1:=zA (zY O14_1.out hb)
 replace Bg1:=zA (zQ Bg1.out hb)
 replace Bg2:=zA (zQ Bg2.out hb)
 replace Bg10:=zA (zQ Bg10.out hb)
 replace HB:=zA (zJb HB.out hb)
 clear hxg1_0
 clear hfg1_0
 clear hxg2_0
 clear hxg2_1
 clear hfg2_0
 clear hfg2_1
 clear hxg10_0
 clear hfg10_0
 have hxg1_0:=zc (.slice A0_0 l0_0.length c0_0) Bg1 0 rfl
 have hfg1_0:=blk_frozen Bg1.out 0
 have hxg2_0:=zc (.slice A1_0 l1_0.length c1_0) Bg2 0 rfl
 have hxg2_1:=zc (.slice A1_1 l1_1.length c1_1) Bg2 1 rfl
 have hfg2_0:=blk_frozen Bg2.out 0
 have hfg2_1:=blk_frozen Bg2.out 1
 have hxg10_0:=zc (.slice A11_0_ r6_0.length c11_0_) Bg10 0 rfl
 have hfg10_0:=blk_frozen Bg10.out 0
 have hxg11_0:=zc (.slice none 0 0) Bg11 0 rfl
 have hxg11_1:=zc (.slice none 0 0) Bg11 1 rfl
 have hfg11_0:=blk_frozen Bg11.out 0
 have hfg11_1:=blk_frozen Bg11.out 1
 clear hb
 go_wp2_with (first|((with_reducible refine gate_store (t:=38) (p:=10) rfl ?_);refine hold ?_))
 unfold Hold
 refine store_event (t:=38) (p:=10) (v:=?vo15) (w1:=((w15_.setCell ⟨g11,0,none⟩ (.slice A14_0_ r7_0.length c14_0_)).setCell ⟨g11,1,none⟩ (.slice A14_1_ r7_1.length c14_1_))) ?hg ?ho ?hn ?hr ?_
 case ho => rfl
 case hg => rfl
 case hn => rfl
 case hr => first|(go_simp;done)|(go_simp;rfl)
 intro w16_ hw
 have hk : Kept w15_ w16_ (fun k => k = g11):=by rw [hw];exact kept_two _ _
 have hb0 : Below w.heap.size w w16_:=by rw [hw];exact (zB (zB HB.out (Nat.le_trans (by have z1_:=Z1_.out;have z2_:=Z2_.out;have z3_:=Z3_.out;have z4_:=Z4_.out;have z5_:=Z5_.out;have z6_:=Z6_.out;have z7_:=Z7_.out;have z8_:=Z8_.out;have z9_:=Z9_.out;have z10_:=Z10_.out;have z11_:=Z11_.out;have z12_:=Z12_.out;have z13_:=Z13_.out;have z14_:=Z14_.out;omega) Gg11.out.1)) (Nat.le_trans (by have z1_:=Z1_.out;have z2_:=Z2_.out;have z3_:=Z3_.out;have z4_:=Z4_.out;have z5_:=Z5_.out;have z6_:=Z6_.out;have z7_:=Z7_.out;have z8_:=Z8_.out;have z9_:=Z9_.out;have z10_:=Z10_.out;have z11_:=Z11_.out;have z12_:=Z12_.out;have z13_:=Z13_.out;have z14_:=Z14_.out;omega) Gg11.out.1))
 have n_:=zA (show w16_.heap[g11]? = some (.cells #[.slice A14_0_ r7_0.length c14_0_,.slice A14_1_ r7_1.length c14_1_] 38 (0,0)) by rw [hw];exact (blk_put (cs:=#[.slice A14_0_ r7_0.length c14_0_,.slice none 0 0]) (cs':=#[.slice A14_0_ r7_0.length c14_0_,.slice A14_1_ r7_1.length c14_1_]) (blk_put (cs:=#[.slice none 0 0,.slice none 0 0]) (cs':=#[.slice A14_0_ r7_0.length c14_0_,.slice none 0 0]) Bg11.out 0 _ rfl) 1 _ rfl))
 clear Bg11;have Bg11:=n_;clear n_ hw
 have Z16_:=zA (show w15_.heap.size ≤ w16_.heap.size from hk.1)
 have n_:=zA (Kd.R_kept O7_0.out hk (fun k_ hk1 hk2 => by obtain ⟨a1_,a2_⟩:=hk1.1;have e_ : k_ = g11:=hk2;obtain ⟨b1_,b2_⟩:=Gg11.out;have z8_:=Z8_.out;have z9_:=Z9_.out;have z10_:=Z10_.out;have z11_:=Z11_.out;have z12_:=Z12_.out;have z13_:=Z13_.out;have z14_:=Z14_.out;omega));clear O7_0;have O7_0:=n_;clear n_
 have n_:=zA (Kd.R_kept O8_0.out hk (fun k_ hk1 hk2 => by obtain ⟨a1_,a2_⟩:=hk1.1;have e_ : k_ = g11:=hk2;obtain ⟨b1_,b2_⟩:=Gg11.out;have z9_:=Z9_.out;have z10_:=Z10_.out;have z11_:=Z11_.out;have z12_:=Z12_.out;have z13_:=Z13_.out;have z14_:=Z14_.out;omega));clear O8_0;have O8_0:=n_;clear n_
 have n_:=zA (Kd.S_kept O8_1.out hk (fun k_ hk1 hk2 => by obtain ⟨a1_,a2_⟩:=hk1.1;have e_ : k_ = g11:=hk2;obtain ⟨b1_,b2_⟩:=Gg11.out;have z9_:=Z9_.out;have z10_:=Z10_.out;have z11_:=Z11_.out;have z12_:=Z12_.out;have z13_:=Z13_.out;have z14_:=Z14_.out;omega));clear O8_1;have O8_1:=n_;clear n_
 have n_:=zA (Kd.S_kept O9_0.out hk (fun k_ hk1 hk2 => by obtain ⟨a1_,a2_⟩:=hk1.1;have e_ : k_ = g11:=hk2;obtain ⟨b1_,b2_⟩:=Gg11.out;have z10_:=Z10_.out;have z11_:=Z11_.out;have z12_:=Z12_.out;have z13_:=Z13_.out;have z14_:=Z14_.out;omega));clear O9_0;have O9_0:=n_;clear n_
 have n_:=zA (Kd.N_kept O10_0.out hk (fun k_ hk1 hk2 => by obtain ⟨a1_,a2_⟩:=hk1.1;have e_ : k_ = g11:=hk2;obtain ⟨b1_,b2_⟩:=Gg11.out;have z11_:=Z11_.out;have z12_:=Z12_.out;have z13_:=Z13_.out;have z14_:=Z14_.out;omega));clear O10_0;have O10_0:=n_;clear n_
 have n_:=zA (Kd.R_kept O11_0.out hk (fun k_ hk1 hk2 => by obtain ⟨a1_,a2_⟩:=hk1.1;have e_ : k_ = g11:=hk2;obtain ⟨b1_,b2_⟩:=Gg11.out;have z12_:=Z12_.out;have z13_:=Z13_.out;have z14_:=Z14_.out;omega));clear O11_0;have O11_0:=n_;clear n_
 have n_:=zA (Kd.R_kept O14_0.out hk (fun k_ hk1 hk2 => by obtain ⟨a1_,a2_⟩:=hk1.1;have e_ : k_ = g11:=hk2;obtain ⟨b1_,b2_⟩:=Gg11.out;omega));clear O14_0;have O14_0:=n_;clear n_
 have n_:=zA (Kd.S_kept O14_1.out hk (fun k_ hk1 hk2 => by obtain ⟨a1_,a2_⟩:=hk1.1;have e_ : k_ = g11:=hk2;obtain ⟨b1_,b2_⟩:=Gg11.out;omega));clear O14_1;have O14_1:=n_;clear n_
 have n_:=zA (blk_kept Bg1.out hk (fun hk2 => by obtain ⟨a1_,a2_⟩:=Gg1.out;have e_ : g1 = g11:=hk2;obtain ⟨b1_,b2_⟩:=Gg11.out;have z2_:=Z2_.out;have z3_:=Z3_.out;have z4_:=Z4_.out;have z5_:=Z5_.out;have z6_:=Z6_.out;have z7_:=Z7_.out;have z8_:=Z8_.out;have z9_:=Z9_.out;have z10_:=Z10_.out;have z11_:=Z11_.out;have z12_:=Z12_.out;have z13_:=Z13_.out;have z14_:=Z14_.out;omega));clear Bg1;have Bg1:=n_;clear n_
 have n_:=zA (blk_kept Bg2.out hk (fun hk2 => by obtain ⟨a1_,a2_⟩:=Gg2.out;have e_ : g2 = g11:=hk2;obtain ⟨b1_,b2_⟩:=Gg11.out;have z3_:=Z3_.out;have z4_:=Z4_.out;have z5_:=Z5_.out;have z6_:=Z6_.out;have z7_:=Z7_.out;have z8_:=Z8_.out;have z9_:=Z9_.out;have z10_:=Z10_.out;have z11_:=Z11_.out;have z12_:=Z12_.out;have z13_:=Z13_.out;have z14_:=Z14_.out;omega));clear Bg2;have Bg2:=n_;clear n_
 have n_:=zA (blk_kept Bg10.out hk (fun hk2 => by obtain ⟨a1_,a2_⟩:=Gg10.out;have e_ : g10 = g11:=hk2;obtain ⟨b1_,b2_⟩:=Gg11.out;have z13_:=Z13_.out;have z14_:=Z14_.out;omega));clear Bg10;have Bg10:=n_;clear n_
 clear HB;have HB:=zA hb0
 clear hxg1_0
 clear hfg1_0
 clear hxg2_0
 clear hxg2_1
 clear hfg2_0
 clear hfg2_1
 clear hxg10_0
 clear hfg10_0
 clear hxg11_0
 clear hxg11_1
 clear hfg11_0
 clear hfg11_1
 have hxg1_0:=zc (.slice A0_0 l0_0.length c0_0) Bg1 0 rfl
 have hfg1_0:=blk_frozen Bg1.out 0
 have hxg2_0:=zc (.slice A1_0 l1_0.length c1_0) Bg2 0 rfl
 have hxg2_1:=zc (.slice A1_1 l1_1.length c1_1) Bg2 1 rfl
 have hfg2_0:=blk_frozen Bg2.out 0
 have hfg2_1:=blk_frozen Bg2.out 1
 have hxg10_0:=zc (.slice A11_0_ r6_0.length c11_0_) Bg10 0 rfl
 have hfg10_0:=blk_frozen Bg10.out 0
 have hxg11_0:=zc (.slice A14_0_ r7_0.length c14_0_) Bg11 0 rfl
 have hxg11_1:=zc (.slice A14_1_ r7_1.length c14_1_) Bg11 1 rfl
 have hfg11_0:=blk_frozen Bg11.out 0
 have hfg11_1:=blk_frozen Bg11.out 1
 clear hk hb0
 go_wp2_with (first|(go_at_call 11;refine hold ?_))
 unfold Hold
 refine (laws_toFactS.calls ke8 _ _ l2 r8_0 _ (zKb H2.out HB.out) HC2.out Ee8.out).mono ?_
 rintro e w17_ ⟨v17_0_,rfl,ho0,hb⟩
 have O17_0:=zA (newS ho0 HB.out.size)
 have Z17_:=zA (show w16_.heap.size ≤ w17_.heap.size from hb.size)
 replace O7_0:=zA (zZ O7_0.out hb)
 replace O8_0:=zA (zZ O8_0.out hb)
 replace O8_1:=zA (zY O8_1.out hb)
 replace O9_0:=zA (zY O9_0.out hb)
 replace O10_0:=zA (Kd.N_below O10_0.out hb)
 replace O11_0:=zA (zZ O11_0.out hb)
 replace O14_0:=zA (zZ O14_0.out hb)
 replace O14_1:=zA (zY O14_1.out hb)
 replace Bg1:=zA (zQ Bg1.out hb)
 replace Bg2:=zA (zQ Bg2.out hb)
 replace Bg10:=zA (zQ Bg10.out hb)
 replace Bg11:=zA (zQ Bg11.out hb)
 replace HB:=zA (zJb HB.out hb)
 clear hxg1_0
 clear hfg1_0
 clear hxg2_0
 clear hxg2_1
 clear hfg2_0
 clear hfg2_1
 clear hxg10_0
 clear hfg10_0
 clear hxg11_0
 clear hxg11_1
 clear hfg11_0
 clear hfg11_1
 have hxg1_0:=zc (.slice A0_0 l0_0.length c0_0) Bg1 0 rfl
 have hfg1_0:=blk_frozen Bg1.out 0
 have hxg2_0:=zc (.slice A1_0 l1_0.length c1_0) Bg2 0 rfl
 have hxg2_1:=zc (.slice A1_1 l1_1.length c1_1) Bg2 1 rfl
 have hfg2_0:=blk_frozen Bg2.out 0
 have hfg2_1:=blk_frozen Bg2.out 1
 have hxg10_0:=zc (.slice A11_0_ r6_0.length c11_0_) Bg10 0 rfl
 have hfg10_0:=blk_frozen Bg10.out 0
 have hxg11_0:=zc (.slice A14_0_ r7_0.length c14_0_) Bg11 0 rfl
 have hxg11_1:=zc (.slice A14_1_ r7_1.length c14_1_) Bg11 1 rfl
 have hfg11_0:=blk_frozen Bg11.out 0
 have hfg11_1:=blk_frozen Bg11.out 1
 clear hb ho0
 obtain ⟨A17_0_,c17_0_,eq_⟩:=Kd.S_slice O17_0.out
 subst eq_
 go_wp2_with (first|(go_at_call 12;refine hold ?_))
 unfold Hold
 refine (impl_Answers_calls _ _ r6_0 _ _ r7_0 _ _ r7_1 _ _ r8_0 r9_0 _ (Kd.R_reads' O11_0.out).2.2 (Kd.R_reads' O11_0.out).2.1 (Kd.R_reads' O14_0.out).2.2 (Kd.R_reads' O14_0.out).2.1 (Kd.S_reads' O14_1.out).2.2 (Kd.S_reads' O14_1.out).2.1 (Kd.S_reads' O17_0.out).2.2 (Kd.S_reads' O17_0.out).2.1 e10_hz0.out Ee10.out).mono ?_
 rintro e w18_ ⟨v18_0_,rfl,ho0,hb⟩
 have O18_0:=zA (newS ho0 HB.out.size)
 have Z18_:=zA (show w17_.heap.size ≤ w18_.heap.size from hb.size)
 replace O7_0:=zA (zZ O7_0.out hb)
 replace O8_0:=zA (zZ O8_0.out hb)
 replace O8_1:=zA (zY O8_1.out hb)
 replace O9_0:=zA (zY O9_0.out hb)
 replace O10_0:=zA (Kd.N_below O10_0.out hb)
 replace O11_0:=zA (zZ O11_0.out hb)
 replace O14_0:=zA (zZ O14_0.out hb)
 replace O14_1:=zA (zY O14_1.out hb)
 replace O17_0:=zA (zY O17_0.out hb)
 replace Bg1:=zA (zQ Bg1.out hb)
 replace Bg2:=zA (zQ Bg2.out hb)
 replace Bg10:=zA (zQ Bg10.out hb)
 replace Bg11:=zA (zQ Bg11.out hb)
 replace HB:=zA (zJb HB.out hb)
 clear hxg1_0
 clear hfg1_0
 clear hxg2_0
 clear hxg2_1
 clear hfg2_0
 clear hfg2_1
 clear hxg10_0
 clear hfg10_0
 clear hxg11_0
 clear hxg11_1
 clear hfg11_0
 clear hfg11_1
 have hxg1_0:=zc (.slice A0_0 l0_0.length c0_0) Bg1 0 rfl
 have hfg1_0:=blk_frozen Bg1.out 0
 have hxg2_0:=zc (.slice A1_0 l1_0.length c1_0) Bg2 0 rfl
 have hxg2_1:=zc (.slice A1_1 l1_1.length c1_1) Bg2 1 rfl
 have hfg2_0:=blk_frozen Bg2.out 0
 have hfg2_1:=blk_frozen Bg2.out 1
 have hxg10_0:=zc (.slice A11_0_ r6_0.length c11_0_) Bg10 0 rfl
 have hfg10_0:=blk_frozen Bg10.out 0
 have hxg11_0:=zc (.slice A14_0_ r7_0.length c14_0_) Bg11 0 rfl
 have hxg11_1:=zc (.slice A14_1_ r7_1.length c14_1_) Bg11 1 rfl
 have hfg11_0:=blk_frozen Bg11.out 0
 have hfg11_1:=blk_frozen Bg11.out 1
 clear hb ho0
 obtain ⟨A18_0_,c18_0_,eq_⟩:=Kd.S_slice O18_0.out
 subst eq_
 go_wp2_with (first|(go_at_call 13;refine hold ?_))
 unfold Hold
 refine (laws_eqIntSS.calls ke11 _ _ r9_0 _ _ r9_0 true _ (Kd.S_reads' O18_0.out).2.2 (Kd.S_reads' O18_0.out).2.1 (Kd.N_reads' O10_0.out).2.2 (Kd.N_reads' O10_0.out).2.1 Ee11.out).mono ?_
 rintro e w19_ ⟨rfl,hd⟩
 have hb:=hd.below;clear hd
 have Z19_:=zA (show w18_.heap.size ≤ w19_.heap.size from hb.size)
 replace O7_0:=zA (zZ O7_0.out hb)
 replace O8_0:=zA (zZ O8_0.out hb)
 replace O8_1:=zA (zY O8_1.out hb)
 replace O9_0:=zA (zY O9_0.out hb)
 replace O10_0:=zA (Kd.N_below O10_0.out hb)
 replace O11_0:=zA (zZ O11_0.out hb)
 replace O14_0:=zA (zZ O14_0.out hb)
 replace O14_1:=zA (zY O14_1.out hb)
 replace O17_0:=zA (zY O17_0.out hb)
 replace O18_0:=zA (zY O18_0.out hb)
 replace Bg1:=zA (zQ Bg1.out hb)
 replace Bg2:=zA (zQ Bg2.out hb)
 replace Bg10:=zA (zQ Bg10.out hb)
 replace Bg11:=zA (zQ Bg11.out hb)
 replace HB:=zA (zJb HB.out hb)
 clear hxg1_0
 clear hfg1_0
 clear hxg2_0
 clear hxg2_1
 clear hfg2_0
 clear hfg2_1
 clear hxg10_0
 clear hfg10_0
 clear hxg11_0
 clear hxg11_1
 clear hfg11_0
 clear hfg11_1
 have hxg1_0:=zc (.slice A0_0 l0_0.length c0_0) Bg1 0 rfl
 have hfg1_0:=blk_frozen Bg1.out 0
 have hxg2_0:=zc (.slice A1_0 l1_0.length c1_0) Bg2 0 rfl
 have hxg2_1:=zc (.slice A1_1 l1_1.length c1_1) Bg2 1 rfl
 have hfg2_0:=blk_frozen Bg2.out 0
 have hfg2_1:=blk_frozen Bg2.out 1
 have hxg10_0:=zc (.slice A11_0_ r6_0.length c11_0_) Bg10 0 rfl
 have hfg10_0:=blk_frozen Bg10.out 0
 have hxg11_0:=zc (.slice A14_0_ r7_0.length c14_0_) Bg11 0 rfl
 have hxg11_1:=zc (.slice A14_1_ r7_1.length c14_1_) Bg11 1 rfl
 have hfg11_0:=blk_frozen Bg11.out 0
 have hfg11_1:=blk_frozen Bg11.out 1
 clear hb
 try go_wp2
 replace O7_0:=zA (zH O7_0.out)
 replace O8_0:=zA (zH O8_0.out)
 replace O8_1:=zA (zN O8_1.out)
 replace O9_0:=zA (zN O9_0.out)
 replace O10_0:=zA (Kd.N_drew O10_0.out)
 replace O11_0:=zA (zH O11_0.out)
 replace O14_0:=zA (zH O14_0.out)
 replace O14_1:=zA (zN O14_1.out)
 replace O17_0:=zA (zN O17_0.out)
 replace O18_0:=zA (zN O18_0.out)
 replace Bg1:=zA (zI Bg1.out)
 replace Bg2:=zA (zI Bg2.out)
 replace Bg10:=zA (zI Bg10.out)
 replace Bg11:=zA (zI Bg11.out)
 replace HB:=zA (zJ HB.out)
 clear hxg1_0
 clear hfg1_0
 clear hxg2_0
 clear hxg2_1
 clear hfg2_0
 clear hfg2_1
 clear hxg10_0
 clear hfg10_0
 clear hxg11_0
 clear hxg11_1
 clear hfg11_0
 clear hfg11_1
 have hz:=zA (show w19_.heap.size ≤ w19_.drew.heap.size from Nat.le_refl _)
 refine start_ (n:=5) (S:=fun w' => w'.cell? ⟨g10,0,none⟩ = some (.slice A11_0_ r6_0.length c11_0_) ∧ w'.cell? ⟨g1,0,none⟩ = some (.slice A0_0 l0_0.length c0_0)) (ds:=[]) #[yf,yf,yf,yf,yf] (by kernel_rfl) rfl rfl ⟨(zP Bg10.out 0).trans rfl,(zP Bg1.out 0).trans rfl⟩ (fun hHeld => ?_)
 generalize w19_.drew = w20_ at O7_0 O8_0 O8_1 O9_0 O10_0 O11_0 O14_0 O14_1 O17_0 O18_0 Bg1 Bg2 Bg10 Bg11 HB hz hHeld ⊢
 have Z20_:=hz;clear hz
 refine zw 0 53 hHeld ?_;refine zw 1 54 hHeld ?_
 refine one_ (i:=2) (N:=some 55) #[yt,yt,yt,yf,yf] rfl rfl (by kernel_rfl) (by decide) (fun K hK => ?_)
 refine goes_ Tryz.func9 (by kernel_rfl) rfl #[.agg #[.slice A0_0 l0_0.length c0_0]] (by rfl) rfl rfl (by (try simp only [zCb,zMb,zNb]);first|done|rfl) ?_
 with_reducible refine (laws_toSchema.calls ke6 _ _ l0_0 r6_0 _ (zKb H0_0.out HB.out) HC0_0.out Ee6.out).mono ?_
 rintro e w21_ ⟨v21_0_,rfl,ho0,hb⟩
 refine ⟨_,rfl,?_⟩
 have O21_0:=zA (newR ho0 HB.out.size)
 have Z21_:=zA (show w20_.heap.size ≤ w21_.heap.size from hb.size)
 replace O7_0:=zA (zZ O7_0.out hb)
 replace O8_0:=zA (zZ O8_0.out hb)
 replace O8_1:=zA (zY O8_1.out hb)
 replace O9_0:=zA (zY O9_0.out hb)
 replace O10_0:=zA (Kd.N_below O10_0.out hb)
 replace O11_0:=zA (zZ O11_0.out hb)
 replace O14_0:=zA (zZ O14_0.out hb)
 replace O14_1:=zA (zY O14_1.out hb)
 replace O17_0:=zA (zY O17_0.out hb)
 replace O18_0:=zA (zY O18_0.out hb)
 replace Bg1:=zA (zQ Bg1.out hb)
 replace Bg2:=zA (zQ Bg2.out hb)
 replace Bg10:=zA (zQ Bg10.out hb)
 replace Bg11:=zA (zQ Bg11.out hb)
 replace HB:=zA (zJb HB.out hb)
 have hxg1_0:=zc (.slice A0_0 l0_0.length c0_0) Bg1 0 rfl
 have hfg1_0:=blk_frozen Bg1.out 0
 have hxg2_0:=zc (.slice A1_0 l1_0.length c1_0) Bg2 0 rfl
 have hxg2_1:=zc (.slice A1_1 l1_1.length c1_1) Bg2 1 rfl
 have hfg2_0:=blk_frozen Bg2.out 0
 have hfg2_1:=blk_frozen Bg2.out 1
 have hxg10_0:=zc (.slice A11_0_ r6_0.length c11_0_) Bg10 0 rfl
 have hfg10_0:=blk_frozen Bg10.out 0
 have hxg11_0:=zc (.slice A14_0_ r7_0.length c14_0_) Bg11 0 rfl
 have hxg11_1:=zc (.slice A14_1_ r7_1.length c14_1_) Bg11 1 rfl
 have hfg11_0:=blk_frozen Bg11.out 0
 have hfg11_1:=blk_frozen Bg11.out 1
 clear hb ho0
 obtain ⟨A21_0_,c21_0_,eq_⟩:=Kd.R_slice O21_0.out
 subst eq_
 clear hxg1_0
 clear hfg1_0
 clear hxg2_0
 clear hxg2_1
 clear hfg2_0
 clear hfg2_1
 clear hxg10_0
 clear hfg10_0
 clear hxg11_0
 clear hxg11_1
 clear hfg11_0
 clear hfg11_1
 refine hK.out _ _ ⟨(zP Bg10.out 0).trans rfl,(zP Bg1.out 0).trans rfl⟩ (fun hHeld => ?_)
 clear hK K
 refine norm_ (a':=?_) ?_ ?_
 rotate_left
 ·show Act.put _ (some 55) _ = _;simp only [Act.put,zO,zEb,zFb,i64_w,i32_w];rfl
 refine one_ (i:=3) (N:=some 56) #[yt,yt,yt,yt,yf] rfl rfl (by kernel_rfl) (by decide) (fun K hK => ?_)
 refine goes_ Tryz.func14 (by kernel_rfl) rfl #[.agg #[.slice A11_0_ r6_0.length c11_0_],.agg #[.slice A21_0_ r6_0.length c21_0_]] (by rfl) rfl rfl (by (try simp only [zCb,zMb,zNb]);first|done|rfl) ?_
 with_reducible refine (laws_eqSchema.calls ke12 _ _ r6_0 _ _ r6_0 true _ (Kd.R_reads' O11_0.out).2.2 (Kd.R_reads' O11_0.out).2.1 (Kd.R_reads' O21_0.out).2.2 (Kd.R_reads' O21_0.out).2.1 Ee12.out).mono ?_
 rintro e w22_ ⟨rfl,hb⟩
 refine ⟨_,rfl,?_⟩
 have Z22_:=zA (show w21_.heap.size ≤ w22_.heap.size from hb.size)
 replace O7_0:=zA (zZ O7_0.out hb)
 replace O8_0:=zA (zZ O8_0.out hb)
 replace O8_1:=zA (zY O8_1.out hb)
 replace O9_0:=zA (zY O9_0.out hb)
 replace O10_0:=zA (Kd.N_below O10_0.out hb)
 replace O11_0:=zA (zZ O11_0.out hb)
 replace O14_0:=zA (zZ O14_0.out hb)
 replace O14_1:=zA (zY O14_1.out hb)
 replace O17_0:=zA (zY O17_0.out hb)
 replace O18_0:=zA (zY O18_0.out hb)
 replace O21_0:=zA (zZ O21_0.out hb)
 replace Bg1:=zA (zQ Bg1.out hb)
 replace Bg2:=zA (zQ Bg2.out hb)
 replace Bg10:=zA (zQ Bg10.out hb)
 replace Bg11:=zA (zQ Bg11.out hb)
 replace HB:=zA (zJb HB.out hb)
 have hxg1_0:=zc (.slice A0_0 l0_0.length c0_0) Bg1 0 rfl
 have hfg1_0:=blk_frozen Bg1.out 0
 have hxg2_0:=zc (.slice A1_0 l1_0.length c1_0) Bg2 0 rfl
 have hxg2_1:=zc (.slice A1_1 l1_1.length c1_1) Bg2 1 rfl
 have hfg2_0:=blk_frozen Bg2.out 0
 have hfg2_1:=blk_frozen Bg2.out 1
 have hxg10_0:=zc (.slice A11_0_ r6_0.length c11_0_) Bg10 0 rfl
 have hfg10_0:=blk_frozen Bg10.out 0
 have hxg11_0:=zc (.slice A14_0_ r7_0.length c14_0_) Bg11 0 rfl
 have hxg11_1:=zc (.slice A14_1_ r7_1.length c14_1_) Bg11 1 rfl
 have hfg11_0:=blk_frozen Bg11.out 0
 have hfg11_1:=blk_frozen Bg11.out 1
 clear hb
 clear hxg1_0
 clear hfg1_0
 clear hxg2_0
 clear hxg2_1
 clear hfg2_0
 clear hfg2_1
 clear hxg10_0
 clear hfg10_0
 clear hxg11_0
 clear hxg11_1
 clear hfg11_0
 clear hfg11_1
 refine hK.out _ _ ⟨(zP Bg10.out 0).trans rfl,(zP Bg1.out 0).trans rfl⟩ (fun hHeld => ?_)
 clear hK K
 refine norm_ (a':=?_) ?_ ?_
 rotate_left
 ·show Act.put _ (some 56) _ = _;simp only [Act.put,zO,zEb,zFb,i64_w,i32_w];rfl
 refine zu 4 57 ?_
 refine done_ (by kernel_rfl) ?_
 have hxg1_0:=zc (.slice A0_0 l0_0.length c0_0) Bg1 0 rfl
 have hfg1_0:=blk_frozen Bg1.out 0
 have hxg2_0:=zc (.slice A1_0 l1_0.length c1_0) Bg2 0 rfl
 have hxg2_1:=zc (.slice A1_1 l1_1.length c1_1) Bg2 1 rfl
 have hfg2_0:=blk_frozen Bg2.out 0
 have hfg2_1:=blk_frozen Bg2.out 1
 have hxg10_0:=zc (.slice A11_0_ r6_0.length c11_0_) Bg10 0 rfl
 have hfg10_0:=blk_frozen Bg10.out 0
 have hxg11_0:=zc (.slice A14_0_ r7_0.length c14_0_) Bg11 0 rfl
 have hxg11_1:=zc (.slice A14_1_ r7_1.length c14_1_) Bg11 1 rfl
 have hfg11_0:=blk_frozen Bg11.out 0
 have hfg11_1:=blk_frozen Bg11.out 1
 try go_wp2
 replace O7_0:=zA (zH O7_0.out)
 replace O8_0:=zA (zH O8_0.out)
 replace O8_1:=zA (zN O8_1.out)
 replace O9_0:=zA (zN O9_0.out)
 replace O10_0:=zA (Kd.N_drew O10_0.out)
 replace O11_0:=zA (zH O11_0.out)
 replace O14_0:=zA (zH O14_0.out)
 replace O14_1:=zA (zN O14_1.out)
 replace O17_0:=zA (zN O17_0.out)
 replace O18_0:=zA (zN O18_0.out)
 replace O21_0:=zA (zH O21_0.out)
 replace Bg1:=zA (zI Bg1.out)
 replace Bg2:=zA (zI Bg2.out)
 replace Bg10:=zA (zI Bg10.out)
 replace Bg11:=zA (zI Bg11.out)
 replace HB:=zA (zJ HB.out)
 clear hxg1_0
 clear hfg1_0
 clear hxg2_0
 clear hxg2_1
 clear hfg2_0
 clear hfg2_1
 clear hxg10_0
 clear hfg10_0
 clear hxg11_0
 clear hxg11_1
 clear hfg11_0
 clear hfg11_1
 have hz:=zA (show w22_.heap.size ≤ w22_.drew.heap.size from Nat.le_refl _)
 refine start_ (n:=5) (S:=fun w' => w'.cell? ⟨g11,0,none⟩ = some (.slice A14_0_ r7_0.length c14_0_) ∧ w'.cell? ⟨g11,1,none⟩ = some (.slice A14_1_ r7_1.length c14_1_) ∧ w'.cell? ⟨g2,0,none⟩ = some (.slice A1_0 l1_0.length c1_0) ∧ w'.cell? ⟨g2,1,none⟩ = some (.slice A1_1 l1_1.length c1_1)) (ds:=[]) #[yf,yf,yf,yf,yf] (by kernel_rfl) rfl rfl ⟨(zP Bg11.out 0).trans rfl,(zP Bg11.out 1).trans rfl,(zP Bg2.out 0).trans rfl,(zP Bg2.out 1).trans rfl⟩ (fun hHeld => ?_)
 generalize w22_.drew = w23_ at O7_0 O8_0 O8_1 O9_0 O10_0 O11_0 O14_0 O14_1 O17_0 O18_0 O21_0 Bg1 Bg2 Bg10 Bg11 HB hz hHeld ⊢
 have Z23_:=hz;clear hz
 refine zw 0 58 hHeld ?_;refine zw 1 59 hHeld ?_
 refine one_ (i:=2) (N:=some 60) #[yt,yt,yt,yf,yf] rfl rfl (by kernel_rfl) (by decide) (fun K hK => ?_)
 refine goes_ Tryz.func10 (by kernel_rfl) rfl #[.agg #[.slice A1_0 l1_0.length c1_0,.slice A1_1 l1_1.length c1_1]] (by rfl) rfl rfl (by (try simp only [zCb,zMb,zNb]);first|done|rfl) ?_
 with_reducible refine (laws_toQuery.calls ke7 _ _ l1_0 _ _ l1_1 r7_0 r7_1 _ (zKb H1_0.out HB.out) HC1_0.out (zKb H1_1.out HB.out) HC1_1.out Ee7.out).mono ?_
 rintro e w24_ ⟨v24_0_,v24_1_,rfl,ho0,ho1,hb⟩
 refine ⟨_,rfl,?_⟩
 have O24_0:=zA (newR ho0 HB.out.size)
 have O24_1:=zA (newS ho1 HB.out.size)
 have Z24_:=zA (show w23_.heap.size ≤ w24_.heap.size from hb.size)
 replace O7_0:=zA (zZ O7_0.out hb)
 replace O8_0:=zA (zZ O8_0.out hb)
 replace O8_1:=zA (zY O8_1.out hb)
 replace O9_0:=zA (zY O9_0.out hb)
 replace O10_0:=zA (Kd.N_below O10_0.out hb)
 replace O11_0:=zA (zZ O11_0.out hb)
 replace O14_0:=zA (zZ O14_0.out hb)
 replace O14_1:=zA (zY O14_1.out hb)
 replace O17_0:=zA (zY O17_0.out hb)
 replace O18_0:=zA (zY O18_0.out hb)
 replace O21_0:=zA (zZ O21_0.out hb)
 replace Bg1:=zA (zQ Bg1.out hb)
 replace Bg2:=zA (zQ Bg2.out hb)
 replace Bg10:=zA (zQ Bg10.out hb)
 replace Bg11:=zA (zQ Bg11.out hb)
 replace HB:=zA (zJb HB.out hb)
 have hxg1_0:=zc (.slice A0_0 l0_0.length c0_0) Bg1 0 rfl
 have hfg1_0:=blk_frozen Bg1.out 0
 have hxg2_0:=zc (.slice A1_0 l1_0.length c1_0) Bg2 0 rfl
 have hxg2_1:=zc (.slice A1_1 l1_1.length c1_1) Bg2 1 rfl
 have hfg2_0:=blk_frozen Bg2.out 0
 have hfg2_1:=blk_frozen Bg2.out 1
 have hxg10_0:=zc (.slice A11_0_ r6_0.length c11_0_) Bg10 0 rfl
 have hfg10_0:=blk_frozen Bg10.out 0
 have hxg11_0:=zc (.slice A14_0_ r7_0.length c14_0_) Bg11 0 rfl
 have hxg11_1:=zc (.slice A14_1_ r7_1.length c14_1_) Bg11 1 rfl
 have hfg11_0:=blk_frozen Bg11.out 0
 have hfg11_1:=blk_frozen Bg11.out 1
 clear hb ho0 ho1
 obtain ⟨A24_0_,c24_0_,eq_⟩:=Kd.R_slice O24_0.out
 subst eq_
 obtain ⟨A24_1_,c24_1_,eq_⟩:=Kd.S_slice O24_1.out
 subst eq_
 clear hxg1_0
 clear hfg1_0
 clear hxg2_0
 clear hxg2_1
 clear hfg2_0
 clear hfg2_1
 clear hxg10_0
 clear hfg10_0
 clear hxg11_0
 clear hxg11_1
 clear hfg11_0
 clear hfg11_1
 refine hK.out _ _ ⟨(zP Bg11.out 0).trans rfl,(zP Bg11.out 1).trans rfl,(zP Bg2.out 0).trans rfl,(zP Bg2.out 1).trans rfl⟩ (fun hHeld => ?_)
 clear hK K
 refine norm_ (a':=?_) ?_ ?_
 rotate_left
 ·show Act.put _ (some 60) _ = _;simp only [Act.put,zO,zEb,zFb,i64_w,i32_w];rfl
 refine one_ (i:=3) (N:=some 61) #[yt,yt,yt,yt,yf] rfl rfl (by kernel_rfl) (by decide) (fun K hK => ?_)
 refine goes_ Tryz.func15 (by kernel_rfl) rfl #[.agg #[.slice A14_0_ r7_0.length c14_0_,.slice A14_1_ r7_1.length c14_1_],.agg #[.slice A24_0_ r7_0.length c24_0_,.slice A24_1_ r7_1.length c24_1_]] (by rfl) rfl rfl (by (try simp only [zCb,zMb,zNb]);first|done|rfl) ?_
 with_reducible refine (laws_eqQuery.calls ke13 _ _ r7_0 _ _ r7_1 _ _ r7_0 _ _ r7_1 true _ (Kd.R_reads' O14_0.out).2.2 (Kd.R_reads' O14_0.out).2.1 (Kd.S_reads' O14_1.out).2.2 (Kd.S_reads' O14_1.out).2.1 (Kd.R_reads' O24_0.out).2.2 (Kd.R_reads' O24_0.out).2.1 (Kd.S_reads' O24_1.out).2.2 (Kd.S_reads' O24_1.out).2.1 Ee13.out).mono ?_
 rintro e w25_ ⟨rfl,hb⟩
 refine ⟨_,rfl,?_⟩
 have Z25_:=zA (show w24_.heap.size ≤ w25_.heap.size from hb.size)
 replace O7_0:=zA (zZ O7_0.out hb)
 replace O8_0:=zA (zZ O8_0.out hb)
 replace O8_1:=zA (zY O8_1.out hb)
 replace O9_0:=zA (zY O9_0.out hb)
 replace O10_0:=zA (Kd.N_below O10_0.out hb)
 replace O11_0:=zA (zZ O11_0.out hb)
 replace O14_0:=zA (zZ O14_0.out hb)
 replace O14_1:=zA (zY O14_1.out hb)
 replace O17_0:=zA (zY O17_0.out hb)
 replace O18_0:=zA (zY O18_0.out hb)
 replace O21_0:=zA (zZ O21_0.out hb)
 replace O24_0:=zA (zZ O24_0.out hb)
 replace O24_1:=zA (zY O24_1.out hb)
 replace Bg1:=zA (zQ Bg1.out hb)
 replace Bg2:=zA (zQ Bg2.out hb)
 replace Bg10:=zA (zQ Bg10.out hb)
 replace Bg11:=zA (zQ Bg11.out hb)
 replace HB:=zA (zJb HB.out hb)
 have hxg1_0:=zc (.slice A0_0 l0_0.length c0_0) Bg1 0 rfl
 have hfg1_0:=blk_frozen Bg1.out 0
 have hxg2_0:=zc (.slice A1_0 l1_0.length c1_0) Bg2 0 rfl
 have hxg2_1:=zc (.slice A1_1 l1_1.length c1_1) Bg2 1 rfl
 have hfg2_0:=blk_frozen Bg2.out 0
 have hfg2_1:=blk_frozen Bg2.out 1
 have hxg10_0:=zc (.slice A11_0_ r6_0.length c11_0_) Bg10 0 rfl
 have hfg10_0:=blk_frozen Bg10.out 0
 have hxg11_0:=zc (.slice A14_0_ r7_0.length c14_0_) Bg11 0 rfl
 have hxg11_1:=zc (.slice A14_1_ r7_1.length c14_1_) Bg11 1 rfl
 have hfg11_0:=blk_frozen Bg11.out 0
 have hfg11_1:=blk_frozen Bg11.out 1
 clear hb
 clear hxg1_0
 clear hfg1_0
 clear hxg2_0
 clear hxg2_1
 clear hfg2_0
 clear hfg2_1
 clear hxg10_0
 clear hfg10_0
 clear hxg11_0
 clear hxg11_1
 clear hfg11_0
 clear hfg11_1
 refine hK.out _ _ ⟨(zP Bg11.out 0).trans rfl,(zP Bg11.out 1).trans rfl,(zP Bg2.out 0).trans rfl,(zP Bg2.out 1).trans rfl⟩ (fun hHeld => ?_)
 clear hK K
 refine norm_ (a':=?_) ?_ ?_
 rotate_left
 ·show Act.put _ (some 61) _ = _;simp only [Act.put,zO,zEb,zFb,i64_w,i32_w];rfl
 refine zu 4 62 ?_
 refine done_ (by kernel_rfl) ?_
 have hxg1_0:=zc (.slice A0_0 l0_0.length c0_0) Bg1 0 rfl
 have hfg1_0:=blk_frozen Bg1.out 0
 have hxg2_0:=zc (.slice A1_0 l1_0.length c1_0) Bg2 0 rfl
 have hxg2_1:=zc (.slice A1_1 l1_1.length c1_1) Bg2 1 rfl
 have hfg2_0:=blk_frozen Bg2.out 0
 have hfg2_1:=blk_frozen Bg2.out 1
 have hxg10_0:=zc (.slice A11_0_ r6_0.length c11_0_) Bg10 0 rfl
 have hfg10_0:=blk_frozen Bg10.out 0
 have hxg11_0:=zc (.slice A14_0_ r7_0.length c14_0_) Bg11 0 rfl
 have hxg11_1:=zc (.slice A14_1_ r7_1.length c14_1_) Bg11 1 rfl
 have hfg11_0:=blk_frozen Bg11.out 0
 have hfg11_1:=blk_frozen Bg11.out 1
 go_wp2_with (first|(go_at_call 11;refine hold ?_))
 unfold Hold
 refine (laws_toFactS.calls ke8 _ _ l2 r8_0 _ (zKb H2.out HB.out) HC2.out Ee8.out).mono ?_
 rintro e w26_ ⟨v26_0_,rfl,ho0,hb⟩
 have O26_0:=zA (newS ho0 HB.out.size)
 have Z26_:=zA (show w25_.heap.size ≤ w26_.heap.size from hb.size)
 replace O7_0:=zA (zZ O7_0.out hb)
 replace O8_0:=zA (zZ O8_0.out hb)
 replace O8_1:=zA (zY O8_1.out hb)
 replace O9_0:=zA (zY O9_0.out hb)
 replace O10_0:=zA (Kd.N_below O10_0.out hb)
 replace O11_0:=zA (zZ O11_0.out hb)
 replace O14_0:=zA (zZ O14_0.out hb)
 replace O14_1:=zA (zY O14_1.out hb)
 replace O17_0:=zA (zY O17_0.out hb)
 replace O18_0:=zA (zY O18_0.out hb)
 replace O21_0:=zA (zZ O21_0.out hb)
 replace O24_0:=zA (zZ O24_0.out hb)
 replace O24_1:=zA (zY O24_1.out hb)
 replace Bg1:=zA (zQ Bg1.out hb)
 replace Bg2:=zA (zQ Bg2.out hb)
 replace Bg10:=zA (zQ Bg10.out hb)
 replace Bg11:=zA (zQ Bg11.out hb)
 replace HB:=zA (zJb HB.out hb)
 clear hxg1_0
 clear hfg1_0
 clear hxg2_0
 clear hxg2_1
 clear hfg2_0
 clear hfg2_1
 clear hxg10_0
 clear hfg10_0
 clear hxg11_0
 clear hxg11_1
 clear hfg11_0
 clear hfg11_1
 have hxg1_0:=zc (.slice A0_0 l0_0.length c0_0) Bg1 0 rfl
 have hfg1_0:=blk_frozen Bg1.out 0
 have hxg2_0:=zc (.slice A1_0 l1_0.length c1_0) Bg2 0 rfl
 have hxg2_1:=zc (.slice A1_1 l1_1.length c1_1) Bg2 1 rfl
 have hfg2_0:=blk_frozen Bg2.out 0
 have hfg2_1:=blk_frozen Bg2.out 1
 have hxg10_0:=zc (.slice A11_0_ r6_0.length c11_0_) Bg10 0 rfl
 have hfg10_0:=blk_frozen Bg10.out 0
 have hxg11_0:=zc (.slice A14_0_ r7_0.length c14_0_) Bg11 0 rfl
 have hxg11_1:=zc (.slice A14_1_ r7_1.length c14_1_) Bg11 1 rfl
 have hfg11_0:=blk_frozen Bg11.out 0
 have hfg11_1:=blk_frozen Bg11.out 1
 clear hb ho0
 obtain ⟨A26_0_,c26_0_,eq_⟩:=Kd.S_slice O26_0.out
 subst eq_
 go_wp2_with (first|(go_at_call 16;refine hold ?_))
 unfold Hold
 refine (laws_eqFactS.calls ke14 _ _ r8_0 _ _ r8_0 true _ (Kd.S_reads' O17_0.out).2.2 (Kd.S_reads' O17_0.out).2.1 (Kd.S_reads' O26_0.out).2.2 (Kd.S_reads' O26_0.out).2.1 Ee14.out).mono ?_
 rintro e w27_ ⟨rfl,hb⟩
 have Z27_:=zA (show w26_.heap.size ≤ w27_.heap.size from hb.size)
 replace O7_0:=zA (zZ O7_0.out hb)
 replace O8_0:=zA (zZ O8_0.out hb)
 replace O8_1:=zA (zY O8_1.out hb)
 replace O9_0:=zA (zY O9_0.out hb)
 replace O10_0:=zA (Kd.N_below O10_0.out hb)
 replace O11_0:=zA (zZ O11_0.out hb)
 replace O14_0:=zA (zZ O14_0.out hb)
 replace O14_1:=zA (zY O14_1.out hb)
 replace O17_0:=zA (zY O17_0.out hb)
 replace O18_0:=zA (zY O18_0.out hb)
 replace O21_0:=zA (zZ O21_0.out hb)
 replace O24_0:=zA (zZ O24_0.out hb)
 replace O24_1:=zA (zY O24_1.out hb)
 replace O26_0:=zA (zY O26_0.out hb)
 replace Bg1:=zA (zQ Bg1.out hb)
 replace Bg2:=zA (zQ Bg2.out hb)
 replace Bg10:=zA (zQ Bg10.out hb)
 replace Bg11:=zA (zQ Bg11.out hb)
 replace HB:=zA (zJb HB.out hb)
 clear hxg1_0
 clear hfg1_0
 clear hxg2_0
 clear hxg2_1
 clear hfg2_0
 clear hfg2_1
 clear hxg10_0
 clear hfg10_0
 clear hxg11_0
 clear hxg11_1
 clear hfg11_0
 clear hfg11_1
 have hxg1_0:=zc (.slice A0_0 l0_0.length c0_0) Bg1 0 rfl
 have hfg1_0:=blk_frozen Bg1.out 0
 have hxg2_0:=zc (.slice A1_0 l1_0.length c1_0) Bg2 0 rfl
 have hxg2_1:=zc (.slice A1_1 l1_1.length c1_1) Bg2 1 rfl
 have hfg2_0:=blk_frozen Bg2.out 0
 have hfg2_1:=blk_frozen Bg2.out 1
 have hxg10_0:=zc (.slice A11_0_ r6_0.length c11_0_) Bg10 0 rfl
 have hfg10_0:=blk_frozen Bg10.out 0
 have hxg11_0:=zc (.slice A14_0_ r7_0.length c14_0_) Bg11 0 rfl
 have hxg11_1:=zc (.slice A14_1_ r7_1.length c14_1_) Bg11 1 rfl
 have hfg11_0:=blk_frozen Bg11.out 0
 have hfg11_1:=blk_frozen Bg11.out 1
 clear hb
 go_wp2_with (first|(go_at_call 17;refine hold ?_))
 unfold Hold
 refine (laws_markSchema.calls ke15 (fun k_ => w10_.heap.size ≤ k_ ∧ k_ < w11_.heap.size) (.slice A11_0_ r6_0.length c11_0_) r6_0 1 r15_0 r15_1 w _ HB.out (zGb O11_0.out (fun _ h_ => h_.1)) Ee15.out).mono ?_
 rintro e w28_ ⟨rfl,ho0,hb0,hk⟩
 have n_:=zA (show Kd.R (Kd.int .i64) 3 w28_ w.heap.size (fun k_ => (w10_.heap.size ≤ k_ ∧ k_ < w11_.heap.size) ∧ True) (.slice A11_0_ r6_0.length c11_0_) r15_1 from zGb (Kd.R_tight2 rfl ho0) (fun k_ hk_ => ⟨(O11_0.out.1 k_ hk_.1.symm).1,trivial⟩));clear O11_0;have O11_0:=n_;clear n_
 clear ho0
 have Z28_:=zA (show w27_.heap.size ≤ w28_.heap.size from hk.1)
 have n_:=zA (Kd.R_kept O7_0.out hk (fun k_ hk1 hk2 => by obtain ⟨a1_,a2_⟩:=hk1.1;obtain ⟨b1_,b2_⟩:=hk2;have z8_:=Z8_.out;have z9_:=Z9_.out;have z10_:=Z10_.out;omega));clear O7_0;have O7_0:=n_;clear n_
 have n_:=zA (Kd.R_kept O8_0.out hk (fun k_ hk1 hk2 => by obtain ⟨a1_,a2_⟩:=hk1.1;obtain ⟨b1_,b2_⟩:=hk2;have z9_:=Z9_.out;have z10_:=Z10_.out;omega));clear O8_0;have O8_0:=n_;clear n_
 have n_:=zA (Kd.S_kept O8_1.out hk (fun k_ hk1 hk2 => by obtain ⟨a1_,a2_⟩:=hk1.1;obtain ⟨b1_,b2_⟩:=hk2;have z9_:=Z9_.out;have z10_:=Z10_.out;omega));clear O8_1;have O8_1:=n_;clear n_
 have n_:=zA (Kd.S_kept O9_0.out hk (fun k_ hk1 hk2 => by obtain ⟨a1_,a2_⟩:=hk1.1;obtain ⟨b1_,b2_⟩:=hk2;have z10_:=Z10_.out;omega));clear O9_0;have O9_0:=n_;clear n_
 have n_:=zA (Kd.N_kept O10_0.out hk (fun k_ hk1 hk2 => by obtain ⟨a1_,a2_⟩:=hk1.1;obtain ⟨b1_,b2_⟩:=hk2;omega));clear O10_0;have O10_0:=n_;clear n_
 have n_:=zA (Kd.R_kept O14_0.out hk (fun k_ hk1 hk2 => by obtain ⟨a1_,a2_⟩:=hk1.1;obtain ⟨b1_,b2_⟩:=hk2;have z12_:=Z12_.out;have z13_:=Z13_.out;omega));clear O14_0;have O14_0:=n_;clear n_
 have n_:=zA (Kd.S_kept O14_1.out hk (fun k_ hk1 hk2 => by obtain ⟨a1_,a2_⟩:=hk1.1;obtain ⟨b1_,b2_⟩:=hk2;have z12_:=Z12_.out;have z13_:=Z13_.out;omega));clear O14_1;have O14_1:=n_;clear n_
 have n_:=zA (Kd.S_kept O17_0.out hk (fun k_ hk1 hk2 => by obtain ⟨a1_,a2_⟩:=hk1.1;obtain ⟨b1_,b2_⟩:=hk2;have z12_:=Z12_.out;have z13_:=Z13_.out;have z14_:=Z14_.out;have z15_:=Z15_.out;have z16_:=Z16_.out;omega));clear O17_0;have O17_0:=n_;clear n_
 have n_:=zA (Kd.S_kept O18_0.out hk (fun k_ hk1 hk2 => by obtain ⟨a1_,a2_⟩:=hk1.1;obtain ⟨b1_,b2_⟩:=hk2;have z12_:=Z12_.out;have z13_:=Z13_.out;have z14_:=Z14_.out;have z15_:=Z15_.out;have z16_:=Z16_.out;have z17_:=Z17_.out;omega));clear O18_0;have O18_0:=n_;clear n_
 have n_:=zA (Kd.R_kept O21_0.out hk (fun k_ hk1 hk2 => by obtain ⟨a1_,a2_⟩:=hk1.1;obtain ⟨b1_,b2_⟩:=hk2;have z12_:=Z12_.out;have z13_:=Z13_.out;have z14_:=Z14_.out;have z15_:=Z15_.out;have z16_:=Z16_.out;have z17_:=Z17_.out;have z18_:=Z18_.out;have z19_:=Z19_.out;have z20_:=Z20_.out;omega));clear O21_0;have O21_0:=n_;clear n_
 have n_:=zA (Kd.R_kept O24_0.out hk (fun k_ hk1 hk2 => by obtain ⟨a1_,a2_⟩:=hk1.1;obtain ⟨b1_,b2_⟩:=hk2;have z12_:=Z12_.out;have z13_:=Z13_.out;have z14_:=Z14_.out;have z15_:=Z15_.out;have z16_:=Z16_.out;have z17_:=Z17_.out;have z18_:=Z18_.out;have z19_:=Z19_.out;have z20_:=Z20_.out;have z21_:=Z21_.out;have z22_:=Z22_.out;have z23_:=Z23_.out;omega));clear O24_0;have O24_0:=n_;clear n_
 have n_:=zA (Kd.S_kept O24_1.out hk (fun k_ hk1 hk2 => by obtain ⟨a1_,a2_⟩:=hk1.1;obtain ⟨b1_,b2_⟩:=hk2;have z12_:=Z12_.out;have z13_:=Z13_.out;have z14_:=Z14_.out;have z15_:=Z15_.out;have z16_:=Z16_.out;have z17_:=Z17_.out;have z18_:=Z18_.out;have z19_:=Z19_.out;have z20_:=Z20_.out;have z21_:=Z21_.out;have z22_:=Z22_.out;have z23_:=Z23_.out;omega));clear O24_1;have O24_1:=n_;clear n_
 have n_:=zA (Kd.S_kept O26_0.out hk (fun k_ hk1 hk2 => by obtain ⟨a1_,a2_⟩:=hk1.1;obtain ⟨b1_,b2_⟩:=hk2;have z12_:=Z12_.out;have z13_:=Z13_.out;have z14_:=Z14_.out;have z15_:=Z15_.out;have z16_:=Z16_.out;have z17_:=Z17_.out;have z18_:=Z18_.out;have z19_:=Z19_.out;have z20_:=Z20_.out;have z21_:=Z21_.out;have z22_:=Z22_.out;have z23_:=Z23_.out;have z24_:=Z24_.out;have z25_:=Z25_.out;omega));clear O26_0;have O26_0:=n_;clear n_
 have n_:=zA (blk_kept Bg1.out hk (fun hk2 => by obtain ⟨a1_,a2_⟩:=Gg1.out;obtain ⟨b1_,b2_⟩:=hk2;have z2_:=Z2_.out;have z3_:=Z3_.out;have z4_:=Z4_.out;have z5_:=Z5_.out;have z6_:=Z6_.out;have z7_:=Z7_.out;have z8_:=Z8_.out;have z9_:=Z9_.out;have z10_:=Z10_.out;omega));clear Bg1;have Bg1:=n_;clear n_
 have n_:=zA (blk_kept Bg2.out hk (fun hk2 => by obtain ⟨a1_,a2_⟩:=Gg2.out;obtain ⟨b1_,b2_⟩:=hk2;have z3_:=Z3_.out;have z4_:=Z4_.out;have z5_:=Z5_.out;have z6_:=Z6_.out;have z7_:=Z7_.out;have z8_:=Z8_.out;have z9_:=Z9_.out;have z10_:=Z10_.out;omega));clear Bg2;have Bg2:=n_;clear n_
 have n_:=zA (blk_kept Bg10.out hk (fun hk2 => by obtain ⟨a1_,a2_⟩:=Gg10.out;obtain ⟨b1_,b2_⟩:=hk2;omega));clear Bg10;have Bg10:=n_;clear n_
 have n_:=zA (blk_kept Bg11.out hk (fun hk2 => by obtain ⟨a1_,a2_⟩:=Gg11.out;obtain ⟨b1_,b2_⟩:=hk2;have z12_:=Z12_.out;have z13_:=Z13_.out;have z14_:=Z14_.out;omega));clear Bg11;have Bg11:=n_;clear n_
 clear HB;have HB:=zA hb0
 clear hxg1_0
 clear hfg1_0
 clear hxg2_0
 clear hxg2_1
 clear hfg2_0
 clear hfg2_1
 clear hxg10_0
 clear hfg10_0
 clear hxg11_0
 clear hxg11_1
 clear hfg11_0
 clear hfg11_1
 have hxg1_0:=zc (.slice A0_0 l0_0.length c0_0) Bg1 0 rfl
 have hfg1_0:=blk_frozen Bg1.out 0
 have hxg2_0:=zc (.slice A1_0 l1_0.length c1_0) Bg2 0 rfl
 have hxg2_1:=zc (.slice A1_1 l1_1.length c1_1) Bg2 1 rfl
 have hfg2_0:=blk_frozen Bg2.out 0
 have hfg2_1:=blk_frozen Bg2.out 1
 have hxg10_0:=zc (.slice A11_0_ r6_0.length c11_0_) Bg10 0 rfl
 have hfg10_0:=blk_frozen Bg10.out 0
 have hxg11_0:=zc (.slice A14_0_ r7_0.length c14_0_) Bg11 0 rfl
 have hxg11_1:=zc (.slice A14_1_ r7_1.length c14_1_) Bg11 1 rfl
 have hfg11_0:=blk_frozen Bg11.out 0
 have hfg11_1:=blk_frozen Bg11.out 1
 clear hk hb0
 go_wp2_with (first|(go_at_call 18;refine hold ?_))
 unfold Hold
 refine (markQuery_calls (fun k_ => w13_.heap.size ≤ k_ ∧ k_ < w14_.heap.size) (.slice A14_0_ r7_0.length c14_0_) (.slice A14_1_ r7_1.length c14_1_) r7_0 r7_1 r15_0 r16_0 r16_1 r16_2 w _ HB.out (zGb O14_0.out (fun _ h_ => h_.1)) (zS O14_1.out (fun _ h_ => ⟨h_.1,h_.2⟩)) e16_hz0.out Ee16.out).mono ?_
 rintro e w29_ ⟨rfl,ho0,ho1,hb0,hk⟩
 have n_:=zA (show Kd.R (Kd.int .i64) 3 w29_ w.heap.size (fun k_ => (w13_.heap.size ≤ k_ ∧ k_ < w14_.heap.size) ∧ True) (.slice A14_0_ r7_0.length c14_0_) r16_1 from zGb (Kd.R_tight2 rfl ho0) (fun k_ hk_ => ⟨(O14_0.out.1 k_ hk_.1.symm).1,trivial⟩));clear O14_0;have O14_0:=n_;clear n_
 have n_:=zA (show Kd.S k81 81 w29_ w.heap.size (fun k_ => (w13_.heap.size ≤ k_ ∧ k_ < w14_.heap.size) ∧ some k_ ≠ (.slice A14_0_ r7_0.length c14_0_ : Value).ownBlock) (.slice A14_1_ r7_1.length c14_1_) r16_2 from zS ho1 (fun _ hk_ => ⟨hk_.1,hk_.2⟩));clear O14_1;have O14_1:=n_;clear n_
 clear ho0
 clear ho1
 have Z29_:=zA (show w28_.heap.size ≤ w29_.heap.size from hk.1)
 have n_:=zA (Kd.R_kept O7_0.out hk (fun k_ hk1 hk2 => by obtain ⟨a1_,a2_⟩:=hk1.1;obtain ⟨b1_,b2_⟩:=hk2;have z8_:=Z8_.out;have z9_:=Z9_.out;have z10_:=Z10_.out;have z11_:=Z11_.out;have z12_:=Z12_.out;have z13_:=Z13_.out;omega));clear O7_0;have O7_0:=n_;clear n_
 have n_:=zA (Kd.R_kept O8_0.out hk (fun k_ hk1 hk2 => by obtain ⟨a1_,a2_⟩:=hk1.1;obtain ⟨b1_,b2_⟩:=hk2;have z9_:=Z9_.out;have z10_:=Z10_.out;have z11_:=Z11_.out;have z12_:=Z12_.out;have z13_:=Z13_.out;omega));clear O8_0;have O8_0:=n_;clear n_
 have n_:=zA (Kd.S_kept O8_1.out hk (fun k_ hk1 hk2 => by obtain ⟨a1_,a2_⟩:=hk1.1;obtain ⟨b1_,b2_⟩:=hk2;have z9_:=Z9_.out;have z10_:=Z10_.out;have z11_:=Z11_.out;have z12_:=Z12_.out;have z13_:=Z13_.out;omega));clear O8_1;have O8_1:=n_;clear n_
 have n_:=zA (Kd.S_kept O9_0.out hk (fun k_ hk1 hk2 => by obtain ⟨a1_,a2_⟩:=hk1.1;obtain ⟨b1_,b2_⟩:=hk2;have z10_:=Z10_.out;have z11_:=Z11_.out;have z12_:=Z12_.out;have z13_:=Z13_.out;omega));clear O9_0;have O9_0:=n_;clear n_
 have n_:=zA (Kd.N_kept O10_0.out hk (fun k_ hk1 hk2 => by obtain ⟨a1_,a2_⟩:=hk1.1;obtain ⟨b1_,b2_⟩:=hk2;have z11_:=Z11_.out;have z12_:=Z12_.out;have z13_:=Z13_.out;omega));clear O10_0;have O10_0:=n_;clear n_
 have n_:=zA (Kd.R_kept O11_0.out hk (fun k_ hk1 hk2 => by obtain ⟨a1_,a2_⟩:=hk1.1;obtain ⟨b1_,b2_⟩:=hk2;have z12_:=Z12_.out;have z13_:=Z13_.out;omega));clear O11_0;have O11_0:=n_;clear n_
 have n_:=zA (Kd.S_kept O17_0.out hk (fun k_ hk1 hk2 => by obtain ⟨a1_,a2_⟩:=hk1.1;obtain ⟨b1_,b2_⟩:=hk2;have z15_:=Z15_.out;have z16_:=Z16_.out;omega));clear O17_0;have O17_0:=n_;clear n_
 have n_:=zA (Kd.S_kept O18_0.out hk (fun k_ hk1 hk2 => by obtain ⟨a1_,a2_⟩:=hk1.1;obtain ⟨b1_,b2_⟩:=hk2;have z15_:=Z15_.out;have z16_:=Z16_.out;have z17_:=Z17_.out;omega));clear O18_0;have O18_0:=n_;clear n_
 have n_:=zA (Kd.R_kept O21_0.out hk (fun k_ hk1 hk2 => by obtain ⟨a1_,a2_⟩:=hk1.1;obtain ⟨b1_,b2_⟩:=hk2;have z15_:=Z15_.out;have z16_:=Z16_.out;have z17_:=Z17_.out;have z18_:=Z18_.out;have z19_:=Z19_.out;have z20_:=Z20_.out;omega));clear O21_0;have O21_0:=n_;clear n_
 have n_:=zA (Kd.R_kept O24_0.out hk (fun k_ hk1 hk2 => by obtain ⟨a1_,a2_⟩:=hk1.1;obtain ⟨b1_,b2_⟩:=hk2;have z15_:=Z15_.out;have z16_:=Z16_.out;have z17_:=Z17_.out;have z18_:=Z18_.out;have z19_:=Z19_.out;have z20_:=Z20_.out;have z21_:=Z21_.out;have z22_:=Z22_.out;have z23_:=Z23_.out;omega));clear O24_0;have O24_0:=n_;clear n_
 have n_:=zA (Kd.S_kept O24_1.out hk (fun k_ hk1 hk2 => by obtain ⟨a1_,a2_⟩:=hk1.1;obtain ⟨b1_,b2_⟩:=hk2;have z15_:=Z15_.out;have z16_:=Z16_.out;have z17_:=Z17_.out;have z18_:=Z18_.out;have z19_:=Z19_.out;have z20_:=Z20_.out;have z21_:=Z21_.out;have z22_:=Z22_.out;have z23_:=Z23_.out;omega));clear O24_1;have O24_1:=n_;clear n_
 have n_:=zA (Kd.S_kept O26_0.out hk (fun k_ hk1 hk2 => by obtain ⟨a1_,a2_⟩:=hk1.1;obtain ⟨b1_,b2_⟩:=hk2;have z15_:=Z15_.out;have z16_:=Z16_.out;have z17_:=Z17_.out;have z18_:=Z18_.out;have z19_:=Z19_.out;have z20_:=Z20_.out;have z21_:=Z21_.out;have z22_:=Z22_.out;have z23_:=Z23_.out;have z24_:=Z24_.out;have z25_:=Z25_.out;omega));clear O26_0;have O26_0:=n_;clear n_
 have n_:=zA (blk_kept Bg1.out hk (fun hk2 => by obtain ⟨a1_,a2_⟩:=Gg1.out;obtain ⟨b1_,b2_⟩:=hk2;have z2_:=Z2_.out;have z3_:=Z3_.out;have z4_:=Z4_.out;have z5_:=Z5_.out;have z6_:=Z6_.out;have z7_:=Z7_.out;have z8_:=Z8_.out;have z9_:=Z9_.out;have z10_:=Z10_.out;have z11_:=Z11_.out;have z12_:=Z12_.out;have z13_:=Z13_.out;omega));clear Bg1;have Bg1:=n_;clear n_
 have n_:=zA (blk_kept Bg2.out hk (fun hk2 => by obtain ⟨a1_,a2_⟩:=Gg2.out;obtain ⟨b1_,b2_⟩:=hk2;have z3_:=Z3_.out;have z4_:=Z4_.out;have z5_:=Z5_.out;have z6_:=Z6_.out;have z7_:=Z7_.out;have z8_:=Z8_.out;have z9_:=Z9_.out;have z10_:=Z10_.out;have z11_:=Z11_.out;have z12_:=Z12_.out;have z13_:=Z13_.out;omega));clear Bg2;have Bg2:=n_;clear n_
 have n_:=zA (blk_kept Bg10.out hk (fun hk2 => by obtain ⟨a1_,a2_⟩:=Gg10.out;obtain ⟨b1_,b2_⟩:=hk2;have z13_:=Z13_.out;omega));clear Bg10;have Bg10:=n_;clear n_
 have n_:=zA (blk_kept Bg11.out hk (fun hk2 => by obtain ⟨a1_,a2_⟩:=Gg11.out;obtain ⟨b1_,b2_⟩:=hk2;omega));clear Bg11;have Bg11:=n_;clear n_
 clear HB;have HB:=zA hb0
 clear hxg1_0
 clear hfg1_0
 clear hxg2_0
 clear hxg2_1
 clear hfg2_0
 clear hfg2_1
 clear hxg10_0
 clear hfg10_0
 clear hxg11_0
 clear hxg11_1
 clear hfg11_0
 clear hfg11_1
 have hxg1_0:=zc (.slice A0_0 l0_0.length c0_0) Bg1 0 rfl
 have hfg1_0:=blk_frozen Bg1.out 0
 have hxg2_0:=zc (.slice A1_0 l1_0.length c1_0) Bg2 0 rfl
 have hxg2_1:=zc (.slice A1_1 l1_1.length c1_1) Bg2 1 rfl
 have hfg2_0:=blk_frozen Bg2.out 0
 have hfg2_1:=blk_frozen Bg2.out 1
 have hxg10_0:=zc (.slice A11_0_ r6_0.length c11_0_) Bg10 0 rfl
 have hfg10_0:=blk_frozen Bg10.out 0
 have hxg11_0:=zc (.slice A14_0_ r7_0.length c14_0_) Bg11 0 rfl
 have hxg11_1:=zc (.slice A14_1_ r7_1.length c14_1_) Bg11 1 rfl
 have hfg11_0:=blk_frozen Bg11.out 0
 have hfg11_1:=blk_frozen Bg11.out 1
 clear hk hb0
 go_wp2_with (first|(go_at_call 19;refine hold ?_))
 unfold Hold
 refine (markFactS_calls (fun k_ => w16_.heap.size ≤ k_ ∧ k_ < w17_.heap.size) (.slice A17_0_ r8_0.length c17_0_) r8_0 r16_0 r17_0 r17_1 w _ HB.out (zS O17_0.out (fun _ h_ => h_.1)) e17_hz0.out Ee17.out).mono ?_
 rintro e w30_ ⟨rfl,ho0,hb0,hk⟩
 have n_:=zA (show Kd.S k64 64 w30_ w.heap.size (fun k_ => (w16_.heap.size ≤ k_ ∧ k_ < w17_.heap.size) ∧ True) (.slice A17_0_ r8_0.length c17_0_) r17_1 from zS ho0 (fun _ hk_ => ⟨hk_,trivial⟩));clear O17_0;have O17_0:=n_;clear n_
 clear ho0
 have Z30_:=zA (show w29_.heap.size ≤ w30_.heap.size from hk.1)
 have n_:=zA (Kd.R_kept O7_0.out hk (fun k_ hk1 hk2 => by obtain ⟨a1_,a2_⟩:=hk1.1;obtain ⟨b1_,b2_⟩:=hk2;have z8_:=Z8_.out;have z9_:=Z9_.out;have z10_:=Z10_.out;have z11_:=Z11_.out;have z12_:=Z12_.out;have z13_:=Z13_.out;have z14_:=Z14_.out;have z15_:=Z15_.out;have z16_:=Z16_.out;omega));clear O7_0;have O7_0:=n_;clear n_
 have n_:=zA (Kd.R_kept O8_0.out hk (fun k_ hk1 hk2 => by obtain ⟨a1_,a2_⟩:=hk1.1;obtain ⟨b1_,b2_⟩:=hk2;have z9_:=Z9_.out;have z10_:=Z10_.out;have z11_:=Z11_.out;have z12_:=Z12_.out;have z13_:=Z13_.out;have z14_:=Z14_.out;have z15_:=Z15_.out;have z16_:=Z16_.out;omega));clear O8_0;have O8_0:=n_;clear n_
 have n_:=zA (Kd.S_kept O8_1.out hk (fun k_ hk1 hk2 => by obtain ⟨a1_,a2_⟩:=hk1.1;obtain ⟨b1_,b2_⟩:=hk2;have z9_:=Z9_.out;have z10_:=Z10_.out;have z11_:=Z11_.out;have z12_:=Z12_.out;have z13_:=Z13_.out;have z14_:=Z14_.out;have z15_:=Z15_.out;have z16_:=Z16_.out;omega));clear O8_1;have O8_1:=n_;clear n_
 have n_:=zA (Kd.S_kept O9_0.out hk (fun k_ hk1 hk2 => by obtain ⟨a1_,a2_⟩:=hk1.1;obtain ⟨b1_,b2_⟩:=hk2;have z10_:=Z10_.out;have z11_:=Z11_.out;have z12_:=Z12_.out;have z13_:=Z13_.out;have z14_:=Z14_.out;have z15_:=Z15_.out;have z16_:=Z16_.out;omega));clear O9_0;have O9_0:=n_;clear n_
 have n_:=zA (Kd.N_kept O10_0.out hk (fun k_ hk1 hk2 => by obtain ⟨a1_,a2_⟩:=hk1.1;obtain ⟨b1_,b2_⟩:=hk2;have z11_:=Z11_.out;have z12_:=Z12_.out;have z13_:=Z13_.out;have z14_:=Z14_.out;have z15_:=Z15_.out;have z16_:=Z16_.out;omega));clear O10_0;have O10_0:=n_;clear n_
 have n_:=zA (Kd.R_kept O11_0.out hk (fun k_ hk1 hk2 => by obtain ⟨a1_,a2_⟩:=hk1.1;obtain ⟨b1_,b2_⟩:=hk2;have z12_:=Z12_.out;have z13_:=Z13_.out;have z14_:=Z14_.out;have z15_:=Z15_.out;have z16_:=Z16_.out;omega));clear O11_0;have O11_0:=n_;clear n_
 have n_:=zA (Kd.R_kept O14_0.out hk (fun k_ hk1 hk2 => by obtain ⟨a1_,a2_⟩:=hk1.1;obtain ⟨b1_,b2_⟩:=hk2;have z15_:=Z15_.out;have z16_:=Z16_.out;omega));clear O14_0;have O14_0:=n_;clear n_
 have n_:=zA (Kd.S_kept O14_1.out hk (fun k_ hk1 hk2 => by obtain ⟨a1_,a2_⟩:=hk1.1;obtain ⟨b1_,b2_⟩:=hk2;have z15_:=Z15_.out;have z16_:=Z16_.out;omega));clear O14_1;have O14_1:=n_;clear n_
 have n_:=zA (Kd.S_kept O18_0.out hk (fun k_ hk1 hk2 => by obtain ⟨a1_,a2_⟩:=hk1.1;obtain ⟨b1_,b2_⟩:=hk2;omega));clear O18_0;have O18_0:=n_;clear n_
 have n_:=zA (Kd.R_kept O21_0.out hk (fun k_ hk1 hk2 => by obtain ⟨a1_,a2_⟩:=hk1.1;obtain ⟨b1_,b2_⟩:=hk2;have z18_:=Z18_.out;have z19_:=Z19_.out;have z20_:=Z20_.out;omega));clear O21_0;have O21_0:=n_;clear n_
 have n_:=zA (Kd.R_kept O24_0.out hk (fun k_ hk1 hk2 => by obtain ⟨a1_,a2_⟩:=hk1.1;obtain ⟨b1_,b2_⟩:=hk2;have z18_:=Z18_.out;have z19_:=Z19_.out;have z20_:=Z20_.out;have z21_:=Z21_.out;have z22_:=Z22_.out;have z23_:=Z23_.out;omega));clear O24_0;have O24_0:=n_;clear n_
 have n_:=zA (Kd.S_kept O24_1.out hk (fun k_ hk1 hk2 => by obtain ⟨a1_,a2_⟩:=hk1.1;obtain ⟨b1_,b2_⟩:=hk2;have z18_:=Z18_.out;have z19_:=Z19_.out;have z20_:=Z20_.out;have z21_:=Z21_.out;have z22_:=Z22_.out;have z23_:=Z23_.out;omega));clear O24_1;have O24_1:=n_;clear n_
 have n_:=zA (Kd.S_kept O26_0.out hk (fun k_ hk1 hk2 => by obtain ⟨a1_,a2_⟩:=hk1.1;obtain ⟨b1_,b2_⟩:=hk2;have z18_:=Z18_.out;have z19_:=Z19_.out;have z20_:=Z20_.out;have z21_:=Z21_.out;have z22_:=Z22_.out;have z23_:=Z23_.out;have z24_:=Z24_.out;have z25_:=Z25_.out;omega));clear O26_0;have O26_0:=n_;clear n_
 have n_:=zA (blk_kept Bg1.out hk (fun hk2 => by obtain ⟨a1_,a2_⟩:=Gg1.out;obtain ⟨b1_,b2_⟩:=hk2;have z2_:=Z2_.out;have z3_:=Z3_.out;have z4_:=Z4_.out;have z5_:=Z5_.out;have z6_:=Z6_.out;have z7_:=Z7_.out;have z8_:=Z8_.out;have z9_:=Z9_.out;have z10_:=Z10_.out;have z11_:=Z11_.out;have z12_:=Z12_.out;have z13_:=Z13_.out;have z14_:=Z14_.out;have z15_:=Z15_.out;have z16_:=Z16_.out;omega));clear Bg1;have Bg1:=n_;clear n_
 have n_:=zA (blk_kept Bg2.out hk (fun hk2 => by obtain ⟨a1_,a2_⟩:=Gg2.out;obtain ⟨b1_,b2_⟩:=hk2;have z3_:=Z3_.out;have z4_:=Z4_.out;have z5_:=Z5_.out;have z6_:=Z6_.out;have z7_:=Z7_.out;have z8_:=Z8_.out;have z9_:=Z9_.out;have z10_:=Z10_.out;have z11_:=Z11_.out;have z12_:=Z12_.out;have z13_:=Z13_.out;have z14_:=Z14_.out;have z15_:=Z15_.out;have z16_:=Z16_.out;omega));clear Bg2;have Bg2:=n_;clear n_
 have n_:=zA (blk_kept Bg10.out hk (fun hk2 => by obtain ⟨a1_,a2_⟩:=Gg10.out;obtain ⟨b1_,b2_⟩:=hk2;have z13_:=Z13_.out;have z14_:=Z14_.out;have z15_:=Z15_.out;have z16_:=Z16_.out;omega));clear Bg10;have Bg10:=n_;clear n_
 have n_:=zA (blk_kept Bg11.out hk (fun hk2 => by obtain ⟨a1_,a2_⟩:=Gg11.out;obtain ⟨b1_,b2_⟩:=hk2;have z16_:=Z16_.out;omega));clear Bg11;have Bg11:=n_;clear n_
 clear HB;have HB:=zA hb0
 clear hxg1_0
 clear hfg1_0
 clear hxg2_0
 clear hxg2_1
 clear hfg2_0
 clear hfg2_1
 clear hxg10_0
 clear hfg10_0
 clear hxg11_0
 clear hxg11_1
 clear hfg11_0
 clear hfg11_1
 have hxg1_0:=zc (.slice A0_0 l0_0.length c0_0) Bg1 0 rfl
 have hfg1_0:=blk_frozen Bg1.out 0
 have hxg2_0:=zc (.slice A1_0 l1_0.length c1_0) Bg2 0 rfl
 have hxg2_1:=zc (.slice A1_1 l1_1.length c1_1) Bg2 1 rfl
 have hfg2_0:=blk_frozen Bg2.out 0
 have hfg2_1:=blk_frozen Bg2.out 1
 have hxg10_0:=zc (.slice A11_0_ r6_0.length c11_0_) Bg10 0 rfl
 have hfg10_0:=blk_frozen Bg10.out 0
 have hxg11_0:=zc (.slice A14_0_ r7_0.length c14_0_) Bg11 0 rfl
 have hxg11_1:=zc (.slice A14_1_ r7_1.length c14_1_) Bg11 1 rfl
 have hfg11_0:=blk_frozen Bg11.out 0
 have hfg11_1:=blk_frozen Bg11.out 1
 clear hk hb0
 go_wp2_with (first|(go_at_call 13;refine hold ?_))
 unfold Hold
 refine (laws_eqIntSS.calls ke11 _ _ r9_0 _ _ r9_0 true _ (Kd.S_reads' O18_0.out).2.2 (Kd.S_reads' O18_0.out).2.1 (Kd.N_reads' O10_0.out).2.2 (Kd.N_reads' O10_0.out).2.1 Ee11.out).mono ?_
 rintro e w31_ ⟨rfl,hd⟩
 have hb:=hd.below;clear hd
 have Z31_:=zA (show w30_.heap.size ≤ w31_.heap.size from hb.size)
 replace O7_0:=zA (zZ O7_0.out hb)
 replace O8_0:=zA (zZ O8_0.out hb)
 replace O8_1:=zA (zY O8_1.out hb)
 replace O9_0:=zA (zY O9_0.out hb)
 replace O10_0:=zA (Kd.N_below O10_0.out hb)
 replace O11_0:=zA (zZ O11_0.out hb)
 replace O14_0:=zA (zZ O14_0.out hb)
 replace O14_1:=zA (zY O14_1.out hb)
 replace O17_0:=zA (zY O17_0.out hb)
 replace O18_0:=zA (zY O18_0.out hb)
 replace O21_0:=zA (zZ O21_0.out hb)
 replace O24_0:=zA (zZ O24_0.out hb)
 replace O24_1:=zA (zY O24_1.out hb)
 replace O26_0:=zA (zY O26_0.out hb)
 replace Bg1:=zA (zQ Bg1.out hb)
 replace Bg2:=zA (zQ Bg2.out hb)
 replace Bg10:=zA (zQ Bg10.out hb)
 replace Bg11:=zA (zQ Bg11.out hb)
 replace HB:=zA (zJb HB.out hb)
 clear hxg1_0
 clear hfg1_0
 clear hxg2_0
 clear hxg2_1
 clear hfg2_0
 clear hfg2_1
 clear hxg10_0
 clear hfg10_0
 clear hxg11_0
 clear hxg11_1
 clear hfg11_0
 clear hfg11_1
 have hxg1_0:=zc (.slice A0_0 l0_0.length c0_0) Bg1 0 rfl
 have hfg1_0:=blk_frozen Bg1.out 0
 have hxg2_0:=zc (.slice A1_0 l1_0.length c1_0) Bg2 0 rfl
 have hxg2_1:=zc (.slice A1_1 l1_1.length c1_1) Bg2 1 rfl
 have hfg2_0:=blk_frozen Bg2.out 0
 have hfg2_1:=blk_frozen Bg2.out 1
 have hxg10_0:=zc (.slice A11_0_ r6_0.length c11_0_) Bg10 0 rfl
 have hfg10_0:=blk_frozen Bg10.out 0
 have hxg11_0:=zc (.slice A14_0_ r7_0.length c14_0_) Bg11 0 rfl
 have hxg11_1:=zc (.slice A14_1_ r7_1.length c14_1_) Bg11 1 rfl
 have hfg11_0:=blk_frozen Bg11.out 0
 have hfg11_1:=blk_frozen Bg11.out 1
 clear hb
 go_wp2_with (first|(go_at_call 20;refine hold ?_))
 unfold Hold
 refine (markIntSS_calls (fun k_ => w17_.heap.size ≤ k_ ∧ k_ < w18_.heap.size) (.slice A18_0_ r9_0.length c18_0_) r9_0 1 r19_0 r19_1 w _ HB.out (zS O18_0.out (fun _ h_ => h_.1)) e19_hz0.out Ee19.out).mono ?_
 rintro e w32_ ⟨rfl,ho0,hb0,hk⟩
 have n_:=zA (show Kd.S (Kd.slice 3 (Kd.int .i64)) 22 w32_ w.heap.size (fun k_ => (w17_.heap.size ≤ k_ ∧ k_ < w18_.heap.size) ∧ True) (.slice A18_0_ r9_0.length c18_0_) r19_1 from zS ho0 (fun _ hk_ => ⟨hk_,trivial⟩));clear O18_0;have O18_0:=n_;clear n_
 clear ho0
 have Z32_:=zA (show w31_.heap.size ≤ w32_.heap.size from hk.1)
 have n_:=zA (Kd.R_kept O7_0.out hk (fun k_ hk1 hk2 => by obtain ⟨a1_,a2_⟩:=hk1.1;obtain ⟨b1_,b2_⟩:=hk2;have z8_:=Z8_.out;have z9_:=Z9_.out;have z10_:=Z10_.out;have z11_:=Z11_.out;have z12_:=Z12_.out;have z13_:=Z13_.out;have z14_:=Z14_.out;have z15_:=Z15_.out;have z16_:=Z16_.out;have z17_:=Z17_.out;omega));clear O7_0;have O7_0:=n_;clear n_
 have n_:=zA (Kd.R_kept O8_0.out hk (fun k_ hk1 hk2 => by obtain ⟨a1_,a2_⟩:=hk1.1;obtain ⟨b1_,b2_⟩:=hk2;have z9_:=Z9_.out;have z10_:=Z10_.out;have z11_:=Z11_.out;have z12_:=Z12_.out;have z13_:=Z13_.out;have z14_:=Z14_.out;have z15_:=Z15_.out;have z16_:=Z16_.out;have z17_:=Z17_.out;omega));clear O8_0;have O8_0:=n_;clear n_
 have n_:=zA (Kd.S_kept O8_1.out hk (fun k_ hk1 hk2 => by obtain ⟨a1_,a2_⟩:=hk1.1;obtain ⟨b1_,b2_⟩:=hk2;have z9_:=Z9_.out;have z10_:=Z10_.out;have z11_:=Z11_.out;have z12_:=Z12_.out;have z13_:=Z13_.out;have z14_:=Z14_.out;have z15_:=Z15_.out;have z16_:=Z16_.out;have z17_:=Z17_.out;omega));clear O8_1;have O8_1:=n_;clear n_
 have n_:=zA (Kd.S_kept O9_0.out hk (fun k_ hk1 hk2 => by obtain ⟨a1_,a2_⟩:=hk1.1;obtain ⟨b1_,b2_⟩:=hk2;have z10_:=Z10_.out;have z11_:=Z11_.out;have z12_:=Z12_.out;have z13_:=Z13_.out;have z14_:=Z14_.out;have z15_:=Z15_.out;have z16_:=Z16_.out;have z17_:=Z17_.out;omega));clear O9_0;have O9_0:=n_;clear n_
 have n_:=zA (Kd.N_kept O10_0.out hk (fun k_ hk1 hk2 => by obtain ⟨a1_,a2_⟩:=hk1.1;obtain ⟨b1_,b2_⟩:=hk2;have z11_:=Z11_.out;have z12_:=Z12_.out;have z13_:=Z13_.out;have z14_:=Z14_.out;have z15_:=Z15_.out;have z16_:=Z16_.out;have z17_:=Z17_.out;omega));clear O10_0;have O10_0:=n_;clear n_
 have n_:=zA (Kd.R_kept O11_0.out hk (fun k_ hk1 hk2 => by obtain ⟨a1_,a2_⟩:=hk1.1;obtain ⟨b1_,b2_⟩:=hk2;have z12_:=Z12_.out;have z13_:=Z13_.out;have z14_:=Z14_.out;have z15_:=Z15_.out;have z16_:=Z16_.out;have z17_:=Z17_.out;omega));clear O11_0;have O11_0:=n_;clear n_
 have n_:=zA (Kd.R_kept O14_0.out hk (fun k_ hk1 hk2 => by obtain ⟨a1_,a2_⟩:=hk1.1;obtain ⟨b1_,b2_⟩:=hk2;have z15_:=Z15_.out;have z16_:=Z16_.out;have z17_:=Z17_.out;omega));clear O14_0;have O14_0:=n_;clear n_
 have n_:=zA (Kd.S_kept O14_1.out hk (fun k_ hk1 hk2 => by obtain ⟨a1_,a2_⟩:=hk1.1;obtain ⟨b1_,b2_⟩:=hk2;have z15_:=Z15_.out;have z16_:=Z16_.out;have z17_:=Z17_.out;omega));clear O14_1;have O14_1:=n_;clear n_
 have n_:=zA (Kd.S_kept O17_0.out hk (fun k_ hk1 hk2 => by obtain ⟨a1_,a2_⟩:=hk1.1;obtain ⟨b1_,b2_⟩:=hk2;omega));clear O17_0;have O17_0:=n_;clear n_
 have n_:=zA (Kd.R_kept O21_0.out hk (fun k_ hk1 hk2 => by obtain ⟨a1_,a2_⟩:=hk1.1;obtain ⟨b1_,b2_⟩:=hk2;have z19_:=Z19_.out;have z20_:=Z20_.out;omega));clear O21_0;have O21_0:=n_;clear n_
 have n_:=zA (Kd.R_kept O24_0.out hk (fun k_ hk1 hk2 => by obtain ⟨a1_,a2_⟩:=hk1.1;obtain ⟨b1_,b2_⟩:=hk2;have z19_:=Z19_.out;have z20_:=Z20_.out;have z21_:=Z21_.out;have z22_:=Z22_.out;have z23_:=Z23_.out;omega));clear O24_0;have O24_0:=n_;clear n_
 have n_:=zA (Kd.S_kept O24_1.out hk (fun k_ hk1 hk2 => by obtain ⟨a1_,a2_⟩:=hk1.1;obtain ⟨b1_,b2_⟩:=hk2;have z19_:=Z19_.out;have z20_:=Z20_.out;have z21_:=Z21_.out;have z22_:=Z22_.out;have z23_:=Z23_.out;omega));clear O24_1;have O24_1:=n_;clear n_
 have n_:=zA (Kd.S_kept O26_0.out hk (fun k_ hk1 hk2 => by obtain ⟨a1_,a2_⟩:=hk1.1;obtain ⟨b1_,b2_⟩:=hk2;have z19_:=Z19_.out;have z20_:=Z20_.out;have z21_:=Z21_.out;have z22_:=Z22_.out;have z23_:=Z23_.out;have z24_:=Z24_.out;have z25_:=Z25_.out;omega));clear O26_0;have O26_0:=n_;clear n_
 have n_:=zA (blk_kept Bg1.out hk (fun hk2 => by obtain ⟨a1_,a2_⟩:=Gg1.out;obtain ⟨b1_,b2_⟩:=hk2;have z2_:=Z2_.out;have z3_:=Z3_.out;have z4_:=Z4_.out;have z5_:=Z5_.out;have z6_:=Z6_.out;have z7_:=Z7_.out;have z8_:=Z8_.out;have z9_:=Z9_.out;have z10_:=Z10_.out;have z11_:=Z11_.out;have z12_:=Z12_.out;have z13_:=Z13_.out;have z14_:=Z14_.out;have z15_:=Z15_.out;have z16_:=Z16_.out;have z17_:=Z17_.out;omega));clear Bg1;have Bg1:=n_;clear n_
 have n_:=zA (blk_kept Bg2.out hk (fun hk2 => by obtain ⟨a1_,a2_⟩:=Gg2.out;obtain ⟨b1_,b2_⟩:=hk2;have z3_:=Z3_.out;have z4_:=Z4_.out;have z5_:=Z5_.out;have z6_:=Z6_.out;have z7_:=Z7_.out;have z8_:=Z8_.out;have z9_:=Z9_.out;have z10_:=Z10_.out;have z11_:=Z11_.out;have z12_:=Z12_.out;have z13_:=Z13_.out;have z14_:=Z14_.out;have z15_:=Z15_.out;have z16_:=Z16_.out;have z17_:=Z17_.out;omega));clear Bg2;have Bg2:=n_;clear n_
 have n_:=zA (blk_kept Bg10.out hk (fun hk2 => by obtain ⟨a1_,a2_⟩:=Gg10.out;obtain ⟨b1_,b2_⟩:=hk2;have z13_:=Z13_.out;have z14_:=Z14_.out;have z15_:=Z15_.out;have z16_:=Z16_.out;have z17_:=Z17_.out;omega));clear Bg10;have Bg10:=n_;clear n_
 have n_:=zA (blk_kept Bg11.out hk (fun hk2 => by obtain ⟨a1_,a2_⟩:=Gg11.out;obtain ⟨b1_,b2_⟩:=hk2;have z16_:=Z16_.out;have z17_:=Z17_.out;omega));clear Bg11;have Bg11:=n_;clear n_
 clear HB;have HB:=zA hb0
 clear hxg1_0
 clear hfg1_0
 clear hxg2_0
 clear hxg2_1
 clear hfg2_0
 clear hfg2_1
 clear hxg10_0
 clear hfg10_0
 clear hxg11_0
 clear hxg11_1
 clear hfg11_0
 clear hfg11_1
 have hxg1_0:=zc (.slice A0_0 l0_0.length c0_0) Bg1 0 rfl
 have hfg1_0:=blk_frozen Bg1.out 0
 have hxg2_0:=zc (.slice A1_0 l1_0.length c1_0) Bg2 0 rfl
 have hxg2_1:=zc (.slice A1_1 l1_1.length c1_1) Bg2 1 rfl
 have hfg2_0:=blk_frozen Bg2.out 0
 have hfg2_1:=blk_frozen Bg2.out 1
 have hxg10_0:=zc (.slice A11_0_ r6_0.length c11_0_) Bg10 0 rfl
 have hfg10_0:=blk_frozen Bg10.out 0
 have hxg11_0:=zc (.slice A14_0_ r7_0.length c14_0_) Bg11 0 rfl
 have hxg11_1:=zc (.slice A14_1_ r7_1.length c14_1_) Bg11 1 rfl
 have hfg11_0:=blk_frozen Bg11.out 0
 have hfg11_1:=blk_frozen Bg11.out 1
 clear hk hb0
 go_wp2_with (first|(go_at_call 21;refine hold ?_))
 unfold Hold
 refine calls_of_args (args':=#[.slice A18_0_ r19_1.length c18_0_,.int .i64 1]) (by rw [show r9_0.length = r19_1.length from (Kd.S_reads' O18_0.out).1]) ?_
 refine (laws_heldIntSS.calls ke20 _ _ r19_1 1 r19_0 _ (Kd.S_reads' O18_0.out).2.2 (Nat.le_trans (Nat.le_of_eq (Kd.S_reads' O18_0.out).1.symm) (Kd.S_reads' O18_0.out).2.1) Ee20.out).mono ?_
 rintro e w33_ ⟨rfl,hd⟩
 have hb:=hd.below;clear hd
 have Z33_:=zA (show w32_.heap.size ≤ w33_.heap.size from hb.size)
 replace O7_0:=zA (zZ O7_0.out hb)
 replace O8_0:=zA (zZ O8_0.out hb)
 replace O8_1:=zA (zY O8_1.out hb)
 replace O9_0:=zA (zY O9_0.out hb)
 replace O10_0:=zA (Kd.N_below O10_0.out hb)
 replace O11_0:=zA (zZ O11_0.out hb)
 replace O14_0:=zA (zZ O14_0.out hb)
 replace O14_1:=zA (zY O14_1.out hb)
 replace O17_0:=zA (zY O17_0.out hb)
 replace O18_0:=zA (zY O18_0.out hb)
 replace O21_0:=zA (zZ O21_0.out hb)
 replace O24_0:=zA (zZ O24_0.out hb)
 replace O24_1:=zA (zY O24_1.out hb)
 replace O26_0:=zA (zY O26_0.out hb)
 replace Bg1:=zA (zQ Bg1.out hb)
 replace Bg2:=zA (zQ Bg2.out hb)
 replace Bg10:=zA (zQ Bg10.out hb)
 replace Bg11:=zA (zQ Bg11.out hb)
 replace HB:=zA (zJb HB.out hb)
 clear hxg1_0
 clear hfg1_0
 clear hxg2_0
 clear hxg2_1
 clear hfg2_0
 clear hfg2_1
 clear hxg10_0
 clear hfg10_0
 clear hxg11_0
 clear hxg11_1
 clear hfg11_0
 clear hfg11_1
 have hxg1_0:=zc (.slice A0_0 l0_0.length c0_0) Bg1 0 rfl
 have hfg1_0:=blk_frozen Bg1.out 0
 have hxg2_0:=zc (.slice A1_0 l1_0.length c1_0) Bg2 0 rfl
 have hxg2_1:=zc (.slice A1_1 l1_1.length c1_1) Bg2 1 rfl
 have hfg2_0:=blk_frozen Bg2.out 0
 have hfg2_1:=blk_frozen Bg2.out 1
 have hxg10_0:=zc (.slice A11_0_ r6_0.length c11_0_) Bg10 0 rfl
 have hfg10_0:=blk_frozen Bg10.out 0
 have hxg11_0:=zc (.slice A14_0_ r7_0.length c14_0_) Bg11 0 rfl
 have hxg11_1:=zc (.slice A14_1_ r7_1.length c14_1_) Bg11 1 rfl
 have hfg11_0:=blk_frozen Bg11.out 0
 have hfg11_1:=blk_frozen Bg11.out 1
 clear hb
 try go_wp2
 replace O7_0:=zA (zH O7_0.out)
 replace O8_0:=zA (zH O8_0.out)
 replace O8_1:=zA (zN O8_1.out)
 replace O9_0:=zA (zN O9_0.out)
 replace O10_0:=zA (Kd.N_drew O10_0.out)
 replace O11_0:=zA (zH O11_0.out)
 replace O14_0:=zA (zH O14_0.out)
 replace O14_1:=zA (zN O14_1.out)
 replace O17_0:=zA (zN O17_0.out)
 replace O18_0:=zA (zN O18_0.out)
 replace O21_0:=zA (zH O21_0.out)
 replace O24_0:=zA (zH O24_0.out)
 replace O24_1:=zA (zN O24_1.out)
 replace O26_0:=zA (zN O26_0.out)
 replace Bg1:=zA (zI Bg1.out)
 replace Bg2:=zA (zI Bg2.out)
 replace Bg10:=zA (zI Bg10.out)
 replace Bg11:=zA (zI Bg11.out)
 replace HB:=zA (zJ HB.out)
 clear hxg1_0
 clear hfg1_0
 clear hxg2_0
 clear hxg2_1
 clear hfg2_0
 clear hfg2_1
 clear hxg10_0
 clear hfg10_0
 clear hxg11_0
 clear hxg11_1
 clear hfg11_0
 clear hfg11_1
 have hz:=zA (show w33_.heap.size ≤ w33_.drew.heap.size from Nat.le_refl _)
 refine start_ (n:=8) (S:=fun w' => w'.cell? ⟨g1,0,none⟩ = some (.slice A0_0 l0_0.length c0_0) ∧ w'.cell? ⟨g2,0,none⟩ = some (.slice A1_0 l1_0.length c1_0) ∧ w'.cell? ⟨g2,1,none⟩ = some (.slice A1_1 l1_1.length c1_1)) (ds:=[]) #[yf,yf,yf,yf,yf,yf,yf,yf] (by kernel_rfl) rfl rfl ⟨(zP Bg1.out 0).trans rfl,(zP Bg2.out 0).trans rfl,(zP Bg2.out 1).trans rfl⟩ (fun hHeld => ?_)
 generalize w33_.drew = w34_ at O7_0 O8_0 O8_1 O9_0 O10_0 O11_0 O14_0 O14_1 O17_0 O18_0 O21_0 O24_0 O24_1 O26_0 Bg1 Bg2 Bg10 Bg11 HB hz hHeld ⊢
 have Z34_:=hz;clear hz
 refine zw 0 96 hHeld ?_;refine zw 2 98 hHeld ?_;refine zu 4 100 ?_
 refine one_ (i:=1) (N:=some 97) #[yt,yt,yt,yf,yt,yf,yf,yf] rfl rfl (by kernel_rfl) (by decide) (fun K hK => ?_)
 refine goes_ Tryz.func9 (by kernel_rfl) rfl #[.agg #[.slice A0_0 l0_0.length c0_0]] (by rfl) rfl rfl (by (try simp only [zCb,zMb,zNb]);first|done|rfl) ?_
 with_reducible refine (laws_toSchema.calls ke6 _ _ l0_0 r6_0 _ (zKb H0_0.out HB.out) HC0_0.out Ee6.out).mono ?_
 rintro e w35_ ⟨v35_0_,rfl,ho0,hb⟩
 refine ⟨_,rfl,?_⟩
 have O35_0:=zA (newR ho0 HB.out.size)
 have Z35_:=zA (show w34_.heap.size ≤ w35_.heap.size from hb.size)
 replace O7_0:=zA (zZ O7_0.out hb)
 replace O8_0:=zA (zZ O8_0.out hb)
 replace O8_1:=zA (zY O8_1.out hb)
 replace O9_0:=zA (zY O9_0.out hb)
 replace O10_0:=zA (Kd.N_below O10_0.out hb)
 replace O11_0:=zA (zZ O11_0.out hb)
 replace O14_0:=zA (zZ O14_0.out hb)
 replace O14_1:=zA (zY O14_1.out hb)
 replace O17_0:=zA (zY O17_0.out hb)
 replace O18_0:=zA (zY O18_0.out hb)
 replace O21_0:=zA (zZ O21_0.out hb)
 replace O24_0:=zA (zZ O24_0.out hb)
 replace O24_1:=zA (zY O24_1.out hb)
 replace O26_0:=zA (zY O26_0.out hb)
 replace Bg1:=zA (zQ Bg1.out hb)
 replace Bg2:=zA (zQ Bg2.out hb)
 replace Bg10:=zA (zQ Bg10.out hb)
 replace Bg11:=zA (zQ Bg11.out hb)
 replace HB:=zA (zJb HB.out hb)
 have hxg1_0:=zc (.slice A0_0 l0_0.length c0_0) Bg1 0 rfl
 have hfg1_0:=blk_frozen Bg1.out 0
 have hxg2_0:=zc (.slice A1_0 l1_0.length c1_0) Bg2 0 rfl
 have hxg2_1:=zc (.slice A1_1 l1_1.length c1_1) Bg2 1 rfl
 have hfg2_0:=blk_frozen Bg2.out 0
 have hfg2_1:=blk_frozen Bg2.out 1
 have hxg10_0:=zc (.slice A11_0_ r6_0.length c11_0_) Bg10 0 rfl
 have hfg10_0:=blk_frozen Bg10.out 0
 have hxg11_0:=zc (.slice A14_0_ r7_0.length c14_0_) Bg11 0 rfl
 have hxg11_1:=zc (.slice A14_1_ r7_1.length c14_1_) Bg11 1 rfl
 have hfg11_0:=blk_frozen Bg11.out 0
 have hfg11_1:=blk_frozen Bg11.out 1
 clear hb ho0
 obtain ⟨A35_0_,c35_0_,eq_⟩:=Kd.R_slice O35_0.out
 subst eq_
 clear hxg1_0
 clear hfg1_0
 clear hxg2_0
 clear hxg2_1
 clear hfg2_0
 clear hfg2_1
 clear hxg10_0
 clear hfg10_0
 clear hxg11_0
 clear hxg11_1
 clear hfg11_0
 clear hfg11_1
 refine hK.out _ _ ⟨(zP Bg1.out 0).trans rfl,(zP Bg2.out 0).trans rfl,(zP Bg2.out 1).trans rfl⟩ (fun hHeld => ?_)
 clear hK K
 refine norm_ (a':=?_) ?_ ?_
 rotate_left
 ·show Act.put _ (some 97) _ = _;simp only [Act.put,zO,zEb,zFb,i64_w,i32_w];rfl
 refine one_ (i:=3) (N:=some 99) #[yt,yt,yt,yt,yt,yf,yf,yf] rfl rfl (by kernel_rfl) (by decide) (fun K hK => ?_)
 refine goes_ Tryz.func10 (by kernel_rfl) rfl #[.agg #[.slice A1_0 l1_0.length c1_0,.slice A1_1 l1_1.length c1_1]] (by rfl) rfl rfl (by (try simp only [zCb,zMb,zNb]);first|done|rfl) ?_
 with_reducible refine (laws_toQuery.calls ke7 _ _ l1_0 _ _ l1_1 r7_0 r7_1 _ (zKb H1_0.out HB.out) HC1_0.out (zKb H1_1.out HB.out) HC1_1.out Ee7.out).mono ?_
 rintro e w36_ ⟨v36_0_,v36_1_,rfl,ho0,ho1,hb⟩
 refine ⟨_,rfl,?_⟩
 have O36_0:=zA (newR ho0 HB.out.size)
 have O36_1:=zA (newS ho1 HB.out.size)
 have Z36_:=zA (show w35_.heap.size ≤ w36_.heap.size from hb.size)
 replace O7_0:=zA (zZ O7_0.out hb)
 replace O8_0:=zA (zZ O8_0.out hb)
 replace O8_1:=zA (zY O8_1.out hb)
 replace O9_0:=zA (zY O9_0.out hb)
 replace O10_0:=zA (Kd.N_below O10_0.out hb)
 replace O11_0:=zA (zZ O11_0.out hb)
 replace O14_0:=zA (zZ O14_0.out hb)
 replace O14_1:=zA (zY O14_1.out hb)
 replace O17_0:=zA (zY O17_0.out hb)
 replace O18_0:=zA (zY O18_0.out hb)
 replace O21_0:=zA (zZ O21_0.out hb)
 replace O24_0:=zA (zZ O24_0.out hb)
 replace O24_1:=zA (zY O24_1.out hb)
 replace O26_0:=zA (zY O26_0.out hb)
 replace O35_0:=zA (zZ O35_0.out hb)
 replace Bg1:=zA (zQ Bg1.out hb)
 replace Bg2:=zA (zQ Bg2.out hb)
 replace Bg10:=zA (zQ Bg10.out hb)
 replace Bg11:=zA (zQ Bg11.out hb)
 replace HB:=zA (zJb HB.out hb)
 have hxg1_0:=zc (.slice A0_0 l0_0.length c0_0) Bg1 0 rfl
 have hfg1_0:=blk_frozen Bg1.out 0
 have hxg2_0:=zc (.slice A1_0 l1_0.length c1_0) Bg2 0 rfl
 have hxg2_1:=zc (.slice A1_1 l1_1.length c1_1) Bg2 1 rfl
 have hfg2_0:=blk_frozen Bg2.out 0
 have hfg2_1:=blk_frozen Bg2.out 1
 have hxg10_0:=zc (.slice A11_0_ r6_0.length c11_0_) Bg10 0 rfl
 have hfg10_0:=blk_frozen Bg10.out 0
 have hxg11_0:=zc (.slice A14_0_ r7_0.length c14_0_) Bg11 0 rfl
 have hxg11_1:=zc (.slice A14_1_ r7_1.length c14_1_) Bg11 1 rfl
 have hfg11_0:=blk_frozen Bg11.out 0
 have hfg11_1:=blk_frozen Bg11.out 1
 clear hb ho0 ho1
 obtain ⟨A36_0_,c36_0_,eq_⟩:=Kd.R_slice O36_0.out
 subst eq_
 obtain ⟨A36_1_,c36_1_,eq_⟩:=Kd.S_slice O36_1.out
 subst eq_
 clear hxg1_0
 clear hfg1_0
 clear hxg2_0
 clear hxg2_1
 clear hfg2_0
 clear hfg2_1
 clear hxg10_0
 clear hfg10_0
 clear hxg11_0
 clear hxg11_1
 clear hfg11_0
 clear hfg11_1
 refine hK.out _ _ ⟨(zP Bg1.out 0).trans rfl,(zP Bg2.out 0).trans rfl,(zP Bg2.out 1).trans rfl⟩ (fun hHeld => ?_)
 clear hK K
 refine norm_ (a':=?_) ?_ ?_
 rotate_left
 ·show Act.put _ (some 99) _ = _;simp only [Act.put,zO,zEb,zFb,i64_w,i32_w];rfl
 refine one_ (i:=5) (N:=some 101) #[yt,yt,yt,yt,yt,yt,yf,yf] rfl rfl (by kernel_rfl) (by decide) (fun K hK => ?_)
 refine goes_ Tryz.func11 (by kernel_rfl) rfl #[.slice A2 l2.length c2] (by rfl) rfl rfl (by (try simp only [zCb,zMb,zNb]);first|done|rfl) ?_
 with_reducible refine (laws_toFactS.calls ke8 _ _ l2 r8_0 _ (zKb H2.out HB.out) HC2.out Ee8.out).mono ?_
 rintro e w37_ ⟨v37_0_,rfl,ho0,hb⟩
 refine ⟨_,rfl,?_⟩
 have O37_0:=zA (newS ho0 HB.out.size)
 have Z37_:=zA (show w36_.heap.size ≤ w37_.heap.size from hb.size)
 replace O7_0:=zA (zZ O7_0.out hb)
 replace O8_0:=zA (zZ O8_0.out hb)
 replace O8_1:=zA (zY O8_1.out hb)
 replace O9_0:=zA (zY O9_0.out hb)
 replace O10_0:=zA (Kd.N_below O10_0.out hb)
 replace O11_0:=zA (zZ O11_0.out hb)
 replace O14_0:=zA (zZ O14_0.out hb)
 replace O14_1:=zA (zY O14_1.out hb)
 replace O17_0:=zA (zY O17_0.out hb)
 replace O18_0:=zA (zY O18_0.out hb)
 replace O21_0:=zA (zZ O21_0.out hb)
 replace O24_0:=zA (zZ O24_0.out hb)
 replace O24_1:=zA (zY O24_1.out hb)
 replace O26_0:=zA (zY O26_0.out hb)
 replace O35_0:=zA (zZ O35_0.out hb)
 replace O36_0:=zA (zZ O36_0.out hb)
 replace O36_1:=zA (zY O36_1.out hb)
 replace Bg1:=zA (zQ Bg1.out hb)
 replace Bg2:=zA (zQ Bg2.out hb)
 replace Bg10:=zA (zQ Bg10.out hb)
 replace Bg11:=zA (zQ Bg11.out hb)
 replace HB:=zA (zJb HB.out hb)
 have hxg1_0:=zc (.slice A0_0 l0_0.length c0_0) Bg1 0 rfl
 have hfg1_0:=blk_frozen Bg1.out 0
 have hxg2_0:=zc (.slice A1_0 l1_0.length c1_0) Bg2 0 rfl
 have hxg2_1:=zc (.slice A1_1 l1_1.length c1_1) Bg2 1 rfl
 have hfg2_0:=blk_frozen Bg2.out 0
 have hfg2_1:=blk_frozen Bg2.out 1
 have hxg10_0:=zc (.slice A11_0_ r6_0.length c11_0_) Bg10 0 rfl
 have hfg10_0:=blk_frozen Bg10.out 0
 have hxg11_0:=zc (.slice A14_0_ r7_0.length c14_0_) Bg11 0 rfl
 have hxg11_1:=zc (.slice A14_1_ r7_1.length c14_1_) Bg11 1 rfl
 have hfg11_0:=blk_frozen Bg11.out 0
 have hfg11_1:=blk_frozen Bg11.out 1
 clear hb ho0
 obtain ⟨A37_0_,c37_0_,eq_⟩:=Kd.S_slice O37_0.out
 subst eq_
 clear hxg1_0
 clear hfg1_0
 clear hxg2_0
 clear hxg2_1
 clear hfg2_0
 clear hfg2_1
 clear hxg10_0
 clear hfg10_0
 clear hxg11_0
 clear hxg11_1
 clear hfg11_0
 clear hfg11_1
 refine hK.out _ _ ⟨(zP Bg1.out 0).trans rfl,(zP Bg2.out 0).trans rfl,(zP Bg2.out 1).trans rfl⟩ (fun hHeld => ?_)
 clear hK K
 refine norm_ (a':=?_) ?_ ?_
 rotate_left
 ·show Act.put _ (some 101) _ = _;simp only [Act.put,zO,zEb,zFb,i64_w,i32_w];rfl
 refine one_ (i:=6) (N:=some 102) #[yt,yt,yt,yt,yt,yt,yt,yf] rfl rfl (by kernel_rfl) (by decide) (fun K hK => ?_)
 refine goes_ Tryz.func12 (by kernel_rfl) rfl #[.agg #[.slice A35_0_ r6_0.length c35_0_],.agg #[.slice A36_0_ r7_0.length c36_0_,.slice A36_1_ r7_1.length c36_1_],.slice A37_0_ r8_0.length c37_0_] (by rfl) rfl rfl (by (try simp only [zCb,zMb,zNb]);first|done|rfl) ?_
 with_reducible refine (impl_Answers_calls _ _ r6_0 _ _ r7_0 _ _ r7_1 _ _ r8_0 r9_0 _ (Kd.R_reads' O35_0.out).2.2 (Kd.R_reads' O35_0.out).2.1 (Kd.R_reads' O36_0.out).2.2 (Kd.R_reads' O36_0.out).2.1 (Kd.S_reads' O36_1.out).2.2 (Kd.S_reads' O36_1.out).2.1 (Kd.S_reads' O37_0.out).2.2 (Kd.S_reads' O37_0.out).2.1 e10_hz0.out Ee10.out).mono ?_
 rintro e w38_ ⟨v38_0_,rfl,ho0,hb⟩
 refine ⟨_,rfl,?_⟩
 have O38_0:=zA (newS ho0 HB.out.size)
 have Z38_:=zA (show w37_.heap.size ≤ w38_.heap.size from hb.size)
 replace O7_0:=zA (zZ O7_0.out hb)
 replace O8_0:=zA (zZ O8_0.out hb)
 replace O8_1:=zA (zY O8_1.out hb)
 replace O9_0:=zA (zY O9_0.out hb)
 replace O10_0:=zA (Kd.N_below O10_0.out hb)
 replace O11_0:=zA (zZ O11_0.out hb)
 replace O14_0:=zA (zZ O14_0.out hb)
 replace O14_1:=zA (zY O14_1.out hb)
 replace O17_0:=zA (zY O17_0.out hb)
 replace O18_0:=zA (zY O18_0.out hb)
 replace O21_0:=zA (zZ O21_0.out hb)
 replace O24_0:=zA (zZ O24_0.out hb)
 replace O24_1:=zA (zY O24_1.out hb)
 replace O26_0:=zA (zY O26_0.out hb)
 replace O35_0:=zA (zZ O35_0.out hb)
 replace O36_0:=zA (zZ O36_0.out hb)
 replace O36_1:=zA (zY O36_1.out hb)
 replace O37_0:=zA (zY O37_0.out hb)
 replace Bg1:=zA (zQ Bg1.out hb)
 replace Bg2:=zA (zQ Bg2.out hb)
 replace Bg10:=zA (zQ Bg10.out hb)
 replace Bg11:=zA (zQ Bg11.out hb)
 replace HB:=zA (zJb HB.out hb)
 have hxg1_0:=zc (.slice A0_0 l0_0.length c0_0) Bg1 0 rfl
 have hfg1_0:=blk_frozen Bg1.out 0
 have hxg2_0:=zc (.slice A1_0 l1_0.length c1_0) Bg2 0 rfl
 have hxg2_1:=zc (.slice A1_1 l1_1.length c1_1) Bg2 1 rfl
 have hfg2_0:=blk_frozen Bg2.out 0
 have hfg2_1:=blk_frozen Bg2.out 1
 have hxg10_0:=zc (.slice A11_0_ r6_0.length c11_0_) Bg10 0 rfl
 have hfg10_0:=blk_frozen Bg10.out 0
 have hxg11_0:=zc (.slice A14_0_ r7_0.length c14_0_) Bg11 0 rfl
 have hxg11_1:=zc (.slice A14_1_ r7_1.length c14_1_) Bg11 1 rfl
 have hfg11_0:=blk_frozen Bg11.out 0
 have hfg11_1:=blk_frozen Bg11.out 1
 clear hb ho0
 obtain ⟨A38_0_,c38_0_,eq_⟩:=Kd.S_slice O38_0.out
 subst eq_
 clear hxg1_0
 clear hfg1_0
 clear hxg2_0
 clear hxg2_1
 clear hfg2_0
 clear hfg2_1
 clear hxg10_0
 clear hfg10_0
 clear hxg11_0
 clear hxg11_1
 clear hfg11_0
 clear hfg11_1
 refine hK.out _ _ ⟨(zP Bg1.out 0).trans rfl,(zP Bg2.out 0).trans rfl,(zP Bg2.out 1).trans rfl⟩ (fun hHeld => ?_)
 clear hK K
 refine norm_ (a':=?_) ?_ ?_
 rotate_left
 ·show Act.put _ (some 102) _ = _;simp only [Act.put,zO,zEb,zFb,i64_w,i32_w];rfl
 refine zu 7 16 ?_
 refine done_ (by kernel_rfl) ?_
 have hxg1_0:=zc (.slice A0_0 l0_0.length c0_0) Bg1 0 rfl
 have hfg1_0:=blk_frozen Bg1.out 0
 have hxg2_0:=zc (.slice A1_0 l1_0.length c1_0) Bg2 0 rfl
 have hxg2_1:=zc (.slice A1_1 l1_1.length c1_1) Bg2 1 rfl
 have hfg2_0:=blk_frozen Bg2.out 0
 have hfg2_1:=blk_frozen Bg2.out 1
 have hxg10_0:=zc (.slice A11_0_ r6_0.length c11_0_) Bg10 0 rfl
 have hfg10_0:=blk_frozen Bg10.out 0
 have hxg11_0:=zc (.slice A14_0_ r7_0.length c14_0_) Bg11 0 rfl
 have hxg11_1:=zc (.slice A14_1_ r7_1.length c14_1_) Bg11 1 rfl
 have hfg11_0:=blk_frozen Bg11.out 0
 have hfg11_1:=blk_frozen Bg11.out 1
 go_wp2_with (first|(go_at_call 13;refine hold ?_))
 unfold Hold
 refine (laws_eqIntSS.calls ke11 _ _ r9_0 _ _ r9_0 true _ (Kd.S_reads' O38_0.out).2.2 (Kd.S_reads' O38_0.out).2.1 (Kd.N_reads' O10_0.out).2.2 (Kd.N_reads' O10_0.out).2.1 Ee11.out).mono ?_
 rintro e w39_ ⟨rfl,hd⟩
 have hb:=hd.below;clear hd
 have Z39_:=zA (show w38_.heap.size ≤ w39_.heap.size from hb.size)
 replace O7_0:=zA (zZ O7_0.out hb)
 replace O8_0:=zA (zZ O8_0.out hb)
 replace O8_1:=zA (zY O8_1.out hb)
 replace O9_0:=zA (zY O9_0.out hb)
 replace O10_0:=zA (Kd.N_below O10_0.out hb)
 replace O11_0:=zA (zZ O11_0.out hb)
 replace O14_0:=zA (zZ O14_0.out hb)
 replace O14_1:=zA (zY O14_1.out hb)
 replace O17_0:=zA (zY O17_0.out hb)
 replace O18_0:=zA (zY O18_0.out hb)
 replace O21_0:=zA (zZ O21_0.out hb)
 replace O24_0:=zA (zZ O24_0.out hb)
 replace O24_1:=zA (zY O24_1.out hb)
 replace O26_0:=zA (zY O26_0.out hb)
 replace O35_0:=zA (zZ O35_0.out hb)
 replace O36_0:=zA (zZ O36_0.out hb)
 replace O36_1:=zA (zY O36_1.out hb)
 replace O37_0:=zA (zY O37_0.out hb)
 replace O38_0:=zA (zY O38_0.out hb)
 replace Bg1:=zA (zQ Bg1.out hb)
 replace Bg2:=zA (zQ Bg2.out hb)
 replace Bg10:=zA (zQ Bg10.out hb)
 replace Bg11:=zA (zQ Bg11.out hb)
 replace HB:=zA (zJb HB.out hb)
 clear hxg1_0
 clear hfg1_0
 clear hxg2_0
 clear hxg2_1
 clear hfg2_0
 clear hfg2_1
 clear hxg10_0
 clear hfg10_0
 clear hxg11_0
 clear hxg11_1
 clear hfg11_0
 clear hfg11_1
 have hxg1_0:=zc (.slice A0_0 l0_0.length c0_0) Bg1 0 rfl
 have hfg1_0:=blk_frozen Bg1.out 0
 have hxg2_0:=zc (.slice A1_0 l1_0.length c1_0) Bg2 0 rfl
 have hxg2_1:=zc (.slice A1_1 l1_1.length c1_1) Bg2 1 rfl
 have hfg2_0:=blk_frozen Bg2.out 0
 have hfg2_1:=blk_frozen Bg2.out 1
 have hxg10_0:=zc (.slice A11_0_ r6_0.length c11_0_) Bg10 0 rfl
 have hfg10_0:=blk_frozen Bg10.out 0
 have hxg11_0:=zc (.slice A14_0_ r7_0.length c14_0_) Bg11 0 rfl
 have hxg11_1:=zc (.slice A14_1_ r7_1.length c14_1_) Bg11 1 rfl
 have hfg11_0:=blk_frozen Bg11.out 0
 have hfg11_1:=blk_frozen Bg11.out 1
 clear hb
 go_wp2_with (first|(go_at_call 21;refine hold ?_))
 unfold Hold
 refine calls_of_args (args':=#[.slice A18_0_ r19_1.length c18_0_,.int .i64 1]) (by rw [show r9_0.length = r19_1.length from (Kd.S_reads' O18_0.out).1]) ?_
 refine (laws_heldIntSS.calls ke20 _ _ r19_1 1 r19_0 _ (Kd.S_reads' O18_0.out).2.2 (Nat.le_trans (Nat.le_of_eq (Kd.S_reads' O18_0.out).1.symm) (Kd.S_reads' O18_0.out).2.1) Ee20.out).mono ?_
 rintro e w40_ ⟨rfl,hd⟩
 have hb:=hd.below;clear hd
 have Z40_:=zA (show w39_.heap.size ≤ w40_.heap.size from hb.size)
 replace O7_0:=zA (zZ O7_0.out hb)
 replace O8_0:=zA (zZ O8_0.out hb)
 replace O8_1:=zA (zY O8_1.out hb)
 replace O9_0:=zA (zY O9_0.out hb)
 replace O10_0:=zA (Kd.N_below O10_0.out hb)
 replace O11_0:=zA (zZ O11_0.out hb)
 replace O14_0:=zA (zZ O14_0.out hb)
 replace O14_1:=zA (zY O14_1.out hb)
 replace O17_0:=zA (zY O17_0.out hb)
 replace O18_0:=zA (zY O18_0.out hb)
 replace O21_0:=zA (zZ O21_0.out hb)
 replace O24_0:=zA (zZ O24_0.out hb)
 replace O24_1:=zA (zY O24_1.out hb)
 replace O26_0:=zA (zY O26_0.out hb)
 replace O35_0:=zA (zZ O35_0.out hb)
 replace O36_0:=zA (zZ O36_0.out hb)
 replace O36_1:=zA (zY O36_1.out hb)
 replace O37_0:=zA (zY O37_0.out hb)
 replace O38_0:=zA (zY O38_0.out hb)
 replace Bg1:=zA (zQ Bg1.out hb)
 replace Bg2:=zA (zQ Bg2.out hb)
 replace Bg10:=zA (zQ Bg10.out hb)
 replace Bg11:=zA (zQ Bg11.out hb)
 replace HB:=zA (zJb HB.out hb)
 clear hxg1_0
 clear hfg1_0
 clear hxg2_0
 clear hxg2_1
 clear hfg2_0
 clear hfg2_1
 clear hxg10_0
 clear hfg10_0
 clear hxg11_0
 clear hxg11_1
 clear hfg11_0
 clear hfg11_1
 have hxg1_0:=zc (.slice A0_0 l0_0.length c0_0) Bg1 0 rfl
 have hfg1_0:=blk_frozen Bg1.out 0
 have hxg2_0:=zc (.slice A1_0 l1_0.length c1_0) Bg2 0 rfl
 have hxg2_1:=zc (.slice A1_1 l1_1.length c1_1) Bg2 1 rfl
 have hfg2_0:=blk_frozen Bg2.out 0
 have hfg2_1:=blk_frozen Bg2.out 1
 have hxg10_0:=zc (.slice A11_0_ r6_0.length c11_0_) Bg10 0 rfl
 have hfg10_0:=blk_frozen Bg10.out 0
 have hxg11_0:=zc (.slice A14_0_ r7_0.length c14_0_) Bg11 0 rfl
 have hxg11_1:=zc (.slice A14_1_ r7_1.length c14_1_) Bg11 1 rfl
 have hfg11_0:=blk_frozen Bg11.out 0
 have hfg11_1:=blk_frozen Bg11.out 1
 clear hb
 go_wp2
 go_ret
 exact ⟨rfl,HB.out⟩
theorem FnExactAnswers_calls (A0_0 : Option Addr) (c0_0 : Nat) (l0_0 : List Int) (A1_0 : Option Addr) (c1_0 : Nat) (l1_0 : List Int) (A1_1 : Option Addr) (c1_1 : Nat) (l1_1 : List S79) (A2 : Option Addr) (c2 : Nat) (l2 : List S59) (w : World) (hr0_0 : Kd.C (Kd.int .i64) w A0_0 l0_0.length l0_0) (hc0_0 : l0_0.length ≤ c0_0) (hr1_0 : Kd.C (Kd.int .i64) w A1_0 l1_0.length l1_0) (hc1_0 : l1_0.length ≤ c1_0) (hr1_1 : Kd.C k79 w A1_1 l1_1.length l1_1) (hc1_1 : l1_1.length ≤ c1_1) (hr2 : Kd.C k59 w A2 l2.length l2) (hc2 : l2.length ≤ c2)
  (w0 : (WfL WfI) l0_0) (w1 : (WfL WfI) l1_0 ∧ (WfL (fun x : S79 => WfI x.f0 ∧ (WfL WfI) x.f1)) l1_1) (w2 : (WfL (fun x : S59 => WfI x.f0 ∧ (WfL WfI) x.f1)) l2) :
  Calls Tryz.prog 3 #[.agg #[.slice A0_0 l0_0.length c0_0], .agg #[.slice A1_0 l1_0.length c1_0, .slice A1_1 l1_1.length c1_1], .slice A2 l2.length c2] w fun e w' => e = .returned (.bool true) ∧ Below w.heap.size w w' := by
 obtain ⟨t0,z0,c0⟩:=szSchema_ok l0_0 1048576 w0 (by omega) (by omega)
 obtain ⟨_,z0⟩:=z0.rounds
 rcases c0 with c0|⟨p0,q0,hs0⟩
 ·exact laws_FnExactAnswers_out0 _ _ _ _ _ _ _ _ _ _ _ _ w hr0_0 hc0_0 hr1_0 hc1_0 hr1_1 hc1_1 hr2 hc2 _ z0 c0
 obtain ⟨t1,z1,c1⟩:=szQuery_ok l1_0 l1_1 t0 w1 (by omega) (by omega)
 rcases c1 with c1|⟨p1,q1,hs1⟩
 ·exact laws_FnExactAnswers_out1 _ _ _ _ _ _ _ _ _ _ _ _ w hr0_0 hc0_0 hr1_0 hc1_0 hr1_1 hc1_1 hr2 hc2 _ _ z0 (by omega) z1.rounds c1
 obtain ⟨t2,z2,c2'⟩:=szFactS_ok l2 t1 w2 (by omega) (by omega)
 rcases c2' with c2'|⟨p2,q2,hs2⟩
 ·exact laws_FnExactAnswers_out2 _ _ _ _ _ _ _ _ _ _ _ _ w hr0_0 hc0_0 hr1_0 hc1_0 hr1_1 hc1_1 hr2 hc2 _ _ _ z0 (by omega) z1.rounds (by omega) z2.rounds c2'
 have d1 : (l1_1.map cvA).length ≤ 1048576:=by simpa using hs1.2.1
 have s1:=cvA_small hs1.2.2
 have d2 : (l2.map cvF).length ≤ 1048576:=by simpa using hs2.1
 have s2:=cvF_small hs2.2
 obtain ⟨m0,m1,m2⟩:=markQ_ok l1_0 (l1_1.map cvA) (1 + (l0_0.length : Int)) hs1.1 d1 s1 (by omega) (by omega)
 obtain ⟨n0,n1,n2⟩:=markF_ok (l2.map cvF) (mkQ l1_0 (l1_1.map cvA) (1 + (l0_0.length : Int))).1 d2 s2 (by omega) (by omega)
 obtain ⟨g0,g1⟩:=mAnswers_small l0_0 l1_0 (l1_1.map cvA) (l2.map cvF)
 generalize hP : mAnswers l0_0 l1_0 (l1_1.map cvA) (l2.map cvF) = P at g0 g1
 have g2 : ∀ x ∈ P,x.length ≤ 1048576:=fun x hx => by have:=g1 x hx;omega
 obtain ⟨o0,o1,o2⟩:=markR_ok P 1 (by omega) g2 (by omega) (by omega)
 exact laws_FnExactAnswers_walk _ _ _ _ _ _ _ _ _ _ _ _ w hr0_0 hc0_0 hr1_0 hc1_0 hr1_1 hc1_1 hr2 hc2 _ _ _ _ _ _ _ P _ _ _ _ _ _ _ _ _ z0 (by omega) z1.rounds (by omega) z2.rounds (by omega)
  (toSchema_ev l0_0 (by omega)).rounds (toQuery_ev l1_0 l1_1 hs1.1 hs1.2.1 hs1.2.2).rounds (toFactS_ev l2 hs2.1 hs2.2).rounds
  hP ⟨⟨by omega,hs1.1,d1,d2⟩,s1,s2⟩ hP ⟨⟨by omega,hs1.1,d1,d2⟩,s1,s2⟩
  (eqIntSS_ev P (by omega) g2).rounds (by have e:=eqSchema_ev l0_0 l0_0 (by omega);rw [decide_eq_true rfl] at e;exact e.rounds) (eqQuery_ev _ _ hs1.1 d1 s1).rounds (eqFactS_ev _ d2 s2).rounds
  (markSchema_ev l0_0 1 (by omega) (by omega) (by omega)).rounds rfl m0 rfl n0 (by show ¬ (mkF (l2.map cvF) (mkQ l1_0 (l1_1.map cvA) (1 + (l0_0.length : Int))).1).2 < 0;omega)
  rfl o0 (heldIntSS_ev P 1 (by omega) g2 (by omega) (by omega)).rounds (by show ¬ (mkR P 1).2 < 0;omega)


end Go.Proofs.YtfelabhakgcifaaGreat.Hand
