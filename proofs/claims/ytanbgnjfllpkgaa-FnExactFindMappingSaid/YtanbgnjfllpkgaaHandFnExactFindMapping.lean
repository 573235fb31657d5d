/- Walks through Go functions that FnExactFindMapping reaches, by hand: each call returns what is said beside it, within the bounds that the theorem names. -/
import Derived.Test.YtanbgnjfllpkgaaQFnExactFindMappingx0
import Derived.Test.YtanbgnjfllpkgaaQFnExactFindMappingx1
import Derived.Test.YtanbgnjfllpkgaaQFnExactFindMappingx2
import Derived.Test.YtanbgnjfllpkgaaQFnExactFindMappingx3
import Derived.Test.YtanbgnjfllpkgaaQFnExactFindMappingx4
import Derived.Test.YtanbgnjfllpkgaaQFnExactFindMappingx5
import Derived.Test.YtanbgnjfllpkgaaQFnExactFindMappingx6
import Derived.Test.YtanbgnjfllpkgaaQFnExactFindMappingx7
import Derived.Test.YtanbgnjfllpkgaaQFnExactFindMappingx8
import Derived.Test.YtanbgnjfllpkgaaQFnExactFindMappingx9
import Derived.Test.YtanbgnjfllpkgaaVFnExactFindMappingMine
import Derived.Test.YtanbgnjfllpkgaaPureFnExactFindMapping
import Derived.Test.YtanbgnjfllpkgaaHandPFnExactFindMapping
set_option linter.unusedVariables false
set_option linter.unusedSimpArgs false
namespace Go.Proofs.Ytanbgnjfllpkgaa.Hand
open Go.RowKit Go.Proofs.Ytanbgnjfllpkgaa.QFnExactFindMapping Go.Proofs.YtanbgnjfllpkgaaW.PrintWords Go.Proofs.YtanbgnjfllpkgaaW.PrintLast Go.Proofs.YtanbgnjfllpkgaaW.PrintMore Go.Proofs.Ytanbgnjfllpkgaa.Mine Go.Proofs.Ytanbgnjfllpkgaa.Open Go.Proofs.Ytanbgnjfllpkgaa.Pure
attribute [local go_sem] max2_int min2_int max_two min_two max_three min_three max_four min_four

-- drop: impl_send
set_option maxHeartbeats 8000000 in
set_option maxRecDepth 100000 in
theorem laws_FnExactFindMapping_out0 (A0_0 : Option Addr) (c0_0 : Nat) (l0_0 : List Int) (A1_0 : Option Addr) (c1_0 : Nat) (l1_0 : List Int) (A1_1 : Option Addr) (c1_1 : Nat) (l1_1 : List S124) (A2_0 : Option Addr) (c2_0 : Nat) (l2_0 : List Int) (A2_1 : Option Addr) (c2_1 : Nat) (l2_1 : List S124) (w : World) (hr0_0 : Kd.C (Kd.int .i64) w A0_0 l0_0.length l0_0) (hc0_0 : l0_0.length ≤ c0_0) (hr1_0 : Kd.C (Kd.int .i64) w A1_0 l1_0.length l1_0) (hc1_0 : l1_0.length ≤ c1_0) (hr1_1 : Kd.C k124 w A1_1 l1_1.length l1_1) (hc1_1 : l1_1.length ≤ c1_1) (hr2_0 : Kd.C (Kd.int .i64) w A2_0 l2_0.length l2_0) (hc2_0 : l2_0.length ≤ c2_0) (hr2_1 : Kd.C k124 w A2_1 l2_1.length l2_1) (hc2_1 : l2_1.length ≤ c2_1) (r0_0 : Int)
    (e0 : laws_szSchema.f l0_0 1048576 = some r0_0)
 (ct0 : r0_0 < 0) :
    Calls Try.prog 12 #[.agg #[.slice A0_0 l0_0.length c0_0], .agg #[.slice A1_0 l1_0.length c1_0, .slice A1_1 l1_1.length c1_1], .agg #[.slice A2_0 l2_0.length c2_0, .slice A2_1 l2_1.length c2_1]] w fun e w' => e = .returned (.bool true) ∧ Below w.heap.size w w' := by
  have H0_0 := Aside0.mk hr0_0
  have HC0_0 := Aside0.mk hc0_0
  clear hr0_0 hc0_0
  have H1_0 := Aside0.mk hr1_0
  have HC1_0 := Aside0.mk hc1_0
  clear hr1_0 hc1_0
  have H1_1 := Aside0.mk hr1_1
  have HC1_1 := Aside0.mk hc1_1
  clear hr1_1 hc1_1
  have H2_0 := Aside0.mk hr2_0
  have HC2_0 := Aside0.mk hc2_0
  clear hr2_0 hc2_0
  have H2_1 := Aside0.mk hr2_1
  have HC2_1 := Aside0.mk hc2_1
  clear hr2_1 hc2_1
  have Ee0 := Aside0.mk e0; clear e0
  have ct0b := decide_eq_true (show r0_0 < 0 from ct0)
  clear ct0
  have HB := Aside0.mk (Below.refl w.heap.size w)
  have hu41 := Try.underlying41
  have hu62 := Try.underlying62
  go_enter Try.func12, Try.ntmps12
  go_wp2_with (first | ((with_reducible refine gate_dst (N := 3) rfl ?_); refine hold ?_))
  unfold Hold
  refine box_event ?hg (N := 3) ?hd (cs := #[.slice A0_0 l0_0.length c0_0]) (t := 62) ?hr ?_
  case hd => rfl
  case hg => rfl
  case hr => first | (go_simp; done) | (go_simp; rfl)
  intro g1 hg w1_ hbox hb
  have Bg1 := Aside0.mk hbox
  have Gg1 := Aside0.mk (show w.heap.size ≤ g1 ∧ g1 < w1_.heap.size from ⟨by rw [hg]; exact Nat.le_refl _, blk_lt hbox⟩)
  clear hbox hg
  have Z1_ := Aside0.mk (show w.heap.size ≤ w1_.heap.size from hb.size)
  have n_ := Aside0.mk (below_step HB.out hb); clear HB; have HB := n_; clear n_
  have hxg1_0 : w1_.cell? ⟨g1, 0, none⟩ = some (.slice A0_0 l0_0.length c0_0) := (blk_cell Bg1.out 0).trans rfl
  have hfg1_0 := blk_frozen Bg1.out 0
  clear hb
  go_wp2_with (first | ((with_reducible refine gate_dst (N := 4) rfl ?_); refine hold ?_))
  unfold Hold
  refine box_event ?hg (N := 4) ?hd (cs := #[.slice A1_0 l1_0.length c1_0, .slice A1_1 l1_1.length c1_1]) (t := 41) ?hr ?_
  case hd => rfl
  case hg => rfl
  case hr => first | (go_simp; done) | (go_simp; rfl)
  intro g2 hg w2_ hbox hb
  have Bg2 := Aside0.mk hbox
  have Gg2 := Aside0.mk (show w1_.heap.size ≤ g2 ∧ g2 < w2_.heap.size from ⟨by rw [hg]; exact Nat.le_refl _, blk_lt hbox⟩)
  clear hbox hg
  have Z2_ := Aside0.mk (show w1_.heap.size ≤ w2_.heap.size from hb.size)
  have n_ := Aside0.mk (blk_below Bg1.out hb); clear Bg1; have Bg1 := n_; clear n_
  have n_ := Aside0.mk (below_step HB.out hb); clear HB; have HB := n_; clear n_
  clear hxg1_0
  clear hfg1_0
  have hxg1_0 : w2_.cell? ⟨g1, 0, none⟩ = some (.slice A0_0 l0_0.length c0_0) := (blk_cell Bg1.out 0).trans rfl
  have hfg1_0 := blk_frozen Bg1.out 0
  have hxg2_0 : w2_.cell? ⟨g2, 0, none⟩ = some (.slice A1_0 l1_0.length c1_0) := (blk_cell Bg2.out 0).trans rfl
  have hxg2_1 : w2_.cell? ⟨g2, 1, none⟩ = some (.slice A1_1 l1_1.length c1_1) := (blk_cell Bg2.out 1).trans rfl
  have hfg2_0 := blk_frozen Bg2.out 0
  have hfg2_1 := blk_frozen Bg2.out 1
  clear hb
  go_wp2_with (first | ((with_reducible refine gate_dst (N := 5) rfl ?_); refine hold ?_))
  unfold Hold
  refine box_event ?hg (N := 5) ?hd (cs := #[.slice A2_0 l2_0.length c2_0, .slice A2_1 l2_1.length c2_1]) (t := 41) ?hr ?_
  case hd => rfl
  case hg => rfl
  case hr => first | (go_simp; done) | (go_simp; rfl)
  intro g3 hg w3_ hbox hb
  have Bg3 := Aside0.mk hbox
  have Gg3 := Aside0.mk (show w2_.heap.size ≤ g3 ∧ g3 < w3_.heap.size from ⟨by rw [hg]; exact Nat.le_refl _, blk_lt hbox⟩)
  clear hbox hg
  have Z3_ := Aside0.mk (show w2_.heap.size ≤ w3_.heap.size from hb.size)
  have n_ := Aside0.mk (blk_below Bg1.out hb); clear Bg1; have Bg1 := n_; clear n_
  have n_ := Aside0.mk (blk_below Bg2.out hb); clear Bg2; have Bg2 := n_; clear n_
  have n_ := Aside0.mk (below_step HB.out hb); clear HB; have HB := n_; clear n_
  clear hxg1_0
  clear hfg1_0
  clear hxg2_0
  clear hxg2_1
  clear hfg2_0
  clear hfg2_1
  have hxg1_0 : w3_.cell? ⟨g1, 0, none⟩ = some (.slice A0_0 l0_0.length c0_0) := (blk_cell Bg1.out 0).trans rfl
  have hfg1_0 := blk_frozen Bg1.out 0
  have hxg2_0 : w3_.cell? ⟨g2, 0, none⟩ = some (.slice A1_0 l1_0.length c1_0) := (blk_cell Bg2.out 0).trans rfl
  have hxg2_1 : w3_.cell? ⟨g2, 1, none⟩ = some (.slice A1_1 l1_1.length c1_1) := (blk_cell Bg2.out 1).trans rfl
  have hfg2_0 := blk_frozen Bg2.out 0
  have hfg2_1 := blk_frozen Bg2.out 1
  have hxg3_0 : w3_.cell? ⟨g3, 0, none⟩ = some (.slice A2_0 l2_0.length c2_0) := (blk_cell Bg3.out 0).trans rfl
  have hxg3_1 : w3_.cell? ⟨g3, 1, none⟩ = some (.slice A2_1 l2_1.length c2_1) := (blk_cell Bg3.out 1).trans rfl
  have hfg3_0 := blk_frozen Bg3.out 0
  have hfg3_1 := blk_frozen Bg3.out 1
  clear hb
  go_wp2_with (first | (go_at_call 47; refine hold ?_))
  unfold Hold
  refine (laws_szSchema.calls _ _ l0_0 1048576 r0_0 _ (Kd.C_below H0_0.out HB.out) HC0_0.out Ee0.out).mono ?_
  rintro e w4_ ⟨rfl, hb⟩
  have Z4_ := Aside0.mk (show w3_.heap.size ≤ w4_.heap.size from hb.size)
  have n_ := Aside0.mk (blk_below Bg1.out hb); clear Bg1; have Bg1 := n_; clear n_
  have n_ := Aside0.mk (blk_below Bg2.out hb); clear Bg2; have Bg2 := n_; clear n_
  have n_ := Aside0.mk (blk_below Bg3.out hb); clear Bg3; have Bg3 := n_; clear n_
  have n_ := Aside0.mk (below_step HB.out hb); clear HB; have HB := n_; clear n_
  clear hxg1_0
  clear hfg1_0
  clear hxg2_0
  clear hxg2_1
  clear hfg2_0
  clear hfg2_1
  clear hxg3_0
  clear hxg3_1
  clear hfg3_0
  clear hfg3_1
  have hxg1_0 : w4_.cell? ⟨g1, 0, none⟩ = some (.slice A0_0 l0_0.length c0_0) := (blk_cell Bg1.out 0).trans rfl
  have hfg1_0 := blk_frozen Bg1.out 0
  have hxg2_0 : w4_.cell? ⟨g2, 0, none⟩ = some (.slice A1_0 l1_0.length c1_0) := (blk_cell Bg2.out 0).trans rfl
  have hxg2_1 : w4_.cell? ⟨g2, 1, none⟩ = some (.slice A1_1 l1_1.length c1_1) := (blk_cell Bg2.out 1).trans rfl
  have hfg2_0 := blk_frozen Bg2.out 0
  have hfg2_1 := blk_frozen Bg2.out 1
  have hxg3_0 : w4_.cell? ⟨g3, 0, none⟩ = some (.slice A2_0 l2_0.length c2_0) := (blk_cell Bg3.out 0).trans rfl
  have hxg3_1 : w4_.cell? ⟨g3, 1, none⟩ = some (.slice A2_1 l2_1.length c2_1) := (blk_cell Bg3.out 1).trans rfl
  have hfg3_0 := blk_frozen Bg3.out 0
  have hfg3_1 := blk_frozen Bg3.out 1
  clear hb
  go_wp2
  go_ret
  exact ⟨rfl, HB.out⟩
set_option maxHeartbeats 8000000 in
set_option maxRecDepth 100000 in
theorem laws_FnExactFindMapping_out1 (A0_0 : Option Addr) (c0_0 : Nat) (l0_0 : List Int) (A1_0 : Option Addr) (c1_0 : Nat) (l1_0 : List Int) (A1_1 : Option Addr) (c1_1 : Nat) (l1_1 : List S124) (A2_0 : Option Addr) (c2_0 : Nat) (l2_0 : List Int) (A2_1 : Option Addr) (c2_1 : Nat) (l2_1 : List S124) (w : World) (hr0_0 : Kd.C (Kd.int .i64) w A0_0 l0_0.length l0_0) (hc0_0 : l0_0.length ≤ c0_0) (hr1_0 : Kd.C (Kd.int .i64) w A1_0 l1_0.length l1_0) (hc1_0 : l1_0.length ≤ c1_0) (hr1_1 : Kd.C k124 w A1_1 l1_1.length l1_1) (hc1_1 : l1_1.length ≤ c1_1) (hr2_0 : Kd.C (Kd.int .i64) w A2_0 l2_0.length l2_0) (hc2_0 : l2_0.length ≤ c2_0) (hr2_1 : Kd.C k124 w A2_1 l2_1.length l2_1) (hc2_1 : l2_1.length ≤ c2_1) (r0_0 : Int) (r2_0 : Int)
    (e0 : laws_szSchema.f l0_0 1048576 = some r0_0)
 (ct0 : ¬ r0_0 < 0)
 (e2 : ∃ k, laws_szQuery.f k l1_0 l1_1 r0_0 = some r2_0)
 (ct1 : r2_0 < 0) :
    Calls Try.prog 12 #[.agg #[.slice A0_0 l0_0.length c0_0], .agg #[.slice A1_0 l1_0.length c1_0, .slice A1_1 l1_1.length c1_1], .agg #[.slice A2_0 l2_0.length c2_0, .slice A2_1 l2_1.length c2_1]] w fun e w' => e = .returned (.bool true) ∧ Below w.heap.size w w' := by
  have H0_0 := Aside0.mk hr0_0
  have HC0_0 := Aside0.mk hc0_0
  clear hr0_0 hc0_0
  have H1_0 := Aside0.mk hr1_0
  have HC1_0 := Aside0.mk hc1_0
  clear hr1_0 hc1_0
  have H1_1 := Aside0.mk hr1_1
  have HC1_1 := Aside0.mk hc1_1
  clear hr1_1 hc1_1
  have H2_0 := Aside0.mk hr2_0
  have HC2_0 := Aside0.mk hc2_0
  clear hr2_0 hc2_0
  have H2_1 := Aside0.mk hr2_1
  have HC2_1 := Aside0.mk hc2_1
  clear hr2_1 hc2_1
  have Ee0 := Aside0.mk e0; clear e0
  have ct0b := decide_eq_false (show ¬ r0_0 < 0 from ct0)
  clear ct0
  obtain ⟨ke2, q_⟩ := e2; have Ee2 := Aside0.mk q_; clear q_
  have ct1b := decide_eq_true (show r2_0 < 0 from ct1)
  clear ct1
  have HB := Aside0.mk (Below.refl w.heap.size w)
  have hu41 := Try.underlying41
  have hu62 := Try.underlying62
  go_enter Try.func12, Try.ntmps12
  go_wp2_with (first | ((with_reducible refine gate_dst (N := 3) rfl ?_); refine hold ?_))
  unfold Hold
  refine box_event ?hg (N := 3) ?hd (cs := #[.slice A0_0 l0_0.length c0_0]) (t := 62) ?hr ?_
  case hd => rfl
  case hg => rfl
  case hr => first | (go_simp; done) | (go_simp; rfl)
  intro g1 hg w1_ hbox hb
  have Bg1 := Aside0.mk hbox
  have Gg1 := Aside0.mk (show w.heap.size ≤ g1 ∧ g1 < w1_.heap.size from ⟨by rw [hg]; exact Nat.le_refl _, blk_lt hbox⟩)
  clear hbox hg
  have Z1_ := Aside0.mk (show w.heap.size ≤ w1_.heap.size from hb.size)
  have n_ := Aside0.mk (below_step HB.out hb); clear HB; have HB := n_; clear n_
  have hxg1_0 : w1_.cell? ⟨g1, 0, none⟩ = some (.slice A0_0 l0_0.length c0_0) := (blk_cell Bg1.out 0).trans rfl
  have hfg1_0 := blk_frozen Bg1.out 0
  clear hb
  go_wp2_with (first | ((with_reducible refine gate_dst (N := 4) rfl ?_); refine hold ?_))
  unfold Hold
  refine box_event ?hg (N := 4) ?hd (cs := #[.slice A1_0 l1_0.length c1_0, .slice A1_1 l1_1.length c1_1]) (t := 41) ?hr ?_
  case hd => rfl
  case hg => rfl
  case hr => first | (go_simp; done) | (go_simp; rfl)
  intro g2 hg w2_ hbox hb
  have Bg2 := Aside0.mk hbox
  have Gg2 := Aside0.mk (show w1_.heap.size ≤ g2 ∧ g2 < w2_.heap.size from ⟨by rw [hg]; exact Nat.le_refl _, blk_lt hbox⟩)
  clear hbox hg
  have Z2_ := Aside0.mk (show w1_.heap.size ≤ w2_.heap.size from hb.size)
  have n_ := Aside0.mk (blk_below Bg1.out hb); clear Bg1; have Bg1 := n_; clear n_
  have n_ := Aside0.mk (below_step HB.out hb); clear HB; have HB := n_; clear n_
  clear hxg1_0
  clear hfg1_0
  have hxg1_0 : w2_.cell? ⟨g1, 0, none⟩ = some (.slice A0_0 l0_0.length c0_0) := (blk_cell Bg1.out 0).trans rfl
  have hfg1_0 := blk_frozen Bg1.out 0
  have hxg2_0 : w2_.cell? ⟨g2, 0, none⟩ = some (.slice A1_0 l1_0.length c1_0) := (blk_cell Bg2.out 0).trans rfl
  have hxg2_1 : w2_.cell? ⟨g2, 1, none⟩ = some (.slice A1_1 l1_1.length c1_1) := (blk_cell Bg2.out 1).trans rfl
  have hfg2_0 := blk_frozen Bg2.out 0
  have hfg2_1 := blk_frozen Bg2.out 1
  clear hb
  go_wp2_with (first | ((with_reducible refine gate_dst (N := 5) rfl ?_); refine hold ?_))
  unfold Hold
  refine box_event ?hg (N := 5) ?hd (cs := #[.slice A2_0 l2_0.length c2_0, .slice A2_1 l2_1.length c2_1]) (t := 41) ?hr ?_
  case hd => rfl
  case hg => rfl
  case hr => first | (go_simp; done) | (go_simp; rfl)
  intro g3 hg w3_ hbox hb
  have Bg3 := Aside0.mk hbox
  have Gg3 := Aside0.mk (show w2_.heap.size ≤ g3 ∧ g3 < w3_.heap.size from ⟨by rw [hg]; exact Nat.le_refl _, blk_lt hbox⟩)
  clear hbox hg
  have Z3_ := Aside0.mk (show w2_.heap.size ≤ w3_.heap.size from hb.size)
  have n_ := Aside0.mk (blk_below Bg1.out hb); clear Bg1; have Bg1 := n_; clear n_
  have n_ := Aside0.mk (blk_below Bg2.out hb); clear Bg2; have Bg2 := n_; clear n_
  have n_ := Aside0.mk (below_step HB.out hb); clear HB; have HB := n_; clear n_
  clear hxg1_0
  clear hfg1_0
  clear hxg2_0
  clear hxg2_1
  clear hfg2_0
  clear hfg2_1
  have hxg1_0 : w3_.cell? ⟨g1, 0, none⟩ = some (.slice A0_0 l0_0.length c0_0) := (blk_cell Bg1.out 0).trans rfl
  have hfg1_0 := blk_frozen Bg1.out 0
  have hxg2_0 : w3_.cell? ⟨g2, 0, none⟩ = some (.slice A1_0 l1_0.length c1_0) := (blk_cell Bg2.out 0).trans rfl
  have hxg2_1 : w3_.cell? ⟨g2, 1, none⟩ = some (.slice A1_1 l1_1.length c1_1) := (blk_cell Bg2.out 1).trans rfl
  have hfg2_0 := blk_frozen Bg2.out 0
  have hfg2_1 := blk_frozen Bg2.out 1
  have hxg3_0 : w3_.cell? ⟨g3, 0, none⟩ = some (.slice A2_0 l2_0.length c2_0) := (blk_cell Bg3.out 0).trans rfl
  have hxg3_1 : w3_.cell? ⟨g3, 1, none⟩ = some (.slice A2_1 l2_1.length c2_1) := (blk_cell Bg3.out 1).trans rfl
  have hfg3_0 := blk_frozen Bg3.out 0
  have hfg3_1 := blk_frozen Bg3.out 1
  clear hb
  go_wp2_with (first | (go_at_call 47; refine hold ?_))
  unfold Hold
  refine (laws_szSchema.calls _ _ l0_0 1048576 r0_0 _ (Kd.C_below H0_0.out HB.out) HC0_0.out Ee0.out).mono ?_
  rintro e w4_ ⟨rfl, hb⟩
  have Z4_ := Aside0.mk (show w3_.heap.size ≤ w4_.heap.size from hb.size)
  have n_ := Aside0.mk (blk_below Bg1.out hb); clear Bg1; have Bg1 := n_; clear n_
  have n_ := Aside0.mk (blk_below Bg2.out hb); clear Bg2; have Bg2 := n_; clear n_
  have n_ := Aside0.mk (blk_below Bg3.out hb); clear Bg3; have Bg3 := n_; clear n_
  have n_ := Aside0.mk (below_step HB.out hb); clear HB; have HB := n_; clear n_
  clear hxg1_0
  clear hfg1_0
  clear hxg2_0
  clear hxg2_1
  clear hfg2_0
  clear hfg2_1
  clear hxg3_0
  clear hxg3_1
  clear hfg3_0
  clear hfg3_1
  have hxg1_0 : w4_.cell? ⟨g1, 0, none⟩ = some (.slice A0_0 l0_0.length c0_0) := (blk_cell Bg1.out 0).trans rfl
  have hfg1_0 := blk_frozen Bg1.out 0
  have hxg2_0 : w4_.cell? ⟨g2, 0, none⟩ = some (.slice A1_0 l1_0.length c1_0) := (blk_cell Bg2.out 0).trans rfl
  have hxg2_1 : w4_.cell? ⟨g2, 1, none⟩ = some (.slice A1_1 l1_1.length c1_1) := (blk_cell Bg2.out 1).trans rfl
  have hfg2_0 := blk_frozen Bg2.out 0
  have hfg2_1 := blk_frozen Bg2.out 1
  have hxg3_0 : w4_.cell? ⟨g3, 0, none⟩ = some (.slice A2_0 l2_0.length c2_0) := (blk_cell Bg3.out 0).trans rfl
  have hxg3_1 : w4_.cell? ⟨g3, 1, none⟩ = some (.slice A2_1 l2_1.length c2_1) := (blk_cell Bg3.out 1).trans rfl
  have hfg3_0 := blk_frozen Bg3.out 0
  have hfg3_1 := blk_frozen Bg3.out 1
  clear hb
  go_wp2_with (first | (go_at_call 30; refine hold ?_))
  unfold Hold
  refine (laws_szQuery.calls ke2 _ _ l1_0 _ _ l1_1 r0_0 r2_0 _ (Kd.C_below H1_0.out HB.out) HC1_0.out (Kd.C_below H1_1.out HB.out) HC1_1.out Ee2.out).mono ?_
  rintro e w5_ ⟨rfl, hb⟩
  have Z5_ := Aside0.mk (show w4_.heap.size ≤ w5_.heap.size from hb.size)
  have n_ := Aside0.mk (blk_below Bg1.out hb); clear Bg1; have Bg1 := n_; clear n_
  have n_ := Aside0.mk (blk_below Bg2.out hb); clear Bg2; have Bg2 := n_; clear n_
  have n_ := Aside0.mk (blk_below Bg3.out hb); clear Bg3; have Bg3 := n_; clear n_
  have n_ := Aside0.mk (below_step HB.out hb); clear HB; have HB := n_; clear n_
  clear hxg1_0
  clear hfg1_0
  clear hxg2_0
  clear hxg2_1
  clear hfg2_0
  clear hfg2_1
  clear hxg3_0
  clear hxg3_1
  clear hfg3_0
  clear hfg3_1
  have hxg1_0 : w5_.cell? ⟨g1, 0, none⟩ = some (.slice A0_0 l0_0.length c0_0) := (blk_cell Bg1.out 0).trans rfl
  have hfg1_0 := blk_frozen Bg1.out 0
  have hxg2_0 : w5_.cell? ⟨g2, 0, none⟩ = some (.slice A1_0 l1_0.length c1_0) := (blk_cell Bg2.out 0).trans rfl
  have hxg2_1 : w5_.cell? ⟨g2, 1, none⟩ = some (.slice A1_1 l1_1.length c1_1) := (blk_cell Bg2.out 1).trans rfl
  have hfg2_0 := blk_frozen Bg2.out 0
  have hfg2_1 := blk_frozen Bg2.out 1
  have hxg3_0 : w5_.cell? ⟨g3, 0, none⟩ = some (.slice A2_0 l2_0.length c2_0) := (blk_cell Bg3.out 0).trans rfl
  have hxg3_1 : w5_.cell? ⟨g3, 1, none⟩ = some (.slice A2_1 l2_1.length c2_1) := (blk_cell Bg3.out 1).trans rfl
  have hfg3_0 := blk_frozen Bg3.out 0
  have hfg3_1 := blk_frozen Bg3.out 1
  clear hb
  go_wp2
  go_ret
  exact ⟨rfl, HB.out⟩
set_option maxHeartbeats 8000000 in
set_option maxRecDepth 100000 in
theorem laws_FnExactFindMapping_out2 (A0_0 : Option Addr) (c0_0 : Nat) (l0_0 : List Int) (A1_0 : Option Addr) (c1_0 : Nat) (l1_0 : List Int) (A1_1 : Option Addr) (c1_1 : Nat) (l1_1 : List S124) (A2_0 : Option Addr) (c2_0 : Nat) (l2_0 : List Int) (A2_1 : Option Addr) (c2_1 : Nat) (l2_1 : List S124) (w : World) (hr0_0 : Kd.C (Kd.int .i64) w A0_0 l0_0.length l0_0) (hc0_0 : l0_0.length ≤ c0_0) (hr1_0 : Kd.C (Kd.int .i64) w A1_0 l1_0.length l1_0) (hc1_0 : l1_0.length ≤ c1_0) (hr1_1 : Kd.C k124 w A1_1 l1_1.length l1_1) (hc1_1 : l1_1.length ≤ c1_1) (hr2_0 : Kd.C (Kd.int .i64) w A2_0 l2_0.length l2_0) (hc2_0 : l2_0.length ≤ c2_0) (hr2_1 : Kd.C k124 w A2_1 l2_1.length l2_1) (hc2_1 : l2_1.length ≤ c2_1) (r0_0 : Int) (r2_0 : Int) (r4_0 : Int)
    (e0 : laws_szSchema.f l0_0 1048576 = some r0_0)
 (ct0 : ¬ r0_0 < 0)
 (e2 : ∃ k, laws_szQuery.f k l1_0 l1_1 r0_0 = some r2_0)
 (ct1 : ¬ r2_0 < 0)
 (e4 : ∃ k, laws_szQuery.f k l2_0 l2_1 r2_0 = some r4_0)
 (ct2 : r4_0 < 0) :
    Calls Try.prog 12 #[.agg #[.slice A0_0 l0_0.length c0_0], .agg #[.slice A1_0 l1_0.length c1_0, .slice A1_1 l1_1.length c1_1], .agg #[.slice A2_0 l2_0.length c2_0, .slice A2_1 l2_1.length c2_1]] w fun e w' => e = .returned (.bool true) ∧ Below w.heap.size w w' := by
  have H0_0 := Aside0.mk hr0_0
  have HC0_0 := Aside0.mk hc0_0
  clear hr0_0 hc0_0
  have H1_0 := Aside0.mk hr1_0
  have HC1_0 := Aside0.mk hc1_0
  clear hr1_0 hc1_0
  have H1_1 := Aside0.mk hr1_1
  have HC1_1 := Aside0.mk hc1_1
  clear hr1_1 hc1_1
  have H2_0 := Aside0.mk hr2_0
  have HC2_0 := Aside0.mk hc2_0
  clear hr2_0 hc2_0
  have H2_1 := Aside0.mk hr2_1
  have HC2_1 := Aside0.mk hc2_1
  clear hr2_1 hc2_1
  have Ee0 := Aside0.mk e0; clear e0
  have ct0b := decide_eq_false (show ¬ r0_0 < 0 from ct0)
  clear ct0
  obtain ⟨ke2, q_⟩ := e2; have Ee2 := Aside0.mk q_; clear q_
  have ct1b := decide_eq_false (show ¬ r2_0 < 0 from ct1)
  clear ct1
  obtain ⟨ke4, q_⟩ := e4; have Ee4 := Aside0.mk q_; clear q_
  have ct2b := decide_eq_true (show r4_0 < 0 from ct2)
  clear ct2
  have HB := Aside0.mk (Below.refl w.heap.size w)
  have hu41 := Try.underlying41
  have hu62 := Try.underlying62
  go_enter Try.func12, Try.ntmps12
  go_wp2_with (first | ((with_reducible refine gate_dst (N := 3) rfl ?_); refine hold ?_))
  unfold Hold
  refine box_event ?hg (N := 3) ?hd (cs := #[.slice A0_0 l0_0.length c0_0]) (t := 62) ?hr ?_
  case hd => rfl
  case hg => rfl
  case hr => first | (go_simp; done) | (go_simp; rfl)
  intro g1 hg w1_ hbox hb
  have Bg1 := Aside0.mk hbox
  have Gg1 := Aside0.mk (show w.heap.size ≤ g1 ∧ g1 < w1_.heap.size from ⟨by rw [hg]; exact Nat.le_refl _, blk_lt hbox⟩)
  clear hbox hg
  have Z1_ := Aside0.mk (show w.heap.size ≤ w1_.heap.size from hb.size)
  have n_ := Aside0.mk (below_step HB.out hb); clear HB; have HB := n_; clear n_
  have hxg1_0 : w1_.cell? ⟨g1, 0, none⟩ = some (.slice A0_0 l0_0.length c0_0) := (blk_cell Bg1.out 0).trans rfl
  have hfg1_0 := blk_frozen Bg1.out 0
  clear hb
  go_wp2_with (first | ((with_reducible refine gate_dst (N := 4) rfl ?_); refine hold ?_))
  unfold Hold
  refine box_event ?hg (N := 4) ?hd (cs := #[.slice A1_0 l1_0.length c1_0, .slice A1_1 l1_1.length c1_1]) (t := 41) ?hr ?_
  case hd => rfl
  case hg => rfl
  case hr => first | (go_simp; done) | (go_simp; rfl)
  intro g2 hg w2_ hbox hb
  have Bg2 := Aside0.mk hbox
  have Gg2 := Aside0.mk (show w1_.heap.size ≤ g2 ∧ g2 < w2_.heap.size from ⟨by rw [hg]; exact Nat.le_refl _, blk_lt hbox⟩)
  clear hbox hg
  have Z2_ := Aside0.mk (show w1_.heap.size ≤ w2_.heap.size from hb.size)
  have n_ := Aside0.mk (blk_below Bg1.out hb); clear Bg1; have Bg1 := n_; clear n_
  have n_ := Aside0.mk (below_step HB.out hb); clear HB; have HB := n_; clear n_
  clear hxg1_0
  clear hfg1_0
  have hxg1_0 : w2_.cell? ⟨g1, 0, none⟩ = some (.slice A0_0 l0_0.length c0_0) := (blk_cell Bg1.out 0).trans rfl
  have hfg1_0 := blk_frozen Bg1.out 0
  have hxg2_0 : w2_.cell? ⟨g2, 0, none⟩ = some (.slice A1_0 l1_0.length c1_0) := (blk_cell Bg2.out 0).trans rfl
  have hxg2_1 : w2_.cell? ⟨g2, 1, none⟩ = some (.slice A1_1 l1_1.length c1_1) := (blk_cell Bg2.out 1).trans rfl
  have hfg2_0 := blk_frozen Bg2.out 0
  have hfg2_1 := blk_frozen Bg2.out 1
  clear hb
  go_wp2_with (first | ((with_reducible refine gate_dst (N := 5) rfl ?_); refine hold ?_))
  unfold Hold
  refine box_event ?hg (N := 5) ?hd (cs := #[.slice A2_0 l2_0.length c2_0, .slice A2_1 l2_1.length c2_1]) (t := 41) ?hr ?_
  case hd => rfl
  case hg => rfl
  case hr => first | (go_simp; done) | (go_simp; rfl)
  intro g3 hg w3_ hbox hb
  have Bg3 := Aside0.mk hbox
  have Gg3 := Aside0.mk (show w2_.heap.size ≤ g3 ∧ g3 < w3_.heap.size from ⟨by rw [hg]; exact Nat.le_refl _, blk_lt hbox⟩)
  clear hbox hg
  have Z3_ := Aside0.mk (show w2_.heap.size ≤ w3_.heap.size from hb.size)
  have n_ := Aside0.mk (blk_below Bg1.out hb); clear Bg1; have Bg1 := n_; clear n_
  have n_ := Aside0.mk (blk_below Bg2.out hb); clear Bg2; have Bg2 := n_; clear n_
  have n_ := Aside0.mk (below_step HB.out hb); clear HB; have HB := n_; clear n_
  clear hxg1_0
  clear hfg1_0
  clear hxg2_0
  clear hxg2_1
  clear hfg2_0
  clear hfg2_1
  have hxg1_0 : w3_.cell? ⟨g1, 0, none⟩ = some (.slice A0_0 l0_0.length c0_0) := (blk_cell Bg1.out 0).trans rfl
  have hfg1_0 := blk_frozen Bg1.out 0
  have hxg2_0 : w3_.cell? ⟨g2, 0, none⟩ = some (.slice A1_0 l1_0.length c1_0) := (blk_cell Bg2.out 0).trans rfl
  have hxg2_1 : w3_.cell? ⟨g2, 1, none⟩ = some (.slice A1_1 l1_1.length c1_1) := (blk_cell Bg2.out 1).trans rfl
  have hfg2_0 := blk_frozen Bg2.out 0
  have hfg2_1 := blk_frozen Bg2.out 1
  have hxg3_0 : w3_.cell? ⟨g3, 0, none⟩ = some (.slice A2_0 l2_0.length c2_0) := (blk_cell Bg3.out 0).trans rfl
  have hxg3_1 : w3_.cell? ⟨g3, 1, none⟩ = some (.slice A2_1 l2_1.length c2_1) := (blk_cell Bg3.out 1).trans rfl
  have hfg3_0 := blk_frozen Bg3.out 0
  have hfg3_1 := blk_frozen Bg3.out 1
  clear hb
  go_wp2_with (first | (go_at_call 47; refine hold ?_))
  unfold Hold
  refine (laws_szSchema.calls _ _ l0_0 1048576 r0_0 _ (Kd.C_below H0_0.out HB.out) HC0_0.out Ee0.out).mono ?_
  rintro e w4_ ⟨rfl, hb⟩
  have Z4_ := Aside0.mk (show w3_.heap.size ≤ w4_.heap.size from hb.size)
  have n_ := Aside0.mk (blk_below Bg1.out hb); clear Bg1; have Bg1 := n_; clear n_
  have n_ := Aside0.mk (blk_below Bg2.out hb); clear Bg2; have Bg2 := n_; clear n_
  have n_ := Aside0.mk (blk_below Bg3.out hb); clear Bg3; have Bg3 := n_; clear n_
  have n_ := Aside0.mk (below_step HB.out hb); clear HB; have HB := n_; clear n_
  clear hxg1_0
  clear hfg1_0
  clear hxg2_0
  clear hxg2_1
  clear hfg2_0
  clear hfg2_1
  clear hxg3_0
  clear hxg3_1
  clear hfg3_0
  clear hfg3_1
  have hxg1_0 : w4_.cell? ⟨g1, 0, none⟩ = some (.slice A0_0 l0_0.length c0_0) := (blk_cell Bg1.out 0).trans rfl
  have hfg1_0 := blk_frozen Bg1.out 0
  have hxg2_0 : w4_.cell? ⟨g2, 0, none⟩ = some (.slice A1_0 l1_0.length c1_0) := (blk_cell Bg2.out 0).trans rfl
  have hxg2_1 : w4_.cell? ⟨g2, 1, none⟩ = some (.slice A1_1 l1_1.length c1_1) := (blk_cell Bg2.out 1).trans rfl
  have hfg2_0 := blk_frozen Bg2.out 0
  have hfg2_1 := blk_frozen Bg2.out 1
  have hxg3_0 : w4_.cell? ⟨g3, 0, none⟩ = some (.slice A2_0 l2_0.length c2_0) := (blk_cell Bg3.out 0).trans rfl
  have hxg3_1 : w4_.cell? ⟨g3, 1, none⟩ = some (.slice A2_1 l2_1.length c2_1) := (blk_cell Bg3.out 1).trans rfl
  have hfg3_0 := blk_frozen Bg3.out 0
  have hfg3_1 := blk_frozen Bg3.out 1
  clear hb
  go_wp2_with (first | (go_at_call 30; refine hold ?_))
  unfold Hold
  refine (laws_szQuery.calls ke2 _ _ l1_0 _ _ l1_1 r0_0 r2_0 _ (Kd.C_below H1_0.out HB.out) HC1_0.out (Kd.C_below H1_1.out HB.out) HC1_1.out Ee2.out).mono ?_
  rintro e w5_ ⟨rfl, hb⟩
  have Z5_ := Aside0.mk (show w4_.heap.size ≤ w5_.heap.size from hb.size)
  have n_ := Aside0.mk (blk_below Bg1.out hb); clear Bg1; have Bg1 := n_; clear n_
  have n_ := Aside0.mk (blk_below Bg2.out hb); clear Bg2; have Bg2 := n_; clear n_
  have n_ := Aside0.mk (blk_below Bg3.out hb); clear Bg3; have Bg3 := n_; clear n_
  have n_ := Aside0.mk (below_step HB.out hb); clear HB; have HB := n_; clear n_
  clear hxg1_0
  clear hfg1_0
  clear hxg2_0
  clear hxg2_1
  clear hfg2_0
  clear hfg2_1
  clear hxg3_0
  clear hxg3_1
  clear hfg3_0
  clear hfg3_1
  have hxg1_0 : w5_.cell? ⟨g1, 0, none⟩ = some (.slice A0_0 l0_0.length c0_0) := (blk_cell Bg1.out 0).trans rfl
  have hfg1_0 := blk_frozen Bg1.out 0
  have hxg2_0 : w5_.cell? ⟨g2, 0, none⟩ = some (.slice A1_0 l1_0.length c1_0) := (blk_cell Bg2.out 0).trans rfl
  have hxg2_1 : w5_.cell? ⟨g2, 1, none⟩ = some (.slice A1_1 l1_1.length c1_1) := (blk_cell Bg2.out 1).trans rfl
  have hfg2_0 := blk_frozen Bg2.out 0
  have hfg2_1 := blk_frozen Bg2.out 1
  have hxg3_0 : w5_.cell? ⟨g3, 0, none⟩ = some (.slice A2_0 l2_0.length c2_0) := (blk_cell Bg3.out 0).trans rfl
  have hxg3_1 : w5_.cell? ⟨g3, 1, none⟩ = some (.slice A2_1 l2_1.length c2_1) := (blk_cell Bg3.out 1).trans rfl
  have hfg3_0 := blk_frozen Bg3.out 0
  have hfg3_1 := blk_frozen Bg3.out 1
  clear hb
  go_wp2_with (first | (go_at_call 30; refine hold ?_))
  unfold Hold
  refine (laws_szQuery.calls ke4 _ _ l2_0 _ _ l2_1 r2_0 r4_0 _ (Kd.C_below H2_0.out HB.out) HC2_0.out (Kd.C_below H2_1.out HB.out) HC2_1.out Ee4.out).mono ?_
  rintro e w6_ ⟨rfl, hb⟩
  have Z6_ := Aside0.mk (show w5_.heap.size ≤ w6_.heap.size from hb.size)
  have n_ := Aside0.mk (blk_below Bg1.out hb); clear Bg1; have Bg1 := n_; clear n_
  have n_ := Aside0.mk (blk_below Bg2.out hb); clear Bg2; have Bg2 := n_; clear n_
  have n_ := Aside0.mk (blk_below Bg3.out hb); clear Bg3; have Bg3 := n_; clear n_
  have n_ := Aside0.mk (below_step HB.out hb); clear HB; have HB := n_; clear n_
  clear hxg1_0
  clear hfg1_0
  clear hxg2_0
  clear hxg2_1
  clear hfg2_0
  clear hfg2_1
  clear hxg3_0
  clear hxg3_1
  clear hfg3_0
  clear hfg3_1
  have hxg1_0 : w6_.cell? ⟨g1, 0, none⟩ = some (.slice A0_0 l0_0.length c0_0) := (blk_cell Bg1.out 0).trans rfl
  have hfg1_0 := blk_frozen Bg1.out 0
  have hxg2_0 : w6_.cell? ⟨g2, 0, none⟩ = some (.slice A1_0 l1_0.length c1_0) := (blk_cell Bg2.out 0).trans rfl
  have hxg2_1 : w6_.cell? ⟨g2, 1, none⟩ = some (.slice A1_1 l1_1.length c1_1) := (blk_cell Bg2.out 1).trans rfl
  have hfg2_0 := blk_frozen Bg2.out 0
  have hfg2_1 := blk_frozen Bg2.out 1
  have hxg3_0 : w6_.cell? ⟨g3, 0, none⟩ = some (.slice A2_0 l2_0.length c2_0) := (blk_cell Bg3.out 0).trans rfl
  have hxg3_1 : w6_.cell? ⟨g3, 1, none⟩ = some (.slice A2_1 l2_1.length c2_1) := (blk_cell Bg3.out 1).trans rfl
  have hfg3_0 := blk_frozen Bg3.out 0
  have hfg3_1 := blk_frozen Bg3.out 1
  clear hb
  go_wp2
  go_ret
  exact ⟨rfl, HB.out⟩
set_option maxHeartbeats 8000000 in
set_option maxRecDepth 100000 in
theorem laws_FnExactFindMapping_walk (A0_0 : Option Addr) (c0_0 : Nat) (l0_0 : List Int) (A1_0 : Option Addr) (c1_0 : Nat) (l1_0 : List Int) (A1_1 : Option Addr) (c1_1 : Nat) (l1_1 : List S124) (A2_0 : Option Addr) (c2_0 : Nat) (l2_0 : List Int) (A2_1 : Option Addr) (c2_1 : Nat) (l2_1 : List S124) (w : World) (hr0_0 : Kd.C (Kd.int .i64) w A0_0 l0_0.length l0_0) (hc0_0 : l0_0.length ≤ c0_0) (hr1_0 : Kd.C (Kd.int .i64) w A1_0 l1_0.length l1_0) (hc1_0 : l1_0.length ≤ c1_0) (hr1_1 : Kd.C k124 w A1_1 l1_1.length l1_1) (hc1_1 : l1_1.length ≤ c1_1) (hr2_0 : Kd.C (Kd.int .i64) w A2_0 l2_0.length l2_0) (hc2_0 : l2_0.length ≤ c2_0) (hr2_1 : Kd.C k124 w A2_1 l2_1.length l2_1) (hc2_1 : l2_1.length ≤ c2_1) (r0_0 : Int) (r2_0 : Int) (r4_0 : Int) (r6_0 : List Int) (r7_0 : List Int) (r7_1 : List (S97)) (r8_0 : List Int) (r8_1 : List (S97)) (r9_0 : List Int) (r9_1 : Bool) (r15_0 : Int) (r15_1 : List Int) (r16_0 : Int) (r16_1 : List Int) (r16_2 : List S97) (r17_0 : Int) (r17_1 : List Int) (r17_2 : List S97) (r19_0 : Int) (r19_1 : List Int)
    (e0 : laws_szSchema.f l0_0 1048576 = some r0_0)
 (ct0 : ¬ r0_0 < 0)
 (e2 : ∃ k, laws_szQuery.f k l1_0 l1_1 r0_0 = some r2_0)
 (ct1 : ¬ r2_0 < 0)
 (e4 : ∃ k, laws_szQuery.f k l2_0 l2_1 r2_0 = some r4_0)
 (ct2 : ¬ r4_0 < 0)
 (e6 : ∃ k, laws_toSchema.f k l0_0 = some r6_0)
 (e7 : ∃ k, laws_toQuery.f k l1_0 l1_1 = some (r7_0, r7_1))
 (e8 : ∃ k, laws_toQuery.f k l2_0 l2_1 = some (r8_0, r8_1))
 (e9 : mFindQ r6_0 r7_0 r7_1 r8_0 r8_1 = (r9_0, r9_1))
 (e9_hz0_ : (r6_0.length ≤ 1048576 ∧ r7_0.length ≤ 1048576 ∧ r7_1.length ≤ 1048576 ∧ r8_0.length ≤ 1048576 ∧ r8_1.length ≤ 1048576) ∧ (∀ x ∈ r7_1, x.f1.length ≤ 1048576) ∧ ∀ x ∈ r8_1, x.f1.length ≤ 1048576)
 (e10 : mFindQ r6_0 r7_0 r7_1 r8_0 r8_1 = (r9_0, r9_1))
 (e10_hz0_ : (r6_0.length ≤ 1048576 ∧ r7_0.length ≤ 1048576 ∧ r7_1.length ≤ 1048576 ∧ r8_0.length ≤ 1048576 ∧ r8_1.length ≤ 1048576) ∧ (∀ x ∈ r7_1, x.f1.length ≤ 1048576) ∧ ∀ x ∈ r8_1, x.f1.length ≤ 1048576)
 (e11 : ∃ k, laws_eqIntS.f k r9_0 r9_0 = some true)
 (e12 : ∃ k, laws_eqSchema.f k r6_0 r6_0 = some true)
 (e13 : ∃ k, laws_eqQuery.f k r7_0 r7_1 r7_0 r7_1 = some true)
 (e14 : ∃ k, laws_eqQuery.f k r8_0 r8_1 r8_0 r8_1 = some true)
 (e15 : ∃ k, laws_markSchema.f k r6_0 1 = some (r15_0, r15_1))
 (e16 : mkQ r7_0 r7_1 r15_0 = (r16_0, r16_1, r16_2))
 (e16_hz0_ : (0 ≤ r15_0 ∧ r15_0 + (r7_0.length : Int) + (szA r7_1 : Int) ≤ 4611686018427387904) ∧ r7_0.length ≤ 17592186044416 ∧ r7_1.length ≤ 17592186044416 ∧ ∀ x ∈ r7_1, x.f1.length ≤ 17592186044416)
 (e17 : mkQ r8_0 r8_1 r16_0 = (r17_0, r17_1, r17_2))
 (e17_hz0_ : (0 ≤ r16_0 ∧ r16_0 + (r8_0.length : Int) + (szA r8_1 : Int) ≤ 4611686018427387904) ∧ r8_0.length ≤ 17592186044416 ∧ r8_1.length ≤ 17592186044416 ∧ ∀ x ∈ r8_1, x.f1.length ≤ 17592186044416)
 (ct3 : ¬ r17_0 < 0)
 (e19 : ∃ k, laws_markIntS.f k r9_0 1 = some (r19_0, r19_1))
 (e20 : ∃ k, laws_heldIntS.f k r19_1 1 = some r19_0)
 (ct4 : ¬ r19_0 < 0) :
    Calls Try.prog 12 #[.agg #[.slice A0_0 l0_0.length c0_0], .agg #[.slice A1_0 l1_0.length c1_0, .slice A1_1 l1_1.length c1_1], .agg #[.slice A2_0 l2_0.length c2_0, .slice A2_1 l2_1.length c2_1]] w fun e w' => e = .returned (.bool true) ∧ Below w.heap.size w w' := by
  have H0_0 := Aside0.mk hr0_0
  have HC0_0 := Aside0.mk hc0_0
  clear hr0_0 hc0_0
  have H1_0 := Aside0.mk hr1_0
  have HC1_0 := Aside0.mk hc1_0
  clear hr1_0 hc1_0
  have H1_1 := Aside0.mk hr1_1
  have HC1_1 := Aside0.mk hc1_1
  clear hr1_1 hc1_1
  have H2_0 := Aside0.mk hr2_0
  have HC2_0 := Aside0.mk hc2_0
  clear hr2_0 hc2_0
  have H2_1 := Aside0.mk hr2_1
  have HC2_1 := Aside0.mk hc2_1
  clear hr2_1 hc2_1
  have Ee0 := Aside0.mk e0; clear e0
  have ct0b := decide_eq_false (show ¬ r0_0 < 0 from ct0)
  clear ct0
  obtain ⟨ke2, q_⟩ := e2; have Ee2 := Aside0.mk q_; clear q_
  have ct1b := decide_eq_false (show ¬ r2_0 < 0 from ct1)
  clear ct1
  obtain ⟨ke4, q_⟩ := e4; have Ee4 := Aside0.mk q_; clear q_
  have ct2b := decide_eq_false (show ¬ r4_0 < 0 from ct2)
  clear ct2
  obtain ⟨ke6, q_⟩ := e6; have Ee6 := Aside0.mk q_; clear q_
  obtain ⟨ke7, q_⟩ := e7; have Ee7 := Aside0.mk q_; clear q_
  obtain ⟨ke8, q_⟩ := e8; have Ee8 := Aside0.mk q_; clear q_
  have e9_hz0 := Aside0.mk e9_hz0_; clear e9_hz0_
  have Ee9 := Aside0.mk e9; clear e9
  have e10_hz0 := Aside0.mk e10_hz0_; clear e10_hz0_
  have Ee10 := Aside0.mk e10; clear e10
  obtain ⟨ke11, q_⟩ := e11; have Ee11 := Aside0.mk q_; clear q_
  obtain ⟨ke12, q_⟩ := e12; have Ee12 := Aside0.mk q_; clear q_
  obtain ⟨ke13, q_⟩ := e13; have Ee13 := Aside0.mk q_; clear q_
  obtain ⟨ke14, q_⟩ := e14; have Ee14 := Aside0.mk q_; clear q_
  obtain ⟨ke15, q_⟩ := e15; have Ee15 := Aside0.mk q_; clear q_
  have e16_hz0 := Aside0.mk e16_hz0_; clear e16_hz0_
  have Ee16 := Aside0.mk e16; clear e16
  have e17_hz0 := Aside0.mk e17_hz0_; clear e17_hz0_
  have Ee17 := Aside0.mk e17; clear e17
  have ct3b := decide_eq_false (show ¬ r17_0 < 0 from ct3)
  clear ct3
  obtain ⟨ke19, q_⟩ := e19; have Ee19 := Aside0.mk q_; clear q_
  obtain ⟨ke20, q_⟩ := e20; have Ee20 := Aside0.mk q_; clear q_
  have ct4b := decide_eq_false (show ¬ r19_0 < 0 from ct4)
  clear ct4
  have HB := Aside0.mk (Below.refl w.heap.size w)
  have hu65 := Try.underlying65
  have hu46 := Try.underlying46
  have hu41 := Try.underlying41
  have hu62 := Try.underlying62
  go_enter Try.func12, Try.ntmps12
  go_wp2_with (first | ((with_reducible refine gate_dst (N := 3) rfl ?_); refine hold ?_))
  unfold Hold
  refine box_event ?hg (N := 3) ?hd (cs := #[.slice A0_0 l0_0.length c0_0]) (t := 62) ?hr ?_
  case hd => rfl
  case hg => rfl
  case hr => first | (go_simp; done) | (go_simp; rfl)
  intro g1 hg w1_ hbox hb
  have Bg1 := Aside0.mk hbox
  have Gg1 := Aside0.mk (show w.heap.size ≤ g1 ∧ g1 < w1_.heap.size from ⟨by rw [hg]; exact Nat.le_refl _, blk_lt hbox⟩)
  clear hbox hg
  have Z1_ := Aside0.mk (show w.heap.size ≤ w1_.heap.size from hb.size)
  have n_ := Aside0.mk (below_step HB.out hb); clear HB; have HB := n_; clear n_
  have hxg1_0 : w1_.cell? ⟨g1, 0, none⟩ = some (.slice A0_0 l0_0.length c0_0) := (blk_cell Bg1.out 0).trans rfl
  have hfg1_0 := blk_frozen Bg1.out 0
  clear hb
  go_wp2_with (first | ((with_reducible refine gate_dst (N := 4) rfl ?_); refine hold ?_))
  unfold Hold
  refine box_event ?hg (N := 4) ?hd (cs := #[.slice A1_0 l1_0.length c1_0, .slice A1_1 l1_1.length c1_1]) (t := 41) ?hr ?_
  case hd => rfl
  case hg => rfl
  case hr => first | (go_simp; done) | (go_simp; rfl)
  intro g2 hg w2_ hbox hb
  have Bg2 := Aside0.mk hbox
  have Gg2 := Aside0.mk (show w1_.heap.size ≤ g2 ∧ g2 < w2_.heap.size from ⟨by rw [hg]; exact Nat.le_refl _, blk_lt hbox⟩)
  clear hbox hg
  have Z2_ := Aside0.mk (show w1_.heap.size ≤ w2_.heap.size from hb.size)
  have n_ := Aside0.mk (blk_below Bg1.out hb); clear Bg1; have Bg1 := n_; clear n_
  have n_ := Aside0.mk (below_step HB.out hb); clear HB; have HB := n_; clear n_
  clear hxg1_0
  clear hfg1_0
  have hxg1_0 : w2_.cell? ⟨g1, 0, none⟩ = some (.slice A0_0 l0_0.length c0_0) := (blk_cell Bg1.out 0).trans rfl
  have hfg1_0 := blk_frozen Bg1.out 0
  have hxg2_0 : w2_.cell? ⟨g2, 0, none⟩ = some (.slice A1_0 l1_0.length c1_0) := (blk_cell Bg2.out 0).trans rfl
  have hxg2_1 : w2_.cell? ⟨g2, 1, none⟩ = some (.slice A1_1 l1_1.length c1_1) := (blk_cell Bg2.out 1).trans rfl
  have hfg2_0 := blk_frozen Bg2.out 0
  have hfg2_1 := blk_frozen Bg2.out 1
  clear hb
  go_wp2_with (first | ((with_reducible refine gate_dst (N := 5) rfl ?_); refine hold ?_))
  unfold Hold
  refine box_event ?hg (N := 5) ?hd (cs := #[.slice A2_0 l2_0.length c2_0, .slice A2_1 l2_1.length c2_1]) (t := 41) ?hr ?_
  case hd => rfl
  case hg => rfl
  case hr => first | (go_simp; done) | (go_simp; rfl)
  intro g3 hg w3_ hbox hb
  have Bg3 := Aside0.mk hbox
  have Gg3 := Aside0.mk (show w2_.heap.size ≤ g3 ∧ g3 < w3_.heap.size from ⟨by rw [hg]; exact Nat.le_refl _, blk_lt hbox⟩)
  clear hbox hg
  have Z3_ := Aside0.mk (show w2_.heap.size ≤ w3_.heap.size from hb.size)
  have n_ := Aside0.mk (blk_below Bg1.out hb); clear Bg1; have Bg1 := n_; clear n_
  have n_ := Aside0.mk (blk_below Bg2.out hb); clear Bg2; have Bg2 := n_; clear n_
  have n_ := Aside0.mk (below_step HB.out hb); clear HB; have HB := n_; clear n_
  clear hxg1_0
  clear hfg1_0
  clear hxg2_0
  clear hxg2_1
  clear hfg2_0
  clear hfg2_1
  have hxg1_0 : w3_.cell? ⟨g1, 0, none⟩ = some (.slice A0_0 l0_0.length c0_0) := (blk_cell Bg1.out 0).trans rfl
  have hfg1_0 := blk_frozen Bg1.out 0
  have hxg2_0 : w3_.cell? ⟨g2, 0, none⟩ = some (.slice A1_0 l1_0.length c1_0) := (blk_cell Bg2.out 0).trans rfl
  have hxg2_1 : w3_.cell? ⟨g2, 1, none⟩ = some (.slice A1_1 l1_1.length c1_1) := (blk_cell Bg2.out 1).trans rfl
  have hfg2_0 := blk_frozen Bg2.out 0
  have hfg2_1 := blk_frozen Bg2.out 1
  have hxg3_0 : w3_.cell? ⟨g3, 0, none⟩ = some (.slice A2_0 l2_0.length c2_0) := (blk_cell Bg3.out 0).trans rfl
  have hxg3_1 : w3_.cell? ⟨g3, 1, none⟩ = some (.slice A2_1 l2_1.length c2_1) := (blk_cell Bg3.out 1).trans rfl
  have hfg3_0 := blk_frozen Bg3.out 0
  have hfg3_1 := blk_frozen Bg3.out 1
  clear hb
  go_wp2_with (first | (go_at_call 47; refine hold ?_))
  unfold Hold
  refine (laws_szSchema.calls _ _ l0_0 1048576 r0_0 _ (Kd.C_below H0_0.out HB.out) HC0_0.out Ee0.out).mono ?_
  rintro e w4_ ⟨rfl, hb⟩
  have Z4_ := Aside0.mk (show w3_.heap.size ≤ w4_.heap.size from hb.size)
  have n_ := Aside0.mk (blk_below Bg1.out hb); clear Bg1; have Bg1 := n_; clear n_
  have n_ := Aside0.mk (blk_below Bg2.out hb); clear Bg2; have Bg2 := n_; clear n_
  have n_ := Aside0.mk (blk_below Bg3.out hb); clear Bg3; have Bg3 := n_; clear n_
  have n_ := Aside0.mk (below_step HB.out hb); clear HB; have HB := n_; clear n_
  clear hxg1_0
  clear hfg1_0
  clear hxg2_0
  clear hxg2_1
  clear hfg2_0
  clear hfg2_1
  clear hxg3_0
  clear hxg3_1
  clear hfg3_0
  clear hfg3_1
  have hxg1_0 : w4_.cell? ⟨g1, 0, none⟩ = some (.slice A0_0 l0_0.length c0_0) := (blk_cell Bg1.out 0).trans rfl
  have hfg1_0 := blk_frozen Bg1.out 0
  have hxg2_0 : w4_.cell? ⟨g2, 0, none⟩ = some (.slice A1_0 l1_0.length c1_0) := (blk_cell Bg2.out 0).trans rfl
  have hxg2_1 : w4_.cell? ⟨g2, 1, none⟩ = some (.slice A1_1 l1_1.length c1_1) := (blk_cell Bg2.out 1).trans rfl
  have hfg2_0 := blk_frozen Bg2.out 0
  have hfg2_1 := blk_frozen Bg2.out 1
  have hxg3_0 : w4_.cell? ⟨g3, 0, none⟩ = some (.slice A2_0 l2_0.length c2_0) := (blk_cell Bg3.out 0).trans rfl
  have hxg3_1 : w4_.cell? ⟨g3, 1, none⟩ = some (.slice A2_1 l2_1.length c2_1) := (blk_cell Bg3.out 1).trans rfl
  have hfg3_0 := blk_frozen Bg3.out 0
  have hfg3_1 := blk_frozen Bg3.out 1
  clear hb
  go_wp2_with (first | (go_at_call 30; refine hold ?_))
  unfold Hold
  refine (laws_szQuery.calls ke2 _ _ l1_0 _ _ l1_1 r0_0 r2_0 _ (Kd.C_below H1_0.out HB.out) HC1_0.out (Kd.C_below H1_1.out HB.out) HC1_1.out Ee2.out).mono ?_
  rintro e w5_ ⟨rfl, hb⟩
  have Z5_ := Aside0.mk (show w4_.heap.size ≤ w5_.heap.size from hb.size)
  have n_ := Aside0.mk (blk_below Bg1.out hb); clear Bg1; have Bg1 := n_; clear n_
  have n_ := Aside0.mk (blk_below Bg2.out hb); clear Bg2; have Bg2 := n_; clear n_
  have n_ := Aside0.mk (blk_below Bg3.out hb); clear Bg3; have Bg3 := n_; clear n_
  have n_ := Aside0.mk (below_step HB.out hb); clear HB; have HB := n_; clear n_
  clear hxg1_0
  clear hfg1_0
  clear hxg2_0
  clear hxg2_1
  clear hfg2_0
  clear hfg2_1
  clear hxg3_0
  clear hxg3_1
  clear hfg3_0
  clear hfg3_1
  have hxg1_0 : w5_.cell? ⟨g1, 0, none⟩ = some (.slice A0_0 l0_0.length c0_0) := (blk_cell Bg1.out 0).trans rfl
  have hfg1_0 := blk_frozen Bg1.out 0
  have hxg2_0 : w5_.cell? ⟨g2, 0, none⟩ = some (.slice A1_0 l1_0.length c1_0) := (blk_cell Bg2.out 0).trans rfl
  have hxg2_1 : w5_.cell? ⟨g2, 1, none⟩ = some (.slice A1_1 l1_1.length c1_1) := (blk_cell Bg2.out 1).trans rfl
  have hfg2_0 := blk_frozen Bg2.out 0
  have hfg2_1 := blk_frozen Bg2.out 1
  have hxg3_0 : w5_.cell? ⟨g3, 0, none⟩ = some (.slice A2_0 l2_0.length c2_0) := (blk_cell Bg3.out 0).trans rfl
  have hxg3_1 : w5_.cell? ⟨g3, 1, none⟩ = some (.slice A2_1 l2_1.length c2_1) := (blk_cell Bg3.out 1).trans rfl
  have hfg3_0 := blk_frozen Bg3.out 0
  have hfg3_1 := blk_frozen Bg3.out 1
  clear hb
  go_wp2_with (first | (go_at_call 30; refine hold ?_))
  unfold Hold
  refine (laws_szQuery.calls ke4 _ _ l2_0 _ _ l2_1 r2_0 r4_0 _ (Kd.C_below H2_0.out HB.out) HC2_0.out (Kd.C_below H2_1.out HB.out) HC2_1.out Ee4.out).mono ?_
  rintro e w6_ ⟨rfl, hb⟩
  have Z6_ := Aside0.mk (show w5_.heap.size ≤ w6_.heap.size from hb.size)
  have n_ := Aside0.mk (blk_below Bg1.out hb); clear Bg1; have Bg1 := n_; clear n_
  have n_ := Aside0.mk (blk_below Bg2.out hb); clear Bg2; have Bg2 := n_; clear n_
  have n_ := Aside0.mk (blk_below Bg3.out hb); clear Bg3; have Bg3 := n_; clear n_
  have n_ := Aside0.mk (below_step HB.out hb); clear HB; have HB := n_; clear n_
  clear hxg1_0
  clear hfg1_0
  clear hxg2_0
  clear hxg2_1
  clear hfg2_0
  clear hfg2_1
  clear hxg3_0
  clear hxg3_1
  clear hfg3_0
  clear hfg3_1
  have hxg1_0 : w6_.cell? ⟨g1, 0, none⟩ = some (.slice A0_0 l0_0.length c0_0) := (blk_cell Bg1.out 0).trans rfl
  have hfg1_0 := blk_frozen Bg1.out 0
  have hxg2_0 : w6_.cell? ⟨g2, 0, none⟩ = some (.slice A1_0 l1_0.length c1_0) := (blk_cell Bg2.out 0).trans rfl
  have hxg2_1 : w6_.cell? ⟨g2, 1, none⟩ = some (.slice A1_1 l1_1.length c1_1) := (blk_cell Bg2.out 1).trans rfl
  have hfg2_0 := blk_frozen Bg2.out 0
  have hfg2_1 := blk_frozen Bg2.out 1
  have hxg3_0 : w6_.cell? ⟨g3, 0, none⟩ = some (.slice A2_0 l2_0.length c2_0) := (blk_cell Bg3.out 0).trans rfl
  have hxg3_1 : w6_.cell? ⟨g3, 1, none⟩ = some (.slice A2_1 l2_1.length c2_1) := (blk_cell Bg3.out 1).trans rfl
  have hfg3_0 := blk_frozen Bg3.out 0
  have hfg3_1 := blk_frozen Bg3.out 1
  clear hb
  try go_wp2_with fail
  have n_ := Aside0.mk (blk_drew Bg1.out); clear Bg1; have Bg1 := n_; clear n_
  have n_ := Aside0.mk (blk_drew Bg2.out); clear Bg2; have Bg2 := n_; clear n_
  have n_ := Aside0.mk (blk_drew Bg3.out); clear Bg3; have Bg3 := n_; clear n_
  have n_ := Aside0.mk (below_drew1 HB.out); clear HB; have HB := n_; clear n_
  clear hxg1_0
  clear hfg1_0
  clear hxg2_0
  clear hxg2_1
  clear hfg2_0
  clear hfg2_1
  clear hxg3_0
  clear hxg3_1
  clear hfg3_0
  clear hfg3_1
  have hz := Aside0.mk (show w6_.heap.size ≤ w6_.drew.heap.size from Nat.le_refl _)
  refine start_ (n := 12) (S := fun w' => w'.cell? ⟨g1, 0, none⟩ = some (.slice A0_0 l0_0.length c0_0) ∧ w'.cell? ⟨g2, 0, none⟩ = some (.slice A1_0 l1_0.length c1_0) ∧ w'.cell? ⟨g2, 1, none⟩ = some (.slice A1_1 l1_1.length c1_1) ∧ w'.cell? ⟨g3, 0, none⟩ = some (.slice A2_0 l2_0.length c2_0) ∧ w'.cell? ⟨g3, 1, none⟩ = some (.slice A2_1 l2_1.length c2_1)) (ds := []) #[false,false,false,false,false,false,false,false,false,false,false,false] (by kernel_rfl) rfl rfl ⟨(blk_cell Bg1.out 0).trans rfl, (blk_cell Bg2.out 0).trans rfl, (blk_cell Bg2.out 1).trans rfl, (blk_cell Bg3.out 0).trans rfl, (blk_cell Bg3.out 1).trans rfl⟩ (fun hHeld => ?_)
  generalize w6_.drew = w7_ at Bg1 Bg2 Bg3 HB hz hHeld ⊢
  have Z7_ := hz; clear hz
  refine take_ (i := 0) (N := some 36) (v := ?_) (a' := ?_) #[true,false,false,false,false,false,false,false,false,false,false,false] rfl rfl (by kernel_rfl) (fun _ _ _ h => h) (Or.inl ⟨by rfl, ?_⟩) hHeld ?_ ?_
  rotate_left
  · rintro w' ⟨s0, s1, s2, s3, s4⟩; go_simp; with_reducible rfl
  rotate_left
  · simp only [Act.put, List.setIfInBounds_toArray, List.set_cons_zero, List.set_cons_succ, i64_w, i32_w]; rfl
  refine take_ (i := 2) (N := some 38) (v := ?_) (a' := ?_) #[true,false,true,false,false,false,false,false,false,false,false,false] rfl rfl (by kernel_rfl) (fun _ _ _ h => h) (Or.inl ⟨by rfl, ?_⟩) hHeld ?_ ?_
  rotate_left
  · rintro w' ⟨s0, s1, s2, s3, s4⟩; go_simp; with_reducible rfl
  rotate_left
  · simp only [Act.put, List.setIfInBounds_toArray, List.set_cons_zero, List.set_cons_succ, i64_w, i32_w]; rfl
  refine take_ (i := 4) (N := some 40) (v := ?_) (a' := ?_) #[true,false,true,false,true,false,false,false,false,false,false,false] rfl rfl (by kernel_rfl) (fun _ _ _ h => h) (Or.inl ⟨by rfl, ?_⟩) hHeld ?_ ?_
  rotate_left
  · rintro w' ⟨s0, s1, s2, s3, s4⟩; go_simp; with_reducible rfl
  rotate_left
  · simp only [Act.put, List.setIfInBounds_toArray, List.set_cons_zero, List.set_cons_succ, i64_w, i32_w]; rfl
  refine one_ (i := 1) (N := some 37) #[true,true,true,false,true,false,false,false,false,false,false,false] rfl rfl (by kernel_rfl) (by decide) (fun K hK => ?_)
  refine goes_ Try.func49 (by kernel_rfl) rfl #[.agg #[.slice A0_0 l0_0.length c0_0]] (by rfl) rfl rfl (by (try simp only [List.map_toArray, List.map_cons, List.map_nil]); first | done | rfl) ?_
  with_reducible refine (laws_toSchema.calls ke6 _ _ l0_0 r6_0 _ (Kd.C_below H0_0.out HB.out) HC0_0.out Ee6.out).mono ?_
  rintro e w8_ ⟨v8_0_, rfl, ho0, hb⟩
  refine ⟨_, rfl, ?_⟩
  have O8_0 := Aside0.mk (newR ho0 HB.out.size)
  have Z8_ := Aside0.mk (show w7_.heap.size ≤ w8_.heap.size from hb.size)
  have n_ := Aside0.mk (blk_below Bg1.out hb); clear Bg1; have Bg1 := n_; clear n_
  have n_ := Aside0.mk (blk_below Bg2.out hb); clear Bg2; have Bg2 := n_; clear n_
  have n_ := Aside0.mk (blk_below Bg3.out hb); clear Bg3; have Bg3 := n_; clear n_
  have n_ := Aside0.mk (below_step HB.out hb); clear HB; have HB := n_; clear n_
  have hxg1_0 : w8_.cell? ⟨g1, 0, none⟩ = some (.slice A0_0 l0_0.length c0_0) := (blk_cell Bg1.out 0).trans rfl
  have hfg1_0 := blk_frozen Bg1.out 0
  have hxg2_0 : w8_.cell? ⟨g2, 0, none⟩ = some (.slice A1_0 l1_0.length c1_0) := (blk_cell Bg2.out 0).trans rfl
  have hxg2_1 : w8_.cell? ⟨g2, 1, none⟩ = some (.slice A1_1 l1_1.length c1_1) := (blk_cell Bg2.out 1).trans rfl
  have hfg2_0 := blk_frozen Bg2.out 0
  have hfg2_1 := blk_frozen Bg2.out 1
  have hxg3_0 : w8_.cell? ⟨g3, 0, none⟩ = some (.slice A2_0 l2_0.length c2_0) := (blk_cell Bg3.out 0).trans rfl
  have hxg3_1 : w8_.cell? ⟨g3, 1, none⟩ = some (.slice A2_1 l2_1.length c2_1) := (blk_cell Bg3.out 1).trans rfl
  have hfg3_0 := blk_frozen Bg3.out 0
  have hfg3_1 := blk_frozen Bg3.out 1
  clear hb ho0
  obtain ⟨A8_0_, c8_0_, eq_⟩ := Kd.R_slice O8_0.out
  subst eq_
  clear hxg1_0
  clear hfg1_0
  clear hxg2_0
  clear hxg2_1
  clear hfg2_0
  clear hfg2_1
  clear hxg3_0
  clear hxg3_1
  clear hfg3_0
  clear hfg3_1
  refine hK.out _ _ ⟨(blk_cell Bg1.out 0).trans rfl, (blk_cell Bg2.out 0).trans rfl, (blk_cell Bg2.out 1).trans rfl, (blk_cell Bg3.out 0).trans rfl, (blk_cell Bg3.out 1).trans rfl⟩ (fun hHeld => ?_)
  clear hK K
  refine norm_ (a' := ?_) ?_ ?_
  rotate_left
  · show Act.put _ (some 37) _ = _; simp only [Act.put, List.setIfInBounds_toArray, List.set_cons_zero, List.set_cons_succ, i64_w, i32_w]; rfl
  refine one_ (i := 3) (N := some 39) #[true,true,true,true,true,false,false,false,false,false,false,false] rfl rfl (by kernel_rfl) (by decide) (fun K hK => ?_)
  refine goes_ Try.func32 (by kernel_rfl) rfl #[.agg #[.slice A1_0 l1_0.length c1_0, .slice A1_1 l1_1.length c1_1]] (by rfl) rfl rfl (by (try simp only [List.map_toArray, List.map_cons, List.map_nil]); first | done | rfl) ?_
  with_reducible refine (laws_toQuery.calls ke7 _ _ l1_0 _ _ l1_1 r7_0 r7_1 _ (Kd.C_below H1_0.out HB.out) HC1_0.out (Kd.C_below H1_1.out HB.out) HC1_1.out Ee7.out).mono ?_
  rintro e w9_ ⟨v9_0_, v9_1_, rfl, ho0, ho1, hb⟩
  refine ⟨_, rfl, ?_⟩
  have O9_0 := Aside0.mk (newR ho0 HB.out.size)
  have O9_1 := Aside0.mk (newS ho1 HB.out.size)
  have Z9_ := Aside0.mk (show w8_.heap.size ≤ w9_.heap.size from hb.size)
  have n_ := Aside0.mk (Kd.R_below O8_0.out hb); clear O8_0; have O8_0 := n_; clear n_
  have n_ := Aside0.mk (blk_below Bg1.out hb); clear Bg1; have Bg1 := n_; clear n_
  have n_ := Aside0.mk (blk_below Bg2.out hb); clear Bg2; have Bg2 := n_; clear n_
  have n_ := Aside0.mk (blk_below Bg3.out hb); clear Bg3; have Bg3 := n_; clear n_
  have n_ := Aside0.mk (below_step HB.out hb); clear HB; have HB := n_; clear n_
  have hxg1_0 : w9_.cell? ⟨g1, 0, none⟩ = some (.slice A0_0 l0_0.length c0_0) := (blk_cell Bg1.out 0).trans rfl
  have hfg1_0 := blk_frozen Bg1.out 0
  have hxg2_0 : w9_.cell? ⟨g2, 0, none⟩ = some (.slice A1_0 l1_0.length c1_0) := (blk_cell Bg2.out 0).trans rfl
  have hxg2_1 : w9_.cell? ⟨g2, 1, none⟩ = some (.slice A1_1 l1_1.length c1_1) := (blk_cell Bg2.out 1).trans rfl
  have hfg2_0 := blk_frozen Bg2.out 0
  have hfg2_1 := blk_frozen Bg2.out 1
  have hxg3_0 : w9_.cell? ⟨g3, 0, none⟩ = some (.slice A2_0 l2_0.length c2_0) := (blk_cell Bg3.out 0).trans rfl
  have hxg3_1 : w9_.cell? ⟨g3, 1, none⟩ = some (.slice A2_1 l2_1.length c2_1) := (blk_cell Bg3.out 1).trans rfl
  have hfg3_0 := blk_frozen Bg3.out 0
  have hfg3_1 := blk_frozen Bg3.out 1
  clear hb ho0 ho1
  obtain ⟨A9_0_, c9_0_, eq_⟩ := Kd.R_slice O9_0.out
  subst eq_
  obtain ⟨A9_1_, c9_1_, eq_⟩ := Kd.S_slice O9_1.out
  subst eq_
  clear hxg1_0
  clear hfg1_0
  clear hxg2_0
  clear hxg2_1
  clear hfg2_0
  clear hfg2_1
  clear hxg3_0
  clear hxg3_1
  clear hfg3_0
  clear hfg3_1
  refine hK.out _ _ ⟨(blk_cell Bg1.out 0).trans rfl, (blk_cell Bg2.out 0).trans rfl, (blk_cell Bg2.out 1).trans rfl, (blk_cell Bg3.out 0).trans rfl, (blk_cell Bg3.out 1).trans rfl⟩ (fun hHeld => ?_)
  clear hK K
  refine norm_ (a' := ?_) ?_ ?_
  rotate_left
  · show Act.put _ (some 39) _ = _; simp only [Act.put, List.setIfInBounds_toArray, List.set_cons_zero, List.set_cons_succ, i64_w, i32_w]; rfl
  refine one_ (i := 5) (N := some 41) #[true,true,true,true,true,true,false,false,false,false,false,false] rfl rfl (by kernel_rfl) (by decide) (fun K hK => ?_)
  refine goes_ Try.func32 (by kernel_rfl) rfl #[.agg #[.slice A2_0 l2_0.length c2_0, .slice A2_1 l2_1.length c2_1]] (by rfl) rfl rfl (by (try simp only [List.map_toArray, List.map_cons, List.map_nil]); first | done | rfl) ?_
  with_reducible refine (laws_toQuery.calls ke8 _ _ l2_0 _ _ l2_1 r8_0 r8_1 _ (Kd.C_below H2_0.out HB.out) HC2_0.out (Kd.C_below H2_1.out HB.out) HC2_1.out Ee8.out).mono ?_
  rintro e w10_ ⟨v10_0_, v10_1_, rfl, ho0, ho1, hb⟩
  refine ⟨_, rfl, ?_⟩
  have O10_0 := Aside0.mk (newR ho0 HB.out.size)
  have O10_1 := Aside0.mk (newS ho1 HB.out.size)
  have Z10_ := Aside0.mk (show w9_.heap.size ≤ w10_.heap.size from hb.size)
  have n_ := Aside0.mk (Kd.R_below O8_0.out hb); clear O8_0; have O8_0 := n_; clear n_
  have n_ := Aside0.mk (Kd.R_below O9_0.out hb); clear O9_0; have O9_0 := n_; clear n_
  have n_ := Aside0.mk (Kd.S_below O9_1.out hb); clear O9_1; have O9_1 := n_; clear n_
  have n_ := Aside0.mk (blk_below Bg1.out hb); clear Bg1; have Bg1 := n_; clear n_
  have n_ := Aside0.mk (blk_below Bg2.out hb); clear Bg2; have Bg2 := n_; clear n_
  have n_ := Aside0.mk (blk_below Bg3.out hb); clear Bg3; have Bg3 := n_; clear n_
  have n_ := Aside0.mk (below_step HB.out hb); clear HB; have HB := n_; clear n_
  have hxg1_0 : w10_.cell? ⟨g1, 0, none⟩ = some (.slice A0_0 l0_0.length c0_0) := (blk_cell Bg1.out 0).trans rfl
  have hfg1_0 := blk_frozen Bg1.out 0
  have hxg2_0 : w10_.cell? ⟨g2, 0, none⟩ = some (.slice A1_0 l1_0.length c1_0) := (blk_cell Bg2.out 0).trans rfl
  have hxg2_1 : w10_.cell? ⟨g2, 1, none⟩ = some (.slice A1_1 l1_1.length c1_1) := (blk_cell Bg2.out 1).trans rfl
  have hfg2_0 := blk_frozen Bg2.out 0
  have hfg2_1 := blk_frozen Bg2.out 1
  have hxg3_0 : w10_.cell? ⟨g3, 0, none⟩ = some (.slice A2_0 l2_0.length c2_0) := (blk_cell Bg3.out 0).trans rfl
  have hxg3_1 : w10_.cell? ⟨g3, 1, none⟩ = some (.slice A2_1 l2_1.length c2_1) := (blk_cell Bg3.out 1).trans rfl
  have hfg3_0 := blk_frozen Bg3.out 0
  have hfg3_1 := blk_frozen Bg3.out 1
  clear hb ho0 ho1
  obtain ⟨A10_0_, c10_0_, eq_⟩ := Kd.R_slice O10_0.out
  subst eq_
  obtain ⟨A10_1_, c10_1_, eq_⟩ := Kd.S_slice O10_1.out
  subst eq_
  clear hxg1_0
  clear hfg1_0
  clear hxg2_0
  clear hxg2_1
  clear hfg2_0
  clear hfg2_1
  clear hxg3_0
  clear hxg3_1
  clear hfg3_0
  clear hfg3_1
  refine hK.out _ _ ⟨(blk_cell Bg1.out 0).trans rfl, (blk_cell Bg2.out 0).trans rfl, (blk_cell Bg2.out 1).trans rfl, (blk_cell Bg3.out 0).trans rfl, (blk_cell Bg3.out 1).trans rfl⟩ (fun hHeld => ?_)
  clear hK K
  refine norm_ (a' := ?_) ?_ ?_
  rotate_left
  · show Act.put _ (some 41) _ = _; simp only [Act.put, List.setIfInBounds_toArray, List.set_cons_zero, List.set_cons_succ, i64_w, i32_w]; rfl
  refine one_ (i := 6) (N := some 42) #[true,true,true,true,true,true,true,false,false,false,false,false] rfl rfl (by kernel_rfl) (by decide) (fun K hK => ?_)
  refine goes_ Try.func56 (by kernel_rfl) rfl #[.agg #[.slice A8_0_ r6_0.length c8_0_], .agg #[.slice A9_0_ r7_0.length c9_0_, .slice A9_1_ r7_1.length c9_1_], .agg #[.slice A10_0_ r8_0.length c10_0_, .slice A10_1_ r8_1.length c10_1_]] (by rfl) rfl rfl (by (try simp only [List.map_toArray, List.map_cons, List.map_nil]); first | done | rfl) ?_
  with_reducible refine (spec_FindMapping_calls _ _ r6_0 _ _ r7_0 _ _ r7_1 _ _ r8_0 _ _ r8_1 r9_0 r9_1 _ (Kd.R_reads' O8_0.out).2.2 (Kd.R_reads' O8_0.out).2.1 (Kd.R_reads' O9_0.out).2.2 (Kd.R_reads' O9_0.out).2.1 (Kd.S_reads' O9_1.out).2.2 (Kd.S_reads' O9_1.out).2.1 (Kd.R_reads' O10_0.out).2.2 (Kd.R_reads' O10_0.out).2.1 (Kd.S_reads' O10_1.out).2.2 (Kd.S_reads' O10_1.out).2.1 e9_hz0.out Ee9.out).mono ?_
  rintro e w11_ ⟨v11_0_, rfl, ho0, hb⟩
  refine ⟨_, rfl, ?_⟩
  have O11_0 := Aside0.mk (newR ho0 HB.out.size)
  have Z11_ := Aside0.mk (show w10_.heap.size ≤ w11_.heap.size from hb.size)
  have n_ := Aside0.mk (Kd.R_below O8_0.out hb); clear O8_0; have O8_0 := n_; clear n_
  have n_ := Aside0.mk (Kd.R_below O9_0.out hb); clear O9_0; have O9_0 := n_; clear n_
  have n_ := Aside0.mk (Kd.S_below O9_1.out hb); clear O9_1; have O9_1 := n_; clear n_
  have n_ := Aside0.mk (Kd.R_below O10_0.out hb); clear O10_0; have O10_0 := n_; clear n_
  have n_ := Aside0.mk (Kd.S_below O10_1.out hb); clear O10_1; have O10_1 := n_; clear n_
  have n_ := Aside0.mk (blk_below Bg1.out hb); clear Bg1; have Bg1 := n_; clear n_
  have n_ := Aside0.mk (blk_below Bg2.out hb); clear Bg2; have Bg2 := n_; clear n_
  have n_ := Aside0.mk (blk_below Bg3.out hb); clear Bg3; have Bg3 := n_; clear n_
  have n_ := Aside0.mk (below_step HB.out hb); clear HB; have HB := n_; clear n_
  have hxg1_0 : w11_.cell? ⟨g1, 0, none⟩ = some (.slice A0_0 l0_0.length c0_0) := (blk_cell Bg1.out 0).trans rfl
  have hfg1_0 := blk_frozen Bg1.out 0
  have hxg2_0 : w11_.cell? ⟨g2, 0, none⟩ = some (.slice A1_0 l1_0.length c1_0) := (blk_cell Bg2.out 0).trans rfl
  have hxg2_1 : w11_.cell? ⟨g2, 1, none⟩ = some (.slice A1_1 l1_1.length c1_1) := (blk_cell Bg2.out 1).trans rfl
  have hfg2_0 := blk_frozen Bg2.out 0
  have hfg2_1 := blk_frozen Bg2.out 1
  have hxg3_0 : w11_.cell? ⟨g3, 0, none⟩ = some (.slice A2_0 l2_0.length c2_0) := (blk_cell Bg3.out 0).trans rfl
  have hxg3_1 : w11_.cell? ⟨g3, 1, none⟩ = some (.slice A2_1 l2_1.length c2_1) := (blk_cell Bg3.out 1).trans rfl
  have hfg3_0 := blk_frozen Bg3.out 0
  have hfg3_1 := blk_frozen Bg3.out 1
  clear hb ho0
  obtain ⟨A11_0_, c11_0_, eq_⟩ := Kd.R_slice O11_0.out
  subst eq_
  clear hxg1_0
  clear hfg1_0
  clear hxg2_0
  clear hxg2_1
  clear hfg2_0
  clear hfg2_1
  clear hxg3_0
  clear hxg3_1
  clear hfg3_0
  clear hfg3_1
  refine hK.out _ _ ⟨(blk_cell Bg1.out 0).trans rfl, (blk_cell Bg2.out 0).trans rfl, (blk_cell Bg2.out 1).trans rfl, (blk_cell Bg3.out 0).trans rfl, (blk_cell Bg3.out 1).trans rfl⟩ (fun hHeld => ?_)
  clear hK K
  refine norm_ (a' := ?_) ?_ ?_
  rotate_left
  · show Act.put _ (some 42) _ = _; simp only [Act.put, List.setIfInBounds_toArray, List.set_cons_zero, List.set_cons_succ, i64_w, i32_w]; rfl
  refine pure_ (i := 7) (N := some 35) (v := ?_) (a' := ?_) #[true,true,true,true,true,true,true,true,false,false,false,false] rfl rfl (by kernel_rfl) (fun _ _ _ h => h) (Or.inl ⟨by rfl, ?_⟩) ?_ ?_
  rotate_left
  · intro w'; go_simp; with_reducible rfl
  rotate_left
  · simp only [Act.put, List.setIfInBounds_toArray, List.set_cons_zero, List.set_cons_succ, i64_w, i32_w]; rfl
  refine pure_ (i := 8) (N := some 43) (v := ?_) (a' := ?_) #[true,true,true,true,true,true,true,true,true,false,false,false] rfl rfl (by kernel_rfl) (fun _ _ _ h => h) (Or.inl ⟨by rfl, ?_⟩) ?_ ?_
  rotate_left
  · intro w'; go_simp; with_reducible rfl
  rotate_left
  · simp only [Act.put, List.setIfInBounds_toArray, List.set_cons_zero, List.set_cons_succ, i64_w, i32_w]; rfl
  refine pure_ (i := 9) (N := some 44) (v := ?_) (a' := ?_) #[true,true,true,true,true,true,true,true,true,true,false,false] rfl rfl (by kernel_rfl) (fun _ _ _ h => h) (Or.inl ⟨by rfl, ?_⟩) ?_ ?_
  rotate_left
  · intro w'; go_simp; with_reducible rfl
  rotate_left
  · simp only [Act.put, List.setIfInBounds_toArray, List.set_cons_zero, List.set_cons_succ, i64_w, i32_w]; rfl
  refine pure_ (i := 10) (N := some 8) (v := ?_) (a' := ?_) #[true,true,true,true,true,true,true,true,true,true,true,false] rfl rfl (by kernel_rfl) (fun _ _ _ h => h) (Or.inl ⟨by rfl, ?_⟩) ?_ ?_
  rotate_left
  · intro w'; go_simp; with_reducible rfl
  rotate_left
  · simp only [Act.put, List.setIfInBounds_toArray, List.set_cons_zero, List.set_cons_succ, i64_w, i32_w]; rfl
  refine pure_ (i := 11) (N := some 9) (v := ?_) (a' := ?_) #[true,true,true,true,true,true,true,true,true,true,true,true] rfl rfl (by kernel_rfl) (fun _ _ _ h => h) (Or.inl ⟨by rfl, ?_⟩) ?_ ?_
  rotate_left
  · intro w'; go_simp; with_reducible rfl
  rotate_left
  · simp only [Act.put, List.setIfInBounds_toArray, List.set_cons_zero, List.set_cons_succ, i64_w, i32_w]; rfl
  refine done_ (by kernel_rfl) ?_
  have hxg1_0 : w11_.cell? ⟨g1, 0, none⟩ = some (.slice A0_0 l0_0.length c0_0) := (blk_cell Bg1.out 0).trans rfl
  have hfg1_0 := blk_frozen Bg1.out 0
  have hxg2_0 : w11_.cell? ⟨g2, 0, none⟩ = some (.slice A1_0 l1_0.length c1_0) := (blk_cell Bg2.out 0).trans rfl
  have hxg2_1 : w11_.cell? ⟨g2, 1, none⟩ = some (.slice A1_1 l1_1.length c1_1) := (blk_cell Bg2.out 1).trans rfl
  have hfg2_0 := blk_frozen Bg2.out 0
  have hfg2_1 := blk_frozen Bg2.out 1
  have hxg3_0 : w11_.cell? ⟨g3, 0, none⟩ = some (.slice A2_0 l2_0.length c2_0) := (blk_cell Bg3.out 0).trans rfl
  have hxg3_1 : w11_.cell? ⟨g3, 1, none⟩ = some (.slice A2_1 l2_1.length c2_1) := (blk_cell Bg3.out 1).trans rfl
  have hfg3_0 := blk_frozen Bg3.out 0
  have hfg3_1 := blk_frozen Bg3.out 1
  go_wp2_with (first | (go_at_call 49; refine hold ?_))
  unfold Hold
  refine (laws_toSchema.calls ke6 _ _ l0_0 r6_0 _ (Kd.C_below H0_0.out HB.out) HC0_0.out Ee6.out).mono ?_
  rintro e w12_ ⟨v12_0_, rfl, ho0, hb⟩
  have O12_0 := Aside0.mk (newR ho0 HB.out.size)
  have Z12_ := Aside0.mk (show w11_.heap.size ≤ w12_.heap.size from hb.size)
  have n_ := Aside0.mk (Kd.R_below O8_0.out hb); clear O8_0; have O8_0 := n_; clear n_
  have n_ := Aside0.mk (Kd.R_below O9_0.out hb); clear O9_0; have O9_0 := n_; clear n_
  have n_ := Aside0.mk (Kd.S_below O9_1.out hb); clear O9_1; have O9_1 := n_; clear n_
  have n_ := Aside0.mk (Kd.R_below O10_0.out hb); clear O10_0; have O10_0 := n_; clear n_
  have n_ := Aside0.mk (Kd.S_below O10_1.out hb); clear O10_1; have O10_1 := n_; clear n_
  have n_ := Aside0.mk (Kd.R_below O11_0.out hb); clear O11_0; have O11_0 := n_; clear n_
  have n_ := Aside0.mk (blk_below Bg1.out hb); clear Bg1; have Bg1 := n_; clear n_
  have n_ := Aside0.mk (blk_below Bg2.out hb); clear Bg2; have Bg2 := n_; clear n_
  have n_ := Aside0.mk (blk_below Bg3.out hb); clear Bg3; have Bg3 := n_; clear n_
  have n_ := Aside0.mk (below_step HB.out hb); clear HB; have HB := n_; clear n_
  clear hxg1_0
  clear hfg1_0
  clear hxg2_0
  clear hxg2_1
  clear hfg2_0
  clear hfg2_1
  clear hxg3_0
  clear hxg3_1
  clear hfg3_0
  clear hfg3_1
  have hxg1_0 : w12_.cell? ⟨g1, 0, none⟩ = some (.slice A0_0 l0_0.length c0_0) := (blk_cell Bg1.out 0).trans rfl
  have hfg1_0 := blk_frozen Bg1.out 0
  have hxg2_0 : w12_.cell? ⟨g2, 0, none⟩ = some (.slice A1_0 l1_0.length c1_0) := (blk_cell Bg2.out 0).trans rfl
  have hxg2_1 : w12_.cell? ⟨g2, 1, none⟩ = some (.slice A1_1 l1_1.length c1_1) := (blk_cell Bg2.out 1).trans rfl
  have hfg2_0 := blk_frozen Bg2.out 0
  have hfg2_1 := blk_frozen Bg2.out 1
  have hxg3_0 : w12_.cell? ⟨g3, 0, none⟩ = some (.slice A2_0 l2_0.length c2_0) := (blk_cell Bg3.out 0).trans rfl
  have hxg3_1 : w12_.cell? ⟨g3, 1, none⟩ = some (.slice A2_1 l2_1.length c2_1) := (blk_cell Bg3.out 1).trans rfl
  have hfg3_0 := blk_frozen Bg3.out 0
  have hfg3_1 := blk_frozen Bg3.out 1
  clear hb ho0
  obtain ⟨A12_0_, c12_0_, eq_⟩ := Kd.R_slice O12_0.out
  subst eq_
  go_wp2_with (first | ((with_reducible refine gate_dst (N := 10) rfl ?_); refine hold ?_))
  unfold Hold
  refine box_event ?hg (N := 10) ?hd (cs := #[.slice none 0 0]) (t := 65) ?hr ?_
  case hd => rfl
  case hg => rfl
  case hr => first | (go_simp; done) | (go_simp; rfl)
  intro g11 hg w13_ hbox hb
  have Bg11 := Aside0.mk hbox
  have Gg11 := Aside0.mk (show w12_.heap.size ≤ g11 ∧ g11 < w13_.heap.size from ⟨by rw [hg]; exact Nat.le_refl _, blk_lt hbox⟩)
  clear hbox hg
  have Z13_ := Aside0.mk (show w12_.heap.size ≤ w13_.heap.size from hb.size)
  have n_ := Aside0.mk (Kd.R_below O8_0.out hb); clear O8_0; have O8_0 := n_; clear n_
  have n_ := Aside0.mk (Kd.R_below O9_0.out hb); clear O9_0; have O9_0 := n_; clear n_
  have n_ := Aside0.mk (Kd.S_below O9_1.out hb); clear O9_1; have O9_1 := n_; clear n_
  have n_ := Aside0.mk (Kd.R_below O10_0.out hb); clear O10_0; have O10_0 := n_; clear n_
  have n_ := Aside0.mk (Kd.S_below O10_1.out hb); clear O10_1; have O10_1 := n_; clear n_
  have n_ := Aside0.mk (Kd.R_below O11_0.out hb); clear O11_0; have O11_0 := n_; clear n_
  have n_ := Aside0.mk (Kd.R_below O12_0.out hb); clear O12_0; have O12_0 := n_; clear n_
  have n_ := Aside0.mk (blk_below Bg1.out hb); clear Bg1; have Bg1 := n_; clear n_
  have n_ := Aside0.mk (blk_below Bg2.out hb); clear Bg2; have Bg2 := n_; clear n_
  have n_ := Aside0.mk (blk_below Bg3.out hb); clear Bg3; have Bg3 := n_; clear n_
  have n_ := Aside0.mk (below_step HB.out hb); clear HB; have HB := n_; clear n_
  clear hxg1_0
  clear hfg1_0
  clear hxg2_0
  clear hxg2_1
  clear hfg2_0
  clear hfg2_1
  clear hxg3_0
  clear hxg3_1
  clear hfg3_0
  clear hfg3_1
  have hxg1_0 : w13_.cell? ⟨g1, 0, none⟩ = some (.slice A0_0 l0_0.length c0_0) := (blk_cell Bg1.out 0).trans rfl
  have hfg1_0 := blk_frozen Bg1.out 0
  have hxg2_0 : w13_.cell? ⟨g2, 0, none⟩ = some (.slice A1_0 l1_0.length c1_0) := (blk_cell Bg2.out 0).trans rfl
  have hxg2_1 : w13_.cell? ⟨g2, 1, none⟩ = some (.slice A1_1 l1_1.length c1_1) := (blk_cell Bg2.out 1).trans rfl
  have hfg2_0 := blk_frozen Bg2.out 0
  have hfg2_1 := blk_frozen Bg2.out 1
  have hxg3_0 : w13_.cell? ⟨g3, 0, none⟩ = some (.slice A2_0 l2_0.length c2_0) := (blk_cell Bg3.out 0).trans rfl
  have hxg3_1 : w13_.cell? ⟨g3, 1, none⟩ = some (.slice A2_1 l2_1.length c2_1) := (blk_cell Bg3.out 1).trans rfl
  have hfg3_0 := blk_frozen Bg3.out 0
  have hfg3_1 := blk_frozen Bg3.out 1
  have hxg11_0 : w13_.cell? ⟨g11, 0, none⟩ = some (.slice none 0 0) := (blk_cell Bg11.out 0).trans rfl
  have hfg11_0 := blk_frozen Bg11.out 0
  clear hb
  go_wp2_with (first | ((with_reducible refine gate_store (t := 65) (p := 10) rfl ?_); refine hold ?_))
  unfold Hold
  refine store_event (t := 65) (p := 10) (v := ?vo13) (w1 := (w13_.setCell ⟨g11, 0, none⟩ (.slice A12_0_ r6_0.length c12_0_))) ?hg ?ho ?hn ?hr ?_
  case ho => rfl
  case hg => rfl
  case hn => rfl
  case hr => first | (go_simp; done) | (go_simp; rfl)
  intro w14_ hw
  have hk : Kept w13_ w14_ (fun k => k = g11) := by rw [hw]; exact kept_one _
  have hb0 : Below w.heap.size w w14_ := by rw [hw]; exact (below_set HB.out (Nat.le_trans (by have z1_ := Z1_.out; have z2_ := Z2_.out; have z3_ := Z3_.out; have z4_ := Z4_.out; have z5_ := Z5_.out; have z6_ := Z6_.out; have z7_ := Z7_.out; have z8_ := Z8_.out; have z9_ := Z9_.out; have z10_ := Z10_.out; have z11_ := Z11_.out; have z12_ := Z12_.out; omega) Gg11.out.1))
  have n_ := Aside0.mk (show w14_.heap[g11]? = some (.cells #[.slice A12_0_ r6_0.length c12_0_] 65 (0, 0)) by rw [hw]; exact (blk_put (cs := #[.slice none 0 0]) (cs' := #[.slice A12_0_ r6_0.length c12_0_]) Bg11.out 0 _ rfl))
  clear Bg11; have Bg11 := n_; clear n_ hw
  have Z14_ := Aside0.mk (show w13_.heap.size ≤ w14_.heap.size from hk.1)
  have n_ := Aside0.mk (Kd.R_kept O8_0.out hk (fun k_ hk1 hk2 => by obtain ⟨a1_, a2_⟩ := hk1.1; have e_ : k_ = g11 := hk2; obtain ⟨b1_, b2_⟩ := Gg11.out; have z9_ := Z9_.out; have z10_ := Z10_.out; have z11_ := Z11_.out; have z12_ := Z12_.out; omega)); clear O8_0; have O8_0 := n_; clear n_
  have n_ := Aside0.mk (Kd.R_kept O9_0.out hk (fun k_ hk1 hk2 => by obtain ⟨a1_, a2_⟩ := hk1.1; have e_ : k_ = g11 := hk2; obtain ⟨b1_, b2_⟩ := Gg11.out; have z10_ := Z10_.out; have z11_ := Z11_.out; have z12_ := Z12_.out; omega)); clear O9_0; have O9_0 := n_; clear n_
  have n_ := Aside0.mk (Kd.S_kept O9_1.out hk (fun k_ hk1 hk2 => by obtain ⟨a1_, a2_⟩ := hk1.1; have e_ : k_ = g11 := hk2; obtain ⟨b1_, b2_⟩ := Gg11.out; have z10_ := Z10_.out; have z11_ := Z11_.out; have z12_ := Z12_.out; omega)); clear O9_1; have O9_1 := n_; clear n_
  have n_ := Aside0.mk (Kd.R_kept O10_0.out hk (fun k_ hk1 hk2 => by obtain ⟨a1_, a2_⟩ := hk1.1; have e_ : k_ = g11 := hk2; obtain ⟨b1_, b2_⟩ := Gg11.out; have z11_ := Z11_.out; have z12_ := Z12_.out; omega)); clear O10_0; have O10_0 := n_; clear n_
  have n_ := Aside0.mk (Kd.S_kept O10_1.out hk (fun k_ hk1 hk2 => by obtain ⟨a1_, a2_⟩ := hk1.1; have e_ : k_ = g11 := hk2; obtain ⟨b1_, b2_⟩ := Gg11.out; have z11_ := Z11_.out; have z12_ := Z12_.out; omega)); clear O10_1; have O10_1 := n_; clear n_
  have n_ := Aside0.mk (Kd.R_kept O11_0.out hk (fun k_ hk1 hk2 => by obtain ⟨a1_, a2_⟩ := hk1.1; have e_ : k_ = g11 := hk2; obtain ⟨b1_, b2_⟩ := Gg11.out; have z12_ := Z12_.out; omega)); clear O11_0; have O11_0 := n_; clear n_
  have n_ := Aside0.mk (Kd.R_kept O12_0.out hk (fun k_ hk1 hk2 => by obtain ⟨a1_, a2_⟩ := hk1.1; have e_ : k_ = g11 := hk2; obtain ⟨b1_, b2_⟩ := Gg11.out; omega)); clear O12_0; have O12_0 := n_; clear n_
  have n_ := Aside0.mk (blk_kept Bg1.out hk (fun hk2 => by obtain ⟨a1_, a2_⟩ := Gg1.out; have e_ : g1 = g11 := hk2; obtain ⟨b1_, b2_⟩ := Gg11.out; have z2_ := Z2_.out; have z3_ := Z3_.out; have z4_ := Z4_.out; have z5_ := Z5_.out; have z6_ := Z6_.out; have z7_ := Z7_.out; have z8_ := Z8_.out; have z9_ := Z9_.out; have z10_ := Z10_.out; have z11_ := Z11_.out; have z12_ := Z12_.out; omega)); clear Bg1; have Bg1 := n_; clear n_
  have n_ := Aside0.mk (blk_kept Bg2.out hk (fun hk2 => by obtain ⟨a1_, a2_⟩ := Gg2.out; have e_ : g2 = g11 := hk2; obtain ⟨b1_, b2_⟩ := Gg11.out; have z3_ := Z3_.out; have z4_ := Z4_.out; have z5_ := Z5_.out; have z6_ := Z6_.out; have z7_ := Z7_.out; have z8_ := Z8_.out; have z9_ := Z9_.out; have z10_ := Z10_.out; have z11_ := Z11_.out; have z12_ := Z12_.out; omega)); clear Bg2; have Bg2 := n_; clear n_
  have n_ := Aside0.mk (blk_kept Bg3.out hk (fun hk2 => by obtain ⟨a1_, a2_⟩ := Gg3.out; have e_ : g3 = g11 := hk2; obtain ⟨b1_, b2_⟩ := Gg11.out; have z4_ := Z4_.out; have z5_ := Z5_.out; have z6_ := Z6_.out; have z7_ := Z7_.out; have z8_ := Z8_.out; have z9_ := Z9_.out; have z10_ := Z10_.out; have z11_ := Z11_.out; have z12_ := Z12_.out; omega)); clear Bg3; have Bg3 := n_; clear n_
  clear HB; have HB := Aside0.mk hb0
  clear hxg1_0
  clear hfg1_0
  clear hxg2_0
  clear hxg2_1
  clear hfg2_0
  clear hfg2_1
  clear hxg3_0
  clear hxg3_1
  clear hfg3_0
  clear hfg3_1
  clear hxg11_0
  clear hfg11_0
  have hxg1_0 : w14_.cell? ⟨g1, 0, none⟩ = some (.slice A0_0 l0_0.length c0_0) := (blk_cell Bg1.out 0).trans rfl
  have hfg1_0 := blk_frozen Bg1.out 0
  have hxg2_0 : w14_.cell? ⟨g2, 0, none⟩ = some (.slice A1_0 l1_0.length c1_0) := (blk_cell Bg2.out 0).trans rfl
  have hxg2_1 : w14_.cell? ⟨g2, 1, none⟩ = some (.slice A1_1 l1_1.length c1_1) := (blk_cell Bg2.out 1).trans rfl
  have hfg2_0 := blk_frozen Bg2.out 0
  have hfg2_1 := blk_frozen Bg2.out 1
  have hxg3_0 : w14_.cell? ⟨g3, 0, none⟩ = some (.slice A2_0 l2_0.length c2_0) := (blk_cell Bg3.out 0).trans rfl
  have hxg3_1 : w14_.cell? ⟨g3, 1, none⟩ = some (.slice A2_1 l2_1.length c2_1) := (blk_cell Bg3.out 1).trans rfl
  have hfg3_0 := blk_frozen Bg3.out 0
  have hfg3_1 := blk_frozen Bg3.out 1
  have hxg11_0 : w14_.cell? ⟨g11, 0, none⟩ = some (.slice A12_0_ r6_0.length c12_0_) := (blk_cell Bg11.out 0).trans rfl
  have hfg11_0 := blk_frozen Bg11.out 0
  clear hk hb0
  go_wp2_with (first | (go_at_call 32; refine hold ?_))
  unfold Hold
  refine (laws_toQuery.calls ke7 _ _ l1_0 _ _ l1_1 r7_0 r7_1 _ (Kd.C_below H1_0.out HB.out) HC1_0.out (Kd.C_below H1_1.out HB.out) HC1_1.out Ee7.out).mono ?_
  rintro e w15_ ⟨v15_0_, v15_1_, rfl, ho0, ho1, hb⟩
  have O15_0 := Aside0.mk (newR ho0 HB.out.size)
  have O15_1 := Aside0.mk (newS ho1 HB.out.size)
  have Z15_ := Aside0.mk (show w14_.heap.size ≤ w15_.heap.size from hb.size)
  have n_ := Aside0.mk (Kd.R_below O8_0.out hb); clear O8_0; have O8_0 := n_; clear n_
  have n_ := Aside0.mk (Kd.R_below O9_0.out hb); clear O9_0; have O9_0 := n_; clear n_
  have n_ := Aside0.mk (Kd.S_below O9_1.out hb); clear O9_1; have O9_1 := n_; clear n_
  have n_ := Aside0.mk (Kd.R_below O10_0.out hb); clear O10_0; have O10_0 := n_; clear n_
  have n_ := Aside0.mk (Kd.S_below O10_1.out hb); clear O10_1; have O10_1 := n_; clear n_
  have n_ := Aside0.mk (Kd.R_below O11_0.out hb); clear O11_0; have O11_0 := n_; clear n_
  have n_ := Aside0.mk (Kd.R_below O12_0.out hb); clear O12_0; have O12_0 := n_; clear n_
  have n_ := Aside0.mk (blk_below Bg1.out hb); clear Bg1; have Bg1 := n_; clear n_
  have n_ := Aside0.mk (blk_below Bg2.out hb); clear Bg2; have Bg2 := n_; clear n_
  have n_ := Aside0.mk (blk_below Bg3.out hb); clear Bg3; have Bg3 := n_; clear n_
  have n_ := Aside0.mk (blk_below Bg11.out hb); clear Bg11; have Bg11 := n_; clear n_
  have n_ := Aside0.mk (below_step HB.out hb); clear HB; have HB := n_; clear n_
  clear hxg1_0
  clear hfg1_0
  clear hxg2_0
  clear hxg2_1
  clear hfg2_0
  clear hfg2_1
  clear hxg3_0
  clear hxg3_1
  clear hfg3_0
  clear hfg3_1
  clear hxg11_0
  clear hfg11_0
  have hxg1_0 : w15_.cell? ⟨g1, 0, none⟩ = some (.slice A0_0 l0_0.length c0_0) := (blk_cell Bg1.out 0).trans rfl
  have hfg1_0 := blk_frozen Bg1.out 0
  have hxg2_0 : w15_.cell? ⟨g2, 0, none⟩ = some (.slice A1_0 l1_0.length c1_0) := (blk_cell Bg2.out 0).trans rfl
  have hxg2_1 : w15_.cell? ⟨g2, 1, none⟩ = some (.slice A1_1 l1_1.length c1_1) := (blk_cell Bg2.out 1).trans rfl
  have hfg2_0 := blk_frozen Bg2.out 0
  have hfg2_1 := blk_frozen Bg2.out 1
  have hxg3_0 : w15_.cell? ⟨g3, 0, none⟩ = some (.slice A2_0 l2_0.length c2_0) := (blk_cell Bg3.out 0).trans rfl
  have hxg3_1 : w15_.cell? ⟨g3, 1, none⟩ = some (.slice A2_1 l2_1.length c2_1) := (blk_cell Bg3.out 1).trans rfl
  have hfg3_0 := blk_frozen Bg3.out 0
  have hfg3_1 := blk_frozen Bg3.out 1
  have hxg11_0 : w15_.cell? ⟨g11, 0, none⟩ = some (.slice A12_0_ r6_0.length c12_0_) := (blk_cell Bg11.out 0).trans rfl
  have hfg11_0 := blk_frozen Bg11.out 0
  clear hb ho0 ho1
  obtain ⟨A15_0_, c15_0_, eq_⟩ := Kd.R_slice O15_0.out
  subst eq_
  obtain ⟨A15_1_, c15_1_, eq_⟩ := Kd.S_slice O15_1.out
  subst eq_
  go_wp2_with (first | ((with_reducible refine gate_dst (N := 11) rfl ?_); refine hold ?_))
  unfold Hold
  refine box_event ?hg (N := 11) ?hd (cs := #[.slice none 0 0, .slice none 0 0]) (t := 46) ?hr ?_
  case hd => rfl
  case hg => rfl
  case hr => first | (go_simp; done) | (go_simp; rfl)
  intro g12 hg w16_ hbox hb
  have Bg12 := Aside0.mk hbox
  have Gg12 := Aside0.mk (show w15_.heap.size ≤ g12 ∧ g12 < w16_.heap.size from ⟨by rw [hg]; exact Nat.le_refl _, blk_lt hbox⟩)
  clear hbox hg
  have Z16_ := Aside0.mk (show w15_.heap.size ≤ w16_.heap.size from hb.size)
  have n_ := Aside0.mk (Kd.R_below O8_0.out hb); clear O8_0; have O8_0 := n_; clear n_
  have n_ := Aside0.mk (Kd.R_below O9_0.out hb); clear O9_0; have O9_0 := n_; clear n_
  have n_ := Aside0.mk (Kd.S_below O9_1.out hb); clear O9_1; have O9_1 := n_; clear n_
  have n_ := Aside0.mk (Kd.R_below O10_0.out hb); clear O10_0; have O10_0 := n_; clear n_
  have n_ := Aside0.mk (Kd.S_below O10_1.out hb); clear O10_1; have O10_1 := n_; clear n_
  have n_ := Aside0.mk (Kd.R_below O11_0.out hb); clear O11_0; have O11_0 := n_; clear n_
  have n_ := Aside0.mk (Kd.R_below O12_0.out hb); clear O12_0; have O12_0 := n_; clear n_
  have n_ := Aside0.mk (Kd.R_below O15_0.out hb); clear O15_0; have O15_0 := n_; clear n_
  have n_ := Aside0.mk (Kd.S_below O15_1.out hb); clear O15_1; have O15_1 := n_; clear n_
  have n_ := Aside0.mk (blk_below Bg1.out hb); clear Bg1; have Bg1 := n_; clear n_
  have n_ := Aside0.mk (blk_below Bg2.out hb); clear Bg2; have Bg2 := n_; clear n_
  have n_ := Aside0.mk (blk_below Bg3.out hb); clear Bg3; have Bg3 := n_; clear n_
  have n_ := Aside0.mk (blk_below Bg11.out hb); clear Bg11; have Bg11 := n_; clear n_
  have n_ := Aside0.mk (below_step HB.out hb); clear HB; have HB := n_; clear n_
  clear hxg1_0
  clear hfg1_0
  clear hxg2_0
  clear hxg2_1
  clear hfg2_0
  clear hfg2_1
  clear hxg3_0
  clear hxg3_1
  clear hfg3_0
  clear hfg3_1
  clear hxg11_0
  clear hfg11_0
  have hxg1_0 : w16_.cell? ⟨g1, 0, none⟩ = some (.slice A0_0 l0_0.length c0_0) := (blk_cell Bg1.out 0).trans rfl
  have hfg1_0 := blk_frozen Bg1.out 0
  have hxg2_0 : w16_.cell? ⟨g2, 0, none⟩ = some (.slice A1_0 l1_0.length c1_0) := (blk_cell Bg2.out 0).trans rfl
  have hxg2_1 : w16_.cell? ⟨g2, 1, none⟩ = some (.slice A1_1 l1_1.length c1_1) := (blk_cell Bg2.out 1).trans rfl
  have hfg2_0 := blk_frozen Bg2.out 0
  have hfg2_1 := blk_frozen Bg2.out 1
  have hxg3_0 : w16_.cell? ⟨g3, 0, none⟩ = some (.slice A2_0 l2_0.length c2_0) := (blk_cell Bg3.out 0).trans rfl
  have hxg3_1 : w16_.cell? ⟨g3, 1, none⟩ = some (.slice A2_1 l2_1.length c2_1) := (blk_cell Bg3.out 1).trans rfl
  have hfg3_0 := blk_frozen Bg3.out 0
  have hfg3_1 := blk_frozen Bg3.out 1
  have hxg11_0 : w16_.cell? ⟨g11, 0, none⟩ = some (.slice A12_0_ r6_0.length c12_0_) := (blk_cell Bg11.out 0).trans rfl
  have hfg11_0 := blk_frozen Bg11.out 0
  have hxg12_0 : w16_.cell? ⟨g12, 0, none⟩ = some (.slice none 0 0) := (blk_cell Bg12.out 0).trans rfl
  have hxg12_1 : w16_.cell? ⟨g12, 1, none⟩ = some (.slice none 0 0) := (blk_cell Bg12.out 1).trans rfl
  have hfg12_0 := blk_frozen Bg12.out 0
  have hfg12_1 := blk_frozen Bg12.out 1
  clear hb
  go_wp2_with (first | ((with_reducible refine gate_store (t := 46) (p := 11) rfl ?_); refine hold ?_))
  unfold Hold
  refine store_event (t := 46) (p := 11) (v := ?vo16) (w1 := ((w16_.setCell ⟨g12, 0, none⟩ (.slice A15_0_ r7_0.length c15_0_)).setCell ⟨g12, 1, none⟩ (.slice A15_1_ r7_1.length c15_1_))) ?hg ?ho ?hn ?hr ?_
  case ho => rfl
  case hg => rfl
  case hn => rfl
  case hr => first | (go_simp; done) | (go_simp; rfl)
  intro w17_ hw
  have hk : Kept w16_ w17_ (fun k => k = g12) := by rw [hw]; exact kept_two _ _
  have hb0 : Below w.heap.size w w17_ := by rw [hw]; exact (below_set (below_set HB.out (Nat.le_trans (by have z1_ := Z1_.out; have z2_ := Z2_.out; have z3_ := Z3_.out; have z4_ := Z4_.out; have z5_ := Z5_.out; have z6_ := Z6_.out; have z7_ := Z7_.out; have z8_ := Z8_.out; have z9_ := Z9_.out; have z10_ := Z10_.out; have z11_ := Z11_.out; have z12_ := Z12_.out; have z13_ := Z13_.out; have z14_ := Z14_.out; have z15_ := Z15_.out; omega) Gg12.out.1)) (Nat.le_trans (by have z1_ := Z1_.out; have z2_ := Z2_.out; have z3_ := Z3_.out; have z4_ := Z4_.out; have z5_ := Z5_.out; have z6_ := Z6_.out; have z7_ := Z7_.out; have z8_ := Z8_.out; have z9_ := Z9_.out; have z10_ := Z10_.out; have z11_ := Z11_.out; have z12_ := Z12_.out; have z13_ := Z13_.out; have z14_ := Z14_.out; have z15_ := Z15_.out; omega) Gg12.out.1))
  have n_ := Aside0.mk (show w17_.heap[g12]? = some (.cells #[.slice A15_0_ r7_0.length c15_0_, .slice A15_1_ r7_1.length c15_1_] 46 (0, 0)) by rw [hw]; exact (blk_put (cs := #[.slice A15_0_ r7_0.length c15_0_, .slice none 0 0]) (cs' := #[.slice A15_0_ r7_0.length c15_0_, .slice A15_1_ r7_1.length c15_1_]) (blk_put (cs := #[.slice none 0 0, .slice none 0 0]) (cs' := #[.slice A15_0_ r7_0.length c15_0_, .slice none 0 0]) Bg12.out 0 _ rfl) 1 _ rfl))
  clear Bg12; have Bg12 := n_; clear n_ hw
  have Z17_ := Aside0.mk (show w16_.heap.size ≤ w17_.heap.size from hk.1)
  have n_ := Aside0.mk (Kd.R_kept O8_0.out hk (fun k_ hk1 hk2 => by obtain ⟨a1_, a2_⟩ := hk1.1; have e_ : k_ = g12 := hk2; obtain ⟨b1_, b2_⟩ := Gg12.out; have z9_ := Z9_.out; have z10_ := Z10_.out; have z11_ := Z11_.out; have z12_ := Z12_.out; have z13_ := Z13_.out; have z14_ := Z14_.out; have z15_ := Z15_.out; omega)); clear O8_0; have O8_0 := n_; clear n_
  have n_ := Aside0.mk (Kd.R_kept O9_0.out hk (fun k_ hk1 hk2 => by obtain ⟨a1_, a2_⟩ := hk1.1; have e_ : k_ = g12 := hk2; obtain ⟨b1_, b2_⟩ := Gg12.out; have z10_ := Z10_.out; have z11_ := Z11_.out; have z12_ := Z12_.out; have z13_ := Z13_.out; have z14_ := Z14_.out; have z15_ := Z15_.out; omega)); clear O9_0; have O9_0 := n_; clear n_
  have n_ := Aside0.mk (Kd.S_kept O9_1.out hk (fun k_ hk1 hk2 => by obtain ⟨a1_, a2_⟩ := hk1.1; have e_ : k_ = g12 := hk2; obtain ⟨b1_, b2_⟩ := Gg12.out; have z10_ := Z10_.out; have z11_ := Z11_.out; have z12_ := Z12_.out; have z13_ := Z13_.out; have z14_ := Z14_.out; have z15_ := Z15_.out; omega)); clear O9_1; have O9_1 := n_; clear n_
  have n_ := Aside0.mk (Kd.R_kept O10_0.out hk (fun k_ hk1 hk2 => by obtain ⟨a1_, a2_⟩ := hk1.1; have e_ : k_ = g12 := hk2; obtain ⟨b1_, b2_⟩ := Gg12.out; have z11_ := Z11_.out; have z12_ := Z12_.out; have z13_ := Z13_.out; have z14_ := Z14_.out; have z15_ := Z15_.out; omega)); clear O10_0; have O10_0 := n_; clear n_
  have n_ := Aside0.mk (Kd.S_kept O10_1.out hk (fun k_ hk1 hk2 => by obtain ⟨a1_, a2_⟩ := hk1.1; have e_ : k_ = g12 := hk2; obtain ⟨b1_, b2_⟩ := Gg12.out; have z11_ := Z11_.out; have z12_ := Z12_.out; have z13_ := Z13_.out; have z14_ := Z14_.out; have z15_ := Z15_.out; omega)); clear O10_1; have O10_1 := n_; clear n_
  have n_ := Aside0.mk (Kd.R_kept O11_0.out hk (fun k_ hk1 hk2 => by obtain ⟨a1_, a2_⟩ := hk1.1; have e_ : k_ = g12 := hk2; obtain ⟨b1_, b2_⟩ := Gg12.out; have z12_ := Z12_.out; have z13_ := Z13_.out; have z14_ := Z14_.out; have z15_ := Z15_.out; omega)); clear O11_0; have O11_0 := n_; clear n_
  have n_ := Aside0.mk (Kd.R_kept O12_0.out hk (fun k_ hk1 hk2 => by obtain ⟨a1_, a2_⟩ := hk1.1; have e_ : k_ = g12 := hk2; obtain ⟨b1_, b2_⟩ := Gg12.out; have z13_ := Z13_.out; have z14_ := Z14_.out; have z15_ := Z15_.out; omega)); clear O12_0; have O12_0 := n_; clear n_
  have n_ := Aside0.mk (Kd.R_kept O15_0.out hk (fun k_ hk1 hk2 => by obtain ⟨a1_, a2_⟩ := hk1.1; have e_ : k_ = g12 := hk2; obtain ⟨b1_, b2_⟩ := Gg12.out; omega)); clear O15_0; have O15_0 := n_; clear n_
  have n_ := Aside0.mk (Kd.S_kept O15_1.out hk (fun k_ hk1 hk2 => by obtain ⟨a1_, a2_⟩ := hk1.1; have e_ : k_ = g12 := hk2; obtain ⟨b1_, b2_⟩ := Gg12.out; omega)); clear O15_1; have O15_1 := n_; clear n_
  have n_ := Aside0.mk (blk_kept Bg1.out hk (fun hk2 => by obtain ⟨a1_, a2_⟩ := Gg1.out; have e_ : g1 = g12 := hk2; obtain ⟨b1_, b2_⟩ := Gg12.out; have z2_ := Z2_.out; have z3_ := Z3_.out; have z4_ := Z4_.out; have z5_ := Z5_.out; have z6_ := Z6_.out; have z7_ := Z7_.out; have z8_ := Z8_.out; have z9_ := Z9_.out; have z10_ := Z10_.out; have z11_ := Z11_.out; have z12_ := Z12_.out; have z13_ := Z13_.out; have z14_ := Z14_.out; have z15_ := Z15_.out; omega)); clear Bg1; have Bg1 := n_; clear n_
  have n_ := Aside0.mk (blk_kept Bg2.out hk (fun hk2 => by obtain ⟨a1_, a2_⟩ := Gg2.out; have e_ : g2 = g12 := hk2; obtain ⟨b1_, b2_⟩ := Gg12.out; have z3_ := Z3_.out; have z4_ := Z4_.out; have z5_ := Z5_.out; have z6_ := Z6_.out; have z7_ := Z7_.out; have z8_ := Z8_.out; have z9_ := Z9_.out; have z10_ := Z10_.out; have z11_ := Z11_.out; have z12_ := Z12_.out; have z13_ := Z13_.out; have z14_ := Z14_.out; have z15_ := Z15_.out; omega)); clear Bg2; have Bg2 := n_; clear n_
  have n_ := Aside0.mk (blk_kept Bg3.out hk (fun hk2 => by obtain ⟨a1_, a2_⟩ := Gg3.out; have e_ : g3 = g12 := hk2; obtain ⟨b1_, b2_⟩ := Gg12.out; have z4_ := Z4_.out; have z5_ := Z5_.out; have z6_ := Z6_.out; have z7_ := Z7_.out; have z8_ := Z8_.out; have z9_ := Z9_.out; have z10_ := Z10_.out; have z11_ := Z11_.out; have z12_ := Z12_.out; have z13_ := Z13_.out; have z14_ := Z14_.out; have z15_ := Z15_.out; omega)); clear Bg3; have Bg3 := n_; clear n_
  have n_ := Aside0.mk (blk_kept Bg11.out hk (fun hk2 => by obtain ⟨a1_, a2_⟩ := Gg11.out; have e_ : g11 = g12 := hk2; obtain ⟨b1_, b2_⟩ := Gg12.out; have z14_ := Z14_.out; have z15_ := Z15_.out; omega)); clear Bg11; have Bg11 := n_; clear n_
  clear HB; have HB := Aside0.mk hb0
  clear hxg1_0
  clear hfg1_0
  clear hxg2_0
  clear hxg2_1
  clear hfg2_0
  clear hfg2_1
  clear hxg3_0
  clear hxg3_1
  clear hfg3_0
  clear hfg3_1
  clear hxg11_0
  clear hfg11_0
  clear hxg12_0
  clear hxg12_1
  clear hfg12_0
  clear hfg12_1
  have hxg1_0 : w17_.cell? ⟨g1, 0, none⟩ = some (.slice A0_0 l0_0.length c0_0) := (blk_cell Bg1.out 0).trans rfl
  have hfg1_0 := blk_frozen Bg1.out 0
  have hxg2_0 : w17_.cell? ⟨g2, 0, none⟩ = some (.slice A1_0 l1_0.length c1_0) := (blk_cell Bg2.out 0).trans rfl
  have hxg2_1 : w17_.cell? ⟨g2, 1, none⟩ = some (.slice A1_1 l1_1.length c1_1) := (blk_cell Bg2.out 1).trans rfl
  have hfg2_0 := blk_frozen Bg2.out 0
  have hfg2_1 := blk_frozen Bg2.out 1
  have hxg3_0 : w17_.cell? ⟨g3, 0, none⟩ = some (.slice A2_0 l2_0.length c2_0) := (blk_cell Bg3.out 0).trans rfl
  have hxg3_1 : w17_.cell? ⟨g3, 1, none⟩ = some (.slice A2_1 l2_1.length c2_1) := (blk_cell Bg3.out 1).trans rfl
  have hfg3_0 := blk_frozen Bg3.out 0
  have hfg3_1 := blk_frozen Bg3.out 1
  have hxg11_0 : w17_.cell? ⟨g11, 0, none⟩ = some (.slice A12_0_ r6_0.length c12_0_) := (blk_cell Bg11.out 0).trans rfl
  have hfg11_0 := blk_frozen Bg11.out 0
  have hxg12_0 : w17_.cell? ⟨g12, 0, none⟩ = some (.slice A15_0_ r7_0.length c15_0_) := (blk_cell Bg12.out 0).trans rfl
  have hxg12_1 : w17_.cell? ⟨g12, 1, none⟩ = some (.slice A15_1_ r7_1.length c15_1_) := (blk_cell Bg12.out 1).trans rfl
  have hfg12_0 := blk_frozen Bg12.out 0
  have hfg12_1 := blk_frozen Bg12.out 1
  clear hk hb0
  go_wp2_with (first | (go_at_call 32; refine hold ?_))
  unfold Hold
  refine (laws_toQuery.calls ke8 _ _ l2_0 _ _ l2_1 r8_0 r8_1 _ (Kd.C_below H2_0.out HB.out) HC2_0.out (Kd.C_below H2_1.out HB.out) HC2_1.out Ee8.out).mono ?_
  rintro e w18_ ⟨v18_0_, v18_1_, rfl, ho0, ho1, hb⟩
  have O18_0 := Aside0.mk (newR ho0 HB.out.size)
  have O18_1 := Aside0.mk (newS ho1 HB.out.size)
  have Z18_ := Aside0.mk (show w17_.heap.size ≤ w18_.heap.size from hb.size)
  have n_ := Aside0.mk (Kd.R_below O8_0.out hb); clear O8_0; have O8_0 := n_; clear n_
  have n_ := Aside0.mk (Kd.R_below O9_0.out hb); clear O9_0; have O9_0 := n_; clear n_
  have n_ := Aside0.mk (Kd.S_below O9_1.out hb); clear O9_1; have O9_1 := n_; clear n_
  have n_ := Aside0.mk (Kd.R_below O10_0.out hb); clear O10_0; have O10_0 := n_; clear n_
  have n_ := Aside0.mk (Kd.S_below O10_1.out hb); clear O10_1; have O10_1 := n_; clear n_
  have n_ := Aside0.mk (Kd.R_below O11_0.out hb); clear O11_0; have O11_0 := n_; clear n_
  have n_ := Aside0.mk (Kd.R_below O12_0.out hb); clear O12_0; have O12_0 := n_; clear n_
  have n_ := Aside0.mk (Kd.R_below O15_0.out hb); clear O15_0; have O15_0 := n_; clear n_
  have n_ := Aside0.mk (Kd.S_below O15_1.out hb); clear O15_1; have O15_1 := n_; clear n_
  have n_ := Aside0.mk (blk_below Bg1.out hb); clear Bg1; have Bg1 := n_; clear n_
  have n_ := Aside0.mk (blk_below Bg2.out hb); clear Bg2; have Bg2 := n_; clear n_
  have n_ := Aside0.mk (blk_below Bg3.out hb); clear Bg3; have Bg3 := n_; clear n_
  have n_ := Aside0.mk (blk_below Bg11.out hb); clear Bg11; have Bg11 := n_; clear n_
  have n_ := Aside0.mk (blk_below Bg12.out hb); clear Bg12; have Bg12 := n_; clear n_
  have n_ := Aside0.mk (below_step HB.out hb); clear HB; have HB := n_; clear n_
  clear hxg1_0
  clear hfg1_0
  clear hxg2_0
  clear hxg2_1
  clear hfg2_0
  clear hfg2_1
  clear hxg3_0
  clear hxg3_1
  clear hfg3_0
  clear hfg3_1
  clear hxg11_0
  clear hfg11_0
  clear hxg12_0
  clear hxg12_1
  clear hfg12_0
  clear hfg12_1
  have hxg1_0 : w18_.cell? ⟨g1, 0, none⟩ = some (.slice A0_0 l0_0.length c0_0) := (blk_cell Bg1.out 0).trans rfl
  have hfg1_0 := blk_frozen Bg1.out 0
  have hxg2_0 : w18_.cell? ⟨g2, 0, none⟩ = some (.slice A1_0 l1_0.length c1_0) := (blk_cell Bg2.out 0).trans rfl
  have hxg2_1 : w18_.cell? ⟨g2, 1, none⟩ = some (.slice A1_1 l1_1.length c1_1) := (blk_cell Bg2.out 1).trans rfl
  have hfg2_0 := blk_frozen Bg2.out 0
  have hfg2_1 := blk_frozen Bg2.out 1
  have hxg3_0 : w18_.cell? ⟨g3, 0, none⟩ = some (.slice A2_0 l2_0.length c2_0) := (blk_cell Bg3.out 0).trans rfl
  have hxg3_1 : w18_.cell? ⟨g3, 1, none⟩ = some (.slice A2_1 l2_1.length c2_1) := (blk_cell Bg3.out 1).trans rfl
  have hfg3_0 := blk_frozen Bg3.out 0
  have hfg3_1 := blk_frozen Bg3.out 1
  have hxg11_0 : w18_.cell? ⟨g11, 0, none⟩ = some (.slice A12_0_ r6_0.length c12_0_) := (blk_cell Bg11.out 0).trans rfl
  have hfg11_0 := blk_frozen Bg11.out 0
  have hxg12_0 : w18_.cell? ⟨g12, 0, none⟩ = some (.slice A15_0_ r7_0.length c15_0_) := (blk_cell Bg12.out 0).trans rfl
  have hxg12_1 : w18_.cell? ⟨g12, 1, none⟩ = some (.slice A15_1_ r7_1.length c15_1_) := (blk_cell Bg12.out 1).trans rfl
  have hfg12_0 := blk_frozen Bg12.out 0
  have hfg12_1 := blk_frozen Bg12.out 1
  clear hb ho0 ho1
  obtain ⟨A18_0_, c18_0_, eq_⟩ := Kd.R_slice O18_0.out
  subst eq_
  obtain ⟨A18_1_, c18_1_, eq_⟩ := Kd.S_slice O18_1.out
  subst eq_
  go_wp2_with (first | ((with_reducible refine gate_dst (N := 12) rfl ?_); refine hold ?_))
  unfold Hold
  refine box_event ?hg (N := 12) ?hd (cs := #[.slice none 0 0, .slice none 0 0]) (t := 46) ?hr ?_
  case hd => rfl
  case hg => rfl
  case hr => first | (go_simp; done) | (go_simp; rfl)
  intro g13 hg w19_ hbox hb
  have Bg13 := Aside0.mk hbox
  have Gg13 := Aside0.mk (show w18_.heap.size ≤ g13 ∧ g13 < w19_.heap.size from ⟨by rw [hg]; exact Nat.le_refl _, blk_lt hbox⟩)
  clear hbox hg
  have Z19_ := Aside0.mk (show w18_.heap.size ≤ w19_.heap.size from hb.size)
  have n_ := Aside0.mk (Kd.R_below O8_0.out hb); clear O8_0; have O8_0 := n_; clear n_
  have n_ := Aside0.mk (Kd.R_below O9_0.out hb); clear O9_0; have O9_0 := n_; clear n_
  have n_ := Aside0.mk (Kd.S_below O9_1.out hb); clear O9_1; have O9_1 := n_; clear n_
  have n_ := Aside0.mk (Kd.R_below O10_0.out hb); clear O10_0; have O10_0 := n_; clear n_
  have n_ := Aside0.mk (Kd.S_below O10_1.out hb); clear O10_1; have O10_1 := n_; clear n_
  have n_ := Aside0.mk (Kd.R_below O11_0.out hb); clear O11_0; have O11_0 := n_; clear n_
  have n_ := Aside0.mk (Kd.R_below O12_0.out hb); clear O12_0; have O12_0 := n_; clear n_
  have n_ := Aside0.mk (Kd.R_below O15_0.out hb); clear O15_0; have O15_0 := n_; clear n_
  have n_ := Aside0.mk (Kd.S_below O15_1.out hb); clear O15_1; have O15_1 := n_; clear n_
  have n_ := Aside0.mk (Kd.R_below O18_0.out hb); clear O18_0; have O18_0 := n_; clear n_
  have n_ := Aside0.mk (Kd.S_below O18_1.out hb); clear O18_1; have O18_1 := n_; clear n_
  have n_ := Aside0.mk (blk_below Bg1.out hb); clear Bg1; have Bg1 := n_; clear n_
  have n_ := Aside0.mk (blk_below Bg2.out hb); clear Bg2; have Bg2 := n_; clear n_
  have n_ := Aside0.mk (blk_below Bg3.out hb); clear Bg3; have Bg3 := n_; clear n_
  have n_ := Aside0.mk (blk_below Bg11.out hb); clear Bg11; have Bg11 := n_; clear n_
  have n_ := Aside0.mk (blk_below Bg12.out hb); clear Bg12; have Bg12 := n_; clear n_
  have n_ := Aside0.mk (below_step HB.out hb); clear HB; have HB := n_; clear n_
  clear hxg1_0
  clear hfg1_0
  clear hxg2_0
  clear hxg2_1
  clear hfg2_0
  clear hfg2_1
  clear hxg3_0
  clear hxg3_1
  clear hfg3_0
  clear hfg3_1
  clear hxg11_0
  clear hfg11_0
  clear hxg12_0
  clear hxg12_1
  clear hfg12_0
  clear hfg12_1
  have hxg1_0 : w19_.cell? ⟨g1, 0, none⟩ = some (.slice A0_0 l0_0.length c0_0) := (blk_cell Bg1.out 0).trans rfl
  have hfg1_0 := blk_frozen Bg1.out 0
  have hxg2_0 : w19_.cell? ⟨g2, 0, none⟩ = some (.slice A1_0 l1_0.length c1_0) := (blk_cell Bg2.out 0).trans rfl
  have hxg2_1 : w19_.cell? ⟨g2, 1, none⟩ = some (.slice A1_1 l1_1.length c1_1) := (blk_cell Bg2.out 1).trans rfl
  have hfg2_0 := blk_frozen Bg2.out 0
  have hfg2_1 := blk_frozen Bg2.out 1
  have hxg3_0 : w19_.cell? ⟨g3, 0, none⟩ = some (.slice A2_0 l2_0.length c2_0) := (blk_cell Bg3.out 0).trans rfl
  have hxg3_1 : w19_.cell? ⟨g3, 1, none⟩ = some (.slice A2_1 l2_1.length c2_1) := (blk_cell Bg3.out 1).trans rfl
  have hfg3_0 := blk_frozen Bg3.out 0
  have hfg3_1 := blk_frozen Bg3.out 1
  have hxg11_0 : w19_.cell? ⟨g11, 0, none⟩ = some (.slice A12_0_ r6_0.length c12_0_) := (blk_cell Bg11.out 0).trans rfl
  have hfg11_0 := blk_frozen Bg11.out 0
  have hxg12_0 : w19_.cell? ⟨g12, 0, none⟩ = some (.slice A15_0_ r7_0.length c15_0_) := (blk_cell Bg12.out 0).trans rfl
  have hxg12_1 : w19_.cell? ⟨g12, 1, none⟩ = some (.slice A15_1_ r7_1.length c15_1_) := (blk_cell Bg12.out 1).trans rfl
  have hfg12_0 := blk_frozen Bg12.out 0
  have hfg12_1 := blk_frozen Bg12.out 1
  have hxg13_0 : w19_.cell? ⟨g13, 0, none⟩ = some (.slice none 0 0) := (blk_cell Bg13.out 0).trans rfl
  have hxg13_1 : w19_.cell? ⟨g13, 1, none⟩ = some (.slice none 0 0) := (blk_cell Bg13.out 1).trans rfl
  have hfg13_0 := blk_frozen Bg13.out 0
  have hfg13_1 := blk_frozen Bg13.out 1
  clear hb
  go_wp2_with (first | ((with_reducible refine gate_store (t := 46) (p := 12) rfl ?_); refine hold ?_))
  unfold Hold
  refine store_event (t := 46) (p := 12) (v := ?vo19) (w1 := ((w19_.setCell ⟨g13, 0, none⟩ (.slice A18_0_ r8_0.length c18_0_)).setCell ⟨g13, 1, none⟩ (.slice A18_1_ r8_1.length c18_1_))) ?hg ?ho ?hn ?hr ?_
  case ho => rfl
  case hg => rfl
  case hn => rfl
  case hr => first | (go_simp; done) | (go_simp; rfl)
  intro w20_ hw
  have hk : Kept w19_ w20_ (fun k => k = g13) := by rw [hw]; exact kept_two _ _
  have hb0 : Below w.heap.size w w20_ := by rw [hw]; exact (below_set (below_set HB.out (Nat.le_trans (by have z1_ := Z1_.out; have z2_ := Z2_.out; have z3_ := Z3_.out; have z4_ := Z4_.out; have z5_ := Z5_.out; have z6_ := Z6_.out; have z7_ := Z7_.out; have z8_ := Z8_.out; have z9_ := Z9_.out; have z10_ := Z10_.out; have z11_ := Z11_.out; have z12_ := Z12_.out; have z13_ := Z13_.out; have z14_ := Z14_.out; have z15_ := Z15_.out; have z16_ := Z16_.out; have z17_ := Z17_.out; have z18_ := Z18_.out; omega) Gg13.out.1)) (Nat.le_trans (by have z1_ := Z1_.out; have z2_ := Z2_.out; have z3_ := Z3_.out; have z4_ := Z4_.out; have z5_ := Z5_.out; have z6_ := Z6_.out; have z7_ := Z7_.out; have z8_ := Z8_.out; have z9_ := Z9_.out; have z10_ := Z10_.out; have z11_ := Z11_.out; have z12_ := Z12_.out; have z13_ := Z13_.out; have z14_ := Z14_.out; have z15_ := Z15_.out; have z16_ := Z16_.out; have z17_ := Z17_.out; have z18_ := Z18_.out; omega) Gg13.out.1))
  have n_ := Aside0.mk (show w20_.heap[g13]? = some (.cells #[.slice A18_0_ r8_0.length c18_0_, .slice A18_1_ r8_1.length c18_1_] 46 (0, 0)) by rw [hw]; exact (blk_put (cs := #[.slice A18_0_ r8_0.length c18_0_, .slice none 0 0]) (cs' := #[.slice A18_0_ r8_0.length c18_0_, .slice A18_1_ r8_1.length c18_1_]) (blk_put (cs := #[.slice none 0 0, .slice none 0 0]) (cs' := #[.slice A18_0_ r8_0.length c18_0_, .slice none 0 0]) Bg13.out 0 _ rfl) 1 _ rfl))
  clear Bg13; have Bg13 := n_; clear n_ hw
  have Z20_ := Aside0.mk (show w19_.heap.size ≤ w20_.heap.size from hk.1)
  have n_ := Aside0.mk (Kd.R_kept O8_0.out hk (fun k_ hk1 hk2 => by obtain ⟨a1_, a2_⟩ := hk1.1; have e_ : k_ = g13 := hk2; obtain ⟨b1_, b2_⟩ := Gg13.out; have z9_ := Z9_.out; have z10_ := Z10_.out; have z11_ := Z11_.out; have z12_ := Z12_.out; have z13_ := Z13_.out; have z14_ := Z14_.out; have z15_ := Z15_.out; have z16_ := Z16_.out; have z17_ := Z17_.out; have z18_ := Z18_.out; omega)); clear O8_0; have O8_0 := n_; clear n_
  have n_ := Aside0.mk (Kd.R_kept O9_0.out hk (fun k_ hk1 hk2 => by obtain ⟨a1_, a2_⟩ := hk1.1; have e_ : k_ = g13 := hk2; obtain ⟨b1_, b2_⟩ := Gg13.out; have z10_ := Z10_.out; have z11_ := Z11_.out; have z12_ := Z12_.out; have z13_ := Z13_.out; have z14_ := Z14_.out; have z15_ := Z15_.out; have z16_ := Z16_.out; have z17_ := Z17_.out; have z18_ := Z18_.out; omega)); clear O9_0; have O9_0 := n_; clear n_
  have n_ := Aside0.mk (Kd.S_kept O9_1.out hk (fun k_ hk1 hk2 => by obtain ⟨a1_, a2_⟩ := hk1.1; have e_ : k_ = g13 := hk2; obtain ⟨b1_, b2_⟩ := Gg13.out; have z10_ := Z10_.out; have z11_ := Z11_.out; have z12_ := Z12_.out; have z13_ := Z13_.out; have z14_ := Z14_.out; have z15_ := Z15_.out; have z16_ := Z16_.out; have z17_ := Z17_.out; have z18_ := Z18_.out; omega)); clear O9_1; have O9_1 := n_; clear n_
  have n_ := Aside0.mk (Kd.R_kept O10_0.out hk (fun k_ hk1 hk2 => by obtain ⟨a1_, a2_⟩ := hk1.1; have e_ : k_ = g13 := hk2; obtain ⟨b1_, b2_⟩ := Gg13.out; have z11_ := Z11_.out; have z12_ := Z12_.out; have z13_ := Z13_.out; have z14_ := Z14_.out; have z15_ := Z15_.out; have z16_ := Z16_.out; have z17_ := Z17_.out; have z18_ := Z18_.out; omega)); clear O10_0; have O10_0 := n_; clear n_
  have n_ := Aside0.mk (Kd.S_kept O10_1.out hk (fun k_ hk1 hk2 => by obtain ⟨a1_, a2_⟩ := hk1.1; have e_ : k_ = g13 := hk2; obtain ⟨b1_, b2_⟩ := Gg13.out; have z11_ := Z11_.out; have z12_ := Z12_.out; have z13_ := Z13_.out; have z14_ := Z14_.out; have z15_ := Z15_.out; have z16_ := Z16_.out; have z17_ := Z17_.out; have z18_ := Z18_.out; omega)); clear O10_1; have O10_1 := n_; clear n_
  have n_ := Aside0.mk (Kd.R_kept O11_0.out hk (fun k_ hk1 hk2 => by obtain ⟨a1_, a2_⟩ := hk1.1; have e_ : k_ = g13 := hk2; obtain ⟨b1_, b2_⟩ := Gg13.out; have z12_ := Z12_.out; have z13_ := Z13_.out; have z14_ := Z14_.out; have z15_ := Z15_.out; have z16_ := Z16_.out; have z17_ := Z17_.out; have z18_ := Z18_.out; omega)); clear O11_0; have O11_0 := n_; clear n_
  have n_ := Aside0.mk (Kd.R_kept O12_0.out hk (fun k_ hk1 hk2 => by obtain ⟨a1_, a2_⟩ := hk1.1; have e_ : k_ = g13 := hk2; obtain ⟨b1_, b2_⟩ := Gg13.out; have z13_ := Z13_.out; have z14_ := Z14_.out; have z15_ := Z15_.out; have z16_ := Z16_.out; have z17_ := Z17_.out; have z18_ := Z18_.out; omega)); clear O12_0; have O12_0 := n_; clear n_
  have n_ := Aside0.mk (Kd.R_kept O15_0.out hk (fun k_ hk1 hk2 => by obtain ⟨a1_, a2_⟩ := hk1.1; have e_ : k_ = g13 := hk2; obtain ⟨b1_, b2_⟩ := Gg13.out; have z16_ := Z16_.out; have z17_ := Z17_.out; have z18_ := Z18_.out; omega)); clear O15_0; have O15_0 := n_; clear n_
  have n_ := Aside0.mk (Kd.S_kept O15_1.out hk (fun k_ hk1 hk2 => by obtain ⟨a1_, a2_⟩ := hk1.1; have e_ : k_ = g13 := hk2; obtain ⟨b1_, b2_⟩ := Gg13.out; have z16_ := Z16_.out; have z17_ := Z17_.out; have z18_ := Z18_.out; omega)); clear O15_1; have O15_1 := n_; clear n_
  have n_ := Aside0.mk (Kd.R_kept O18_0.out hk (fun k_ hk1 hk2 => by obtain ⟨a1_, a2_⟩ := hk1.1; have e_ : k_ = g13 := hk2; obtain ⟨b1_, b2_⟩ := Gg13.out; omega)); clear O18_0; have O18_0 := n_; clear n_
  have n_ := Aside0.mk (Kd.S_kept O18_1.out hk (fun k_ hk1 hk2 => by obtain ⟨a1_, a2_⟩ := hk1.1; have e_ : k_ = g13 := hk2; obtain ⟨b1_, b2_⟩ := Gg13.out; omega)); clear O18_1; have O18_1 := n_; clear n_
  have n_ := Aside0.mk (blk_kept Bg1.out hk (fun hk2 => by obtain ⟨a1_, a2_⟩ := Gg1.out; have e_ : g1 = g13 := hk2; obtain ⟨b1_, b2_⟩ := Gg13.out; have z2_ := Z2_.out; have z3_ := Z3_.out; have z4_ := Z4_.out; have z5_ := Z5_.out; have z6_ := Z6_.out; have z7_ := Z7_.out; have z8_ := Z8_.out; have z9_ := Z9_.out; have z10_ := Z10_.out; have z11_ := Z11_.out; have z12_ := Z12_.out; have z13_ := Z13_.out; have z14_ := Z14_.out; have z15_ := Z15_.out; have z16_ := Z16_.out; have z17_ := Z17_.out; have z18_ := Z18_.out; omega)); clear Bg1; have Bg1 := n_; clear n_
  have n_ := Aside0.mk (blk_kept Bg2.out hk (fun hk2 => by obtain ⟨a1_, a2_⟩ := Gg2.out; have e_ : g2 = g13 := hk2; obtain ⟨b1_, b2_⟩ := Gg13.out; have z3_ := Z3_.out; have z4_ := Z4_.out; have z5_ := Z5_.out; have z6_ := Z6_.out; have z7_ := Z7_.out; have z8_ := Z8_.out; have z9_ := Z9_.out; have z10_ := Z10_.out; have z11_ := Z11_.out; have z12_ := Z12_.out; have z13_ := Z13_.out; have z14_ := Z14_.out; have z15_ := Z15_.out; have z16_ := Z16_.out; have z17_ := Z17_.out; have z18_ := Z18_.out; omega)); clear Bg2; have Bg2 := n_; clear n_
  have n_ := Aside0.mk (blk_kept Bg3.out hk (fun hk2 => by obtain ⟨a1_, a2_⟩ := Gg3.out; have e_ : g3 = g13 := hk2; obtain ⟨b1_, b2_⟩ := Gg13.out; have z4_ := Z4_.out; have z5_ := Z5_.out; have z6_ := Z6_.out; have z7_ := Z7_.out; have z8_ := Z8_.out; have z9_ := Z9_.out; have z10_ := Z10_.out; have z11_ := Z11_.out; have z12_ := Z12_.out; have z13_ := Z13_.out; have z14_ := Z14_.out; have z15_ := Z15_.out; have z16_ := Z16_.out; have z17_ := Z17_.out; have z18_ := Z18_.out; omega)); clear Bg3; have Bg3 := n_; clear n_
  have n_ := Aside0.mk (blk_kept Bg11.out hk (fun hk2 => by obtain ⟨a1_, a2_⟩ := Gg11.out; have e_ : g11 = g13 := hk2; obtain ⟨b1_, b2_⟩ := Gg13.out; have z14_ := Z14_.out; have z15_ := Z15_.out; have z16_ := Z16_.out; have z17_ := Z17_.out; have z18_ := Z18_.out; omega)); clear Bg11; have Bg11 := n_; clear n_
  have n_ := Aside0.mk (blk_kept Bg12.out hk (fun hk2 => by obtain ⟨a1_, a2_⟩ := Gg12.out; have e_ : g12 = g13 := hk2; obtain ⟨b1_, b2_⟩ := Gg13.out; have z17_ := Z17_.out; have z18_ := Z18_.out; omega)); clear Bg12; have Bg12 := n_; clear n_
  clear HB; have HB := Aside0.mk hb0
  clear hxg1_0
  clear hfg1_0
  clear hxg2_0
  clear hxg2_1
  clear hfg2_0
  clear hfg2_1
  clear hxg3_0
  clear hxg3_1
  clear hfg3_0
  clear hfg3_1
  clear hxg11_0
  clear hfg11_0
  clear hxg12_0
  clear hxg12_1
  clear hfg12_0
  clear hfg12_1
  clear hxg13_0
  clear hxg13_1
  clear hfg13_0
  clear hfg13_1
  have hxg1_0 : w20_.cell? ⟨g1, 0, none⟩ = some (.slice A0_0 l0_0.length c0_0) := (blk_cell Bg1.out 0).trans rfl
  have hfg1_0 := blk_frozen Bg1.out 0
  have hxg2_0 : w20_.cell? ⟨g2, 0, none⟩ = some (.slice A1_0 l1_0.length c1_0) := (blk_cell Bg2.out 0).trans rfl
  have hxg2_1 : w20_.cell? ⟨g2, 1, none⟩ = some (.slice A1_1 l1_1.length c1_1) := (blk_cell Bg2.out 1).trans rfl
  have hfg2_0 := blk_frozen Bg2.out 0
  have hfg2_1 := blk_frozen Bg2.out 1
  have hxg3_0 : w20_.cell? ⟨g3, 0, none⟩ = some (.slice A2_0 l2_0.length c2_0) := (blk_cell Bg3.out 0).trans rfl
  have hxg3_1 : w20_.cell? ⟨g3, 1, none⟩ = some (.slice A2_1 l2_1.length c2_1) := (blk_cell Bg3.out 1).trans rfl
  have hfg3_0 := blk_frozen Bg3.out 0
  have hfg3_1 := blk_frozen Bg3.out 1
  have hxg11_0 : w20_.cell? ⟨g11, 0, none⟩ = some (.slice A12_0_ r6_0.length c12_0_) := (blk_cell Bg11.out 0).trans rfl
  have hfg11_0 := blk_frozen Bg11.out 0
  have hxg12_0 : w20_.cell? ⟨g12, 0, none⟩ = some (.slice A15_0_ r7_0.length c15_0_) := (blk_cell Bg12.out 0).trans rfl
  have hxg12_1 : w20_.cell? ⟨g12, 1, none⟩ = some (.slice A15_1_ r7_1.length c15_1_) := (blk_cell Bg12.out 1).trans rfl
  have hfg12_0 := blk_frozen Bg12.out 0
  have hfg12_1 := blk_frozen Bg12.out 1
  have hxg13_0 : w20_.cell? ⟨g13, 0, none⟩ = some (.slice A18_0_ r8_0.length c18_0_) := (blk_cell Bg13.out 0).trans rfl
  have hxg13_1 : w20_.cell? ⟨g13, 1, none⟩ = some (.slice A18_1_ r8_1.length c18_1_) := (blk_cell Bg13.out 1).trans rfl
  have hfg13_0 := blk_frozen Bg13.out 0
  have hfg13_1 := blk_frozen Bg13.out 1
  clear hk hb0
  go_wp2_with (first | (go_at_call 57; refine hold ?_))
  unfold Hold
  refine (impl_FindMapping_calls _ _ r6_0 _ _ r7_0 _ _ r7_1 _ _ r8_0 _ _ r8_1 r9_0 r9_1 _ (Kd.R_reads' O12_0.out).2.2 (Kd.R_reads' O12_0.out).2.1 (Kd.R_reads' O15_0.out).2.2 (Kd.R_reads' O15_0.out).2.1 (Kd.S_reads' O15_1.out).2.2 (Kd.S_reads' O15_1.out).2.1 (Kd.R_reads' O18_0.out).2.2 (Kd.R_reads' O18_0.out).2.1 (Kd.S_reads' O18_1.out).2.2 (Kd.S_reads' O18_1.out).2.1 e10_hz0.out Ee10.out).mono ?_
  rintro e w21_ ⟨v21_0_, rfl, ho0, hb⟩
  have O21_0 := Aside0.mk (newR ho0 HB.out.size)
  have Z21_ := Aside0.mk (show w20_.heap.size ≤ w21_.heap.size from hb.size)
  have n_ := Aside0.mk (Kd.R_below O8_0.out hb); clear O8_0; have O8_0 := n_; clear n_
  have n_ := Aside0.mk (Kd.R_below O9_0.out hb); clear O9_0; have O9_0 := n_; clear n_
  have n_ := Aside0.mk (Kd.S_below O9_1.out hb); clear O9_1; have O9_1 := n_; clear n_
  have n_ := Aside0.mk (Kd.R_below O10_0.out hb); clear O10_0; have O10_0 := n_; clear n_
  have n_ := Aside0.mk (Kd.S_below O10_1.out hb); clear O10_1; have O10_1 := n_; clear n_
  have n_ := Aside0.mk (Kd.R_below O11_0.out hb); clear O11_0; have O11_0 := n_; clear n_
  have n_ := Aside0.mk (Kd.R_below O12_0.out hb); clear O12_0; have O12_0 := n_; clear n_
  have n_ := Aside0.mk (Kd.R_below O15_0.out hb); clear O15_0; have O15_0 := n_; clear n_
  have n_ := Aside0.mk (Kd.S_below O15_1.out hb); clear O15_1; have O15_1 := n_; clear n_
  have n_ := Aside0.mk (Kd.R_below O18_0.out hb); clear O18_0; have O18_0 := n_; clear n_
  have n_ := Aside0.mk (Kd.S_below O18_1.out hb); clear O18_1; have O18_1 := n_; clear n_
  have n_ := Aside0.mk (blk_below Bg1.out hb); clear Bg1; have Bg1 := n_; clear n_
  have n_ := Aside0.mk (blk_below Bg2.out hb); clear Bg2; have Bg2 := n_; clear n_
  have n_ := Aside0.mk (blk_below Bg3.out hb); clear Bg3; have Bg3 := n_; clear n_
  have n_ := Aside0.mk (blk_below Bg11.out hb); clear Bg11; have Bg11 := n_; clear n_
  have n_ := Aside0.mk (blk_below Bg12.out hb); clear Bg12; have Bg12 := n_; clear n_
  have n_ := Aside0.mk (blk_below Bg13.out hb); clear Bg13; have Bg13 := n_; clear n_
  have n_ := Aside0.mk (below_step HB.out hb); clear HB; have HB := n_; clear n_
  clear hxg1_0
  clear hfg1_0
  clear hxg2_0
  clear hxg2_1
  clear hfg2_0
  clear hfg2_1
  clear hxg3_0
  clear hxg3_1
  clear hfg3_0
  clear hfg3_1
  clear hxg11_0
  clear hfg11_0
  clear hxg12_0
  clear hxg12_1
  clear hfg12_0
  clear hfg12_1
  clear hxg13_0
  clear hxg13_1
  clear hfg13_0
  clear hfg13_1
  have hxg1_0 : w21_.cell? ⟨g1, 0, none⟩ = some (.slice A0_0 l0_0.length c0_0) := (blk_cell Bg1.out 0).trans rfl
  have hfg1_0 := blk_frozen Bg1.out 0
  have hxg2_0 : w21_.cell? ⟨g2, 0, none⟩ = some (.slice A1_0 l1_0.length c1_0) := (blk_cell Bg2.out 0).trans rfl
  have hxg2_1 : w21_.cell? ⟨g2, 1, none⟩ = some (.slice A1_1 l1_1.length c1_1) := (blk_cell Bg2.out 1).trans rfl
  have hfg2_0 := blk_frozen Bg2.out 0
  have hfg2_1 := blk_frozen Bg2.out 1
  have hxg3_0 : w21_.cell? ⟨g3, 0, none⟩ = some (.slice A2_0 l2_0.length c2_0) := (blk_cell Bg3.out 0).trans rfl
  have hxg3_1 : w21_.cell? ⟨g3, 1, none⟩ = some (.slice A2_1 l2_1.length c2_1) := (blk_cell Bg3.out 1).trans rfl
  have hfg3_0 := blk_frozen Bg3.out 0
  have hfg3_1 := blk_frozen Bg3.out 1
  have hxg11_0 : w21_.cell? ⟨g11, 0, none⟩ = some (.slice A12_0_ r6_0.length c12_0_) := (blk_cell Bg11.out 0).trans rfl
  have hfg11_0 := blk_frozen Bg11.out 0
  have hxg12_0 : w21_.cell? ⟨g12, 0, none⟩ = some (.slice A15_0_ r7_0.length c15_0_) := (blk_cell Bg12.out 0).trans rfl
  have hxg12_1 : w21_.cell? ⟨g12, 1, none⟩ = some (.slice A15_1_ r7_1.length c15_1_) := (blk_cell Bg12.out 1).trans rfl
  have hfg12_0 := blk_frozen Bg12.out 0
  have hfg12_1 := blk_frozen Bg12.out 1
  have hxg13_0 : w21_.cell? ⟨g13, 0, none⟩ = some (.slice A18_0_ r8_0.length c18_0_) := (blk_cell Bg13.out 0).trans rfl
  have hxg13_1 : w21_.cell? ⟨g13, 1, none⟩ = some (.slice A18_1_ r8_1.length c18_1_) := (blk_cell Bg13.out 1).trans rfl
  have hfg13_0 := blk_frozen Bg13.out 0
  have hfg13_1 := blk_frozen Bg13.out 1
  clear hb ho0
  obtain ⟨A21_0_, c21_0_, eq_⟩ := Kd.R_slice O21_0.out
  subst eq_
  go_wp2_with (first | (go_at_call 43; refine hold ?_))
  unfold Hold
  refine (laws_eqIntS.calls ke11 _ _ r9_0 _ _ r9_0 true _ (Kd.R_reads' O21_0.out).2.2 (Kd.R_reads' O21_0.out).2.1 (Kd.R_reads' O11_0.out).2.2 (Kd.R_reads' O11_0.out).2.1 Ee11.out).mono ?_
  rintro e w22_ ⟨rfl, hd⟩
  have hb := hd.below; clear hd
  have Z22_ := Aside0.mk (show w21_.heap.size ≤ w22_.heap.size from hb.size)
  have n_ := Aside0.mk (Kd.R_below O8_0.out hb); clear O8_0; have O8_0 := n_; clear n_
  have n_ := Aside0.mk (Kd.R_below O9_0.out hb); clear O9_0; have O9_0 := n_; clear n_
  have n_ := Aside0.mk (Kd.S_below O9_1.out hb); clear O9_1; have O9_1 := n_; clear n_
  have n_ := Aside0.mk (Kd.R_below O10_0.out hb); clear O10_0; have O10_0 := n_; clear n_
  have n_ := Aside0.mk (Kd.S_below O10_1.out hb); clear O10_1; have O10_1 := n_; clear n_
  have n_ := Aside0.mk (Kd.R_below O11_0.out hb); clear O11_0; have O11_0 := n_; clear n_
  have n_ := Aside0.mk (Kd.R_below O12_0.out hb); clear O12_0; have O12_0 := n_; clear n_
  have n_ := Aside0.mk (Kd.R_below O15_0.out hb); clear O15_0; have O15_0 := n_; clear n_
  have n_ := Aside0.mk (Kd.S_below O15_1.out hb); clear O15_1; have O15_1 := n_; clear n_
  have n_ := Aside0.mk (Kd.R_below O18_0.out hb); clear O18_0; have O18_0 := n_; clear n_
  have n_ := Aside0.mk (Kd.S_below O18_1.out hb); clear O18_1; have O18_1 := n_; clear n_
  have n_ := Aside0.mk (Kd.R_below O21_0.out hb); clear O21_0; have O21_0 := n_; clear n_
  have n_ := Aside0.mk (blk_below Bg1.out hb); clear Bg1; have Bg1 := n_; clear n_
  have n_ := Aside0.mk (blk_below Bg2.out hb); clear Bg2; have Bg2 := n_; clear n_
  have n_ := Aside0.mk (blk_below Bg3.out hb); clear Bg3; have Bg3 := n_; clear n_
  have n_ := Aside0.mk (blk_below Bg11.out hb); clear Bg11; have Bg11 := n_; clear n_
  have n_ := Aside0.mk (blk_below Bg12.out hb); clear Bg12; have Bg12 := n_; clear n_
  have n_ := Aside0.mk (blk_below Bg13.out hb); clear Bg13; have Bg13 := n_; clear n_
  have n_ := Aside0.mk (below_step HB.out hb); clear HB; have HB := n_; clear n_
  clear hxg1_0
  clear hfg1_0
  clear hxg2_0
  clear hxg2_1
  clear hfg2_0
  clear hfg2_1
  clear hxg3_0
  clear hxg3_1
  clear hfg3_0
  clear hfg3_1
  clear hxg11_0
  clear hfg11_0
  clear hxg12_0
  clear hxg12_1
  clear hfg12_0
  clear hfg12_1
  clear hxg13_0
  clear hxg13_1
  clear hfg13_0
  clear hfg13_1
  have hxg1_0 : w22_.cell? ⟨g1, 0, none⟩ = some (.slice A0_0 l0_0.length c0_0) := (blk_cell Bg1.out 0).trans rfl
  have hfg1_0 := blk_frozen Bg1.out 0
  have hxg2_0 : w22_.cell? ⟨g2, 0, none⟩ = some (.slice A1_0 l1_0.length c1_0) := (blk_cell Bg2.out 0).trans rfl
  have hxg2_1 : w22_.cell? ⟨g2, 1, none⟩ = some (.slice A1_1 l1_1.length c1_1) := (blk_cell Bg2.out 1).trans rfl
  have hfg2_0 := blk_frozen Bg2.out 0
  have hfg2_1 := blk_frozen Bg2.out 1
  have hxg3_0 : w22_.cell? ⟨g3, 0, none⟩ = some (.slice A2_0 l2_0.length c2_0) := (blk_cell Bg3.out 0).trans rfl
  have hxg3_1 : w22_.cell? ⟨g3, 1, none⟩ = some (.slice A2_1 l2_1.length c2_1) := (blk_cell Bg3.out 1).trans rfl
  have hfg3_0 := blk_frozen Bg3.out 0
  have hfg3_1 := blk_frozen Bg3.out 1
  have hxg11_0 : w22_.cell? ⟨g11, 0, none⟩ = some (.slice A12_0_ r6_0.length c12_0_) := (blk_cell Bg11.out 0).trans rfl
  have hfg11_0 := blk_frozen Bg11.out 0
  have hxg12_0 : w22_.cell? ⟨g12, 0, none⟩ = some (.slice A15_0_ r7_0.length c15_0_) := (blk_cell Bg12.out 0).trans rfl
  have hxg12_1 : w22_.cell? ⟨g12, 1, none⟩ = some (.slice A15_1_ r7_1.length c15_1_) := (blk_cell Bg12.out 1).trans rfl
  have hfg12_0 := blk_frozen Bg12.out 0
  have hfg12_1 := blk_frozen Bg12.out 1
  have hxg13_0 : w22_.cell? ⟨g13, 0, none⟩ = some (.slice A18_0_ r8_0.length c18_0_) := (blk_cell Bg13.out 0).trans rfl
  have hxg13_1 : w22_.cell? ⟨g13, 1, none⟩ = some (.slice A18_1_ r8_1.length c18_1_) := (blk_cell Bg13.out 1).trans rfl
  have hfg13_0 := blk_frozen Bg13.out 0
  have hfg13_1 := blk_frozen Bg13.out 1
  clear hb
  try go_wp2_with fail
  have n_ := Aside0.mk (Kd.R_drew O8_0.out); clear O8_0; have O8_0 := n_; clear n_
  have n_ := Aside0.mk (Kd.R_drew O9_0.out); clear O9_0; have O9_0 := n_; clear n_
  have n_ := Aside0.mk (Kd.S_drew O9_1.out); clear O9_1; have O9_1 := n_; clear n_
  have n_ := Aside0.mk (Kd.R_drew O10_0.out); clear O10_0; have O10_0 := n_; clear n_
  have n_ := Aside0.mk (Kd.S_drew O10_1.out); clear O10_1; have O10_1 := n_; clear n_
  have n_ := Aside0.mk (Kd.R_drew O11_0.out); clear O11_0; have O11_0 := n_; clear n_
  have n_ := Aside0.mk (Kd.R_drew O12_0.out); clear O12_0; have O12_0 := n_; clear n_
  have n_ := Aside0.mk (Kd.R_drew O15_0.out); clear O15_0; have O15_0 := n_; clear n_
  have n_ := Aside0.mk (Kd.S_drew O15_1.out); clear O15_1; have O15_1 := n_; clear n_
  have n_ := Aside0.mk (Kd.R_drew O18_0.out); clear O18_0; have O18_0 := n_; clear n_
  have n_ := Aside0.mk (Kd.S_drew O18_1.out); clear O18_1; have O18_1 := n_; clear n_
  have n_ := Aside0.mk (Kd.R_drew O21_0.out); clear O21_0; have O21_0 := n_; clear n_
  have n_ := Aside0.mk (blk_drew Bg1.out); clear Bg1; have Bg1 := n_; clear n_
  have n_ := Aside0.mk (blk_drew Bg2.out); clear Bg2; have Bg2 := n_; clear n_
  have n_ := Aside0.mk (blk_drew Bg3.out); clear Bg3; have Bg3 := n_; clear n_
  have n_ := Aside0.mk (blk_drew Bg11.out); clear Bg11; have Bg11 := n_; clear n_
  have n_ := Aside0.mk (blk_drew Bg12.out); clear Bg12; have Bg12 := n_; clear n_
  have n_ := Aside0.mk (blk_drew Bg13.out); clear Bg13; have Bg13 := n_; clear n_
  have n_ := Aside0.mk (below_drew1 HB.out); clear HB; have HB := n_; clear n_
  clear hxg1_0
  clear hfg1_0
  clear hxg2_0
  clear hxg2_1
  clear hfg2_0
  clear hfg2_1
  clear hxg3_0
  clear hxg3_1
  clear hfg3_0
  clear hfg3_1
  clear hxg11_0
  clear hfg11_0
  clear hxg12_0
  clear hxg12_1
  clear hfg12_0
  clear hfg12_1
  clear hxg13_0
  clear hxg13_1
  clear hfg13_0
  clear hfg13_1
  have hz := Aside0.mk (show w22_.heap.size ≤ w22_.drew.heap.size from Nat.le_refl _)
  refine start_ (n := 5) (S := fun w' => w'.cell? ⟨g11, 0, none⟩ = some (.slice A12_0_ r6_0.length c12_0_) ∧ w'.cell? ⟨g1, 0, none⟩ = some (.slice A0_0 l0_0.length c0_0)) (ds := []) #[false,false,false,false,false] (by kernel_rfl) rfl rfl ⟨(blk_cell Bg11.out 0).trans rfl, (blk_cell Bg1.out 0).trans rfl⟩ (fun hHeld => ?_)
  generalize w22_.drew = w23_ at O8_0 O9_0 O9_1 O10_0 O10_1 O11_0 O12_0 O15_0 O15_1 O18_0 O18_1 O21_0 Bg1 Bg2 Bg3 Bg11 Bg12 Bg13 HB hz hHeld ⊢
  have Z23_ := hz; clear hz
  refine take_ (i := 0) (N := some 67) (v := ?_) (a' := ?_) #[true,false,false,false,false] rfl rfl (by kernel_rfl) (fun _ _ _ h => h) (Or.inl ⟨by rfl, ?_⟩) hHeld ?_ ?_
  rotate_left
  · rintro w' ⟨s0, s1⟩; go_simp; with_reducible rfl
  rotate_left
  · simp only [Act.put, List.setIfInBounds_toArray, List.set_cons_zero, List.set_cons_succ, i64_w, i32_w]; rfl
  refine take_ (i := 1) (N := some 68) (v := ?_) (a' := ?_) #[true,true,false,false,false] rfl rfl (by kernel_rfl) (fun _ _ _ h => h) (Or.inl ⟨by rfl, ?_⟩) hHeld ?_ ?_
  rotate_left
  · rintro w' ⟨s0, s1⟩; go_simp; with_reducible rfl
  rotate_left
  · simp only [Act.put, List.setIfInBounds_toArray, List.set_cons_zero, List.set_cons_succ, i64_w, i32_w]; rfl
  refine one_ (i := 2) (N := some 69) #[true,true,true,false,false] rfl rfl (by kernel_rfl) (by decide) (fun K hK => ?_)
  refine goes_ Try.func49 (by kernel_rfl) rfl #[.agg #[.slice A0_0 l0_0.length c0_0]] (by rfl) rfl rfl (by (try simp only [List.map_toArray, List.map_cons, List.map_nil]); first | done | rfl) ?_
  with_reducible refine (laws_toSchema.calls ke6 _ _ l0_0 r6_0 _ (Kd.C_below H0_0.out HB.out) HC0_0.out Ee6.out).mono ?_
  rintro e w24_ ⟨v24_0_, rfl, ho0, hb⟩
  refine ⟨_, rfl, ?_⟩
  have O24_0 := Aside0.mk (newR ho0 HB.out.size)
  have Z24_ := Aside0.mk (show w23_.heap.size ≤ w24_.heap.size from hb.size)
  have n_ := Aside0.mk (Kd.R_below O8_0.out hb); clear O8_0; have O8_0 := n_; clear n_
  have n_ := Aside0.mk (Kd.R_below O9_0.out hb); clear O9_0; have O9_0 := n_; clear n_
  have n_ := Aside0.mk (Kd.S_below O9_1.out hb); clear O9_1; have O9_1 := n_; clear n_
  have n_ := Aside0.mk (Kd.R_below O10_0.out hb); clear O10_0; have O10_0 := n_; clear n_
  have n_ := Aside0.mk (Kd.S_below O10_1.out hb); clear O10_1; have O10_1 := n_; clear n_
  have n_ := Aside0.mk (Kd.R_below O11_0.out hb); clear O11_0; have O11_0 := n_; clear n_
  have n_ := Aside0.mk (Kd.R_below O12_0.out hb); clear O12_0; have O12_0 := n_; clear n_
  have n_ := Aside0.mk (Kd.R_below O15_0.out hb); clear O15_0; have O15_0 := n_; clear n_
  have n_ := Aside0.mk (Kd.S_below O15_1.out hb); clear O15_1; have O15_1 := n_; clear n_
  have n_ := Aside0.mk (Kd.R_below O18_0.out hb); clear O18_0; have O18_0 := n_; clear n_
  have n_ := Aside0.mk (Kd.S_below O18_1.out hb); clear O18_1; have O18_1 := n_; clear n_
  have n_ := Aside0.mk (Kd.R_below O21_0.out hb); clear O21_0; have O21_0 := n_; clear n_
  have n_ := Aside0.mk (blk_below Bg1.out hb); clear Bg1; have Bg1 := n_; clear n_
  have n_ := Aside0.mk (blk_below Bg2.out hb); clear Bg2; have Bg2 := n_; clear n_
  have n_ := Aside0.mk (blk_below Bg3.out hb); clear Bg3; have Bg3 := n_; clear n_
  have n_ := Aside0.mk (blk_below Bg11.out hb); clear Bg11; have Bg11 := n_; clear n_
  have n_ := Aside0.mk (blk_below Bg12.out hb); clear Bg12; have Bg12 := n_; clear n_
  have n_ := Aside0.mk (blk_below Bg13.out hb); clear Bg13; have Bg13 := n_; clear n_
  have n_ := Aside0.mk (below_step HB.out hb); clear HB; have HB := n_; clear n_
  have hxg1_0 : w24_.cell? ⟨g1, 0, none⟩ = some (.slice A0_0 l0_0.length c0_0) := (blk_cell Bg1.out 0).trans rfl
  have hfg1_0 := blk_frozen Bg1.out 0
  have hxg2_0 : w24_.cell? ⟨g2, 0, none⟩ = some (.slice A1_0 l1_0.length c1_0) := (blk_cell Bg2.out 0).trans rfl
  have hxg2_1 : w24_.cell? ⟨g2, 1, none⟩ = some (.slice A1_1 l1_1.length c1_1) := (blk_cell Bg2.out 1).trans rfl
  have hfg2_0 := blk_frozen Bg2.out 0
  have hfg2_1 := blk_frozen Bg2.out 1
  have hxg3_0 : w24_.cell? ⟨g3, 0, none⟩ = some (.slice A2_0 l2_0.length c2_0) := (blk_cell Bg3.out 0).trans rfl
  have hxg3_1 : w24_.cell? ⟨g3, 1, none⟩ = some (.slice A2_1 l2_1.length c2_1) := (blk_cell Bg3.out 1).trans rfl
  have hfg3_0 := blk_frozen Bg3.out 0
  have hfg3_1 := blk_frozen Bg3.out 1
  have hxg11_0 : w24_.cell? ⟨g11, 0, none⟩ = some (.slice A12_0_ r6_0.length c12_0_) := (blk_cell Bg11.out 0).trans rfl
  have hfg11_0 := blk_frozen Bg11.out 0
  have hxg12_0 : w24_.cell? ⟨g12, 0, none⟩ = some (.slice A15_0_ r7_0.length c15_0_) := (blk_cell Bg12.out 0).trans rfl
  have hxg12_1 : w24_.cell? ⟨g12, 1, none⟩ = some (.slice A15_1_ r7_1.length c15_1_) := (blk_cell Bg12.out 1).trans rfl
  have hfg12_0 := blk_frozen Bg12.out 0
  have hfg12_1 := blk_frozen Bg12.out 1
  have hxg13_0 : w24_.cell? ⟨g13, 0, none⟩ = some (.slice A18_0_ r8_0.length c18_0_) := (blk_cell Bg13.out 0).trans rfl
  have hxg13_1 : w24_.cell? ⟨g13, 1, none⟩ = some (.slice A18_1_ r8_1.length c18_1_) := (blk_cell Bg13.out 1).trans rfl
  have hfg13_0 := blk_frozen Bg13.out 0
  have hfg13_1 := blk_frozen Bg13.out 1
  clear hb ho0
  obtain ⟨A24_0_, c24_0_, eq_⟩ := Kd.R_slice O24_0.out
  subst eq_
  clear hxg1_0
  clear hfg1_0
  clear hxg2_0
  clear hxg2_1
  clear hfg2_0
  clear hfg2_1
  clear hxg3_0
  clear hxg3_1
  clear hfg3_0
  clear hfg3_1
  clear hxg11_0
  clear hfg11_0
  clear hxg12_0
  clear hxg12_1
  clear hfg12_0
  clear hfg12_1
  clear hxg13_0
  clear hxg13_1
  clear hfg13_0
  clear hfg13_1
  refine hK.out _ _ ⟨(blk_cell Bg11.out 0).trans rfl, (blk_cell Bg1.out 0).trans rfl⟩ (fun hHeld => ?_)
  clear hK K
  refine norm_ (a' := ?_) ?_ ?_
  rotate_left
  · show Act.put _ (some 69) _ = _; simp only [Act.put, List.setIfInBounds_toArray, List.set_cons_zero, List.set_cons_succ, i64_w, i32_w]; rfl
  refine one_ (i := 3) (N := some 70) #[true,true,true,true,false] rfl rfl (by kernel_rfl) (by decide) (fun K hK => ?_)
  refine goes_ Try.func51 (by kernel_rfl) rfl #[.agg #[.slice A12_0_ r6_0.length c12_0_], .agg #[.slice A24_0_ r6_0.length c24_0_]] (by rfl) rfl rfl (by (try simp only [List.map_toArray, List.map_cons, List.map_nil]); first | done | rfl) ?_
  with_reducible refine (laws_eqSchema.calls ke12 _ _ r6_0 _ _ r6_0 true _ (Kd.R_reads' O12_0.out).2.2 (Kd.R_reads' O12_0.out).2.1 (Kd.R_reads' O24_0.out).2.2 (Kd.R_reads' O24_0.out).2.1 Ee12.out).mono ?_
  rintro e w25_ ⟨rfl, hb⟩
  refine ⟨_, rfl, ?_⟩
  have Z25_ := Aside0.mk (show w24_.heap.size ≤ w25_.heap.size from hb.size)
  have n_ := Aside0.mk (Kd.R_below O8_0.out hb); clear O8_0; have O8_0 := n_; clear n_
  have n_ := Aside0.mk (Kd.R_below O9_0.out hb); clear O9_0; have O9_0 := n_; clear n_
  have n_ := Aside0.mk (Kd.S_below O9_1.out hb); clear O9_1; have O9_1 := n_; clear n_
  have n_ := Aside0.mk (Kd.R_below O10_0.out hb); clear O10_0; have O10_0 := n_; clear n_
  have n_ := Aside0.mk (Kd.S_below O10_1.out hb); clear O10_1; have O10_1 := n_; clear n_
  have n_ := Aside0.mk (Kd.R_below O11_0.out hb); clear O11_0; have O11_0 := n_; clear n_
  have n_ := Aside0.mk (Kd.R_below O12_0.out hb); clear O12_0; have O12_0 := n_; clear n_
  have n_ := Aside0.mk (Kd.R_below O15_0.out hb); clear O15_0; have O15_0 := n_; clear n_
  have n_ := Aside0.mk (Kd.S_below O15_1.out hb); clear O15_1; have O15_1 := n_; clear n_
  have n_ := Aside0.mk (Kd.R_below O18_0.out hb); clear O18_0; have O18_0 := n_; clear n_
  have n_ := Aside0.mk (Kd.S_below O18_1.out hb); clear O18_1; have O18_1 := n_; clear n_
  have n_ := Aside0.mk (Kd.R_below O21_0.out hb); clear O21_0; have O21_0 := n_; clear n_
  have n_ := Aside0.mk (Kd.R_below O24_0.out hb); clear O24_0; have O24_0 := n_; clear n_
  have n_ := Aside0.mk (blk_below Bg1.out hb); clear Bg1; have Bg1 := n_; clear n_
  have n_ := Aside0.mk (blk_below Bg2.out hb); clear Bg2; have Bg2 := n_; clear n_
  have n_ := Aside0.mk (blk_below Bg3.out hb); clear Bg3; have Bg3 := n_; clear n_
  have n_ := Aside0.mk (blk_below Bg11.out hb); clear Bg11; have Bg11 := n_; clear n_
  have n_ := Aside0.mk (blk_below Bg12.out hb); clear Bg12; have Bg12 := n_; clear n_
  have n_ := Aside0.mk (blk_below Bg13.out hb); clear Bg13; have Bg13 := n_; clear n_
  have n_ := Aside0.mk (below_step HB.out hb); clear HB; have HB := n_; clear n_
  have hxg1_0 : w25_.cell? ⟨g1, 0, none⟩ = some (.slice A0_0 l0_0.length c0_0) := (blk_cell Bg1.out 0).trans rfl
  have hfg1_0 := blk_frozen Bg1.out 0
  have hxg2_0 : w25_.cell? ⟨g2, 0, none⟩ = some (.slice A1_0 l1_0.length c1_0) := (blk_cell Bg2.out 0).trans rfl
  have hxg2_1 : w25_.cell? ⟨g2, 1, none⟩ = some (.slice A1_1 l1_1.length c1_1) := (blk_cell Bg2.out 1).trans rfl
  have hfg2_0 := blk_frozen Bg2.out 0
  have hfg2_1 := blk_frozen Bg2.out 1
  have hxg3_0 : w25_.cell? ⟨g3, 0, none⟩ = some (.slice A2_0 l2_0.length c2_0) := (blk_cell Bg3.out 0).trans rfl
  have hxg3_1 : w25_.cell? ⟨g3, 1, none⟩ = some (.slice A2_1 l2_1.length c2_1) := (blk_cell Bg3.out 1).trans rfl
  have hfg3_0 := blk_frozen Bg3.out 0
  have hfg3_1 := blk_frozen Bg3.out 1
  have hxg11_0 : w25_.cell? ⟨g11, 0, none⟩ = some (.slice A12_0_ r6_0.length c12_0_) := (blk_cell Bg11.out 0).trans rfl
  have hfg11_0 := blk_frozen Bg11.out 0
  have hxg12_0 : w25_.cell? ⟨g12, 0, none⟩ = some (.slice A15_0_ r7_0.length c15_0_) := (blk_cell Bg12.out 0).trans rfl
  have hxg12_1 : w25_.cell? ⟨g12, 1, none⟩ = some (.slice A15_1_ r7_1.length c15_1_) := (blk_cell Bg12.out 1).trans rfl
  have hfg12_0 := blk_frozen Bg12.out 0
  have hfg12_1 := blk_frozen Bg12.out 1
  have hxg13_0 : w25_.cell? ⟨g13, 0, none⟩ = some (.slice A18_0_ r8_0.length c18_0_) := (blk_cell Bg13.out 0).trans rfl
  have hxg13_1 : w25_.cell? ⟨g13, 1, none⟩ = some (.slice A18_1_ r8_1.length c18_1_) := (blk_cell Bg13.out 1).trans rfl
  have hfg13_0 := blk_frozen Bg13.out 0
  have hfg13_1 := blk_frozen Bg13.out 1
  clear hb
  clear hxg1_0
  clear hfg1_0
  clear hxg2_0
  clear hxg2_1
  clear hfg2_0
  clear hfg2_1
  clear hxg3_0
  clear hxg3_1
  clear hfg3_0
  clear hfg3_1
  clear hxg11_0
  clear hfg11_0
  clear hxg12_0
  clear hxg12_1
  clear hfg12_0
  clear hfg12_1
  clear hxg13_0
  clear hxg13_1
  clear hfg13_0
  clear hfg13_1
  refine hK.out _ _ ⟨(blk_cell Bg11.out 0).trans rfl, (blk_cell Bg1.out 0).trans rfl⟩ (fun hHeld => ?_)
  clear hK K
  refine norm_ (a' := ?_) ?_ ?_
  rotate_left
  · show Act.put _ (some 70) _ = _; simp only [Act.put, List.setIfInBounds_toArray, List.set_cons_zero, List.set_cons_succ, i64_w, i32_w]; rfl
  refine pure_ (i := 4) (N := some 71) (v := ?_) (a' := ?_) #[true,true,true,true,true] rfl rfl (by kernel_rfl) (fun _ _ _ h => h) (Or.inl ⟨by rfl, ?_⟩) ?_ ?_
  rotate_left
  · intro w'; go_simp; with_reducible rfl
  rotate_left
  · simp only [Act.put, List.setIfInBounds_toArray, List.set_cons_zero, List.set_cons_succ, i64_w, i32_w]; rfl
  refine done_ (by kernel_rfl) ?_
  have hxg1_0 : w25_.cell? ⟨g1, 0, none⟩ = some (.slice A0_0 l0_0.length c0_0) := (blk_cell Bg1.out 0).trans rfl
  have hfg1_0 := blk_frozen Bg1.out 0
  have hxg2_0 : w25_.cell? ⟨g2, 0, none⟩ = some (.slice A1_0 l1_0.length c1_0) := (blk_cell Bg2.out 0).trans rfl
  have hxg2_1 : w25_.cell? ⟨g2, 1, none⟩ = some (.slice A1_1 l1_1.length c1_1) := (blk_cell Bg2.out 1).trans rfl
  have hfg2_0 := blk_frozen Bg2.out 0
  have hfg2_1 := blk_frozen Bg2.out 1
  have hxg3_0 : w25_.cell? ⟨g3, 0, none⟩ = some (.slice A2_0 l2_0.length c2_0) := (blk_cell Bg3.out 0).trans rfl
  have hxg3_1 : w25_.cell? ⟨g3, 1, none⟩ = some (.slice A2_1 l2_1.length c2_1) := (blk_cell Bg3.out 1).trans rfl
  have hfg3_0 := blk_frozen Bg3.out 0
  have hfg3_1 := blk_frozen Bg3.out 1
  have hxg11_0 : w25_.cell? ⟨g11, 0, none⟩ = some (.slice A12_0_ r6_0.length c12_0_) := (blk_cell Bg11.out 0).trans rfl
  have hfg11_0 := blk_frozen Bg11.out 0
  have hxg12_0 : w25_.cell? ⟨g12, 0, none⟩ = some (.slice A15_0_ r7_0.length c15_0_) := (blk_cell Bg12.out 0).trans rfl
  have hxg12_1 : w25_.cell? ⟨g12, 1, none⟩ = some (.slice A15_1_ r7_1.length c15_1_) := (blk_cell Bg12.out 1).trans rfl
  have hfg12_0 := blk_frozen Bg12.out 0
  have hfg12_1 := blk_frozen Bg12.out 1
  have hxg13_0 : w25_.cell? ⟨g13, 0, none⟩ = some (.slice A18_0_ r8_0.length c18_0_) := (blk_cell Bg13.out 0).trans rfl
  have hxg13_1 : w25_.cell? ⟨g13, 1, none⟩ = some (.slice A18_1_ r8_1.length c18_1_) := (blk_cell Bg13.out 1).trans rfl
  have hfg13_0 := blk_frozen Bg13.out 0
  have hfg13_1 := blk_frozen Bg13.out 1
  try go_wp2_with fail
  have n_ := Aside0.mk (Kd.R_drew O8_0.out); clear O8_0; have O8_0 := n_; clear n_
  have n_ := Aside0.mk (Kd.R_drew O9_0.out); clear O9_0; have O9_0 := n_; clear n_
  have n_ := Aside0.mk (Kd.S_drew O9_1.out); clear O9_1; have O9_1 := n_; clear n_
  have n_ := Aside0.mk (Kd.R_drew O10_0.out); clear O10_0; have O10_0 := n_; clear n_
  have n_ := Aside0.mk (Kd.S_drew O10_1.out); clear O10_1; have O10_1 := n_; clear n_
  have n_ := Aside0.mk (Kd.R_drew O11_0.out); clear O11_0; have O11_0 := n_; clear n_
  have n_ := Aside0.mk (Kd.R_drew O12_0.out); clear O12_0; have O12_0 := n_; clear n_
  have n_ := Aside0.mk (Kd.R_drew O15_0.out); clear O15_0; have O15_0 := n_; clear n_
  have n_ := Aside0.mk (Kd.S_drew O15_1.out); clear O15_1; have O15_1 := n_; clear n_
  have n_ := Aside0.mk (Kd.R_drew O18_0.out); clear O18_0; have O18_0 := n_; clear n_
  have n_ := Aside0.mk (Kd.S_drew O18_1.out); clear O18_1; have O18_1 := n_; clear n_
  have n_ := Aside0.mk (Kd.R_drew O21_0.out); clear O21_0; have O21_0 := n_; clear n_
  have n_ := Aside0.mk (Kd.R_drew O24_0.out); clear O24_0; have O24_0 := n_; clear n_
  have n_ := Aside0.mk (blk_drew Bg1.out); clear Bg1; have Bg1 := n_; clear n_
  have n_ := Aside0.mk (blk_drew Bg2.out); clear Bg2; have Bg2 := n_; clear n_
  have n_ := Aside0.mk (blk_drew Bg3.out); clear Bg3; have Bg3 := n_; clear n_
  have n_ := Aside0.mk (blk_drew Bg11.out); clear Bg11; have Bg11 := n_; clear n_
  have n_ := Aside0.mk (blk_drew Bg12.out); clear Bg12; have Bg12 := n_; clear n_
  have n_ := Aside0.mk (blk_drew Bg13.out); clear Bg13; have Bg13 := n_; clear n_
  have n_ := Aside0.mk (below_drew1 HB.out); clear HB; have HB := n_; clear n_
  clear hxg1_0
  clear hfg1_0
  clear hxg2_0
  clear hxg2_1
  clear hfg2_0
  clear hfg2_1
  clear hxg3_0
  clear hxg3_1
  clear hfg3_0
  clear hfg3_1
  clear hxg11_0
  clear hfg11_0
  clear hxg12_0
  clear hxg12_1
  clear hfg12_0
  clear hfg12_1
  clear hxg13_0
  clear hxg13_1
  clear hfg13_0
  clear hfg13_1
  have hz := Aside0.mk (show w25_.heap.size ≤ w25_.drew.heap.size from Nat.le_refl _)
  refine start_ (n := 5) (S := fun w' => w'.cell? ⟨g12, 0, none⟩ = some (.slice A15_0_ r7_0.length c15_0_) ∧ w'.cell? ⟨g12, 1, none⟩ = some (.slice A15_1_ r7_1.length c15_1_) ∧ w'.cell? ⟨g2, 0, none⟩ = some (.slice A1_0 l1_0.length c1_0) ∧ w'.cell? ⟨g2, 1, none⟩ = some (.slice A1_1 l1_1.length c1_1)) (ds := []) #[false,false,false,false,false] (by kernel_rfl) rfl rfl ⟨(blk_cell Bg12.out 0).trans rfl, (blk_cell Bg12.out 1).trans rfl, (blk_cell Bg2.out 0).trans rfl, (blk_cell Bg2.out 1).trans rfl⟩ (fun hHeld => ?_)
  generalize w25_.drew = w26_ at O8_0 O9_0 O9_1 O10_0 O10_1 O11_0 O12_0 O15_0 O15_1 O18_0 O18_1 O21_0 O24_0 Bg1 Bg2 Bg3 Bg11 Bg12 Bg13 HB hz hHeld ⊢
  have Z26_ := hz; clear hz
  refine take_ (i := 0) (N := some 72) (v := ?_) (a' := ?_) #[true,false,false,false,false] rfl rfl (by kernel_rfl) (fun _ _ _ h => h) (Or.inl ⟨by rfl, ?_⟩) hHeld ?_ ?_
  rotate_left
  · rintro w' ⟨s0, s1, s2, s3⟩; go_simp; with_reducible rfl
  rotate_left
  · simp only [Act.put, List.setIfInBounds_toArray, List.set_cons_zero, List.set_cons_succ, i64_w, i32_w]; rfl
  refine take_ (i := 1) (N := some 73) (v := ?_) (a' := ?_) #[true,true,false,false,false] rfl rfl (by kernel_rfl) (fun _ _ _ h => h) (Or.inl ⟨by rfl, ?_⟩) hHeld ?_ ?_
  rotate_left
  · rintro w' ⟨s0, s1, s2, s3⟩; go_simp; with_reducible rfl
  rotate_left
  · simp only [Act.put, List.setIfInBounds_toArray, List.set_cons_zero, List.set_cons_succ, i64_w, i32_w]; rfl
  refine one_ (i := 2) (N := some 74) #[true,true,true,false,false] rfl rfl (by kernel_rfl) (by decide) (fun K hK => ?_)
  refine goes_ Try.func32 (by kernel_rfl) rfl #[.agg #[.slice A1_0 l1_0.length c1_0, .slice A1_1 l1_1.length c1_1]] (by rfl) rfl rfl (by (try simp only [List.map_toArray, List.map_cons, List.map_nil]); first | done | rfl) ?_
  with_reducible refine (laws_toQuery.calls ke7 _ _ l1_0 _ _ l1_1 r7_0 r7_1 _ (Kd.C_below H1_0.out HB.out) HC1_0.out (Kd.C_below H1_1.out HB.out) HC1_1.out Ee7.out).mono ?_
  rintro e w27_ ⟨v27_0_, v27_1_, rfl, ho0, ho1, hb⟩
  refine ⟨_, rfl, ?_⟩
  have O27_0 := Aside0.mk (newR ho0 HB.out.size)
  have O27_1 := Aside0.mk (newS ho1 HB.out.size)
  have Z27_ := Aside0.mk (show w26_.heap.size ≤ w27_.heap.size from hb.size)
  have n_ := Aside0.mk (Kd.R_below O8_0.out hb); clear O8_0; have O8_0 := n_; clear n_
  have n_ := Aside0.mk (Kd.R_below O9_0.out hb); clear O9_0; have O9_0 := n_; clear n_
  have n_ := Aside0.mk (Kd.S_below O9_1.out hb); clear O9_1; have O9_1 := n_; clear n_
  have n_ := Aside0.mk (Kd.R_below O10_0.out hb); clear O10_0; have O10_0 := n_; clear n_
  have n_ := Aside0.mk (Kd.S_below O10_1.out hb); clear O10_1; have O10_1 := n_; clear n_
  have n_ := Aside0.mk (Kd.R_below O11_0.out hb); clear O11_0; have O11_0 := n_; clear n_
  have n_ := Aside0.mk (Kd.R_below O12_0.out hb); clear O12_0; have O12_0 := n_; clear n_
  have n_ := Aside0.mk (Kd.R_below O15_0.out hb); clear O15_0; have O15_0 := n_; clear n_
  have n_ := Aside0.mk (Kd.S_below O15_1.out hb); clear O15_1; have O15_1 := n_; clear n_
  have n_ := Aside0.mk (Kd.R_below O18_0.out hb); clear O18_0; have O18_0 := n_; clear n_
  have n_ := Aside0.mk (Kd.S_below O18_1.out hb); clear O18_1; have O18_1 := n_; clear n_
  have n_ := Aside0.mk (Kd.R_below O21_0.out hb); clear O21_0; have O21_0 := n_; clear n_
  have n_ := Aside0.mk (Kd.R_below O24_0.out hb); clear O24_0; have O24_0 := n_; clear n_
  have n_ := Aside0.mk (blk_below Bg1.out hb); clear Bg1; have Bg1 := n_; clear n_
  have n_ := Aside0.mk (blk_below Bg2.out hb); clear Bg2; have Bg2 := n_; clear n_
  have n_ := Aside0.mk (blk_below Bg3.out hb); clear Bg3; have Bg3 := n_; clear n_
  have n_ := Aside0.mk (blk_below Bg11.out hb); clear Bg11; have Bg11 := n_; clear n_
  have n_ := Aside0.mk (blk_below Bg12.out hb); clear Bg12; have Bg12 := n_; clear n_
  have n_ := Aside0.mk (blk_below Bg13.out hb); clear Bg13; have Bg13 := n_; clear n_
  have n_ := Aside0.mk (below_step HB.out hb); clear HB; have HB := n_; clear n_
  have hxg1_0 : w27_.cell? ⟨g1, 0, none⟩ = some (.slice A0_0 l0_0.length c0_0) := (blk_cell Bg1.out 0).trans rfl
  have hfg1_0 := blk_frozen Bg1.out 0
  have hxg2_0 : w27_.cell? ⟨g2, 0, none⟩ = some (.slice A1_0 l1_0.length c1_0) := (blk_cell Bg2.out 0).trans rfl
  have hxg2_1 : w27_.cell? ⟨g2, 1, none⟩ = some (.slice A1_1 l1_1.length c1_1) := (blk_cell Bg2.out 1).trans rfl
  have hfg2_0 := blk_frozen Bg2.out 0
  have hfg2_1 := blk_frozen Bg2.out 1
  have hxg3_0 : w27_.cell? ⟨g3, 0, none⟩ = some (.slice A2_0 l2_0.length c2_0) := (blk_cell Bg3.out 0).trans rfl
  have hxg3_1 : w27_.cell? ⟨g3, 1, none⟩ = some (.slice A2_1 l2_1.length c2_1) := (blk_cell Bg3.out 1).trans rfl
  have hfg3_0 := blk_frozen Bg3.out 0
  have hfg3_1 := blk_frozen Bg3.out 1
  have hxg11_0 : w27_.cell? ⟨g11, 0, none⟩ = some (.slice A12_0_ r6_0.length c12_0_) := (blk_cell Bg11.out 0).trans rfl
  have hfg11_0 := blk_frozen Bg11.out 0
  have hxg12_0 : w27_.cell? ⟨g12, 0, none⟩ = some (.slice A15_0_ r7_0.length c15_0_) := (blk_cell Bg12.out 0).trans rfl
  have hxg12_1 : w27_.cell? ⟨g12, 1, none⟩ = some (.slice A15_1_ r7_1.length c15_1_) := (blk_cell Bg12.out 1).trans rfl
  have hfg12_0 := blk_frozen Bg12.out 0
  have hfg12_1 := blk_frozen Bg12.out 1
  have hxg13_0 : w27_.cell? ⟨g13, 0, none⟩ = some (.slice A18_0_ r8_0.length c18_0_) := (blk_cell Bg13.out 0).trans rfl
  have hxg13_1 : w27_.cell? ⟨g13, 1, none⟩ = some (.slice A18_1_ r8_1.length c18_1_) := (blk_cell Bg13.out 1).trans rfl
  have hfg13_0 := blk_frozen Bg13.out 0
  have hfg13_1 := blk_frozen Bg13.out 1
  clear hb ho0 ho1
  obtain ⟨A27_0_, c27_0_, eq_⟩ := Kd.R_slice O27_0.out
  subst eq_
  obtain ⟨A27_1_, c27_1_, eq_⟩ := Kd.S_slice O27_1.out
  subst eq_
  clear hxg1_0
  clear hfg1_0
  clear hxg2_0
  clear hxg2_1
  clear hfg2_0
  clear hfg2_1
  clear hxg3_0
  clear hxg3_1
  clear hfg3_0
  clear hfg3_1
  clear hxg11_0
  clear hfg11_0
  clear hxg12_0
  clear hxg12_1
  clear hfg12_0
  clear hfg12_1
  clear hxg13_0
  clear hxg13_1
  clear hfg13_0
  clear hfg13_1
  refine hK.out _ _ ⟨(blk_cell Bg12.out 0).trans rfl, (blk_cell Bg12.out 1).trans rfl, (blk_cell Bg2.out 0).trans rfl, (blk_cell Bg2.out 1).trans rfl⟩ (fun hHeld => ?_)
  clear hK K
  refine norm_ (a' := ?_) ?_ ?_
  rotate_left
  · show Act.put _ (some 74) _ = _; simp only [Act.put, List.setIfInBounds_toArray, List.set_cons_zero, List.set_cons_succ, i64_w, i32_w]; rfl
  refine one_ (i := 3) (N := some 75) #[true,true,true,true,false] rfl rfl (by kernel_rfl) (by decide) (fun K hK => ?_)
  refine goes_ Try.func34 (by kernel_rfl) rfl #[.agg #[.slice A15_0_ r7_0.length c15_0_, .slice A15_1_ r7_1.length c15_1_], .agg #[.slice A27_0_ r7_0.length c27_0_, .slice A27_1_ r7_1.length c27_1_]] (by rfl) rfl rfl (by (try simp only [List.map_toArray, List.map_cons, List.map_nil]); first | done | rfl) ?_
  with_reducible refine (laws_eqQuery.calls ke13 _ _ r7_0 _ _ r7_1 _ _ r7_0 _ _ r7_1 true _ (Kd.R_reads' O15_0.out).2.2 (Kd.R_reads' O15_0.out).2.1 (Kd.S_reads' O15_1.out).2.2 (Kd.S_reads' O15_1.out).2.1 (Kd.R_reads' O27_0.out).2.2 (Kd.R_reads' O27_0.out).2.1 (Kd.S_reads' O27_1.out).2.2 (Kd.S_reads' O27_1.out).2.1 Ee13.out).mono ?_
  rintro e w28_ ⟨rfl, hb⟩
  refine ⟨_, rfl, ?_⟩
  have Z28_ := Aside0.mk (show w27_.heap.size ≤ w28_.heap.size from hb.size)
  have n_ := Aside0.mk (Kd.R_below O8_0.out hb); clear O8_0; have O8_0 := n_; clear n_
  have n_ := Aside0.mk (Kd.R_below O9_0.out hb); clear O9_0; have O9_0 := n_; clear n_
  have n_ := Aside0.mk (Kd.S_below O9_1.out hb); clear O9_1; have O9_1 := n_; clear n_
  have n_ := Aside0.mk (Kd.R_below O10_0.out hb); clear O10_0; have O10_0 := n_; clear n_
  have n_ := Aside0.mk (Kd.S_below O10_1.out hb); clear O10_1; have O10_1 := n_; clear n_
  have n_ := Aside0.mk (Kd.R_below O11_0.out hb); clear O11_0; have O11_0 := n_; clear n_
  have n_ := Aside0.mk (Kd.R_below O12_0.out hb); clear O12_0; have O12_0 := n_; clear n_
  have n_ := Aside0.mk (Kd.R_below O15_0.out hb); clear O15_0; have O15_0 := n_; clear n_
  have n_ := Aside0.mk (Kd.S_below O15_1.out hb); clear O15_1; have O15_1 := n_; clear n_
  have n_ := Aside0.mk (Kd.R_below O18_0.out hb); clear O18_0; have O18_0 := n_; clear n_
  have n_ := Aside0.mk (Kd.S_below O18_1.out hb); clear O18_1; have O18_1 := n_; clear n_
  have n_ := Aside0.mk (Kd.R_below O21_0.out hb); clear O21_0; have O21_0 := n_; clear n_
  have n_ := Aside0.mk (Kd.R_below O24_0.out hb); clear O24_0; have O24_0 := n_; clear n_
  have n_ := Aside0.mk (Kd.R_below O27_0.out hb); clear O27_0; have O27_0 := n_; clear n_
  have n_ := Aside0.mk (Kd.S_below O27_1.out hb); clear O27_1; have O27_1 := n_; clear n_
  have n_ := Aside0.mk (blk_below Bg1.out hb); clear Bg1; have Bg1 := n_; clear n_
  have n_ := Aside0.mk (blk_below Bg2.out hb); clear Bg2; have Bg2 := n_; clear n_
  have n_ := Aside0.mk (blk_below Bg3.out hb); clear Bg3; have Bg3 := n_; clear n_
  have n_ := Aside0.mk (blk_below Bg11.out hb); clear Bg11; have Bg11 := n_; clear n_
  have n_ := Aside0.mk (blk_below Bg12.out hb); clear Bg12; have Bg12 := n_; clear n_
  have n_ := Aside0.mk (blk_below Bg13.out hb); clear Bg13; have Bg13 := n_; clear n_
  have n_ := Aside0.mk (below_step HB.out hb); clear HB; have HB := n_; clear n_
  have hxg1_0 : w28_.cell? ⟨g1, 0, none⟩ = some (.slice A0_0 l0_0.length c0_0) := (blk_cell Bg1.out 0).trans rfl
  have hfg1_0 := blk_frozen Bg1.out 0
  have hxg2_0 : w28_.cell? ⟨g2, 0, none⟩ = some (.slice A1_0 l1_0.length c1_0) := (blk_cell Bg2.out 0).trans rfl
  have hxg2_1 : w28_.cell? ⟨g2, 1, none⟩ = some (.slice A1_1 l1_1.length c1_1) := (blk_cell Bg2.out 1).trans rfl
  have hfg2_0 := blk_frozen Bg2.out 0
  have hfg2_1 := blk_frozen Bg2.out 1
  have hxg3_0 : w28_.cell? ⟨g3, 0, none⟩ = some (.slice A2_0 l2_0.length c2_0) := (blk_cell Bg3.out 0).trans rfl
  have hxg3_1 : w28_.cell? ⟨g3, 1, none⟩ = some (.slice A2_1 l2_1.length c2_1) := (blk_cell Bg3.out 1).trans rfl
  have hfg3_0 := blk_frozen Bg3.out 0
  have hfg3_1 := blk_frozen Bg3.out 1
  have hxg11_0 : w28_.cell? ⟨g11, 0, none⟩ = some (.slice A12_0_ r6_0.length c12_0_) := (blk_cell Bg11.out 0).trans rfl
  have hfg11_0 := blk_frozen Bg11.out 0
  have hxg12_0 : w28_.cell? ⟨g12, 0, none⟩ = some (.slice A15_0_ r7_0.length c15_0_) := (blk_cell Bg12.out 0).trans rfl
  have hxg12_1 : w28_.cell? ⟨g12, 1, none⟩ = some (.slice A15_1_ r7_1.length c15_1_) := (blk_cell Bg12.out 1).trans rfl
  have hfg12_0 := blk_frozen Bg12.out 0
  have hfg12_1 := blk_frozen Bg12.out 1
  have hxg13_0 : w28_.cell? ⟨g13, 0, none⟩ = some (.slice A18_0_ r8_0.length c18_0_) := (blk_cell Bg13.out 0).trans rfl
  have hxg13_1 : w28_.cell? ⟨g13, 1, none⟩ = some (.slice A18_1_ r8_1.length c18_1_) := (blk_cell Bg13.out 1).trans rfl
  have hfg13_0 := blk_frozen Bg13.out 0
  have hfg13_1 := blk_frozen Bg13.out 1
  clear hb
  clear hxg1_0
  clear hfg1_0
  clear hxg2_0
  clear hxg2_1
  clear hfg2_0
  clear hfg2_1
  clear hxg3_0
  clear hxg3_1
  clear hfg3_0
  clear hfg3_1
  clear hxg11_0
  clear hfg11_0
  clear hxg12_0
  clear hxg12_1
  clear hfg12_0
  clear hfg12_1
  clear hxg13_0
  clear hxg13_1
  clear hfg13_0
  clear hfg13_1
  refine hK.out _ _ ⟨(blk_cell Bg12.out 0).trans rfl, (blk_cell Bg12.out 1).trans rfl, (blk_cell Bg2.out 0).trans rfl, (blk_cell Bg2.out 1).trans rfl⟩ (fun hHeld => ?_)
  clear hK K
  refine norm_ (a' := ?_) ?_ ?_
  rotate_left
  · show Act.put _ (some 75) _ = _; simp only [Act.put, List.setIfInBounds_toArray, List.set_cons_zero, List.set_cons_succ, i64_w, i32_w]; rfl
  refine pure_ (i := 4) (N := some 76) (v := ?_) (a' := ?_) #[true,true,true,true,true] rfl rfl (by kernel_rfl) (fun _ _ _ h => h) (Or.inl ⟨by rfl, ?_⟩) ?_ ?_
  rotate_left
  · intro w'; go_simp; with_reducible rfl
  rotate_left
  · simp only [Act.put, List.setIfInBounds_toArray, List.set_cons_zero, List.set_cons_succ, i64_w, i32_w]; rfl
  refine done_ (by kernel_rfl) ?_
  have hxg1_0 : w28_.cell? ⟨g1, 0, none⟩ = some (.slice A0_0 l0_0.length c0_0) := (blk_cell Bg1.out 0).trans rfl
  have hfg1_0 := blk_frozen Bg1.out 0
  have hxg2_0 : w28_.cell? ⟨g2, 0, none⟩ = some (.slice A1_0 l1_0.length c1_0) := (blk_cell Bg2.out 0).trans rfl
  have hxg2_1 : w28_.cell? ⟨g2, 1, none⟩ = some (.slice A1_1 l1_1.length c1_1) := (blk_cell Bg2.out 1).trans rfl
  have hfg2_0 := blk_frozen Bg2.out 0
  have hfg2_1 := blk_frozen Bg2.out 1
  have hxg3_0 : w28_.cell? ⟨g3, 0, none⟩ = some (.slice A2_0 l2_0.length c2_0) := (blk_cell Bg3.out 0).trans rfl
  have hxg3_1 : w28_.cell? ⟨g3, 1, none⟩ = some (.slice A2_1 l2_1.length c2_1) := (blk_cell Bg3.out 1).trans rfl
  have hfg3_0 := blk_frozen Bg3.out 0
  have hfg3_1 := blk_frozen Bg3.out 1
  have hxg11_0 : w28_.cell? ⟨g11, 0, none⟩ = some (.slice A12_0_ r6_0.length c12_0_) := (blk_cell Bg11.out 0).trans rfl
  have hfg11_0 := blk_frozen Bg11.out 0
  have hxg12_0 : w28_.cell? ⟨g12, 0, none⟩ = some (.slice A15_0_ r7_0.length c15_0_) := (blk_cell Bg12.out 0).trans rfl
  have hxg12_1 : w28_.cell? ⟨g12, 1, none⟩ = some (.slice A15_1_ r7_1.length c15_1_) := (blk_cell Bg12.out 1).trans rfl
  have hfg12_0 := blk_frozen Bg12.out 0
  have hfg12_1 := blk_frozen Bg12.out 1
  have hxg13_0 : w28_.cell? ⟨g13, 0, none⟩ = some (.slice A18_0_ r8_0.length c18_0_) := (blk_cell Bg13.out 0).trans rfl
  have hxg13_1 : w28_.cell? ⟨g13, 1, none⟩ = some (.slice A18_1_ r8_1.length c18_1_) := (blk_cell Bg13.out 1).trans rfl
  have hfg13_0 := blk_frozen Bg13.out 0
  have hfg13_1 := blk_frozen Bg13.out 1
  try go_wp2_with fail
  have n_ := Aside0.mk (Kd.R_drew O8_0.out); clear O8_0; have O8_0 := n_; clear n_
  have n_ := Aside0.mk (Kd.R_drew O9_0.out); clear O9_0; have O9_0 := n_; clear n_
  have n_ := Aside0.mk (Kd.S_drew O9_1.out); clear O9_1; have O9_1 := n_; clear n_
  have n_ := Aside0.mk (Kd.R_drew O10_0.out); clear O10_0; have O10_0 := n_; clear n_
  have n_ := Aside0.mk (Kd.S_drew O10_1.out); clear O10_1; have O10_1 := n_; clear n_
  have n_ := Aside0.mk (Kd.R_drew O11_0.out); clear O11_0; have O11_0 := n_; clear n_
  have n_ := Aside0.mk (Kd.R_drew O12_0.out); clear O12_0; have O12_0 := n_; clear n_
  have n_ := Aside0.mk (Kd.R_drew O15_0.out); clear O15_0; have O15_0 := n_; clear n_
  have n_ := Aside0.mk (Kd.S_drew O15_1.out); clear O15_1; have O15_1 := n_; clear n_
  have n_ := Aside0.mk (Kd.R_drew O18_0.out); clear O18_0; have O18_0 := n_; clear n_
  have n_ := Aside0.mk (Kd.S_drew O18_1.out); clear O18_1; have O18_1 := n_; clear n_
  have n_ := Aside0.mk (Kd.R_drew O21_0.out); clear O21_0; have O21_0 := n_; clear n_
  have n_ := Aside0.mk (Kd.R_drew O24_0.out); clear O24_0; have O24_0 := n_; clear n_
  have n_ := Aside0.mk (Kd.R_drew O27_0.out); clear O27_0; have O27_0 := n_; clear n_
  have n_ := Aside0.mk (Kd.S_drew O27_1.out); clear O27_1; have O27_1 := n_; clear n_
  have n_ := Aside0.mk (blk_drew Bg1.out); clear Bg1; have Bg1 := n_; clear n_
  have n_ := Aside0.mk (blk_drew Bg2.out); clear Bg2; have Bg2 := n_; clear n_
  have n_ := Aside0.mk (blk_drew Bg3.out); clear Bg3; have Bg3 := n_; clear n_
  have n_ := Aside0.mk (blk_drew Bg11.out); clear Bg11; have Bg11 := n_; clear n_
  have n_ := Aside0.mk (blk_drew Bg12.out); clear Bg12; have Bg12 := n_; clear n_
  have n_ := Aside0.mk (blk_drew Bg13.out); clear Bg13; have Bg13 := n_; clear n_
  have n_ := Aside0.mk (below_drew1 HB.out); clear HB; have HB := n_; clear n_
  clear hxg1_0
  clear hfg1_0
  clear hxg2_0
  clear hxg2_1
  clear hfg2_0
  clear hfg2_1
  clear hxg3_0
  clear hxg3_1
  clear hfg3_0
  clear hfg3_1
  clear hxg11_0
  clear hfg11_0
  clear hxg12_0
  clear hxg12_1
  clear hfg12_0
  clear hfg12_1
  clear hxg13_0
  clear hxg13_1
  clear hfg13_0
  clear hfg13_1
  have hz := Aside0.mk (show w28_.heap.size ≤ w28_.drew.heap.size from Nat.le_refl _)
  refine start_ (n := 5) (S := fun w' => w'.cell? ⟨g13, 0, none⟩ = some (.slice A18_0_ r8_0.length c18_0_) ∧ w'.cell? ⟨g13, 1, none⟩ = some (.slice A18_1_ r8_1.length c18_1_) ∧ w'.cell? ⟨g3, 0, none⟩ = some (.slice A2_0 l2_0.length c2_0) ∧ w'.cell? ⟨g3, 1, none⟩ = some (.slice A2_1 l2_1.length c2_1)) (ds := []) #[false,false,false,false,false] (by kernel_rfl) rfl rfl ⟨(blk_cell Bg13.out 0).trans rfl, (blk_cell Bg13.out 1).trans rfl, (blk_cell Bg3.out 0).trans rfl, (blk_cell Bg3.out 1).trans rfl⟩ (fun hHeld => ?_)
  generalize w28_.drew = w29_ at O8_0 O9_0 O9_1 O10_0 O10_1 O11_0 O12_0 O15_0 O15_1 O18_0 O18_1 O21_0 O24_0 O27_0 O27_1 Bg1 Bg2 Bg3 Bg11 Bg12 Bg13 HB hz hHeld ⊢
  have Z29_ := hz; clear hz
  refine take_ (i := 0) (N := some 77) (v := ?_) (a' := ?_) #[true,false,false,false,false] rfl rfl (by kernel_rfl) (fun _ _ _ h => h) (Or.inl ⟨by rfl, ?_⟩) hHeld ?_ ?_
  rotate_left
  · rintro w' ⟨s0, s1, s2, s3⟩; go_simp; with_reducible rfl
  rotate_left
  · simp only [Act.put, List.setIfInBounds_toArray, List.set_cons_zero, List.set_cons_succ, i64_w, i32_w]; rfl
  refine take_ (i := 1) (N := some 78) (v := ?_) (a' := ?_) #[true,true,false,false,false] rfl rfl (by kernel_rfl) (fun _ _ _ h => h) (Or.inl ⟨by rfl, ?_⟩) hHeld ?_ ?_
  rotate_left
  · rintro w' ⟨s0, s1, s2, s3⟩; go_simp; with_reducible rfl
  rotate_left
  · simp only [Act.put, List.setIfInBounds_toArray, List.set_cons_zero, List.set_cons_succ, i64_w, i32_w]; rfl
  refine one_ (i := 2) (N := some 79) #[true,true,true,false,false] rfl rfl (by kernel_rfl) (by decide) (fun K hK => ?_)
  refine goes_ Try.func32 (by kernel_rfl) rfl #[.agg #[.slice A2_0 l2_0.length c2_0, .slice A2_1 l2_1.length c2_1]] (by rfl) rfl rfl (by (try simp only [List.map_toArray, List.map_cons, List.map_nil]); first | done | rfl) ?_
  with_reducible refine (laws_toQuery.calls ke8 _ _ l2_0 _ _ l2_1 r8_0 r8_1 _ (Kd.C_below H2_0.out HB.out) HC2_0.out (Kd.C_below H2_1.out HB.out) HC2_1.out Ee8.out).mono ?_
  rintro e w30_ ⟨v30_0_, v30_1_, rfl, ho0, ho1, hb⟩
  refine ⟨_, rfl, ?_⟩
  have O30_0 := Aside0.mk (newR ho0 HB.out.size)
  have O30_1 := Aside0.mk (newS ho1 HB.out.size)
  have Z30_ := Aside0.mk (show w29_.heap.size ≤ w30_.heap.size from hb.size)
  have n_ := Aside0.mk (Kd.R_below O8_0.out hb); clear O8_0; have O8_0 := n_; clear n_
  have n_ := Aside0.mk (Kd.R_below O9_0.out hb); clear O9_0; have O9_0 := n_; clear n_
  have n_ := Aside0.mk (Kd.S_below O9_1.out hb); clear O9_1; have O9_1 := n_; clear n_
  have n_ := Aside0.mk (Kd.R_below O10_0.out hb); clear O10_0; have O10_0 := n_; clear n_
  have n_ := Aside0.mk (Kd.S_below O10_1.out hb); clear O10_1; have O10_1 := n_; clear n_
  have n_ := Aside0.mk (Kd.R_below O11_0.out hb); clear O11_0; have O11_0 := n_; clear n_
  have n_ := Aside0.mk (Kd.R_below O12_0.out hb); clear O12_0; have O12_0 := n_; clear n_
  have n_ := Aside0.mk (Kd.R_below O15_0.out hb); clear O15_0; have O15_0 := n_; clear n_
  have n_ := Aside0.mk (Kd.S_below O15_1.out hb); clear O15_1; have O15_1 := n_; clear n_
  have n_ := Aside0.mk (Kd.R_below O18_0.out hb); clear O18_0; have O18_0 := n_; clear n_
  have n_ := Aside0.mk (Kd.S_below O18_1.out hb); clear O18_1; have O18_1 := n_; clear n_
  have n_ := Aside0.mk (Kd.R_below O21_0.out hb); clear O21_0; have O21_0 := n_; clear n_
  have n_ := Aside0.mk (Kd.R_below O24_0.out hb); clear O24_0; have O24_0 := n_; clear n_
  have n_ := Aside0.mk (Kd.R_below O27_0.out hb); clear O27_0; have O27_0 := n_; clear n_
  have n_ := Aside0.mk (Kd.S_below O27_1.out hb); clear O27_1; have O27_1 := n_; clear n_
  have n_ := Aside0.mk (blk_below Bg1.out hb); clear Bg1; have Bg1 := n_; clear n_
  have n_ := Aside0.mk (blk_below Bg2.out hb); clear Bg2; have Bg2 := n_; clear n_
  have n_ := Aside0.mk (blk_below Bg3.out hb); clear Bg3; have Bg3 := n_; clear n_
  have n_ := Aside0.mk (blk_below Bg11.out hb); clear Bg11; have Bg11 := n_; clear n_
  have n_ := Aside0.mk (blk_below Bg12.out hb); clear Bg12; have Bg12 := n_; clear n_
  have n_ := Aside0.mk (blk_below Bg13.out hb); clear Bg13; have Bg13 := n_; clear n_
  have n_ := Aside0.mk (below_step HB.out hb); clear HB; have HB := n_; clear n_
  have hxg1_0 : w30_.cell? ⟨g1, 0, none⟩ = some (.slice A0_0 l0_0.length c0_0) := (blk_cell Bg1.out 0).trans rfl
  have hfg1_0 := blk_frozen Bg1.out 0
  have hxg2_0 : w30_.cell? ⟨g2, 0, none⟩ = some (.slice A1_0 l1_0.length c1_0) := (blk_cell Bg2.out 0).trans rfl
  have hxg2_1 : w30_.cell? ⟨g2, 1, none⟩ = some (.slice A1_1 l1_1.length c1_1) := (blk_cell Bg2.out 1).trans rfl
  have hfg2_0 := blk_frozen Bg2.out 0
  have hfg2_1 := blk_frozen Bg2.out 1
  have hxg3_0 : w30_.cell? ⟨g3, 0, none⟩ = some (.slice A2_0 l2_0.length c2_0) := (blk_cell Bg3.out 0).trans rfl
  have hxg3_1 : w30_.cell? ⟨g3, 1, none⟩ = some (.slice A2_1 l2_1.length c2_1) := (blk_cell Bg3.out 1).trans rfl
  have hfg3_0 := blk_frozen Bg3.out 0
  have hfg3_1 := blk_frozen Bg3.out 1
  have hxg11_0 : w30_.cell? ⟨g11, 0, none⟩ = some (.slice A12_0_ r6_0.length c12_0_) := (blk_cell Bg11.out 0).trans rfl
  have hfg11_0 := blk_frozen Bg11.out 0
  have hxg12_0 : w30_.cell? ⟨g12, 0, none⟩ = some (.slice A15_0_ r7_0.length c15_0_) := (blk_cell Bg12.out 0).trans rfl
  have hxg12_1 : w30_.cell? ⟨g12, 1, none⟩ = some (.slice A15_1_ r7_1.length c15_1_) := (blk_cell Bg12.out 1).trans rfl
  have hfg12_0 := blk_frozen Bg12.out 0
  have hfg12_1 := blk_frozen Bg12.out 1
  have hxg13_0 : w30_.cell? ⟨g13, 0, none⟩ = some (.slice A18_0_ r8_0.length c18_0_) := (blk_cell Bg13.out 0).trans rfl
  have hxg13_1 : w30_.cell? ⟨g13, 1, none⟩ = some (.slice A18_1_ r8_1.length c18_1_) := (blk_cell Bg13.out 1).trans rfl
  have hfg13_0 := blk_frozen Bg13.out 0
  have hfg13_1 := blk_frozen Bg13.out 1
  clear hb ho0 ho1
  obtain ⟨A30_0_, c30_0_, eq_⟩ := Kd.R_slice O30_0.out
  subst eq_
  obtain ⟨A30_1_, c30_1_, eq_⟩ := Kd.S_slice O30_1.out
  subst eq_
  clear hxg1_0
  clear hfg1_0
  clear hxg2_0
  clear hxg2_1
  clear hfg2_0
  clear hfg2_1
  clear hxg3_0
  clear hxg3_1
  clear hfg3_0
  clear hfg3_1
  clear hxg11_0
  clear hfg11_0
  clear hxg12_0
  clear hxg12_1
  clear hfg12_0
  clear hfg12_1
  clear hxg13_0
  clear hxg13_1
  clear hfg13_0
  clear hfg13_1
  refine hK.out _ _ ⟨(blk_cell Bg13.out 0).trans rfl, (blk_cell Bg13.out 1).trans rfl, (blk_cell Bg3.out 0).trans rfl, (blk_cell Bg3.out 1).trans rfl⟩ (fun hHeld => ?_)
  clear hK K
  refine norm_ (a' := ?_) ?_ ?_
  rotate_left
  · show Act.put _ (some 79) _ = _; simp only [Act.put, List.setIfInBounds_toArray, List.set_cons_zero, List.set_cons_succ, i64_w, i32_w]; rfl
  refine one_ (i := 3) (N := some 80) #[true,true,true,true,false] rfl rfl (by kernel_rfl) (by decide) (fun K hK => ?_)
  refine goes_ Try.func34 (by kernel_rfl) rfl #[.agg #[.slice A18_0_ r8_0.length c18_0_, .slice A18_1_ r8_1.length c18_1_], .agg #[.slice A30_0_ r8_0.length c30_0_, .slice A30_1_ r8_1.length c30_1_]] (by rfl) rfl rfl (by (try simp only [List.map_toArray, List.map_cons, List.map_nil]); first | done | rfl) ?_
  with_reducible refine (laws_eqQuery.calls ke14 _ _ r8_0 _ _ r8_1 _ _ r8_0 _ _ r8_1 true _ (Kd.R_reads' O18_0.out).2.2 (Kd.R_reads' O18_0.out).2.1 (Kd.S_reads' O18_1.out).2.2 (Kd.S_reads' O18_1.out).2.1 (Kd.R_reads' O30_0.out).2.2 (Kd.R_reads' O30_0.out).2.1 (Kd.S_reads' O30_1.out).2.2 (Kd.S_reads' O30_1.out).2.1 Ee14.out).mono ?_
  rintro e w31_ ⟨rfl, hb⟩
  refine ⟨_, rfl, ?_⟩
  have Z31_ := Aside0.mk (show w30_.heap.size ≤ w31_.heap.size from hb.size)
  have n_ := Aside0.mk (Kd.R_below O8_0.out hb); clear O8_0; have O8_0 := n_; clear n_
  have n_ := Aside0.mk (Kd.R_below O9_0.out hb); clear O9_0; have O9_0 := n_; clear n_
  have n_ := Aside0.mk (Kd.S_below O9_1.out hb); clear O9_1; have O9_1 := n_; clear n_
  have n_ := Aside0.mk (Kd.R_below O10_0.out hb); clear O10_0; have O10_0 := n_; clear n_
  have n_ := Aside0.mk (Kd.S_below O10_1.out hb); clear O10_1; have O10_1 := n_; clear n_
  have n_ := Aside0.mk (Kd.R_below O11_0.out hb); clear O11_0; have O11_0 := n_; clear n_
  have n_ := Aside0.mk (Kd.R_below O12_0.out hb); clear O12_0; have O12_0 := n_; clear n_
  have n_ := Aside0.mk (Kd.R_below O15_0.out hb); clear O15_0; have O15_0 := n_; clear n_
  have n_ := Aside0.mk (Kd.S_below O15_1.out hb); clear O15_1; have O15_1 := n_; clear n_
  have n_ := Aside0.mk (Kd.R_below O18_0.out hb); clear O18_0; have O18_0 := n_; clear n_
  have n_ := Aside0.mk (Kd.S_below O18_1.out hb); clear O18_1; have O18_1 := n_; clear n_
  have n_ := Aside0.mk (Kd.R_below O21_0.out hb); clear O21_0; have O21_0 := n_; clear n_
  have n_ := Aside0.mk (Kd.R_below O24_0.out hb); clear O24_0; have O24_0 := n_; clear n_
  have n_ := Aside0.mk (Kd.R_below O27_0.out hb); clear O27_0; have O27_0 := n_; clear n_
  have n_ := Aside0.mk (Kd.S_below O27_1.out hb); clear O27_1; have O27_1 := n_; clear n_
  have n_ := Aside0.mk (Kd.R_below O30_0.out hb); clear O30_0; have O30_0 := n_; clear n_
  have n_ := Aside0.mk (Kd.S_below O30_1.out hb); clear O30_1; have O30_1 := n_; clear n_
  have n_ := Aside0.mk (blk_below Bg1.out hb); clear Bg1; have Bg1 := n_; clear n_
  have n_ := Aside0.mk (blk_below Bg2.out hb); clear Bg2; have Bg2 := n_; clear n_
  have n_ := Aside0.mk (blk_below Bg3.out hb); clear Bg3; have Bg3 := n_; clear n_
  have n_ := Aside0.mk (blk_below Bg11.out hb); clear Bg11; have Bg11 := n_; clear n_
  have n_ := Aside0.mk (blk_below Bg12.out hb); clear Bg12; have Bg12 := n_; clear n_
  have n_ := Aside0.mk (blk_below Bg13.out hb); clear Bg13; have Bg13 := n_; clear n_
  have n_ := Aside0.mk (below_step HB.out hb); clear HB; have HB := n_; clear n_
  have hxg1_0 : w31_.cell? ⟨g1, 0, none⟩ = some (.slice A0_0 l0_0.length c0_0) := (blk_cell Bg1.out 0).trans rfl
  have hfg1_0 := blk_frozen Bg1.out 0
  have hxg2_0 : w31_.cell? ⟨g2, 0, none⟩ = some (.slice A1_0 l1_0.length c1_0) := (blk_cell Bg2.out 0).trans rfl
  have hxg2_1 : w31_.cell? ⟨g2, 1, none⟩ = some (.slice A1_1 l1_1.length c1_1) := (blk_cell Bg2.out 1).trans rfl
  have hfg2_0 := blk_frozen Bg2.out 0
  have hfg2_1 := blk_frozen Bg2.out 1
  have hxg3_0 : w31_.cell? ⟨g3, 0, none⟩ = some (.slice A2_0 l2_0.length c2_0) := (blk_cell Bg3.out 0).trans rfl
  have hxg3_1 : w31_.cell? ⟨g3, 1, none⟩ = some (.slice A2_1 l2_1.length c2_1) := (blk_cell Bg3.out 1).trans rfl
  have hfg3_0 := blk_frozen Bg3.out 0
  have hfg3_1 := blk_frozen Bg3.out 1
  have hxg11_0 : w31_.cell? ⟨g11, 0, none⟩ = some (.slice A12_0_ r6_0.length c12_0_) := (blk_cell Bg11.out 0).trans rfl
  have hfg11_0 := blk_frozen Bg11.out 0
  have hxg12_0 : w31_.cell? ⟨g12, 0, none⟩ = some (.slice A15_0_ r7_0.length c15_0_) := (blk_cell Bg12.out 0).trans rfl
  have hxg12_1 : w31_.cell? ⟨g12, 1, none⟩ = some (.slice A15_1_ r7_1.length c15_1_) := (blk_cell Bg12.out 1).trans rfl
  have hfg12_0 := blk_frozen Bg12.out 0
  have hfg12_1 := blk_frozen Bg12.out 1
  have hxg13_0 : w31_.cell? ⟨g13, 0, none⟩ = some (.slice A18_0_ r8_0.length c18_0_) := (blk_cell Bg13.out 0).trans rfl
  have hxg13_1 : w31_.cell? ⟨g13, 1, none⟩ = some (.slice A18_1_ r8_1.length c18_1_) := (blk_cell Bg13.out 1).trans rfl
  have hfg13_0 := blk_frozen Bg13.out 0
  have hfg13_1 := blk_frozen Bg13.out 1
  clear hb
  clear hxg1_0
  clear hfg1_0
  clear hxg2_0
  clear hxg2_1
  clear hfg2_0
  clear hfg2_1
  clear hxg3_0
  clear hxg3_1
  clear hfg3_0
  clear hfg3_1
  clear hxg11_0
  clear hfg11_0
  clear hxg12_0
  clear hxg12_1
  clear hfg12_0
  clear hfg12_1
  clear hxg13_0
  clear hxg13_1
  clear hfg13_0
  clear hfg13_1
  refine hK.out _ _ ⟨(blk_cell Bg13.out 0).trans rfl, (blk_cell Bg13.out 1).trans rfl, (blk_cell Bg3.out 0).trans rfl, (blk_cell Bg3.out 1).trans rfl⟩ (fun hHeld => ?_)
  clear hK K
  refine norm_ (a' := ?_) ?_ ?_
  rotate_left
  · show Act.put _ (some 80) _ = _; simp only [Act.put, List.setIfInBounds_toArray, List.set_cons_zero, List.set_cons_succ, i64_w, i32_w]; rfl
  refine pure_ (i := 4) (N := some 81) (v := ?_) (a' := ?_) #[true,true,true,true,true] rfl rfl (by kernel_rfl) (fun _ _ _ h => h) (Or.inl ⟨by rfl, ?_⟩) ?_ ?_
  rotate_left
  · intro w'; go_simp; with_reducible rfl
  rotate_left
  · simp only [Act.put, List.setIfInBounds_toArray, List.set_cons_zero, List.set_cons_succ, i64_w, i32_w]; rfl
  refine done_ (by kernel_rfl) ?_
  have hxg1_0 : w31_.cell? ⟨g1, 0, none⟩ = some (.slice A0_0 l0_0.length c0_0) := (blk_cell Bg1.out 0).trans rfl
  have hfg1_0 := blk_frozen Bg1.out 0
  have hxg2_0 : w31_.cell? ⟨g2, 0, none⟩ = some (.slice A1_0 l1_0.length c1_0) := (blk_cell Bg2.out 0).trans rfl
  have hxg2_1 : w31_.cell? ⟨g2, 1, none⟩ = some (.slice A1_1 l1_1.length c1_1) := (blk_cell Bg2.out 1).trans rfl
  have hfg2_0 := blk_frozen Bg2.out 0
  have hfg2_1 := blk_frozen Bg2.out 1
  have hxg3_0 : w31_.cell? ⟨g3, 0, none⟩ = some (.slice A2_0 l2_0.length c2_0) := (blk_cell Bg3.out 0).trans rfl
  have hxg3_1 : w31_.cell? ⟨g3, 1, none⟩ = some (.slice A2_1 l2_1.length c2_1) := (blk_cell Bg3.out 1).trans rfl
  have hfg3_0 := blk_frozen Bg3.out 0
  have hfg3_1 := blk_frozen Bg3.out 1
  have hxg11_0 : w31_.cell? ⟨g11, 0, none⟩ = some (.slice A12_0_ r6_0.length c12_0_) := (blk_cell Bg11.out 0).trans rfl
  have hfg11_0 := blk_frozen Bg11.out 0
  have hxg12_0 : w31_.cell? ⟨g12, 0, none⟩ = some (.slice A15_0_ r7_0.length c15_0_) := (blk_cell Bg12.out 0).trans rfl
  have hxg12_1 : w31_.cell? ⟨g12, 1, none⟩ = some (.slice A15_1_ r7_1.length c15_1_) := (blk_cell Bg12.out 1).trans rfl
  have hfg12_0 := blk_frozen Bg12.out 0
  have hfg12_1 := blk_frozen Bg12.out 1
  have hxg13_0 : w31_.cell? ⟨g13, 0, none⟩ = some (.slice A18_0_ r8_0.length c18_0_) := (blk_cell Bg13.out 0).trans rfl
  have hxg13_1 : w31_.cell? ⟨g13, 1, none⟩ = some (.slice A18_1_ r8_1.length c18_1_) := (blk_cell Bg13.out 1).trans rfl
  have hfg13_0 := blk_frozen Bg13.out 0
  have hfg13_1 := blk_frozen Bg13.out 1
  go_wp2_with (first | (go_at_call 58; refine hold ?_))
  unfold Hold
  refine (laws_markSchema.calls ke15 (fun k_ => w11_.heap.size ≤ k_ ∧ k_ < w12_.heap.size) (.slice A12_0_ r6_0.length c12_0_) r6_0 1 r15_0 r15_1 w _ HB.out (Kd.R_mono O12_0.out (fun _ h_ => h_.1)) Ee15.out).mono ?_
  rintro e w32_ ⟨rfl, ho0, hb0, hk⟩
  have n_ := Aside0.mk (show Kd.R (Kd.int .i64) 3 w32_ w.heap.size (fun k_ => (w11_.heap.size ≤ k_ ∧ k_ < w12_.heap.size) ∧ True) (.slice A12_0_ r6_0.length c12_0_) r15_1 from Kd.R_mono (Kd.R_tight2 rfl ho0) (fun k_ hk_ => ⟨(O12_0.out.1 k_ hk_.1.symm).1, trivial⟩)); clear O12_0; have O12_0 := n_; clear n_
  clear ho0
  have Z32_ := Aside0.mk (show w31_.heap.size ≤ w32_.heap.size from hk.1)
  have n_ := Aside0.mk (Kd.R_kept O8_0.out hk (fun k_ hk1 hk2 => by obtain ⟨a1_, a2_⟩ := hk1.1; obtain ⟨b1_, b2_⟩ := hk2; have z9_ := Z9_.out; have z10_ := Z10_.out; have z11_ := Z11_.out; omega)); clear O8_0; have O8_0 := n_; clear n_
  have n_ := Aside0.mk (Kd.R_kept O9_0.out hk (fun k_ hk1 hk2 => by obtain ⟨a1_, a2_⟩ := hk1.1; obtain ⟨b1_, b2_⟩ := hk2; have z10_ := Z10_.out; have z11_ := Z11_.out; omega)); clear O9_0; have O9_0 := n_; clear n_
  have n_ := Aside0.mk (Kd.S_kept O9_1.out hk (fun k_ hk1 hk2 => by obtain ⟨a1_, a2_⟩ := hk1.1; obtain ⟨b1_, b2_⟩ := hk2; have z10_ := Z10_.out; have z11_ := Z11_.out; omega)); clear O9_1; have O9_1 := n_; clear n_
  have n_ := Aside0.mk (Kd.R_kept O10_0.out hk (fun k_ hk1 hk2 => by obtain ⟨a1_, a2_⟩ := hk1.1; obtain ⟨b1_, b2_⟩ := hk2; have z11_ := Z11_.out; omega)); clear O10_0; have O10_0 := n_; clear n_
  have n_ := Aside0.mk (Kd.S_kept O10_1.out hk (fun k_ hk1 hk2 => by obtain ⟨a1_, a2_⟩ := hk1.1; obtain ⟨b1_, b2_⟩ := hk2; have z11_ := Z11_.out; omega)); clear O10_1; have O10_1 := n_; clear n_
  have n_ := Aside0.mk (Kd.R_kept O11_0.out hk (fun k_ hk1 hk2 => by obtain ⟨a1_, a2_⟩ := hk1.1; obtain ⟨b1_, b2_⟩ := hk2; omega)); clear O11_0; have O11_0 := n_; clear n_
  have n_ := Aside0.mk (Kd.R_kept O15_0.out hk (fun k_ hk1 hk2 => by obtain ⟨a1_, a2_⟩ := hk1.1; obtain ⟨b1_, b2_⟩ := hk2; have z13_ := Z13_.out; have z14_ := Z14_.out; omega)); clear O15_0; have O15_0 := n_; clear n_
  have n_ := Aside0.mk (Kd.S_kept O15_1.out hk (fun k_ hk1 hk2 => by obtain ⟨a1_, a2_⟩ := hk1.1; obtain ⟨b1_, b2_⟩ := hk2; have z13_ := Z13_.out; have z14_ := Z14_.out; omega)); clear O15_1; have O15_1 := n_; clear n_
  have n_ := Aside0.mk (Kd.R_kept O18_0.out hk (fun k_ hk1 hk2 => by obtain ⟨a1_, a2_⟩ := hk1.1; obtain ⟨b1_, b2_⟩ := hk2; have z13_ := Z13_.out; have z14_ := Z14_.out; have z15_ := Z15_.out; have z16_ := Z16_.out; have z17_ := Z17_.out; omega)); clear O18_0; have O18_0 := n_; clear n_
  have n_ := Aside0.mk (Kd.S_kept O18_1.out hk (fun k_ hk1 hk2 => by obtain ⟨a1_, a2_⟩ := hk1.1; obtain ⟨b1_, b2_⟩ := hk2; have z13_ := Z13_.out; have z14_ := Z14_.out; have z15_ := Z15_.out; have z16_ := Z16_.out; have z17_ := Z17_.out; omega)); clear O18_1; have O18_1 := n_; clear n_
  have n_ := Aside0.mk (Kd.R_kept O21_0.out hk (fun k_ hk1 hk2 => by obtain ⟨a1_, a2_⟩ := hk1.1; obtain ⟨b1_, b2_⟩ := hk2; have z13_ := Z13_.out; have z14_ := Z14_.out; have z15_ := Z15_.out; have z16_ := Z16_.out; have z17_ := Z17_.out; have z18_ := Z18_.out; have z19_ := Z19_.out; have z20_ := Z20_.out; omega)); clear O21_0; have O21_0 := n_; clear n_
  have n_ := Aside0.mk (Kd.R_kept O24_0.out hk (fun k_ hk1 hk2 => by obtain ⟨a1_, a2_⟩ := hk1.1; obtain ⟨b1_, b2_⟩ := hk2; have z13_ := Z13_.out; have z14_ := Z14_.out; have z15_ := Z15_.out; have z16_ := Z16_.out; have z17_ := Z17_.out; have z18_ := Z18_.out; have z19_ := Z19_.out; have z20_ := Z20_.out; have z21_ := Z21_.out; have z22_ := Z22_.out; have z23_ := Z23_.out; omega)); clear O24_0; have O24_0 := n_; clear n_
  have n_ := Aside0.mk (Kd.R_kept O27_0.out hk (fun k_ hk1 hk2 => by obtain ⟨a1_, a2_⟩ := hk1.1; obtain ⟨b1_, b2_⟩ := hk2; have z13_ := Z13_.out; have z14_ := Z14_.out; have z15_ := Z15_.out; have z16_ := Z16_.out; have z17_ := Z17_.out; have z18_ := Z18_.out; have z19_ := Z19_.out; have z20_ := Z20_.out; have z21_ := Z21_.out; have z22_ := Z22_.out; have z23_ := Z23_.out; have z24_ := Z24_.out; have z25_ := Z25_.out; have z26_ := Z26_.out; omega)); clear O27_0; have O27_0 := n_; clear n_
  have n_ := Aside0.mk (Kd.S_kept O27_1.out hk (fun k_ hk1 hk2 => by obtain ⟨a1_, a2_⟩ := hk1.1; obtain ⟨b1_, b2_⟩ := hk2; have z13_ := Z13_.out; have z14_ := Z14_.out; have z15_ := Z15_.out; have z16_ := Z16_.out; have z17_ := Z17_.out; have z18_ := Z18_.out; have z19_ := Z19_.out; have z20_ := Z20_.out; have z21_ := Z21_.out; have z22_ := Z22_.out; have z23_ := Z23_.out; have z24_ := Z24_.out; have z25_ := Z25_.out; have z26_ := Z26_.out; omega)); clear O27_1; have O27_1 := n_; clear n_
  have n_ := Aside0.mk (Kd.R_kept O30_0.out hk (fun k_ hk1 hk2 => by obtain ⟨a1_, a2_⟩ := hk1.1; obtain ⟨b1_, b2_⟩ := hk2; have z13_ := Z13_.out; have z14_ := Z14_.out; have z15_ := Z15_.out; have z16_ := Z16_.out; have z17_ := Z17_.out; have z18_ := Z18_.out; have z19_ := Z19_.out; have z20_ := Z20_.out; have z21_ := Z21_.out; have z22_ := Z22_.out; have z23_ := Z23_.out; have z24_ := Z24_.out; have z25_ := Z25_.out; have z26_ := Z26_.out; have z27_ := Z27_.out; have z28_ := Z28_.out; have z29_ := Z29_.out; omega)); clear O30_0; have O30_0 := n_; clear n_
  have n_ := Aside0.mk (Kd.S_kept O30_1.out hk (fun k_ hk1 hk2 => by obtain ⟨a1_, a2_⟩ := hk1.1; obtain ⟨b1_, b2_⟩ := hk2; have z13_ := Z13_.out; have z14_ := Z14_.out; have z15_ := Z15_.out; have z16_ := Z16_.out; have z17_ := Z17_.out; have z18_ := Z18_.out; have z19_ := Z19_.out; have z20_ := Z20_.out; have z21_ := Z21_.out; have z22_ := Z22_.out; have z23_ := Z23_.out; have z24_ := Z24_.out; have z25_ := Z25_.out; have z26_ := Z26_.out; have z27_ := Z27_.out; have z28_ := Z28_.out; have z29_ := Z29_.out; omega)); clear O30_1; have O30_1 := n_; clear n_
  have n_ := Aside0.mk (blk_kept Bg1.out hk (fun hk2 => by obtain ⟨a1_, a2_⟩ := Gg1.out; obtain ⟨b1_, b2_⟩ := hk2; have z2_ := Z2_.out; have z3_ := Z3_.out; have z4_ := Z4_.out; have z5_ := Z5_.out; have z6_ := Z6_.out; have z7_ := Z7_.out; have z8_ := Z8_.out; have z9_ := Z9_.out; have z10_ := Z10_.out; have z11_ := Z11_.out; omega)); clear Bg1; have Bg1 := n_; clear n_
  have n_ := Aside0.mk (blk_kept Bg2.out hk (fun hk2 => by obtain ⟨a1_, a2_⟩ := Gg2.out; obtain ⟨b1_, b2_⟩ := hk2; have z3_ := Z3_.out; have z4_ := Z4_.out; have z5_ := Z5_.out; have z6_ := Z6_.out; have z7_ := Z7_.out; have z8_ := Z8_.out; have z9_ := Z9_.out; have z10_ := Z10_.out; have z11_ := Z11_.out; omega)); clear Bg2; have Bg2 := n_; clear n_
  have n_ := Aside0.mk (blk_kept Bg3.out hk (fun hk2 => by obtain ⟨a1_, a2_⟩ := Gg3.out; obtain ⟨b1_, b2_⟩ := hk2; have z4_ := Z4_.out; have z5_ := Z5_.out; have z6_ := Z6_.out; have z7_ := Z7_.out; have z8_ := Z8_.out; have z9_ := Z9_.out; have z10_ := Z10_.out; have z11_ := Z11_.out; omega)); clear Bg3; have Bg3 := n_; clear n_
  have n_ := Aside0.mk (blk_kept Bg11.out hk (fun hk2 => by obtain ⟨a1_, a2_⟩ := Gg11.out; obtain ⟨b1_, b2_⟩ := hk2; omega)); clear Bg11; have Bg11 := n_; clear n_
  have n_ := Aside0.mk (blk_kept Bg12.out hk (fun hk2 => by obtain ⟨a1_, a2_⟩ := Gg12.out; obtain ⟨b1_, b2_⟩ := hk2; have z13_ := Z13_.out; have z14_ := Z14_.out; have z15_ := Z15_.out; omega)); clear Bg12; have Bg12 := n_; clear n_
  have n_ := Aside0.mk (blk_kept Bg13.out hk (fun hk2 => by obtain ⟨a1_, a2_⟩ := Gg13.out; obtain ⟨b1_, b2_⟩ := hk2; have z13_ := Z13_.out; have z14_ := Z14_.out; have z15_ := Z15_.out; have z16_ := Z16_.out; have z17_ := Z17_.out; have z18_ := Z18_.out; omega)); clear Bg13; have Bg13 := n_; clear n_
  clear HB; have HB := Aside0.mk hb0
  clear hxg1_0
  clear hfg1_0
  clear hxg2_0
  clear hxg2_1
  clear hfg2_0
  clear hfg2_1
  clear hxg3_0
  clear hxg3_1
  clear hfg3_0
  clear hfg3_1
  clear hxg11_0
  clear hfg11_0
  clear hxg12_0
  clear hxg12_1
  clear hfg12_0
  clear hfg12_1
  clear hxg13_0
  clear hxg13_1
  clear hfg13_0
  clear hfg13_1
  have hxg1_0 : w32_.cell? ⟨g1, 0, none⟩ = some (.slice A0_0 l0_0.length c0_0) := (blk_cell Bg1.out 0).trans rfl
  have hfg1_0 := blk_frozen Bg1.out 0
  have hxg2_0 : w32_.cell? ⟨g2, 0, none⟩ = some (.slice A1_0 l1_0.length c1_0) := (blk_cell Bg2.out 0).trans rfl
  have hxg2_1 : w32_.cell? ⟨g2, 1, none⟩ = some (.slice A1_1 l1_1.length c1_1) := (blk_cell Bg2.out 1).trans rfl
  have hfg2_0 := blk_frozen Bg2.out 0
  have hfg2_1 := blk_frozen Bg2.out 1
  have hxg3_0 : w32_.cell? ⟨g3, 0, none⟩ = some (.slice A2_0 l2_0.length c2_0) := (blk_cell Bg3.out 0).trans rfl
  have hxg3_1 : w32_.cell? ⟨g3, 1, none⟩ = some (.slice A2_1 l2_1.length c2_1) := (blk_cell Bg3.out 1).trans rfl
  have hfg3_0 := blk_frozen Bg3.out 0
  have hfg3_1 := blk_frozen Bg3.out 1
  have hxg11_0 : w32_.cell? ⟨g11, 0, none⟩ = some (.slice A12_0_ r6_0.length c12_0_) := (blk_cell Bg11.out 0).trans rfl
  have hfg11_0 := blk_frozen Bg11.out 0
  have hxg12_0 : w32_.cell? ⟨g12, 0, none⟩ = some (.slice A15_0_ r7_0.length c15_0_) := (blk_cell Bg12.out 0).trans rfl
  have hxg12_1 : w32_.cell? ⟨g12, 1, none⟩ = some (.slice A15_1_ r7_1.length c15_1_) := (blk_cell Bg12.out 1).trans rfl
  have hfg12_0 := blk_frozen Bg12.out 0
  have hfg12_1 := blk_frozen Bg12.out 1
  have hxg13_0 : w32_.cell? ⟨g13, 0, none⟩ = some (.slice A18_0_ r8_0.length c18_0_) := (blk_cell Bg13.out 0).trans rfl
  have hxg13_1 : w32_.cell? ⟨g13, 1, none⟩ = some (.slice A18_1_ r8_1.length c18_1_) := (blk_cell Bg13.out 1).trans rfl
  have hfg13_0 := blk_frozen Bg13.out 0
  have hfg13_1 := blk_frozen Bg13.out 1
  clear hk hb0
  go_wp2_with (first | (go_at_call 44; refine hold ?_))
  unfold Hold
  refine (markQuery_calls (fun k_ => w14_.heap.size ≤ k_ ∧ k_ < w15_.heap.size) (.slice A15_0_ r7_0.length c15_0_) (.slice A15_1_ r7_1.length c15_1_) r7_0 r7_1 r15_0 r16_0 r16_1 r16_2 w _ HB.out (Kd.R_mono O15_0.out (fun _ h_ => h_.1)) (Kd.S_mono O15_1.out (fun _ h_ => ⟨h_.1, h_.2⟩)) e16_hz0.out Ee16.out).mono ?_
  rintro e w33_ ⟨rfl, ho0, ho1, hb0, hk⟩
  have n_ := Aside0.mk (show Kd.R (Kd.int .i64) 3 w33_ w.heap.size (fun k_ => (w14_.heap.size ≤ k_ ∧ k_ < w15_.heap.size) ∧ True) (.slice A15_0_ r7_0.length c15_0_) r16_1 from Kd.R_mono (Kd.R_tight2 rfl ho0) (fun k_ hk_ => ⟨(O15_0.out.1 k_ hk_.1.symm).1, trivial⟩)); clear O15_0; have O15_0 := n_; clear n_
  have n_ := Aside0.mk (show Kd.S k97 97 w33_ w.heap.size (fun k_ => (w14_.heap.size ≤ k_ ∧ k_ < w15_.heap.size) ∧ some k_ ≠ (.slice A15_0_ r7_0.length c15_0_ : Value).ownBlock) (.slice A15_1_ r7_1.length c15_1_) r16_2 from Kd.S_mono ho1 (fun _ hk_ => ⟨hk_.1, hk_.2⟩)); clear O15_1; have O15_1 := n_; clear n_
  clear ho0
  clear ho1
  have Z33_ := Aside0.mk (show w32_.heap.size ≤ w33_.heap.size from hk.1)
  have n_ := Aside0.mk (Kd.R_kept O8_0.out hk (fun k_ hk1 hk2 => by obtain ⟨a1_, a2_⟩ := hk1.1; obtain ⟨b1_, b2_⟩ := hk2; have z9_ := Z9_.out; have z10_ := Z10_.out; have z11_ := Z11_.out; have z12_ := Z12_.out; have z13_ := Z13_.out; have z14_ := Z14_.out; omega)); clear O8_0; have O8_0 := n_; clear n_
  have n_ := Aside0.mk (Kd.R_kept O9_0.out hk (fun k_ hk1 hk2 => by obtain ⟨a1_, a2_⟩ := hk1.1; obtain ⟨b1_, b2_⟩ := hk2; have z10_ := Z10_.out; have z11_ := Z11_.out; have z12_ := Z12_.out; have z13_ := Z13_.out; have z14_ := Z14_.out; omega)); clear O9_0; have O9_0 := n_; clear n_
  have n_ := Aside0.mk (Kd.S_kept O9_1.out hk (fun k_ hk1 hk2 => by obtain ⟨a1_, a2_⟩ := hk1.1; obtain ⟨b1_, b2_⟩ := hk2; have z10_ := Z10_.out; have z11_ := Z11_.out; have z12_ := Z12_.out; have z13_ := Z13_.out; have z14_ := Z14_.out; omega)); clear O9_1; have O9_1 := n_; clear n_
  have n_ := Aside0.mk (Kd.R_kept O10_0.out hk (fun k_ hk1 hk2 => by obtain ⟨a1_, a2_⟩ := hk1.1; obtain ⟨b1_, b2_⟩ := hk2; have z11_ := Z11_.out; have z12_ := Z12_.out; have z13_ := Z13_.out; have z14_ := Z14_.out; omega)); clear O10_0; have O10_0 := n_; clear n_
  have n_ := Aside0.mk (Kd.S_kept O10_1.out hk (fun k_ hk1 hk2 => by obtain ⟨a1_, a2_⟩ := hk1.1; obtain ⟨b1_, b2_⟩ := hk2; have z11_ := Z11_.out; have z12_ := Z12_.out; have z13_ := Z13_.out; have z14_ := Z14_.out; omega)); clear O10_1; have O10_1 := n_; clear n_
  have n_ := Aside0.mk (Kd.R_kept O11_0.out hk (fun k_ hk1 hk2 => by obtain ⟨a1_, a2_⟩ := hk1.1; obtain ⟨b1_, b2_⟩ := hk2; have z12_ := Z12_.out; have z13_ := Z13_.out; have z14_ := Z14_.out; omega)); clear O11_0; have O11_0 := n_; clear n_
  have n_ := Aside0.mk (Kd.R_kept O12_0.out hk (fun k_ hk1 hk2 => by obtain ⟨a1_, a2_⟩ := hk1.1; obtain ⟨b1_, b2_⟩ := hk2; have z13_ := Z13_.out; have z14_ := Z14_.out; omega)); clear O12_0; have O12_0 := n_; clear n_
  have n_ := Aside0.mk (Kd.R_kept O18_0.out hk (fun k_ hk1 hk2 => by obtain ⟨a1_, a2_⟩ := hk1.1; obtain ⟨b1_, b2_⟩ := hk2; have z16_ := Z16_.out; have z17_ := Z17_.out; omega)); clear O18_0; have O18_0 := n_; clear n_
  have n_ := Aside0.mk (Kd.S_kept O18_1.out hk (fun k_ hk1 hk2 => by obtain ⟨a1_, a2_⟩ := hk1.1; obtain ⟨b1_, b2_⟩ := hk2; have z16_ := Z16_.out; have z17_ := Z17_.out; omega)); clear O18_1; have O18_1 := n_; clear n_
  have n_ := Aside0.mk (Kd.R_kept O21_0.out hk (fun k_ hk1 hk2 => by obtain ⟨a1_, a2_⟩ := hk1.1; obtain ⟨b1_, b2_⟩ := hk2; have z16_ := Z16_.out; have z17_ := Z17_.out; have z18_ := Z18_.out; have z19_ := Z19_.out; have z20_ := Z20_.out; omega)); clear O21_0; have O21_0 := n_; clear n_
  have n_ := Aside0.mk (Kd.R_kept O24_0.out hk (fun k_ hk1 hk2 => by obtain ⟨a1_, a2_⟩ := hk1.1; obtain ⟨b1_, b2_⟩ := hk2; have z16_ := Z16_.out; have z17_ := Z17_.out; have z18_ := Z18_.out; have z19_ := Z19_.out; have z20_ := Z20_.out; have z21_ := Z21_.out; have z22_ := Z22_.out; have z23_ := Z23_.out; omega)); clear O24_0; have O24_0 := n_; clear n_
  have n_ := Aside0.mk (Kd.R_kept O27_0.out hk (fun k_ hk1 hk2 => by obtain ⟨a1_, a2_⟩ := hk1.1; obtain ⟨b1_, b2_⟩ := hk2; have z16_ := Z16_.out; have z17_ := Z17_.out; have z18_ := Z18_.out; have z19_ := Z19_.out; have z20_ := Z20_.out; have z21_ := Z21_.out; have z22_ := Z22_.out; have z23_ := Z23_.out; have z24_ := Z24_.out; have z25_ := Z25_.out; have z26_ := Z26_.out; omega)); clear O27_0; have O27_0 := n_; clear n_
  have n_ := Aside0.mk (Kd.S_kept O27_1.out hk (fun k_ hk1 hk2 => by obtain ⟨a1_, a2_⟩ := hk1.1; obtain ⟨b1_, b2_⟩ := hk2; have z16_ := Z16_.out; have z17_ := Z17_.out; have z18_ := Z18_.out; have z19_ := Z19_.out; have z20_ := Z20_.out; have z21_ := Z21_.out; have z22_ := Z22_.out; have z23_ := Z23_.out; have z24_ := Z24_.out; have z25_ := Z25_.out; have z26_ := Z26_.out; omega)); clear O27_1; have O27_1 := n_; clear n_
  have n_ := Aside0.mk (Kd.R_kept O30_0.out hk (fun k_ hk1 hk2 => by obtain ⟨a1_, a2_⟩ := hk1.1; obtain ⟨b1_, b2_⟩ := hk2; have z16_ := Z16_.out; have z17_ := Z17_.out; have z18_ := Z18_.out; have z19_ := Z19_.out; have z20_ := Z20_.out; have z21_ := Z21_.out; have z22_ := Z22_.out; have z23_ := Z23_.out; have z24_ := Z24_.out; have z25_ := Z25_.out; have z26_ := Z26_.out; have z27_ := Z27_.out; have z28_ := Z28_.out; have z29_ := Z29_.out; omega)); clear O30_0; have O30_0 := n_; clear n_
  have n_ := Aside0.mk (Kd.S_kept O30_1.out hk (fun k_ hk1 hk2 => by obtain ⟨a1_, a2_⟩ := hk1.1; obtain ⟨b1_, b2_⟩ := hk2; have z16_ := Z16_.out; have z17_ := Z17_.out; have z18_ := Z18_.out; have z19_ := Z19_.out; have z20_ := Z20_.out; have z21_ := Z21_.out; have z22_ := Z22_.out; have z23_ := Z23_.out; have z24_ := Z24_.out; have z25_ := Z25_.out; have z26_ := Z26_.out; have z27_ := Z27_.out; have z28_ := Z28_.out; have z29_ := Z29_.out; omega)); clear O30_1; have O30_1 := n_; clear n_
  have n_ := Aside0.mk (blk_kept Bg1.out hk (fun hk2 => by obtain ⟨a1_, a2_⟩ := Gg1.out; obtain ⟨b1_, b2_⟩ := hk2; have z2_ := Z2_.out; have z3_ := Z3_.out; have z4_ := Z4_.out; have z5_ := Z5_.out; have z6_ := Z6_.out; have z7_ := Z7_.out; have z8_ := Z8_.out; have z9_ := Z9_.out; have z10_ := Z10_.out; have z11_ := Z11_.out; have z12_ := Z12_.out; have z13_ := Z13_.out; have z14_ := Z14_.out; omega)); clear Bg1; have Bg1 := n_; clear n_
  have n_ := Aside0.mk (blk_kept Bg2.out hk (fun hk2 => by obtain ⟨a1_, a2_⟩ := Gg2.out; obtain ⟨b1_, b2_⟩ := hk2; have z3_ := Z3_.out; have z4_ := Z4_.out; have z5_ := Z5_.out; have z6_ := Z6_.out; have z7_ := Z7_.out; have z8_ := Z8_.out; have z9_ := Z9_.out; have z10_ := Z10_.out; have z11_ := Z11_.out; have z12_ := Z12_.out; have z13_ := Z13_.out; have z14_ := Z14_.out; omega)); clear Bg2; have Bg2 := n_; clear n_
  have n_ := Aside0.mk (blk_kept Bg3.out hk (fun hk2 => by obtain ⟨a1_, a2_⟩ := Gg3.out; obtain ⟨b1_, b2_⟩ := hk2; have z4_ := Z4_.out; have z5_ := Z5_.out; have z6_ := Z6_.out; have z7_ := Z7_.out; have z8_ := Z8_.out; have z9_ := Z9_.out; have z10_ := Z10_.out; have z11_ := Z11_.out; have z12_ := Z12_.out; have z13_ := Z13_.out; have z14_ := Z14_.out; omega)); clear Bg3; have Bg3 := n_; clear n_
  have n_ := Aside0.mk (blk_kept Bg11.out hk (fun hk2 => by obtain ⟨a1_, a2_⟩ := Gg11.out; obtain ⟨b1_, b2_⟩ := hk2; have z14_ := Z14_.out; omega)); clear Bg11; have Bg11 := n_; clear n_
  have n_ := Aside0.mk (blk_kept Bg12.out hk (fun hk2 => by obtain ⟨a1_, a2_⟩ := Gg12.out; obtain ⟨b1_, b2_⟩ := hk2; omega)); clear Bg12; have Bg12 := n_; clear n_
  have n_ := Aside0.mk (blk_kept Bg13.out hk (fun hk2 => by obtain ⟨a1_, a2_⟩ := Gg13.out; obtain ⟨b1_, b2_⟩ := hk2; have z16_ := Z16_.out; have z17_ := Z17_.out; have z18_ := Z18_.out; omega)); clear Bg13; have Bg13 := n_; clear n_
  clear HB; have HB := Aside0.mk hb0
  clear hxg1_0
  clear hfg1_0
  clear hxg2_0
  clear hxg2_1
  clear hfg2_0
  clear hfg2_1
  clear hxg3_0
  clear hxg3_1
  clear hfg3_0
  clear hfg3_1
  clear hxg11_0
  clear hfg11_0
  clear hxg12_0
  clear hxg12_1
  clear hfg12_0
  clear hfg12_1
  clear hxg13_0
  clear hxg13_1
  clear hfg13_0
  clear hfg13_1
  have hxg1_0 : w33_.cell? ⟨g1, 0, none⟩ = some (.slice A0_0 l0_0.length c0_0) := (blk_cell Bg1.out 0).trans rfl
  have hfg1_0 := blk_frozen Bg1.out 0
  have hxg2_0 : w33_.cell? ⟨g2, 0, none⟩ = some (.slice A1_0 l1_0.length c1_0) := (blk_cell Bg2.out 0).trans rfl
  have hxg2_1 : w33_.cell? ⟨g2, 1, none⟩ = some (.slice A1_1 l1_1.length c1_1) := (blk_cell Bg2.out 1).trans rfl
  have hfg2_0 := blk_frozen Bg2.out 0
  have hfg2_1 := blk_frozen Bg2.out 1
  have hxg3_0 : w33_.cell? ⟨g3, 0, none⟩ = some (.slice A2_0 l2_0.length c2_0) := (blk_cell Bg3.out 0).trans rfl
  have hxg3_1 : w33_.cell? ⟨g3, 1, none⟩ = some (.slice A2_1 l2_1.length c2_1) := (blk_cell Bg3.out 1).trans rfl
  have hfg3_0 := blk_frozen Bg3.out 0
  have hfg3_1 := blk_frozen Bg3.out 1
  have hxg11_0 : w33_.cell? ⟨g11, 0, none⟩ = some (.slice A12_0_ r6_0.length c12_0_) := (blk_cell Bg11.out 0).trans rfl
  have hfg11_0 := blk_frozen Bg11.out 0
  have hxg12_0 : w33_.cell? ⟨g12, 0, none⟩ = some (.slice A15_0_ r7_0.length c15_0_) := (blk_cell Bg12.out 0).trans rfl
  have hxg12_1 : w33_.cell? ⟨g12, 1, none⟩ = some (.slice A15_1_ r7_1.length c15_1_) := (blk_cell Bg12.out 1).trans rfl
  have hfg12_0 := blk_frozen Bg12.out 0
  have hfg12_1 := blk_frozen Bg12.out 1
  have hxg13_0 : w33_.cell? ⟨g13, 0, none⟩ = some (.slice A18_0_ r8_0.length c18_0_) := (blk_cell Bg13.out 0).trans rfl
  have hxg13_1 : w33_.cell? ⟨g13, 1, none⟩ = some (.slice A18_1_ r8_1.length c18_1_) := (blk_cell Bg13.out 1).trans rfl
  have hfg13_0 := blk_frozen Bg13.out 0
  have hfg13_1 := blk_frozen Bg13.out 1
  clear hk hb0
  go_wp2_with (first | (go_at_call 44; refine hold ?_))
  unfold Hold
  refine (markQuery_calls (fun k_ => w17_.heap.size ≤ k_ ∧ k_ < w18_.heap.size) (.slice A18_0_ r8_0.length c18_0_) (.slice A18_1_ r8_1.length c18_1_) r8_0 r8_1 r16_0 r17_0 r17_1 r17_2 w _ HB.out (Kd.R_mono O18_0.out (fun _ h_ => h_.1)) (Kd.S_mono O18_1.out (fun _ h_ => ⟨h_.1, h_.2⟩)) e17_hz0.out Ee17.out).mono ?_
  rintro e w34_ ⟨rfl, ho0, ho1, hb0, hk⟩
  have n_ := Aside0.mk (show Kd.R (Kd.int .i64) 3 w34_ w.heap.size (fun k_ => (w17_.heap.size ≤ k_ ∧ k_ < w18_.heap.size) ∧ True) (.slice A18_0_ r8_0.length c18_0_) r17_1 from Kd.R_mono (Kd.R_tight2 rfl ho0) (fun k_ hk_ => ⟨(O18_0.out.1 k_ hk_.1.symm).1, trivial⟩)); clear O18_0; have O18_0 := n_; clear n_
  have n_ := Aside0.mk (show Kd.S k97 97 w34_ w.heap.size (fun k_ => (w17_.heap.size ≤ k_ ∧ k_ < w18_.heap.size) ∧ some k_ ≠ (.slice A18_0_ r8_0.length c18_0_ : Value).ownBlock) (.slice A18_1_ r8_1.length c18_1_) r17_2 from Kd.S_mono ho1 (fun _ hk_ => ⟨hk_.1, hk_.2⟩)); clear O18_1; have O18_1 := n_; clear n_
  clear ho0
  clear ho1
  have Z34_ := Aside0.mk (show w33_.heap.size ≤ w34_.heap.size from hk.1)
  have n_ := Aside0.mk (Kd.R_kept O8_0.out hk (fun k_ hk1 hk2 => by obtain ⟨a1_, a2_⟩ := hk1.1; obtain ⟨b1_, b2_⟩ := hk2; have z9_ := Z9_.out; have z10_ := Z10_.out; have z11_ := Z11_.out; have z12_ := Z12_.out; have z13_ := Z13_.out; have z14_ := Z14_.out; have z15_ := Z15_.out; have z16_ := Z16_.out; have z17_ := Z17_.out; omega)); clear O8_0; have O8_0 := n_; clear n_
  have n_ := Aside0.mk (Kd.R_kept O9_0.out hk (fun k_ hk1 hk2 => by obtain ⟨a1_, a2_⟩ := hk1.1; obtain ⟨b1_, b2_⟩ := hk2; have z10_ := Z10_.out; have z11_ := Z11_.out; have z12_ := Z12_.out; have z13_ := Z13_.out; have z14_ := Z14_.out; have z15_ := Z15_.out; have z16_ := Z16_.out; have z17_ := Z17_.out; omega)); clear O9_0; have O9_0 := n_; clear n_
  have n_ := Aside0.mk (Kd.S_kept O9_1.out hk (fun k_ hk1 hk2 => by obtain ⟨a1_, a2_⟩ := hk1.1; obtain ⟨b1_, b2_⟩ := hk2; have z10_ := Z10_.out; have z11_ := Z11_.out; have z12_ := Z12_.out; have z13_ := Z13_.out; have z14_ := Z14_.out; have z15_ := Z15_.out; have z16_ := Z16_.out; have z17_ := Z17_.out; omega)); clear O9_1; have O9_1 := n_; clear n_
  have n_ := Aside0.mk (Kd.R_kept O10_0.out hk (fun k_ hk1 hk2 => by obtain ⟨a1_, a2_⟩ := hk1.1; obtain ⟨b1_, b2_⟩ := hk2; have z11_ := Z11_.out; have z12_ := Z12_.out; have z13_ := Z13_.out; have z14_ := Z14_.out; have z15_ := Z15_.out; have z16_ := Z16_.out; have z17_ := Z17_.out; omega)); clear O10_0; have O10_0 := n_; clear n_
  have n_ := Aside0.mk (Kd.S_kept O10_1.out hk (fun k_ hk1 hk2 => by obtain ⟨a1_, a2_⟩ := hk1.1; obtain ⟨b1_, b2_⟩ := hk2; have z11_ := Z11_.out; have z12_ := Z12_.out; have z13_ := Z13_.out; have z14_ := Z14_.out; have z15_ := Z15_.out; have z16_ := Z16_.out; have z17_ := Z17_.out; omega)); clear O10_1; have O10_1 := n_; clear n_
  have n_ := Aside0.mk (Kd.R_kept O11_0.out hk (fun k_ hk1 hk2 => by obtain ⟨a1_, a2_⟩ := hk1.1; obtain ⟨b1_, b2_⟩ := hk2; have z12_ := Z12_.out; have z13_ := Z13_.out; have z14_ := Z14_.out; have z15_ := Z15_.out; have z16_ := Z16_.out; have z17_ := Z17_.out; omega)); clear O11_0; have O11_0 := n_; clear n_
  have n_ := Aside0.mk (Kd.R_kept O12_0.out hk (fun k_ hk1 hk2 => by obtain ⟨a1_, a2_⟩ := hk1.1; obtain ⟨b1_, b2_⟩ := hk2; have z13_ := Z13_.out; have z14_ := Z14_.out; have z15_ := Z15_.out; have z16_ := Z16_.out; have z17_ := Z17_.out; omega)); clear O12_0; have O12_0 := n_; clear n_
  have n_ := Aside0.mk (Kd.R_kept O15_0.out hk (fun k_ hk1 hk2 => by obtain ⟨a1_, a2_⟩ := hk1.1; obtain ⟨b1_, b2_⟩ := hk2; have z16_ := Z16_.out; have z17_ := Z17_.out; omega)); clear O15_0; have O15_0 := n_; clear n_
  have n_ := Aside0.mk (Kd.S_kept O15_1.out hk (fun k_ hk1 hk2 => by obtain ⟨a1_, a2_⟩ := hk1.1; obtain ⟨b1_, b2_⟩ := hk2; have z16_ := Z16_.out; have z17_ := Z17_.out; omega)); clear O15_1; have O15_1 := n_; clear n_
  have n_ := Aside0.mk (Kd.R_kept O21_0.out hk (fun k_ hk1 hk2 => by obtain ⟨a1_, a2_⟩ := hk1.1; obtain ⟨b1_, b2_⟩ := hk2; have z19_ := Z19_.out; have z20_ := Z20_.out; omega)); clear O21_0; have O21_0 := n_; clear n_
  have n_ := Aside0.mk (Kd.R_kept O24_0.out hk (fun k_ hk1 hk2 => by obtain ⟨a1_, a2_⟩ := hk1.1; obtain ⟨b1_, b2_⟩ := hk2; have z19_ := Z19_.out; have z20_ := Z20_.out; have z21_ := Z21_.out; have z22_ := Z22_.out; have z23_ := Z23_.out; omega)); clear O24_0; have O24_0 := n_; clear n_
  have n_ := Aside0.mk (Kd.R_kept O27_0.out hk (fun k_ hk1 hk2 => by obtain ⟨a1_, a2_⟩ := hk1.1; obtain ⟨b1_, b2_⟩ := hk2; have z19_ := Z19_.out; have z20_ := Z20_.out; have z21_ := Z21_.out; have z22_ := Z22_.out; have z23_ := Z23_.out; have z24_ := Z24_.out; have z25_ := Z25_.out; have z26_ := Z26_.out; omega)); clear O27_0; have O27_0 := n_; clear n_
  have n_ := Aside0.mk (Kd.S_kept O27_1.out hk (fun k_ hk1 hk2 => by obtain ⟨a1_, a2_⟩ := hk1.1; obtain ⟨b1_, b2_⟩ := hk2; have z19_ := Z19_.out; have z20_ := Z20_.out; have z21_ := Z21_.out; have z22_ := Z22_.out; have z23_ := Z23_.out; have z24_ := Z24_.out; have z25_ := Z25_.out; have z26_ := Z26_.out; omega)); clear O27_1; have O27_1 := n_; clear n_
  have n_ := Aside0.mk (Kd.R_kept O30_0.out hk (fun k_ hk1 hk2 => by obtain ⟨a1_, a2_⟩ := hk1.1; obtain ⟨b1_, b2_⟩ := hk2; have z19_ := Z19_.out; have z20_ := Z20_.out; have z21_ := Z21_.out; have z22_ := Z22_.out; have z23_ := Z23_.out; have z24_ := Z24_.out; have z25_ := Z25_.out; have z26_ := Z26_.out; have z27_ := Z27_.out; have z28_ := Z28_.out; have z29_ := Z29_.out; omega)); clear O30_0; have O30_0 := n_; clear n_
  have n_ := Aside0.mk (Kd.S_kept O30_1.out hk (fun k_ hk1 hk2 => by obtain ⟨a1_, a2_⟩ := hk1.1; obtain ⟨b1_, b2_⟩ := hk2; have z19_ := Z19_.out; have z20_ := Z20_.out; have z21_ := Z21_.out; have z22_ := Z22_.out; have z23_ := Z23_.out; have z24_ := Z24_.out; have z25_ := Z25_.out; have z26_ := Z26_.out; have z27_ := Z27_.out; have z28_ := Z28_.out; have z29_ := Z29_.out; omega)); clear O30_1; have O30_1 := n_; clear n_
  have n_ := Aside0.mk (blk_kept Bg1.out hk (fun hk2 => by obtain ⟨a1_, a2_⟩ := Gg1.out; obtain ⟨b1_, b2_⟩ := hk2; have z2_ := Z2_.out; have z3_ := Z3_.out; have z4_ := Z4_.out; have z5_ := Z5_.out; have z6_ := Z6_.out; have z7_ := Z7_.out; have z8_ := Z8_.out; have z9_ := Z9_.out; have z10_ := Z10_.out; have z11_ := Z11_.out; have z12_ := Z12_.out; have z13_ := Z13_.out; have z14_ := Z14_.out; have z15_ := Z15_.out; have z16_ := Z16_.out; have z17_ := Z17_.out; omega)); clear Bg1; have Bg1 := n_; clear n_
  have n_ := Aside0.mk (blk_kept Bg2.out hk (fun hk2 => by obtain ⟨a1_, a2_⟩ := Gg2.out; obtain ⟨b1_, b2_⟩ := hk2; have z3_ := Z3_.out; have z4_ := Z4_.out; have z5_ := Z5_.out; have z6_ := Z6_.out; have z7_ := Z7_.out; have z8_ := Z8_.out; have z9_ := Z9_.out; have z10_ := Z10_.out; have z11_ := Z11_.out; have z12_ := Z12_.out; have z13_ := Z13_.out; have z14_ := Z14_.out; have z15_ := Z15_.out; have z16_ := Z16_.out; have z17_ := Z17_.out; omega)); clear Bg2; have Bg2 := n_; clear n_
  have n_ := Aside0.mk (blk_kept Bg3.out hk (fun hk2 => by obtain ⟨a1_, a2_⟩ := Gg3.out; obtain ⟨b1_, b2_⟩ := hk2; have z4_ := Z4_.out; have z5_ := Z5_.out; have z6_ := Z6_.out; have z7_ := Z7_.out; have z8_ := Z8_.out; have z9_ := Z9_.out; have z10_ := Z10_.out; have z11_ := Z11_.out; have z12_ := Z12_.out; have z13_ := Z13_.out; have z14_ := Z14_.out; have z15_ := Z15_.out; have z16_ := Z16_.out; have z17_ := Z17_.out; omega)); clear Bg3; have Bg3 := n_; clear n_
  have n_ := Aside0.mk (blk_kept Bg11.out hk (fun hk2 => by obtain ⟨a1_, a2_⟩ := Gg11.out; obtain ⟨b1_, b2_⟩ := hk2; have z14_ := Z14_.out; have z15_ := Z15_.out; have z16_ := Z16_.out; have z17_ := Z17_.out; omega)); clear Bg11; have Bg11 := n_; clear n_
  have n_ := Aside0.mk (blk_kept Bg12.out hk (fun hk2 => by obtain ⟨a1_, a2_⟩ := Gg12.out; obtain ⟨b1_, b2_⟩ := hk2; have z17_ := Z17_.out; omega)); clear Bg12; have Bg12 := n_; clear n_
  have n_ := Aside0.mk (blk_kept Bg13.out hk (fun hk2 => by obtain ⟨a1_, a2_⟩ := Gg13.out; obtain ⟨b1_, b2_⟩ := hk2; omega)); clear Bg13; have Bg13 := n_; clear n_
  clear HB; have HB := Aside0.mk hb0
  clear hxg1_0
  clear hfg1_0
  clear hxg2_0
  clear hxg2_1
  clear hfg2_0
  clear hfg2_1
  clear hxg3_0
  clear hxg3_1
  clear hfg3_0
  clear hfg3_1
  clear hxg11_0
  clear hfg11_0
  clear hxg12_0
  clear hxg12_1
  clear hfg12_0
  clear hfg12_1
  clear hxg13_0
  clear hxg13_1
  clear hfg13_0
  clear hfg13_1
  have hxg1_0 : w34_.cell? ⟨g1, 0, none⟩ = some (.slice A0_0 l0_0.length c0_0) := (blk_cell Bg1.out 0).trans rfl
  have hfg1_0 := blk_frozen Bg1.out 0
  have hxg2_0 : w34_.cell? ⟨g2, 0, none⟩ = some (.slice A1_0 l1_0.length c1_0) := (blk_cell Bg2.out 0).trans rfl
  have hxg2_1 : w34_.cell? ⟨g2, 1, none⟩ = some (.slice A1_1 l1_1.length c1_1) := (blk_cell Bg2.out 1).trans rfl
  have hfg2_0 := blk_frozen Bg2.out 0
  have hfg2_1 := blk_frozen Bg2.out 1
  have hxg3_0 : w34_.cell? ⟨g3, 0, none⟩ = some (.slice A2_0 l2_0.length c2_0) := (blk_cell Bg3.out 0).trans rfl
  have hxg3_1 : w34_.cell? ⟨g3, 1, none⟩ = some (.slice A2_1 l2_1.length c2_1) := (blk_cell Bg3.out 1).trans rfl
  have hfg3_0 := blk_frozen Bg3.out 0
  have hfg3_1 := blk_frozen Bg3.out 1
  have hxg11_0 : w34_.cell? ⟨g11, 0, none⟩ = some (.slice A12_0_ r6_0.length c12_0_) := (blk_cell Bg11.out 0).trans rfl
  have hfg11_0 := blk_frozen Bg11.out 0
  have hxg12_0 : w34_.cell? ⟨g12, 0, none⟩ = some (.slice A15_0_ r7_0.length c15_0_) := (blk_cell Bg12.out 0).trans rfl
  have hxg12_1 : w34_.cell? ⟨g12, 1, none⟩ = some (.slice A15_1_ r7_1.length c15_1_) := (blk_cell Bg12.out 1).trans rfl
  have hfg12_0 := blk_frozen Bg12.out 0
  have hfg12_1 := blk_frozen Bg12.out 1
  have hxg13_0 : w34_.cell? ⟨g13, 0, none⟩ = some (.slice A18_0_ r8_0.length c18_0_) := (blk_cell Bg13.out 0).trans rfl
  have hxg13_1 : w34_.cell? ⟨g13, 1, none⟩ = some (.slice A18_1_ r8_1.length c18_1_) := (blk_cell Bg13.out 1).trans rfl
  have hfg13_0 := blk_frozen Bg13.out 0
  have hfg13_1 := blk_frozen Bg13.out 1
  clear hk hb0
  go_wp2_with (first | (go_at_call 43; refine hold ?_))
  unfold Hold
  refine (laws_eqIntS.calls ke11 _ _ r9_0 _ _ r9_0 true _ (Kd.R_reads' O21_0.out).2.2 (Kd.R_reads' O21_0.out).2.1 (Kd.R_reads' O11_0.out).2.2 (Kd.R_reads' O11_0.out).2.1 Ee11.out).mono ?_
  rintro e w35_ ⟨rfl, hd⟩
  have hb := hd.below; clear hd
  have Z35_ := Aside0.mk (show w34_.heap.size ≤ w35_.heap.size from hb.size)
  have n_ := Aside0.mk (Kd.R_below O8_0.out hb); clear O8_0; have O8_0 := n_; clear n_
  have n_ := Aside0.mk (Kd.R_below O9_0.out hb); clear O9_0; have O9_0 := n_; clear n_
  have n_ := Aside0.mk (Kd.S_below O9_1.out hb); clear O9_1; have O9_1 := n_; clear n_
  have n_ := Aside0.mk (Kd.R_below O10_0.out hb); clear O10_0; have O10_0 := n_; clear n_
  have n_ := Aside0.mk (Kd.S_below O10_1.out hb); clear O10_1; have O10_1 := n_; clear n_
  have n_ := Aside0.mk (Kd.R_below O11_0.out hb); clear O11_0; have O11_0 := n_; clear n_
  have n_ := Aside0.mk (Kd.R_below O12_0.out hb); clear O12_0; have O12_0 := n_; clear n_
  have n_ := Aside0.mk (Kd.R_below O15_0.out hb); clear O15_0; have O15_0 := n_; clear n_
  have n_ := Aside0.mk (Kd.S_below O15_1.out hb); clear O15_1; have O15_1 := n_; clear n_
  have n_ := Aside0.mk (Kd.R_below O18_0.out hb); clear O18_0; have O18_0 := n_; clear n_
  have n_ := Aside0.mk (Kd.S_below O18_1.out hb); clear O18_1; have O18_1 := n_; clear n_
  have n_ := Aside0.mk (Kd.R_below O21_0.out hb); clear O21_0; have O21_0 := n_; clear n_
  have n_ := Aside0.mk (Kd.R_below O24_0.out hb); clear O24_0; have O24_0 := n_; clear n_
  have n_ := Aside0.mk (Kd.R_below O27_0.out hb); clear O27_0; have O27_0 := n_; clear n_
  have n_ := Aside0.mk (Kd.S_below O27_1.out hb); clear O27_1; have O27_1 := n_; clear n_
  have n_ := Aside0.mk (Kd.R_below O30_0.out hb); clear O30_0; have O30_0 := n_; clear n_
  have n_ := Aside0.mk (Kd.S_below O30_1.out hb); clear O30_1; have O30_1 := n_; clear n_
  have n_ := Aside0.mk (blk_below Bg1.out hb); clear Bg1; have Bg1 := n_; clear n_
  have n_ := Aside0.mk (blk_below Bg2.out hb); clear Bg2; have Bg2 := n_; clear n_
  have n_ := Aside0.mk (blk_below Bg3.out hb); clear Bg3; have Bg3 := n_; clear n_
  have n_ := Aside0.mk (blk_below Bg11.out hb); clear Bg11; have Bg11 := n_; clear n_
  have n_ := Aside0.mk (blk_below Bg12.out hb); clear Bg12; have Bg12 := n_; clear n_
  have n_ := Aside0.mk (blk_below Bg13.out hb); clear Bg13; have Bg13 := n_; clear n_
  have n_ := Aside0.mk (below_step HB.out hb); clear HB; have HB := n_; clear n_
  clear hxg1_0
  clear hfg1_0
  clear hxg2_0
  clear hxg2_1
  clear hfg2_0
  clear hfg2_1
  clear hxg3_0
  clear hxg3_1
  clear hfg3_0
  clear hfg3_1
  clear hxg11_0
  clear hfg11_0
  clear hxg12_0
  clear hxg12_1
  clear hfg12_0
  clear hfg12_1
  clear hxg13_0
  clear hxg13_1
  clear hfg13_0
  clear hfg13_1
  have hxg1_0 : w35_.cell? ⟨g1, 0, none⟩ = some (.slice A0_0 l0_0.length c0_0) := (blk_cell Bg1.out 0).trans rfl
  have hfg1_0 := blk_frozen Bg1.out 0
  have hxg2_0 : w35_.cell? ⟨g2, 0, none⟩ = some (.slice A1_0 l1_0.length c1_0) := (blk_cell Bg2.out 0).trans rfl
  have hxg2_1 : w35_.cell? ⟨g2, 1, none⟩ = some (.slice A1_1 l1_1.length c1_1) := (blk_cell Bg2.out 1).trans rfl
  have hfg2_0 := blk_frozen Bg2.out 0
  have hfg2_1 := blk_frozen Bg2.out 1
  have hxg3_0 : w35_.cell? ⟨g3, 0, none⟩ = some (.slice A2_0 l2_0.length c2_0) := (blk_cell Bg3.out 0).trans rfl
  have hxg3_1 : w35_.cell? ⟨g3, 1, none⟩ = some (.slice A2_1 l2_1.length c2_1) := (blk_cell Bg3.out 1).trans rfl
  have hfg3_0 := blk_frozen Bg3.out 0
  have hfg3_1 := blk_frozen Bg3.out 1
  have hxg11_0 : w35_.cell? ⟨g11, 0, none⟩ = some (.slice A12_0_ r6_0.length c12_0_) := (blk_cell Bg11.out 0).trans rfl
  have hfg11_0 := blk_frozen Bg11.out 0
  have hxg12_0 : w35_.cell? ⟨g12, 0, none⟩ = some (.slice A15_0_ r7_0.length c15_0_) := (blk_cell Bg12.out 0).trans rfl
  have hxg12_1 : w35_.cell? ⟨g12, 1, none⟩ = some (.slice A15_1_ r7_1.length c15_1_) := (blk_cell Bg12.out 1).trans rfl
  have hfg12_0 := blk_frozen Bg12.out 0
  have hfg12_1 := blk_frozen Bg12.out 1
  have hxg13_0 : w35_.cell? ⟨g13, 0, none⟩ = some (.slice A18_0_ r8_0.length c18_0_) := (blk_cell Bg13.out 0).trans rfl
  have hxg13_1 : w35_.cell? ⟨g13, 1, none⟩ = some (.slice A18_1_ r8_1.length c18_1_) := (blk_cell Bg13.out 1).trans rfl
  have hfg13_0 := blk_frozen Bg13.out 0
  have hfg13_1 := blk_frozen Bg13.out 1
  clear hb
  go_wp2_with (first | (go_at_call 45; refine hold ?_))
  unfold Hold
  refine (laws_markIntS.calls ke19 (fun k_ => w20_.heap.size ≤ k_ ∧ k_ < w21_.heap.size) (.slice A21_0_ r9_0.length c21_0_) r9_0 1 r19_0 r19_1 w _ HB.out (Kd.R_mono O21_0.out (fun _ h_ => h_.1)) Ee19.out).mono ?_
  rintro e w36_ ⟨rfl, ho0, hb0, hk⟩
  have n_ := Aside0.mk (show Kd.R (Kd.int .i64) 3 w36_ w.heap.size (fun k_ => (w20_.heap.size ≤ k_ ∧ k_ < w21_.heap.size) ∧ True) (.slice A21_0_ r9_0.length c21_0_) r19_1 from Kd.R_mono (Kd.R_tight2 rfl ho0) (fun k_ hk_ => ⟨(O21_0.out.1 k_ hk_.1.symm).1, trivial⟩)); clear O21_0; have O21_0 := n_; clear n_
  clear ho0
  have Z36_ := Aside0.mk (show w35_.heap.size ≤ w36_.heap.size from hk.1)
  have n_ := Aside0.mk (Kd.R_kept O8_0.out hk (fun k_ hk1 hk2 => by obtain ⟨a1_, a2_⟩ := hk1.1; obtain ⟨b1_, b2_⟩ := hk2; have z9_ := Z9_.out; have z10_ := Z10_.out; have z11_ := Z11_.out; have z12_ := Z12_.out; have z13_ := Z13_.out; have z14_ := Z14_.out; have z15_ := Z15_.out; have z16_ := Z16_.out; have z17_ := Z17_.out; have z18_ := Z18_.out; have z19_ := Z19_.out; have z20_ := Z20_.out; omega)); clear O8_0; have O8_0 := n_; clear n_
  have n_ := Aside0.mk (Kd.R_kept O9_0.out hk (fun k_ hk1 hk2 => by obtain ⟨a1_, a2_⟩ := hk1.1; obtain ⟨b1_, b2_⟩ := hk2; have z10_ := Z10_.out; have z11_ := Z11_.out; have z12_ := Z12_.out; have z13_ := Z13_.out; have z14_ := Z14_.out; have z15_ := Z15_.out; have z16_ := Z16_.out; have z17_ := Z17_.out; have z18_ := Z18_.out; have z19_ := Z19_.out; have z20_ := Z20_.out; omega)); clear O9_0; have O9_0 := n_; clear n_
  have n_ := Aside0.mk (Kd.S_kept O9_1.out hk (fun k_ hk1 hk2 => by obtain ⟨a1_, a2_⟩ := hk1.1; obtain ⟨b1_, b2_⟩ := hk2; have z10_ := Z10_.out; have z11_ := Z11_.out; have z12_ := Z12_.out; have z13_ := Z13_.out; have z14_ := Z14_.out; have z15_ := Z15_.out; have z16_ := Z16_.out; have z17_ := Z17_.out; have z18_ := Z18_.out; have z19_ := Z19_.out; have z20_ := Z20_.out; omega)); clear O9_1; have O9_1 := n_; clear n_
  have n_ := Aside0.mk (Kd.R_kept O10_0.out hk (fun k_ hk1 hk2 => by obtain ⟨a1_, a2_⟩ := hk1.1; obtain ⟨b1_, b2_⟩ := hk2; have z11_ := Z11_.out; have z12_ := Z12_.out; have z13_ := Z13_.out; have z14_ := Z14_.out; have z15_ := Z15_.out; have z16_ := Z16_.out; have z17_ := Z17_.out; have z18_ := Z18_.out; have z19_ := Z19_.out; have z20_ := Z20_.out; omega)); clear O10_0; have O10_0 := n_; clear n_
  have n_ := Aside0.mk (Kd.S_kept O10_1.out hk (fun k_ hk1 hk2 => by obtain ⟨a1_, a2_⟩ := hk1.1; obtain ⟨b1_, b2_⟩ := hk2; have z11_ := Z11_.out; have z12_ := Z12_.out; have z13_ := Z13_.out; have z14_ := Z14_.out; have z15_ := Z15_.out; have z16_ := Z16_.out; have z17_ := Z17_.out; have z18_ := Z18_.out; have z19_ := Z19_.out; have z20_ := Z20_.out; omega)); clear O10_1; have O10_1 := n_; clear n_
  have n_ := Aside0.mk (Kd.R_kept O11_0.out hk (fun k_ hk1 hk2 => by obtain ⟨a1_, a2_⟩ := hk1.1; obtain ⟨b1_, b2_⟩ := hk2; have z12_ := Z12_.out; have z13_ := Z13_.out; have z14_ := Z14_.out; have z15_ := Z15_.out; have z16_ := Z16_.out; have z17_ := Z17_.out; have z18_ := Z18_.out; have z19_ := Z19_.out; have z20_ := Z20_.out; omega)); clear O11_0; have O11_0 := n_; clear n_
  have n_ := Aside0.mk (Kd.R_kept O12_0.out hk (fun k_ hk1 hk2 => by obtain ⟨a1_, a2_⟩ := hk1.1; obtain ⟨b1_, b2_⟩ := hk2; have z13_ := Z13_.out; have z14_ := Z14_.out; have z15_ := Z15_.out; have z16_ := Z16_.out; have z17_ := Z17_.out; have z18_ := Z18_.out; have z19_ := Z19_.out; have z20_ := Z20_.out; omega)); clear O12_0; have O12_0 := n_; clear n_
  have n_ := Aside0.mk (Kd.R_kept O15_0.out hk (fun k_ hk1 hk2 => by obtain ⟨a1_, a2_⟩ := hk1.1; obtain ⟨b1_, b2_⟩ := hk2; have z16_ := Z16_.out; have z17_ := Z17_.out; have z18_ := Z18_.out; have z19_ := Z19_.out; have z20_ := Z20_.out; omega)); clear O15_0; have O15_0 := n_; clear n_
  have n_ := Aside0.mk (Kd.S_kept O15_1.out hk (fun k_ hk1 hk2 => by obtain ⟨a1_, a2_⟩ := hk1.1; obtain ⟨b1_, b2_⟩ := hk2; have z16_ := Z16_.out; have z17_ := Z17_.out; have z18_ := Z18_.out; have z19_ := Z19_.out; have z20_ := Z20_.out; omega)); clear O15_1; have O15_1 := n_; clear n_
  have n_ := Aside0.mk (Kd.R_kept O18_0.out hk (fun k_ hk1 hk2 => by obtain ⟨a1_, a2_⟩ := hk1.1; obtain ⟨b1_, b2_⟩ := hk2; have z19_ := Z19_.out; have z20_ := Z20_.out; omega)); clear O18_0; have O18_0 := n_; clear n_
  have n_ := Aside0.mk (Kd.S_kept O18_1.out hk (fun k_ hk1 hk2 => by obtain ⟨a1_, a2_⟩ := hk1.1; obtain ⟨b1_, b2_⟩ := hk2; have z19_ := Z19_.out; have z20_ := Z20_.out; omega)); clear O18_1; have O18_1 := n_; clear n_
  have n_ := Aside0.mk (Kd.R_kept O24_0.out hk (fun k_ hk1 hk2 => by obtain ⟨a1_, a2_⟩ := hk1.1; obtain ⟨b1_, b2_⟩ := hk2; have z22_ := Z22_.out; have z23_ := Z23_.out; omega)); clear O24_0; have O24_0 := n_; clear n_
  have n_ := Aside0.mk (Kd.R_kept O27_0.out hk (fun k_ hk1 hk2 => by obtain ⟨a1_, a2_⟩ := hk1.1; obtain ⟨b1_, b2_⟩ := hk2; have z22_ := Z22_.out; have z23_ := Z23_.out; have z24_ := Z24_.out; have z25_ := Z25_.out; have z26_ := Z26_.out; omega)); clear O27_0; have O27_0 := n_; clear n_
  have n_ := Aside0.mk (Kd.S_kept O27_1.out hk (fun k_ hk1 hk2 => by obtain ⟨a1_, a2_⟩ := hk1.1; obtain ⟨b1_, b2_⟩ := hk2; have z22_ := Z22_.out; have z23_ := Z23_.out; have z24_ := Z24_.out; have z25_ := Z25_.out; have z26_ := Z26_.out; omega)); clear O27_1; have O27_1 := n_; clear n_
  have n_ := Aside0.mk (Kd.R_kept O30_0.out hk (fun k_ hk1 hk2 => by obtain ⟨a1_, a2_⟩ := hk1.1; obtain ⟨b1_, b2_⟩ := hk2; have z22_ := Z22_.out; have z23_ := Z23_.out; have z24_ := Z24_.out; have z25_ := Z25_.out; have z26_ := Z26_.out; have z27_ := Z27_.out; have z28_ := Z28_.out; have z29_ := Z29_.out; omega)); clear O30_0; have O30_0 := n_; clear n_
  have n_ := Aside0.mk (Kd.S_kept O30_1.out hk (fun k_ hk1 hk2 => by obtain ⟨a1_, a2_⟩ := hk1.1; obtain ⟨b1_, b2_⟩ := hk2; have z22_ := Z22_.out; have z23_ := Z23_.out; have z24_ := Z24_.out; have z25_ := Z25_.out; have z26_ := Z26_.out; have z27_ := Z27_.out; have z28_ := Z28_.out; have z29_ := Z29_.out; omega)); clear O30_1; have O30_1 := n_; clear n_
  have n_ := Aside0.mk (blk_kept Bg1.out hk (fun hk2 => by obtain ⟨a1_, a2_⟩ := Gg1.out; obtain ⟨b1_, b2_⟩ := hk2; have z2_ := Z2_.out; have z3_ := Z3_.out; have z4_ := Z4_.out; have z5_ := Z5_.out; have z6_ := Z6_.out; have z7_ := Z7_.out; have z8_ := Z8_.out; have z9_ := Z9_.out; have z10_ := Z10_.out; have z11_ := Z11_.out; have z12_ := Z12_.out; have z13_ := Z13_.out; have z14_ := Z14_.out; have z15_ := Z15_.out; have z16_ := Z16_.out; have z17_ := Z17_.out; have z18_ := Z18_.out; have z19_ := Z19_.out; have z20_ := Z20_.out; omega)); clear Bg1; have Bg1 := n_; clear n_
  have n_ := Aside0.mk (blk_kept Bg2.out hk (fun hk2 => by obtain ⟨a1_, a2_⟩ := Gg2.out; obtain ⟨b1_, b2_⟩ := hk2; have z3_ := Z3_.out; have z4_ := Z4_.out; have z5_ := Z5_.out; have z6_ := Z6_.out; have z7_ := Z7_.out; have z8_ := Z8_.out; have z9_ := Z9_.out; have z10_ := Z10_.out; have z11_ := Z11_.out; have z12_ := Z12_.out; have z13_ := Z13_.out; have z14_ := Z14_.out; have z15_ := Z15_.out; have z16_ := Z16_.out; have z17_ := Z17_.out; have z18_ := Z18_.out; have z19_ := Z19_.out; have z20_ := Z20_.out; omega)); clear Bg2; have Bg2 := n_; clear n_
  have n_ := Aside0.mk (blk_kept Bg3.out hk (fun hk2 => by obtain ⟨a1_, a2_⟩ := Gg3.out; obtain ⟨b1_, b2_⟩ := hk2; have z4_ := Z4_.out; have z5_ := Z5_.out; have z6_ := Z6_.out; have z7_ := Z7_.out; have z8_ := Z8_.out; have z9_ := Z9_.out; have z10_ := Z10_.out; have z11_ := Z11_.out; have z12_ := Z12_.out; have z13_ := Z13_.out; have z14_ := Z14_.out; have z15_ := Z15_.out; have z16_ := Z16_.out; have z17_ := Z17_.out; have z18_ := Z18_.out; have z19_ := Z19_.out; have z20_ := Z20_.out; omega)); clear Bg3; have Bg3 := n_; clear n_
  have n_ := Aside0.mk (blk_kept Bg11.out hk (fun hk2 => by obtain ⟨a1_, a2_⟩ := Gg11.out; obtain ⟨b1_, b2_⟩ := hk2; have z14_ := Z14_.out; have z15_ := Z15_.out; have z16_ := Z16_.out; have z17_ := Z17_.out; have z18_ := Z18_.out; have z19_ := Z19_.out; have z20_ := Z20_.out; omega)); clear Bg11; have Bg11 := n_; clear n_
  have n_ := Aside0.mk (blk_kept Bg12.out hk (fun hk2 => by obtain ⟨a1_, a2_⟩ := Gg12.out; obtain ⟨b1_, b2_⟩ := hk2; have z17_ := Z17_.out; have z18_ := Z18_.out; have z19_ := Z19_.out; have z20_ := Z20_.out; omega)); clear Bg12; have Bg12 := n_; clear n_
  have n_ := Aside0.mk (blk_kept Bg13.out hk (fun hk2 => by obtain ⟨a1_, a2_⟩ := Gg13.out; obtain ⟨b1_, b2_⟩ := hk2; have z20_ := Z20_.out; omega)); clear Bg13; have Bg13 := n_; clear n_
  clear HB; have HB := Aside0.mk hb0
  clear hxg1_0
  clear hfg1_0
  clear hxg2_0
  clear hxg2_1
  clear hfg2_0
  clear hfg2_1
  clear hxg3_0
  clear hxg3_1
  clear hfg3_0
  clear hfg3_1
  clear hxg11_0
  clear hfg11_0
  clear hxg12_0
  clear hxg12_1
  clear hfg12_0
  clear hfg12_1
  clear hxg13_0
  clear hxg13_1
  clear hfg13_0
  clear hfg13_1
  have hxg1_0 : w36_.cell? ⟨g1, 0, none⟩ = some (.slice A0_0 l0_0.length c0_0) := (blk_cell Bg1.out 0).trans rfl
  have hfg1_0 := blk_frozen Bg1.out 0
  have hxg2_0 : w36_.cell? ⟨g2, 0, none⟩ = some (.slice A1_0 l1_0.length c1_0) := (blk_cell Bg2.out 0).trans rfl
  have hxg2_1 : w36_.cell? ⟨g2, 1, none⟩ = some (.slice A1_1 l1_1.length c1_1) := (blk_cell Bg2.out 1).trans rfl
  have hfg2_0 := blk_frozen Bg2.out 0
  have hfg2_1 := blk_frozen Bg2.out 1
  have hxg3_0 : w36_.cell? ⟨g3, 0, none⟩ = some (.slice A2_0 l2_0.length c2_0) := (blk_cell Bg3.out 0).trans rfl
  have hxg3_1 : w36_.cell? ⟨g3, 1, none⟩ = some (.slice A2_1 l2_1.length c2_1) := (blk_cell Bg3.out 1).trans rfl
  have hfg3_0 := blk_frozen Bg3.out 0
  have hfg3_1 := blk_frozen Bg3.out 1
  have hxg11_0 : w36_.cell? ⟨g11, 0, none⟩ = some (.slice A12_0_ r6_0.length c12_0_) := (blk_cell Bg11.out 0).trans rfl
  have hfg11_0 := blk_frozen Bg11.out 0
  have hxg12_0 : w36_.cell? ⟨g12, 0, none⟩ = some (.slice A15_0_ r7_0.length c15_0_) := (blk_cell Bg12.out 0).trans rfl
  have hxg12_1 : w36_.cell? ⟨g12, 1, none⟩ = some (.slice A15_1_ r7_1.length c15_1_) := (blk_cell Bg12.out 1).trans rfl
  have hfg12_0 := blk_frozen Bg12.out 0
  have hfg12_1 := blk_frozen Bg12.out 1
  have hxg13_0 : w36_.cell? ⟨g13, 0, none⟩ = some (.slice A18_0_ r8_0.length c18_0_) := (blk_cell Bg13.out 0).trans rfl
  have hxg13_1 : w36_.cell? ⟨g13, 1, none⟩ = some (.slice A18_1_ r8_1.length c18_1_) := (blk_cell Bg13.out 1).trans rfl
  have hfg13_0 := blk_frozen Bg13.out 0
  have hfg13_1 := blk_frozen Bg13.out 1
  clear hk hb0
  go_wp2_with (first | (go_at_call 59; refine hold ?_))
  unfold Hold
  refine calls_of_args (args' := #[.slice A21_0_ r19_1.length c21_0_, .int .i64 1]) (by rw [show r9_0.length = r19_1.length from (Kd.R_reads' O21_0.out).1]) ?_
  refine (laws_heldIntS.calls ke20 _ _ r19_1 1 r19_0 _ (Kd.R_reads' O21_0.out).2.2 (Nat.le_trans (Nat.le_of_eq (Kd.R_reads' O21_0.out).1.symm) (Kd.R_reads' O21_0.out).2.1) Ee20.out).mono ?_
  rintro e w37_ ⟨rfl, hd⟩
  have hb := hd.below; clear hd
  have Z37_ := Aside0.mk (show w36_.heap.size ≤ w37_.heap.size from hb.size)
  have n_ := Aside0.mk (Kd.R_below O8_0.out hb); clear O8_0; have O8_0 := n_; clear n_
  have n_ := Aside0.mk (Kd.R_below O9_0.out hb); clear O9_0; have O9_0 := n_; clear n_
  have n_ := Aside0.mk (Kd.S_below O9_1.out hb); clear O9_1; have O9_1 := n_; clear n_
  have n_ := Aside0.mk (Kd.R_below O10_0.out hb); clear O10_0; have O10_0 := n_; clear n_
  have n_ := Aside0.mk (Kd.S_below O10_1.out hb); clear O10_1; have O10_1 := n_; clear n_
  have n_ := Aside0.mk (Kd.R_below O11_0.out hb); clear O11_0; have O11_0 := n_; clear n_
  have n_ := Aside0.mk (Kd.R_below O12_0.out hb); clear O12_0; have O12_0 := n_; clear n_
  have n_ := Aside0.mk (Kd.R_below O15_0.out hb); clear O15_0; have O15_0 := n_; clear n_
  have n_ := Aside0.mk (Kd.S_below O15_1.out hb); clear O15_1; have O15_1 := n_; clear n_
  have n_ := Aside0.mk (Kd.R_below O18_0.out hb); clear O18_0; have O18_0 := n_; clear n_
  have n_ := Aside0.mk (Kd.S_below O18_1.out hb); clear O18_1; have O18_1 := n_; clear n_
  have n_ := Aside0.mk (Kd.R_below O21_0.out hb); clear O21_0; have O21_0 := n_; clear n_
  have n_ := Aside0.mk (Kd.R_below O24_0.out hb); clear O24_0; have O24_0 := n_; clear n_
  have n_ := Aside0.mk (Kd.R_below O27_0.out hb); clear O27_0; have O27_0 := n_; clear n_
  have n_ := Aside0.mk (Kd.S_below O27_1.out hb); clear O27_1; have O27_1 := n_; clear n_
  have n_ := Aside0.mk (Kd.R_below O30_0.out hb); clear O30_0; have O30_0 := n_; clear n_
  have n_ := Aside0.mk (Kd.S_below O30_1.out hb); clear O30_1; have O30_1 := n_; clear n_
  have n_ := Aside0.mk (blk_below Bg1.out hb); clear Bg1; have Bg1 := n_; clear n_
  have n_ := Aside0.mk (blk_below Bg2.out hb); clear Bg2; have Bg2 := n_; clear n_
  have n_ := Aside0.mk (blk_below Bg3.out hb); clear Bg3; have Bg3 := n_; clear n_
  have n_ := Aside0.mk (blk_below Bg11.out hb); clear Bg11; have Bg11 := n_; clear n_
  have n_ := Aside0.mk (blk_below Bg12.out hb); clear Bg12; have Bg12 := n_; clear n_
  have n_ := Aside0.mk (blk_below Bg13.out hb); clear Bg13; have Bg13 := n_; clear n_
  have n_ := Aside0.mk (below_step HB.out hb); clear HB; have HB := n_; clear n_
  clear hxg1_0
  clear hfg1_0
  clear hxg2_0
  clear hxg2_1
  clear hfg2_0
  clear hfg2_1
  clear hxg3_0
  clear hxg3_1
  clear hfg3_0
  clear hfg3_1
  clear hxg11_0
  clear hfg11_0
  clear hxg12_0
  clear hxg12_1
  clear hfg12_0
  clear hfg12_1
  clear hxg13_0
  clear hxg13_1
  clear hfg13_0
  clear hfg13_1
  have hxg1_0 : w37_.cell? ⟨g1, 0, none⟩ = some (.slice A0_0 l0_0.length c0_0) := (blk_cell Bg1.out 0).trans rfl
  have hfg1_0 := blk_frozen Bg1.out 0
  have hxg2_0 : w37_.cell? ⟨g2, 0, none⟩ = some (.slice A1_0 l1_0.length c1_0) := (blk_cell Bg2.out 0).trans rfl
  have hxg2_1 : w37_.cell? ⟨g2, 1, none⟩ = some (.slice A1_1 l1_1.length c1_1) := (blk_cell Bg2.out 1).trans rfl
  have hfg2_0 := blk_frozen Bg2.out 0
  have hfg2_1 := blk_frozen Bg2.out 1
  have hxg3_0 : w37_.cell? ⟨g3, 0, none⟩ = some (.slice A2_0 l2_0.length c2_0) := (blk_cell Bg3.out 0).trans rfl
  have hxg3_1 : w37_.cell? ⟨g3, 1, none⟩ = some (.slice A2_1 l2_1.length c2_1) := (blk_cell Bg3.out 1).trans rfl
  have hfg3_0 := blk_frozen Bg3.out 0
  have hfg3_1 := blk_frozen Bg3.out 1
  have hxg11_0 : w37_.cell? ⟨g11, 0, none⟩ = some (.slice A12_0_ r6_0.length c12_0_) := (blk_cell Bg11.out 0).trans rfl
  have hfg11_0 := blk_frozen Bg11.out 0
  have hxg12_0 : w37_.cell? ⟨g12, 0, none⟩ = some (.slice A15_0_ r7_0.length c15_0_) := (blk_cell Bg12.out 0).trans rfl
  have hxg12_1 : w37_.cell? ⟨g12, 1, none⟩ = some (.slice A15_1_ r7_1.length c15_1_) := (blk_cell Bg12.out 1).trans rfl
  have hfg12_0 := blk_frozen Bg12.out 0
  have hfg12_1 := blk_frozen Bg12.out 1
  have hxg13_0 : w37_.cell? ⟨g13, 0, none⟩ = some (.slice A18_0_ r8_0.length c18_0_) := (blk_cell Bg13.out 0).trans rfl
  have hxg13_1 : w37_.cell? ⟨g13, 1, none⟩ = some (.slice A18_1_ r8_1.length c18_1_) := (blk_cell Bg13.out 1).trans rfl
  have hfg13_0 := blk_frozen Bg13.out 0
  have hfg13_1 := blk_frozen Bg13.out 1
  clear hb
  try go_wp2_with fail
  have n_ := Aside0.mk (Kd.R_drew O8_0.out); clear O8_0; have O8_0 := n_; clear n_
  have n_ := Aside0.mk (Kd.R_drew O9_0.out); clear O9_0; have O9_0 := n_; clear n_
  have n_ := Aside0.mk (Kd.S_drew O9_1.out); clear O9_1; have O9_1 := n_; clear n_
  have n_ := Aside0.mk (Kd.R_drew O10_0.out); clear O10_0; have O10_0 := n_; clear n_
  have n_ := Aside0.mk (Kd.S_drew O10_1.out); clear O10_1; have O10_1 := n_; clear n_
  have n_ := Aside0.mk (Kd.R_drew O11_0.out); clear O11_0; have O11_0 := n_; clear n_
  have n_ := Aside0.mk (Kd.R_drew O12_0.out); clear O12_0; have O12_0 := n_; clear n_
  have n_ := Aside0.mk (Kd.R_drew O15_0.out); clear O15_0; have O15_0 := n_; clear n_
  have n_ := Aside0.mk (Kd.S_drew O15_1.out); clear O15_1; have O15_1 := n_; clear n_
  have n_ := Aside0.mk (Kd.R_drew O18_0.out); clear O18_0; have O18_0 := n_; clear n_
  have n_ := Aside0.mk (Kd.S_drew O18_1.out); clear O18_1; have O18_1 := n_; clear n_
  have n_ := Aside0.mk (Kd.R_drew O21_0.out); clear O21_0; have O21_0 := n_; clear n_
  have n_ := Aside0.mk (Kd.R_drew O24_0.out); clear O24_0; have O24_0 := n_; clear n_
  have n_ := Aside0.mk (Kd.R_drew O27_0.out); clear O27_0; have O27_0 := n_; clear n_
  have n_ := Aside0.mk (Kd.S_drew O27_1.out); clear O27_1; have O27_1 := n_; clear n_
  have n_ := Aside0.mk (Kd.R_drew O30_0.out); clear O30_0; have O30_0 := n_; clear n_
  have n_ := Aside0.mk (Kd.S_drew O30_1.out); clear O30_1; have O30_1 := n_; clear n_
  have n_ := Aside0.mk (blk_drew Bg1.out); clear Bg1; have Bg1 := n_; clear n_
  have n_ := Aside0.mk (blk_drew Bg2.out); clear Bg2; have Bg2 := n_; clear n_
  have n_ := Aside0.mk (blk_drew Bg3.out); clear Bg3; have Bg3 := n_; clear n_
  have n_ := Aside0.mk (blk_drew Bg11.out); clear Bg11; have Bg11 := n_; clear n_
  have n_ := Aside0.mk (blk_drew Bg12.out); clear Bg12; have Bg12 := n_; clear n_
  have n_ := Aside0.mk (blk_drew Bg13.out); clear Bg13; have Bg13 := n_; clear n_
  have n_ := Aside0.mk (below_drew1 HB.out); clear HB; have HB := n_; clear n_
  clear hxg1_0
  clear hfg1_0
  clear hxg2_0
  clear hxg2_1
  clear hfg2_0
  clear hfg2_1
  clear hxg3_0
  clear hxg3_1
  clear hfg3_0
  clear hfg3_1
  clear hxg11_0
  clear hfg11_0
  clear hxg12_0
  clear hxg12_1
  clear hfg12_0
  clear hfg12_1
  clear hxg13_0
  clear hxg13_1
  clear hfg13_0
  clear hfg13_1
  have hz := Aside0.mk (show w37_.heap.size ≤ w37_.drew.heap.size from Nat.le_refl _)
  refine start_ (n := 12) (S := fun w' => w'.cell? ⟨g1, 0, none⟩ = some (.slice A0_0 l0_0.length c0_0) ∧ w'.cell? ⟨g2, 0, none⟩ = some (.slice A1_0 l1_0.length c1_0) ∧ w'.cell? ⟨g2, 1, none⟩ = some (.slice A1_1 l1_1.length c1_1) ∧ w'.cell? ⟨g3, 0, none⟩ = some (.slice A2_0 l2_0.length c2_0) ∧ w'.cell? ⟨g3, 1, none⟩ = some (.slice A2_1 l2_1.length c2_1)) (ds := []) #[false,false,false,false,false,false,false,false,false,false,false,false] (by kernel_rfl) rfl rfl ⟨(blk_cell Bg1.out 0).trans rfl, (blk_cell Bg2.out 0).trans rfl, (blk_cell Bg2.out 1).trans rfl, (blk_cell Bg3.out 0).trans rfl, (blk_cell Bg3.out 1).trans rfl⟩ (fun hHeld => ?_)
  generalize w37_.drew = w38_ at O8_0 O9_0 O9_1 O10_0 O10_1 O11_0 O12_0 O15_0 O15_1 O18_0 O18_1 O21_0 O24_0 O27_0 O27_1 O30_0 O30_1 Bg1 Bg2 Bg3 Bg11 Bg12 Bg13 HB hz hHeld ⊢
  have Z38_ := hz; clear hz
  refine take_ (i := 0) (N := some 116) (v := ?_) (a' := ?_) #[true,false,false,false,false,false,false,false,false,false,false,false] rfl rfl (by kernel_rfl) (fun _ _ _ h => h) (Or.inl ⟨by rfl, ?_⟩) hHeld ?_ ?_
  rotate_left
  · rintro w' ⟨s0, s1, s2, s3, s4⟩; go_simp; with_reducible rfl
  rotate_left
  · simp only [Act.put, List.setIfInBounds_toArray, List.set_cons_zero, List.set_cons_succ, i64_w, i32_w]; rfl
  refine take_ (i := 2) (N := some 118) (v := ?_) (a' := ?_) #[true,false,true,false,false,false,false,false,false,false,false,false] rfl rfl (by kernel_rfl) (fun _ _ _ h => h) (Or.inl ⟨by rfl, ?_⟩) hHeld ?_ ?_
  rotate_left
  · rintro w' ⟨s0, s1, s2, s3, s4⟩; go_simp; with_reducible rfl
  rotate_left
  · simp only [Act.put, List.setIfInBounds_toArray, List.set_cons_zero, List.set_cons_succ, i64_w, i32_w]; rfl
  refine take_ (i := 4) (N := some 120) (v := ?_) (a' := ?_) #[true,false,true,false,true,false,false,false,false,false,false,false] rfl rfl (by kernel_rfl) (fun _ _ _ h => h) (Or.inl ⟨by rfl, ?_⟩) hHeld ?_ ?_
  rotate_left
  · rintro w' ⟨s0, s1, s2, s3, s4⟩; go_simp; with_reducible rfl
  rotate_left
  · simp only [Act.put, List.setIfInBounds_toArray, List.set_cons_zero, List.set_cons_succ, i64_w, i32_w]; rfl
  refine one_ (i := 1) (N := some 117) #[true,true,true,false,true,false,false,false,false,false,false,false] rfl rfl (by kernel_rfl) (by decide) (fun K hK => ?_)
  refine goes_ Try.func49 (by kernel_rfl) rfl #[.agg #[.slice A0_0 l0_0.length c0_0]] (by rfl) rfl rfl (by (try simp only [List.map_toArray, List.map_cons, List.map_nil]); first | done | rfl) ?_
  with_reducible refine (laws_toSchema.calls ke6 _ _ l0_0 r6_0 _ (Kd.C_below H0_0.out HB.out) HC0_0.out Ee6.out).mono ?_
  rintro e w39_ ⟨v39_0_, rfl, ho0, hb⟩
  refine ⟨_, rfl, ?_⟩
  have O39_0 := Aside0.mk (newR ho0 HB.out.size)
  have Z39_ := Aside0.mk (show w38_.heap.size ≤ w39_.heap.size from hb.size)
  have n_ := Aside0.mk (Kd.R_below O8_0.out hb); clear O8_0; have O8_0 := n_; clear n_
  have n_ := Aside0.mk (Kd.R_below O9_0.out hb); clear O9_0; have O9_0 := n_; clear n_
  have n_ := Aside0.mk (Kd.S_below O9_1.out hb); clear O9_1; have O9_1 := n_; clear n_
  have n_ := Aside0.mk (Kd.R_below O10_0.out hb); clear O10_0; have O10_0 := n_; clear n_
  have n_ := Aside0.mk (Kd.S_below O10_1.out hb); clear O10_1; have O10_1 := n_; clear n_
  have n_ := Aside0.mk (Kd.R_below O11_0.out hb); clear O11_0; have O11_0 := n_; clear n_
  have n_ := Aside0.mk (Kd.R_below O12_0.out hb); clear O12_0; have O12_0 := n_; clear n_
  have n_ := Aside0.mk (Kd.R_below O15_0.out hb); clear O15_0; have O15_0 := n_; clear n_
  have n_ := Aside0.mk (Kd.S_below O15_1.out hb); clear O15_1; have O15_1 := n_; clear n_
  have n_ := Aside0.mk (Kd.R_below O18_0.out hb); clear O18_0; have O18_0 := n_; clear n_
  have n_ := Aside0.mk (Kd.S_below O18_1.out hb); clear O18_1; have O18_1 := n_; clear n_
  have n_ := Aside0.mk (Kd.R_below O21_0.out hb); clear O21_0; have O21_0 := n_; clear n_
  have n_ := Aside0.mk (Kd.R_below O24_0.out hb); clear O24_0; have O24_0 := n_; clear n_
  have n_ := Aside0.mk (Kd.R_below O27_0.out hb); clear O27_0; have O27_0 := n_; clear n_
  have n_ := Aside0.mk (Kd.S_below O27_1.out hb); clear O27_1; have O27_1 := n_; clear n_
  have n_ := Aside0.mk (Kd.R_below O30_0.out hb); clear O30_0; have O30_0 := n_; clear n_
  have n_ := Aside0.mk (Kd.S_below O30_1.out hb); clear O30_1; have O30_1 := n_; clear n_
  have n_ := Aside0.mk (blk_below Bg1.out hb); clear Bg1; have Bg1 := n_; clear n_
  have n_ := Aside0.mk (blk_below Bg2.out hb); clear Bg2; have Bg2 := n_; clear n_
  have n_ := Aside0.mk (blk_below Bg3.out hb); clear Bg3; have Bg3 := n_; clear n_
  have n_ := Aside0.mk (blk_below Bg11.out hb); clear Bg11; have Bg11 := n_; clear n_
  have n_ := Aside0.mk (blk_below Bg12.out hb); clear Bg12; have Bg12 := n_; clear n_
  have n_ := Aside0.mk (blk_below Bg13.out hb); clear Bg13; have Bg13 := n_; clear n_
  have n_ := Aside0.mk (below_step HB.out hb); clear HB; have HB := n_; clear n_
  have hxg1_0 : w39_.cell? ⟨g1, 0, none⟩ = some (.slice A0_0 l0_0.length c0_0) := (blk_cell Bg1.out 0).trans rfl
  have hfg1_0 := blk_frozen Bg1.out 0
  have hxg2_0 : w39_.cell? ⟨g2, 0, none⟩ = some (.slice A1_0 l1_0.length c1_0) := (blk_cell Bg2.out 0).trans rfl
  have hxg2_1 : w39_.cell? ⟨g2, 1, none⟩ = some (.slice A1_1 l1_1.length c1_1) := (blk_cell Bg2.out 1).trans rfl
  have hfg2_0 := blk_frozen Bg2.out 0
  have hfg2_1 := blk_frozen Bg2.out 1
  have hxg3_0 : w39_.cell? ⟨g3, 0, none⟩ = some (.slice A2_0 l2_0.length c2_0) := (blk_cell Bg3.out 0).trans rfl
  have hxg3_1 : w39_.cell? ⟨g3, 1, none⟩ = some (.slice A2_1 l2_1.length c2_1) := (blk_cell Bg3.out 1).trans rfl
  have hfg3_0 := blk_frozen Bg3.out 0
  have hfg3_1 := blk_frozen Bg3.out 1
  have hxg11_0 : w39_.cell? ⟨g11, 0, none⟩ = some (.slice A12_0_ r6_0.length c12_0_) := (blk_cell Bg11.out 0).trans rfl
  have hfg11_0 := blk_frozen Bg11.out 0
  have hxg12_0 : w39_.cell? ⟨g12, 0, none⟩ = some (.slice A15_0_ r7_0.length c15_0_) := (blk_cell Bg12.out 0).trans rfl
  have hxg12_1 : w39_.cell? ⟨g12, 1, none⟩ = some (.slice A15_1_ r7_1.length c15_1_) := (blk_cell Bg12.out 1).trans rfl
  have hfg12_0 := blk_frozen Bg12.out 0
  have hfg12_1 := blk_frozen Bg12.out 1
  have hxg13_0 : w39_.cell? ⟨g13, 0, none⟩ = some (.slice A18_0_ r8_0.length c18_0_) := (blk_cell Bg13.out 0).trans rfl
  have hxg13_1 : w39_.cell? ⟨g13, 1, none⟩ = some (.slice A18_1_ r8_1.length c18_1_) := (blk_cell Bg13.out 1).trans rfl
  have hfg13_0 := blk_frozen Bg13.out 0
  have hfg13_1 := blk_frozen Bg13.out 1
  clear hb ho0
  obtain ⟨A39_0_, c39_0_, eq_⟩ := Kd.R_slice O39_0.out
  subst eq_
  clear hxg1_0
  clear hfg1_0
  clear hxg2_0
  clear hxg2_1
  clear hfg2_0
  clear hfg2_1
  clear hxg3_0
  clear hxg3_1
  clear hfg3_0
  clear hfg3_1
  clear hxg11_0
  clear hfg11_0
  clear hxg12_0
  clear hxg12_1
  clear hfg12_0
  clear hfg12_1
  clear hxg13_0
  clear hxg13_1
  clear hfg13_0
  clear hfg13_1
  refine hK.out _ _ ⟨(blk_cell Bg1.out 0).trans rfl, (blk_cell Bg2.out 0).trans rfl, (blk_cell Bg2.out 1).trans rfl, (blk_cell Bg3.out 0).trans rfl, (blk_cell Bg3.out 1).trans rfl⟩ (fun hHeld => ?_)
  clear hK K
  refine norm_ (a' := ?_) ?_ ?_
  rotate_left
  · show Act.put _ (some 117) _ = _; simp only [Act.put, List.setIfInBounds_toArray, List.set_cons_zero, List.set_cons_succ, i64_w, i32_w]; rfl
  refine one_ (i := 3) (N := some 119) #[true,true,true,true,true,false,false,false,false,false,false,false] rfl rfl (by kernel_rfl) (by decide) (fun K hK => ?_)
  refine goes_ Try.func32 (by kernel_rfl) rfl #[.agg #[.slice A1_0 l1_0.length c1_0, .slice A1_1 l1_1.length c1_1]] (by rfl) rfl rfl (by (try simp only [List.map_toArray, List.map_cons, List.map_nil]); first | done | rfl) ?_
  with_reducible refine (laws_toQuery.calls ke7 _ _ l1_0 _ _ l1_1 r7_0 r7_1 _ (Kd.C_below H1_0.out HB.out) HC1_0.out (Kd.C_below H1_1.out HB.out) HC1_1.out Ee7.out).mono ?_
  rintro e w40_ ⟨v40_0_, v40_1_, rfl, ho0, ho1, hb⟩
  refine ⟨_, rfl, ?_⟩
  have O40_0 := Aside0.mk (newR ho0 HB.out.size)
  have O40_1 := Aside0.mk (newS ho1 HB.out.size)
  have Z40_ := Aside0.mk (show w39_.heap.size ≤ w40_.heap.size from hb.size)
  have n_ := Aside0.mk (Kd.R_below O8_0.out hb); clear O8_0; have O8_0 := n_; clear n_
  have n_ := Aside0.mk (Kd.R_below O9_0.out hb); clear O9_0; have O9_0 := n_; clear n_
  have n_ := Aside0.mk (Kd.S_below O9_1.out hb); clear O9_1; have O9_1 := n_; clear n_
  have n_ := Aside0.mk (Kd.R_below O10_0.out hb); clear O10_0; have O10_0 := n_; clear n_
  have n_ := Aside0.mk (Kd.S_below O10_1.out hb); clear O10_1; have O10_1 := n_; clear n_
  have n_ := Aside0.mk (Kd.R_below O11_0.out hb); clear O11_0; have O11_0 := n_; clear n_
  have n_ := Aside0.mk (Kd.R_below O12_0.out hb); clear O12_0; have O12_0 := n_; clear n_
  have n_ := Aside0.mk (Kd.R_below O15_0.out hb); clear O15_0; have O15_0 := n_; clear n_
  have n_ := Aside0.mk (Kd.S_below O15_1.out hb); clear O15_1; have O15_1 := n_; clear n_
  have n_ := Aside0.mk (Kd.R_below O18_0.out hb); clear O18_0; have O18_0 := n_; clear n_
  have n_ := Aside0.mk (Kd.S_below O18_1.out hb); clear O18_1; have O18_1 := n_; clear n_
  have n_ := Aside0.mk (Kd.R_below O21_0.out hb); clear O21_0; have O21_0 := n_; clear n_
  have n_ := Aside0.mk (Kd.R_below O24_0.out hb); clear O24_0; have O24_0 := n_; clear n_
  have n_ := Aside0.mk (Kd.R_below O27_0.out hb); clear O27_0; have O27_0 := n_; clear n_
  have n_ := Aside0.mk (Kd.S_below O27_1.out hb); clear O27_1; have O27_1 := n_; clear n_
  have n_ := Aside0.mk (Kd.R_below O30_0.out hb); clear O30_0; have O30_0 := n_; clear n_
  have n_ := Aside0.mk (Kd.S_below O30_1.out hb); clear O30_1; have O30_1 := n_; clear n_
  have n_ := Aside0.mk (Kd.R_below O39_0.out hb); clear O39_0; have O39_0 := n_; clear n_
  have n_ := Aside0.mk (blk_below Bg1.out hb); clear Bg1; have Bg1 := n_; clear n_
  have n_ := Aside0.mk (blk_below Bg2.out hb); clear Bg2; have Bg2 := n_; clear n_
  have n_ := Aside0.mk (blk_below Bg3.out hb); clear Bg3; have Bg3 := n_; clear n_
  have n_ := Aside0.mk (blk_below Bg11.out hb); clear Bg11; have Bg11 := n_; clear n_
  have n_ := Aside0.mk (blk_below Bg12.out hb); clear Bg12; have Bg12 := n_; clear n_
  have n_ := Aside0.mk (blk_below Bg13.out hb); clear Bg13; have Bg13 := n_; clear n_
  have n_ := Aside0.mk (below_step HB.out hb); clear HB; have HB := n_; clear n_
  have hxg1_0 : w40_.cell? ⟨g1, 0, none⟩ = some (.slice A0_0 l0_0.length c0_0) := (blk_cell Bg1.out 0).trans rfl
  have hfg1_0 := blk_frozen Bg1.out 0
  have hxg2_0 : w40_.cell? ⟨g2, 0, none⟩ = some (.slice A1_0 l1_0.length c1_0) := (blk_cell Bg2.out 0).trans rfl
  have hxg2_1 : w40_.cell? ⟨g2, 1, none⟩ = some (.slice A1_1 l1_1.length c1_1) := (blk_cell Bg2.out 1).trans rfl
  have hfg2_0 := blk_frozen Bg2.out 0
  have hfg2_1 := blk_frozen Bg2.out 1
  have hxg3_0 : w40_.cell? ⟨g3, 0, none⟩ = some (.slice A2_0 l2_0.length c2_0) := (blk_cell Bg3.out 0).trans rfl
  have hxg3_1 : w40_.cell? ⟨g3, 1, none⟩ = some (.slice A2_1 l2_1.length c2_1) := (blk_cell Bg3.out 1).trans rfl
  have hfg3_0 := blk_frozen Bg3.out 0
  have hfg3_1 := blk_frozen Bg3.out 1
  have hxg11_0 : w40_.cell? ⟨g11, 0, none⟩ = some (.slice A12_0_ r6_0.length c12_0_) := (blk_cell Bg11.out 0).trans rfl
  have hfg11_0 := blk_frozen Bg11.out 0
  have hxg12_0 : w40_.cell? ⟨g12, 0, none⟩ = some (.slice A15_0_ r7_0.length c15_0_) := (blk_cell Bg12.out 0).trans rfl
  have hxg12_1 : w40_.cell? ⟨g12, 1, none⟩ = some (.slice A15_1_ r7_1.length c15_1_) := (blk_cell Bg12.out 1).trans rfl
  have hfg12_0 := blk_frozen Bg12.out 0
  have hfg12_1 := blk_frozen Bg12.out 1
  have hxg13_0 : w40_.cell? ⟨g13, 0, none⟩ = some (.slice A18_0_ r8_0.length c18_0_) := (blk_cell Bg13.out 0).trans rfl
  have hxg13_1 : w40_.cell? ⟨g13, 1, none⟩ = some (.slice A18_1_ r8_1.length c18_1_) := (blk_cell Bg13.out 1).trans rfl
  have hfg13_0 := blk_frozen Bg13.out 0
  have hfg13_1 := blk_frozen Bg13.out 1
  clear hb ho0 ho1
  obtain ⟨A40_0_, c40_0_, eq_⟩ := Kd.R_slice O40_0.out
  subst eq_
  obtain ⟨A40_1_, c40_1_, eq_⟩ := Kd.S_slice O40_1.out
  subst eq_
  clear hxg1_0
  clear hfg1_0
  clear hxg2_0
  clear hxg2_1
  clear hfg2_0
  clear hfg2_1
  clear hxg3_0
  clear hxg3_1
  clear hfg3_0
  clear hfg3_1
  clear hxg11_0
  clear hfg11_0
  clear hxg12_0
  clear hxg12_1
  clear hfg12_0
  clear hfg12_1
  clear hxg13_0
  clear hxg13_1
  clear hfg13_0
  clear hfg13_1
  refine hK.out _ _ ⟨(blk_cell Bg1.out 0).trans rfl, (blk_cell Bg2.out 0).trans rfl, (blk_cell Bg2.out 1).trans rfl, (blk_cell Bg3.out 0).trans rfl, (blk_cell Bg3.out 1).trans rfl⟩ (fun hHeld => ?_)
  clear hK K
  refine norm_ (a' := ?_) ?_ ?_
  rotate_left
  · show Act.put _ (some 119) _ = _; simp only [Act.put, List.setIfInBounds_toArray, List.set_cons_zero, List.set_cons_succ, i64_w, i32_w]; rfl
  refine one_ (i := 5) (N := some 121) #[true,true,true,true,true,true,false,false,false,false,false,false] rfl rfl (by kernel_rfl) (by decide) (fun K hK => ?_)
  refine goes_ Try.func32 (by kernel_rfl) rfl #[.agg #[.slice A2_0 l2_0.length c2_0, .slice A2_1 l2_1.length c2_1]] (by rfl) rfl rfl (by (try simp only [List.map_toArray, List.map_cons, List.map_nil]); first | done | rfl) ?_
  with_reducible refine (laws_toQuery.calls ke8 _ _ l2_0 _ _ l2_1 r8_0 r8_1 _ (Kd.C_below H2_0.out HB.out) HC2_0.out (Kd.C_below H2_1.out HB.out) HC2_1.out Ee8.out).mono ?_
  rintro e w41_ ⟨v41_0_, v41_1_, rfl, ho0, ho1, hb⟩
  refine ⟨_, rfl, ?_⟩
  have O41_0 := Aside0.mk (newR ho0 HB.out.size)
  have O41_1 := Aside0.mk (newS ho1 HB.out.size)
  have Z41_ := Aside0.mk (show w40_.heap.size ≤ w41_.heap.size from hb.size)
  have n_ := Aside0.mk (Kd.R_below O8_0.out hb); clear O8_0; have O8_0 := n_; clear n_
  have n_ := Aside0.mk (Kd.R_below O9_0.out hb); clear O9_0; have O9_0 := n_; clear n_
  have n_ := Aside0.mk (Kd.S_below O9_1.out hb); clear O9_1; have O9_1 := n_; clear n_
  have n_ := Aside0.mk (Kd.R_below O10_0.out hb); clear O10_0; have O10_0 := n_; clear n_
  have n_ := Aside0.mk (Kd.S_below O10_1.out hb); clear O10_1; have O10_1 := n_; clear n_
  have n_ := Aside0.mk (Kd.R_below O11_0.out hb); clear O11_0; have O11_0 := n_; clear n_
  have n_ := Aside0.mk (Kd.R_below O12_0.out hb); clear O12_0; have O12_0 := n_; clear n_
  have n_ := Aside0.mk (Kd.R_below O15_0.out hb); clear O15_0; have O15_0 := n_; clear n_
  have n_ := Aside0.mk (Kd.S_below O15_1.out hb); clear O15_1; have O15_1 := n_; clear n_
  have n_ := Aside0.mk (Kd.R_below O18_0.out hb); clear O18_0; have O18_0 := n_; clear n_
  have n_ := Aside0.mk (Kd.S_below O18_1.out hb); clear O18_1; have O18_1 := n_; clear n_
  have n_ := Aside0.mk (Kd.R_below O21_0.out hb); clear O21_0; have O21_0 := n_; clear n_
  have n_ := Aside0.mk (Kd.R_below O24_0.out hb); clear O24_0; have O24_0 := n_; clear n_
  have n_ := Aside0.mk (Kd.R_below O27_0.out hb); clear O27_0; have O27_0 := n_; clear n_
  have n_ := Aside0.mk (Kd.S_below O27_1.out hb); clear O27_1; have O27_1 := n_; clear n_
  have n_ := Aside0.mk (Kd.R_below O30_0.out hb); clear O30_0; have O30_0 := n_; clear n_
  have n_ := Aside0.mk (Kd.S_below O30_1.out hb); clear O30_1; have O30_1 := n_; clear n_
  have n_ := Aside0.mk (Kd.R_below O39_0.out hb); clear O39_0; have O39_0 := n_; clear n_
  have n_ := Aside0.mk (Kd.R_below O40_0.out hb); clear O40_0; have O40_0 := n_; clear n_
  have n_ := Aside0.mk (Kd.S_below O40_1.out hb); clear O40_1; have O40_1 := n_; clear n_
  have n_ := Aside0.mk (blk_below Bg1.out hb); clear Bg1; have Bg1 := n_; clear n_
  have n_ := Aside0.mk (blk_below Bg2.out hb); clear Bg2; have Bg2 := n_; clear n_
  have n_ := Aside0.mk (blk_below Bg3.out hb); clear Bg3; have Bg3 := n_; clear n_
  have n_ := Aside0.mk (blk_below Bg11.out hb); clear Bg11; have Bg11 := n_; clear n_
  have n_ := Aside0.mk (blk_below Bg12.out hb); clear Bg12; have Bg12 := n_; clear n_
  have n_ := Aside0.mk (blk_below Bg13.out hb); clear Bg13; have Bg13 := n_; clear n_
  have n_ := Aside0.mk (below_step HB.out hb); clear HB; have HB := n_; clear n_
  have hxg1_0 : w41_.cell? ⟨g1, 0, none⟩ = some (.slice A0_0 l0_0.length c0_0) := (blk_cell Bg1.out 0).trans rfl
  have hfg1_0 := blk_frozen Bg1.out 0
  have hxg2_0 : w41_.cell? ⟨g2, 0, none⟩ = some (.slice A1_0 l1_0.length c1_0) := (blk_cell Bg2.out 0).trans rfl
  have hxg2_1 : w41_.cell? ⟨g2, 1, none⟩ = some (.slice A1_1 l1_1.length c1_1) := (blk_cell Bg2.out 1).trans rfl
  have hfg2_0 := blk_frozen Bg2.out 0
  have hfg2_1 := blk_frozen Bg2.out 1
  have hxg3_0 : w41_.cell? ⟨g3, 0, none⟩ = some (.slice A2_0 l2_0.length c2_0) := (blk_cell Bg3.out 0).trans rfl
  have hxg3_1 : w41_.cell? ⟨g3, 1, none⟩ = some (.slice A2_1 l2_1.length c2_1) := (blk_cell Bg3.out 1).trans rfl
  have hfg3_0 := blk_frozen Bg3.out 0
  have hfg3_1 := blk_frozen Bg3.out 1
  have hxg11_0 : w41_.cell? ⟨g11, 0, none⟩ = some (.slice A12_0_ r6_0.length c12_0_) := (blk_cell Bg11.out 0).trans rfl
  have hfg11_0 := blk_frozen Bg11.out 0
  have hxg12_0 : w41_.cell? ⟨g12, 0, none⟩ = some (.slice A15_0_ r7_0.length c15_0_) := (blk_cell Bg12.out 0).trans rfl
  have hxg12_1 : w41_.cell? ⟨g12, 1, none⟩ = some (.slice A15_1_ r7_1.length c15_1_) := (blk_cell Bg12.out 1).trans rfl
  have hfg12_0 := blk_frozen Bg12.out 0
  have hfg12_1 := blk_frozen Bg12.out 1
  have hxg13_0 : w41_.cell? ⟨g13, 0, none⟩ = some (.slice A18_0_ r8_0.length c18_0_) := (blk_cell Bg13.out 0).trans rfl
  have hxg13_1 : w41_.cell? ⟨g13, 1, none⟩ = some (.slice A18_1_ r8_1.length c18_1_) := (blk_cell Bg13.out 1).trans rfl
  have hfg13_0 := blk_frozen Bg13.out 0
  have hfg13_1 := blk_frozen Bg13.out 1
  clear hb ho0 ho1
  obtain ⟨A41_0_, c41_0_, eq_⟩ := Kd.R_slice O41_0.out
  subst eq_
  obtain ⟨A41_1_, c41_1_, eq_⟩ := Kd.S_slice O41_1.out
  subst eq_
  clear hxg1_0
  clear hfg1_0
  clear hxg2_0
  clear hxg2_1
  clear hfg2_0
  clear hfg2_1
  clear hxg3_0
  clear hxg3_1
  clear hfg3_0
  clear hfg3_1
  clear hxg11_0
  clear hfg11_0
  clear hxg12_0
  clear hxg12_1
  clear hfg12_0
  clear hfg12_1
  clear hxg13_0
  clear hxg13_1
  clear hfg13_0
  clear hfg13_1
  refine hK.out _ _ ⟨(blk_cell Bg1.out 0).trans rfl, (blk_cell Bg2.out 0).trans rfl, (blk_cell Bg2.out 1).trans rfl, (blk_cell Bg3.out 0).trans rfl, (blk_cell Bg3.out 1).trans rfl⟩ (fun hHeld => ?_)
  clear hK K
  refine norm_ (a' := ?_) ?_ ?_
  rotate_left
  · show Act.put _ (some 121) _ = _; simp only [Act.put, List.setIfInBounds_toArray, List.set_cons_zero, List.set_cons_succ, i64_w, i32_w]; rfl
  refine one_ (i := 6) (N := some 122) #[true,true,true,true,true,true,true,false,false,false,false,false] rfl rfl (by kernel_rfl) (by decide) (fun K hK => ?_)
  refine goes_ Try.func57 (by kernel_rfl) rfl #[.agg #[.slice A39_0_ r6_0.length c39_0_], .agg #[.slice A40_0_ r7_0.length c40_0_, .slice A40_1_ r7_1.length c40_1_], .agg #[.slice A41_0_ r8_0.length c41_0_, .slice A41_1_ r8_1.length c41_1_]] (by rfl) rfl rfl (by (try simp only [List.map_toArray, List.map_cons, List.map_nil]); first | done | rfl) ?_
  with_reducible refine (impl_FindMapping_calls _ _ r6_0 _ _ r7_0 _ _ r7_1 _ _ r8_0 _ _ r8_1 r9_0 r9_1 _ (Kd.R_reads' O39_0.out).2.2 (Kd.R_reads' O39_0.out).2.1 (Kd.R_reads' O40_0.out).2.2 (Kd.R_reads' O40_0.out).2.1 (Kd.S_reads' O40_1.out).2.2 (Kd.S_reads' O40_1.out).2.1 (Kd.R_reads' O41_0.out).2.2 (Kd.R_reads' O41_0.out).2.1 (Kd.S_reads' O41_1.out).2.2 (Kd.S_reads' O41_1.out).2.1 e10_hz0.out Ee10.out).mono ?_
  rintro e w42_ ⟨v42_0_, rfl, ho0, hb⟩
  refine ⟨_, rfl, ?_⟩
  have O42_0 := Aside0.mk (newR ho0 HB.out.size)
  have Z42_ := Aside0.mk (show w41_.heap.size ≤ w42_.heap.size from hb.size)
  have n_ := Aside0.mk (Kd.R_below O8_0.out hb); clear O8_0; have O8_0 := n_; clear n_
  have n_ := Aside0.mk (Kd.R_below O9_0.out hb); clear O9_0; have O9_0 := n_; clear n_
  have n_ := Aside0.mk (Kd.S_below O9_1.out hb); clear O9_1; have O9_1 := n_; clear n_
  have n_ := Aside0.mk (Kd.R_below O10_0.out hb); clear O10_0; have O10_0 := n_; clear n_
  have n_ := Aside0.mk (Kd.S_below O10_1.out hb); clear O10_1; have O10_1 := n_; clear n_
  have n_ := Aside0.mk (Kd.R_below O11_0.out hb); clear O11_0; have O11_0 := n_; clear n_
  have n_ := Aside0.mk (Kd.R_below O12_0.out hb); clear O12_0; have O12_0 := n_; clear n_
  have n_ := Aside0.mk (Kd.R_below O15_0.out hb); clear O15_0; have O15_0 := n_; clear n_
  have n_ := Aside0.mk (Kd.S_below O15_1.out hb); clear O15_1; have O15_1 := n_; clear n_
  have n_ := Aside0.mk (Kd.R_below O18_0.out hb); clear O18_0; have O18_0 := n_; clear n_
  have n_ := Aside0.mk (Kd.S_below O18_1.out hb); clear O18_1; have O18_1 := n_; clear n_
  have n_ := Aside0.mk (Kd.R_below O21_0.out hb); clear O21_0; have O21_0 := n_; clear n_
  have n_ := Aside0.mk (Kd.R_below O24_0.out hb); clear O24_0; have O24_0 := n_; clear n_
  have n_ := Aside0.mk (Kd.R_below O27_0.out hb); clear O27_0; have O27_0 := n_; clear n_
  have n_ := Aside0.mk (Kd.S_below O27_1.out hb); clear O27_1; have O27_1 := n_; clear n_
  have n_ := Aside0.mk (Kd.R_below O30_0.out hb); clear O30_0; have O30_0 := n_; clear n_
  have n_ := Aside0.mk (Kd.S_below O30_1.out hb); clear O30_1; have O30_1 := n_; clear n_
  have n_ := Aside0.mk (Kd.R_below O39_0.out hb); clear O39_0; have O39_0 := n_; clear n_
  have n_ := Aside0.mk (Kd.R_below O40_0.out hb); clear O40_0; have O40_0 := n_; clear n_
  have n_ := Aside0.mk (Kd.S_below O40_1.out hb); clear O40_1; have O40_1 := n_; clear n_
  have n_ := Aside0.mk (Kd.R_below O41_0.out hb); clear O41_0; have O41_0 := n_; clear n_
  have n_ := Aside0.mk (Kd.S_below O41_1.out hb); clear O41_1; have O41_1 := n_; clear n_
  have n_ := Aside0.mk (blk_below Bg1.out hb); clear Bg1; have Bg1 := n_; clear n_
  have n_ := Aside0.mk (blk_below Bg2.out hb); clear Bg2; have Bg2 := n_; clear n_
  have n_ := Aside0.mk (blk_below Bg3.out hb); clear Bg3; have Bg3 := n_; clear n_
  have n_ := Aside0.mk (blk_below Bg11.out hb); clear Bg11; have Bg11 := n_; clear n_
  have n_ := Aside0.mk (blk_below Bg12.out hb); clear Bg12; have Bg12 := n_; clear n_
  have n_ := Aside0.mk (blk_below Bg13.out hb); clear Bg13; have Bg13 := n_; clear n_
  have n_ := Aside0.mk (below_step HB.out hb); clear HB; have HB := n_; clear n_
  have hxg1_0 : w42_.cell? ⟨g1, 0, none⟩ = some (.slice A0_0 l0_0.length c0_0) := (blk_cell Bg1.out 0).trans rfl
  have hfg1_0 := blk_frozen Bg1.out 0
  have hxg2_0 : w42_.cell? ⟨g2, 0, none⟩ = some (.slice A1_0 l1_0.length c1_0) := (blk_cell Bg2.out 0).trans rfl
  have hxg2_1 : w42_.cell? ⟨g2, 1, none⟩ = some (.slice A1_1 l1_1.length c1_1) := (blk_cell Bg2.out 1).trans rfl
  have hfg2_0 := blk_frozen Bg2.out 0
  have hfg2_1 := blk_frozen Bg2.out 1
  have hxg3_0 : w42_.cell? ⟨g3, 0, none⟩ = some (.slice A2_0 l2_0.length c2_0) := (blk_cell Bg3.out 0).trans rfl
  have hxg3_1 : w42_.cell? ⟨g3, 1, none⟩ = some (.slice A2_1 l2_1.length c2_1) := (blk_cell Bg3.out 1).trans rfl
  have hfg3_0 := blk_frozen Bg3.out 0
  have hfg3_1 := blk_frozen Bg3.out 1
  have hxg11_0 : w42_.cell? ⟨g11, 0, none⟩ = some (.slice A12_0_ r6_0.length c12_0_) := (blk_cell Bg11.out 0).trans rfl
  have hfg11_0 := blk_frozen Bg11.out 0
  have hxg12_0 : w42_.cell? ⟨g12, 0, none⟩ = some (.slice A15_0_ r7_0.length c15_0_) := (blk_cell Bg12.out 0).trans rfl
  have hxg12_1 : w42_.cell? ⟨g12, 1, none⟩ = some (.slice A15_1_ r7_1.length c15_1_) := (blk_cell Bg12.out 1).trans rfl
  have hfg12_0 := blk_frozen Bg12.out 0
  have hfg12_1 := blk_frozen Bg12.out 1
  have hxg13_0 : w42_.cell? ⟨g13, 0, none⟩ = some (.slice A18_0_ r8_0.length c18_0_) := (blk_cell Bg13.out 0).trans rfl
  have hxg13_1 : w42_.cell? ⟨g13, 1, none⟩ = some (.slice A18_1_ r8_1.length c18_1_) := (blk_cell Bg13.out 1).trans rfl
  have hfg13_0 := blk_frozen Bg13.out 0
  have hfg13_1 := blk_frozen Bg13.out 1
  clear hb ho0
  obtain ⟨A42_0_, c42_0_, eq_⟩ := Kd.R_slice O42_0.out
  subst eq_
  clear hxg1_0
  clear hfg1_0
  clear hxg2_0
  clear hxg2_1
  clear hfg2_0
  clear hfg2_1
  clear hxg3_0
  clear hxg3_1
  clear hfg3_0
  clear hfg3_1
  clear hxg11_0
  clear hfg11_0
  clear hxg12_0
  clear hxg12_1
  clear hfg12_0
  clear hfg12_1
  clear hxg13_0
  clear hxg13_1
  clear hfg13_0
  clear hfg13_1
  refine hK.out _ _ ⟨(blk_cell Bg1.out 0).trans rfl, (blk_cell Bg2.out 0).trans rfl, (blk_cell Bg2.out 1).trans rfl, (blk_cell Bg3.out 0).trans rfl, (blk_cell Bg3.out 1).trans rfl⟩ (fun hHeld => ?_)
  clear hK K
  refine norm_ (a' := ?_) ?_ ?_
  rotate_left
  · show Act.put _ (some 122) _ = _; simp only [Act.put, List.setIfInBounds_toArray, List.set_cons_zero, List.set_cons_succ, i64_w, i32_w]; rfl
  refine pure_ (i := 7) (N := some 115) (v := ?_) (a' := ?_) #[true,true,true,true,true,true,true,true,false,false,false,false] rfl rfl (by kernel_rfl) (fun _ _ _ h => h) (Or.inl ⟨by rfl, ?_⟩) ?_ ?_
  rotate_left
  · intro w'; go_simp; with_reducible rfl
  rotate_left
  · simp only [Act.put, List.setIfInBounds_toArray, List.set_cons_zero, List.set_cons_succ, i64_w, i32_w]; rfl
  refine pure_ (i := 8) (N := some 123) (v := ?_) (a' := ?_) #[true,true,true,true,true,true,true,true,true,false,false,false] rfl rfl (by kernel_rfl) (fun _ _ _ h => h) (Or.inl ⟨by rfl, ?_⟩) ?_ ?_
  rotate_left
  · intro w'; go_simp; with_reducible rfl
  rotate_left
  · simp only [Act.put, List.setIfInBounds_toArray, List.set_cons_zero, List.set_cons_succ, i64_w, i32_w]; rfl
  refine pure_ (i := 9) (N := some 124) (v := ?_) (a' := ?_) #[true,true,true,true,true,true,true,true,true,true,false,false] rfl rfl (by kernel_rfl) (fun _ _ _ h => h) (Or.inl ⟨by rfl, ?_⟩) ?_ ?_
  rotate_left
  · intro w'; go_simp; with_reducible rfl
  rotate_left
  · simp only [Act.put, List.setIfInBounds_toArray, List.set_cons_zero, List.set_cons_succ, i64_w, i32_w]; rfl
  refine pure_ (i := 10) (N := some 18) (v := ?_) (a' := ?_) #[true,true,true,true,true,true,true,true,true,true,true,false] rfl rfl (by kernel_rfl) (fun _ _ _ h => h) (Or.inl ⟨by rfl, ?_⟩) ?_ ?_
  rotate_left
  · intro w'; go_simp; with_reducible rfl
  rotate_left
  · simp only [Act.put, List.setIfInBounds_toArray, List.set_cons_zero, List.set_cons_succ, i64_w, i32_w]; rfl
  refine pure_ (i := 11) (N := some 19) (v := ?_) (a' := ?_) #[true,true,true,true,true,true,true,true,true,true,true,true] rfl rfl (by kernel_rfl) (fun _ _ _ h => h) (Or.inl ⟨by rfl, ?_⟩) ?_ ?_
  rotate_left
  · intro w'; go_simp; with_reducible rfl
  rotate_left
  · simp only [Act.put, List.setIfInBounds_toArray, List.set_cons_zero, List.set_cons_succ, i64_w, i32_w]; rfl
  refine done_ (by kernel_rfl) ?_
  have hxg1_0 : w42_.cell? ⟨g1, 0, none⟩ = some (.slice A0_0 l0_0.length c0_0) := (blk_cell Bg1.out 0).trans rfl
  have hfg1_0 := blk_frozen Bg1.out 0
  have hxg2_0 : w42_.cell? ⟨g2, 0, none⟩ = some (.slice A1_0 l1_0.length c1_0) := (blk_cell Bg2.out 0).trans rfl
  have hxg2_1 : w42_.cell? ⟨g2, 1, none⟩ = some (.slice A1_1 l1_1.length c1_1) := (blk_cell Bg2.out 1).trans rfl
  have hfg2_0 := blk_frozen Bg2.out 0
  have hfg2_1 := blk_frozen Bg2.out 1
  have hxg3_0 : w42_.cell? ⟨g3, 0, none⟩ = some (.slice A2_0 l2_0.length c2_0) := (blk_cell Bg3.out 0).trans rfl
  have hxg3_1 : w42_.cell? ⟨g3, 1, none⟩ = some (.slice A2_1 l2_1.length c2_1) := (blk_cell Bg3.out 1).trans rfl
  have hfg3_0 := blk_frozen Bg3.out 0
  have hfg3_1 := blk_frozen Bg3.out 1
  have hxg11_0 : w42_.cell? ⟨g11, 0, none⟩ = some (.slice A12_0_ r6_0.length c12_0_) := (blk_cell Bg11.out 0).trans rfl
  have hfg11_0 := blk_frozen Bg11.out 0
  have hxg12_0 : w42_.cell? ⟨g12, 0, none⟩ = some (.slice A15_0_ r7_0.length c15_0_) := (blk_cell Bg12.out 0).trans rfl
  have hxg12_1 : w42_.cell? ⟨g12, 1, none⟩ = some (.slice A15_1_ r7_1.length c15_1_) := (blk_cell Bg12.out 1).trans rfl
  have hfg12_0 := blk_frozen Bg12.out 0
  have hfg12_1 := blk_frozen Bg12.out 1
  have hxg13_0 : w42_.cell? ⟨g13, 0, none⟩ = some (.slice A18_0_ r8_0.length c18_0_) := (blk_cell Bg13.out 0).trans rfl
  have hxg13_1 : w42_.cell? ⟨g13, 1, none⟩ = some (.slice A18_1_ r8_1.length c18_1_) := (blk_cell Bg13.out 1).trans rfl
  have hfg13_0 := blk_frozen Bg13.out 0
  have hfg13_1 := blk_frozen Bg13.out 1
  go_wp2_with (first | (go_at_call 43; refine hold ?_))
  unfold Hold
  refine (laws_eqIntS.calls ke11 _ _ r9_0 _ _ r9_0 true _ (Kd.R_reads' O42_0.out).2.2 (Kd.R_reads' O42_0.out).2.1 (Kd.R_reads' O11_0.out).2.2 (Kd.R_reads' O11_0.out).2.1 Ee11.out).mono ?_
  rintro e w43_ ⟨rfl, hd⟩
  have hb := hd.below; clear hd
  have Z43_ := Aside0.mk (show w42_.heap.size ≤ w43_.heap.size from hb.size)
  have n_ := Aside0.mk (Kd.R_below O8_0.out hb); clear O8_0; have O8_0 := n_; clear n_
  have n_ := Aside0.mk (Kd.R_below O9_0.out hb); clear O9_0; have O9_0 := n_; clear n_
  have n_ := Aside0.mk (Kd.S_below O9_1.out hb); clear O9_1; have O9_1 := n_; clear n_
  have n_ := Aside0.mk (Kd.R_below O10_0.out hb); clear O10_0; have O10_0 := n_; clear n_
  have n_ := Aside0.mk (Kd.S_below O10_1.out hb); clear O10_1; have O10_1 := n_; clear n_
  have n_ := Aside0.mk (Kd.R_below O11_0.out hb); clear O11_0; have O11_0 := n_; clear n_
  have n_ := Aside0.mk (Kd.R_below O12_0.out hb); clear O12_0; have O12_0 := n_; clear n_
  have n_ := Aside0.mk (Kd.R_below O15_0.out hb); clear O15_0; have O15_0 := n_; clear n_
  have n_ := Aside0.mk (Kd.S_below O15_1.out hb); clear O15_1; have O15_1 := n_; clear n_
  have n_ := Aside0.mk (Kd.R_below O18_0.out hb); clear O18_0; have O18_0 := n_; clear n_
  have n_ := Aside0.mk (Kd.S_below O18_1.out hb); clear O18_1; have O18_1 := n_; clear n_
  have n_ := Aside0.mk (Kd.R_below O21_0.out hb); clear O21_0; have O21_0 := n_; clear n_
  have n_ := Aside0.mk (Kd.R_below O24_0.out hb); clear O24_0; have O24_0 := n_; clear n_
  have n_ := Aside0.mk (Kd.R_below O27_0.out hb); clear O27_0; have O27_0 := n_; clear n_
  have n_ := Aside0.mk (Kd.S_below O27_1.out hb); clear O27_1; have O27_1 := n_; clear n_
  have n_ := Aside0.mk (Kd.R_below O30_0.out hb); clear O30_0; have O30_0 := n_; clear n_
  have n_ := Aside0.mk (Kd.S_below O30_1.out hb); clear O30_1; have O30_1 := n_; clear n_
  have n_ := Aside0.mk (Kd.R_below O39_0.out hb); clear O39_0; have O39_0 := n_; clear n_
  have n_ := Aside0.mk (Kd.R_below O40_0.out hb); clear O40_0; have O40_0 := n_; clear n_
  have n_ := Aside0.mk (Kd.S_below O40_1.out hb); clear O40_1; have O40_1 := n_; clear n_
  have n_ := Aside0.mk (Kd.R_below O41_0.out hb); clear O41_0; have O41_0 := n_; clear n_
  have n_ := Aside0.mk (Kd.S_below O41_1.out hb); clear O41_1; have O41_1 := n_; clear n_
  have n_ := Aside0.mk (Kd.R_below O42_0.out hb); clear O42_0; have O42_0 := n_; clear n_
  have n_ := Aside0.mk (blk_below Bg1.out hb); clear Bg1; have Bg1 := n_; clear n_
  have n_ := Aside0.mk (blk_below Bg2.out hb); clear Bg2; have Bg2 := n_; clear n_
  have n_ := Aside0.mk (blk_below Bg3.out hb); clear Bg3; have Bg3 := n_; clear n_
  have n_ := Aside0.mk (blk_below Bg11.out hb); clear Bg11; have Bg11 := n_; clear n_
  have n_ := Aside0.mk (blk_below Bg12.out hb); clear Bg12; have Bg12 := n_; clear n_
  have n_ := Aside0.mk (blk_below Bg13.out hb); clear Bg13; have Bg13 := n_; clear n_
  have n_ := Aside0.mk (below_step HB.out hb); clear HB; have HB := n_; clear n_
  clear hxg1_0
  clear hfg1_0
  clear hxg2_0
  clear hxg2_1
  clear hfg2_0
  clear hfg2_1
  clear hxg3_0
  clear hxg3_1
  clear hfg3_0
  clear hfg3_1
  clear hxg11_0
  clear hfg11_0
  clear hxg12_0
  clear hxg12_1
  clear hfg12_0
  clear hfg12_1
  clear hxg13_0
  clear hxg13_1
  clear hfg13_0
  clear hfg13_1
  have hxg1_0 : w43_.cell? ⟨g1, 0, none⟩ = some (.slice A0_0 l0_0.length c0_0) := (blk_cell Bg1.out 0).trans rfl
  have hfg1_0 := blk_frozen Bg1.out 0
  have hxg2_0 : w43_.cell? ⟨g2, 0, none⟩ = some (.slice A1_0 l1_0.length c1_0) := (blk_cell Bg2.out 0).trans rfl
  have hxg2_1 : w43_.cell? ⟨g2, 1, none⟩ = some (.slice A1_1 l1_1.length c1_1) := (blk_cell Bg2.out 1).trans rfl
  have hfg2_0 := blk_frozen Bg2.out 0
  have hfg2_1 := blk_frozen Bg2.out 1
  have hxg3_0 : w43_.cell? ⟨g3, 0, none⟩ = some (.slice A2_0 l2_0.length c2_0) := (blk_cell Bg3.out 0).trans rfl
  have hxg3_1 : w43_.cell? ⟨g3, 1, none⟩ = some (.slice A2_1 l2_1.length c2_1) := (blk_cell Bg3.out 1).trans rfl
  have hfg3_0 := blk_frozen Bg3.out 0
  have hfg3_1 := blk_frozen Bg3.out 1
  have hxg11_0 : w43_.cell? ⟨g11, 0, none⟩ = some (.slice A12_0_ r6_0.length c12_0_) := (blk_cell Bg11.out 0).trans rfl
  have hfg11_0 := blk_frozen Bg11.out 0
  have hxg12_0 : w43_.cell? ⟨g12, 0, none⟩ = some (.slice A15_0_ r7_0.length c15_0_) := (blk_cell Bg12.out 0).trans rfl
  have hxg12_1 : w43_.cell? ⟨g12, 1, none⟩ = some (.slice A15_1_ r7_1.length c15_1_) := (blk_cell Bg12.out 1).trans rfl
  have hfg12_0 := blk_frozen Bg12.out 0
  have hfg12_1 := blk_frozen Bg12.out 1
  have hxg13_0 : w43_.cell? ⟨g13, 0, none⟩ = some (.slice A18_0_ r8_0.length c18_0_) := (blk_cell Bg13.out 0).trans rfl
  have hxg13_1 : w43_.cell? ⟨g13, 1, none⟩ = some (.slice A18_1_ r8_1.length c18_1_) := (blk_cell Bg13.out 1).trans rfl
  have hfg13_0 := blk_frozen Bg13.out 0
  have hfg13_1 := blk_frozen Bg13.out 1
  clear hb
  go_wp2_with (first | (go_at_call 59; refine hold ?_))
  unfold Hold
  refine calls_of_args (args' := #[.slice A21_0_ r19_1.length c21_0_, .int .i64 1]) (by rw [show r9_0.length = r19_1.length from (Kd.R_reads' O21_0.out).1]) ?_
  refine (laws_heldIntS.calls ke20 _ _ r19_1 1 r19_0 _ (Kd.R_reads' O21_0.out).2.2 (Nat.le_trans (Nat.le_of_eq (Kd.R_reads' O21_0.out).1.symm) (Kd.R_reads' O21_0.out).2.1) Ee20.out).mono ?_
  rintro e w44_ ⟨rfl, hd⟩
  have hb := hd.below; clear hd
  have Z44_ := Aside0.mk (show w43_.heap.size ≤ w44_.heap.size from hb.size)
  have n_ := Aside0.mk (Kd.R_below O8_0.out hb); clear O8_0; have O8_0 := n_; clear n_
  have n_ := Aside0.mk (Kd.R_below O9_0.out hb); clear O9_0; have O9_0 := n_; clear n_
  have n_ := Aside0.mk (Kd.S_below O9_1.out hb); clear O9_1; have O9_1 := n_; clear n_
  have n_ := Aside0.mk (Kd.R_below O10_0.out hb); clear O10_0; have O10_0 := n_; clear n_
  have n_ := Aside0.mk (Kd.S_below O10_1.out hb); clear O10_1; have O10_1 := n_; clear n_
  have n_ := Aside0.mk (Kd.R_below O11_0.out hb); clear O11_0; have O11_0 := n_; clear n_
  have n_ := Aside0.mk (Kd.R_below O12_0.out hb); clear O12_0; have O12_0 := n_; clear n_
  have n_ := Aside0.mk (Kd.R_below O15_0.out hb); clear O15_0; have O15_0 := n_; clear n_
  have n_ := Aside0.mk (Kd.S_below O15_1.out hb); clear O15_1; have O15_1 := n_; clear n_
  have n_ := Aside0.mk (Kd.R_below O18_0.out hb); clear O18_0; have O18_0 := n_; clear n_
  have n_ := Aside0.mk (Kd.S_below O18_1.out hb); clear O18_1; have O18_1 := n_; clear n_
  have n_ := Aside0.mk (Kd.R_below O21_0.out hb); clear O21_0; have O21_0 := n_; clear n_
  have n_ := Aside0.mk (Kd.R_below O24_0.out hb); clear O24_0; have O24_0 := n_; clear n_
  have n_ := Aside0.mk (Kd.R_below O27_0.out hb); clear O27_0; have O27_0 := n_; clear n_
  have n_ := Aside0.mk (Kd.S_below O27_1.out hb); clear O27_1; have O27_1 := n_; clear n_
  have n_ := Aside0.mk (Kd.R_below O30_0.out hb); clear O30_0; have O30_0 := n_; clear n_
  have n_ := Aside0.mk (Kd.S_below O30_1.out hb); clear O30_1; have O30_1 := n_; clear n_
  have n_ := Aside0.mk (Kd.R_below O39_0.out hb); clear O39_0; have O39_0 := n_; clear n_
  have n_ := Aside0.mk (Kd.R_below O40_0.out hb); clear O40_0; have O40_0 := n_; clear n_
  have n_ := Aside0.mk (Kd.S_below O40_1.out hb); clear O40_1; have O40_1 := n_; clear n_
  have n_ := Aside0.mk (Kd.R_below O41_0.out hb); clear O41_0; have O41_0 := n_; clear n_
  have n_ := Aside0.mk (Kd.S_below O41_1.out hb); clear O41_1; have O41_1 := n_; clear n_
  have n_ := Aside0.mk (Kd.R_below O42_0.out hb); clear O42_0; have O42_0 := n_; clear n_
  have n_ := Aside0.mk (blk_below Bg1.out hb); clear Bg1; have Bg1 := n_; clear n_
  have n_ := Aside0.mk (blk_below Bg2.out hb); clear Bg2; have Bg2 := n_; clear n_
  have n_ := Aside0.mk (blk_below Bg3.out hb); clear Bg3; have Bg3 := n_; clear n_
  have n_ := Aside0.mk (blk_below Bg11.out hb); clear Bg11; have Bg11 := n_; clear n_
  have n_ := Aside0.mk (blk_below Bg12.out hb); clear Bg12; have Bg12 := n_; clear n_
  have n_ := Aside0.mk (blk_below Bg13.out hb); clear Bg13; have Bg13 := n_; clear n_
  have n_ := Aside0.mk (below_step HB.out hb); clear HB; have HB := n_; clear n_
  clear hxg1_0
  clear hfg1_0
  clear hxg2_0
  clear hxg2_1
  clear hfg2_0
  clear hfg2_1
  clear hxg3_0
  clear hxg3_1
  clear hfg3_0
  clear hfg3_1
  clear hxg11_0
  clear hfg11_0
  clear hxg12_0
  clear hxg12_1
  clear hfg12_0
  clear hfg12_1
  clear hxg13_0
  clear hxg13_1
  clear hfg13_0
  clear hfg13_1
  have hxg1_0 : w44_.cell? ⟨g1, 0, none⟩ = some (.slice A0_0 l0_0.length c0_0) := (blk_cell Bg1.out 0).trans rfl
  have hfg1_0 := blk_frozen Bg1.out 0
  have hxg2_0 : w44_.cell? ⟨g2, 0, none⟩ = some (.slice A1_0 l1_0.length c1_0) := (blk_cell Bg2.out 0).trans rfl
  have hxg2_1 : w44_.cell? ⟨g2, 1, none⟩ = some (.slice A1_1 l1_1.length c1_1) := (blk_cell Bg2.out 1).trans rfl
  have hfg2_0 := blk_frozen Bg2.out 0
  have hfg2_1 := blk_frozen Bg2.out 1
  have hxg3_0 : w44_.cell? ⟨g3, 0, none⟩ = some (.slice A2_0 l2_0.length c2_0) := (blk_cell Bg3.out 0).trans rfl
  have hxg3_1 : w44_.cell? ⟨g3, 1, none⟩ = some (.slice A2_1 l2_1.length c2_1) := (blk_cell Bg3.out 1).trans rfl
  have hfg3_0 := blk_frozen Bg3.out 0
  have hfg3_1 := blk_frozen Bg3.out 1
  have hxg11_0 : w44_.cell? ⟨g11, 0, none⟩ = some (.slice A12_0_ r6_0.length c12_0_) := (blk_cell Bg11.out 0).trans rfl
  have hfg11_0 := blk_frozen Bg11.out 0
  have hxg12_0 : w44_.cell? ⟨g12, 0, none⟩ = some (.slice A15_0_ r7_0.length c15_0_) := (blk_cell Bg12.out 0).trans rfl
  have hxg12_1 : w44_.cell? ⟨g12, 1, none⟩ = some (.slice A15_1_ r7_1.length c15_1_) := (blk_cell Bg12.out 1).trans rfl
  have hfg12_0 := blk_frozen Bg12.out 0
  have hfg12_1 := blk_frozen Bg12.out 1
  have hxg13_0 : w44_.cell? ⟨g13, 0, none⟩ = some (.slice A18_0_ r8_0.length c18_0_) := (blk_cell Bg13.out 0).trans rfl
  have hxg13_1 : w44_.cell? ⟨g13, 1, none⟩ = some (.slice A18_1_ r8_1.length c18_1_) := (blk_cell Bg13.out 1).trans rfl
  have hfg13_0 := blk_frozen Bg13.out 0
  have hfg13_1 := blk_frozen Bg13.out 1
  clear hb
  go_wp2
  go_ret
  exact ⟨rfl, HB.out⟩
theorem FnExactFindMapping_calls (A0_0 : Option Addr) (c0_0 : Nat) (l0_0 : List Int) (A1_0 : Option Addr) (c1_0 : Nat) (l1_0 : List Int) (A1_1 : Option Addr) (c1_1 : Nat) (l1_1 : List S124) (A2_0 : Option Addr) (c2_0 : Nat) (l2_0 : List Int) (A2_1 : Option Addr) (c2_1 : Nat) (l2_1 : List S124) (w : World) (hr0_0 : Kd.C (Kd.int .i64) w A0_0 l0_0.length l0_0) (hc0_0 : l0_0.length ≤ c0_0) (hr1_0 : Kd.C (Kd.int .i64) w A1_0 l1_0.length l1_0) (hc1_0 : l1_0.length ≤ c1_0) (hr1_1 : Kd.C k124 w A1_1 l1_1.length l1_1) (hc1_1 : l1_1.length ≤ c1_1) (hr2_0 : Kd.C (Kd.int .i64) w A2_0 l2_0.length l2_0) (hc2_0 : l2_0.length ≤ c2_0) (hr2_1 : Kd.C k124 w A2_1 l2_1.length l2_1) (hc2_1 : l2_1.length ≤ c2_1)
    (w0 : (WfL WfI) l0_0) (w1 : (WfL WfI) l1_0 ∧ (WfL (fun x : S124 => WfI x.f0 ∧ (WfL WfI) x.f1)) l1_1) (w2 : (WfL WfI) l2_0 ∧ (WfL (fun x : S124 => WfI x.f0 ∧ (WfL WfI) x.f1)) l2_1) :
    Calls Try.prog 12 #[.agg #[.slice A0_0 l0_0.length c0_0], .agg #[.slice A1_0 l1_0.length c1_0, .slice A1_1 l1_1.length c1_1], .agg #[.slice A2_0 l2_0.length c2_0, .slice A2_1 l2_1.length c2_1]] w fun e w' => e = .returned (.bool true) ∧ Below w.heap.size w w' := by
  obtain ⟨t0, z0, c0⟩ := szSchema_ok l0_0 1048576 w0 (by omega) (by omega)
  obtain ⟨_, z0⟩ := z0.rounds
  rcases c0 with c0 | ⟨p0, q0, hs0⟩
  · exact laws_FnExactFindMapping_out0 _ _ _ _ _ _ _ _ _ _ _ _ _ _ _ w hr0_0 hc0_0 hr1_0 hc1_0 hr1_1 hc1_1 hr2_0 hc2_0 hr2_1 hc2_1 _ z0 c0
  obtain ⟨t1, z1, c1⟩ := szQuery_ok l1_0 l1_1 t0 w1 (by omega) (by omega)
  rcases c1 with c1 | ⟨p1, q1, hs1⟩
  · exact laws_FnExactFindMapping_out1 _ _ _ _ _ _ _ _ _ _ _ _ _ _ _ w hr0_0 hc0_0 hr1_0 hc1_0 hr1_1 hc1_1 hr2_0 hc2_0 hr2_1 hc2_1 _ _ z0 (by omega) z1.rounds c1
  obtain ⟨t2, z2, c2⟩ := szQuery_ok l2_0 l2_1 t1 w2 (by omega) (by omega)
  rcases c2 with c2 | ⟨p2, q2, hs2⟩
  · exact laws_FnExactFindMapping_out2 _ _ _ _ _ _ _ _ _ _ _ _ _ _ _ w hr0_0 hc0_0 hr1_0 hc1_0 hr1_1 hc1_1 hr2_0 hc2_0 hr2_1 hc2_1 _ _ _ z0 (by omega) z1.rounds (by omega) z2.rounds c2
  have d1 : (l1_1.map cvA).length ≤ 1048576 := by simpa using hs1.2.1
  have s1 := cvA_small hs1.2.2
  have d2 : (l2_1.map cvA).length ≤ 1048576 := by simpa using hs2.2.1
  have s2 := cvA_small hs2.2.2
  obtain ⟨m0, m1, m2⟩ := markQ_ok l1_0 (l1_1.map cvA) (1 + (l0_0.length : Int)) hs1.1 d1 s1 (by omega) (by omega)
  obtain ⟨n0, n1, n2⟩ := markQ_ok l2_0 (l2_1.map cvA) (mkQ l1_0 (l1_1.map cvA) (1 + (l0_0.length : Int))).1 hs2.1 d2 s2 (by omega) (by omega)
  have g := mFindQ_len l0_0 l1_0 (l1_1.map cvA) l2_0 (l2_1.map cvA)
  generalize hP : mFindQ l0_0 l1_0 (l1_1.map cvA) l2_0 (l2_1.map cvA) = P at g
  obtain ⟨f0, f1⟩ := P
  simp only [] at g
  exact laws_FnExactFindMapping_walk _ _ _ _ _ _ _ _ _ _ _ _ _ _ _ w hr0_0 hc0_0 hr1_0 hc1_0 hr1_1 hc1_1 hr2_0 hc2_0 hr2_1 hc2_1 _ _ _ _ _ _ _ _ f0 f1 _ _ _ _ _ _ _ _ _ _ z0 (by omega) z1.rounds (by omega) z2.rounds (by omega)
    (toSchema_ev l0_0 (by omega)).rounds (toQuery_ev l1_0 l1_1 hs1.1 hs1.2.1 hs1.2.2).rounds (toQuery_ev l2_0 l2_1 hs2.1 hs2.2.1 hs2.2.2).rounds
    hP ⟨⟨by omega, hs1.1, d1, hs2.1, d2⟩, s1, s2⟩ hP ⟨⟨by omega, hs1.1, d1, hs2.1, d2⟩, s1, s2⟩
    (by have e := eqIntS_ev f0 f0 (by omega); rw [decide_eq_true rfl] at e; exact e.rounds) (by have e := eqSchema_ev l0_0 l0_0 (by omega); rw [decide_eq_true rfl] at e; exact e.rounds) (eqQuery_ev _ _ hs1.1 d1 s1).rounds (eqQuery_ev _ _ hs2.1 d2 s2).rounds
    (markSchema_ev l0_0 1 (by omega) (by omega) (by omega)).rounds rfl m0 rfl n0 (by show ¬ (mkQ l2_0 (l2_1.map cvA) (mkQ l1_0 (l1_1.map cvA) (1 + (l0_0.length : Int))).1).1 < 0; omega)
    (markIntS_ev f0 1 (by omega) (by omega) (by omega)).rounds (heldIntS_ev 1 _ (by omega) (by omega) (by omega)).rounds (by omega)


end Go.Proofs.Ytanbgnjfllpkgaa.Hand
