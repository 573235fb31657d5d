/- Walks through the Go functions that FnMappings reaches: each call returns what the Lean function beside it says, within the bounds that the theorem names. -/
import Derived.Test.YtanbgnjfllpkgaaQFnMappingsx0
import Derived.Test.YtanbgnjfllpkgaaQFnMappingsx7
namespace Go.Proofs.Ytanbgnjfllpkgaa.QFnMappings
open Go.RowKit Go.Proofs.YtanbgnjfllpkgaaW.PrintWords Go.Proofs.YtanbgnjfllpkgaaW.PrintLast Go.Proofs.YtanbgnjfllpkgaaW.PrintMore
attribute [local go_sem] max2_int min2_int max_two min_two max_three min_three max_four min_four   -- for this text's walks alone
set_option linter.unusedVariables false
set_option linter.unusedSimpArgs false


/-! ### impl_send: function 137 -/
def impl_send.f (l0 : List Int) (a1 : Int) (a2 : Int) : Option (Bool × List Int) := (impl_IsVar.f a1).bind fun t299 => (if t299 = true then (if 0 ≤ a1 then (if a1 < (l0.length : Int) then (if (rd l0 a1) = (-1000) then ((some (l0.set (a1 : Int).toNat a2 : List Int)).bind fun y301 => (some (((rd y301 a1) == a2), y301))) else (some (((rd l0 a1) == a2), l0))) else (none)) else (none)) else (some ((a1 == a2), l0)))
-- NOT PRINTED: function 106 (impl_mapping)

-- NOT PRINTED: function 57 (impl_FindMapping)

/-- A state of type 121 at block g of W; what its slices lead to came in by w0. -/
def IsS121 (w0 W : World) (g : Nat) (f0 : List Int) (f1 : Int) (f2 : Int) : Prop := ∃ A0 c0, W.heap[g]? = some (.cells #[.slice A0 f0.length c0, .int .i64 f1, .int .i64 f2] 121 (0, 0)) ∧ w0.heap.size ≤ g ∧ Kd.C (Kd.int .u8) w0 A0 f0.length f0
theorem IsS121.grown {w0 W : World} {g : Nat} {f0 : List Int} {f1 : Int} {f2 : Int} {W1 : World} {row : Option Nat} (h : IsS121 w0 W g f0 f1 f2) (hw : W.grownBy W1 row) (hne : some g ≠ row) : IsS121 w0 W1 g f0 f1 f2 := by
 obtain ⟨A0,c0,hb,hg,hr0⟩:=h
 exact ⟨A0,c0,blk_grown hb hw hne,hg,hr0⟩
theorem IsS121.own_neN {w0 W : World} {g : Nat} {f0 : List Int} {f1 : Int} {f2 : Int} {α : Type} {d : Kd α} {e : Nat} {base : Nat} {ok : Nat → Prop} {v : Value} {xs : List α} (h : IsS121 w0 W g f0 f1 f2) (ho : Kd.N d e W base ok v xs) (ht : e ≠ 121) : some g ≠ v.ownBlock := by
 obtain ⟨A0,c0,hb,hg,hr0⟩:=h
 exact Kd.N_ne ho hb ht
theorem IsS121.fresh {w0 W : World} {g : Nat} {f0 : List Int} {f1 : Int} {f2 : Int} (h : IsS121 w0 W g f0 f1 f2) : ∀ k, W.heap.size ≤ k → k ≠ g := by
 obtain ⟨A0,c0,hb,hg,hr0⟩:=h
 exact Kd.freshB hb
theorem IsS121.kept {w0 W : World} {g : Nat} {f0 : List Int} {f1 : Int} {f2 : Int} {W1 : World} {S : Nat → Prop} (h : IsS121 w0 W g f0 f1 f2) (hk : Kept W W1 S) (hne : ¬ S g) : IsS121 w0 W1 g f0 f1 f2 := by
 obtain ⟨A0,c0,hb,hg,hr0⟩:=h
 exact ⟨A0,c0,blk_kept hb hk hne,hg,hr0⟩
theorem IsS121.below {w0 W : World} {g : Nat} {f0 : List Int} {f1 : Int} {f2 : Int} {W1 : World} (h : IsS121 w0 W g f0 f1 f2) (hw : Below W.heap.size W W1) : IsS121 w0 W1 g f0 f1 f2 := h.grown (grown_of_below hw none) (by simp)
theorem IsS121.alloc {w0 W : World} {g : Nat} {f0 : List Int} {f1 : Int} {f2 : Int} (h : IsS121 w0 W g f0 f1 f2) (o : Obj) : IsS121 w0 (W.alloc o) g f0 f1 f2 := h.below (zK (Below.refl _ _) o)
theorem IsS121.drewN {w0 W : World} {g : Nat} {f0 : List Int} {f1 : Int} {f2 : Int} (h : IsS121 w0 W g f0 f1 f2) (m : Nat) : IsS121 w0 (W.drewN m) g f0 f1 f2 := h
theorem IsS121.drew {w0 W : World} {g : Nat} {f0 : List Int} {f1 : Int} {f2 : Int} (h : IsS121 w0 W g f0 f1 f2) : IsS121 w0 W.drew g f0 f1 f2 := h
theorem IsS121.at_ {w0 W : World} {g : Nat} {f0 : List Int} {f1 : Int} {f2 : Int} {w' : World} {m : Nat} (hq : W.drewN m = w') (h : IsS121 w0 W g f0 f1 f2) : IsS121 w0 w' g f0 f1 f2 := by subst hq; exact IsS121.drewN h m
theorem IsS121.apart {w0 W : World} {g : Nat} {f0 : List Int} {f1 : Int} {f2 : Int} {α : Type} {d : Kd α} {e : Nat} {base : Nat} {ok : Nat → Prop} {v : Value} {xs : List α} (h : IsS121 w0 W g f0 f1 f2) (ho : d.R e W base ok v xs) (ht : ∀ q, q ∈ e :: d.E → q ≠ 121) : d.R e W base (fun k => ok k ∧ k ≠ g) v xs := by
 obtain ⟨A0,c0,hb,hg,hr0⟩:=h
 exact Kd.R_types ho hb ht
theorem IsS121.own_ne {w0 W : World} {g : Nat} {f0 : List Int} {f1 : Int} {f2 : Int} {α : Type} {d : Kd α} {e : Nat} {base : Nat} {ok : Nat → Prop} {v : Value} {xs : List α} (h : IsS121 w0 W g f0 f1 f2) (ho : d.R e W base ok v xs) (ht : e ≠ 121) : some g ≠ v.ownBlock := by
 obtain ⟨A0,c0,hb,hg,hr0⟩:=h
 exact Kd.R_ne ho hb ht
theorem IsS121.apartQ {w0 W : World} {g : Nat} {f0 : List Int} {f1 : Int} {f2 : Int} {α : Type} {d : Kd α} {e : Nat} {base : Nat} {ok : Nat → Prop} {v : Value} {xs : List α} (h : IsS121 w0 W g f0 f1 f2) (ho : d.Q e W base ok v xs) (ht : ∀ q, q ∈ e :: d.E → q ≠ 121) : d.Q e W base (fun k => ok k ∧ k ≠ g) v xs := by
 obtain ⟨A0,c0,hb,hg,hr0⟩:=h
 exact Kd.Q_types ho hb ht
theorem IsS121.own_neQ {w0 W : World} {g : Nat} {f0 : List Int} {f1 : Int} {f2 : Int} {α : Type} {d : Kd α} {e : Nat} {base : Nat} {ok : Nat → Prop} {v : Value} {xs : List α} (h : IsS121 w0 W g f0 f1 f2) (ho : d.Q e W base ok v xs) (ht : e ≠ 121) : some g ≠ v.ownBlock := by
 obtain ⟨A0,c0,hb,hg,hr0⟩:=h
 exact Kd.Q_ne ho hb ht
theorem IsS121.apartS {w0 W : World} {g : Nat} {f0 : List Int} {f1 : Int} {f2 : Int} {α : Type} {d : Kd α} {e : Nat} {base : Nat} {ok : Nat → Prop} {v : Value} {xs : List α} (h : IsS121 w0 W g f0 f1 f2) (ho : d.S e W base ok v xs) (ht : ∀ q, q ∈ e :: d.E → q ≠ 121) : d.S e W base (fun k => ok k ∧ k ≠ g) v xs := by
 obtain ⟨A0,c0,hb,hg,hr0⟩:=h
 exact Kd.S_types ho hb ht
theorem IsS121.own_neS {w0 W : World} {g : Nat} {f0 : List Int} {f1 : Int} {f2 : Int} {α : Type} {d : Kd α} {e : Nat} {base : Nat} {ok : Nat → Prop} {v : Value} {xs : List α} (h : IsS121 w0 W g f0 f1 f2) (ho : d.S e W base ok v xs) (ht : e ≠ 121) : some g ≠ v.ownBlock := by
 obtain ⟨A0,c0,hb,hg,hr0⟩:=h
 exact Kd.S_ne ho hb ht
theorem IsS121.lt {w0 W : World} {g : Nat} {f0 : List Int} {f1 : Int} {f2 : Int} (h : IsS121 w0 W g f0 f1 f2) : g < W.heap.size := by
 obtain ⟨A0,c0,hb,hg,hr0⟩:=h
 exact blk_lt hb
theorem IsS121.ge {w0 W : World} {g : Nat} {f0 : List Int} {f1 : Int} {f2 : Int} (h : IsS121 w0 W g f0 f1 f2) : w0.heap.size ≤ g := by
 obtain ⟨A0,c0,hb,hg,hr0⟩:=h
 exact hg
theorem IsS121.ne_blk {w0 W : World} {g : Nat} {f0 : List Int} {f1 : Int} {f2 : Int} {a : Nat} {cs : Array Value} {t : TypeId} {fr : Nat × Nat} (h : IsS121 w0 W g f0 f1 f2) (hb2 : W.heap[a]? = some (.cells cs t fr)) (ht : t ≠ 121) : g ≠ a := by
 obtain ⟨A0,c0,hb,hg,hr0⟩:=h
 rintro rfl
 rw [hb] at hb2
 injection hb2 with hb2
 injection hb2 with _ ht2
 exact ht ht2.symm
theorem IsS121.far {w0 W : World} {g : Nat} {f0 : List Int} {f1 : Int} {f2 : Int} {p : Addr} (h : IsS121 w0 W g f0 f1 f2) (hne : g ≠ p.block) (u : Value) : IsS121 w0 (W.setCell p u) g f0 f1 f2 := by
 obtain ⟨A0,c0,hb,hg,hr0⟩:=h
 exact ⟨A0,c0,zUb hb hne u,hg,hr0⟩
theorem cellS121_0 {W : World} {g : Nat} {A0 : Option Addr} {c0 : Nat} {f0 : List Int} {f1 : Int} {f2 : Int} (h : W.heap[g]? = some (.cells #[.slice A0 f0.length c0, .int .i64 f1, .int .i64 f2] 121 (0, 0))) : W.cell? ⟨g, 0, none⟩ = some (.slice A0 f0.length c0) := (zP h 0).trans rfl
theorem cellS121_1 {W : World} {g : Nat} {A0 : Option Addr} {c0 : Nat} {f0 : List Int} {f1 : Int} {f2 : Int} (h : W.heap[g]? = some (.cells #[.slice A0 f0.length c0, .int .i64 f1, .int .i64 f2] 121 (0, 0))) : W.cell? ⟨g, 1, none⟩ = some (.int .i64 f1) := (zP h 1).trans rfl
theorem IsS121.set_1 {w0 W : World} {g : Nat} {f0 : List Int} {f1 : Int} {f2 : Int} (h : IsS121 w0 W g f0 f1 f2) (x : Int) : IsS121 w0 (W.setCell ⟨g, 1, none⟩ (.int .i64 x)) g f0 x f2 := by
 obtain ⟨A0,c0,hb,hg,hr0⟩:=h
 exact ⟨A0,c0,by simpa using blk_set hb 1 (.int .i64 x),hg,hr0⟩
theorem cellS121_2 {W : World} {g : Nat} {A0 : Option Addr} {c0 : Nat} {f0 : List Int} {f1 : Int} {f2 : Int} (h : W.heap[g]? = some (.cells #[.slice A0 f0.length c0, .int .i64 f1, .int .i64 f2] 121 (0, 0))) : W.cell? ⟨g, 2, none⟩ = some (.int .i64 f2) := (zP h 2).trans rfl
theorem IsS121.set_2 {w0 W : World} {g : Nat} {f0 : List Int} {f1 : Int} {f2 : Int} (h : IsS121 w0 W g f0 f1 f2) (x : Int) : IsS121 w0 (W.setCell ⟨g, 2, none⟩ (.int .i64 x)) g f0 f1 x := by
 obtain ⟨A0,c0,hb,hg,hr0⟩:=h
 exact ⟨A0,c0,by simpa using blk_set hb 2 (.int .i64 x),hg,hr0⟩
theorem zis {w0 w1 W : World} {g : Nat} {f0 h0 : List Int} {f1 h1 : Int} {f2 h2 : Int} (h : Aside0 (IsS121 w0 w1 g f0 f1 f2)) (f : IsS121 w0 w1 g f0 f1 f2 → IsS121 w0 W g h0 h1 h2 := by intro h_; repeat (first | (with_reducible first | exact h_ | apply IsS121.alloc | apply IsS121.drewN | apply IsS121.drew | apply IsS121.set_1 | apply IsS121.set_2 | refine IsS121.far ?_ (Aside0.out (by assumption)) _) | exact h_)) : IsS121 w0 W g h0 h1 h2 := f h.out
theorem zbs {n : Nat} {w w1 W : World} {R : Prop} (h : Aside0 (Below n w w1)) (i : Aside0 R) (f : Below n w w1 → R → Below n w W := by intro h_ i_; repeat (first | (with_reducible first | exact h_ | apply below_alloc | apply pw_below_drewN | apply below_drew1 | refine below_set ?_ (IsS121.ge i_) | refine below_set ?_ (Aside0.out (by assumption))) | exact h_)) : Below n w W := f h.out i.out
theorem IsS121.new (w0 W : World) (A0 : Option Addr) (c0 : Nat) (f0 : List Int) (f1 : Int) (f2 : Int) (hB : Below w0.heap.size w0 W) (hr0 : Kd.C (Kd.int .u8) w0 A0 f0.length f0) : IsS121 w0 (W.alloc (.cells #[.slice A0 f0.length c0, .int .i64 f1, .int .i64 f2] 121)) W.heap.size f0 f1 f2 := ⟨A0, c0, by simpa using heap_alloc_new W _, hB.size, hr0⟩

/-! ### spec_l1New: function 75 -/
def spec_l1New.l0 : Nat → List Int → Int → Int → Option (List Int × Int × Int)
 | 0, _, _, _ => none
 | k + 1, x0, x3, x4 => if x4 < (x0.length : Int) then (if x4 < 4000 then (if 0 ≤ x4 then (spec_l1New.l0 k x0 (Go.bits .and .i64 (wrap64 ((wrap64 ((wrap64 (x3 * 131)) + (wrap64 (rd x0 x4)))) + 7)) 1073741823) (wrap64 (x4 + 1))) else (none)) else (some (x0, 0, x3))) else (some (x0, 0, x3))
def spec_l1New.f (k : Nat) (l0 : List Int) : Option (List Int × Int × Int) := spec_l1New.l0 k l0 (wrap64 (10101 + (l0.length : Int))) 0
set_option maxHeartbeats 8000000 in
set_option maxRecDepth 100000 in
theorem spec_l1New.calls (k : Nat) (A0 : Option Addr) (c0 : Nat) (l0 : List Int) (r1 : List Int) (r2 : Int) (r3 : Int) (w0 w : World) (hB : Below w0.heap.size w0 w) (hr0 : Kd.C (Kd.int .u8) w0 A0 l0.length l0) (hc0 : l0.length ≤ c0) (h : spec_l1New.f k l0 = some (r1, r2, r3)) :
  Calls Try.prog 75 #[.slice A0 l0.length c0] w fun e w' => ∃ g_ : Nat, e = .returned (.pointer (some ⟨g_, 0, none⟩)) ∧ IsS121 w0 w' g_ r1 r2 r3 ∧ Below w0.heap.size w0 w' ∧ Below w.heap.size w w' := by
 have hu121:=Try.underlying121;have HR0:=zA hr0;have HC0:=zA hc0;clear hr0 hc0;have HBW:=zA (Below.refl w.heap.size w);have HW0:=zA hB.size;have HB:=zA hB;clear hB
 have H : (spec_l1New.l0 k l0 (wrap64 (10101 + (l0.length : Int))) 0) = some (r1,r2,r3):=h
 clear h
 have H':=zA H
 clear H
 go_enter Try.func75,Try.ntmps75
 go_wp2
 go_loopg [3,4] k (fun kq v3 v4 w' => ∃ (x3_1 : Int) (x4_1 : Int),v3 = .int .i64 x3_1 ∧ v4 = .int .i64 x4_1 ∧ Aside0 (spec_l1New.l0 kq l0 x3_1 x4_1 = some (r1,r2,r3)) ∧ Aside0 (kq ≤ k) ∧ Aside0 (Below w0.heap.size w0 w') ∧ Aside0 (Below w.heap.size w w'))
 case atStart => exact ⟨(wrap64 (10101 + (l0.length : Int))),(0),za,za,H',⟨Nat.le_refl _⟩,⟨zz HB⟩,⟨zz HBW⟩⟩
 case round =>
  clear H';obtain ⟨x3_1,x4_1,rfl,rfl,HA,HK1,HB,HBW⟩:=hrel
  cases gk with
  | zero => exact absurd HA.out (by simp [spec_l1New.l0])
  | succ k1 =>
   have H:=HA.out;clear HA;simp only [spec_l1New.l0] at H
   by_cases c2 : x4_1 < (l0.length : Int)
   ·
    rw [if_pos c2] at H;have c2b0:=decide_eq_true c2;clear c2
    by_cases c3 : x4_1 < 4000
    ·
     rw [if_pos c3] at H;have c3b0:=decide_eq_true c3;clear c3
     by_cases c4 : 0 ≤ x4_1
     ·
      rw [if_pos c4] at H;have c4b0:=decide_eq_true c4;clear c4
      have H':=zA H
      clear H;have p325 : 0 ≤ (x4_1 : Int):=zXb ze;have q325 : x4_1 < (l0.length : Int):=zXb ze;obtain ⟨ad325,e325,hx325_0⟩:=Kd.at_int HR0.out x4_1 p325 q325
      cases e325
      replace hx325_0:=pw_cell_below HB.out hx325_0;replace p325:=eq_true p325;replace q325:=eq_true q325
      go_wp2
      go_roundg k1
      case measure => have:=HK1.out;omega
      case rel => exact ⟨(Go.bits .and .i64 (wrap64 ((wrap64 ((wrap64 (x3_1 * 131)) + (wrap64 (rd l0 x4_1)))) + 7)) 1073741823),(wrap64 (x4_1 + 1)),za,za,H',⟨by have:=HK1.out;omega⟩,⟨zz HB⟩,⟨zz HBW⟩⟩
     ·
      rw [if_neg c4] at H
      exact absurd H (by simp)
    ·
     rw [if_neg c3] at H;have c3b0:=decide_eq_false c3;clear c3;simp only [Option.some.injEq,Prod.mk.injEq] at H;obtain ⟨rfl,rfl,rfl⟩:=H
     go_wp2_with (first|((with_reducible refine gate_dst (N:=31) rfl ?_);refine zbx 31 #[.slice A0 l0.length c0,.int .i64 0,.int .i64 x3_1] 121 ?_;intro gb326 hg w5 hbox hb;replace HB:=zA (zJb (zz HB) hb);have BK326:=zA (hbox);have GW326:=zgw hg HBW;have GE326:=zA ((Nat.le_trans HW0.out (zgw hg HBW).out : w0.heap.size ≤ gb326));replace HBW:=zA (zJb HBW.out hb);clear hb hbox hg))
     go_ret
     exact ⟨_,rfl,(show IsS121 w0 _ gb326 l0 0 x3_1 from ⟨_,_,zx BK326,GE326.out,HR0.out⟩),zz HB,by repeat (first|(with_reducible first|exact HBW.out|apply zK|apply zC|apply zJ|refine zB ?_ GW326.out)|exact HBW.out)⟩
   ·
    rw [if_neg c2] at H;have c2b0:=decide_eq_false c2;clear c2;simp only [Option.some.injEq,Prod.mk.injEq] at H;obtain ⟨rfl,rfl,rfl⟩:=H
    go_wp2_with (first|((with_reducible refine gate_dst (N:=31) rfl ?_);refine zbx 31 #[.slice A0 l0.length c0,.int .i64 0,.int .i64 x3_1] 121 ?_;intro gb327 hg w6 hbox hb;replace HB:=zA (zJb (zz HB) hb);have BK327:=zA (hbox);have GW327:=zgw hg HBW;have GE327:=zA ((Nat.le_trans HW0.out (zgw hg HBW).out : w0.heap.size ≤ gb327));replace HBW:=zA (zJb HBW.out hb);clear hb hbox hg))
    go_ret
    exact ⟨_,rfl,(show IsS121 w0 _ gb327 l0 0 x3_1 from ⟨_,_,zx BK327,GE327.out,HR0.out⟩),zz HB,by repeat (first|(with_reducible first|exact HBW.out|apply zK|apply zC|apply zJ|refine zB ?_ GW327.out)|exact HBW.out)⟩

/-! ### spec_l1Byte: function 120 -/
def spec_l1Byte.f (s0_0 : List Int) (s0_1 : Int) (s0_2 : Int) : Option (Int × Int × Int) := if s0_1 < (s0_0.length : Int) then (if 0 ≤ s0_1 then (some (Go.bits .and .i64 (wrap64 ((Go.bits .and .i64 (Go.bits .xor .i64 ((wrap64 ((wrap64 (s0_2 * 6364136223846793005)) + 1442695040888963407)) / 8589934592) ((wrap64 ((wrap64 (s0_2 * 6364136223846793005)) + 1442695040888963407)) / 35184372088832)) 255) + (wrap64 (rd s0_0 s0_1)))) 255, wrap64 (s0_1 + 1), wrap64 ((wrap64 (s0_2 * 6364136223846793005)) + 1442695040888963407))) else (none)) else (some (Go.bits .and .i64 (Go.bits .xor .i64 ((wrap64 ((wrap64 (s0_2 * 6364136223846793005)) + 1442695040888963407)) / 8589934592) ((wrap64 ((wrap64 (s0_2 * 6364136223846793005)) + 1442695040888963407)) / 35184372088832)) 255, s0_1, wrap64 ((wrap64 (s0_2 * 6364136223846793005)) + 1442695040888963407)))
set_option maxHeartbeats 8000000 in
set_option maxRecDepth 100000 in
theorem spec_l1Byte.calls (g : Nat) (s0_0 : List Int) (s0_1 : Int) (s0_2 : Int) (r1 : Int) (r2 : Int) (r3 : Int) (w0 w : World) (hI : IsS121 w0 w g s0_0 s0_1 s0_2) (hB : Below w0.heap.size w0 w) (h : spec_l1Byte.f s0_0 s0_1 s0_2 = some (r1, r2, r3)) :
  Calls Try.prog 120 #[.pointer (some ⟨g, 0, none⟩)] w fun e w' => e = .returned (.int .i64 r1) ∧ IsS121 w0 w' g s0_0 r2 r3 ∧ Below w0.heap.size w0 w' ∧ KeepBut w w' g none := by
 have HI0:=zA hI;have HK:=zA (KeepBut.refl w g none);have HL:=zA hB.size;clear hI;have HW0:=zA hB.size;have HB:=zA hB;clear hB
 have H : (if s0_1 < (s0_0.length : Int) then (if 0 ≤ s0_1 then (some (Go.bits .and .i64 (wrap64 ((Go.bits .and .i64 (Go.bits .xor .i64 ((wrap64 ((wrap64 (s0_2 * 6364136223846793005)) + 1442695040888963407)) / 8589934592) ((wrap64 ((wrap64 (s0_2 * 6364136223846793005)) + 1442695040888963407)) / 35184372088832)) 255) + (wrap64 (rd s0_0 s0_1)))) 255,wrap64 (s0_1 + 1),wrap64 ((wrap64 (s0_2 * 6364136223846793005)) + 1442695040888963407))) else (none)) else (some (Go.bits .and .i64 (Go.bits .xor .i64 ((wrap64 ((wrap64 (s0_2 * 6364136223846793005)) + 1442695040888963407)) / 8589934592) ((wrap64 ((wrap64 (s0_2 * 6364136223846793005)) + 1442695040888963407)) / 35184372088832)) 255,s0_1,wrap64 ((wrap64 (s0_2 * 6364136223846793005)) + 1442695040888963407)))) = some (r1,r2,r3):=h
 clear h
 by_cases c2 : s0_1 < (s0_0.length : Int)
 ·
  rw [if_pos c2] at H;have c2b0:=decide_eq_true c2;clear c2
  by_cases c3 : 0 ≤ s0_1
  ·
   rw [if_pos c3] at H;have c3b0:=decide_eq_true c3;clear c3;simp only [Option.some.injEq,Prod.mk.injEq] at H;obtain ⟨rfl,rfl,rfl⟩:=H;obtain ⟨ASz4_0,cSz4_0,HGz4,hgz4,HSz4_0⟩:=HI0.out;have hcz4_0:=cellS121_0 HGz4;have hcz4_1:=cellS121_1 HGz4;have hcz4_2:=cellS121_2 HGz4;have hfz4_1:=blk_frozen HGz4 1;have hfz4_2:=blk_frozen HGz4 2;clear HGz4 hgz4;have p328 : 0 ≤ (s0_1 : Int):=zXb ze;have q328 : s0_1 < (s0_0.length : Int):=zXb ze;obtain ⟨ad328,e328,hx328_0⟩:=Kd.at_int HSz4_0 s0_1 p328 q328
   cases e328
   have hn328_0 : ad328.block ≠ g:=Nat.ne_of_lt (Nat.lt_of_lt_of_le (by have:=World.block_lt_of_cell? _ _ hx328_0;first|rwa [add_block] at this|exact this) (IsS121.ge HI0.out));replace hx328_0:=pw_cell_below HB.out hx328_0;replace hx328_0:=(zWb (p:=⟨g,2,none⟩) (by first|(rw [add_block];exact hn328_0)|(show (Addr.add _ _).block ≠ _;rw [add_block];exact hn328_0)|exact hn328_0) (.int .i64 (wrap64 ((wrap64 (s0_2 * 6364136223846793005)) + 1442695040888963407)))).trans hx328_0;(try have hy328_0:=fun (n_ : Nat) => (show (((w.drewN n_).setCell ⟨g,2,none⟩ (.int .i64 (wrap64 ((wrap64 (s0_2 * 6364136223846793005)) + 1442695040888963407))))).cell? _ = some _ from hx328_0));clear hn328_0;replace p328:=eq_true p328;replace q328:=eq_true q328
   go_enter Try.func120,Try.ntmps120
   go_wp2
   repeat (go_quiet (fail);try go_wp2)
   go_ret
   exact ⟨zrr,zis HI0,zbs HB HI0,zks HK⟩
  ·
   rw [if_neg c3] at H
   exact absurd H (by simp)
 ·
  rw [if_neg c2] at H;have c2b0:=decide_eq_false c2;clear c2;simp only [Option.some.injEq,Prod.mk.injEq] at H;obtain ⟨rfl,rfl,rfl⟩:=H;obtain ⟨ASz5_0,cSz5_0,HGz5,hgz5,HSz5_0⟩:=HI0.out;have hcz5_0:=cellS121_0 HGz5;have hcz5_1:=cellS121_1 HGz5;have hcz5_2:=cellS121_2 HGz5;have hfz5_1:=blk_frozen HGz5 1;have hfz5_2:=blk_frozen HGz5 2;clear HGz5 hgz5
  go_enter Try.func120,Try.ntmps120
  go_wp2
  repeat (go_quiet (fail);try go_wp2)
  go_ret
  exact ⟨zrr,zis HI0,zbs HB HI0,zks HK⟩

/-! ### spec_l1Below: function 79 -/
def spec_l1Below.f (s0_0 : List Int) (s0_1 : Int) (s0_2 : Int) (a1 : Int) : Option (Int × Int × Int) := if a1 ≤ 0 then (some (0, s0_1, s0_2)) else (if a1 ≤ 256 then ((spec_l1Byte.f s0_0 s0_1 s0_2).bind fun bt329 => (if a1 = 0 then (none) else (some (Int.tmod bt329.1 a1, bt329.2.1, bt329.2.2)))) else ((spec_l1Byte.f s0_0 s0_1 s0_2).bind fun bt332 => ((spec_l1Byte.f s0_0 bt332.2.1 bt332.2.2).bind fun bt335 => ((spec_l1Byte.f s0_0 bt335.2.1 bt335.2.2).bind fun bt338 => ((spec_l1Byte.f s0_0 bt338.2.1 bt338.2.2).bind fun bt341 => (if a1 = 0 then (none) else (some (Int.tmod (wrap64 ((wrap64 ((wrap64 ((wrap64 (bt332.1 * 16777216)) + (wrap64 (bt335.1 * 65536)))) + (wrap64 (bt338.1 * 256)))) + bt341.1)) a1, bt341.2.1, bt341.2.2))))))))
set_option maxHeartbeats 8000000 in
set_option maxRecDepth 100000 in
theorem spec_l1Below.calls (g : Nat) (s0_0 : List Int) (s0_1 : Int) (s0_2 : Int) (a1 : Int) (r1 : Int) (r2 : Int) (r3 : Int) (w0 w : World) (hI : IsS121 w0 w g s0_0 s0_1 s0_2) (hB : Below w0.heap.size w0 w) (h : spec_l1Below.f s0_0 s0_1 s0_2 a1 = some (r1, r2, r3)) :
  Calls Try.prog 79 #[.pointer (some ⟨g, 0, none⟩), .int .i64 a1] w fun e w' => e = .returned (.int .i64 r1) ∧ IsS121 w0 w' g s0_0 r2 r3 ∧ Below w0.heap.size w0 w' ∧ KeepBut w w' g none := by
 have HI0:=zA hI;have HK:=zA (KeepBut.refl w g none);have HL:=zA hB.size;clear hI;have HW0:=zA hB.size;have HB:=zA hB;clear hB
 have H : (if a1 ≤ 0 then (some (0,s0_1,s0_2)) else (if a1 ≤ 256 then ((spec_l1Byte.f s0_0 s0_1 s0_2).bind fun bt329 => (if a1 = 0 then (none) else (some (Int.tmod bt329.1 a1,bt329.2.1,bt329.2.2)))) else ((spec_l1Byte.f s0_0 s0_1 s0_2).bind fun bt332 => ((spec_l1Byte.f s0_0 bt332.2.1 bt332.2.2).bind fun bt335 => ((spec_l1Byte.f s0_0 bt335.2.1 bt335.2.2).bind fun bt338 => ((spec_l1Byte.f s0_0 bt338.2.1 bt338.2.2).bind fun bt341 => (if a1 = 0 then (none) else (some (Int.tmod (wrap64 ((wrap64 ((wrap64 ((wrap64 (bt332.1 * 16777216)) + (wrap64 (bt335.1 * 65536)))) + (wrap64 (bt338.1 * 256)))) + bt341.1)) a1,bt341.2.1,bt341.2.2))))))))) = some (r1,r2,r3):=h
 clear h
 by_cases c3 : a1 ≤ 0
 ·
  rw [if_pos c3] at H;have c3b0:=decide_eq_true c3;clear c3;simp only [Option.some.injEq,Prod.mk.injEq] at H;obtain ⟨rfl,rfl,rfl⟩:=H
  go_enter Try.func79,Try.ntmps79
  go_wp2
  go_ret
  exact ⟨zrr,zis HI0,zbs HB HI0,zks HK⟩
 ·
  rw [if_neg c3] at H;have c3b0:=decide_eq_false c3;clear c3
  by_cases c4 : a1 ≤ 256
  ·
   rw [if_pos c4] at H;have c4b0:=decide_eq_true c4;clear c4;replace H:=zYb.mp H;obtain ⟨⟨t329,t330,t331⟩,A50,H⟩:=H;(try dsimp only at H);have A5:=zA A50;clear A50
   by_cases c6 : a1 = 0
   ·
    rw [if_pos c6] at H
    exact absurd H (by simp)
   ·
    rw [if_neg c6] at H;have c6b0:=beq_eq_false_iff_ne.mpr c6;have c6b1:=bne_iff_ne.mpr c6;simp only [Option.some.injEq,Prod.mk.injEq] at H;obtain ⟨rfl,rfl,rfl⟩:=H
    go_enter Try.func79,Try.ntmps79
    go_wp2_with (first|((with_reducible refine gate_callee (f:=120) rfl ?_);refine zgo (some 14) Try.func120 #[.pointer (some ⟨g,0,none⟩)] ?_;(with_reducible refine (spec_l1Byte.calls g s0_0 s0_1 s0_2 t329 t330 t331 w0 _ ?side1 ?side2 A5.out).mono ?_);(case side1 => exact zis HI0);(case side2 => exact zbs HB HI0);rintro e w7 ⟨rfl,hi,hb,hk⟩;refine ⟨_,rfl,?_⟩;replace HK:=zA (KeepBut.trans (zks HK) hk (.inl rfl));replace HB:=zA (hb);replace HI0:=zA (hi);(try clear hb);(try clear hb2);(try clear hk);(try clear hi)))
    go_ret
    exact ⟨zrr,zis HI0,zbs HB HI0,zks HK⟩
  ·
   rw [if_neg c4] at H;have c4b0:=decide_eq_false c4;clear c4;replace H:=zYb.mp H;obtain ⟨⟨t332,t333,t334⟩,A80,H⟩:=H;(try dsimp only at H);have A8:=zA A80;clear A80;replace H:=zYb.mp H;obtain ⟨⟨t335,t336,t337⟩,A90,H⟩:=H;(try dsimp only at H);have A9:=zA A90;clear A90;replace H:=zYb.mp H;obtain ⟨⟨t338,t339,t340⟩,A100,H⟩:=H;(try dsimp only at H);have A10:=zA A100;clear A100;replace H:=zYb.mp H;obtain ⟨⟨t341,t342,t343⟩,A110,H⟩:=H;(try dsimp only at H);have A11:=zA A110;clear A110
   by_cases c12 : a1 = 0
   ·
    rw [if_pos c12] at H
    exact absurd H (by simp)
   ·
    rw [if_neg c12] at H;have c12b0:=beq_eq_false_iff_ne.mpr c12;have c12b1:=bne_iff_ne.mpr c12;simp only [Option.some.injEq,Prod.mk.injEq] at H;obtain ⟨rfl,rfl,rfl⟩:=H
    go_enter Try.func79,Try.ntmps79
    go_wp2_with (first|((with_reducible refine gate_callee (f:=120) rfl ?_);refine zgo (some 18) Try.func120 #[.pointer (some ⟨g,0,none⟩)] ?_;(with_reducible refine (spec_l1Byte.calls g s0_0 s0_1 s0_2 t332 t333 t334 w0 _ ?side1 ?side2 A8.out).mono ?_);(case side1 => exact zis HI0);(case side2 => exact zbs HB HI0);rintro e w13 ⟨rfl,hi,hb,hk⟩;refine ⟨_,rfl,?_⟩;replace HK:=zA (KeepBut.trans (zks HK) hk (.inl rfl));replace HB:=zA (hb);replace HI0:=zA (hi);(try clear hb);(try clear hb2);(try clear hk);(try clear hi))|((with_reducible refine gate_callee (f:=120) rfl ?_);refine zgo (some 20) Try.func120 #[.pointer (some ⟨g,0,none⟩)] ?_;(with_reducible refine (spec_l1Byte.calls g s0_0 t333 t334 t335 t336 t337 w0 _ ?side1 ?side2 A9.out).mono ?_);(case side1 => exact zis HI0);(case side2 => exact zbs HB HI0);rintro e w14 ⟨rfl,hi,hb,hk⟩;refine ⟨_,rfl,?_⟩;replace HK:=zA (KeepBut.trans (zks HK) hk (.inl rfl));replace HB:=zA (hb);replace HI0:=zA (hi);(try clear hb);(try clear hb2);(try clear hk);(try clear hi))|((with_reducible refine gate_callee (f:=120) rfl ?_);refine zgo (some 22) Try.func120 #[.pointer (some ⟨g,0,none⟩)] ?_;(with_reducible refine (spec_l1Byte.calls g s0_0 t336 t337 t338 t339 t340 w0 _ ?side1 ?side2 A10.out).mono ?_);(case side1 => exact zis HI0);(case side2 => exact zbs HB HI0);rintro e w15 ⟨rfl,hi,hb,hk⟩;refine ⟨_,rfl,?_⟩;replace HK:=zA (KeepBut.trans (zks HK) hk (.inl rfl));replace HB:=zA (hb);replace HI0:=zA (hi);(try clear hb);(try clear hb2);(try clear hk);(try clear hi))|((with_reducible refine gate_callee (f:=120) rfl ?_);refine zgo (some 24) Try.func120 #[.pointer (some ⟨g,0,none⟩)] ?_;(with_reducible refine (spec_l1Byte.calls g s0_0 t339 t340 t341 t342 t343 w0 _ ?side1 ?side2 A11.out).mono ?_);(case side1 => exact zis HI0);(case side2 => exact zbs HB HI0);rintro e w16 ⟨rfl,hi,hb,hk⟩;refine ⟨_,rfl,?_⟩;replace HK:=zA (KeepBut.trans (zks HK) hk (.inl rfl));replace HB:=zA (hb);replace HI0:=zA (hi);(try clear hb);(try clear hb2);(try clear hk);(try clear hi)))
    go_ret
    exact ⟨zrr,zis HI0,zbs HB HI0,zks HK⟩

/-! ### spec_l1Once: function 109 -/
def spec_l1Once.f (s0_0 : List Int) (s0_1 : Int) (s0_2 : Int) (a1 : Int) : Option (Bool × Int × Int) := (spec_l1Below.f s0_0 s0_1 s0_2 a1).bind fun bt344 => (some ((bt344.1 == 0), bt344.2.1, bt344.2.2))
set_option maxHeartbeats 8000000 in
set_option maxRecDepth 100000 in
theorem spec_l1Once.calls (g : Nat) (s0_0 : List Int) (s0_1 : Int) (s0_2 : Int) (a1 : Int) (r1 : Bool) (r2 : Int) (r3 : Int) (w0 w : World) (hI : IsS121 w0 w g s0_0 s0_1 s0_2) (hB : Below w0.heap.size w0 w) (h : spec_l1Once.f s0_0 s0_1 s0_2 a1 = some (r1, r2, r3)) :
  Calls Try.prog 109 #[.pointer (some ⟨g, 0, none⟩), .int .i64 a1] w fun e w' => e = .returned (.bool r1) ∧ IsS121 w0 w' g s0_0 r2 r3 ∧ Below w0.heap.size w0 w' ∧ KeepBut w w' g none := by
 have HI0:=zA hI;have HK:=zA (KeepBut.refl w g none);have HL:=zA hB.size;clear hI;have HW0:=zA hB.size;have HB:=zA hB;clear hB
 have H : ((spec_l1Below.f s0_0 s0_1 s0_2 a1).bind fun bt344 => (some ((bt344.1 == 0),bt344.2.1,bt344.2.2))) = some (r1,r2,r3):=h
 clear h;replace H:=zYb.mp H;obtain ⟨⟨t344,t345,t346⟩,A30,H⟩:=H;(try dsimp only at H);have A3:=zA A30;clear A30;simp only [Option.some.injEq,Prod.mk.injEq] at H;obtain ⟨rfl,rfl,rfl⟩:=H
 go_enter Try.func109,Try.ntmps109
 go_wp2_with (first|((with_reducible refine gate_callee (f:=79) rfl ?_);refine zgo (some 7) Try.func79 #[.pointer (some ⟨g,0,none⟩),.int .i64 a1] ?_;(with_reducible refine (spec_l1Below.calls g s0_0 s0_1 s0_2 a1 t344 t345 t346 w0 _ ?side1 ?side2 A3.out).mono ?_);(case side1 => exact zis HI0);(case side2 => exact zbs HB HI0);rintro e w4 ⟨rfl,hi,hb,hk⟩;refine ⟨_,rfl,?_⟩;replace HK:=zA (KeepBut.trans (zks HK) hk (.inl rfl));replace HB:=zA (hb);replace HI0:=zA (hi);(try clear hb);(try clear hb2);(try clear hk);(try clear hi)))
 go_ret
 exact ⟨zrr,zis HI0,zbs HB HI0,zks HK⟩

/-! ### spec_l1PickInt: function 119 -/
def spec_l1PickInt.f (s0_0 : List Int) (s0_1 : Int) (s0_2 : Int) (l1 : List Int) : Option (Int × Int × Int) := (spec_l1Below.f s0_0 s0_1 s0_2 (l1.length : Int)).bind fun bt347 => (if 0 ≤ bt347.1 then (if bt347.1 < (l1.length : Int) then (some (rd l1 bt347.1, bt347.2.1, bt347.2.2)) else (none)) else (none))
set_option maxHeartbeats 8000000 in
set_option maxRecDepth 100000 in
theorem spec_l1PickInt.calls (g : Nat) (s0_0 : List Int) (s0_1 : Int) (s0_2 : Int) (A1 : Option Addr) (c1 : Nat) (l1 : List Int) (r1 : Int) (r2 : Int) (r3 : Int) (w0 w : World) (hI : IsS121 w0 w g s0_0 s0_1 s0_2) (hB : Below w0.heap.size w0 w) (hr1 : Kd.C (Kd.int .i64) w A1 l1.length l1) (hc1 : l1.length ≤ c1) (hf1 : ∀ ad, A1 = some ad → 0 < l1.length → ad.block ≠ g) (h : spec_l1PickInt.f s0_0 s0_1 s0_2 l1 = some (r1, r2, r3)) :
  Calls Try.prog 119 #[.pointer (some ⟨g, 0, none⟩), .slice A1 l1.length c1] w fun e w' => e = .returned (.int .i64 r1) ∧ IsS121 w0 w' g s0_0 r2 r3 ∧ Below w0.heap.size w0 w' ∧ KeepBut w w' g none := by
 have HR1:=zA hr1;have HC1:=zA hc1;clear hr1 hc1;have HI0:=zA hI;have HK:=zA (KeepBut.refl w g none);have HL:=zA hB.size;clear hI;have HW0:=zA hB.size;have HB:=zA hB;clear hB
 have H : ((spec_l1Below.f s0_0 s0_1 s0_2 (l1.length : Int)).bind fun bt347 => (if 0 ≤ bt347.1 then (if bt347.1 < (l1.length : Int) then (some (rd l1 bt347.1,bt347.2.1,bt347.2.2)) else (none)) else (none))) = some (r1,r2,r3):=h
 clear h;replace H:=zYb.mp H;obtain ⟨⟨t347,t348,t349⟩,A30,H⟩:=H;(try dsimp only at H);have A3:=zA A30;clear A30
 by_cases c4 : 0 ≤ t347
 ·
  rw [if_pos c4] at H;have c4b0:=decide_eq_true c4;clear c4
  by_cases c5 : t347 < (l1.length : Int)
  ·
   rw [if_pos c5] at H;have c5b0:=decide_eq_true c5;clear c5;simp only [Option.some.injEq,Prod.mk.injEq] at H;obtain ⟨rfl,rfl,rfl⟩:=H
   go_enter Try.func119,Try.ntmps119
   go_wp2_with (first|((with_reducible refine gate_callee (f:=79) rfl ?_);refine zgo (some 9) Try.func79 #[.pointer (some ⟨g,0,none⟩),.int .i64 (l1.length : Int)] ?_;(with_reducible refine (spec_l1Below.calls g s0_0 s0_1 s0_2 (l1.length : Int) t347 t348 t349 w0 _ ?side1 ?side2 A3.out).mono ?_);(case side1 => exact zis HI0);(case side2 => exact zbs HB HI0);rintro e w6 ⟨rfl,hi,hb,hk⟩;refine ⟨_,rfl,?_⟩;replace HK:=zA (KeepBut.trans (zks HK) hk (.inl rfl));replace HB:=zA (hb);replace HI0:=zA (hi);(try clear hb);(try clear hb2);(try clear hk);(try clear hi);have p350 : 0 ≤ (t347 : Int):=zXb ze;have q350 : t347 < (l1.length : Int):=zXb ze;obtain ⟨ad350,e350,hx350_0⟩:=Kd.at_int HR1.out t347 p350 q350;cases e350;replace hx350_0:=keep_cell HK.out hx350_0 (by first|(rw [add_block];exact hf1 _ rfl (by omega))|exact hf1 _ rfl (by omega)|exact hf1 ad350 rfl (by omega));replace p350:=eq_true p350;replace q350:=eq_true q350))
   go_ret
   exact ⟨zrr,zis HI0,zbs HB HI0,zks HK⟩
  ·
   rw [if_neg c5] at H
   exact absurd H (by simp)
 ·
  rw [if_neg c4] at H
  exact absurd H (by simp)

/-! ### spec_l2Term: function 144 -/
def spec_l2Term.f (s0_0 : List Int) (s0_1 : Int) (s0_2 : Int) : Option (Int × Int × Int) := (spec_l1Once.f s0_0 s0_1 s0_2 4).bind fun bt351 => (if bt351.1 = true then ((spec_l1Below.f s0_0 bt351.2.1 bt351.2.2 3).bind fun bt354 => (some (wrap64 ((-1) - bt354.1), bt354.2.1, bt354.2.2))) else ((spec_l1Below.f s0_0 bt351.2.1 bt351.2.2 4).bind fun bt357 => (some (bt357.1, bt357.2.1, bt357.2.2))))
set_option maxHeartbeats 8000000 in
set_option maxRecDepth 100000 in
theorem spec_l2Term.calls (g : Nat) (s0_0 : List Int) (s0_1 : Int) (s0_2 : Int) (r1 : Int) (r2 : Int) (r3 : Int) (w0 w : World) (hI : IsS121 w0 w g s0_0 s0_1 s0_2) (hB : Below w0.heap.size w0 w) (h : spec_l2Term.f s0_0 s0_1 s0_2 = some (r1, r2, r3)) :
  Calls Try.prog 144 #[.pointer (some ⟨g, 0, none⟩)] w fun e w' => e = .returned (.int .i64 r1) ∧ IsS121 w0 w' g s0_0 r2 r3 ∧ Below w0.heap.size w0 w' ∧ KeepBut w w' g none := by
 have HI0:=zA hI;have HK:=zA (KeepBut.refl w g none);have HL:=zA hB.size;clear hI;have HW0:=zA hB.size;have HB:=zA hB;clear hB
 have H : ((spec_l1Once.f s0_0 s0_1 s0_2 4).bind fun bt351 => (if bt351.1 = true then ((spec_l1Below.f s0_0 bt351.2.1 bt351.2.2 3).bind fun bt354 => (some (wrap64 ((-1) - bt354.1),bt354.2.1,bt354.2.2))) else ((spec_l1Below.f s0_0 bt351.2.1 bt351.2.2 4).bind fun bt357 => (some (bt357.1,bt357.2.1,bt357.2.2))))) = some (r1,r2,r3):=h
 clear h;replace H:=zYb.mp H;obtain ⟨⟨t351,t352,t353⟩,A20,H⟩:=H;(try dsimp only at H);have A2:=zA A20;clear A20
 by_cases c3 : t351 = true
 ·
  subst c3
  rw [if_pos rfl] at H;replace H:=zYb.mp H;obtain ⟨⟨t354,t355,t356⟩,A40,H⟩:=H;(try dsimp only at H);have A4:=zA A40;clear A40;simp only [Option.some.injEq,Prod.mk.injEq] at H;obtain ⟨rfl,rfl,rfl⟩:=H
  go_enter Try.func144,Try.ntmps144
  go_wp2_with (first|((with_reducible refine gate_callee (f:=109) rfl ?_);refine zgo (some 4) Try.func109 #[.pointer (some ⟨g,0,none⟩),.int .i64 4] ?_;(with_reducible refine (spec_l1Once.calls g s0_0 s0_1 s0_2 4 true t352 t353 w0 _ ?side1 ?side2 A2.out).mono ?_);(case side1 => exact zis HI0);(case side2 => exact zbs HB HI0);rintro e w5 ⟨rfl,hi,hb,hk⟩;refine ⟨_,rfl,?_⟩;replace HK:=zA (KeepBut.trans (zks HK) hk (.inl rfl));replace HB:=zA (hb);replace HI0:=zA (hi);(try clear hb);(try clear hb2);(try clear hk);(try clear hi))|((with_reducible refine gate_callee (f:=79) rfl ?_);refine zgo (some 6) Try.func79 #[.pointer (some ⟨g,0,none⟩),.int .i64 3] ?_;(with_reducible refine (spec_l1Below.calls g s0_0 t352 t353 3 t354 t355 t356 w0 _ ?side1 ?side2 A4.out).mono ?_);(case side1 => exact zis HI0);(case side2 => exact zbs HB HI0);rintro e w6 ⟨rfl,hi,hb,hk⟩;refine ⟨_,rfl,?_⟩;replace HK:=zA (KeepBut.trans (zks HK) hk (.inl rfl));replace HB:=zA (hb);replace HI0:=zA (hi);(try clear hb);(try clear hb2);(try clear hk);(try clear hi)))
  go_ret
  exact ⟨zrr,zis HI0,zbs HB HI0,zks HK⟩
 ·
  replace c3:=Bool.eq_false_iff.mpr c3
  subst c3
  have H1 : ((spec_l1Below.f s0_0 t352 t353 4).bind fun bt357 => (some (bt357.1,bt357.2.1,bt357.2.2))) = some (r1,r2,r3):=by rw [if_neg (show ¬ (false = true) by decide)] at H;exact H
  clear H;have H:=H1;clear H1;replace H:=zYb.mp H;obtain ⟨⟨t357,t358,t359⟩,A70,H⟩:=H;(try dsimp only at H);have A7:=zA A70;clear A70;simp only [Option.some.injEq,Prod.mk.injEq] at H;obtain ⟨rfl,rfl,rfl⟩:=H
  go_enter Try.func144,Try.ntmps144
  go_wp2_with (first|((with_reducible refine gate_callee (f:=109) rfl ?_);refine zgo (some 4) Try.func109 #[.pointer (some ⟨g,0,none⟩),.int .i64 4] ?_;(with_reducible refine (spec_l1Once.calls g s0_0 s0_1 s0_2 4 false t352 t353 w0 _ ?side1 ?side2 A2.out).mono ?_);(case side1 => exact zis HI0);(case side2 => exact zbs HB HI0);rintro e w8 ⟨rfl,hi,hb,hk⟩;refine ⟨_,rfl,?_⟩;replace HK:=zA (KeepBut.trans (zks HK) hk (.inl rfl));replace HB:=zA (hb);replace HI0:=zA (hi);(try clear hb);(try clear hb2);(try clear hk);(try clear hi))|((with_reducible refine gate_callee (f:=79) rfl ?_);refine zgo (some 9) Try.func79 #[.pointer (some ⟨g,0,none⟩),.int .i64 4] ?_;(with_reducible refine (spec_l1Below.calls g s0_0 t352 t353 4 t357 t358 t359 w0 _ ?side1 ?side2 A7.out).mono ?_);(case side1 => exact zis HI0);(case side2 => exact zbs HB HI0);rintro e w9 ⟨rfl,hi,hb,hk⟩;refine ⟨_,rfl,?_⟩;replace HK:=zA (KeepBut.trans (zks HK) hk (.inl rfl));replace HB:=zA (hb);replace HI0:=zA (hi);(try clear hb);(try clear hb2);(try clear hk);(try clear hi)))
  go_ret
  exact ⟨zrr,zis HI0,zbs HB HI0,zks HK⟩

/-! ### spec_l2Any: function 110 -/
def spec_l2Any.f (s0_0 : List Int) (s0_1 : Int) (s0_2 : Int) : Option (Int × Int × Int) := (spec_l1Once.f s0_0 s0_1 s0_2 6).bind fun bt360 => (if bt360.1 = true then ((spec_l1PickInt.f s0_0 bt360.2.1 bt360.2.2 (([19, 20, (-80), (-81), (-1), 99] : List Int))).bind fun bt366 => (some (bt366.1, bt366.2.1, bt366.2.2))) else ((spec_l2Term.f s0_0 bt360.2.1 bt360.2.2).bind fun bt369 => (some (bt369.1, bt369.2.1, bt369.2.2))))
set_option maxHeartbeats 8000000 in
set_option maxRecDepth 100000 in
theorem spec_l2Any.calls (g : Nat) (s0_0 : List Int) (s0_1 : Int) (s0_2 : Int) (r1 : Int) (r2 : Int) (r3 : Int) (w0 w : World) (hI : IsS121 w0 w g s0_0 s0_1 s0_2) (hB : Below w0.heap.size w0 w) (h : spec_l2Any.f s0_0 s0_1 s0_2 = some (r1, r2, r3)) :
  Calls Try.prog 110 #[.pointer (some ⟨g, 0, none⟩)] w fun e w' => e = .returned (.int .i64 r1) ∧ IsS121 w0 w' g s0_0 r2 r3 ∧ Below w0.heap.size w0 w' ∧ KeepBut w w' g none := by
 have HI0:=zA hI;have HK:=zA (KeepBut.refl w g none);have HL:=zA hB.size;clear hI;have HW0:=zA hB.size;have HB:=zA hB;clear hB
 have H : ((spec_l1Once.f s0_0 s0_1 s0_2 6).bind fun bt360 => (if bt360.1 = true then ((spec_l1PickInt.f s0_0 bt360.2.1 bt360.2.2 (([19,20,(-80),(-81),(-1),99] : List Int))).bind fun bt366 => (some (bt366.1,bt366.2.1,bt366.2.2))) else ((spec_l2Term.f s0_0 bt360.2.1 bt360.2.2).bind fun bt369 => (some (bt369.1,bt369.2.1,bt369.2.2))))) = some (r1,r2,r3):=h
 clear h;replace H:=zYb.mp H;obtain ⟨⟨t360,t361,t362⟩,A20,H⟩:=H;(try dsimp only at H);have A2:=zA A20;clear A20
 by_cases c3 : t360 = true
 ·
  subst c3
  rw [if_pos rfl] at H;obtain ⟨y363,hy363⟩ : ∃ y_ : List Int,y_ = (([19,20,(-80),(-81),(-1),99] : List Int)):=⟨_,rfl⟩
  replace H : ((spec_l1PickInt.f s0_0 t361 t362 y363).bind fun bt366 => (some (bt366.1,bt366.2.1,bt366.2.2))) = some (r1,r2,r3):=by first|(rw [hy363];with_reducible exact H)|(have H2_:=(Option.bind_some _ _).symm.trans H;rw [hy363];with_reducible exact H2_)|(have H2_:=(Option.bind_some _ _).symm.trans H;with_reducible exact H2_)|with_reducible exact H|(rw [hy363];exact H)|exact H
  have Ny363:=zA hy363;clear hy363;replace H:=zYb.mp H;obtain ⟨⟨t366,t367,t368⟩,A40,H⟩:=H;(try dsimp only at H);have A4:=zA A40;clear A40;simp only [Option.some.injEq,Prod.mk.injEq] at H;obtain ⟨rfl,rfl,rfl⟩:=H
  go_enter Try.func110,Try.ntmps110
  go_wp2_with (first|((with_reducible refine gate_callee (f:=109) rfl ?_);refine zgo (some 4) Try.func109 #[.pointer (some ⟨g,0,none⟩),.int .i64 6] ?_;(with_reducible refine (spec_l1Once.calls g s0_0 s0_1 s0_2 6 true t361 t362 w0 _ ?side1 ?side2 A2.out).mono ?_);(case side1 => exact zis HI0);(case side2 => exact zbs HB HI0);rintro e w5 ⟨rfl,hi,hb,hk⟩;refine ⟨_,rfl,?_⟩;replace HK:=zA (KeepBut.trans (zks HK) hk (.inl rfl));replace HB:=zA (hb);replace HI0:=zA (hi);(try clear hb);(try clear hb2);(try clear hk);(try clear hi))|((with_reducible refine gate_dst (N:=6) rfl ?_);refine Kd.R_lit (Kd.int .i64) _ 3 ?hg (N:=6) ?hd (xs:=([19,20,(-80),(-81),(-1),99] : List Int)) (inner:=[.int .i64 19,.int .i64 20,.int .i64 (-80),.int .i64 (-81),.int .i64 (-1),.int .i64 99]) (ok:=fun _ => True) (okp:=fun _ => True) ?hr ?hp (fun _ hk => hk) trivial (Below.refl _ _) (Nat.le_refl _) (by simp) ?_;(case hd => rfl);(case hg => rfl);(case hr => first|(go_simp;done)|(go_simp;rfl));(case hp => exact (Reps.one (show Kd.M (Kd.int .i64) _ _ _ 19 [.int .i64 19] from rfl) (Reps.one (show Kd.M (Kd.int .i64) _ _ _ 20 [.int .i64 20] from rfl) (Reps.one (show Kd.M (Kd.int .i64) _ _ _ (-80) [.int .i64 (-80)] from rfl) (Reps.one (show Kd.M (Kd.int .i64) _ _ _ (-81) [.int .i64 (-81)] from rfl) (Reps.one (show Kd.M (Kd.int .i64) _ _ _ (-1) [.int .i64 (-1)] from rfl) (Reps.one (show Kd.M (Kd.int .i64) _ _ _ 99 [.int .i64 99] from rfl) (Reps.none _ _))))))));intro v364 w6 ho7 hb hg_ hnew_;clear hg_ hnew_;(first|rw [← Ny363.out] at ho7|(simp only [Int.reduceToNat] at ho7;rw [← Ny363.out] at ho7));have HO365:=zA (zHb ho7 (keep_size (w:=w) (g:=g) (row:=none) (zks HK)));replace HK:=zA (KeepBut.trans (zks HK) (KeepBut.of_below hb g none) (.inl rfl));replace HB:=zA (zJb (zbs HB HI0) hb);replace HI0:=zA (IsS121.below (zis HI0) hb);clear hb ho7;obtain ⟨Ao8,co8,eo8⟩:=Kd.R_slice HO365.out;subst eo8)|((with_reducible refine gate_callee (f:=119) rfl ?_);refine zgo (some 7) Try.func119 #[.pointer (some ⟨g,0,none⟩),.slice Ao8 y363.length co8] ?_;(with_reducible refine (spec_l1PickInt.calls g s0_0 t361 t362 _ _ y363 t366 t367 t368 w0 _ ?side1 ?side2 ?side3 ?side4 ?side5 A4.out).mono ?_);(case side1 => exact zis HI0);(case side2 => exact zbs HB HI0);(case side3 => repeat (first|exact (Kd.R_reads' HO365.out).2.2|(with_reducible refine zBb ?_ _)|(with_reducible refine zAb ?_ _)|(with_reducible refine zX ?_)));(case side4 => exact (Kd.R_reads' HO365.out).2.1);(case side5 => exact far_slice (IsS121.own_ne HI0.out HO365.out (by decide)));rintro e w9 ⟨rfl,hi,hb,hk⟩;refine ⟨_,rfl,?_⟩;replace HO365:=zA (zGb (Kd.R_keep (IsS121.apart (show IsS121 w0 _ g s0_0 t361 t362 from zis HI0) (zq HO365) (by decide)) hk (fun _ h => h.2)) (fun _ h => h.1));replace HK:=zA (KeepBut.trans (zks HK) hk (.inl rfl));replace HB:=zA (hb);replace HI0:=zA (hi);(try clear hb);(try clear hb2);(try clear hk);(try clear hi)))
  go_ret
  exact ⟨zrr,zis HI0,zbs HB HI0,zks HK⟩
 ·
  replace c3:=Bool.eq_false_iff.mpr c3
  subst c3
  have H1 : ((spec_l2Term.f s0_0 t361 t362).bind fun bt369 => (some (bt369.1,bt369.2.1,bt369.2.2))) = some (r1,r2,r3):=by rw [if_neg (show ¬ (false = true) by decide)] at H;exact H
  clear H;have H:=H1;clear H1;replace H:=zYb.mp H;obtain ⟨⟨t369,t370,t371⟩,A100,H⟩:=H;(try dsimp only at H);have A10:=zA A100;clear A100;simp only [Option.some.injEq,Prod.mk.injEq] at H;obtain ⟨rfl,rfl,rfl⟩:=H
  go_enter Try.func110,Try.ntmps110
  go_wp2_with (first|((with_reducible refine gate_callee (f:=109) rfl ?_);refine zgo (some 4) Try.func109 #[.pointer (some ⟨g,0,none⟩),.int .i64 6] ?_;(with_reducible refine (spec_l1Once.calls g s0_0 s0_1 s0_2 6 false t361 t362 w0 _ ?side1 ?side2 A2.out).mono ?_);(case side1 => exact zis HI0);(case side2 => exact zbs HB HI0);rintro e w11 ⟨rfl,hi,hb,hk⟩;refine ⟨_,rfl,?_⟩;replace HK:=zA (KeepBut.trans (zks HK) hk (.inl rfl));replace HB:=zA (hb);replace HI0:=zA (hi);(try clear hb);(try clear hb2);(try clear hk);(try clear hi))|((with_reducible refine gate_callee (f:=144) rfl ?_);refine zgo (some 9) Try.func144 #[.pointer (some ⟨g,0,none⟩)] ?_;(with_reducible refine (spec_l2Term.calls g s0_0 t361 t362 t369 t370 t371 w0 _ ?side1 ?side2 A10.out).mono ?_);(case side1 => exact zis HI0);(case side2 => exact zbs HB HI0);rintro e w12 ⟨rfl,hi,hb,hk⟩;refine ⟨_,rfl,?_⟩;replace HK:=zA (KeepBut.trans (zks HK) hk (.inl rfl));replace HB:=zA (hb);replace HI0:=zA (hi);(try clear hb);(try clear hb2);(try clear hk);(try clear hi)))
  go_ret
  exact ⟨zrr,zis HI0,zbs HB HI0,zks HK⟩

/-! ### spec_l3Schema: function 140 -/
def spec_l3Schema.l0 : Nat → Int → List Int → Int → Int → List Int → Option (List Int × Int × Int)
 | 0, _, _, _, _, _ => none
 | k + 1, x4, x1000, x1001, x1002, x377000 => if x4 > 0 then ((spec_l1Below.f x1000 x1001 x1002 3).bind fun bt380 => (if x377000.length < 17592186044416 then (spec_l3Schema.l0 k (wrap64 (x4 - 1)) x1000 bt380.2.1 bt380.2.2 (x377000 ++ [wrap64 (1 + bt380.1)])) else (none))) else (some (x377000, x1001, x1002))
def spec_l3Schema.f (k : Nat) (s0_0 : List Int) (s0_1 : Int) (s0_2 : Int) : Option (List Int × Int × Int) := (spec_l1Below.f s0_0 s0_1 s0_2 3).bind fun bt377 => (spec_l3Schema.l0 k bt377.1 s0_0 bt377.2.1 bt377.2.2 (([2] : List Int)))
set_option maxHeartbeats 8000000 in
set_option maxRecDepth 100000 in
theorem spec_l3Schema.calls (k : Nat) (g : Nat) (s0_0 : List Int) (s0_1 : Int) (s0_2 : Int) (r1 : List Int) (r2 : Int) (r3 : Int) (w0 w : World) (hI : IsS121 w0 w g s0_0 s0_1 s0_2) (hB : Below w0.heap.size w0 w) (h : spec_l3Schema.f k s0_0 s0_1 s0_2 = some (r1, r2, r3)) :
  Calls Try.prog 140 #[.pointer (some ⟨g, 0, none⟩)] w fun e w' => ∃ v0_ : Value, e = .returned (.agg #[v0_]) ∧ Kd.R (Kd.int .i64) 3 w' w.heap.size (fun _ => True) v0_ r1 ∧ IsS121 w0 w' g s0_0 r2 r3 ∧ Below w0.heap.size w0 w' ∧ KeepBut w w' g none := by
 have hu65:=Try.underlying65;have HI0:=zA hI;have HK:=zA (KeepBut.refl w g none);have HL:=zA hB.size;clear hI;have HW0:=zA hB.size;have HB:=zA hB;clear hB
 have H : ((spec_l1Below.f s0_0 s0_1 s0_2 3).bind fun bt377 => (spec_l3Schema.l0 k bt377.1 s0_0 bt377.2.1 bt377.2.2 (([2] : List Int)))) = some (r1,r2,r3):=h
 clear h;obtain ⟨y373,hy373⟩ : ∃ y_ : List Int,y_ = (([2] : List Int)):=⟨_,rfl⟩
 replace H : ((spec_l1Below.f s0_0 s0_1 s0_2 3).bind fun bt377 => (spec_l3Schema.l0 k bt377.1 s0_0 bt377.2.1 bt377.2.2 y373)) = some (r1,r2,r3):=by first|(rw [hy373];with_reducible exact H)|(have H2_:=(Option.bind_some _ _).symm.trans H;rw [hy373];with_reducible exact H2_)|(have H2_:=(Option.bind_some _ _).symm.trans H;with_reducible exact H2_)|with_reducible exact H|(rw [hy373];exact H)|exact H
 have Ny373:=zA hy373;clear hy373;replace H:=zYb.mp H;obtain ⟨⟨t377,t378,t379⟩,A20,H⟩:=H;(try dsimp only at H);have A2:=zA A20;clear A20
 have H':=zA H
 clear H
 go_enter Try.func140,Try.ntmps140
 go_wp2_with (first|((with_reducible refine gate_dst (N:=2) rfl ?_);refine zbx 2 #[.slice none 0 0] 65 ?_;intro gb372 hg w3 hbox hb;replace HB:=zA (zJb (zbs HB HI0) hb);have BK372:=zA (hbox);have GW372:=zA ((by rw [hg];exact (keep_size (w:=w) (g:=g) (row:=none) (zks HK)) : w.heap.size ≤ gb372));have GE372:=zA ((Nat.le_trans HW0.out (by rw [hg];exact (keep_size (w:=w) (g:=g) (row:=none) (zks HK)) : w.heap.size ≤ gb372) : w0.heap.size ≤ gb372));replace HK:=zA (KeepBut.trans (zks HK) (KeepBut.of_below hb g none) (.inl rfl));have NB0_372:=zA ((by rw [hg];exact Nat.ne_of_lt (IsS121.lt (show IsS121 w0 _ g s0_0 s0_1 s0_2 from zis HI0)) : g ≠ gb372));have NB372_0:=zA ((by rw [hg];exact Nat.ne_of_gt (IsS121.lt (show IsS121 w0 _ g s0_0 s0_1 s0_2 from zis HI0)) : gb372 ≠ g));replace HI0:=zA (IsS121.below (zis HI0) hb);clear hb hbox hg)|((with_reducible refine gate_dst (N:=6) rfl ?_);refine Kd.R_lit (Kd.int .i64) _ 3 ?hg (N:=6) ?hd (xs:=([2] : List Int)) (inner:=[.int .i64 2]) (ok:=fun _ => True) (okp:=fun _ => True) ?hr ?hp (fun _ hk => hk) trivial (Below.refl _ _) (Nat.le_refl _) (by simp) ?_;(case hd => rfl);(case hg => rfl);(case hr => first|(go_simp;done)|(go_simp;rfl));(case hp => exact (Reps.one (show Kd.M (Kd.int .i64) _ _ _ 2 [.int .i64 2] from rfl) (Reps.none _ _)));intro v374 w4 ho5 hb hg_ hnew_;clear hg_ hnew_;(first|rw [← Ny373.out] at ho5|(simp only [Int.reduceToNat] at ho5;rw [← Ny373.out] at ho5));have HO375:=zA (zHb ho5 (keep_size (w:=w) (g:=g) (row:=none) (zks HK)));replace BK372:=zbk BK372 hb;replace HK:=zA (KeepBut.trans (zks HK) (KeepBut.of_below hb g none) (.inl rfl));replace HB:=zA (zJb (zbs HB HI0) hb);replace HI0:=zA (IsS121.below (zis HI0) hb);clear hb ho5;obtain ⟨Ao6,co6,eo6⟩:=Kd.R_slice HO375.out;subst eo6)|((with_reducible refine gate_dst (N:=3) rfl ?_);refine zbx 3 #[.slice none 0 0] 65 ?_;intro gb376 hg w7 hbox hb;replace HO375:=zA (zZ (zq HO375) hb);replace HB:=zA (zJb (zbs HB HI0) hb);have BK376:=zA (hbox);have GW376:=zA ((by rw [hg];exact (keep_size (w:=w) (g:=g) (row:=none) (zks HK)) : w.heap.size ≤ gb376));have GE376:=zA ((Nat.le_trans HW0.out (by rw [hg];exact (keep_size (w:=w) (g:=g) (row:=none) (zks HK)) : w.heap.size ≤ gb376) : w0.heap.size ≤ gb376));replace HK:=zA (KeepBut.trans (zks HK) (KeepBut.of_below hb g none) (.inl rfl));have NB372_376:=znb hg BK372;have NB376_372:=znc hg BK372;replace BK372:=zbk BK372 hb;have NB0_376:=zA ((by rw [hg];exact Nat.ne_of_lt (IsS121.lt (show IsS121 w0 _ g s0_0 s0_1 s0_2 from zis HI0)) : g ≠ gb376));have NB376_0:=zA ((by rw [hg];exact Nat.ne_of_gt (IsS121.lt (show IsS121 w0 _ g s0_0 s0_1 s0_2 from zis HI0)) : gb376 ≠ g));replace HI0:=zA (IsS121.below (zis HI0) hb);clear hb hbox hg;have hnb8:=NB376_372.out;have hnc8:=NB372_376.out;have hnb9:=NB376_0.out;have hnc9:=NB0_376.out;have hcz10_0:=zc (.slice none 0 0) BK376 0 rfl;have hfz10_0:=blk_frozen BK376.out 0)|((with_reducible refine gate_callee (f:=79) rfl ?_);refine zgo (some 9) Try.func79 #[.pointer (some ⟨g,0,none⟩),.int .i64 3] ?_;(with_reducible refine (spec_l1Below.calls g s0_0 s0_1 s0_2 3 t377 t378 t379 w0 _ ?side1 ?side2 A2.out).mono ?_);(case side1 => exact zis HI0);(case side2 => exact zbs HB HI0);rintro e w11 ⟨rfl,hi,hb,hk⟩;refine ⟨_,rfl,?_⟩;replace BK372:=zA (KeepBut.blk hk (g':=gb372) (o:=.cells #[.slice none 0 0] 65 (0,0)) (by (with_reducible repeat (first|refine zF ?_ _|refine zI ?_|refine zG ?_ _));refine zUb ?_ NB372_376.out _;(with_reducible repeat (first|refine zF ?_ _|refine zI ?_|refine zG ?_ _));exact BK372.out) NB372_0.out (by simp));replace HO375:=zA (zGb (Kd.R_keep (IsS121.apart (show IsS121 w0 _ g s0_0 s0_1 s0_2 from zis HI0) (by (with_reducible repeat (first|apply zE|apply zD|apply zH));exact (zGb (zR (p:=⟨gb376,0,none⟩) (Kd.R_types HO375.out BK376.out (by decide)) (fun _ hk => hk.2) (.slice Ao6 y373.length co6)) (fun _ h_ => h_.1))) (by decide)) hk (fun _ h => h.2)) (fun _ h => h.1));replace BK376:=zA (KeepBut.blk hk (g':=gb376) (o:=.cells #[.slice Ao6 y373.length co6] 65 (0,0)) (by (with_reducible repeat (first|refine zF ?_ _|refine zI ?_|refine zG ?_ _));refine blk_put (cs:=#[.slice none 0 0]) ?_ 0 _ rfl;(with_reducible repeat (first|refine zF ?_ _|refine zI ?_|refine zG ?_ _));exact BK376.out) NB376_0.out (by simp));replace HK:=zA (KeepBut.trans (zks HK) hk (.inl rfl));replace HB:=zA (hb);replace HI0:=zA (hi);(try clear hb);(try clear hb2);(try clear hk);(try clear hi)))
 go_loopg [4] k (fun kq v4 w' => ∃ (x4_1 : Int) (x1001_1 : Int) (x1002_1 : Int) (x377000_1 : List Int) (u377000 : Value),v4 = .int .i64 x4_1 ∧ Aside0 (spec_l3Schema.l0 kq x4_1 s0_0 x1001_1 x1002_1 x377000_1 = some (r1,r2,r3)) ∧ Aside0 (kq ≤ k) ∧ Aside0 (Kd.R (Kd.int .i64) 3 w' w.heap.size (fun _ => True) u377000 x377000_1) ∧ Aside0 (w'.heap[gb372]? = some (.cells #[(.slice none 0 0)] 65 (0,0))) ∧ Aside0 (w'.heap[gb376]? = some (.cells #[u377000] 65 (0,0))) ∧ Aside0 (IsS121 w0 w' g s0_0 x1001_1 x1002_1) ∧ Aside0 (KeepBut w w' g none) ∧ Aside0 (Below w0.heap.size w0 w'))
 case atStart => exact ⟨(t377),(t378),(t379),(y373),(.slice Ao6 y373.length co6),za,H',⟨Nat.le_refl _⟩,⟨zq HO375⟩,⟨zx BK372⟩,⟨zx BK376⟩,⟨zis HI0⟩,⟨zks HK⟩,⟨zbs HB HI0⟩⟩
 case round =>
  clear H';(try clear c1);(try clear p2);(try clear c7);(try clear c8);(try clear c9);(try clear hcz10_0);(try clear hfz10_0);obtain ⟨x4_1,x1001_1,x1002_1,x377000_1,u377000,rfl,HA,HK1,HO_377000,BK372,BK376,HI0,HK,HB⟩:=hrel
  cases gk with
  | zero => exact absurd HA.out (by simp [spec_l3Schema.l0])
  | succ k1 =>
   have H:=HA.out;clear HA;simp only [spec_l3Schema.l0] at H
   by_cases c12 : x4_1 > 0
   ·
    rw [if_pos c12] at H
    have c12b0 : decide (0 < x4_1) = true:=decide_eq_true c12
    clear c12;replace H:=zYb.mp H;obtain ⟨⟨t380,t381,t382⟩,A130,H⟩:=H;(try dsimp only at H);have A13:=zA A130;clear A130
    by_cases c14 : x377000_1.length < 17592186044416
    ·
     rw [if_pos c14] at H;have LMc14:=zA c14;clear c14;obtain ⟨y383,hy383⟩ : ∃ y_ : List Int,y_ = (x377000_1 ++ [wrap64 (1 + t380)]):=⟨_,rfl⟩
     replace H : (spec_l3Schema.l0 k1 (wrap64 (x4_1 - 1)) s0_0 t381 t382 y383) = some (r1,r2,r3):=by first|(rw [hy383];with_reducible exact H)|(have H2_:=(Option.bind_some _ _).symm.trans H;rw [hy383];with_reducible exact H2_)|(have H2_:=(Option.bind_some _ _).symm.trans H;with_reducible exact H2_)|with_reducible exact H|(rw [hy383];exact H)|exact H
     have Ny383:=zA hy383;clear hy383
     have H':=zA H
     clear H
     go_wp2_with (first|((with_reducible refine gate_callee (f:=79) rfl ?_);refine zgo (some 15) Try.func79 #[.pointer (some ⟨g,0,none⟩),.int .i64 3] ?_;(with_reducible refine (spec_l1Below.calls g s0_0 x1001_1 x1002_1 3 t380 t381 t382 w0 _ ?side1 ?side2 A13.out).mono ?_);(case side1 => exact zis HI0);(case side2 => exact zbs HB HI0);rintro e w15 ⟨rfl,hi,hb,hk⟩;refine ⟨_,rfl,?_⟩;replace HO_377000:=zA (zGb (Kd.R_keep (IsS121.apart (show IsS121 w0 _ g s0_0 x1001_1 x1002_1 from zis HI0) (zq HO_377000) (by decide)) hk (fun _ h => h.2)) (fun _ h => h.1));replace BK372:=zA (KeepBut.blk hk (g':=gb372) (o:=.cells #[.slice none 0 0] 65 (0,0)) (zx BK372) NB372_0.out (by simp));replace BK376:=zA (KeepBut.blk hk (g':=gb376) (o:=.cells #[u377000] 65 (0,0)) (zx BK376) NB376_0.out (by simp));replace HK:=zA (KeepBut.trans (zks HK) hk (.inl rfl));replace HB:=zA (hb);replace HI0:=zA (hi);(try clear hb);(try clear hb2);(try clear hk);(try clear hi);have hnb16:=NB376_372.out;have hnc16:=NB372_376.out;have hnb17:=NB376_0.out;have hnc17:=NB0_376.out;have hcz18_0:=zc (u377000) BK376 0 rfl;have hfz18_0:=blk_frozen BK376.out 0)|((with_reducible refine gate_builtin (b:=.append) (xs:=#[.tmp 18,.tmp 20]) rfl ?_);at_builtin;refine Kd.R_append (Kd.int .i64) w.heap.size rfl (.tmp 18) (.tmp 20) 38 3 (.int .i64 0) 8 rfl Try.underlying38 info3 rfl (by decide) (by omega) u377000 x377000_1 (wrap64 (1 + t380)) [.int .i64 (wrap64 (1 + t380))] (fun _ => True) (fun _ => False) rfl rfl ?aP (fun _ hk => hk.elim) ?aF ?aO (Below.refl _ _) ?aS ?aL ?_;(case aP => exact rfl);(case aF => exact (fun _ _ => trivial));(case aO => exact (zq HO_377000));(case aS => exact (keep_size (w:=w) (g:=g) (row:=none) (zks HK)));(case aL => have:=LMc14.out;omega);intro v384 w19 ho hb hg hat;rw [← Ny383.out] at ho;replace BK372:=zA (blk_grown (g:=gb372) (o:=.cells #[.slice none 0 0] 65 (0,0)) (zx BK372) hg (Kd.R_ne HO_377000.out BK372.out (by decide)));replace BK376:=zA (blk_grown (g:=gb376) (o:=.cells #[u377000] 65 (0,0)) (zx BK376) hg (Kd.R_ne HO_377000.out BK376.out (by decide)));replace HB:=zA (below_weaken (zbs HB HI0) HL.out hb);replace HI0:=zA (IsS121.grown (zis HI0) hg (IsS121.own_ne HI0.out HO_377000.out (by decide)));replace HK:=zA (KeepBut.trans (zks HK) (KeepBut.of_grown hg g) (Kd.R_base2 HO_377000.out));have HO385:=zA (ho);clear HO_377000;clear ho hb hg hat;obtain ⟨Ao20,co20,eo20⟩:=Kd.R_slice HO385.out;subst eo20;have hcz21_0:=zc (u377000) BK376 0 rfl;have hfz21_0:=blk_frozen BK376.out 0))
     go_roundg k1
     case measure => have:=HK1.out;omega
     case rel => exact ⟨(wrap64 (x4_1 - 1)),(t381),(t382),(y383),(.slice Ao20 y383.length co20),za,H',⟨by have:=HK1.out;omega⟩,⟨by (with_reducible repeat (first|apply zE|apply zD|apply zH));exact zGb (zR (p:=⟨gb376,0,none⟩) (Kd.R_types HO385.out BK376.out (by decide)) (fun _ hk => hk.2) (.slice Ao20 y383.length co20)) (fun _ hk => trivial)⟩,⟨by (with_reducible repeat (first|refine zF ?_ _|refine zI ?_|refine zG ?_ _));refine zUb ?_ NB372_376.out _;(with_reducible repeat (first|refine zF ?_ _|refine zI ?_|refine zG ?_ _));exact BK372.out⟩,⟨by (with_reducible repeat (first|refine zF ?_ _|refine zI ?_|refine zG ?_ _));refine blk_put (cs:=#[u377000]) ?_ 0 _ rfl;(with_reducible repeat (first|refine zF ?_ _|refine zI ?_|refine zG ?_ _));exact BK376.out⟩,⟨zis HI0⟩,⟨zks HK⟩,⟨zbs HB HI0⟩⟩
    ·
     rw [if_neg c14] at H
     exact absurd H (by simp)
   ·
    rw [if_neg c12] at H
    have c12b0 : decide (0 < x4_1) = false:=decide_eq_false c12
    clear c12;simp only [Option.some.injEq,Prod.mk.injEq] at H;obtain ⟨rfl,rfl,rfl⟩:=H;have hnb22:=NB376_372.out;have hnc22:=NB372_376.out;have hnb23:=NB376_0.out;have hnc23:=NB0_376.out;have hcz24_0:=zc (u377000) BK376 0 rfl;have hfz24_0:=blk_frozen BK376.out 0;obtain ⟨Ao25,co25,eo25⟩:=Kd.R_slice HO_377000.out
    subst eo25
    have hnb26:=NB372_0.out;have hnc26:=NB0_372.out;have hcz27_0:=zc (.slice none 0 0) BK372 0 rfl;have hfz27_0:=blk_frozen BK372.out 0
    go_wp2
    refine bodyPost_ret (results_cell_row rfl _ _ gb372 65 #[.slice Ao25 x377000_1.length co25] (0,0) _ rfl (by (with_reducible repeat (first|refine zF ?_ _|refine zI ?_|refine zG ?_ _));refine blk_put (cs:=#[.slice none 0 0]) ?_ 0 _ rfl;(with_reducible repeat (first|refine zF ?_ _|refine zI ?_|refine zG ?_ _));exact BK372.out) Try.underlying65 rfl (by kernel_rfl)) rfl ?_
    exact ⟨_,zrr,by (with_reducible repeat (first|apply zE|apply zD|apply zH));exact zGb (zR (p:=⟨gb372,0,none⟩) (Kd.R_types HO_377000.out BK372.out (by decide)) (fun _ hk => hk.2) (.slice Ao25 x377000_1.length co25)) (fun _ hk => trivial),zis HI0,zbs HB HI0,zks HK⟩

/-! ### spec_l3Atom: function 156 -/
def spec_l3Atom.l0 : Nat → Int → List Int → Int → Int → List Int → Int → List Int → Option (Int × List Int × Int × Int)
 | 0, _, _, _, _, _, _, _ => none
 | k + 1, x6, x1000, x1001, x1002, x387000, x392000, x392001 => if 0 ≤ x392000 then (if x392000 < (x387000.length : Int) then (if x6 < (rd x387000 x392000) then ((spec_l2Term.f x1000 x1001 x1002).bind fun bt393 => (if x392001.length < 17592186044416 then (spec_l3Atom.l0 k (wrap64 (x6 + 1)) x1000 bt393.2.1 bt393.2.2 x387000 x392000 (x392001 ++ [bt393.1])) else (none))) else (some (x392000, x392001, x1001, x1002))) else (none)) else (none)
def spec_l3Atom.f (k : Nat) (s0_0 : List Int) (s0_1 : Int) (s0_2 : Int) (l1_0 : List Int) : Option (Int × List Int × Int × Int) := (spec_l1Below.f s0_0 s0_1 s0_2 (l1_0.length : Int)).bind fun bt388 => (spec_l3Atom.l0 k 0 s0_0 bt388.2.1 bt388.2.2 l1_0 bt388.1 ([] : List Int))
set_option maxHeartbeats 8000000 in
set_option maxRecDepth 100000 in
theorem spec_l3Atom.calls (k : Nat) (g : Nat) (s0_0 : List Int) (s0_1 : Int) (s0_2 : Int) (A1_0 : Option Addr) (c1_0 : Nat) (l1_0 : List Int) (r1 : Int) (r2 : List Int) (r3 : Int) (r4 : Int) (w0 w : World) (hI : IsS121 w0 w g s0_0 s0_1 s0_2) (hB : Below w0.heap.size w0 w) (hr1_0 : Kd.C (Kd.int .i64) w A1_0 l1_0.length l1_0) (hc1_0 : l1_0.length ≤ c1_0) (hf1_0 : ∀ ad, A1_0 = some ad → 0 < l1_0.length → ad.block ≠ g) (h : spec_l3Atom.f k s0_0 s0_1 s0_2 l1_0 = some (r1, r2, r3, r4)) :
  Calls Try.prog 156 #[.pointer (some ⟨g, 0, none⟩), .agg #[.slice A1_0 l1_0.length c1_0]] w fun e w' => ∃ v1_ : Value, e = .returned (.agg #[.int .i64 r1, v1_]) ∧ Kd.R (Kd.int .i64) 3 w' w.heap.size (fun _ => True) v1_ r2 ∧ IsS121 w0 w' g s0_0 r3 r4 ∧ Below w0.heap.size w0 w' ∧ KeepBut w w' g none := by
 have hu65:=Try.underlying65;have hu97:=Try.underlying97;have HR1_0:=zA hr1_0;have HC1_0:=zA hc1_0;clear hr1_0 hc1_0;have HI0:=zA hI;have HK:=zA (KeepBut.refl w g none);have HL:=zA hB.size;clear hI;have HW0:=zA hB.size;have HB:=zA hB;clear hB
 have H : ((spec_l1Below.f s0_0 s0_1 s0_2 (l1_0.length : Int)).bind fun bt388 => (spec_l3Atom.l0 k 0 s0_0 bt388.2.1 bt388.2.2 l1_0 bt388.1 ([] : List Int))) = some (r1,r2,r3,r4):=h
 clear h;replace H:=zYb.mp H;obtain ⟨⟨t388,t389,t390⟩,A30,H⟩:=H;(try dsimp only at H);have A3:=zA A30;clear A30
 have H':=zA H
 clear H
 go_enter Try.func156,Try.ntmps156
 go_wp2_with (first|((with_reducible refine gate_dst (N:=3) rfl ?_);refine zbx 3 #[.slice A1_0 l1_0.length c1_0] 65 ?_;intro gb386 hg w4 hbox hb;replace HB:=zA (zJb (zbs HB HI0) hb);have BK386:=zA (hbox);have GW386:=zA ((by rw [hg];exact (keep_size (w:=w) (g:=g) (row:=none) (zks HK)) : w.heap.size ≤ gb386));have GE386:=zA ((Nat.le_trans HW0.out (by rw [hg];exact (keep_size (w:=w) (g:=g) (row:=none) (zks HK)) : w.heap.size ≤ gb386) : w0.heap.size ≤ gb386));replace HK:=zA (KeepBut.trans (zks HK) (KeepBut.of_below hb g none) (.inl rfl));have NB0_386:=zA ((by rw [hg];exact Nat.ne_of_lt (IsS121.lt (show IsS121 w0 _ g s0_0 s0_1 s0_2 from zis HI0)) : g ≠ gb386));have NB386_0:=zA ((by rw [hg];exact Nat.ne_of_gt (IsS121.lt (show IsS121 w0 _ g s0_0 s0_1 s0_2 from zis HI0)) : gb386 ≠ g));replace HI0:=zA (IsS121.below (zis HI0) hb);clear hb hbox hg)|((with_reducible refine gate_dst (N:=4) rfl ?_);refine zbx 4 #[.int .i64 0,.slice none 0 0] 97 ?_;intro gb387 hg w5 hbox hb;replace HB:=zA (zJb (zbs HB HI0) hb);have BK387:=zA (hbox);have GW387:=zA ((by rw [hg];exact (keep_size (w:=w) (g:=g) (row:=none) (zks HK)) : w.heap.size ≤ gb387));have GE387:=zA ((Nat.le_trans HW0.out (by rw [hg];exact (keep_size (w:=w) (g:=g) (row:=none) (zks HK)) : w.heap.size ≤ gb387) : w0.heap.size ≤ gb387));replace HK:=zA (KeepBut.trans (zks HK) (KeepBut.of_below hb g none) (.inl rfl));have NB386_387:=znb hg BK386;have NB387_386:=znc hg BK386;replace BK386:=zbk BK386 hb;have NB0_387:=zA ((by rw [hg];exact Nat.ne_of_lt (IsS121.lt (show IsS121 w0 _ g s0_0 s0_1 s0_2 from zis HI0)) : g ≠ gb387));have NB387_0:=zA ((by rw [hg];exact Nat.ne_of_gt (IsS121.lt (show IsS121 w0 _ g s0_0 s0_1 s0_2 from zis HI0)) : gb387 ≠ g));replace HI0:=zA (IsS121.below (zis HI0) hb);clear hb hbox hg;have hnb6:=NB386_387.out;have hnc6:=NB387_386.out;have hnb7:=NB386_0.out;have hnc7:=NB0_386.out;have hcz8_0:=zc (.slice A1_0 l1_0.length c1_0) BK386 0 rfl;have hfz8_0:=blk_frozen BK386.out 0)|((with_reducible refine gate_callee (f:=79) rfl ?_);refine zgo (some 12) Try.func79 #[.pointer (some ⟨g,0,none⟩),.int .i64 (l1_0.length : Int)] ?_;(with_reducible refine (spec_l1Below.calls g s0_0 s0_1 s0_2 (l1_0.length : Int) t388 t389 t390 w0 _ ?side1 ?side2 A3.out).mono ?_);(case side1 => exact zis HI0);(case side2 => exact zbs HB HI0);rintro e w9 ⟨rfl,hi,hb,hk⟩;refine ⟨_,rfl,?_⟩;replace BK386:=zA (KeepBut.blk hk (g':=gb386) (o:=.cells #[.slice A1_0 l1_0.length c1_0] 65 (0,0)) (zx BK386) NB386_0.out (by simp));replace BK387:=zA (KeepBut.blk hk (g':=gb387) (o:=.cells #[.int .i64 0,.slice none 0 0] 97 (0,0)) (zx BK387) NB387_0.out (by simp));replace HK:=zA (KeepBut.trans (zks HK) hk (.inl rfl));replace HB:=zA (hb);replace HI0:=zA (hi);(try clear hb);(try clear hb2);(try clear hk);(try clear hi))|((with_reducible refine gate_dst (N:=5) rfl ?_);refine zbx 5 #[.int .i64 0,.slice none 0 0] 97 ?_;intro gb391 hg w10 hbox hb;replace HB:=zA (zJb (zbs HB HI0) hb);have BK391:=zA (hbox);have GW391:=zA ((by rw [hg];exact (keep_size (w:=w) (g:=g) (row:=none) (zks HK)) : w.heap.size ≤ gb391));have GE391:=zA ((Nat.le_trans HW0.out (by rw [hg];exact (keep_size (w:=w) (g:=g) (row:=none) (zks HK)) : w.heap.size ≤ gb391) : w0.heap.size ≤ gb391));replace HK:=zA (KeepBut.trans (zks HK) (KeepBut.of_below hb g none) (.inl rfl));have NB386_391:=znb hg BK386;have NB391_386:=znc hg BK386;replace BK386:=zbk BK386 hb;have NB387_391:=znb hg BK387;have NB391_387:=znc hg BK387;replace BK387:=zbk BK387 hb;have NB0_391:=zA ((by rw [hg];exact Nat.ne_of_lt (IsS121.lt (show IsS121 w0 _ g s0_0 t389 t390 from zis HI0)) : g ≠ gb391));have NB391_0:=zA ((by rw [hg];exact Nat.ne_of_gt (IsS121.lt (show IsS121 w0 _ g s0_0 t389 t390 from zis HI0)) : gb391 ≠ g));replace HI0:=zA (IsS121.below (zis HI0) hb);clear hb hbox hg;have hnb11:=NB391_386.out;have hnc11:=NB386_391.out;have hnb12:=NB391_387.out;have hnc12:=NB387_391.out;have hnb13:=NB391_0.out;have hnc13:=NB0_391.out;have hcz14_0:=zc (.int .i64 0) BK391 0 rfl;have hcz14_1:=zc (.slice none 0 0) BK391 1 rfl;have hfz14_0:=blk_frozen BK391.out 0;have hfz14_1:=blk_frozen BK391.out 1))
 go_loopg [6] k (fun kq v6 w' => ∃ (x6_1 : Int) (x1001_1 : Int) (x1002_1 : Int) (x392001_1 : List Int) (u392001 : Value),v6 = .int .i64 x6_1 ∧ Aside0 (spec_l3Atom.l0 kq x6_1 s0_0 x1001_1 x1002_1 l1_0 t388 x392001_1 = some (r1,r2,r3,r4)) ∧ Aside0 (kq ≤ k) ∧ Aside0 (Kd.R (Kd.int .i64) 3 w' w.heap.size (fun _ => True) u392001 x392001_1) ∧ Aside0 (w'.heap[gb386]? = some (.cells #[(.slice A1_0 l1_0.length c1_0)] 65 (0,0))) ∧ Aside0 (w'.heap[gb387]? = some (.cells #[.int .i64 0,(.slice none 0 0)] 97 (0,0))) ∧ Aside0 (w'.heap[gb391]? = some (.cells #[.int .i64 t388,u392001] 97 (0,0))) ∧ Aside0 (IsS121 w0 w' g s0_0 x1001_1 x1002_1) ∧ Aside0 (KeepBut w w' g none) ∧ Aside0 (Below w0.heap.size w0 w'))
 case atStart => exact ⟨(0),(t389),(t390),(([] : List Int)),(.slice none 0 0),za,H',⟨Nat.le_refl _⟩,⟨by first|exact Kd.R_nil _ _ _ _ _|exact Kd.N_nil _ _ _ _ _|exact Kd.V_nil _ _ _ _ _|exact Kd.Q_nil _ _ _ _ _|exact Kd.S_nil _ _ _ _ _⟩,⟨by (with_reducible repeat (first|refine zF ?_ _|refine zI ?_|refine zG ?_ _));refine zUb ?_ NB386_391.out _;(with_reducible repeat (first|refine zF ?_ _|refine zI ?_|refine zG ?_ _));refine zUb ?_ NB386_391.out _;(with_reducible repeat (first|refine zF ?_ _|refine zI ?_|refine zG ?_ _));exact BK386.out⟩,⟨by (with_reducible repeat (first|refine zF ?_ _|refine zI ?_|refine zG ?_ _));refine zUb ?_ NB387_391.out _;(with_reducible repeat (first|refine zF ?_ _|refine zI ?_|refine zG ?_ _));refine zUb ?_ NB387_391.out _;(with_reducible repeat (first|refine zF ?_ _|refine zI ?_|refine zG ?_ _));exact BK387.out⟩,⟨by (with_reducible repeat (first|refine zF ?_ _|refine zI ?_|refine zG ?_ _));refine blk_put (cs:=#[.int .i64 t388,.slice none 0 0]) ?_ 1 _ rfl;(with_reducible repeat (first|refine zF ?_ _|refine zI ?_|refine zG ?_ _));refine blk_put (cs:=#[.int .i64 0,.slice none 0 0]) ?_ 0 _ rfl;(with_reducible repeat (first|refine zF ?_ _|refine zI ?_|refine zG ?_ _));exact BK391.out⟩,⟨zis HI0⟩,⟨zks HK⟩,⟨zbs HB HI0⟩⟩
 case round =>
  clear H';(try clear c1);(try clear p2);(try clear c6);(try clear c7);(try clear c11);(try clear c12);(try clear c13);(try clear hcz14_0);(try clear hcz14_1);(try clear hcz8_0);(try clear hfz14_0);(try clear hfz14_1);(try clear hfz8_0);obtain ⟨x6_1,x1001_1,x1002_1,x392001_1,u392001,rfl,HA,HK1,HO_392001,BK386,BK387,BK391,HI0,HK,HB⟩:=hrel
  cases gk with
  | zero => exact absurd HA.out (by simp [spec_l3Atom.l0])
  | succ k1 =>
   have H:=HA.out;clear HA;simp only [spec_l3Atom.l0] at H
   by_cases c15 : 0 ≤ t388
   ·
    rw [if_pos c15] at H;have c15b0:=decide_eq_true c15;clear c15
    by_cases c16 : t388 < (l1_0.length : Int)
    ·
     rw [if_pos c16] at H;have c16b0:=decide_eq_true c16;clear c16
     by_cases c17 : x6_1 < (rd l1_0 t388)
     ·
      rw [if_pos c17] at H;have c17b0:=decide_eq_true c17;clear c17;replace H:=zYb.mp H;obtain ⟨⟨t393,t394,t395⟩,A180,H⟩:=H;(try dsimp only at H);have A18:=zA A180;clear A180
      by_cases c19 : x392001_1.length < 17592186044416
      ·
       rw [if_pos c19] at H;have LMc19:=zA c19;clear c19;obtain ⟨y396,hy396⟩ : ∃ y_ : List Int,y_ = (x392001_1 ++ [t393]):=⟨_,rfl⟩
       replace H : (spec_l3Atom.l0 k1 (wrap64 (x6_1 + 1)) s0_0 t394 t395 l1_0 t388 y396) = some (r1,r2,r3,r4):=by first|(rw [hy396];with_reducible exact H)|(have H2_:=(Option.bind_some _ _).symm.trans H;rw [hy396];with_reducible exact H2_)|(have H2_:=(Option.bind_some _ _).symm.trans H;with_reducible exact H2_)|with_reducible exact H|(rw [hy396];exact H)|exact H
       have Ny396:=zA hy396;clear hy396
       have H':=zA H
       clear H;have hnb20:=NB386_387.out;have hnc20:=NB387_386.out;have hnb21:=NB386_391.out;have hnc21:=NB391_386.out;have hnb22:=NB386_0.out;have hnc22:=NB0_386.out;have hcz23_0:=zc (.slice A1_0 l1_0.length c1_0) BK386 0 rfl;have hfz23_0:=blk_frozen BK386.out 0;have hnb24:=NB391_387.out;have hnc24:=NB387_391.out;have hnb25:=NB391_0.out;have hnc25:=NB0_391.out;have hcz26_0:=zc (.int .i64 t388) BK391 0 rfl;have hcz26_1:=zc (u392001) BK391 1 rfl;have hfz26_0:=blk_frozen BK391.out 0;have hfz26_1:=blk_frozen BK391.out 1;have p392 : 0 ≤ (t388 : Int):=zXb ze;have q392 : t388 < (l1_0.length : Int):=zXb ze;obtain ⟨ad392,e392,hx392_0⟩:=Kd.at_int HR1_0.out t388 p392 q392
       cases e392
       replace hx392_0:=keep_cell HK.out hx392_0 (by first|(rw [add_block];exact hf1_0 _ rfl (by omega))|exact hf1_0 _ rfl (by omega)|exact hf1_0 ad392 rfl (by omega));replace p392:=eq_true p392;replace q392:=eq_true q392
       go_wp2_with (first|((with_reducible refine gate_callee (f:=144) rfl ?_);refine zgo (some 25) Try.func144 #[.pointer (some ⟨g,0,none⟩)] ?_;(with_reducible refine (spec_l2Term.calls g s0_0 x1001_1 x1002_1 t393 t394 t395 w0 _ ?side1 ?side2 A18.out).mono ?_);(case side1 => exact zis HI0);(case side2 => exact zbs HB HI0);rintro e w27 ⟨rfl,hi,hb,hk⟩;refine ⟨_,rfl,?_⟩;replace HO_392001:=zA (zGb (Kd.R_keep (IsS121.apart (show IsS121 w0 _ g s0_0 x1001_1 x1002_1 from zis HI0) (zq HO_392001) (by decide)) hk (fun _ h => h.2)) (fun _ h => h.1));replace BK386:=zA (KeepBut.blk hk (g':=gb386) (o:=.cells #[.slice (some ad392) l1_0.length c1_0] 65 (0,0)) (zx BK386) NB386_0.out (by simp));replace BK387:=zA (KeepBut.blk hk (g':=gb387) (o:=.cells #[.int .i64 0,.slice none 0 0] 97 (0,0)) (zx BK387) NB387_0.out (by simp));replace BK391:=zA (KeepBut.blk hk (g':=gb391) (o:=.cells #[.int .i64 t388,u392001] 97 (0,0)) (zx BK391) NB391_0.out (by simp));replace HK:=zA (KeepBut.trans (zks HK) hk (.inl rfl));replace HB:=zA (hb);replace HI0:=zA (hi);(try clear hb);(try clear hb2);(try clear hk);(try clear hi);have hcz28_0:=zc (.int .i64 t388) BK391 0 rfl;have hcz28_1:=zc (u392001) BK391 1 rfl;have hfz28_0:=blk_frozen BK391.out 0;have hfz28_1:=blk_frozen BK391.out 1)|((with_reducible refine gate_builtin (b:=.append) (xs:=#[.tmp 27,.tmp 29]) rfl ?_);at_builtin;refine Kd.R_append (Kd.int .i64) w.heap.size rfl (.tmp 27) (.tmp 29) 38 3 (.int .i64 0) 8 rfl Try.underlying38 info3 rfl (by decide) (by omega) u392001 x392001_1 t393 [.int .i64 t393] (fun _ => True) (fun _ => False) rfl rfl ?aP (fun _ hk => hk.elim) ?aF ?aO (Below.refl _ _) ?aS ?aL ?_;(case aP => exact rfl);(case aF => exact (fun _ _ => trivial));(case aO => exact (zq HO_392001));(case aS => exact (keep_size (w:=w) (g:=g) (row:=none) (zks HK)));(case aL => have:=LMc19.out;omega);intro v397 w29 ho hb hg hat;rw [← Ny396.out] at ho;replace BK386:=zA (blk_grown (g:=gb386) (o:=.cells #[.slice (some ad392) l1_0.length c1_0] 65 (0,0)) (zx BK386) hg (Kd.R_ne HO_392001.out BK386.out (by decide)));replace BK387:=zA (blk_grown (g:=gb387) (o:=.cells #[.int .i64 0,.slice none 0 0] 97 (0,0)) (zx BK387) hg (Kd.R_ne HO_392001.out BK387.out (by decide)));replace BK391:=zA (blk_grown (g:=gb391) (o:=.cells #[.int .i64 t388,u392001] 97 (0,0)) (zx BK391) hg (Kd.R_ne HO_392001.out BK391.out (by decide)));replace HB:=zA (below_weaken (zbs HB HI0) HL.out hb);replace HI0:=zA (IsS121.grown (zis HI0) hg (IsS121.own_ne HI0.out HO_392001.out (by decide)));replace HK:=zA (KeepBut.trans (zks HK) (KeepBut.of_grown hg g) (Kd.R_base2 HO_392001.out));have HO398:=zA (ho);clear HO_392001;clear ho hb hg hat;obtain ⟨Ao30,co30,eo30⟩:=Kd.R_slice HO398.out;subst eo30;have hcz31_0:=zc (.int .i64 t388) BK391 0 rfl;have hcz31_1:=zc (u392001) BK391 1 rfl;have hfz31_0:=blk_frozen BK391.out 0;have hfz31_1:=blk_frozen BK391.out 1))
       go_roundg k1
       case measure => have:=HK1.out;omega
       case rel => exact ⟨(wrap64 (x6_1 + 1)),(t394),(t395),(y396),(.slice Ao30 y396.length co30),za,H',⟨by have:=HK1.out;omega⟩,⟨by (with_reducible repeat (first|apply zE|apply zD|apply zH));exact zGb (zR (p:=⟨gb391,1,none⟩) (Kd.R_types HO398.out BK391.out (by decide)) (fun _ hk => hk.2) (.slice Ao30 y396.length co30)) (fun _ hk => trivial)⟩,⟨by (with_reducible repeat (first|refine zF ?_ _|refine zI ?_|refine zG ?_ _));refine zUb ?_ NB386_391.out _;(with_reducible repeat (first|refine zF ?_ _|refine zI ?_|refine zG ?_ _));exact BK386.out⟩,⟨by (with_reducible repeat (first|refine zF ?_ _|refine zI ?_|refine zG ?_ _));refine zUb ?_ NB387_391.out _;(with_reducible repeat (first|refine zF ?_ _|refine zI ?_|refine zG ?_ _));exact BK387.out⟩,⟨by (with_reducible repeat (first|refine zF ?_ _|refine zI ?_|refine zG ?_ _));refine blk_put (cs:=#[.int .i64 t388,u392001]) ?_ 1 _ rfl;(with_reducible repeat (first|refine zF ?_ _|refine zI ?_|refine zG ?_ _));exact BK391.out⟩,⟨zis HI0⟩,⟨zks HK⟩,⟨zbs HB HI0⟩⟩
      ·
       rw [if_neg c19] at H
       exact absurd H (by simp)
     ·
      rw [if_neg c17] at H;have c17b0:=decide_eq_false c17;clear c17;simp only [Option.some.injEq,Prod.mk.injEq] at H;obtain ⟨rfl,rfl,rfl,rfl⟩:=H;have hnb32:=NB386_387.out;have hnc32:=NB387_386.out;have hnb33:=NB386_391.out;have hnc33:=NB391_386.out;have hnb34:=NB386_0.out;have hnc34:=NB0_386.out;have hcz35_0:=zc (.slice A1_0 l1_0.length c1_0) BK386 0 rfl;have hfz35_0:=blk_frozen BK386.out 0;have hnb36:=NB391_387.out;have hnc36:=NB387_391.out;have hnb37:=NB391_0.out;have hnc37:=NB0_391.out;have hcz38_0:=zc (.int .i64 t388) BK391 0 rfl;have hcz38_1:=zc (u392001) BK391 1 rfl;have hfz38_0:=blk_frozen BK391.out 0;have hfz38_1:=blk_frozen BK391.out 1;have p392 : 0 ≤ (t388 : Int):=zXb ze;have q392 : t388 < (l1_0.length : Int):=zXb ze;obtain ⟨ad392,e392,hx392_0⟩:=Kd.at_int HR1_0.out t388 p392 q392
      cases e392
      replace hx392_0:=keep_cell HK.out hx392_0 (by first|(rw [add_block];exact hf1_0 _ rfl (by omega))|exact hf1_0 _ rfl (by omega)|exact hf1_0 ad392 rfl (by omega));replace p392:=eq_true p392;replace q392:=eq_true q392;have hnb39:=NB387_0.out;have hnc39:=NB0_387.out;have hcz40_0:=zc (.int .i64 0) BK387 0 rfl;have hcz40_1:=zc (.slice none 0 0) BK387 1 rfl;have hfz40_0:=blk_frozen BK387.out 0;have hfz40_1:=blk_frozen BK387.out 1;obtain ⟨Ao41,co41,eo41⟩:=Kd.R_slice HO_392001.out
      subst eo41
      go_wp2
      refine bodyPost_ret (results_cell_row rfl _ _ gb387 97 #[.int .i64 t388,.slice Ao41 x392001_1.length co41] (0,0) _ rfl (by (with_reducible repeat (first|refine zF ?_ _|refine zI ?_|refine zG ?_ _));refine blk_put (cs:=#[.int .i64 t388,.slice none 0 0]) ?_ 1 _ rfl;(with_reducible repeat (first|refine zF ?_ _|refine zI ?_|refine zG ?_ _));refine blk_put (cs:=#[.int .i64 0,.slice none 0 0]) ?_ 0 _ rfl;(with_reducible repeat (first|refine zF ?_ _|refine zI ?_|refine zG ?_ _));exact BK387.out) Try.underlying97 rfl (by kernel_rfl)) rfl ?_
      exact ⟨_,zrr,by (with_reducible repeat (first|apply zE|apply zD|apply zH));exact zGb (zR (p:=⟨gb387,1,none⟩) (zR (p:=⟨gb387,0,none⟩) (Kd.R_types HO_392001.out BK387.out (by decide)) (fun _ hk => hk.2) (.int .i64 t388)) (fun _ hk => hk.2) (.slice Ao41 x392001_1.length co41)) (fun _ hk => trivial),zis HI0,zbs HB HI0,zks HK⟩
    ·
     rw [if_neg c16] at H
     exact absurd H (by simp)
   ·
    rw [if_neg c15] at H
    exact absurd H (by simp)

end Go.Proofs.Ytanbgnjfllpkgaa.QFnMappings
