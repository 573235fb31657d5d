/- Walks through the Go functions that FnExactBindings reaches: each call returns what the Lean function beside it says, within the bounds that the theorem names. -/
import Derived.Test.YtfelabhakgcifaaQFnExactBindingsx0
import Derived.Test.YtfelabhakgcifaaQFnExactBindingsx5
import Derived.Test.YtfelabhakgcifaaQFnExactBindingsx11
namespace Go.Proofs.Ytfelabhakgcifaa.QFnExactBindings
open Go.RowKit Go.Proofs.YtfelabhakgcifaaW.PrintWords Go.Proofs.YtfelabhakgcifaaW.PrintLast Go.Proofs.YtfelabhakgcifaaW.PrintMore
attribute [local go_sem] max2_int min2_int max_two min_two max_three min_three max_four min_four   -- for this text's walks alone
set_option linter.unusedVariables false
set_option linter.unusedSimpArgs false


/-! ### spec_l6Sort: function 99 -/
mutual
def spec_l6Sort.l0 : Nat → List (List Int) → Bool → List (List Int) → Int → Option ((List (List Int)))
 | 0, _, _, _, _ => none
 | k + 1, x0, x1, x5, x6 => if x6 < (x0.length : Int) then (spec_l6Sort.l1 k x0 x1 x5 x6 (x5.length : Int)) else (some x5)
def spec_l6Sort.j2 : Nat → List (List Int) → Bool → List (List Int) → Int → Int → Option ((List (List Int)))
 | 0, _, _, _, _, _ => none
 | k + 1, x0, x1, x5, x6, x7 => if x1 = true then (if x7 > 0 then (if 0 ≤ (wrap64 (x7 - 1)) then (if (wrap64 (x7 - 1)) < (x5.length : Int) then (if 0 ≤ x6 then (if x6 < (x0.length : Int) then ((spec_l2Ints.f k (rd_L1 x5 (wrap64 (x7 - 1))) (rd_L1 x0 x6)).bind fun t254 => (spec_l6Sort.j3 k x0 x1 x5 x6 x7 t254)) else (none)) else (none)) else (none)) else (none)) else (spec_l6Sort.j3 k x0 x1 x5 x6 x7 false)) else (spec_l6Sort.j3 k x0 x1 x5 x6 x7 false)
def spec_l6Sort.j3 : Nat → List (List Int) → Bool → List (List Int) → Int → Int → Bool → Option ((List (List Int)))
 | 0, _, _, _, _, _, _ => none
 | k + 1, x0, x1, x5, x6, x7, x52 => if x52 = true then (spec_l6Sort.l0 k x0 x1 x5 (wrap64 (x6 + 1))) else (spec_l6Sort.l2 k x0 x1 x5 x6 x7 (([] : List (List Int))) 0)
def spec_l6Sort.l2 : Nat → List (List Int) → Bool → List (List Int) → Int → Int → List (List Int) → Int → Option ((List (List Int)))
 | 0, _, _, _, _, _, _, _ => none
 | k + 1, x0, x1, x5, x6, x7, x8, x9 => if x9 < x7 then (if 0 ≤ x9 then (if x9 < (x5.length : Int) then (if x8.length < 5864062014805 then (spec_l6Sort.l2 k x0 x1 x5 x6 x7 (x8 ++ [rd_L1 x5 x9]) (wrap64 (x9 + 1))) else (none)) else (none)) else (none)) else ((some (([] : List Int) : List Int)).bind fun y262 => (if 0 ≤ x6 then (if x6 < (x0.length : Int) then (if y262.length + (rd_L1 x0 x6).length < 17592186044416 then (if x8.length < 5864062014805 then (spec_l6Sort.l3 k x0 x1 x5 x6 (x8 ++ [(y262 ++ (rd_L1 x0 x6))]) x7) else (none)) else (none)) else (none)) else (none)))
def spec_l6Sort.l3 : Nat → List (List Int) → Bool → List (List Int) → Int → List (List Int) → Int → Option ((List (List Int)))
 | 0, _, _, _, _, _, _ => none
 | k + 1, x0, x1, x5, x6, x8, x10 => if x10 < (x5.length : Int) then (if 0 ≤ x10 then (if x8.length < 5864062014805 then (spec_l6Sort.l3 k x0 x1 x5 x6 (x8 ++ [rd_L1 x5 x10]) (wrap64 (x10 + 1))) else (none)) else (none)) else (spec_l6Sort.l0 k x0 x1 x8 (wrap64 (x6 + 1)))
def spec_l6Sort.l1 : Nat → List (List Int) → Bool → List (List Int) → Int → Int → Option ((List (List Int)))
 | 0, _, _, _, _, _ => none
 | k + 1, x0, x1, x5, x6, x7 => if x7 > 0 then (if 0 ≤ x6 then (if x6 < (x0.length : Int) then (if 0 ≤ (wrap64 (x7 - 1)) then (if (wrap64 (x7 - 1)) < (x5.length : Int) then ((spec_l2Less.f k (rd_L1 x0 x6) (rd_L1 x5 (wrap64 (x7 - 1)))).bind fun t251 => (if t251 = true then (spec_l6Sort.l1 k x0 x1 x5 x6 (wrap64 (x7 - 1))) else (spec_l6Sort.j2 k x0 x1 x5 x6 x7))) else (none)) else (none)) else (none)) else (none)) else (spec_l6Sort.j2 k x0 x1 x5 x6 x7)
end
def spec_l6Sort.f (k : Nat) (l0 : List (List Int)) (a1 : Bool) : Option ((List (List Int))) := spec_l6Sort.l0 k l0 a1 (([] : List (List Int))) 0
theorem spec_l6Sort.mono_l : ∀ k, (∀ y0 y1 y2 y3, LeO (spec_l6Sort.l0 k y0 y1 y2 y3) (spec_l6Sort.l0 (k + 1) y0 y1 y2 y3)) ∧ (∀ y0 y1 y2 y3 y4, LeO (spec_l6Sort.j2 k y0 y1 y2 y3 y4) (spec_l6Sort.j2 (k + 1) y0 y1 y2 y3 y4)) ∧ (∀ y0 y1 y2 y3 y4 y5, LeO (spec_l6Sort.j3 k y0 y1 y2 y3 y4 y5) (spec_l6Sort.j3 (k + 1) y0 y1 y2 y3 y4 y5)) ∧ (∀ y0 y1 y2 y3 y4 y5 y6, LeO (spec_l6Sort.l2 k y0 y1 y2 y3 y4 y5 y6) (spec_l6Sort.l2 (k + 1) y0 y1 y2 y3 y4 y5 y6)) ∧ (∀ y0 y1 y2 y3 y4 y5, LeO (spec_l6Sort.l3 k y0 y1 y2 y3 y4 y5) (spec_l6Sort.l3 (k + 1) y0 y1 y2 y3 y4 y5)) ∧ (∀ y0 y1 y2 y3 y4, LeO (spec_l6Sort.l1 k y0 y1 y2 y3 y4) (spec_l6Sort.l1 (k + 1) y0 y1 y2 y3 y4))
 | 0 => ⟨fun _ _ _ _ r h => by simp [spec_l6Sort.l0] at h, fun _ _ _ _ _ r h => by simp [spec_l6Sort.j2] at h, fun _ _ _ _ _ _ r h => by simp [spec_l6Sort.j3] at h, fun _ _ _ _ _ _ _ r h => by simp [spec_l6Sort.l2] at h, fun _ _ _ _ _ _ r h => by simp [spec_l6Sort.l3] at h, fun _ _ _ _ _ r h => by simp [spec_l6Sort.l1] at h⟩
 | k + 1 => by
  obtain ⟨ih0,ih1,ih2,ih3,ih4,ih5⟩:=spec_l6Sort.mono_l k
  refine ⟨?_,?_,?_,?_,?_,?_⟩
  (intros;unfold spec_l6Sort.l0;rotate_left)
  (intros;unfold spec_l6Sort.j2;rotate_left)
  (intros;unfold spec_l6Sort.j3;rotate_left)
  (intros;unfold spec_l6Sort.l2;rotate_left)
  (intros;unfold spec_l6Sort.l3;rotate_left)
  (intros;unfold spec_l6Sort.l1;rotate_left)
  all_goals repeat' first
  | (with_reducible exact ih0 _ _ _ _)
  | (with_reducible exact ih1 _ _ _ _ _)
  | (with_reducible exact ih2 _ _ _ _ _ _)
  | (with_reducible exact ih3 _ _ _ _ _ _ _)
  | (with_reducible exact ih4 _ _ _ _ _ _)
  | (with_reducible exact ih5 _ _ _ _ _)
  | (with_reducible exact spec_l2Ints.mono _ _ _)
  | (with_reducible exact spec_l2Less.mono _ _ _)
  | (with_reducible exact LeO.refl _)
  | (with_reducible exact LeO.none _)
  | (with_reducible refine LeO.ite ?_ ?_)
  | (with_reducible refine LeO.bind ?_ (fun _ => ?_))
  | exact ih0 _ _ _ _
  | exact ih1 _ _ _ _ _
  | exact ih2 _ _ _ _ _ _
  | exact ih3 _ _ _ _ _ _ _
  | exact ih4 _ _ _ _ _ _
  | exact ih5 _ _ _ _ _
  | exact LeO.none _
  | refine LeO.ite ?_ ?_
  | refine LeO.bind ?_ (fun _ => ?_)
theorem spec_l6Sort.mono : ∀ a0 a1 k, LeO (spec_l6Sort.f k a0 a1) (spec_l6Sort.f (k + 1) a0 a1) := by
 intro a0 a1 k
 obtain ⟨ih0,ih1,ih2,ih3,ih4,ih5⟩:=spec_l6Sort.mono_l k
 unfold spec_l6Sort.f
 repeat' first
   | (with_reducible exact ih0 _ _ _ _)
   | (with_reducible exact ih1 _ _ _ _ _)
   | (with_reducible exact ih2 _ _ _ _ _ _)
   | (with_reducible exact ih3 _ _ _ _ _ _ _)
   | (with_reducible exact ih4 _ _ _ _ _ _)
   | (with_reducible exact ih5 _ _ _ _ _)
   | (with_reducible exact spec_l2Ints.mono _ _ _)
   | (with_reducible exact spec_l2Less.mono _ _ _)
   | (with_reducible exact LeO.refl _)
   | (with_reducible exact LeO.none _)
   | (with_reducible refine LeO.ite ?_ ?_)
   | (with_reducible refine LeO.bind ?_ (fun _ => ?_))
   | exact ih0 _ _ _ _
   | exact ih1 _ _ _ _ _
   | exact ih2 _ _ _ _ _ _
   | exact ih3 _ _ _ _ _ _ _
   | exact ih4 _ _ _ _ _ _
   | exact ih5 _ _ _ _ _
   | exact LeO.none _
   | refine LeO.ite ?_ ?_
   | refine LeO.bind ?_ (fun _ => ?_)
set_option maxHeartbeats 8000000 in
set_option maxRecDepth 100000 in
theorem spec_l6Sort.calls (k : Nat) (A0 : Option Addr) (c0 : Nat) (l0 : List (List Int)) (a1 : Bool) (r : List (List Int)) (w : World) (hr0 : Kd.C (Kd.slice 3 (Kd.int .i64)) w A0 l0.length l0) (hc0 : l0.length ≤ c0) (h : spec_l6Sort.f k l0 a1 = some r) :
  Calls Try.prog 99 #[.slice A0 l0.length c0, .bool a1] w fun e w' => ∃ v0_ : Value, e = .returned (v0_) ∧ Kd.N (Kd.slice 3 (Kd.int .i64)) 22 w' w.heap.size (fun k_ => (w.heap.size ≤ k_)) v0_ r ∧ Below w.heap.size w w' := by
 have HR0:=zA hr0;have HC0:=zA hc0;clear hr0 hc0;have HB:=zA (Below.refl w.heap.size w)
 have H : (spec_l6Sort.l0 k l0 a1 (([] : List (List Int))) 0) = some r:=h
 clear h;obtain ⟨y246,hy246⟩ : ∃ y_ : List (List Int),y_ = (([] : List (List Int))):=⟨_,rfl⟩
 replace H : (spec_l6Sort.l0 k l0 a1 y246 0) = some r:=by first|(rw [hy246];with_reducible exact H)|(have H2_:=(Option.bind_some _ _).symm.trans H;rw [hy246];with_reducible exact H2_)|(have H2_:=(Option.bind_some _ _).symm.trans H;with_reducible exact H2_)|with_reducible exact H|(rw [hy246];exact H)|exact H
 have Ny246:=zA hy246;clear hy246
 have H':=zA H
 clear H
 go_enter Try.func99,Try.ntmps99
 go_wp2_with (first|((with_reducible refine gate_dst (N:=11) rfl ?_);refine Kd.N_lit (Kd.slice 3 (Kd.int .i64)) _ 22 ?hg (N':=11) ?hd (xs:=([] : List (List Int))) (inner:=[]) (ok:=(fun k_ => (w.heap.size ≤ k_))) (okp:=(fun k_ => (w.heap.size ≤ k_))) ?hr ?hp (fun _ hk => hk) ((show ∀ k_,w.heap.size ≤ k_ → (fun k_ => (w.heap.size ≤ k_)) k_ from fun k_ hk => (Nat.le_trans (zT (zz HB)) hk)) _ (Nat.le_refl _)) (Below.refl _ _) (Nat.le_refl _) (by simp) ?_;(case hd => rfl);(case hg => rfl);(case hr => first|(go_simp;done)|(go_simp;rfl));(case hp => exact (Reps.none _ _));intro v247 w3 ho4 hb hg_ hnew_;clear hg_ hnew_;(first|rw [← Ny246.out] at ho4|(simp only [Int.reduceToNat] at ho4;rw [← Ny246.out] at ho4));have HO248:=zA (Kd.N_lower ho4 (zT (zz HB)));replace HB:=zA (zJb (zz HB) hb);clear hb ho4))
 repeat (go_quiet (first|((with_reducible refine gate_dst (N:=11) rfl ?_);refine Kd.N_lit (Kd.slice 3 (Kd.int .i64)) _ 22 ?hg (N':=11) ?hd (xs:=([] : List (List Int))) (inner:=[]) (ok:=(fun k_ => (w.heap.size ≤ k_))) (okp:=(fun k_ => (w.heap.size ≤ k_))) ?hr ?hp (fun _ hk => hk) ((show ∀ k_,w.heap.size ≤ k_ → (fun k_ => (w.heap.size ≤ k_)) k_ from fun k_ hk => (Nat.le_trans (zT (zz HB)) hk)) _ (Nat.le_refl _)) (Below.refl _ _) (Nat.le_refl _) (by simp) ?_;(case hd => rfl);(case hg => rfl);(case hr => first|(go_simp;done)|(go_simp;rfl));(case hp => exact (Reps.none _ _));intro v247 w3 ho4 hb hg_ hnew_;clear hg_ hnew_;(first|rw [← Ny246.out] at ho4|(simp only [Int.reduceToNat] at ho4;rw [← Ny246.out] at ho4));have HO248:=zA (Kd.N_lower ho4 (zT (zz HB)));replace HB:=zA (zJb (zz HB) hb);clear hb ho4));try go_wp2_with (first|((with_reducible refine gate_dst (N:=11) rfl ?_);refine Kd.N_lit (Kd.slice 3 (Kd.int .i64)) _ 22 ?hg (N':=11) ?hd (xs:=([] : List (List Int))) (inner:=[]) (ok:=(fun k_ => (w.heap.size ≤ k_))) (okp:=(fun k_ => (w.heap.size ≤ k_))) ?hr ?hp (fun _ hk => hk) ((show ∀ k_,w.heap.size ≤ k_ → (fun k_ => (w.heap.size ≤ k_)) k_ from fun k_ hk => (Nat.le_trans (zT (zz HB)) hk)) _ (Nat.le_refl _)) (Below.refl _ _) (Nat.le_refl _) (by simp) ?_;(case hd => rfl);(case hg => rfl);(case hr => first|(go_simp;done)|(go_simp;rfl));(case hp => exact (Reps.none _ _));intro v247 w3 ho4 hb hg_ hnew_;clear hg_ hnew_;(first|rw [← Ny246.out] at ho4|(simp only [Int.reduceToNat] at ho4;rw [← Ny246.out] at ho4));have HO248:=zA (Kd.N_lower ho4 (zT (zz HB)));replace HB:=zA (zJb (zz HB) hb);clear hb ho4)))
 go_loopg [5,6] k (fun kq v5 v6 w' => ∃ (x5_1 : List (List Int)) (x6_1 : Int),v6 = .int .i64 x6_1 ∧ Aside0 (spec_l6Sort.l0 kq l0 a1 x5_1 x6_1 = some r) ∧ Aside0 (kq ≤ k) ∧ Aside0 (Kd.N (Kd.slice 3 (Kd.int .i64)) 22 w' w.heap.size (fun k_ => (w.heap.size ≤ k_)) v5 x5_1) ∧ Aside0 (Below w.heap.size w w'))
 case atStart => exact ⟨(y246),(0),za,H',⟨Nat.le_refl _⟩,⟨by (with_reducible repeat (first|apply Kd.N_alloc|apply Kd.N_drewN|apply Kd.N_drew));exact HO248.out⟩,⟨zz HB⟩⟩
 case round =>
  clear H';(try clear p2);obtain ⟨x5_1,x6_1,rfl,HA,HK1,HO_5,HB⟩:=hrel
  cases gk with
  | zero => exact absurd HA.out (by simp [spec_l6Sort.l0])
  | succ k1 =>
   have H:=HA.out;clear HA;simp only [spec_l6Sort.l0] at H
   by_cases c5 : x6_1 < (l0.length : Int)
   ·
    rw [if_pos c5] at H;have c5b0:=decide_eq_true c5;clear c5;have HC6:=zA H;clear H;obtain ⟨Ao7,co7,eo7⟩:=Kd.N_slice HO_5.out
    subst eo7
    go_upto_block 2 with (fail)
    repeat (go_quiet (fail);go_upto_block 2 with (fail))
    go_cut [7] (fun v7 wc => ∃ (kq : Nat) (x7_5 : Int),v7 = .int .i64 x7_5 ∧ Aside0 (spec_l6Sort.j2 kq l0 a1 x5_1 x6_1 x7_5 = some r) ∧ Aside0 (kq ≤ k1) ∧ Aside0 (Kd.N (Kd.slice 3 (Kd.int .i64)) 22 wc w.heap.size (fun k_ => (w.heap.size ≤ k_)) (.slice Ao7 x5_1.length co7) x5_1) ∧ Aside0 (Below w.heap.size w wc))
    case first =>
     have H:=HC6.out;clear HC6
     have H':=zA H
     clear H
     go_wp2
     repeat (go_quiet (fail);try go_wp2)
     go_loopg [7] k1 (fun kq v7 w' => ∃ (x7_2 : Int),v7 = .int .i64 x7_2 ∧ Aside0 (spec_l6Sort.l1 kq l0 a1 x5_1 x6_1 x7_2 = some r) ∧ Aside0 (kq ≤ k1) ∧ Aside0 (Kd.N (Kd.slice 3 (Kd.int .i64)) 22 w' w.heap.size (fun k_ => (w.heap.size ≤ k_)) (.slice Ao7 x5_1.length co7) x5_1) ∧ Aside0 (Below w.heap.size w w'))
     case atStart => exact ⟨((x5_1.length : Int)),za,H',⟨Nat.le_refl _⟩,⟨by (with_reducible repeat (first|apply Kd.N_alloc|apply Kd.N_drewN|apply Kd.N_drew));exact HO_5.out⟩,⟨zz HB⟩⟩
     case round =>
      clear H';(try clear p2);(try clear c5);(try clear c5b0);(try clear p2);obtain ⟨x7_2,rfl,HA,HK2,HO_5,HB⟩:=hrel
      cases gk with
      | zero => exact absurd HA.out (by simp [spec_l6Sort.l1])
      | succ k2 =>
       have H:=HA.out;clear HA;simp only [spec_l6Sort.l1] at H
       by_cases c8 : x7_2 > 0
       ·
        rw [if_pos c8] at H
        have c8b0 : decide (0 < x7_2) = true:=decide_eq_true c8
        clear c8
        (first|rw [c8b0]|(simp only [i64_w,i32_w];rw [c8b0])|skip)
        by_cases c9 : 0 ≤ x6_1
        ·
         rw [if_pos c9] at H;have c9b0:=decide_eq_true c9;clear c9
         by_cases c10 : x6_1 < (l0.length : Int)
         ·
          rw [if_pos c10] at H;have c10b0:=decide_eq_true c10;clear c10;obtain ⟨ji11,hji11⟩ : ∃ j_ : Int,(wrap64 (x7_2 - 1)) = j_:=⟨_,rfl⟩
          replace H : (if 0 ≤ (ji11) then (if (ji11) < (x5_1.length : Int) then ((spec_l2Less.f k2 (rd_L1 l0 x6_1) (rd_L1 x5_1 (ji11))).bind fun t251 => (if t251 = true then (spec_l6Sort.l1 k2 l0 a1 x5_1 x6_1 ji11) else (spec_l6Sort.j2 k2 l0 a1 x5_1 x6_1 x7_2))) else (none)) else (none)) = some r:=by first|(rw [hji11] at H;exact H)|(simp only [hji11] at H ⊢;exact H)
          have hji11w : (IntKind.i64.wrap (x7_2 - 1)) = ji11:=(i64_w _).trans hji11
          by_cases c12 : 0 ≤ (ji11)
          ·
           rw [if_pos c12] at H;have c12b0:=decide_eq_true c12;clear c12
           by_cases c13 : (ji11) < (x5_1.length : Int)
           ·
            rw [if_pos c13] at H;have c13b0:=decide_eq_true c13;clear c13;replace H:=Option.bind_eq_some_iff.mp H;obtain ⟨t251,A140,H⟩:=H;(try dsimp only at H);have A14:=zA A140;clear A140
            by_cases c15 : t251 = true
            ·
             subst c15
             rw [if_pos rfl] at H
             have H':=zA H
             clear H;have p249 : 0 ≤ (x6_1 : Int):=zXb ze;have q249 : x6_1 < (l0.length : Int):=zXb ze;obtain ⟨ad249,A249_0,c249_0,e249,hx249_0,hl249_0,hi249_0⟩:=at_L1 HR0.out x6_1 p249 q249
             cases e249
             replace hx249_0:=(HB.out.cell (World.block_lt_of_cell? w _ hx249_0)).trans hx249_0;have HR249_0:=zA hi249_0;have HC249_0:=zA hl249_0;clear hi249_0 hl249_0;replace p249:=eq_true p249;replace q249:=eq_true q249;have p250 : 0 ≤ ((ji11) : Int):=zXb ze;have q250 : (ji11) < (x5_1.length : Int):=zXb ze;obtain ⟨ad250,A250_0,c250_0,e250,hx250_0,hl250_0,hi250_0⟩:=at_L1 (Kd.N_reads' HO_5.out).2.2 (ji11) p250 q250
             cases e250
             obtain ⟨ce250,hce250,hMe250,hcc250⟩:=Kd.N_get HO_5.out [] (ji11) p250 (by first|exact q250|exact zXb ze|(have e_:=(Kd.N_reads' HO_5.out).1;omega));obtain ⟨ua250_0,uc250_0,rfl,ul250_0,ge250_0⟩:=Kd.FK_slice_open hMe250;have hv250_0:=hcc250 0 _ rfl;rw [Nat.add_zero,show ((Kd.slice 3 (Kd.int .i64))).sz = 1 from rfl,Nat.mul_one] at hv250_0;replace hv250_0:=Option.some.inj (hv250_0.symm.trans hx250_0)
             injection hv250_0 with hva_ hvn_ hvc_
             rw [hva_] at ge250_0;rw [hvc_] at ul250_0;have HL250_0:=zA (show Kd.V (Kd.int .i64) 3 _ w.heap.size _ _ (rd_L1 x5_1 (ji11)) from Kd.V_mk ul250_0 ge250_0);clear hva_ hvn_ hvc_ ge250_0 ul250_0;clear hcc250 hce250;have HR250_0:=zA hi250_0;have HC250_0:=zA hl250_0;clear hi250_0 hl250_0;replace p250:=eq_true p250;replace q250:=eq_true q250
             go_wp2_with (first|(go_at_call 93;(with_reducible refine (spec_l2Less.calls k2 _ _ (rd_L1 l0 x6_1) _ _ (rd_L1 x5_1 (ji11)) true _ ?side1 ?side2 ?side3 ?side4 A14.out).mono ?_);(case side1 => exact zsd HR249_0 HB);(case side2 => exact HC249_0.out);(case side3 => repeat (first|exact (by repeat (first|(with_reducible exact HR250_0.out)|(with_reducible refine zBb ?_ _)|(with_reducible refine zAb ?_ _)|(with_reducible refine zX ?_)|exact HR250_0.out))|(with_reducible refine zBb ?_ _)|(with_reducible refine zAb ?_ _)|(with_reducible refine zX ?_)));(case side4 => exact HC250_0.out);rintro e w' ⟨rfl,⟨nd,rfl⟩⟩;(try first|exact ⟨rfl,_,World.drewN_drewN _ _ _⟩|exact ⟨rfl,_,Eq.trans (World.drewN_drewN _ _ _) (congrArg (World.drewN _) (Nat.add_assoc _ _ _))⟩)))
             repeat (go_quiet (first|(go_at_call 93;(with_reducible refine (spec_l2Less.calls k2 _ _ (rd_L1 l0 x6_1) _ _ (rd_L1 x5_1 (ji11)) true _ ?side1 ?side2 ?side3 ?side4 A14.out).mono ?_);(case side1 => exact zsd HR249_0 HB);(case side2 => exact HC249_0.out);(case side3 => repeat (first|exact (by repeat (first|(with_reducible exact HR250_0.out)|(with_reducible refine zBb ?_ _)|(with_reducible refine zAb ?_ _)|(with_reducible refine zX ?_)|exact HR250_0.out))|(with_reducible refine zBb ?_ _)|(with_reducible refine zAb ?_ _)|(with_reducible refine zX ?_)));(case side4 => exact HC250_0.out);rintro e w' ⟨rfl,⟨nd,rfl⟩⟩;(try first|exact ⟨rfl,_,World.drewN_drewN _ _ _⟩|exact ⟨rfl,_,Eq.trans (World.drewN_drewN _ _ _) (congrArg (World.drewN _) (Nat.add_assoc _ _ _))⟩)));try go_wp2_with (first|(go_at_call 93;(with_reducible refine (spec_l2Less.calls k2 _ _ (rd_L1 l0 x6_1) _ _ (rd_L1 x5_1 (ji11)) true _ ?side1 ?side2 ?side3 ?side4 A14.out).mono ?_);(case side1 => exact zsd HR249_0 HB);(case side2 => exact HC249_0.out);(case side3 => repeat (first|exact (by repeat (first|(with_reducible exact HR250_0.out)|(with_reducible refine zBb ?_ _)|(with_reducible refine zAb ?_ _)|(with_reducible refine zX ?_)|exact HR250_0.out))|(with_reducible refine zBb ?_ _)|(with_reducible refine zAb ?_ _)|(with_reducible refine zX ?_)));(case side4 => exact HC250_0.out);rintro e w' ⟨rfl,⟨nd,rfl⟩⟩;(try first|exact ⟨rfl,_,World.drewN_drewN _ _ _⟩|exact ⟨rfl,_,Eq.trans (World.drewN_drewN _ _ _) (congrArg (World.drewN _) (Nat.add_assoc _ _ _))⟩))))
             go_roundg k2
             case measure => have:=HK1.out;have:=HK2.out;omega
             case rel => exact ⟨(ji11),(by first|rfl|(simp;done)|(simp only [← hji11] <;> (first|rfl|simp))|(simp [*];done)),H',⟨by have:=HK1.out;have:=HK2.out;omega⟩,⟨by (with_reducible repeat (first|apply Kd.N_alloc|apply Kd.N_drewN|apply Kd.N_drew));exact HO_5.out⟩,⟨zz HB⟩⟩
            ·
             replace c15:=Bool.eq_false_iff.mpr c15
             subst c15
             have H1 : (spec_l6Sort.j2 k2 l0 a1 x5_1 x6_1 x7_2) = some r:=by rw [if_neg (show ¬ (false = true) by decide)] at H;exact H
             clear H;have H:=H1;clear H1
             have H':=zA H
             clear H;have p249 : 0 ≤ (x6_1 : Int):=zXb ze;have q249 : x6_1 < (l0.length : Int):=zXb ze;obtain ⟨ad249,A249_0,c249_0,e249,hx249_0,hl249_0,hi249_0⟩:=at_L1 HR0.out x6_1 p249 q249
             cases e249
             replace hx249_0:=(HB.out.cell (World.block_lt_of_cell? w _ hx249_0)).trans hx249_0;have HR249_0:=zA hi249_0;have HC249_0:=zA hl249_0;clear hi249_0 hl249_0;replace p249:=eq_true p249;replace q249:=eq_true q249;have p250 : 0 ≤ ((ji11) : Int):=zXb ze;have q250 : (ji11) < (x5_1.length : Int):=zXb ze;obtain ⟨ad250,A250_0,c250_0,e250,hx250_0,hl250_0,hi250_0⟩:=at_L1 (Kd.N_reads' HO_5.out).2.2 (ji11) p250 q250
             cases e250
             obtain ⟨ce250,hce250,hMe250,hcc250⟩:=Kd.N_get HO_5.out [] (ji11) p250 (by first|exact q250|exact zXb ze|(have e_:=(Kd.N_reads' HO_5.out).1;omega));obtain ⟨ua250_0,uc250_0,rfl,ul250_0,ge250_0⟩:=Kd.FK_slice_open hMe250;have hv250_0:=hcc250 0 _ rfl;rw [Nat.add_zero,show ((Kd.slice 3 (Kd.int .i64))).sz = 1 from rfl,Nat.mul_one] at hv250_0;replace hv250_0:=Option.some.inj (hv250_0.symm.trans hx250_0)
             injection hv250_0 with hva_ hvn_ hvc_
             rw [hva_] at ge250_0;rw [hvc_] at ul250_0;have HL250_0:=zA (show Kd.V (Kd.int .i64) 3 _ w.heap.size _ _ (rd_L1 x5_1 (ji11)) from Kd.V_mk ul250_0 ge250_0);clear hva_ hvn_ hvc_ ge250_0 ul250_0;clear hcc250 hce250;have HR250_0:=zA hi250_0;have HC250_0:=zA hl250_0;clear hi250_0 hl250_0;replace p250:=eq_true p250;replace q250:=eq_true q250
             go_wp2_with (first|(go_at_call 93;(with_reducible refine (spec_l2Less.calls k2 _ _ (rd_L1 l0 x6_1) _ _ (rd_L1 x5_1 (ji11)) false _ ?side1 ?side2 ?side3 ?side4 A14.out).mono ?_);(case side1 => exact zsd HR249_0 HB);(case side2 => exact HC249_0.out);(case side3 => repeat (first|exact (by repeat (first|(with_reducible exact HR250_0.out)|(with_reducible refine zBb ?_ _)|(with_reducible refine zAb ?_ _)|(with_reducible refine zX ?_)|exact HR250_0.out))|(with_reducible refine zBb ?_ _)|(with_reducible refine zAb ?_ _)|(with_reducible refine zX ?_)));(case side4 => exact HC250_0.out);rintro e w' ⟨rfl,⟨nd,rfl⟩⟩;(try first|exact ⟨rfl,_,World.drewN_drewN _ _ _⟩|exact ⟨rfl,_,Eq.trans (World.drewN_drewN _ _ _) (congrArg (World.drewN _) (Nat.add_assoc _ _ _))⟩)))
             repeat (go_quiet (first|(go_at_call 93;(with_reducible refine (spec_l2Less.calls k2 _ _ (rd_L1 l0 x6_1) _ _ (rd_L1 x5_1 (ji11)) false _ ?side1 ?side2 ?side3 ?side4 A14.out).mono ?_);(case side1 => exact zsd HR249_0 HB);(case side2 => exact HC249_0.out);(case side3 => repeat (first|exact (by repeat (first|(with_reducible exact HR250_0.out)|(with_reducible refine zBb ?_ _)|(with_reducible refine zAb ?_ _)|(with_reducible refine zX ?_)|exact HR250_0.out))|(with_reducible refine zBb ?_ _)|(with_reducible refine zAb ?_ _)|(with_reducible refine zX ?_)));(case side4 => exact HC250_0.out);rintro e w' ⟨rfl,⟨nd,rfl⟩⟩;(try first|exact ⟨rfl,_,World.drewN_drewN _ _ _⟩|exact ⟨rfl,_,Eq.trans (World.drewN_drewN _ _ _) (congrArg (World.drewN _) (Nat.add_assoc _ _ _))⟩)));try go_wp2_with (first|(go_at_call 93;(with_reducible refine (spec_l2Less.calls k2 _ _ (rd_L1 l0 x6_1) _ _ (rd_L1 x5_1 (ji11)) false _ ?side1 ?side2 ?side3 ?side4 A14.out).mono ?_);(case side1 => exact zsd HR249_0 HB);(case side2 => exact HC249_0.out);(case side3 => repeat (first|exact (by repeat (first|(with_reducible exact HR250_0.out)|(with_reducible refine zBb ?_ _)|(with_reducible refine zAb ?_ _)|(with_reducible refine zX ?_)|exact HR250_0.out))|(with_reducible refine zBb ?_ _)|(with_reducible refine zAb ?_ _)|(with_reducible refine zX ?_)));(case side4 => exact HC250_0.out);rintro e w' ⟨rfl,⟨nd,rfl⟩⟩;(try first|exact ⟨rfl,_,World.drewN_drewN _ _ _⟩|exact ⟨rfl,_,Eq.trans (World.drewN_drewN _ _ _) (congrArg (World.drewN _) (Nat.add_assoc _ _ _))⟩))))
             go_meet
             case rel => exact ⟨_,(x7_2),za,H',⟨by have:=HK1.out;have:=HK2.out;first|omega|exact Nat.le_refl _⟩,⟨by (with_reducible repeat (first|apply Kd.N_alloc|apply Kd.N_drewN|apply Kd.N_drew));exact HO_5.out⟩,⟨zz HB⟩⟩
           ·
            rw [if_neg c13] at H
            exact absurd H (by simp)
          ·
           rw [if_neg c12] at H
           exact absurd H (by simp)
         ·
          rw [if_neg c10] at H
          exact absurd H (by simp)
        ·
         rw [if_neg c9] at H
         exact absurd H (by simp)
       ·
        rw [if_neg c8] at H
        have c8b0 : decide (0 < x7_2) = false:=decide_eq_false c8
        clear c8
        (first|rw [c8b0]|(simp only [i64_w,i32_w];rw [c8b0])|skip)
        have H':=zA H
        clear H
        go_wp2
        repeat (go_quiet (fail);try go_wp2)
        go_meet
        case rel => exact ⟨_,(x7_2),za,H',⟨by have:=HK1.out;have:=HK2.out;first|omega|exact Nat.le_refl _⟩,⟨by (with_reducible repeat (first|apply Kd.N_alloc|apply Kd.N_drewN|apply Kd.N_drew));exact HO_5.out⟩,⟨zz HB⟩⟩
    case rest =>
     clear HC6;(try clear c1);(try clear c2);(try clear p2);(try clear q2);(try clear hx2);(try clear c5);(try clear c5b0);(try clear p6);(try clear c8);(try clear c8b0);(try clear c9);(try clear c9b0);(try clear c10);(try clear c10b0);(try clear c12);(try clear c12b0);(try clear c13);(try clear c13b0);(try clear c15);(try clear hx249_0);(try clear hx250_0);(try clear p2);(try clear p249);(try clear p250);(try clear q249);(try clear q250);obtain ⟨kq,x7_5,rfl,HA,HJ5,HO_5,HB⟩:=hcut
     cases kq with
     | zero => exact absurd HA.out (by simp [spec_l6Sort.j2])
     | succ kj5 =>
      have H:=HA.out;clear HA;simp only [spec_l6Sort.j2] at H;have HC16:=zA H;clear H
      go_upto_region 8 with (fail)
      repeat (go_quiet (fail);go_upto_region 8 with (fail))
      go_cut [52] (fun v52 wc => ∃ (kq : Nat) (x52_15 : Bool),v52 = .bool x52_15 ∧ Aside0 (spec_l6Sort.j3 kq l0 a1 x5_1 x6_1 x7_5 x52_15 = some r) ∧ Aside0 (kq ≤ kj5) ∧ Aside0 (Kd.N (Kd.slice 3 (Kd.int .i64)) 22 wc w.heap.size (fun k_ => (w.heap.size ≤ k_)) (.slice Ao7 x5_1.length co7) x5_1) ∧ Aside0 (Below w.heap.size w wc))
      case first =>
       have H:=HC16.out;clear HC16
       by_cases c17 : a1 = true
       ·
        subst c17
        rw [if_pos rfl] at H
        by_cases c18 : x7_5 > 0
        ·
         rw [if_pos c18] at H
         have c18b0 : decide (0 < x7_5) = true:=decide_eq_true c18
         clear c18
         (first|rw [c18b0]|(simp only [i64_w,i32_w];rw [c18b0])|skip)
         obtain ⟨ji19,hji19⟩ : ∃ j_ : Int,(wrap64 (x7_5 - 1)) = j_:=⟨_,rfl⟩
         replace H : (if 0 ≤ (ji19) then (if (ji19) < (x5_1.length : Int) then (if 0 ≤ x6_1 then (if x6_1 < (l0.length : Int) then ((spec_l2Ints.f kj5 (rd_L1 x5_1 (ji19)) (rd_L1 l0 x6_1)).bind fun t254 => (spec_l6Sort.j3 kj5 l0 true x5_1 x6_1 x7_5 t254)) else (none)) else (none)) else (none)) else (none)) = some r:=by first|(rw [hji19] at H;exact H)|(simp only [hji19] at H ⊢;exact H)
         have hji19w : (IntKind.i64.wrap (x7_5 - 1)) = ji19:=(i64_w _).trans hji19
         by_cases c20 : 0 ≤ (ji19)
         ·
          rw [if_pos c20] at H;have c20b0:=decide_eq_true c20;clear c20
          by_cases c21 : (ji19) < (x5_1.length : Int)
          ·
           rw [if_pos c21] at H;have c21b0:=decide_eq_true c21;clear c21
           by_cases c22 : 0 ≤ x6_1
           ·
            rw [if_pos c22] at H;have c22b0:=decide_eq_true c22;clear c22
            by_cases c23 : x6_1 < (l0.length : Int)
            ·
             rw [if_pos c23] at H;have c23b0:=decide_eq_true c23;clear c23;replace H:=Option.bind_eq_some_iff.mp H;obtain ⟨t254,A240,H⟩:=H;(try dsimp only at H);have A24:=zA A240;clear A240
             have H':=zA H
             clear H;have p252 : 0 ≤ ((ji19) : Int):=zXb ze;have q252 : (ji19) < (x5_1.length : Int):=zXb ze;obtain ⟨ad252,A252_0,c252_0,e252,hx252_0,hl252_0,hi252_0⟩:=at_L1 (Kd.N_reads' HO_5.out).2.2 (ji19) p252 q252
             cases e252
             obtain ⟨ce252,hce252,hMe252,hcc252⟩:=Kd.N_get HO_5.out [] (ji19) p252 (by first|exact q252|exact zXb ze|(have e_:=(Kd.N_reads' HO_5.out).1;omega));obtain ⟨ua252_0,uc252_0,rfl,ul252_0,ge252_0⟩:=Kd.FK_slice_open hMe252;have hv252_0:=hcc252 0 _ rfl;rw [Nat.add_zero,show ((Kd.slice 3 (Kd.int .i64))).sz = 1 from rfl,Nat.mul_one] at hv252_0;replace hv252_0:=Option.some.inj (hv252_0.symm.trans hx252_0)
             injection hv252_0 with hva_ hvn_ hvc_
             rw [hva_] at ge252_0;rw [hvc_] at ul252_0;have HL252_0:=zA (show Kd.V (Kd.int .i64) 3 _ w.heap.size _ _ (rd_L1 x5_1 (ji19)) from Kd.V_mk ul252_0 ge252_0);clear hva_ hvn_ hvc_ ge252_0 ul252_0;clear hcc252 hce252;have HR252_0:=zA hi252_0;have HC252_0:=zA hl252_0;clear hi252_0 hl252_0;replace p252:=eq_true p252;replace q252:=eq_true q252;have p253 : 0 ≤ (x6_1 : Int):=zXb ze;have q253 : x6_1 < (l0.length : Int):=zXb ze;obtain ⟨ad253,A253_0,c253_0,e253,hx253_0,hl253_0,hi253_0⟩:=at_L1 HR0.out x6_1 p253 q253
             cases e253
             replace hx253_0:=(HB.out.cell (World.block_lt_of_cell? w _ hx253_0)).trans hx253_0;have HR253_0:=zA hi253_0;have HC253_0:=zA hl253_0;clear hi253_0 hl253_0;replace p253:=eq_true p253;replace q253:=eq_true q253
             go_wp2_with (first|(go_at_call 91;(with_reducible refine (spec_l2Ints.calls kj5 _ _ (rd_L1 x5_1 (ji19)) _ _ (rd_L1 l0 x6_1) t254 _ ?side1 ?side2 ?side3 ?side4 A24.out).mono ?_);(case side1 => repeat (first|exact (by repeat (first|(with_reducible exact HR252_0.out)|(with_reducible refine zBb ?_ _)|(with_reducible refine zAb ?_ _)|(with_reducible refine zX ?_)|exact HR252_0.out))|(with_reducible refine zBb ?_ _)|(with_reducible refine zAb ?_ _)|(with_reducible refine zX ?_)));(case side2 => exact HC252_0.out);(case side3 => exact zsd HR253_0 HB);(case side4 => exact HC253_0.out);rintro e w' ⟨rfl,⟨nd,rfl⟩⟩;(try first|exact ⟨rfl,_,World.drewN_drewN _ _ _⟩|exact ⟨rfl,_,Eq.trans (World.drewN_drewN _ _ _) (congrArg (World.drewN _) (Nat.add_assoc _ _ _))⟩)))
             repeat (go_quiet (first|(go_at_call 91;(with_reducible refine (spec_l2Ints.calls kj5 _ _ (rd_L1 x5_1 (ji19)) _ _ (rd_L1 l0 x6_1) t254 _ ?side1 ?side2 ?side3 ?side4 A24.out).mono ?_);(case side1 => repeat (first|exact (by repeat (first|(with_reducible exact HR252_0.out)|(with_reducible refine zBb ?_ _)|(with_reducible refine zAb ?_ _)|(with_reducible refine zX ?_)|exact HR252_0.out))|(with_reducible refine zBb ?_ _)|(with_reducible refine zAb ?_ _)|(with_reducible refine zX ?_)));(case side2 => exact HC252_0.out);(case side3 => exact zsd HR253_0 HB);(case side4 => exact HC253_0.out);rintro e w' ⟨rfl,⟨nd,rfl⟩⟩;(try first|exact ⟨rfl,_,World.drewN_drewN _ _ _⟩|exact ⟨rfl,_,Eq.trans (World.drewN_drewN _ _ _) (congrArg (World.drewN _) (Nat.add_assoc _ _ _))⟩)));try go_wp2_with (first|(go_at_call 91;(with_reducible refine (spec_l2Ints.calls kj5 _ _ (rd_L1 x5_1 (ji19)) _ _ (rd_L1 l0 x6_1) t254 _ ?side1 ?side2 ?side3 ?side4 A24.out).mono ?_);(case side1 => repeat (first|exact (by repeat (first|(with_reducible exact HR252_0.out)|(with_reducible refine zBb ?_ _)|(with_reducible refine zAb ?_ _)|(with_reducible refine zX ?_)|exact HR252_0.out))|(with_reducible refine zBb ?_ _)|(with_reducible refine zAb ?_ _)|(with_reducible refine zX ?_)));(case side2 => exact HC252_0.out);(case side3 => exact zsd HR253_0 HB);(case side4 => exact HC253_0.out);rintro e w' ⟨rfl,⟨nd,rfl⟩⟩;(try first|exact ⟨rfl,_,World.drewN_drewN _ _ _⟩|exact ⟨rfl,_,Eq.trans (World.drewN_drewN _ _ _) (congrArg (World.drewN _) (Nat.add_assoc _ _ _))⟩))))
             go_meet
             case rel => exact ⟨_,(t254),za,H',⟨by have:=HK1.out;have:=HJ5.out;first|omega|exact Nat.le_refl _⟩,⟨by (with_reducible repeat (first|apply Kd.N_alloc|apply Kd.N_drewN|apply Kd.N_drew));exact HO_5.out⟩,⟨zz HB⟩⟩
            ·
             rw [if_neg c23] at H
             exact absurd H (by simp)
           ·
            rw [if_neg c22] at H
            exact absurd H (by simp)
          ·
           rw [if_neg c21] at H
           exact absurd H (by simp)
         ·
          rw [if_neg c20] at H
          exact absurd H (by simp)
        ·
         rw [if_neg c18] at H
         have c18b0 : decide (0 < x7_5) = false:=decide_eq_false c18
         clear c18
         (first|rw [c18b0]|(simp only [i64_w,i32_w];rw [c18b0])|skip)
         have H':=zA H
         clear H
         go_wp2
         repeat (go_quiet (fail);try go_wp2)
         go_meet
         case rel => exact ⟨_,(false),za,H',⟨by have:=HK1.out;have:=HJ5.out;first|omega|exact Nat.le_refl _⟩,⟨by (with_reducible repeat (first|apply Kd.N_alloc|apply Kd.N_drewN|apply Kd.N_drew));exact HO_5.out⟩,⟨zz HB⟩⟩
       ·
        replace c17:=Bool.eq_false_iff.mpr c17
        subst c17
        have H1 : (spec_l6Sort.j3 kj5 l0 false x5_1 x6_1 x7_5 false) = some r:=by rw [if_neg (show ¬ (false = true) by decide)] at H;exact H
        clear H;have H:=H1;clear H1
        have H':=zA H
        clear H
        go_wp2
        repeat (go_quiet (fail);try go_wp2)
        go_meet
        case rel => exact ⟨_,(false),za,H',⟨by have:=HK1.out;have:=HJ5.out;first|omega|exact Nat.le_refl _⟩,⟨by (with_reducible repeat (first|apply Kd.N_alloc|apply Kd.N_drewN|apply Kd.N_drew));exact HO_5.out⟩,⟨zz HB⟩⟩
      case rest =>
       clear HC16;(try clear c1);(try clear c2);(try clear p2);(try clear q2);(try clear hx2);(try clear c5);(try clear c5b0);(try clear p6);(try clear c8);(try clear c8b0);(try clear c9);(try clear c9b0);(try clear c10);(try clear c10b0);(try clear c12);(try clear c12b0);(try clear c13);(try clear c13b0);(try clear c15);(try clear c17);(try clear c18);(try clear c18b0);(try clear c20);(try clear c20b0);(try clear c21);(try clear c21b0);(try clear c22);(try clear c22b0);(try clear c23);(try clear c23b0);(try clear c24);(try clear p24);(try clear q24);(try clear hx24);(try clear hx249_0);(try clear hx250_0);(try clear hx252_0);(try clear hx253_0);(try clear p2);(try clear p249);(try clear p250);(try clear p252);(try clear p253);(try clear p6);(try clear q2);(try clear q249);(try clear q250);(try clear q252);(try clear q253);obtain ⟨kq,x52_15,rfl,HA,HJ15,HO_5,HB⟩:=hcut
       cases kq with
       | zero => exact absurd HA.out (by simp [spec_l6Sort.j3])
       | succ kj15 =>
        have H:=HA.out;clear HA;simp only [spec_l6Sort.j3] at H
        by_cases c25 : x52_15 = true
        ·
         subst c25
         rw [if_pos rfl] at H
         have H':=zA H
         clear H
         go_wp2
         repeat (go_quiet (fail);try go_wp2)
         go_roundg kj15
         case measure => have:=HK1.out;have:=HJ5.out;have:=HJ15.out;omega
         case rel => exact ⟨(x5_1),(wrap64 (x6_1 + 1)),za,H',⟨by have:=HK1.out;have:=HJ5.out;have:=HJ15.out;omega⟩,⟨by (with_reducible repeat (first|apply Kd.N_alloc|apply Kd.N_drewN|apply Kd.N_drew));exact HO_5.out⟩,⟨zz HB⟩⟩
        ·
         replace c25:=Bool.eq_false_iff.mpr c25
         subst c25
         have H1 : (spec_l6Sort.l2 kj15 l0 a1 x5_1 x6_1 x7_5 (([] : List (List Int))) 0) = some r:=by rw [if_neg (show ¬ (false = true) by decide)] at H;exact H
         clear H;have H:=H1;clear H1;obtain ⟨y255,hy255⟩ : ∃ y_ : List (List Int),y_ = (([] : List (List Int))):=⟨_,rfl⟩
         replace H : (spec_l6Sort.l2 kj15 l0 a1 x5_1 x6_1 x7_5 y255 0) = some r:=by first|(rw [hy255];with_reducible exact H)|(have H2_:=(Option.bind_some _ _).symm.trans H;rw [hy255];with_reducible exact H2_)|(have H2_:=(Option.bind_some _ _).symm.trans H;with_reducible exact H2_)|with_reducible exact H|(rw [hy255];exact H)|exact H
         have Ny255:=zA hy255;clear hy255
         have H':=zA H
         clear H
         go_wp2_with (first|((with_reducible refine gate_dst (N:=53) rfl ?_);refine Kd.N_lit (Kd.slice 3 (Kd.int .i64)) _ 22 ?hg (N':=53) ?hd (xs:=([] : List (List Int))) (inner:=[]) (ok:=(fun k_ => (w.heap.size ≤ k_) ∧ some k_ ≠ (.slice Ao7 x5_1.length co7 : Value).ownBlock)) (okp:=(fun k_ => (w.heap.size ≤ k_) ∧ some k_ ≠ (.slice Ao7 x5_1.length co7 : Value).ownBlock)) ?hr ?hp (fun _ hk => hk) ((show ∀ k_,wc.heap.size ≤ k_ → (fun k_ => (w.heap.size ≤ k_) ∧ some k_ ≠ (.slice Ao7 x5_1.length co7 : Value).ownBlock) k_ from fun k_ hk => ⟨(Nat.le_trans (zT (zz HB)) hk),Kd.fresh' (Kd.N_lt (by (with_reducible repeat (first|apply Kd.N_alloc|apply Kd.N_drewN|apply Kd.N_drew));exact HO_5.out)) k_ hk⟩) _ (Nat.le_refl _)) (Below.refl _ _) (Nat.le_refl _) (by simp) ?_;(case hd => rfl);(case hg => rfl);(case hr => first|(go_simp;done)|(go_simp;rfl));(case hp => exact (Reps.none _ _));intro v256 w26 ho27 hb hg_ hnew_;clear hg_ hnew_;(first|rw [← Ny255.out] at ho27|(simp only [Int.reduceToNat] at ho27;rw [← Ny255.out] at ho27));replace HO_5:=zA (Kd.N_elder' (by (with_reducible repeat (first|apply Kd.N_alloc|apply Kd.N_drewN|apply Kd.N_drew));exact HO_5.out) (Kd.N_base ho27) hb);have HO257:=zA (Kd.N_lower ho27 (zT (zz HB)));replace HB:=zA (zJb (zz HB) hb);clear hb ho27))
         repeat (go_quiet (first|((with_reducible refine gate_dst (N:=53) rfl ?_);refine Kd.N_lit (Kd.slice 3 (Kd.int .i64)) _ 22 ?hg (N':=53) ?hd (xs:=([] : List (List Int))) (inner:=[]) (ok:=(fun k_ => (w.heap.size ≤ k_) ∧ some k_ ≠ (.slice Ao7 x5_1.length co7 : Value).ownBlock)) (okp:=(fun k_ => (w.heap.size ≤ k_) ∧ some k_ ≠ (.slice Ao7 x5_1.length co7 : Value).ownBlock)) ?hr ?hp (fun _ hk => hk) ((show ∀ k_,wc.heap.size ≤ k_ → (fun k_ => (w.heap.size ≤ k_) ∧ some k_ ≠ (.slice Ao7 x5_1.length co7 : Value).ownBlock) k_ from fun k_ hk => ⟨(Nat.le_trans (zT (zz HB)) hk),Kd.fresh' (Kd.N_lt (by (with_reducible repeat (first|apply Kd.N_alloc|apply Kd.N_drewN|apply Kd.N_drew));exact HO_5.out)) k_ hk⟩) _ (Nat.le_refl _)) (Below.refl _ _) (Nat.le_refl _) (by simp) ?_;(case hd => rfl);(case hg => rfl);(case hr => first|(go_simp;done)|(go_simp;rfl));(case hp => exact (Reps.none _ _));intro v256 w26 ho27 hb hg_ hnew_;clear hg_ hnew_;(first|rw [← Ny255.out] at ho27|(simp only [Int.reduceToNat] at ho27;rw [← Ny255.out] at ho27));replace HO_5:=zA (Kd.N_elder' (by (with_reducible repeat (first|apply Kd.N_alloc|apply Kd.N_drewN|apply Kd.N_drew));exact HO_5.out) (Kd.N_base ho27) hb);have HO257:=zA (Kd.N_lower ho27 (zT (zz HB)));replace HB:=zA (zJb (zz HB) hb);clear hb ho27));try go_wp2_with (first|((with_reducible refine gate_dst (N:=53) rfl ?_);refine Kd.N_lit (Kd.slice 3 (Kd.int .i64)) _ 22 ?hg (N':=53) ?hd (xs:=([] : List (List Int))) (inner:=[]) (ok:=(fun k_ => (w.heap.size ≤ k_) ∧ some k_ ≠ (.slice Ao7 x5_1.length co7 : Value).ownBlock)) (okp:=(fun k_ => (w.heap.size ≤ k_) ∧ some k_ ≠ (.slice Ao7 x5_1.length co7 : Value).ownBlock)) ?hr ?hp (fun _ hk => hk) ((show ∀ k_,wc.heap.size ≤ k_ → (fun k_ => (w.heap.size ≤ k_) ∧ some k_ ≠ (.slice Ao7 x5_1.length co7 : Value).ownBlock) k_ from fun k_ hk => ⟨(Nat.le_trans (zT (zz HB)) hk),Kd.fresh' (Kd.N_lt (by (with_reducible repeat (first|apply Kd.N_alloc|apply Kd.N_drewN|apply Kd.N_drew));exact HO_5.out)) k_ hk⟩) _ (Nat.le_refl _)) (Below.refl _ _) (Nat.le_refl _) (by simp) ?_;(case hd => rfl);(case hg => rfl);(case hr => first|(go_simp;done)|(go_simp;rfl));(case hp => exact (Reps.none _ _));intro v256 w26 ho27 hb hg_ hnew_;clear hg_ hnew_;(first|rw [← Ny255.out] at ho27|(simp only [Int.reduceToNat] at ho27;rw [← Ny255.out] at ho27));replace HO_5:=zA (Kd.N_elder' (by (with_reducible repeat (first|apply Kd.N_alloc|apply Kd.N_drewN|apply Kd.N_drew));exact HO_5.out) (Kd.N_base ho27) hb);have HO257:=zA (Kd.N_lower ho27 (zT (zz HB)));replace HB:=zA (zJb (zz HB) hb);clear hb ho27)))
         go_loopg [8,9] kj15 (fun kq v8 v9 w' => ∃ (x8_4 : List (List Int)) (x9_4 : Int),v9 = .int .i64 x9_4 ∧ Aside0 (spec_l6Sort.l2 kq l0 a1 x5_1 x6_1 x7_5 x8_4 x9_4 = some r) ∧ Aside0 (kq ≤ kj15) ∧ Aside0 (Kd.N (Kd.slice 3 (Kd.int .i64)) 22 w' w.heap.size (fun k_ => (w.heap.size ≤ k_) ∧ some k_ ≠ (v8 : Value).ownBlock) (.slice Ao7 x5_1.length co7) x5_1) ∧ Aside0 (Kd.N (Kd.slice 3 (Kd.int .i64)) 22 w' w.heap.size (fun k_ => (w.heap.size ≤ k_) ∧ some k_ ≠ ((.slice Ao7 x5_1.length co7) : Value).ownBlock) v8 x8_4) ∧ Aside0 (Below w.heap.size w w'))
         case atStart => exact ⟨(y255),(0),za,H',⟨Nat.le_refl _⟩,⟨by (with_reducible repeat (first|apply Kd.N_alloc|apply Kd.N_drewN|apply Kd.N_drew));exact HO_5.out⟩,⟨by (with_reducible repeat (first|apply Kd.N_alloc|apply Kd.N_drewN|apply Kd.N_drew));exact HO257.out⟩,⟨zz HB⟩⟩
         case round =>
          clear H';(try clear c1);(try clear c2);(try clear p2);(try clear q2);(try clear hx2);(try clear c5);(try clear c5b0);(try clear p6);(try clear c8);(try clear c8b0);(try clear c9);(try clear c9b0);(try clear c10);(try clear c10b0);(try clear c12);(try clear c12b0);(try clear c13);(try clear c13b0);(try clear c15);(try clear c17);(try clear c18);(try clear c18b0);(try clear c20);(try clear c20b0);(try clear c21);(try clear c21b0);(try clear c22);(try clear c22b0);(try clear c23);(try clear c23b0);(try clear c24);(try clear p24);(try clear q24);(try clear hx24);(try clear c25);(try clear p25);(try clear q25);(try clear hx25);(try clear hx249_0);(try clear hx250_0);(try clear hx252_0);(try clear hx253_0);(try clear p2);(try clear p24);(try clear p249);(try clear p250);(try clear p252);(try clear p253);(try clear p6);(try clear q2);(try clear q24);(try clear q249);(try clear q250);(try clear q252);(try clear q253);obtain ⟨x8_4,x9_4,rfl,HA,HK4,HO_5,HO_8,HB⟩:=hrel
          cases gk with
          | zero => exact absurd HA.out (by simp [spec_l6Sort.l2])
          | succ k4 =>
           have H:=HA.out;clear HA;simp only [spec_l6Sort.l2] at H
           by_cases c28 : x9_4 < x7_5
           ·
            rw [if_pos c28] at H;have c28b0:=decide_eq_true c28;clear c28
            by_cases c29 : 0 ≤ x9_4
            ·
             rw [if_pos c29] at H;have c29b0:=decide_eq_true c29;clear c29
             by_cases c30 : x9_4 < (x5_1.length : Int)
             ·
              rw [if_pos c30] at H;have c30b0:=decide_eq_true c30;clear c30
              by_cases c31 : x8_4.length < 5864062014805
              ·
               rw [if_pos c31] at H;have LMc31:=zA c31;clear c31;obtain ⟨y259,hy259⟩ : ∃ y_ : List (List Int),y_ = (x8_4 ++ [rd_L1 x5_1 x9_4]):=⟨_,rfl⟩
               replace H : (spec_l6Sort.l2 k4 l0 a1 x5_1 x6_1 x7_5 y259 (wrap64 (x9_4 + 1))) = some r:=by first|(rw [hy259];with_reducible exact H)|(have H2_:=(Option.bind_some _ _).symm.trans H;rw [hy259];with_reducible exact H2_)|(have H2_:=(Option.bind_some _ _).symm.trans H;with_reducible exact H2_)|with_reducible exact H|(rw [hy259];exact H)|exact H
               have Ny259:=zA hy259;clear hy259
               have H':=zA H
               clear H;have p258 : 0 ≤ (x9_4 : Int):=zXb ze;have q258 : x9_4 < (x5_1.length : Int):=zXb ze;obtain ⟨ad258,A258_0,c258_0,e258,hx258_0,hl258_0,hi258_0⟩:=at_L1 (Kd.N_reads' HO_5.out).2.2 x9_4 p258 q258
               cases e258
               obtain ⟨ce258,hce258,hMe258,hcc258⟩:=Kd.N_get HO_5.out [] x9_4 p258 (by first|exact q258|exact zXb ze|(have e_:=(Kd.N_reads' HO_5.out).1;omega));obtain ⟨ua258_0,uc258_0,rfl,ul258_0,ge258_0⟩:=Kd.FK_slice_open hMe258;have hv258_0:=hcc258 0 _ rfl;rw [Nat.add_zero,show ((Kd.slice 3 (Kd.int .i64))).sz = 1 from rfl,Nat.mul_one] at hv258_0;replace hv258_0:=Option.some.inj (hv258_0.symm.trans hx258_0)
               injection hv258_0 with hva_ hvn_ hvc_
               rw [hva_] at ge258_0;rw [hvc_] at ul258_0;have HL258_0:=zA (show Kd.V (Kd.int .i64) 3 _ w.heap.size _ _ (rd_L1 x5_1 x9_4) from Kd.V_mk ul258_0 ge258_0);clear hva_ hvn_ hvc_ ge258_0 ul258_0;clear hcc258 hce258;have HR258_0:=zA hi258_0;have HC258_0:=zA hl258_0;clear hi258_0 hl258_0;replace p258:=eq_true p258;replace q258:=eq_true q258
               go_wp2_with (first|((with_reducible refine gate_builtin (b:=.append) (xs:=#[.tmp 59,.tmp 64]) rfl ?_);at_builtin;refine Kd.N_append (Kd.slice 3 (Kd.int .i64)) (w0:=w) w.heap.size rfl (.tmp 59) (.tmp 64) 57 22 (.slice none 0 0) 24 rfl Try.underlying57 info22 rfl (by decide) (by omega) u8 x8_4 (rd_L1 x5_1 x9_4) [.slice A258_0 (rd_L1 x5_1 x9_4).length c258_0] (fun k_ => (w.heap.size ≤ k_) ∧ some k_ ≠ (.slice (some ad258) x5_1.length co7 : Value).ownBlock) (fun k_ => ((fun k_ => (w.heap.size ≤ k_) ∧ some k_ ≠ (.slice (some ad258) x5_1.length co7 : Value).ownBlock)) k_ ∧ some k_ ≠ (u8 : Value).ownBlock) rfl rfl ?aP (fun _ hk => hk) ?aF ?aO ?aB ?aS ?aL ?_;(case aP => exact (Kd.FK_slice_mk (Kd.V_reads' (Kd.V_mono (ok':=(fun k_ => ((fun k_ => (w.heap.size ≤ k_) ∧ some k_ ≠ (.slice (some ad258) x5_1.length co7 : Value).ownBlock)) k_ ∧ some k_ ≠ (u8 : Value).ownBlock)) (HL258_0.out) (fun k_ hk => ⟨⟨hk.1.1,hk.2⟩,hk.1.2⟩))).2.1 (Kd.V_F (Kd.V_mono (ok':=(fun k_ => ((fun k_ => (w.heap.size ≤ k_) ∧ some k_ ≠ (.slice (some ad258) x5_1.length co7 : Value).ownBlock)) k_ ∧ some k_ ≠ (u8 : Value).ownBlock)) (HL258_0.out) (fun k_ hk => ⟨⟨hk.1.1,hk.2⟩,hk.1.2⟩)))));(case aB => exact (zz HB));(case aF => exact (fun k_ hk => ⟨(Nat.le_trans (zT (zz HB)) hk),Kd.fresh' (Kd.N_lt (by (with_reducible repeat (first|apply Kd.N_alloc|apply Kd.N_drewN|apply Kd.N_drew));exact HO_5.out)) k_ hk⟩));(case aO => exact (by (with_reducible repeat (first|apply Kd.N_alloc|apply Kd.N_drewN|apply Kd.N_drew));exact HO_8.out));(case aS => exact (zT (zz HB)));(case aL => have:=LMc31.out;omega);intro v260 w32 ho hb hg hat;rw [← Ny259.out] at ho;replace HO_5:=zA (Kd.N_afterv (ok:=(fun k_ => (w.heap.size ≤ k_))) (by (with_reducible repeat (first|apply Kd.N_alloc|apply Kd.N_drewN|apply Kd.N_drew));exact HO_5.out) hg hat);replace HL258_0:=zA (Kd.V_afterv (ok:=(fun k_ => (w.heap.size ≤ k_) ∧ some k_ ≠ (.slice (some ad258) x5_1.length co7 : Value).ownBlock)) (by (with_reducible repeat (first|apply Kd.V_alloc|apply Kd.V_drewN|apply Kd.V_drew));exact Kd.V_mono HL258_0.out (fun _ hk => ⟨⟨hk.1.1,hk.2⟩,hk.1.2⟩)) hg hat);replace HB:=zA (hb);have HO261:=zA (ho);clear HO_8;clear ho hb hg hat))
               repeat (go_quiet (first|((with_reducible refine gate_builtin (b:=.append) (xs:=#[.tmp 59,.tmp 64]) rfl ?_);at_builtin;refine Kd.N_append (Kd.slice 3 (Kd.int .i64)) (w0:=w) w.heap.size rfl (.tmp 59) (.tmp 64) 57 22 (.slice none 0 0) 24 rfl Try.underlying57 info22 rfl (by decide) (by omega) u8 x8_4 (rd_L1 x5_1 x9_4) [.slice A258_0 (rd_L1 x5_1 x9_4).length c258_0] (fun k_ => (w.heap.size ≤ k_) ∧ some k_ ≠ (.slice (some ad258) x5_1.length co7 : Value).ownBlock) (fun k_ => ((fun k_ => (w.heap.size ≤ k_) ∧ some k_ ≠ (.slice (some ad258) x5_1.length co7 : Value).ownBlock)) k_ ∧ some k_ ≠ (u8 : Value).ownBlock) rfl rfl ?aP (fun _ hk => hk) ?aF ?aO ?aB ?aS ?aL ?_;(case aP => exact (Kd.FK_slice_mk (Kd.V_reads' (Kd.V_mono (ok':=(fun k_ => ((fun k_ => (w.heap.size ≤ k_) ∧ some k_ ≠ (.slice (some ad258) x5_1.length co7 : Value).ownBlock)) k_ ∧ some k_ ≠ (u8 : Value).ownBlock)) (HL258_0.out) (fun k_ hk => ⟨⟨hk.1.1,hk.2⟩,hk.1.2⟩))).2.1 (Kd.V_F (Kd.V_mono (ok':=(fun k_ => ((fun k_ => (w.heap.size ≤ k_) ∧ some k_ ≠ (.slice (some ad258) x5_1.length co7 : Value).ownBlock)) k_ ∧ some k_ ≠ (u8 : Value).ownBlock)) (HL258_0.out) (fun k_ hk => ⟨⟨hk.1.1,hk.2⟩,hk.1.2⟩)))));(case aB => exact (zz HB));(case aF => exact (fun k_ hk => ⟨(Nat.le_trans (zT (zz HB)) hk),Kd.fresh' (Kd.N_lt (by (with_reducible repeat (first|apply Kd.N_alloc|apply Kd.N_drewN|apply Kd.N_drew));exact HO_5.out)) k_ hk⟩));(case aO => exact (by (with_reducible repeat (first|apply Kd.N_alloc|apply Kd.N_drewN|apply Kd.N_drew));exact HO_8.out));(case aS => exact (zT (zz HB)));(case aL => have:=LMc31.out;omega);intro v260 w32 ho hb hg hat;rw [← Ny259.out] at ho;replace HO_5:=zA (Kd.N_afterv (ok:=(fun k_ => (w.heap.size ≤ k_))) (by (with_reducible repeat (first|apply Kd.N_alloc|apply Kd.N_drewN|apply Kd.N_drew));exact HO_5.out) hg hat);replace HL258_0:=zA (Kd.V_afterv (ok:=(fun k_ => (w.heap.size ≤ k_) ∧ some k_ ≠ (.slice (some ad258) x5_1.length co7 : Value).ownBlock)) (by (with_reducible repeat (first|apply Kd.V_alloc|apply Kd.V_drewN|apply Kd.V_drew));exact Kd.V_mono HL258_0.out (fun _ hk => ⟨⟨hk.1.1,hk.2⟩,hk.1.2⟩)) hg hat);replace HB:=zA (hb);have HO261:=zA (ho);clear HO_8;clear ho hb hg hat));try go_wp2_with (first|((with_reducible refine gate_builtin (b:=.append) (xs:=#[.tmp 59,.tmp 64]) rfl ?_);at_builtin;refine Kd.N_append (Kd.slice 3 (Kd.int .i64)) (w0:=w) w.heap.size rfl (.tmp 59) (.tmp 64) 57 22 (.slice none 0 0) 24 rfl Try.underlying57 info22 rfl (by decide) (by omega) u8 x8_4 (rd_L1 x5_1 x9_4) [.slice A258_0 (rd_L1 x5_1 x9_4).length c258_0] (fun k_ => (w.heap.size ≤ k_) ∧ some k_ ≠ (.slice (some ad258) x5_1.length co7 : Value).ownBlock) (fun k_ => ((fun k_ => (w.heap.size ≤ k_) ∧ some k_ ≠ (.slice (some ad258) x5_1.length co7 : Value).ownBlock)) k_ ∧ some k_ ≠ (u8 : Value).ownBlock) rfl rfl ?aP (fun _ hk => hk) ?aF ?aO ?aB ?aS ?aL ?_;(case aP => exact (Kd.FK_slice_mk (Kd.V_reads' (Kd.V_mono (ok':=(fun k_ => ((fun k_ => (w.heap.size ≤ k_) ∧ some k_ ≠ (.slice (some ad258) x5_1.length co7 : Value).ownBlock)) k_ ∧ some k_ ≠ (u8 : Value).ownBlock)) (HL258_0.out) (fun k_ hk => ⟨⟨hk.1.1,hk.2⟩,hk.1.2⟩))).2.1 (Kd.V_F (Kd.V_mono (ok':=(fun k_ => ((fun k_ => (w.heap.size ≤ k_) ∧ some k_ ≠ (.slice (some ad258) x5_1.length co7 : Value).ownBlock)) k_ ∧ some k_ ≠ (u8 : Value).ownBlock)) (HL258_0.out) (fun k_ hk => ⟨⟨hk.1.1,hk.2⟩,hk.1.2⟩)))));(case aB => exact (zz HB));(case aF => exact (fun k_ hk => ⟨(Nat.le_trans (zT (zz HB)) hk),Kd.fresh' (Kd.N_lt (by (with_reducible repeat (first|apply Kd.N_alloc|apply Kd.N_drewN|apply Kd.N_drew));exact HO_5.out)) k_ hk⟩));(case aO => exact (by (with_reducible repeat (first|apply Kd.N_alloc|apply Kd.N_drewN|apply Kd.N_drew));exact HO_8.out));(case aS => exact (zT (zz HB)));(case aL => have:=LMc31.out;omega);intro v260 w32 ho hb hg hat;rw [← Ny259.out] at ho;replace HO_5:=zA (Kd.N_afterv (ok:=(fun k_ => (w.heap.size ≤ k_))) (by (with_reducible repeat (first|apply Kd.N_alloc|apply Kd.N_drewN|apply Kd.N_drew));exact HO_5.out) hg hat);replace HL258_0:=zA (Kd.V_afterv (ok:=(fun k_ => (w.heap.size ≤ k_) ∧ some k_ ≠ (.slice (some ad258) x5_1.length co7 : Value).ownBlock)) (by (with_reducible repeat (first|apply Kd.V_alloc|apply Kd.V_drewN|apply Kd.V_drew));exact Kd.V_mono HL258_0.out (fun _ hk => ⟨⟨hk.1.1,hk.2⟩,hk.1.2⟩)) hg hat);replace HB:=zA (hb);have HO261:=zA (ho);clear HO_8;clear ho hb hg hat)))
               go_roundg k4
               case measure => have:=HK1.out;have:=HJ5.out;have:=HJ15.out;have:=HK4.out;omega
               case rel => exact ⟨(y259),(wrap64 (x9_4 + 1)),za,H',⟨by have:=HK1.out;have:=HJ5.out;have:=HJ15.out;have:=HK4.out;omega⟩,⟨by (with_reducible repeat (first|apply Kd.N_alloc|apply Kd.N_drewN|apply Kd.N_drew));exact HO_5.out⟩,⟨by (with_reducible repeat (first|apply Kd.N_alloc|apply Kd.N_drewN|apply Kd.N_drew));exact HO261.out⟩,⟨zz HB⟩⟩
              ·
               rw [if_neg c31] at H
               exact absurd H (by simp)
             ·
              rw [if_neg c30] at H
              exact absurd H (by simp)
            ·
             rw [if_neg c29] at H
             exact absurd H (by simp)
           ·
            rw [if_neg c28] at H;have c28b0:=decide_eq_false c28;clear c28;obtain ⟨y262,hy262⟩ : ∃ y_ : List Int,y_ = (([] : List Int)):=⟨_,rfl⟩
            replace H : (if 0 ≤ x6_1 then (if x6_1 < (l0.length : Int) then (if y262.length + (rd_L1 l0 x6_1).length < 17592186044416 then (if x8_4.length < 5864062014805 then (spec_l6Sort.l3 k4 l0 a1 x5_1 x6_1 (x8_4 ++ [(y262 ++ (rd_L1 l0 x6_1))]) x7_5) else (none)) else (none)) else (none)) else (none)) = some r:=by first|(rw [hy262];with_reducible exact H)|(have H2_:=(Option.bind_some _ _).symm.trans H;rw [hy262];with_reducible exact H2_)|(have H2_:=(Option.bind_some _ _).symm.trans H;with_reducible exact H2_)|with_reducible exact H|(rw [hy262];exact H)|exact H
            have Ny262:=zA hy262;clear hy262
            by_cases c33 : 0 ≤ x6_1
            ·
             rw [if_pos c33] at H;have c33b0:=decide_eq_true c33;clear c33
             by_cases c34 : x6_1 < (l0.length : Int)
             ·
              rw [if_pos c34] at H;have c34b0:=decide_eq_true c34;clear c34
              by_cases c35 : y262.length + (rd_L1 l0 x6_1).length < 17592186044416
              ·
               rw [if_pos c35] at H;have LMc35:=zA c35;clear c35;obtain ⟨y266,hy266⟩ : ∃ y_ : List Int,y_ = (y262 ++ (rd_L1 l0 x6_1)):=⟨_,rfl⟩
               replace H : (if x8_4.length < 5864062014805 then (spec_l6Sort.l3 k4 l0 a1 x5_1 x6_1 (x8_4 ++ [y266]) x7_5) else (none)) = some r:=by first|(rw [hy266];with_reducible exact H)|(have H2_:=(Option.bind_some _ _).symm.trans H;rw [hy266];with_reducible exact H2_)|(have H2_:=(Option.bind_some _ _).symm.trans H;with_reducible exact H2_)|with_reducible exact H|(rw [hy266];exact H)|exact H
               have Ny266:=zA hy266;clear hy266
               by_cases c36 : x8_4.length < 5864062014805
               ·
                rw [if_pos c36] at H;have LMc36:=zA c36;clear c36;obtain ⟨y269,hy269⟩ : ∃ y_ : List (List Int),y_ = (x8_4 ++ [y266]):=⟨_,rfl⟩
                replace H : (spec_l6Sort.l3 k4 l0 a1 x5_1 x6_1 y269 x7_5) = some r:=by first|(rw [hy269];with_reducible exact H)|(have H2_:=(Option.bind_some _ _).symm.trans H;rw [hy269];with_reducible exact H2_)|(have H2_:=(Option.bind_some _ _).symm.trans H;with_reducible exact H2_)|with_reducible exact H|(rw [hy269];exact H)|exact H
                have Ny269:=zA hy269;clear hy269
                have H':=zA H
                clear H
                go_wp2_with (first|((with_reducible refine gate_dst (N:=67) rfl ?_);refine Kd.R_lit (Kd.int .i64) _ 3 ?hg (N:=67) ?hd (xs:=([] : List Int)) (inner:=[]) (ok:=fun _ => True) (okp:=fun _ => True) ?hr ?hp (fun _ hk => hk) trivial (Below.refl _ _) (Nat.le_refl _) (by simp) ?_;(case hd => rfl);(case hg => rfl);(case hr => first|(go_simp;done)|(go_simp;rfl));(case hp => exact (Reps.none _ _));intro v263 w37 ho38 hb hg_ hnew_;clear hg_ hnew_;(first|rw [← Ny262.out] at ho38|(simp only [Int.reduceToNat] at ho38;rw [← Ny262.out] at ho38));replace HO_5:=zA (Kd.N_elder' (by (with_reducible repeat (first|apply Kd.N_alloc|apply Kd.N_drewN|apply Kd.N_drew));exact HO_5.out) (zW ho38) hb);replace HO_8:=zA (Kd.N_elder' (by (with_reducible repeat (first|apply Kd.N_alloc|apply Kd.N_drewN|apply Kd.N_drew));exact HO_8.out) (zW ho38) hb);have HO264:=zA (zHb (Kd.R_newM (M:=fun k_ => (w.heap.size ≤ k_)) ho38 (zT (zz HB)) (fun k_ h_ => h_)) (zT (zz HB)));replace HB:=zA (zJb (zz HB) hb);clear hb ho38;have p265 : 0 ≤ (x6_1 : Int):=zXb ze;have q265 : x6_1 < (l0.length : Int):=zXb ze;obtain ⟨ad265,A265_0,c265_0,e265,hx265_0,hl265_0,hi265_0⟩:=at_L1 HR0.out x6_1 p265 q265;cases e265;replace hx265_0:=(HB.out.cell (World.block_lt_of_cell? w _ hx265_0)).trans hx265_0;have HR265_0:=zA hi265_0;have HC265_0:=zA hl265_0;clear hi265_0 hl265_0;replace p265:=eq_true p265;replace q265:=eq_true q265)|((with_reducible refine gate_builtin (b:=.append) (xs:=#[.tmp 67,.tmp 71]) rfl ?_);at_builtin;refine Kd.R_append_rows (Kd.int .i64) (w0:=w) w.heap.size rfl (.tmp 67) (.tmp 71) 22 3 (.int .i64 0) 8 rfl Try.underlying22 info3 rfl (by decide) (by omega) v263 y262 (rd_L1 l0 x6_1) _ _ _ (fun k_ => (w.heap.size ≤ k_)) (fun _ => False) rfl rfl ?aO ?aR (fun _ _ h => h) (fun _ h => h.elim) ?aF ?aB ?aS ?aL ?_;(case aR => exact zsd HR265_0 HB);(case aB => exact (zz HB));(case aF => exact (fun k_ hk => (Nat.le_trans (zT (zz HB)) hk)));(case aO => exact (by (with_reducible repeat (first|apply zE|apply zD|apply zH));exact zGb HO264.out (fun _ hk => hk.1)));(case aS => exact (zT (zz HB)));(case aL => have:=LMc35.out;omega);intro v267 w39 ho hb hg hat;rw [← Ny266.out] at ho;replace HO_5:=zA (Kd.N_afterv (ok:=(fun k_ => (w.heap.size ≤ k_) ∧ some k_ ≠ (u8 : Value).ownBlock)) (by (with_reducible repeat (first|apply Kd.N_alloc|apply Kd.N_drewN|apply Kd.N_drew));exact HO_5.out) hg hat);replace HO_8:=zA (Kd.N_afterv (ok:=(fun k_ => (w.heap.size ≤ k_) ∧ some k_ ≠ (.slice Ao7 x5_1.length co7 : Value).ownBlock)) (by (with_reducible repeat (first|apply Kd.N_alloc|apply Kd.N_drewN|apply Kd.N_drew));exact HO_8.out) hg hat);replace HB:=zA (hb);have HO268:=zA (ho);clear HO264;clear ho hb hg hat;obtain ⟨Ao41,co41,eo41⟩:=Kd.R_slice HO268.out;subst eo41)|((with_reducible refine gate_builtin (b:=.append) (xs:=#[.tmp 66,.tmp 73]) rfl ?_);at_builtin;refine Kd.N_append (Kd.slice 3 (Kd.int .i64)) (w0:=w) w.heap.size rfl (.tmp 66) (.tmp 73) 57 22 (.slice none 0 0) 24 rfl Try.underlying57 info22 rfl (by decide) (by omega) u8 x8_4 y266 [.slice Ao41 y266.length co41] (fun k_ => (w.heap.size ≤ k_) ∧ some k_ ≠ (.slice Ao7 x5_1.length co7 : Value).ownBlock) (fun k_ => ((fun k_ => (w.heap.size ≤ k_) ∧ some k_ ≠ (.slice Ao7 x5_1.length co7 : Value).ownBlock)) k_ ∧ some k_ ≠ (u8 : Value).ownBlock) rfl rfl ?aP (fun _ hk => hk) ?aF ?aO ?aB ?aS ?aL ?_;(case aP => exact (Kd.FK_slice_mk (Kd.R_reads' (zGb (ok':=(fun k_ => ((fun k_ => (w.heap.size ≤ k_) ∧ some k_ ≠ (.slice Ao7 x5_1.length co7 : Value).ownBlock)) k_ ∧ some k_ ≠ (u8 : Value).ownBlock)) (Kd.R_apart' (Kd.R_apart' (HO268.out) (Kd.N_typed HO_5.out) (by decide)) (Kd.N_typed HO_8.out) (by decide)) (fun k_ hk => ⟨⟨hk.1.1,hk.1.2⟩,hk.2⟩))).2.1 (Kd.R_F (zGb (ok':=(fun k_ => ((fun k_ => (w.heap.size ≤ k_) ∧ some k_ ≠ (.slice Ao7 x5_1.length co7 : Value).ownBlock)) k_ ∧ some k_ ≠ (u8 : Value).ownBlock)) (Kd.R_apart' (Kd.R_apart' (HO268.out) (Kd.N_typed HO_5.out) (by decide)) (Kd.N_typed HO_8.out) (by decide)) (fun k_ hk => ⟨⟨hk.1.1,hk.1.2⟩,hk.2⟩)))));(case aB => exact (zz HB));(case aF => exact (fun k_ hk => ⟨(Nat.le_trans (zT (zz HB)) hk),Kd.fresh' (Kd.N_lt (by (with_reducible repeat (first|apply Kd.N_alloc|apply Kd.N_drewN|apply Kd.N_drew));exact HO_5.out)) k_ hk⟩));(case aO => exact (by (with_reducible repeat (first|apply Kd.N_alloc|apply Kd.N_drewN|apply Kd.N_drew));exact Kd.N_mono HO_8.out (fun _ hk => ⟨hk.1.1,hk.1.2⟩)));(case aS => exact (zT (zz HB)));(case aL => have:=LMc36.out;omega);intro v270 w40 ho hb hg hat;rw [← Ny269.out] at ho;replace HO_5:=zA (Kd.N_afterv (ok:=(fun k_ => (w.heap.size ≤ k_) ∧ some k_ ≠ (.slice Ao41 y266.length co41 : Value).ownBlock)) (by (with_reducible repeat (first|apply Kd.N_alloc|apply Kd.N_drewN|apply Kd.N_drew));exact Kd.N_mono HO_5.out (fun _ hk => ⟨⟨hk.1.1,hk.2⟩,hk.1.2⟩)) hg hat);replace HB:=zA (hb);have HO271:=zA (ho);clear HO_8 HO268;clear ho hb hg hat))
                repeat (go_quiet (first|((with_reducible refine gate_dst (N:=67) rfl ?_);refine Kd.R_lit (Kd.int .i64) _ 3 ?hg (N:=67) ?hd (xs:=([] : List Int)) (inner:=[]) (ok:=fun _ => True) (okp:=fun _ => True) ?hr ?hp (fun _ hk => hk) trivial (Below.refl _ _) (Nat.le_refl _) (by simp) ?_;(case hd => rfl);(case hg => rfl);(case hr => first|(go_simp;done)|(go_simp;rfl));(case hp => exact (Reps.none _ _));intro v263 w37 ho38 hb hg_ hnew_;clear hg_ hnew_;(first|rw [← Ny262.out] at ho38|(simp only [Int.reduceToNat] at ho38;rw [← Ny262.out] at ho38));replace HO_5:=zA (Kd.N_elder' (by (with_reducible repeat (first|apply Kd.N_alloc|apply Kd.N_drewN|apply Kd.N_drew));exact HO_5.out) (zW ho38) hb);replace HO_8:=zA (Kd.N_elder' (by (with_reducible repeat (first|apply Kd.N_alloc|apply Kd.N_drewN|apply Kd.N_drew));exact HO_8.out) (zW ho38) hb);have HO264:=zA (zHb (Kd.R_newM (M:=fun k_ => (w.heap.size ≤ k_)) ho38 (zT (zz HB)) (fun k_ h_ => h_)) (zT (zz HB)));replace HB:=zA (zJb (zz HB) hb);clear hb ho38;have p265 : 0 ≤ (x6_1 : Int):=zXb ze;have q265 : x6_1 < (l0.length : Int):=zXb ze;obtain ⟨ad265,A265_0,c265_0,e265,hx265_0,hl265_0,hi265_0⟩:=at_L1 HR0.out x6_1 p265 q265;cases e265;replace hx265_0:=(HB.out.cell (World.block_lt_of_cell? w _ hx265_0)).trans hx265_0;have HR265_0:=zA hi265_0;have HC265_0:=zA hl265_0;clear hi265_0 hl265_0;replace p265:=eq_true p265;replace q265:=eq_true q265)|((with_reducible refine gate_builtin (b:=.append) (xs:=#[.tmp 67,.tmp 71]) rfl ?_);at_builtin;refine Kd.R_append_rows (Kd.int .i64) (w0:=w) w.heap.size rfl (.tmp 67) (.tmp 71) 22 3 (.int .i64 0) 8 rfl Try.underlying22 info3 rfl (by decide) (by omega) v263 y262 (rd_L1 l0 x6_1) _ _ _ (fun k_ => (w.heap.size ≤ k_)) (fun _ => False) rfl rfl ?aO ?aR (fun _ _ h => h) (fun _ h => h.elim) ?aF ?aB ?aS ?aL ?_;(case aR => exact zsd HR265_0 HB);(case aB => exact (zz HB));(case aF => exact (fun k_ hk => (Nat.le_trans (zT (zz HB)) hk)));(case aO => exact (by (with_reducible repeat (first|apply zE|apply zD|apply zH));exact zGb HO264.out (fun _ hk => hk.1)));(case aS => exact (zT (zz HB)));(case aL => have:=LMc35.out;omega);intro v267 w39 ho hb hg hat;rw [← Ny266.out] at ho;replace HO_5:=zA (Kd.N_afterv (ok:=(fun k_ => (w.heap.size ≤ k_) ∧ some k_ ≠ (u8 : Value).ownBlock)) (by (with_reducible repeat (first|apply Kd.N_alloc|apply Kd.N_drewN|apply Kd.N_drew));exact HO_5.out) hg hat);replace HO_8:=zA (Kd.N_afterv (ok:=(fun k_ => (w.heap.size ≤ k_) ∧ some k_ ≠ (.slice Ao7 x5_1.length co7 : Value).ownBlock)) (by (with_reducible repeat (first|apply Kd.N_alloc|apply Kd.N_drewN|apply Kd.N_drew));exact HO_8.out) hg hat);replace HB:=zA (hb);have HO268:=zA (ho);clear HO264;clear ho hb hg hat;obtain ⟨Ao41,co41,eo41⟩:=Kd.R_slice HO268.out;subst eo41)|((with_reducible refine gate_builtin (b:=.append) (xs:=#[.tmp 66,.tmp 73]) rfl ?_);at_builtin;refine Kd.N_append (Kd.slice 3 (Kd.int .i64)) (w0:=w) w.heap.size rfl (.tmp 66) (.tmp 73) 57 22 (.slice none 0 0) 24 rfl Try.underlying57 info22 rfl (by decide) (by omega) u8 x8_4 y266 [.slice Ao41 y266.length co41] (fun k_ => (w.heap.size ≤ k_) ∧ some k_ ≠ (.slice Ao7 x5_1.length co7 : Value).ownBlock) (fun k_ => ((fun k_ => (w.heap.size ≤ k_) ∧ some k_ ≠ (.slice Ao7 x5_1.length co7 : Value).ownBlock)) k_ ∧ some k_ ≠ (u8 : Value).ownBlock) rfl rfl ?aP (fun _ hk => hk) ?aF ?aO ?aB ?aS ?aL ?_;(case aP => exact (Kd.FK_slice_mk (Kd.R_reads' (zGb (ok':=(fun k_ => ((fun k_ => (w.heap.size ≤ k_) ∧ some k_ ≠ (.slice Ao7 x5_1.length co7 : Value).ownBlock)) k_ ∧ some k_ ≠ (u8 : Value).ownBlock)) (Kd.R_apart' (Kd.R_apart' (HO268.out) (Kd.N_typed HO_5.out) (by decide)) (Kd.N_typed HO_8.out) (by decide)) (fun k_ hk => ⟨⟨hk.1.1,hk.1.2⟩,hk.2⟩))).2.1 (Kd.R_F (zGb (ok':=(fun k_ => ((fun k_ => (w.heap.size ≤ k_) ∧ some k_ ≠ (.slice Ao7 x5_1.length co7 : Value).ownBlock)) k_ ∧ some k_ ≠ (u8 : Value).ownBlock)) (Kd.R_apart' (Kd.R_apart' (HO268.out) (Kd.N_typed HO_5.out) (by decide)) (Kd.N_typed HO_8.out) (by decide)) (fun k_ hk => ⟨⟨hk.1.1,hk.1.2⟩,hk.2⟩)))));(case aB => exact (zz HB));(case aF => exact (fun k_ hk => ⟨(Nat.le_trans (zT (zz HB)) hk),Kd.fresh' (Kd.N_lt (by (with_reducible repeat (first|apply Kd.N_alloc|apply Kd.N_drewN|apply Kd.N_drew));exact HO_5.out)) k_ hk⟩));(case aO => exact (by (with_reducible repeat (first|apply Kd.N_alloc|apply Kd.N_drewN|apply Kd.N_drew));exact Kd.N_mono HO_8.out (fun _ hk => ⟨hk.1.1,hk.1.2⟩)));(case aS => exact (zT (zz HB)));(case aL => have:=LMc36.out;omega);intro v270 w40 ho hb hg hat;rw [← Ny269.out] at ho;replace HO_5:=zA (Kd.N_afterv (ok:=(fun k_ => (w.heap.size ≤ k_) ∧ some k_ ≠ (.slice Ao41 y266.length co41 : Value).ownBlock)) (by (with_reducible repeat (first|apply Kd.N_alloc|apply Kd.N_drewN|apply Kd.N_drew));exact Kd.N_mono HO_5.out (fun _ hk => ⟨⟨hk.1.1,hk.2⟩,hk.1.2⟩)) hg hat);replace HB:=zA (hb);have HO271:=zA (ho);clear HO_8 HO268;clear ho hb hg hat));try go_wp2_with (first|((with_reducible refine gate_dst (N:=67) rfl ?_);refine Kd.R_lit (Kd.int .i64) _ 3 ?hg (N:=67) ?hd (xs:=([] : List Int)) (inner:=[]) (ok:=fun _ => True) (okp:=fun _ => True) ?hr ?hp (fun _ hk => hk) trivial (Below.refl _ _) (Nat.le_refl _) (by simp) ?_;(case hd => rfl);(case hg => rfl);(case hr => first|(go_simp;done)|(go_simp;rfl));(case hp => exact (Reps.none _ _));intro v263 w37 ho38 hb hg_ hnew_;clear hg_ hnew_;(first|rw [← Ny262.out] at ho38|(simp only [Int.reduceToNat] at ho38;rw [← Ny262.out] at ho38));replace HO_5:=zA (Kd.N_elder' (by (with_reducible repeat (first|apply Kd.N_alloc|apply Kd.N_drewN|apply Kd.N_drew));exact HO_5.out) (zW ho38) hb);replace HO_8:=zA (Kd.N_elder' (by (with_reducible repeat (first|apply Kd.N_alloc|apply Kd.N_drewN|apply Kd.N_drew));exact HO_8.out) (zW ho38) hb);have HO264:=zA (zHb (Kd.R_newM (M:=fun k_ => (w.heap.size ≤ k_)) ho38 (zT (zz HB)) (fun k_ h_ => h_)) (zT (zz HB)));replace HB:=zA (zJb (zz HB) hb);clear hb ho38;have p265 : 0 ≤ (x6_1 : Int):=zXb ze;have q265 : x6_1 < (l0.length : Int):=zXb ze;obtain ⟨ad265,A265_0,c265_0,e265,hx265_0,hl265_0,hi265_0⟩:=at_L1 HR0.out x6_1 p265 q265;cases e265;replace hx265_0:=(HB.out.cell (World.block_lt_of_cell? w _ hx265_0)).trans hx265_0;have HR265_0:=zA hi265_0;have HC265_0:=zA hl265_0;clear hi265_0 hl265_0;replace p265:=eq_true p265;replace q265:=eq_true q265)|((with_reducible refine gate_builtin (b:=.append) (xs:=#[.tmp 67,.tmp 71]) rfl ?_);at_builtin;refine Kd.R_append_rows (Kd.int .i64) (w0:=w) w.heap.size rfl (.tmp 67) (.tmp 71) 22 3 (.int .i64 0) 8 rfl Try.underlying22 info3 rfl (by decide) (by omega) v263 y262 (rd_L1 l0 x6_1) _ _ _ (fun k_ => (w.heap.size ≤ k_)) (fun _ => False) rfl rfl ?aO ?aR (fun _ _ h => h) (fun _ h => h.elim) ?aF ?aB ?aS ?aL ?_;(case aR => exact zsd HR265_0 HB);(case aB => exact (zz HB));(case aF => exact (fun k_ hk => (Nat.le_trans (zT (zz HB)) hk)));(case aO => exact (by (with_reducible repeat (first|apply zE|apply zD|apply zH));exact zGb HO264.out (fun _ hk => hk.1)));(case aS => exact (zT (zz HB)));(case aL => have:=LMc35.out;omega);intro v267 w39 ho hb hg hat;rw [← Ny266.out] at ho;replace HO_5:=zA (Kd.N_afterv (ok:=(fun k_ => (w.heap.size ≤ k_) ∧ some k_ ≠ (u8 : Value).ownBlock)) (by (with_reducible repeat (first|apply Kd.N_alloc|apply Kd.N_drewN|apply Kd.N_drew));exact HO_5.out) hg hat);replace HO_8:=zA (Kd.N_afterv (ok:=(fun k_ => (w.heap.size ≤ k_) ∧ some k_ ≠ (.slice Ao7 x5_1.length co7 : Value).ownBlock)) (by (with_reducible repeat (first|apply Kd.N_alloc|apply Kd.N_drewN|apply Kd.N_drew));exact HO_8.out) hg hat);replace HB:=zA (hb);have HO268:=zA (ho);clear HO264;clear ho hb hg hat;obtain ⟨Ao41,co41,eo41⟩:=Kd.R_slice HO268.out;subst eo41)|((with_reducible refine gate_builtin (b:=.append) (xs:=#[.tmp 66,.tmp 73]) rfl ?_);at_builtin;refine Kd.N_append (Kd.slice 3 (Kd.int .i64)) (w0:=w) w.heap.size rfl (.tmp 66) (.tmp 73) 57 22 (.slice none 0 0) 24 rfl Try.underlying57 info22 rfl (by decide) (by omega) u8 x8_4 y266 [.slice Ao41 y266.length co41] (fun k_ => (w.heap.size ≤ k_) ∧ some k_ ≠ (.slice Ao7 x5_1.length co7 : Value).ownBlock) (fun k_ => ((fun k_ => (w.heap.size ≤ k_) ∧ some k_ ≠ (.slice Ao7 x5_1.length co7 : Value).ownBlock)) k_ ∧ some k_ ≠ (u8 : Value).ownBlock) rfl rfl ?aP (fun _ hk => hk) ?aF ?aO ?aB ?aS ?aL ?_;(case aP => exact (Kd.FK_slice_mk (Kd.R_reads' (zGb (ok':=(fun k_ => ((fun k_ => (w.heap.size ≤ k_) ∧ some k_ ≠ (.slice Ao7 x5_1.length co7 : Value).ownBlock)) k_ ∧ some k_ ≠ (u8 : Value).ownBlock)) (Kd.R_apart' (Kd.R_apart' (HO268.out) (Kd.N_typed HO_5.out) (by decide)) (Kd.N_typed HO_8.out) (by decide)) (fun k_ hk => ⟨⟨hk.1.1,hk.1.2⟩,hk.2⟩))).2.1 (Kd.R_F (zGb (ok':=(fun k_ => ((fun k_ => (w.heap.size ≤ k_) ∧ some k_ ≠ (.slice Ao7 x5_1.length co7 : Value).ownBlock)) k_ ∧ some k_ ≠ (u8 : Value).ownBlock)) (Kd.R_apart' (Kd.R_apart' (HO268.out) (Kd.N_typed HO_5.out) (by decide)) (Kd.N_typed HO_8.out) (by decide)) (fun k_ hk => ⟨⟨hk.1.1,hk.1.2⟩,hk.2⟩)))));(case aB => exact (zz HB));(case aF => exact (fun k_ hk => ⟨(Nat.le_trans (zT (zz HB)) hk),Kd.fresh' (Kd.N_lt (by (with_reducible repeat (first|apply Kd.N_alloc|apply Kd.N_drewN|apply Kd.N_drew));exact HO_5.out)) k_ hk⟩));(case aO => exact (by (with_reducible repeat (first|apply Kd.N_alloc|apply Kd.N_drewN|apply Kd.N_drew));exact Kd.N_mono HO_8.out (fun _ hk => ⟨hk.1.1,hk.1.2⟩)));(case aS => exact (zT (zz HB)));(case aL => have:=LMc36.out;omega);intro v270 w40 ho hb hg hat;rw [← Ny269.out] at ho;replace HO_5:=zA (Kd.N_afterv (ok:=(fun k_ => (w.heap.size ≤ k_) ∧ some k_ ≠ (.slice Ao41 y266.length co41 : Value).ownBlock)) (by (with_reducible repeat (first|apply Kd.N_alloc|apply Kd.N_drewN|apply Kd.N_drew));exact Kd.N_mono HO_5.out (fun _ hk => ⟨⟨hk.1.1,hk.2⟩,hk.1.2⟩)) hg hat);replace HB:=zA (hb);have HO271:=zA (ho);clear HO_8 HO268;clear ho hb hg hat)))
                go_loopg [8,10] k4 (fun kq v8 v10 w' => ∃ (x8_5 : List (List Int)) (x10_5 : Int),v10 = .int .i64 x10_5 ∧ Aside0 (spec_l6Sort.l3 kq l0 a1 x5_1 x6_1 x8_5 x10_5 = some r) ∧ Aside0 (kq ≤ k4) ∧ Aside0 (Kd.N (Kd.slice 3 (Kd.int .i64)) 22 w' w.heap.size (fun k_ => (w.heap.size ≤ k_) ∧ some k_ ≠ (v8 : Value).ownBlock) (.slice Ao7 x5_1.length co7) x5_1) ∧ Aside0 (Kd.N (Kd.slice 3 (Kd.int .i64)) 22 w' w.heap.size (fun k_ => (w.heap.size ≤ k_) ∧ some k_ ≠ ((.slice Ao7 x5_1.length co7) : Value).ownBlock) v8 x8_5) ∧ Aside0 (Below w.heap.size w w'))
                case atStart => exact ⟨(y269),(x7_5),za,H',⟨Nat.le_refl _⟩,⟨by (with_reducible repeat (first|apply Kd.N_alloc|apply Kd.N_drewN|apply Kd.N_drew));exact Kd.N_mono HO_5.out (fun _ hk => ⟨hk.1.1,hk.2⟩)⟩,⟨by (with_reducible repeat (first|apply Kd.N_alloc|apply Kd.N_drewN|apply Kd.N_drew));exact HO271.out⟩,⟨zz HB⟩⟩
                case round =>
                 clear H';(try clear c1);(try clear c2);(try clear p2);(try clear q2);(try clear hx2);(try clear c3);(try clear c5);(try clear c5b0);(try clear p6);(try clear c8);(try clear c8b0);(try clear c9);(try clear c9b0);(try clear c10);(try clear c10b0);(try clear c12);(try clear c12b0);(try clear c13);(try clear c13b0);(try clear c15);(try clear c17);(try clear c18);(try clear c18b0);(try clear c20);(try clear c20b0);(try clear c21);(try clear c21b0);(try clear c22);(try clear c22b0);(try clear c23);(try clear c23b0);(try clear c24);(try clear p24);(try clear q24);(try clear hx24);(try clear c25);(try clear p25);(try clear q25);(try clear hx25);(try clear c26);(try clear p26);(try clear q26);(try clear hx26);(try clear c28);(try clear c28b0);(try clear c29);(try clear c29b0);(try clear c30);(try clear c30b0);(try clear c31);(try clear c33);(try clear c33b0);(try clear c34);(try clear c34b0);(try clear c35);(try clear c36);(try clear hx249_0);(try clear hx250_0);(try clear hx252_0);(try clear hx253_0);(try clear hx258_0);(try clear hx265_0);(try clear p2);(try clear p24);(try clear p249);(try clear p25);(try clear p250);(try clear p252);(try clear p253);(try clear p258);(try clear p265);(try clear p6);(try clear q2);(try clear q24);(try clear q249);(try clear q25);(try clear q250);(try clear q252);(try clear q253);(try clear q258);(try clear q265);obtain ⟨x8_5,x10_5,rfl,HA,HK5,HO_5,HO_8,HB⟩:=hrel
                 cases gk with
                 | zero => exact absurd HA.out (by simp [spec_l6Sort.l3])
                 | succ k5 =>
                  have H:=HA.out;clear HA;simp only [spec_l6Sort.l3] at H
                  by_cases c42 : x10_5 < (x5_1.length : Int)
                  ·
                   rw [if_pos c42] at H;have c42b0:=decide_eq_true c42;clear c42
                   by_cases c43 : 0 ≤ x10_5
                   ·
                    rw [if_pos c43] at H;have c43b0:=decide_eq_true c43;clear c43
                    by_cases c44 : x8_5.length < 5864062014805
                    ·
                     rw [if_pos c44] at H;have LMc44:=zA c44;clear c44;obtain ⟨y273,hy273⟩ : ∃ y_ : List (List Int),y_ = (x8_5 ++ [rd_L1 x5_1 x10_5]):=⟨_,rfl⟩
                     replace H : (spec_l6Sort.l3 k5 l0 a1 x5_1 x6_1 y273 (wrap64 (x10_5 + 1))) = some r:=by first|(rw [hy273];with_reducible exact H)|(have H2_:=(Option.bind_some _ _).symm.trans H;rw [hy273];with_reducible exact H2_)|(have H2_:=(Option.bind_some _ _).symm.trans H;with_reducible exact H2_)|with_reducible exact H|(rw [hy273];exact H)|exact H
                     have Ny273:=zA hy273;clear hy273
                     have H':=zA H
                     clear H;have p272 : 0 ≤ (x10_5 : Int):=zXb ze;have q272 : x10_5 < (x5_1.length : Int):=zXb ze;obtain ⟨ad272,A272_0,c272_0,e272,hx272_0,hl272_0,hi272_0⟩:=at_L1 (Kd.N_reads' HO_5.out).2.2 x10_5 p272 q272
                     cases e272
                     obtain ⟨ce272,hce272,hMe272,hcc272⟩:=Kd.N_get HO_5.out [] x10_5 p272 (by first|exact q272|exact zXb ze|(have e_:=(Kd.N_reads' HO_5.out).1;omega));obtain ⟨ua272_0,uc272_0,rfl,ul272_0,ge272_0⟩:=Kd.FK_slice_open hMe272;have hv272_0:=hcc272 0 _ rfl;rw [Nat.add_zero,show ((Kd.slice 3 (Kd.int .i64))).sz = 1 from rfl,Nat.mul_one] at hv272_0;replace hv272_0:=Option.some.inj (hv272_0.symm.trans hx272_0)
                     injection hv272_0 with hva_ hvn_ hvc_
                     rw [hva_] at ge272_0;rw [hvc_] at ul272_0;have HL272_0:=zA (show Kd.V (Kd.int .i64) 3 _ w.heap.size _ _ (rd_L1 x5_1 x10_5) from Kd.V_mk ul272_0 ge272_0);clear hva_ hvn_ hvc_ ge272_0 ul272_0;clear hcc272 hce272;have HR272_0:=zA hi272_0;have HC272_0:=zA hl272_0;clear hi272_0 hl272_0;replace p272:=eq_true p272;replace q272:=eq_true q272
                     go_wp2_with (first|((with_reducible refine gate_builtin (b:=.append) (xs:=#[.tmp 82,.tmp 87]) rfl ?_);at_builtin;refine Kd.N_append (Kd.slice 3 (Kd.int .i64)) (w0:=w) w.heap.size rfl (.tmp 82) (.tmp 87) 57 22 (.slice none 0 0) 24 rfl Try.underlying57 info22 rfl (by decide) (by omega) u8 x8_5 (rd_L1 x5_1 x10_5) [.slice A272_0 (rd_L1 x5_1 x10_5).length c272_0] (fun k_ => (w.heap.size ≤ k_) ∧ some k_ ≠ (.slice (some ad272) x5_1.length co7 : Value).ownBlock) (fun k_ => ((fun k_ => (w.heap.size ≤ k_) ∧ some k_ ≠ (.slice (some ad272) x5_1.length co7 : Value).ownBlock)) k_ ∧ some k_ ≠ (u8 : Value).ownBlock) rfl rfl ?aP (fun _ hk => hk) ?aF ?aO ?aB ?aS ?aL ?_;(case aP => exact (Kd.FK_slice_mk (Kd.V_reads' (Kd.V_mono (ok':=(fun k_ => ((fun k_ => (w.heap.size ≤ k_) ∧ some k_ ≠ (.slice (some ad272) x5_1.length co7 : Value).ownBlock)) k_ ∧ some k_ ≠ (u8 : Value).ownBlock)) (HL272_0.out) (fun k_ hk => ⟨⟨hk.1.1,hk.2⟩,hk.1.2⟩))).2.1 (Kd.V_F (Kd.V_mono (ok':=(fun k_ => ((fun k_ => (w.heap.size ≤ k_) ∧ some k_ ≠ (.slice (some ad272) x5_1.length co7 : Value).ownBlock)) k_ ∧ some k_ ≠ (u8 : Value).ownBlock)) (HL272_0.out) (fun k_ hk => ⟨⟨hk.1.1,hk.2⟩,hk.1.2⟩)))));(case aB => exact (zz HB));(case aF => exact (fun k_ hk => ⟨(Nat.le_trans (zT (zz HB)) hk),Kd.fresh' (Kd.N_lt (by (with_reducible repeat (first|apply Kd.N_alloc|apply Kd.N_drewN|apply Kd.N_drew));exact HO_5.out)) k_ hk⟩));(case aO => exact (by (with_reducible repeat (first|apply Kd.N_alloc|apply Kd.N_drewN|apply Kd.N_drew));exact HO_8.out));(case aS => exact (zT (zz HB)));(case aL => have:=LMc44.out;omega);intro v274 w45 ho hb hg hat;rw [← Ny273.out] at ho;replace HO_5:=zA (Kd.N_afterv (ok:=(fun k_ => (w.heap.size ≤ k_))) (by (with_reducible repeat (first|apply Kd.N_alloc|apply Kd.N_drewN|apply Kd.N_drew));exact HO_5.out) hg hat);replace HL272_0:=zA (Kd.V_afterv (ok:=(fun k_ => (w.heap.size ≤ k_) ∧ some k_ ≠ (.slice (some ad272) x5_1.length co7 : Value).ownBlock)) (by (with_reducible repeat (first|apply Kd.V_alloc|apply Kd.V_drewN|apply Kd.V_drew));exact Kd.V_mono HL272_0.out (fun _ hk => ⟨⟨hk.1.1,hk.2⟩,hk.1.2⟩)) hg hat);replace HB:=zA (hb);have HO275:=zA (ho);clear HO_8;clear ho hb hg hat))
                     repeat (go_quiet (first|((with_reducible refine gate_builtin (b:=.append) (xs:=#[.tmp 82,.tmp 87]) rfl ?_);at_builtin;refine Kd.N_append (Kd.slice 3 (Kd.int .i64)) (w0:=w) w.heap.size rfl (.tmp 82) (.tmp 87) 57 22 (.slice none 0 0) 24 rfl Try.underlying57 info22 rfl (by decide) (by omega) u8 x8_5 (rd_L1 x5_1 x10_5) [.slice A272_0 (rd_L1 x5_1 x10_5).length c272_0] (fun k_ => (w.heap.size ≤ k_) ∧ some k_ ≠ (.slice (some ad272) x5_1.length co7 : Value).ownBlock) (fun k_ => ((fun k_ => (w.heap.size ≤ k_) ∧ some k_ ≠ (.slice (some ad272) x5_1.length co7 : Value).ownBlock)) k_ ∧ some k_ ≠ (u8 : Value).ownBlock) rfl rfl ?aP (fun _ hk => hk) ?aF ?aO ?aB ?aS ?aL ?_;(case aP => exact (Kd.FK_slice_mk (Kd.V_reads' (Kd.V_mono (ok':=(fun k_ => ((fun k_ => (w.heap.size ≤ k_) ∧ some k_ ≠ (.slice (some ad272) x5_1.length co7 : Value).ownBlock)) k_ ∧ some k_ ≠ (u8 : Value).ownBlock)) (HL272_0.out) (fun k_ hk => ⟨⟨hk.1.1,hk.2⟩,hk.1.2⟩))).2.1 (Kd.V_F (Kd.V_mono (ok':=(fun k_ => ((fun k_ => (w.heap.size ≤ k_) ∧ some k_ ≠ (.slice (some ad272) x5_1.length co7 : Value).ownBlock)) k_ ∧ some k_ ≠ (u8 : Value).ownBlock)) (HL272_0.out) (fun k_ hk => ⟨⟨hk.1.1,hk.2⟩,hk.1.2⟩)))));(case aB => exact (zz HB));(case aF => exact (fun k_ hk => ⟨(Nat.le_trans (zT (zz HB)) hk),Kd.fresh' (Kd.N_lt (by (with_reducible repeat (first|apply Kd.N_alloc|apply Kd.N_drewN|apply Kd.N_drew));exact HO_5.out)) k_ hk⟩));(case aO => exact (by (with_reducible repeat (first|apply Kd.N_alloc|apply Kd.N_drewN|apply Kd.N_drew));exact HO_8.out));(case aS => exact (zT (zz HB)));(case aL => have:=LMc44.out;omega);intro v274 w45 ho hb hg hat;rw [← Ny273.out] at ho;replace HO_5:=zA (Kd.N_afterv (ok:=(fun k_ => (w.heap.size ≤ k_))) (by (with_reducible repeat (first|apply Kd.N_alloc|apply Kd.N_drewN|apply Kd.N_drew));exact HO_5.out) hg hat);replace HL272_0:=zA (Kd.V_afterv (ok:=(fun k_ => (w.heap.size ≤ k_) ∧ some k_ ≠ (.slice (some ad272) x5_1.length co7 : Value).ownBlock)) (by (with_reducible repeat (first|apply Kd.V_alloc|apply Kd.V_drewN|apply Kd.V_drew));exact Kd.V_mono HL272_0.out (fun _ hk => ⟨⟨hk.1.1,hk.2⟩,hk.1.2⟩)) hg hat);replace HB:=zA (hb);have HO275:=zA (ho);clear HO_8;clear ho hb hg hat));try go_wp2_with (first|((with_reducible refine gate_builtin (b:=.append) (xs:=#[.tmp 82,.tmp 87]) rfl ?_);at_builtin;refine Kd.N_append (Kd.slice 3 (Kd.int .i64)) (w0:=w) w.heap.size rfl (.tmp 82) (.tmp 87) 57 22 (.slice none 0 0) 24 rfl Try.underlying57 info22 rfl (by decide) (by omega) u8 x8_5 (rd_L1 x5_1 x10_5) [.slice A272_0 (rd_L1 x5_1 x10_5).length c272_0] (fun k_ => (w.heap.size ≤ k_) ∧ some k_ ≠ (.slice (some ad272) x5_1.length co7 : Value).ownBlock) (fun k_ => ((fun k_ => (w.heap.size ≤ k_) ∧ some k_ ≠ (.slice (some ad272) x5_1.length co7 : Value).ownBlock)) k_ ∧ some k_ ≠ (u8 : Value).ownBlock) rfl rfl ?aP (fun _ hk => hk) ?aF ?aO ?aB ?aS ?aL ?_;(case aP => exact (Kd.FK_slice_mk (Kd.V_reads' (Kd.V_mono (ok':=(fun k_ => ((fun k_ => (w.heap.size ≤ k_) ∧ some k_ ≠ (.slice (some ad272) x5_1.length co7 : Value).ownBlock)) k_ ∧ some k_ ≠ (u8 : Value).ownBlock)) (HL272_0.out) (fun k_ hk => ⟨⟨hk.1.1,hk.2⟩,hk.1.2⟩))).2.1 (Kd.V_F (Kd.V_mono (ok':=(fun k_ => ((fun k_ => (w.heap.size ≤ k_) ∧ some k_ ≠ (.slice (some ad272) x5_1.length co7 : Value).ownBlock)) k_ ∧ some k_ ≠ (u8 : Value).ownBlock)) (HL272_0.out) (fun k_ hk => ⟨⟨hk.1.1,hk.2⟩,hk.1.2⟩)))));(case aB => exact (zz HB));(case aF => exact (fun k_ hk => ⟨(Nat.le_trans (zT (zz HB)) hk),Kd.fresh' (Kd.N_lt (by (with_reducible repeat (first|apply Kd.N_alloc|apply Kd.N_drewN|apply Kd.N_drew));exact HO_5.out)) k_ hk⟩));(case aO => exact (by (with_reducible repeat (first|apply Kd.N_alloc|apply Kd.N_drewN|apply Kd.N_drew));exact HO_8.out));(case aS => exact (zT (zz HB)));(case aL => have:=LMc44.out;omega);intro v274 w45 ho hb hg hat;rw [← Ny273.out] at ho;replace HO_5:=zA (Kd.N_afterv (ok:=(fun k_ => (w.heap.size ≤ k_))) (by (with_reducible repeat (first|apply Kd.N_alloc|apply Kd.N_drewN|apply Kd.N_drew));exact HO_5.out) hg hat);replace HL272_0:=zA (Kd.V_afterv (ok:=(fun k_ => (w.heap.size ≤ k_) ∧ some k_ ≠ (.slice (some ad272) x5_1.length co7 : Value).ownBlock)) (by (with_reducible repeat (first|apply Kd.V_alloc|apply Kd.V_drewN|apply Kd.V_drew));exact Kd.V_mono HL272_0.out (fun _ hk => ⟨⟨hk.1.1,hk.2⟩,hk.1.2⟩)) hg hat);replace HB:=zA (hb);have HO275:=zA (ho);clear HO_8;clear ho hb hg hat)))
                     go_roundg k5
                     case measure => have:=HK1.out;have:=HJ5.out;have:=HJ15.out;have:=HK4.out;have:=HK5.out;omega
                     case rel => exact ⟨(y273),(wrap64 (x10_5 + 1)),za,H',⟨by have:=HK1.out;have:=HJ5.out;have:=HJ15.out;have:=HK4.out;have:=HK5.out;omega⟩,⟨by (with_reducible repeat (first|apply Kd.N_alloc|apply Kd.N_drewN|apply Kd.N_drew));exact HO_5.out⟩,⟨by (with_reducible repeat (first|apply Kd.N_alloc|apply Kd.N_drewN|apply Kd.N_drew));exact HO275.out⟩,⟨zz HB⟩⟩
                    ·
                     rw [if_neg c44] at H
                     exact absurd H (by simp)
                   ·
                    rw [if_neg c43] at H
                    exact absurd H (by simp)
                  ·
                   rw [if_neg c42] at H;have c42b0:=decide_eq_false c42;clear c42
                   have H':=zA H
                   clear H
                   go_wp2
                   repeat (go_quiet (fail);try go_wp2)
                   go_roundg k5
                   case measure => have:=HK1.out;have:=HJ5.out;have:=HJ15.out;have:=HK4.out;have:=HK5.out;omega
                   case rel => exact ⟨(x8_5),(wrap64 (x6_1 + 1)),za,H',⟨by have:=HK1.out;have:=HJ5.out;have:=HJ15.out;have:=HK4.out;have:=HK5.out;omega⟩,⟨by (with_reducible repeat (first|apply Kd.N_alloc|apply Kd.N_drewN|apply Kd.N_drew));exact Kd.N_mono HO_8.out (fun _ hk => hk.1)⟩,⟨zz HB⟩⟩
               ·
                rw [if_neg c36] at H
                exact absurd H (by simp)
              ·
               rw [if_neg c35] at H
               exact absurd H (by simp)
             ·
              rw [if_neg c34] at H
              exact absurd H (by simp)
            ·
             rw [if_neg c33] at H
             exact absurd H (by simp)
   ·
    rw [if_neg c5] at H;have c5b0:=decide_eq_false c5;clear c5
    obtain rfl:=Option.some.inj H
    go_wp2
    repeat (go_quiet (fail);try go_wp2)
    go_ret
    exact ⟨_,by first|rfl|(simp [errW_none,errW_some] <;> rfl)|(simp [*,errW_none,errW_some] <;> rfl),by (with_reducible repeat (first|apply Kd.N_alloc|apply Kd.N_drewN|apply Kd.N_drew));exact HO_5.out,zz HB⟩

end Go.Proofs.Ytfelabhakgcifaa.QFnExactBindings
