/- Walks through the Go functions that FnExactIsAnswer reaches: each call returns what the Lean function beside it says, within the bounds that the theorem names. -/
import Derived.Test.YtfelabhakgcifaaQFnExactIsAnswerx0
import Derived.Test.YtfelabhakgcifaaQFnExactIsAnswerx3
import Derived.Test.YtfelabhakgcifaaQFnExactIsAnswerx6
namespace Go.Proofs.Ytfelabhakgcifaa.QFnExactIsAnswer
open Go.RowKit Go.Proofs.YtfelabhakgcifaaW.PrintWords Go.Proofs.YtfelabhakgcifaaW.PrintLast Go.Proofs.YtfelabhakgcifaaW.PrintMore
attribute [local go_sem] max2_int min2_int max_two min_two max_three min_three max_four min_four   -- for this text's walks alone
set_option linter.unusedVariables false
set_option linter.unusedSimpArgs false


/-! ### spec_l6Sort: function 99 -/
mutual
def spec_l6Sort.l0 : Nat → List (List Int) → Bool → List (List Int) → Int → Option ((List (List Int)))
 | 0, _, _, _, _ => none
 | k + 1, x0, x1, x5, x6 => if x6 < (x0.length : Int) then (spec_l6Sort.l1 k x0 x1 x5 x6 (x5.length : Int)) else (some x5)
def spec_l6Sort.j2 : Nat → List (List Int) → Bool → List (List Int) → Int → Int → Option ((List (List Int)))
 | 0, _, _, _, _, _ => none
 | k + 1, x0, x1, x5, x6, x7 => if x1 = true then (if x7 > 0 then (if 0 ≤ (wrap64 (x7 - 1)) then (if (wrap64 (x7 - 1)) < (x5.length : Int) then (if 0 ≤ x6 then (if x6 < (x0.length : Int) then ((spec_l2Ints.f k (rd_L1 x5 (wrap64 (x7 - 1))) (rd_L1 x0 x6)).bind fun t286 => (spec_l6Sort.j3 k x0 x1 x5 x6 x7 t286)) else (none)) else (none)) else (none)) else (none)) else (spec_l6Sort.j3 k x0 x1 x5 x6 x7 false)) else (spec_l6Sort.j3 k x0 x1 x5 x6 x7 false)
def spec_l6Sort.j3 : Nat → List (List Int) → Bool → List (List Int) → Int → Int → Bool → Option ((List (List Int)))
 | 0, _, _, _, _, _, _ => none
 | k + 1, x0, x1, x5, x6, x7, x52 => if x52 = true then (spec_l6Sort.l0 k x0 x1 x5 (wrap64 (x6 + 1))) else (spec_l6Sort.l2 k x0 x1 x5 x6 x7 (([] : List (List Int))) 0)
def spec_l6Sort.l2 : Nat → List (List Int) → Bool → List (List Int) → Int → Int → List (List Int) → Int → Option ((List (List Int)))
 | 0, _, _, _, _, _, _, _ => none
 | k + 1, x0, x1, x5, x6, x7, x8, x9 => if x9 < x7 then (if 0 ≤ x9 then (if x9 < (x5.length : Int) then (if x8.length < 5864062014805 then (spec_l6Sort.l2 k x0 x1 x5 x6 x7 (x8 ++ [rd_L1 x5 x9]) (wrap64 (x9 + 1))) else (none)) else (none)) else (none)) else ((some (([] : List Int) : List Int)).bind fun y294 => (if 0 ≤ x6 then (if x6 < (x0.length : Int) then (if y294.length + (rd_L1 x0 x6).length < 17592186044416 then (if x8.length < 5864062014805 then (spec_l6Sort.l3 k x0 x1 x5 x6 (x8 ++ [(y294 ++ (rd_L1 x0 x6))]) x7) else (none)) else (none)) else (none)) else (none)))
def spec_l6Sort.l3 : Nat → List (List Int) → Bool → List (List Int) → Int → List (List Int) → Int → Option ((List (List Int)))
 | 0, _, _, _, _, _, _ => none
 | k + 1, x0, x1, x5, x6, x8, x10 => if x10 < (x5.length : Int) then (if 0 ≤ x10 then (if x8.length < 5864062014805 then (spec_l6Sort.l3 k x0 x1 x5 x6 (x8 ++ [rd_L1 x5 x10]) (wrap64 (x10 + 1))) else (none)) else (none)) else (spec_l6Sort.l0 k x0 x1 x8 (wrap64 (x6 + 1)))
def spec_l6Sort.l1 : Nat → List (List Int) → Bool → List (List Int) → Int → Int → Option ((List (List Int)))
 | 0, _, _, _, _, _ => none
 | k + 1, x0, x1, x5, x6, x7 => if x7 > 0 then (if 0 ≤ x6 then (if x6 < (x0.length : Int) then (if 0 ≤ (wrap64 (x7 - 1)) then (if (wrap64 (x7 - 1)) < (x5.length : Int) then ((spec_l2Less.f k (rd_L1 x0 x6) (rd_L1 x5 (wrap64 (x7 - 1)))).bind fun t283 => (if t283 = true then (spec_l6Sort.l1 k x0 x1 x5 x6 (wrap64 (x7 - 1))) else (spec_l6Sort.j2 k x0 x1 x5 x6 x7))) else (none)) else (none)) else (none)) else (none)) else (spec_l6Sort.j2 k x0 x1 x5 x6 x7)
end
def spec_l6Sort.f (k : Nat) (l0 : List (List Int)) (a1 : Bool) : Option ((List (List Int))) := spec_l6Sort.l0 k l0 a1 (([] : List (List Int))) 0
theorem spec_l6Sort.mono_l : ∀ k, (∀ y0 y1 y2 y3, LeO (spec_l6Sort.l0 k y0 y1 y2 y3) (spec_l6Sort.l0 (k + 1) y0 y1 y2 y3)) ∧ (∀ y0 y1 y2 y3 y4, LeO (spec_l6Sort.j2 k y0 y1 y2 y3 y4) (spec_l6Sort.j2 (k + 1) y0 y1 y2 y3 y4)) ∧ (∀ y0 y1 y2 y3 y4 y5, LeO (spec_l6Sort.j3 k y0 y1 y2 y3 y4 y5) (spec_l6Sort.j3 (k + 1) y0 y1 y2 y3 y4 y5)) ∧ (∀ y0 y1 y2 y3 y4 y5 y6, LeO (spec_l6Sort.l2 k y0 y1 y2 y3 y4 y5 y6) (spec_l6Sort.l2 (k + 1) y0 y1 y2 y3 y4 y5 y6)) ∧ (∀ y0 y1 y2 y3 y4 y5, LeO (spec_l6Sort.l3 k y0 y1 y2 y3 y4 y5) (spec_l6Sort.l3 (k + 1) y0 y1 y2 y3 y4 y5)) ∧ (∀ y0 y1 y2 y3 y4, LeO (spec_l6Sort.l1 k y0 y1 y2 y3 y4) (spec_l6Sort.l1 (k + 1) y0 y1 y2 y3 y4))
 | 0 => ⟨fun _ _ _ _ r h => by simp [spec_l6Sort.l0] at h, fun _ _ _ _ _ r h => by simp [spec_l6Sort.j2] at h, fun _ _ _ _ _ _ r h => by simp [spec_l6Sort.j3] at h, fun _ _ _ _ _ _ _ r h => by simp [spec_l6Sort.l2] at h, fun _ _ _ _ _ _ r h => by simp [spec_l6Sort.l3] at h, fun _ _ _ _ _ r h => by simp [spec_l6Sort.l1] at h⟩
 | k + 1 => by
  obtain ⟨ih0,ih1,ih2,ih3,ih4,ih5⟩:=spec_l6Sort.mono_l k
  refine ⟨?_,?_,?_,?_,?_,?_⟩
  (intros;unfold spec_l6Sort.l0;rotate_left)
  (intros;unfold spec_l6Sort.j2;rotate_left)
  (intros;unfold spec_l6Sort.j3;rotate_left)
  (intros;unfold spec_l6Sort.l2;rotate_left)
  (intros;unfold spec_l6Sort.l3;rotate_left)
  (intros;unfold spec_l6Sort.l1;rotate_left)
  all_goals repeat' first
  | (with_reducible exact ih0 _ _ _ _)
  | (with_reducible exact ih1 _ _ _ _ _)
  | (with_reducible exact ih2 _ _ _ _ _ _)
  | (with_reducible exact ih3 _ _ _ _ _ _ _)
  | (with_reducible exact ih4 _ _ _ _ _ _)
  | (with_reducible exact ih5 _ _ _ _ _)
  | (with_reducible exact spec_l2Ints.mono _ _ _)
  | (with_reducible exact spec_l2Less.mono _ _ _)
  | (with_reducible exact LeO.refl _)
  | (with_reducible exact LeO.none _)
  | (with_reducible refine LeO.ite ?_ ?_)
  | (with_reducible refine LeO.bind ?_ (fun _ => ?_))
  | exact ih0 _ _ _ _
  | exact ih1 _ _ _ _ _
  | exact ih2 _ _ _ _ _ _
  | exact ih3 _ _ _ _ _ _ _
  | exact ih4 _ _ _ _ _ _
  | exact ih5 _ _ _ _ _
  | exact LeO.none _
  | refine LeO.ite ?_ ?_
  | refine LeO.bind ?_ (fun _ => ?_)
theorem spec_l6Sort.mono : ∀ a0 a1 k, LeO (spec_l6Sort.f k a0 a1) (spec_l6Sort.f (k + 1) a0 a1) := by
 intro a0 a1 k
 obtain ⟨ih0,ih1,ih2,ih3,ih4,ih5⟩:=spec_l6Sort.mono_l k
 unfold spec_l6Sort.f
 repeat' first
   | (with_reducible exact ih0 _ _ _ _)
   | (with_reducible exact ih1 _ _ _ _ _)
   | (with_reducible exact ih2 _ _ _ _ _ _)
   | (with_reducible exact ih3 _ _ _ _ _ _ _)
   | (with_reducible exact ih4 _ _ _ _ _ _)
   | (with_reducible exact ih5 _ _ _ _ _)
   | (with_reducible exact spec_l2Ints.mono _ _ _)
   | (with_reducible exact spec_l2Less.mono _ _ _)
   | (with_reducible exact LeO.refl _)
   | (with_reducible exact LeO.none _)
   | (with_reducible refine LeO.ite ?_ ?_)
   | (with_reducible refine LeO.bind ?_ (fun _ => ?_))
   | exact ih0 _ _ _ _
   | exact ih1 _ _ _ _ _
   | exact ih2 _ _ _ _ _ _
   | exact ih3 _ _ _ _ _ _ _
   | exact ih4 _ _ _ _ _ _
   | exact ih5 _ _ _ _ _
   | exact LeO.none _
   | refine LeO.ite ?_ ?_
   | refine LeO.bind ?_ (fun _ => ?_)
set_option maxHeartbeats 8000000 in
set_option maxRecDepth 100000 in
theorem spec_l6Sort.calls (k : Nat) (A0 : Option Addr) (c0 : Nat) (l0 : List (List Int)) (a1 : Bool) (r : List (List Int)) (w : World) (hr0 : Kd.C (Kd.slice 3 (Kd.int .i64)) w A0 l0.length l0) (hc0 : l0.length ≤ c0) (h : spec_l6Sort.f k l0 a1 = some r) :
  Calls Try.prog 99 #[.slice A0 l0.length c0, .bool a1] w fun e w' => ∃ v0_ : Value, e = .returned (v0_) ∧ Kd.N (Kd.slice 3 (Kd.int .i64)) 22 w' w.heap.size (fun k_ => (w.heap.size ≤ k_)) v0_ r ∧ Below w.heap.size w w' := by
 have HR0:=zA hr0;have HC0:=zA hc0;clear hr0 hc0;have HB:=zA (Below.refl w.heap.size w)
 have H : (spec_l6Sort.l0 k l0 a1 (([] : List (List Int))) 0) = some r:=h
 clear h;obtain ⟨y278,hy278⟩ : ∃ y_ : List (List Int),y_ = (([] : List (List Int))):=⟨_,rfl⟩
 replace H : (spec_l6Sort.l0 k l0 a1 y278 0) = some r:=by first|(rw [hy278];with_reducible exact H)|(have H2_:=(Option.bind_some _ _).symm.trans H;rw [hy278];with_reducible exact H2_)|(have H2_:=(Option.bind_some _ _).symm.trans H;with_reducible exact H2_)|with_reducible exact H|(rw [hy278];exact H)|exact H
 have Ny278:=zA hy278;clear hy278
 have H':=zA H
 clear H
 go_enter Try.func99,Try.ntmps99
 go_wp2_with (first|((with_reducible refine gate_dst (N:=11) rfl ?_);refine Kd.N_lit (Kd.slice 3 (Kd.int .i64)) _ 22 ?hg (N':=11) ?hd (xs:=([] : List (List Int))) (inner:=[]) (ok:=(fun k_ => (w.heap.size ≤ k_))) (okp:=(fun k_ => (w.heap.size ≤ k_))) ?hr ?hp (fun _ hk => hk) ((show ∀ k_,w.heap.size ≤ k_ → (fun k_ => (w.heap.size ≤ k_)) k_ from fun k_ hk => (Nat.le_trans (zT (zz HB)) hk)) _ (Nat.le_refl _)) (Below.refl _ _) (Nat.le_refl _) (by simp) ?_;(case hd => rfl);(case hg => rfl);(case hr => first|(go_simp;done)|(go_simp;rfl));(case hp => exact (Reps.none _ _));intro v279 w3 ho4 hb hg_ hnew_;clear hg_ hnew_;(first|rw [← Ny278.out] at ho4|(simp only [Int.reduceToNat] at ho4;rw [← Ny278.out] at ho4));have HO280:=zA (Kd.N_lower ho4 (zT (zz HB)));replace HB:=zA (zJb (zz HB) hb);clear hb ho4))
 repeat (go_quiet (first|((with_reducible refine gate_dst (N:=11) rfl ?_);refine Kd.N_lit (Kd.slice 3 (Kd.int .i64)) _ 22 ?hg (N':=11) ?hd (xs:=([] : List (List Int))) (inner:=[]) (ok:=(fun k_ => (w.heap.size ≤ k_))) (okp:=(fun k_ => (w.heap.size ≤ k_))) ?hr ?hp (fun _ hk => hk) ((show ∀ k_,w.heap.size ≤ k_ → (fun k_ => (w.heap.size ≤ k_)) k_ from fun k_ hk => (Nat.le_trans (zT (zz HB)) hk)) _ (Nat.le_refl _)) (Below.refl _ _) (Nat.le_refl _) (by simp) ?_;(case hd => rfl);(case hg => rfl);(case hr => first|(go_simp;done)|(go_simp;rfl));(case hp => exact (Reps.none _ _));intro v279 w3 ho4 hb hg_ hnew_;clear hg_ hnew_;(first|rw [← Ny278.out] at ho4|(simp only [Int.reduceToNat] at ho4;rw [← Ny278.out] at ho4));have HO280:=zA (Kd.N_lower ho4 (zT (zz HB)));replace HB:=zA (zJb (zz HB) hb);clear hb ho4));try go_wp2_with (first|((with_reducible refine gate_dst (N:=11) rfl ?_);refine Kd.N_lit (Kd.slice 3 (Kd.int .i64)) _ 22 ?hg (N':=11) ?hd (xs:=([] : List (List Int))) (inner:=[]) (ok:=(fun k_ => (w.heap.size ≤ k_))) (okp:=(fun k_ => (w.heap.size ≤ k_))) ?hr ?hp (fun _ hk => hk) ((show ∀ k_,w.heap.size ≤ k_ → (fun k_ => (w.heap.size ≤ k_)) k_ from fun k_ hk => (Nat.le_trans (zT (zz HB)) hk)) _ (Nat.le_refl _)) (Below.refl _ _) (Nat.le_refl _) (by simp) ?_;(case hd => rfl);(case hg => rfl);(case hr => first|(go_simp;done)|(go_simp;rfl));(case hp => exact (Reps.none _ _));intro v279 w3 ho4 hb hg_ hnew_;clear hg_ hnew_;(first|rw [← Ny278.out] at ho4|(simp only [Int.reduceToNat] at ho4;rw [← Ny278.out] at ho4));have HO280:=zA (Kd.N_lower ho4 (zT (zz HB)));replace HB:=zA (zJb (zz HB) hb);clear hb ho4)))
 go_loopg [5,6] k (fun kq v5 v6 w' => ∃ (x5_1 : List (List Int)) (x6_1 : Int),v6 = .int .i64 x6_1 ∧ Aside0 (spec_l6Sort.l0 kq l0 a1 x5_1 x6_1 = some r) ∧ Aside0 (kq ≤ k) ∧ Aside0 (Kd.N (Kd.slice 3 (Kd.int .i64)) 22 w' w.heap.size (fun k_ => (w.heap.size ≤ k_)) v5 x5_1) ∧ Aside0 (Below w.heap.size w w'))
 case atStart => exact ⟨(y278),(0),za,H',⟨Nat.le_refl _⟩,⟨by (with_reducible repeat (first|apply Kd.N_alloc|apply Kd.N_drewN|apply Kd.N_drew));exact HO280.out⟩,⟨zz HB⟩⟩
 case round =>
  clear H';(try clear p2);obtain ⟨x5_1,x6_1,rfl,HA,HK1,HO_5,HB⟩:=hrel
  cases gk with
  | zero => exact absurd HA.out (by simp [spec_l6Sort.l0])
  | succ k1 =>
   have H:=HA.out;clear HA;simp only [spec_l6Sort.l0] at H
   by_cases c5 : x6_1 < (l0.length : Int)
   ·
    rw [if_pos c5] at H;have c5b0:=decide_eq_true c5;clear c5;have HC6:=zA H;clear H;obtain ⟨Ao7,co7,eo7⟩:=Kd.N_slice HO_5.out
    subst eo7
    go_upto_block 2 with (fail)
    repeat (go_quiet (fail);go_upto_block 2 with (fail))
    go_cut [7] (fun v7 wc => ∃ (kq : Nat) (x7_5 : Int),v7 = .int .i64 x7_5 ∧ Aside0 (spec_l6Sort.j2 kq l0 a1 x5_1 x6_1 x7_5 = some r) ∧ Aside0 (kq ≤ k1) ∧ Aside0 (Kd.N (Kd.slice 3 (Kd.int .i64)) 22 wc w.heap.size (fun k_ => (w.heap.size ≤ k_)) (.slice Ao7 x5_1.length co7) x5_1) ∧ Aside0 (Below w.heap.size w wc))
    case first =>
     have H:=HC6.out;clear HC6
     have H':=zA H
     clear H
     go_wp2
     repeat (go_quiet (fail);try go_wp2)
     go_loopg [7] k1 (fun kq v7 w' => ∃ (x7_2 : Int),v7 = .int .i64 x7_2 ∧ Aside0 (spec_l6Sort.l1 kq l0 a1 x5_1 x6_1 x7_2 = some r) ∧ Aside0 (kq ≤ k1) ∧ Aside0 (Kd.N (Kd.slice 3 (Kd.int .i64)) 22 w' w.heap.size (fun k_ => (w.heap.size ≤ k_)) (.slice Ao7 x5_1.length co7) x5_1) ∧ Aside0 (Below w.heap.size w w'))
     case atStart => exact ⟨((x5_1.length : Int)),za,H',⟨Nat.le_refl _⟩,⟨by (with_reducible repeat (first|apply Kd.N_alloc|apply Kd.N_drewN|apply Kd.N_drew));exact HO_5.out⟩,⟨zz HB⟩⟩
     case round =>
      clear H';(try clear p2);(try clear c5);(try clear c5b0);(try clear p2);obtain ⟨x7_2,rfl,HA,HK2,HO_5,HB⟩:=hrel
      cases gk with
      | zero => exact absurd HA.out (by simp [spec_l6Sort.l1])
      | succ k2 =>
       have H:=HA.out;clear HA;simp only [spec_l6Sort.l1] at H
       by_cases c8 : x7_2 > 0
       ·
        rw [if_pos c8] at H
        have c8b0 : decide (0 < x7_2) = true:=decide_eq_true c8
        clear c8
        (first|rw [c8b0]|(simp only [i64_w,i32_w];rw [c8b0])|skip)
        by_cases c9 : 0 ≤ x6_1
        ·
         rw [if_pos c9] at H;have c9b0:=decide_eq_true c9;clear c9
         by_cases c10 : x6_1 < (l0.length : Int)
         ·
          rw [if_pos c10] at H;have c10b0:=decide_eq_true c10;clear c10;obtain ⟨ji11,hji11⟩ : ∃ j_ : Int,(wrap64 (x7_2 - 1)) = j_:=⟨_,rfl⟩
          replace H : (if 0 ≤ (ji11) then (if (ji11) < (x5_1.length : Int) then ((spec_l2Less.f k2 (rd_L1 l0 x6_1) (rd_L1 x5_1 (ji11))).bind fun t283 => (if t283 = true then (spec_l6Sort.l1 k2 l0 a1 x5_1 x6_1 ji11) else (spec_l6Sort.j2 k2 l0 a1 x5_1 x6_1 x7_2))) else (none)) else (none)) = some r:=by first|(rw [hji11] at H;exact H)|(simp only [hji11] at H ⊢;exact H)
          have hji11w : (IntKind.i64.wrap (x7_2 - 1)) = ji11:=(i64_w _).trans hji11
          by_cases c12 : 0 ≤ (ji11)
          ·
           rw [if_pos c12] at H;have c12b0:=decide_eq_true c12;clear c12
           by_cases c13 : (ji11) < (x5_1.length : Int)
           ·
            rw [if_pos c13] at H;have c13b0:=decide_eq_true c13;clear c13;replace H:=Option.bind_eq_some_iff.mp H;obtain ⟨t283,A140,H⟩:=H;(try dsimp only at H);have A14:=zA A140;clear A140
            by_cases c15 : t283 = true
            ·
             subst c15
             rw [if_pos rfl] at H
             have H':=zA H
             clear H;have p281 : 0 ≤ (x6_1 : Int):=zXb ze;have q281 : x6_1 < (l0.length : Int):=zXb ze;obtain ⟨ad281,A281_0,c281_0,e281,hx281_0,hl281_0,hi281_0⟩:=at_L1 HR0.out x6_1 p281 q281
             cases e281
             replace hx281_0:=(HB.out.cell (World.block_lt_of_cell? w _ hx281_0)).trans hx281_0;have HR281_0:=zA hi281_0;have HC281_0:=zA hl281_0;clear hi281_0 hl281_0;replace p281:=eq_true p281;replace q281:=eq_true q281;have p282 : 0 ≤ ((ji11) : Int):=zXb ze;have q282 : (ji11) < (x5_1.length : Int):=zXb ze;obtain ⟨ad282,A282_0,c282_0,e282,hx282_0,hl282_0,hi282_0⟩:=at_L1 (Kd.N_reads' HO_5.out).2.2 (ji11) p282 q282
             cases e282
             obtain ⟨ce282,hce282,hMe282,hcc282⟩:=Kd.N_get HO_5.out [] (ji11) p282 (by first|exact q282|exact zXb ze|(have e_:=(Kd.N_reads' HO_5.out).1;omega));obtain ⟨ua282_0,uc282_0,rfl,ul282_0,ge282_0⟩:=Kd.FK_slice_open hMe282;have hv282_0:=hcc282 0 _ rfl;rw [Nat.add_zero,show ((Kd.slice 3 (Kd.int .i64))).sz = 1 from rfl,Nat.mul_one] at hv282_0;replace hv282_0:=Option.some.inj (hv282_0.symm.trans hx282_0)
             injection hv282_0 with hva_ hvn_ hvc_
             rw [hva_] at ge282_0;rw [hvc_] at ul282_0;have HL282_0:=zA (show Kd.V (Kd.int .i64) 3 _ w.heap.size _ _ (rd_L1 x5_1 (ji11)) from Kd.V_mk ul282_0 ge282_0);clear hva_ hvn_ hvc_ ge282_0 ul282_0;clear hcc282 hce282;have HR282_0:=zA hi282_0;have HC282_0:=zA hl282_0;clear hi282_0 hl282_0;replace p282:=eq_true p282;replace q282:=eq_true q282
             go_wp2_with (first|(go_at_call 93;(with_reducible refine (spec_l2Less.calls k2 _ _ (rd_L1 l0 x6_1) _ _ (rd_L1 x5_1 (ji11)) true _ ?side1 ?side2 ?side3 ?side4 A14.out).mono ?_);(case side1 => exact zsd HR281_0 HB);(case side2 => exact HC281_0.out);(case side3 => repeat (first|exact (by repeat (first|(with_reducible exact HR282_0.out)|(with_reducible refine zBb ?_ _)|(with_reducible refine zAb ?_ _)|(with_reducible refine zX ?_)|exact HR282_0.out))|(with_reducible refine zBb ?_ _)|(with_reducible refine zAb ?_ _)|(with_reducible refine zX ?_)));(case side4 => exact HC282_0.out);rintro e w' ⟨rfl,⟨nd,rfl⟩⟩;(try first|exact ⟨rfl,_,World.drewN_drewN _ _ _⟩|exact ⟨rfl,_,Eq.trans (World.drewN_drewN _ _ _) (congrArg (World.drewN _) (Nat.add_assoc _ _ _))⟩)))
             repeat (go_quiet (first|(go_at_call 93;(with_reducible refine (spec_l2Less.calls k2 _ _ (rd_L1 l0 x6_1) _ _ (rd_L1 x5_1 (ji11)) true _ ?side1 ?side2 ?side3 ?side4 A14.out).mono ?_);(case side1 => exact zsd HR281_0 HB);(case side2 => exact HC281_0.out);(case side3 => repeat (first|exact (by repeat (first|(with_reducible exact HR282_0.out)|(with_reducible refine zBb ?_ _)|(with_reducible refine zAb ?_ _)|(with_reducible refine zX ?_)|exact HR282_0.out))|(with_reducible refine zBb ?_ _)|(with_reducible refine zAb ?_ _)|(with_reducible refine zX ?_)));(case side4 => exact HC282_0.out);rintro e w' ⟨rfl,⟨nd,rfl⟩⟩;(try first|exact ⟨rfl,_,World.drewN_drewN _ _ _⟩|exact ⟨rfl,_,Eq.trans (World.drewN_drewN _ _ _) (congrArg (World.drewN _) (Nat.add_assoc _ _ _))⟩)));try go_wp2_with (first|(go_at_call 93;(with_reducible refine (spec_l2Less.calls k2 _ _ (rd_L1 l0 x6_1) _ _ (rd_L1 x5_1 (ji11)) true _ ?side1 ?side2 ?side3 ?side4 A14.out).mono ?_);(case side1 => exact zsd HR281_0 HB);(case side2 => exact HC281_0.out);(case side3 => repeat (first|exact (by repeat (first|(with_reducible exact HR282_0.out)|(with_reducible refine zBb ?_ _)|(with_reducible refine zAb ?_ _)|(with_reducible refine zX ?_)|exact HR282_0.out))|(with_reducible refine zBb ?_ _)|(with_reducible refine zAb ?_ _)|(with_reducible refine zX ?_)));(case side4 => exact HC282_0.out);rintro e w' ⟨rfl,⟨nd,rfl⟩⟩;(try first|exact ⟨rfl,_,World.drewN_drewN _ _ _⟩|exact ⟨rfl,_,Eq.trans (World.drewN_drewN _ _ _) (congrArg (World.drewN _) (Nat.add_assoc _ _ _))⟩))))
             go_roundg k2
             case measure => have:=HK1.out;have:=HK2.out;omega
             case rel => exact ⟨(ji11),(by first|rfl|(simp;done)|(simp only [← hji11] <;> (first|rfl|simp))|(simp [*];done)),H',⟨by have:=HK1.out;have:=HK2.out;omega⟩,⟨by (with_reducible repeat (first|apply Kd.N_alloc|apply Kd.N_drewN|apply Kd.N_drew));exact HO_5.out⟩,⟨zz HB⟩⟩
            ·
             replace c15:=Bool.eq_false_iff.mpr c15
             subst c15
             have H1 : (spec_l6Sort.j2 k2 l0 a1 x5_1 x6_1 x7_2) = some r:=by rw [if_neg (show ¬ (false = true) by decide)] at H;exact H
             clear H;have H:=H1;clear H1
             have H':=zA H
             clear H;have p281 : 0 ≤ (x6_1 : Int):=zXb ze;have q281 : x6_1 < (l0.length : Int):=zXb ze;obtain ⟨ad281,A281_0,c281_0,e281,hx281_0,hl281_0,hi281_0⟩:=at_L1 HR0.out x6_1 p281 q281
             cases e281
             replace hx281_0:=(HB.out.cell (World.block_lt_of_cell? w _ hx281_0)).trans hx281_0;have HR281_0:=zA hi281_0;have HC281_0:=zA hl281_0;clear hi281_0 hl281_0;replace p281:=eq_true p281;replace q281:=eq_true q281;have p282 : 0 ≤ ((ji11) : Int):=zXb ze;have q282 : (ji11) < (x5_1.length : Int):=zXb ze;obtain ⟨ad282,A282_0,c282_0,e282,hx282_0,hl282_0,hi282_0⟩:=at_L1 (Kd.N_reads' HO_5.out).2.2 (ji11) p282 q282
             cases e282
             obtain ⟨ce282,hce282,hMe282,hcc282⟩:=Kd.N_get HO_5.out [] (ji11) p282 (by first|exact q282|exact zXb ze|(have e_:=(Kd.N_reads' HO_5.out).1;omega));obtain ⟨ua282_0,uc282_0,rfl,ul282_0,ge282_0⟩:=Kd.FK_slice_open hMe282;have hv282_0:=hcc282 0 _ rfl;rw [Nat.add_zero,show ((Kd.slice 3 (Kd.int .i64))).sz = 1 from rfl,Nat.mul_one] at hv282_0;replace hv282_0:=Option.some.inj (hv282_0.symm.trans hx282_0)
             injection hv282_0 with hva_ hvn_ hvc_
             rw [hva_] at ge282_0;rw [hvc_] at ul282_0;have HL282_0:=zA (show Kd.V (Kd.int .i64) 3 _ w.heap.size _ _ (rd_L1 x5_1 (ji11)) from Kd.V_mk ul282_0 ge282_0);clear hva_ hvn_ hvc_ ge282_0 ul282_0;clear hcc282 hce282;have HR282_0:=zA hi282_0;have HC282_0:=zA hl282_0;clear hi282_0 hl282_0;replace p282:=eq_true p282;replace q282:=eq_true q282
             go_wp2_with (first|(go_at_call 93;(with_reducible refine (spec_l2Less.calls k2 _ _ (rd_L1 l0 x6_1) _ _ (rd_L1 x5_1 (ji11)) false _ ?side1 ?side2 ?side3 ?side4 A14.out).mono ?_);(case side1 => exact zsd HR281_0 HB);(case side2 => exact HC281_0.out);(case side3 => repeat (first|exact (by repeat (first|(with_reducible exact HR282_0.out)|(with_reducible refine zBb ?_ _)|(with_reducible refine zAb ?_ _)|(with_reducible refine zX ?_)|exact HR282_0.out))|(with_reducible refine zBb ?_ _)|(with_reducible refine zAb ?_ _)|(with_reducible refine zX ?_)));(case side4 => exact HC282_0.out);rintro e w' ⟨rfl,⟨nd,rfl⟩⟩;(try first|exact ⟨rfl,_,World.drewN_drewN _ _ _⟩|exact ⟨rfl,_,Eq.trans (World.drewN_drewN _ _ _) (congrArg (World.drewN _) (Nat.add_assoc _ _ _))⟩)))
             repeat (go_quiet (first|(go_at_call 93;(with_reducible refine (spec_l2Less.calls k2 _ _ (rd_L1 l0 x6_1) _ _ (rd_L1 x5_1 (ji11)) false _ ?side1 ?side2 ?side3 ?side4 A14.out).mono ?_);(case side1 => exact zsd HR281_0 HB);(case side2 => exact HC281_0.out);(case side3 => repeat (first|exact (by repeat (first|(with_reducible exact HR282_0.out)|(with_reducible refine zBb ?_ _)|(with_reducible refine zAb ?_ _)|(with_reducible refine zX ?_)|exact HR282_0.out))|(with_reducible refine zBb ?_ _)|(with_reducible refine zAb ?_ _)|(with_reducible refine zX ?_)));(case side4 => exact HC282_0.out);rintro e w' ⟨rfl,⟨nd,rfl⟩⟩;(try first|exact ⟨rfl,_,World.drewN_drewN _ _ _⟩|exact ⟨rfl,_,Eq.trans (World.drewN_drewN _ _ _) (congrArg (World.drewN _) (Nat.add_assoc _ _ _))⟩)));try go_wp2_with (first|(go_at_call 93;(with_reducible refine (spec_l2Less.calls k2 _ _ (rd_L1 l0 x6_1) _ _ (rd_L1 x5_1 (ji11)) false _ ?side1 ?side2 ?side3 ?side4 A14.out).mono ?_);(case side1 => exact zsd HR281_0 HB);(case side2 => exact HC281_0.out);(case side3 => repeat (first|exact (by repeat (first|(with_reducible exact HR282_0.out)|(with_reducible refine zBb ?_ _)|(with_reducible refine zAb ?_ _)|(with_reducible refine zX ?_)|exact HR282_0.out))|(with_reducible refine zBb ?_ _)|(with_reducible refine zAb ?_ _)|(with_reducible refine zX ?_)));(case side4 => exact HC282_0.out);rintro e w' ⟨rfl,⟨nd,rfl⟩⟩;(try first|exact ⟨rfl,_,World.drewN_drewN _ _ _⟩|exact ⟨rfl,_,Eq.trans (World.drewN_drewN _ _ _) (congrArg (World.drewN _) (Nat.add_assoc _ _ _))⟩))))
             go_meet
             case rel => exact ⟨_,(x7_2),za,H',⟨by have:=HK1.out;have:=HK2.out;first|omega|exact Nat.le_refl _⟩,⟨by (with_reducible repeat (first|apply Kd.N_alloc|apply Kd.N_drewN|apply Kd.N_drew));exact HO_5.out⟩,⟨zz HB⟩⟩
           ·
            rw [if_neg c13] at H
            exact absurd H (by simp)
          ·
           rw [if_neg c12] at H
           exact absurd H (by simp)
         ·
          rw [if_neg c10] at H
          exact absurd H (by simp)
        ·
         rw [if_neg c9] at H
         exact absurd H (by simp)
       ·
        rw [if_neg c8] at H
        have c8b0 : decide (0 < x7_2) = false:=decide_eq_false c8
        clear c8
        (first|rw [c8b0]|(simp only [i64_w,i32_w];rw [c8b0])|skip)
        have H':=zA H
        clear H
        go_wp2
        repeat (go_quiet (fail);try go_wp2)
        go_meet
        case rel => exact ⟨_,(x7_2),za,H',⟨by have:=HK1.out;have:=HK2.out;first|omega|exact Nat.le_refl _⟩,⟨by (with_reducible repeat (first|apply Kd.N_alloc|apply Kd.N_drewN|apply Kd.N_drew));exact HO_5.out⟩,⟨zz HB⟩⟩
    case rest =>
     clear HC6;(try clear c1);(try clear c2);(try clear p2);(try clear q2);(try clear hx2);(try clear c5);(try clear c5b0);(try clear p6);(try clear c8);(try clear c8b0);(try clear c9);(try clear c9b0);(try clear c10);(try clear c10b0);(try clear c12);(try clear c12b0);(try clear c13);(try clear c13b0);(try clear c15);(try clear hx281_0);(try clear hx282_0);(try clear p2);(try clear p281);(try clear p282);(try clear q281);(try clear q282);obtain ⟨kq,x7_5,rfl,HA,HJ5,HO_5,HB⟩:=hcut
     cases kq with
     | zero => exact absurd HA.out (by simp [spec_l6Sort.j2])
     | succ kj5 =>
      have H:=HA.out;clear HA;simp only [spec_l6Sort.j2] at H;have HC16:=zA H;clear H
      go_upto_region 8 with (fail)
      repeat (go_quiet (fail);go_upto_region 8 with (fail))
      go_cut [52] (fun v52 wc => ∃ (kq : Nat) (x52_15 : Bool),v52 = .bool x52_15 ∧ Aside0 (spec_l6Sort.j3 kq l0 a1 x5_1 x6_1 x7_5 x52_15 = some r) ∧ Aside0 (kq ≤ kj5) ∧ Aside0 (Kd.N (Kd.slice 3 (Kd.int .i64)) 22 wc w.heap.size (fun k_ => (w.heap.size ≤ k_)) (.slice Ao7 x5_1.length co7) x5_1) ∧ Aside0 (Below w.heap.size w wc))
      case first =>
       have H:=HC16.out;clear HC16
       by_cases c17 : a1 = true
       ·
        subst c17
        rw [if_pos rfl] at H
        by_cases c18 : x7_5 > 0
        ·
         rw [if_pos c18] at H
         have c18b0 : decide (0 < x7_5) = true:=decide_eq_true c18
         clear c18
         (first|rw [c18b0]|(simp only [i64_w,i32_w];rw [c18b0])|skip)
         obtain ⟨ji19,hji19⟩ : ∃ j_ : Int,(wrap64 (x7_5 - 1)) = j_:=⟨_,rfl⟩
         replace H : (if 0 ≤ (ji19) then (if (ji19) < (x5_1.length : Int) then (if 0 ≤ x6_1 then (if x6_1 < (l0.length : Int) then ((spec_l2Ints.f kj5 (rd_L1 x5_1 (ji19)) (rd_L1 l0 x6_1)).bind fun t286 => (spec_l6Sort.j3 kj5 l0 true x5_1 x6_1 x7_5 t286)) else (none)) else (none)) else (none)) else (none)) = some r:=by first|(rw [hji19] at H;exact H)|(simp only [hji19] at H ⊢;exact H)
         have hji19w : (IntKind.i64.wrap (x7_5 - 1)) = ji19:=(i64_w _).trans hji19
         by_cases c20 : 0 ≤ (ji19)
         ·
          rw [if_pos c20] at H;have c20b0:=decide_eq_true c20;clear c20
          by_cases c21 : (ji19) < (x5_1.length : Int)
          ·
           rw [if_pos c21] at H;have c21b0:=decide_eq_true c21;clear c21
           by_cases c22 : 0 ≤ x6_1
           ·
            rw [if_pos c22] at H;have c22b0:=decide_eq_true c22;clear c22
            by_cases c23 : x6_1 < (l0.length : Int)
            ·
             rw [if_pos c23] at H;have c23b0:=decide_eq_true c23;clear c23;replace H:=Option.bind_eq_some_iff.mp H;obtain ⟨t286,A240,H⟩:=H;(try dsimp only at H);have A24:=zA A240;clear A240
             have H':=zA H
             clear H;have p284 : 0 ≤ ((ji19) : Int):=zXb ze;have q284 : (ji19) < (x5_1.length : Int):=zXb ze;obtain ⟨ad284,A284_0,c284_0,e284,hx284_0,hl284_0,hi284_0⟩:=at_L1 (Kd.N_reads' HO_5.out).2.2 (ji19) p284 q284
             cases e284
             obtain ⟨ce284,hce284,hMe284,hcc284⟩:=Kd.N_get HO_5.out [] (ji19) p284 (by first|exact q284|exact zXb ze|(have e_:=(Kd.N_reads' HO_5.out).1;omega));obtain ⟨ua284_0,uc284_0,rfl,ul284_0,ge284_0⟩:=Kd.FK_slice_open hMe284;have hv284_0:=hcc284 0 _ rfl;rw [Nat.add_zero,show ((Kd.slice 3 (Kd.int .i64))).sz = 1 from rfl,Nat.mul_one] at hv284_0;replace hv284_0:=Option.some.inj (hv284_0.symm.trans hx284_0)
             injection hv284_0 with hva_ hvn_ hvc_
             rw [hva_] at ge284_0;rw [hvc_] at ul284_0;have HL284_0:=zA (show Kd.V (Kd.int .i64) 3 _ w.heap.size _ _ (rd_L1 x5_1 (ji19)) from Kd.V_mk ul284_0 ge284_0);clear hva_ hvn_ hvc_ ge284_0 ul284_0;clear hcc284 hce284;have HR284_0:=zA hi284_0;have HC284_0:=zA hl284_0;clear hi284_0 hl284_0;replace p284:=eq_true p284;replace q284:=eq_true q284;have p285 : 0 ≤ (x6_1 : Int):=zXb ze;have q285 : x6_1 < (l0.length : Int):=zXb ze;obtain ⟨ad285,A285_0,c285_0,e285,hx285_0,hl285_0,hi285_0⟩:=at_L1 HR0.out x6_1 p285 q285
             cases e285
             replace hx285_0:=(HB.out.cell (World.block_lt_of_cell? w _ hx285_0)).trans hx285_0;have HR285_0:=zA hi285_0;have HC285_0:=zA hl285_0;clear hi285_0 hl285_0;replace p285:=eq_true p285;replace q285:=eq_true q285
             go_wp2_with (first|(go_at_call 91;(with_reducible refine (spec_l2Ints.calls kj5 _ _ (rd_L1 x5_1 (ji19)) _ _ (rd_L1 l0 x6_1) t286 _ ?side1 ?side2 ?side3 ?side4 A24.out).mono ?_);(case side1 => repeat (first|exact (by repeat (first|(with_reducible exact HR284_0.out)|(with_reducible refine zBb ?_ _)|(with_reducible refine zAb ?_ _)|(with_reducible refine zX ?_)|exact HR284_0.out))|(with_reducible refine zBb ?_ _)|(with_reducible refine zAb ?_ _)|(with_reducible refine zX ?_)));(case side2 => exact HC284_0.out);(case side3 => exact zsd HR285_0 HB);(case side4 => exact HC285_0.out);rintro e w' ⟨rfl,⟨nd,rfl⟩⟩;(try first|exact ⟨rfl,_,World.drewN_drewN _ _ _⟩|exact ⟨rfl,_,Eq.trans (World.drewN_drewN _ _ _) (congrArg (World.drewN _) (Nat.add_assoc _ _ _))⟩)))
             repeat (go_quiet (first|(go_at_call 91;(with_reducible refine (spec_l2Ints.calls kj5 _ _ (rd_L1 x5_1 (ji19)) _ _ (rd_L1 l0 x6_1) t286 _ ?side1 ?side2 ?side3 ?side4 A24.out).mono ?_);(case side1 => repeat (first|exact (by repeat (first|(with_reducible exact HR284_0.out)|(with_reducible refine zBb ?_ _)|(with_reducible refine zAb ?_ _)|(with_reducible refine zX ?_)|exact HR284_0.out))|(with_reducible refine zBb ?_ _)|(with_reducible refine zAb ?_ _)|(with_reducible refine zX ?_)));(case side2 => exact HC284_0.out);(case side3 => exact zsd HR285_0 HB);(case side4 => exact HC285_0.out);rintro e w' ⟨rfl,⟨nd,rfl⟩⟩;(try first|exact ⟨rfl,_,World.drewN_drewN _ _ _⟩|exact ⟨rfl,_,Eq.trans (World.drewN_drewN _ _ _) (congrArg (World.drewN _) (Nat.add_assoc _ _ _))⟩)));try go_wp2_with (first|(go_at_call 91;(with_reducible refine (spec_l2Ints.calls kj5 _ _ (rd_L1 x5_1 (ji19)) _ _ (rd_L1 l0 x6_1) t286 _ ?side1 ?side2 ?side3 ?side4 A24.out).mono ?_);(case side1 => repeat (first|exact (by repeat (first|(with_reducible exact HR284_0.out)|(with_reducible refine zBb ?_ _)|(with_reducible refine zAb ?_ _)|(with_reducible refine zX ?_)|exact HR284_0.out))|(with_reducible refine zBb ?_ _)|(with_reducible refine zAb ?_ _)|(with_reducible refine zX ?_)));(case side2 => exact HC284_0.out);(case side3 => exact zsd HR285_0 HB);(case side4 => exact HC285_0.out);rintro e w' ⟨rfl,⟨nd,rfl⟩⟩;(try first|exact ⟨rfl,_,World.drewN_drewN _ _ _⟩|exact ⟨rfl,_,Eq.trans (World.drewN_drewN _ _ _) (congrArg (World.drewN _) (Nat.add_assoc _ _ _))⟩))))
             go_meet
             case rel => exact ⟨_,(t286),za,H',⟨by have:=HK1.out;have:=HJ5.out;first|omega|exact Nat.le_refl _⟩,⟨by (with_reducible repeat (first|apply Kd.N_alloc|apply Kd.N_drewN|apply Kd.N_drew));exact HO_5.out⟩,⟨zz HB⟩⟩
            ·
             rw [if_neg c23] at H
             exact absurd H (by simp)
           ·
            rw [if_neg c22] at H
            exact absurd H (by simp)
          ·
           rw [if_neg c21] at H
           exact absurd H (by simp)
         ·
          rw [if_neg c20] at H
          exact absurd H (by simp)
        ·
         rw [if_neg c18] at H
         have c18b0 : decide (0 < x7_5) = false:=decide_eq_false c18
         clear c18
         (first|rw [c18b0]|(simp only [i64_w,i32_w];rw [c18b0])|skip)
         have H':=zA H
         clear H
         go_wp2
         repeat (go_quiet (fail);try go_wp2)
         go_meet
         case rel => exact ⟨_,(false),za,H',⟨by have:=HK1.out;have:=HJ5.out;first|omega|exact Nat.le_refl _⟩,⟨by (with_reducible repeat (first|apply Kd.N_alloc|apply Kd.N_drewN|apply Kd.N_drew));exact HO_5.out⟩,⟨zz HB⟩⟩
       ·
        replace c17:=Bool.eq_false_iff.mpr c17
        subst c17
        have H1 : (spec_l6Sort.j3 kj5 l0 false x5_1 x6_1 x7_5 false) = some r:=by rw [if_neg (show ¬ (false = true) by decide)] at H;exact H
        clear H;have H:=H1;clear H1
        have H':=zA H
        clear H
        go_wp2
        repeat (go_quiet (fail);try go_wp2)
        go_meet
        case rel => exact ⟨_,(false),za,H',⟨by have:=HK1.out;have:=HJ5.out;first|omega|exact Nat.le_refl _⟩,⟨by (with_reducible repeat (first|apply Kd.N_alloc|apply Kd.N_drewN|apply Kd.N_drew));exact HO_5.out⟩,⟨zz HB⟩⟩
      case rest =>
       clear HC16;(try clear c1);(try clear c2);(try clear p2);(try clear q2);(try clear hx2);(try clear c5);(try clear c5b0);(try clear p6);(try clear c8);(try clear c8b0);(try clear c9);(try clear c9b0);(try clear c10);(try clear c10b0);(try clear c12);(try clear c12b0);(try clear c13);(try clear c13b0);(try clear c15);(try clear c17);(try clear c18);(try clear c18b0);(try clear c20);(try clear c20b0);(try clear c21);(try clear c21b0);(try clear c22);(try clear c22b0);(try clear c23);(try clear c23b0);(try clear hx281_0);(try clear hx282_0);(try clear hx284_0);(try clear hx285_0);(try clear p2);(try clear p281);(try clear p282);(try clear p284);(try clear p285);(try clear p6);(try clear q2);(try clear q281);(try clear q282);(try clear q284);(try clear q285);obtain ⟨kq,x52_15,rfl,HA,HJ15,HO_5,HB⟩:=hcut
       cases kq with
       | zero => exact absurd HA.out (by simp [spec_l6Sort.j3])
       | succ kj15 =>
        have H:=HA.out;clear HA;simp only [spec_l6Sort.j3] at H
        by_cases c25 : x52_15 = true
        ·
         subst c25
         rw [if_pos rfl] at H
         have H':=zA H
         clear H
         go_wp2
         repeat (go_quiet (fail);try go_wp2)
         go_roundg kj15
         case measure => have:=HK1.out;have:=HJ5.out;have:=HJ15.out;omega
         case rel => exact ⟨(x5_1),(wrap64 (x6_1 + 1)),za,H',⟨by have:=HK1.out;have:=HJ5.out;have:=HJ15.out;omega⟩,⟨by (with_reducible repeat (first|apply Kd.N_alloc|apply Kd.N_drewN|apply Kd.N_drew));exact HO_5.out⟩,⟨zz HB⟩⟩
        ·
         replace c25:=Bool.eq_false_iff.mpr c25
         subst c25
         have H1 : (spec_l6Sort.l2 kj15 l0 a1 x5_1 x6_1 x7_5 (([] : List (List Int))) 0) = some r:=by rw [if_neg (show ¬ (false = true) by decide)] at H;exact H
         clear H;have H:=H1;clear H1;obtain ⟨y287,hy287⟩ : ∃ y_ : List (List Int),y_ = (([] : List (List Int))):=⟨_,rfl⟩
         replace H : (spec_l6Sort.l2 kj15 l0 a1 x5_1 x6_1 x7_5 y287 0) = some r:=by first|(rw [hy287];with_reducible exact H)|(have H2_:=(Option.bind_some _ _).symm.trans H;rw [hy287];with_reducible exact H2_)|(have H2_:=(Option.bind_some _ _).symm.trans H;with_reducible exact H2_)|with_reducible exact H|(rw [hy287];exact H)|exact H
         have Ny287:=zA hy287;clear hy287
         have H':=zA H
         clear H
         go_wp2_with (first|((with_reducible refine gate_dst (N:=53) rfl ?_);refine Kd.N_lit (Kd.slice 3 (Kd.int .i64)) _ 22 ?hg (N':=53) ?hd (xs:=([] : List (List Int))) (inner:=[]) (ok:=(fun k_ => (w.heap.size ≤ k_) ∧ some k_ ≠ (.slice Ao7 x5_1.length co7 : Value).ownBlock)) (okp:=(fun k_ => (w.heap.size ≤ k_) ∧ some k_ ≠ (.slice Ao7 x5_1.length co7 : Value).ownBlock)) ?hr ?hp (fun _ hk => hk) ((show ∀ k_,wc.heap.size ≤ k_ → (fun k_ => (w.heap.size ≤ k_) ∧ some k_ ≠ (.slice Ao7 x5_1.length co7 : Value).ownBlock) k_ from fun k_ hk => ⟨(Nat.le_trans (zT (zz HB)) hk),Kd.fresh' (Kd.N_lt (by (with_reducible repeat (first|apply Kd.N_alloc|apply Kd.N_drewN|apply Kd.N_drew));exact HO_5.out)) k_ hk⟩) _ (Nat.le_refl _)) (Below.refl _ _) (Nat.le_refl _) (by simp) ?_;(case hd => rfl);(case hg => rfl);(case hr => first|(go_simp;done)|(go_simp;rfl));(case hp => exact (Reps.none _ _));intro v288 w26 ho27 hb hg_ hnew_;clear hg_ hnew_;(first|rw [← Ny287.out] at ho27|(simp only [Int.reduceToNat] at ho27;rw [← Ny287.out] at ho27));replace HO_5:=zA (Kd.N_elder' (by (with_reducible repeat (first|apply Kd.N_alloc|apply Kd.N_drewN|apply Kd.N_drew));exact HO_5.out) (Kd.N_base ho27) hb);have HO289:=zA (Kd.N_lower ho27 (zT (zz HB)));replace HB:=zA (zJb (zz HB) hb);clear hb ho27))
         repeat (go_quiet (first|((with_reducible refine gate_dst (N:=53) rfl ?_);refine Kd.N_lit (Kd.slice 3 (Kd.int .i64)) _ 22 ?hg (N':=53) ?hd (xs:=([] : List (List Int))) (inner:=[]) (ok:=(fun k_ => (w.heap.size ≤ k_) ∧ some k_ ≠ (.slice Ao7 x5_1.length co7 : Value).ownBlock)) (okp:=(fun k_ => (w.heap.size ≤ k_) ∧ some k_ ≠ (.slice Ao7 x5_1.length co7 : Value).ownBlock)) ?hr ?hp (fun _ hk => hk) ((show ∀ k_,wc.heap.size ≤ k_ → (fun k_ => (w.heap.size ≤ k_) ∧ some k_ ≠ (.slice Ao7 x5_1.length co7 : Value).ownBlock) k_ from fun k_ hk => ⟨(Nat.le_trans (zT (zz HB)) hk),Kd.fresh' (Kd.N_lt (by (with_reducible repeat (first|apply Kd.N_alloc|apply Kd.N_drewN|apply Kd.N_drew));exact HO_5.out)) k_ hk⟩) _ (Nat.le_refl _)) (Below.refl _ _) (Nat.le_refl _) (by simp) ?_;(case hd => rfl);(case hg => rfl);(case hr => first|(go_simp;done)|(go_simp;rfl));(case hp => exact (Reps.none _ _));intro v288 w26 ho27 hb hg_ hnew_;clear hg_ hnew_;(first|rw [← Ny287.out] at ho27|(simp only [Int.reduceToNat] at ho27;rw [← Ny287.out] at ho27));replace HO_5:=zA (Kd.N_elder' (by (with_reducible repeat (first|apply Kd.N_alloc|apply Kd.N_drewN|apply Kd.N_drew));exact HO_5.out) (Kd.N_base ho27) hb);have HO289:=zA (Kd.N_lower ho27 (zT (zz HB)));replace HB:=zA (zJb (zz HB) hb);clear hb ho27));try go_wp2_with (first|((with_reducible refine gate_dst (N:=53) rfl ?_);refine Kd.N_lit (Kd.slice 3 (Kd.int .i64)) _ 22 ?hg (N':=53) ?hd (xs:=([] : List (List Int))) (inner:=[]) (ok:=(fun k_ => (w.heap.size ≤ k_) ∧ some k_ ≠ (.slice Ao7 x5_1.length co7 : Value).ownBlock)) (okp:=(fun k_ => (w.heap.size ≤ k_) ∧ some k_ ≠ (.slice Ao7 x5_1.length co7 : Value).ownBlock)) ?hr ?hp (fun _ hk => hk) ((show ∀ k_,wc.heap.size ≤ k_ → (fun k_ => (w.heap.size ≤ k_) ∧ some k_ ≠ (.slice Ao7 x5_1.length co7 : Value).ownBlock) k_ from fun k_ hk => ⟨(Nat.le_trans (zT (zz HB)) hk),Kd.fresh' (Kd.N_lt (by (with_reducible repeat (first|apply Kd.N_alloc|apply Kd.N_drewN|apply Kd.N_drew));exact HO_5.out)) k_ hk⟩) _ (Nat.le_refl _)) (Below.refl _ _) (Nat.le_refl _) (by simp) ?_;(case hd => rfl);(case hg => rfl);(case hr => first|(go_simp;done)|(go_simp;rfl));(case hp => exact (Reps.none _ _));intro v288 w26 ho27 hb hg_ hnew_;clear hg_ hnew_;(first|rw [← Ny287.out] at ho27|(simp only [Int.reduceToNat] at ho27;rw [← Ny287.out] at ho27));replace HO_5:=zA (Kd.N_elder' (by (with_reducible repeat (first|apply Kd.N_alloc|apply Kd.N_drewN|apply Kd.N_drew));exact HO_5.out) (Kd.N_base ho27) hb);have HO289:=zA (Kd.N_lower ho27 (zT (zz HB)));replace HB:=zA (zJb (zz HB) hb);clear hb ho27)))
         go_loopg [8,9] kj15 (fun kq v8 v9 w' => ∃ (x8_4 : List (List Int)) (x9_4 : Int),v9 = .int .i64 x9_4 ∧ Aside0 (spec_l6Sort.l2 kq l0 a1 x5_1 x6_1 x7_5 x8_4 x9_4 = some r) ∧ Aside0 (kq ≤ kj15) ∧ Aside0 (Kd.N (Kd.slice 3 (Kd.int .i64)) 22 w' w.heap.size (fun k_ => (w.heap.size ≤ k_) ∧ some k_ ≠ (v8 : Value).ownBlock) (.slice Ao7 x5_1.length co7) x5_1) ∧ Aside0 (Kd.N (Kd.slice 3 (Kd.int .i64)) 22 w' w.heap.size (fun k_ => (w.heap.size ≤ k_) ∧ some k_ ≠ ((.slice Ao7 x5_1.length co7) : Value).ownBlock) v8 x8_4) ∧ Aside0 (Below w.heap.size w w'))
         case atStart => exact ⟨(y287),(0),za,H',⟨Nat.le_refl _⟩,⟨by (with_reducible repeat (first|apply Kd.N_alloc|apply Kd.N_drewN|apply Kd.N_drew));exact HO_5.out⟩,⟨by (with_reducible repeat (first|apply Kd.N_alloc|apply Kd.N_drewN|apply Kd.N_drew));exact HO289.out⟩,⟨zz HB⟩⟩
         case round =>
          clear H';(try clear c1);(try clear c2);(try clear p2);(try clear q2);(try clear hx2);(try clear c5);(try clear c5b0);(try clear p6);(try clear c8);(try clear c8b0);(try clear c9);(try clear c9b0);(try clear c10);(try clear c10b0);(try clear c12);(try clear c12b0);(try clear c13);(try clear c13b0);(try clear c15);(try clear c17);(try clear c18);(try clear c18b0);(try clear c20);(try clear c20b0);(try clear c21);(try clear c21b0);(try clear c22);(try clear c22b0);(try clear c23);(try clear c23b0);(try clear c25);(try clear hx281_0);(try clear hx282_0);(try clear hx284_0);(try clear hx285_0);(try clear p2);(try clear p281);(try clear p282);(try clear p284);(try clear p285);(try clear p6);(try clear q2);(try clear q281);(try clear q282);(try clear q284);(try clear q285);obtain ⟨x8_4,x9_4,rfl,HA,HK4,HO_5,HO_8,HB⟩:=hrel
          cases gk with
          | zero => exact absurd HA.out (by simp [spec_l6Sort.l2])
          | succ k4 =>
           have H:=HA.out;clear HA;simp only [spec_l6Sort.l2] at H
           by_cases c28 : x9_4 < x7_5
           ·
            rw [if_pos c28] at H;have c28b0:=decide_eq_true c28;clear c28
            by_cases c29 : 0 ≤ x9_4
            ·
             rw [if_pos c29] at H;have c29b0:=decide_eq_true c29;clear c29
             by_cases c30 : x9_4 < (x5_1.length : Int)
             ·
              rw [if_pos c30] at H;have c30b0:=decide_eq_true c30;clear c30
              by_cases c31 : x8_4.length < 5864062014805
              ·
               rw [if_pos c31] at H;have LMc31:=zA c31;clear c31;obtain ⟨y291,hy291⟩ : ∃ y_ : List (List Int),y_ = (x8_4 ++ [rd_L1 x5_1 x9_4]):=⟨_,rfl⟩
               replace H : (spec_l6Sort.l2 k4 l0 a1 x5_1 x6_1 x7_5 y291 (wrap64 (x9_4 + 1))) = some r:=by first|(rw [hy291];with_reducible exact H)|(have H2_:=(Option.bind_some _ _).symm.trans H;rw [hy291];with_reducible exact H2_)|(have H2_:=(Option.bind_some _ _).symm.trans H;with_reducible exact H2_)|with_reducible exact H|(rw [hy291];exact H)|exact H
               have Ny291:=zA hy291;clear hy291
               have H':=zA H
               clear H;have p290 : 0 ≤ (x9_4 : Int):=zXb ze;have q290 : x9_4 < (x5_1.length : Int):=zXb ze;obtain ⟨ad290,A290_0,c290_0,e290,hx290_0,hl290_0,hi290_0⟩:=at_L1 (Kd.N_reads' HO_5.out).2.2 x9_4 p290 q290
               cases e290
               obtain ⟨ce290,hce290,hMe290,hcc290⟩:=Kd.N_get HO_5.out [] x9_4 p290 (by first|exact q290|exact zXb ze|(have e_:=(Kd.N_reads' HO_5.out).1;omega));obtain ⟨ua290_0,uc290_0,rfl,ul290_0,ge290_0⟩:=Kd.FK_slice_open hMe290;have hv290_0:=hcc290 0 _ rfl;rw [Nat.add_zero,show ((Kd.slice 3 (Kd.int .i64))).sz = 1 from rfl,Nat.mul_one] at hv290_0;replace hv290_0:=Option.some.inj (hv290_0.symm.trans hx290_0)
               injection hv290_0 with hva_ hvn_ hvc_
               rw [hva_] at ge290_0;rw [hvc_] at ul290_0;have HL290_0:=zA (show Kd.V (Kd.int .i64) 3 _ w.heap.size _ _ (rd_L1 x5_1 x9_4) from Kd.V_mk ul290_0 ge290_0);clear hva_ hvn_ hvc_ ge290_0 ul290_0;clear hcc290 hce290;have HR290_0:=zA hi290_0;have HC290_0:=zA hl290_0;clear hi290_0 hl290_0;replace p290:=eq_true p290;replace q290:=eq_true q290
               go_wp2_with (first|((with_reducible refine gate_builtin (b:=.append) (xs:=#[.tmp 59,.tmp 64]) rfl ?_);at_builtin;refine Kd.N_append (Kd.slice 3 (Kd.int .i64)) (w0:=w) w.heap.size rfl (.tmp 59) (.tmp 64) 57 22 (.slice none 0 0) 24 rfl Try.underlying57 info22 rfl (by decide) (by omega) u8 x8_4 (rd_L1 x5_1 x9_4) [.slice A290_0 (rd_L1 x5_1 x9_4).length c290_0] (fun k_ => (w.heap.size ≤ k_) ∧ some k_ ≠ (.slice (some ad290) x5_1.length co7 : Value).ownBlock) (fun k_ => ((fun k_ => (w.heap.size ≤ k_) ∧ some k_ ≠ (.slice (some ad290) x5_1.length co7 : Value).ownBlock)) k_ ∧ some k_ ≠ (u8 : Value).ownBlock) rfl rfl ?aP (fun _ hk => hk) ?aF ?aO ?aB ?aS ?aL ?_;(case aP => exact (Kd.FK_slice_mk (Kd.V_reads' (Kd.V_mono (ok':=(fun k_ => ((fun k_ => (w.heap.size ≤ k_) ∧ some k_ ≠ (.slice (some ad290) x5_1.length co7 : Value).ownBlock)) k_ ∧ some k_ ≠ (u8 : Value).ownBlock)) (HL290_0.out) (fun k_ hk => ⟨⟨hk.1.1,hk.2⟩,hk.1.2⟩))).2.1 (Kd.V_F (Kd.V_mono (ok':=(fun k_ => ((fun k_ => (w.heap.size ≤ k_) ∧ some k_ ≠ (.slice (some ad290) x5_1.length co7 : Value).ownBlock)) k_ ∧ some k_ ≠ (u8 : Value).ownBlock)) (HL290_0.out) (fun k_ hk => ⟨⟨hk.1.1,hk.2⟩,hk.1.2⟩)))));(case aB => exact (zz HB));(case aF => exact (fun k_ hk => ⟨(Nat.le_trans (zT (zz HB)) hk),Kd.fresh' (Kd.N_lt (by (with_reducible repeat (first|apply Kd.N_alloc|apply Kd.N_drewN|apply Kd.N_drew));exact HO_5.out)) k_ hk⟩));(case aO => exact (by (with_reducible repeat (first|apply Kd.N_alloc|apply Kd.N_drewN|apply Kd.N_drew));exact HO_8.out));(case aS => exact (zT (zz HB)));(case aL => have:=LMc31.out;omega);intro v292 w32 ho hb hg hat;rw [← Ny291.out] at ho;replace HO_5:=zA (Kd.N_afterv (ok:=(fun k_ => (w.heap.size ≤ k_))) (by (with_reducible repeat (first|apply Kd.N_alloc|apply Kd.N_drewN|apply Kd.N_drew));exact HO_5.out) hg hat);replace HL290_0:=zA (Kd.V_afterv (ok:=(fun k_ => (w.heap.size ≤ k_) ∧ some k_ ≠ (.slice (some ad290) x5_1.length co7 : Value).ownBlock)) (by (with_reducible repeat (first|apply Kd.V_alloc|apply Kd.V_drewN|apply Kd.V_drew));exact Kd.V_mono HL290_0.out (fun _ hk => ⟨⟨hk.1.1,hk.2⟩,hk.1.2⟩)) hg hat);replace HB:=zA (hb);have HO293:=zA (ho);clear HO_8;clear ho hb hg hat))
               repeat (go_quiet (first|((with_reducible refine gate_builtin (b:=.append) (xs:=#[.tmp 59,.tmp 64]) rfl ?_);at_builtin;refine Kd.N_append (Kd.slice 3 (Kd.int .i64)) (w0:=w) w.heap.size rfl (.tmp 59) (.tmp 64) 57 22 (.slice none 0 0) 24 rfl Try.underlying57 info22 rfl (by decide) (by omega) u8 x8_4 (rd_L1 x5_1 x9_4) [.slice A290_0 (rd_L1 x5_1 x9_4).length c290_0] (fun k_ => (w.heap.size ≤ k_) ∧ some k_ ≠ (.slice (some ad290) x5_1.length co7 : Value).ownBlock) (fun k_ => ((fun k_ => (w.heap.size ≤ k_) ∧ some k_ ≠ (.slice (some ad290) x5_1.length co7 : Value).ownBlock)) k_ ∧ some k_ ≠ (u8 : Value).ownBlock) rfl rfl ?aP (fun _ hk => hk) ?aF ?aO ?aB ?aS ?aL ?_;(case aP => exact (Kd.FK_slice_mk (Kd.V_reads' (Kd.V_mono (ok':=(fun k_ => ((fun k_ => (w.heap.size ≤ k_) ∧ some k_ ≠ (.slice (some ad290) x5_1.length co7 : Value).ownBlock)) k_ ∧ some k_ ≠ (u8 : Value).ownBlock)) (HL290_0.out) (fun k_ hk => ⟨⟨hk.1.1,hk.2⟩,hk.1.2⟩))).2.1 (Kd.V_F (Kd.V_mono (ok':=(fun k_ => ((fun k_ => (w.heap.size ≤ k_) ∧ some k_ ≠ (.slice (some ad290) x5_1.length co7 : Value).ownBlock)) k_ ∧ some k_ ≠ (u8 : Value).ownBlock)) (HL290_0.out) (fun k_ hk => ⟨⟨hk.1.1,hk.2⟩,hk.1.2⟩)))));(case aB => exact (zz HB));(case aF => exact (fun k_ hk => ⟨(Nat.le_trans (zT (zz HB)) hk),Kd.fresh' (Kd.N_lt (by (with_reducible repeat (first|apply Kd.N_alloc|apply Kd.N_drewN|apply Kd.N_drew));exact HO_5.out)) k_ hk⟩));(case aO => exact (by (with_reducible repeat (first|apply Kd.N_alloc|apply Kd.N_drewN|apply Kd.N_drew));exact HO_8.out));(case aS => exact (zT (zz HB)));(case aL => have:=LMc31.out;omega);intro v292 w32 ho hb hg hat;rw [← Ny291.out] at ho;replace HO_5:=zA (Kd.N_afterv (ok:=(fun k_ => (w.heap.size ≤ k_))) (by (with_reducible repeat (first|apply Kd.N_alloc|apply Kd.N_drewN|apply Kd.N_drew));exact HO_5.out) hg hat);replace HL290_0:=zA (Kd.V_afterv (ok:=(fun k_ => (w.heap.size ≤ k_) ∧ some k_ ≠ (.slice (some ad290) x5_1.length co7 : Value).ownBlock)) (by (with_reducible repeat (first|apply Kd.V_alloc|apply Kd.V_drewN|apply Kd.V_drew));exact Kd.V_mono HL290_0.out (fun _ hk => ⟨⟨hk.1.1,hk.2⟩,hk.1.2⟩)) hg hat);replace HB:=zA (hb);have HO293:=zA (ho);clear HO_8;clear ho hb hg hat));try go_wp2_with (first|((with_reducible refine gate_builtin (b:=.append) (xs:=#[.tmp 59,.tmp 64]) rfl ?_);at_builtin;refine Kd.N_append (Kd.slice 3 (Kd.int .i64)) (w0:=w) w.heap.size rfl (.tmp 59) (.tmp 64) 57 22 (.slice none 0 0) 24 rfl Try.underlying57 info22 rfl (by decide) (by omega) u8 x8_4 (rd_L1 x5_1 x9_4) [.slice A290_0 (rd_L1 x5_1 x9_4).length c290_0] (fun k_ => (w.heap.size ≤ k_) ∧ some k_ ≠ (.slice (some ad290) x5_1.length co7 : Value).ownBlock) (fun k_ => ((fun k_ => (w.heap.size ≤ k_) ∧ some k_ ≠ (.slice (some ad290) x5_1.length co7 : Value).ownBlock)) k_ ∧ some k_ ≠ (u8 : Value).ownBlock) rfl rfl ?aP (fun _ hk => hk) ?aF ?aO ?aB ?aS ?aL ?_;(case aP => exact (Kd.FK_slice_mk (Kd.V_reads' (Kd.V_mono (ok':=(fun k_ => ((fun k_ => (w.heap.size ≤ k_) ∧ some k_ ≠ (.slice (some ad290) x5_1.length co7 : Value).ownBlock)) k_ ∧ some k_ ≠ (u8 : Value).ownBlock)) (HL290_0.out) (fun k_ hk => ⟨⟨hk.1.1,hk.2⟩,hk.1.2⟩))).2.1 (Kd.V_F (Kd.V_mono (ok':=(fun k_ => ((fun k_ => (w.heap.size ≤ k_) ∧ some k_ ≠ (.slice (some ad290) x5_1.length co7 : Value).ownBlock)) k_ ∧ some k_ ≠ (u8 : Value).ownBlock)) (HL290_0.out) (fun k_ hk => ⟨⟨hk.1.1,hk.2⟩,hk.1.2⟩)))));(case aB => exact (zz HB));(case aF => exact (fun k_ hk => ⟨(Nat.le_trans (zT (zz HB)) hk),Kd.fresh' (Kd.N_lt (by (with_reducible repeat (first|apply Kd.N_alloc|apply Kd.N_drewN|apply Kd.N_drew));exact HO_5.out)) k_ hk⟩));(case aO => exact (by (with_reducible repeat (first|apply Kd.N_alloc|apply Kd.N_drewN|apply Kd.N_drew));exact HO_8.out));(case aS => exact (zT (zz HB)));(case aL => have:=LMc31.out;omega);intro v292 w32 ho hb hg hat;rw [← Ny291.out] at ho;replace HO_5:=zA (Kd.N_afterv (ok:=(fun k_ => (w.heap.size ≤ k_))) (by (with_reducible repeat (first|apply Kd.N_alloc|apply Kd.N_drewN|apply Kd.N_drew));exact HO_5.out) hg hat);replace HL290_0:=zA (Kd.V_afterv (ok:=(fun k_ => (w.heap.size ≤ k_) ∧ some k_ ≠ (.slice (some ad290) x5_1.length co7 : Value).ownBlock)) (by (with_reducible repeat (first|apply Kd.V_alloc|apply Kd.V_drewN|apply Kd.V_drew));exact Kd.V_mono HL290_0.out (fun _ hk => ⟨⟨hk.1.1,hk.2⟩,hk.1.2⟩)) hg hat);replace HB:=zA (hb);have HO293:=zA (ho);clear HO_8;clear ho hb hg hat)))
               go_roundg k4
               case measure => have:=HK1.out;have:=HJ5.out;have:=HJ15.out;have:=HK4.out;omega
               case rel => exact ⟨(y291),(wrap64 (x9_4 + 1)),za,H',⟨by have:=HK1.out;have:=HJ5.out;have:=HJ15.out;have:=HK4.out;omega⟩,⟨by (with_reducible repeat (first|apply Kd.N_alloc|apply Kd.N_drewN|apply Kd.N_drew));exact HO_5.out⟩,⟨by (with_reducible repeat (first|apply Kd.N_alloc|apply Kd.N_drewN|apply Kd.N_drew));exact HO293.out⟩,⟨zz HB⟩⟩
              ·
               rw [if_neg c31] at H
               exact absurd H (by simp)
             ·
              rw [if_neg c30] at H
              exact absurd H (by simp)
            ·
             rw [if_neg c29] at H
             exact absurd H (by simp)
           ·
            rw [if_neg c28] at H;have c28b0:=decide_eq_false c28;clear c28;obtain ⟨y294,hy294⟩ : ∃ y_ : List Int,y_ = (([] : List Int)):=⟨_,rfl⟩
            replace H : (if 0 ≤ x6_1 then (if x6_1 < (l0.length : Int) then (if y294.length + (rd_L1 l0 x6_1).length < 17592186044416 then (if x8_4.length < 5864062014805 then (spec_l6Sort.l3 k4 l0 a1 x5_1 x6_1 (x8_4 ++ [(y294 ++ (rd_L1 l0 x6_1))]) x7_5) else (none)) else (none)) else (none)) else (none)) = some r:=by first|(rw [hy294];with_reducible exact H)|(have H2_:=(Option.bind_some _ _).symm.trans H;rw [hy294];with_reducible exact H2_)|(have H2_:=(Option.bind_some _ _).symm.trans H;with_reducible exact H2_)|with_reducible exact H|(rw [hy294];exact H)|exact H
            have Ny294:=zA hy294;clear hy294
            by_cases c33 : 0 ≤ x6_1
            ·
             rw [if_pos c33] at H;have c33b0:=decide_eq_true c33;clear c33
             by_cases c34 : x6_1 < (l0.length : Int)
             ·
              rw [if_pos c34] at H;have c34b0:=decide_eq_true c34;clear c34
              by_cases c35 : y294.length + (rd_L1 l0 x6_1).length < 17592186044416
              ·
               rw [if_pos c35] at H;have LMc35:=zA c35;clear c35;obtain ⟨y298,hy298⟩ : ∃ y_ : List Int,y_ = (y294 ++ (rd_L1 l0 x6_1)):=⟨_,rfl⟩
               replace H : (if x8_4.length < 5864062014805 then (spec_l6Sort.l3 k4 l0 a1 x5_1 x6_1 (x8_4 ++ [y298]) x7_5) else (none)) = some r:=by first|(rw [hy298];with_reducible exact H)|(have H2_:=(Option.bind_some _ _).symm.trans H;rw [hy298];with_reducible exact H2_)|(have H2_:=(Option.bind_some _ _).symm.trans H;with_reducible exact H2_)|with_reducible exact H|(rw [hy298];exact H)|exact H
               have Ny298:=zA hy298;clear hy298
               by_cases c36 : x8_4.length < 5864062014805
               ·
                rw [if_pos c36] at H;have LMc36:=zA c36;clear c36;obtain ⟨y301,hy301⟩ : ∃ y_ : List (List Int),y_ = (x8_4 ++ [y298]):=⟨_,rfl⟩
                replace H : (spec_l6Sort.l3 k4 l0 a1 x5_1 x6_1 y301 x7_5) = some r:=by first|(rw [hy301];with_reducible exact H)|(have H2_:=(Option.bind_some _ _).symm.trans H;rw [hy301];with_reducible exact H2_)|(have H2_:=(Option.bind_some _ _).symm.trans H;with_reducible exact H2_)|with_reducible exact H|(rw [hy301];exact H)|exact H
                have Ny301:=zA hy301;clear hy301
                have H':=zA H
                clear H
                go_wp2_with (first|((with_reducible refine gate_dst (N:=67) rfl ?_);refine Kd.R_lit (Kd.int .i64) _ 3 ?hg (N:=67) ?hd (xs:=([] : List Int)) (inner:=[]) (ok:=fun _ => True) (okp:=fun _ => True) ?hr ?hp (fun _ hk => hk) trivial (Below.refl _ _) (Nat.le_refl _) (by simp) ?_;(case hd => rfl);(case hg => rfl);(case hr => first|(go_simp;done)|(go_simp;rfl));(case hp => exact (Reps.none _ _));intro v295 w37 ho38 hb hg_ hnew_;clear hg_ hnew_;(first|rw [← Ny294.out] at ho38|(simp only [Int.reduceToNat] at ho38;rw [← Ny294.out] at ho38));replace HO_5:=zA (Kd.N_elder' (by (with_reducible repeat (first|apply Kd.N_alloc|apply Kd.N_drewN|apply Kd.N_drew));exact HO_5.out) (zW ho38) hb);replace HO_8:=zA (Kd.N_elder' (by (with_reducible repeat (first|apply Kd.N_alloc|apply Kd.N_drewN|apply Kd.N_drew));exact HO_8.out) (zW ho38) hb);have HO296:=zA (zHb (Kd.R_newM (M:=fun k_ => (w.heap.size ≤ k_)) ho38 (zT (zz HB)) (fun k_ h_ => h_)) (zT (zz HB)));replace HB:=zA (zJb (zz HB) hb);clear hb ho38;have p297 : 0 ≤ (x6_1 : Int):=zXb ze;have q297 : x6_1 < (l0.length : Int):=zXb ze;obtain ⟨ad297,A297_0,c297_0,e297,hx297_0,hl297_0,hi297_0⟩:=at_L1 HR0.out x6_1 p297 q297;cases e297;replace hx297_0:=(HB.out.cell (World.block_lt_of_cell? w _ hx297_0)).trans hx297_0;have HR297_0:=zA hi297_0;have HC297_0:=zA hl297_0;clear hi297_0 hl297_0;replace p297:=eq_true p297;replace q297:=eq_true q297)|((with_reducible refine gate_builtin (b:=.append) (xs:=#[.tmp 67,.tmp 71]) rfl ?_);at_builtin;refine Kd.R_append_rows (Kd.int .i64) (w0:=w) w.heap.size rfl (.tmp 67) (.tmp 71) 22 3 (.int .i64 0) 8 rfl Try.underlying22 info3 rfl (by decide) (by omega) v295 y294 (rd_L1 l0 x6_1) _ _ _ (fun k_ => (w.heap.size ≤ k_)) (fun _ => False) rfl rfl ?aO ?aR (fun _ _ h => h) (fun _ h => h.elim) ?aF ?aB ?aS ?aL ?_;(case aR => exact zsd HR297_0 HB);(case aB => exact (zz HB));(case aF => exact (fun k_ hk => (Nat.le_trans (zT (zz HB)) hk)));(case aO => exact (by (with_reducible repeat (first|apply zE|apply zD|apply zH));exact zGb HO296.out (fun _ hk => hk.1)));(case aS => exact (zT (zz HB)));(case aL => have:=LMc35.out;omega);intro v299 w39 ho hb hg hat;rw [← Ny298.out] at ho;replace HO_5:=zA (Kd.N_afterv (ok:=(fun k_ => (w.heap.size ≤ k_) ∧ some k_ ≠ (u8 : Value).ownBlock)) (by (with_reducible repeat (first|apply Kd.N_alloc|apply Kd.N_drewN|apply Kd.N_drew));exact HO_5.out) hg hat);replace HO_8:=zA (Kd.N_afterv (ok:=(fun k_ => (w.heap.size ≤ k_) ∧ some k_ ≠ (.slice Ao7 x5_1.length co7 : Value).ownBlock)) (by (with_reducible repeat (first|apply Kd.N_alloc|apply Kd.N_drewN|apply Kd.N_drew));exact HO_8.out) hg hat);replace HB:=zA (hb);have HO300:=zA (ho);clear HO296;clear ho hb hg hat;obtain ⟨Ao41,co41,eo41⟩:=Kd.R_slice HO300.out;subst eo41)|((with_reducible refine gate_builtin (b:=.append) (xs:=#[.tmp 66,.tmp 73]) rfl ?_);at_builtin;refine Kd.N_append (Kd.slice 3 (Kd.int .i64)) (w0:=w) w.heap.size rfl (.tmp 66) (.tmp 73) 57 22 (.slice none 0 0) 24 rfl Try.underlying57 info22 rfl (by decide) (by omega) u8 x8_4 y298 [.slice Ao41 y298.length co41] (fun k_ => (w.heap.size ≤ k_) ∧ some k_ ≠ (.slice Ao7 x5_1.length co7 : Value).ownBlock) (fun k_ => ((fun k_ => (w.heap.size ≤ k_) ∧ some k_ ≠ (.slice Ao7 x5_1.length co7 : Value).ownBlock)) k_ ∧ some k_ ≠ (u8 : Value).ownBlock) rfl rfl ?aP (fun _ hk => hk) ?aF ?aO ?aB ?aS ?aL ?_;(case aP => exact (Kd.FK_slice_mk (Kd.R_reads' (zGb (ok':=(fun k_ => ((fun k_ => (w.heap.size ≤ k_) ∧ some k_ ≠ (.slice Ao7 x5_1.length co7 : Value).ownBlock)) k_ ∧ some k_ ≠ (u8 : Value).ownBlock)) (Kd.R_apart' (Kd.R_apart' (HO300.out) (Kd.N_typed HO_5.out) (by decide)) (Kd.N_typed HO_8.out) (by decide)) (fun k_ hk => ⟨⟨hk.1.1,hk.1.2⟩,hk.2⟩))).2.1 (Kd.R_F (zGb (ok':=(fun k_ => ((fun k_ => (w.heap.size ≤ k_) ∧ some k_ ≠ (.slice Ao7 x5_1.length co7 : Value).ownBlock)) k_ ∧ some k_ ≠ (u8 : Value).ownBlock)) (Kd.R_apart' (Kd.R_apart' (HO300.out) (Kd.N_typed HO_5.out) (by decide)) (Kd.N_typed HO_8.out) (by decide)) (fun k_ hk => ⟨⟨hk.1.1,hk.1.2⟩,hk.2⟩)))));(case aB => exact (zz HB));(case aF => exact (fun k_ hk => ⟨(Nat.le_trans (zT (zz HB)) hk),Kd.fresh' (Kd.N_lt (by (with_reducible repeat (first|apply Kd.N_alloc|apply Kd.N_drewN|apply Kd.N_drew));exact HO_5.out)) k_ hk⟩));(case aO => exact (by (with_reducible repeat (first|apply Kd.N_alloc|apply Kd.N_drewN|apply Kd.N_drew));exact Kd.N_mono HO_8.out (fun _ hk => ⟨hk.1.1,hk.1.2⟩)));(case aS => exact (zT (zz HB)));(case aL => have:=LMc36.out;omega);intro v302 w40 ho hb hg hat;rw [← Ny301.out] at ho;replace HO_5:=zA (Kd.N_afterv (ok:=(fun k_ => (w.heap.size ≤ k_) ∧ some k_ ≠ (.slice Ao41 y298.length co41 : Value).ownBlock)) (by (with_reducible repeat (first|apply Kd.N_alloc|apply Kd.N_drewN|apply Kd.N_drew));exact Kd.N_mono HO_5.out (fun _ hk => ⟨⟨hk.1.1,hk.2⟩,hk.1.2⟩)) hg hat);replace HB:=zA (hb);have HO303:=zA (ho);clear HO_8 HO300;clear ho hb hg hat))
                repeat (go_quiet (first|((with_reducible refine gate_dst (N:=67) rfl ?_);refine Kd.R_lit (Kd.int .i64) _ 3 ?hg (N:=67) ?hd (xs:=([] : List Int)) (inner:=[]) (ok:=fun _ => True) (okp:=fun _ => True) ?hr ?hp (fun _ hk => hk) trivial (Below.refl _ _) (Nat.le_refl _) (by simp) ?_;(case hd => rfl);(case hg => rfl);(case hr => first|(go_simp;done)|(go_simp;rfl));(case hp => exact (Reps.none _ _));intro v295 w37 ho38 hb hg_ hnew_;clear hg_ hnew_;(first|rw [← Ny294.out] at ho38|(simp only [Int.reduceToNat] at ho38;rw [← Ny294.out] at ho38));replace HO_5:=zA (Kd.N_elder' (by (with_reducible repeat (first|apply Kd.N_alloc|apply Kd.N_drewN|apply Kd.N_drew));exact HO_5.out) (zW ho38) hb);replace HO_8:=zA (Kd.N_elder' (by (with_reducible repeat (first|apply Kd.N_alloc|apply Kd.N_drewN|apply Kd.N_drew));exact HO_8.out) (zW ho38) hb);have HO296:=zA (zHb (Kd.R_newM (M:=fun k_ => (w.heap.size ≤ k_)) ho38 (zT (zz HB)) (fun k_ h_ => h_)) (zT (zz HB)));replace HB:=zA (zJb (zz HB) hb);clear hb ho38;have p297 : 0 ≤ (x6_1 : Int):=zXb ze;have q297 : x6_1 < (l0.length : Int):=zXb ze;obtain ⟨ad297,A297_0,c297_0,e297,hx297_0,hl297_0,hi297_0⟩:=at_L1 HR0.out x6_1 p297 q297;cases e297;replace hx297_0:=(HB.out.cell (World.block_lt_of_cell? w _ hx297_0)).trans hx297_0;have HR297_0:=zA hi297_0;have HC297_0:=zA hl297_0;clear hi297_0 hl297_0;replace p297:=eq_true p297;replace q297:=eq_true q297)|((with_reducible refine gate_builtin (b:=.append) (xs:=#[.tmp 67,.tmp 71]) rfl ?_);at_builtin;refine Kd.R_append_rows (Kd.int .i64) (w0:=w) w.heap.size rfl (.tmp 67) (.tmp 71) 22 3 (.int .i64 0) 8 rfl Try.underlying22 info3 rfl (by decide) (by omega) v295 y294 (rd_L1 l0 x6_1) _ _ _ (fun k_ => (w.heap.size ≤ k_)) (fun _ => False) rfl rfl ?aO ?aR (fun _ _ h => h) (fun _ h => h.elim) ?aF ?aB ?aS ?aL ?_;(case aR => exact zsd HR297_0 HB);(case aB => exact (zz HB));(case aF => exact (fun k_ hk => (Nat.le_trans (zT (zz HB)) hk)));(case aO => exact (by (with_reducible repeat (first|apply zE|apply zD|apply zH));exact zGb HO296.out (fun _ hk => hk.1)));(case aS => exact (zT (zz HB)));(case aL => have:=LMc35.out;omega);intro v299 w39 ho hb hg hat;rw [← Ny298.out] at ho;replace HO_5:=zA (Kd.N_afterv (ok:=(fun k_ => (w.heap.size ≤ k_) ∧ some k_ ≠ (u8 : Value).ownBlock)) (by (with_reducible repeat (first|apply Kd.N_alloc|apply Kd.N_drewN|apply Kd.N_drew));exact HO_5.out) hg hat);replace HO_8:=zA (Kd.N_afterv (ok:=(fun k_ => (w.heap.size ≤ k_) ∧ some k_ ≠ (.slice Ao7 x5_1.length co7 : Value).ownBlock)) (by (with_reducible repeat (first|apply Kd.N_alloc|apply Kd.N_drewN|apply Kd.N_drew));exact HO_8.out) hg hat);replace HB:=zA (hb);have HO300:=zA (ho);clear HO296;clear ho hb hg hat;obtain ⟨Ao41,co41,eo41⟩:=Kd.R_slice HO300.out;subst eo41)|((with_reducible refine gate_builtin (b:=.append) (xs:=#[.tmp 66,.tmp 73]) rfl ?_);at_builtin;refine Kd.N_append (Kd.slice 3 (Kd.int .i64)) (w0:=w) w.heap.size rfl (.tmp 66) (.tmp 73) 57 22 (.slice none 0 0) 24 rfl Try.underlying57 info22 rfl (by decide) (by omega) u8 x8_4 y298 [.slice Ao41 y298.length co41] (fun k_ => (w.heap.size ≤ k_) ∧ some k_ ≠ (.slice Ao7 x5_1.length co7 : Value).ownBlock) (fun k_ => ((fun k_ => (w.heap.size ≤ k_) ∧ some k_ ≠ (.slice Ao7 x5_1.length co7 : Value).ownBlock)) k_ ∧ some k_ ≠ (u8 : Value).ownBlock) rfl rfl ?aP (fun _ hk => hk) ?aF ?aO ?aB ?aS ?aL ?_;(case aP => exact (Kd.FK_slice_mk (Kd.R_reads' (zGb (ok':=(fun k_ => ((fun k_ => (w.heap.size ≤ k_) ∧ some k_ ≠ (.slice Ao7 x5_1.length co7 : Value).ownBlock)) k_ ∧ some k_ ≠ (u8 : Value).ownBlock)) (Kd.R_apart' (Kd.R_apart' (HO300.out) (Kd.N_typed HO_5.out) (by decide)) (Kd.N_typed HO_8.out) (by decide)) (fun k_ hk => ⟨⟨hk.1.1,hk.1.2⟩,hk.2⟩))).2.1 (Kd.R_F (zGb (ok':=(fun k_ => ((fun k_ => (w.heap.size ≤ k_) ∧ some k_ ≠ (.slice Ao7 x5_1.length co7 : Value).ownBlock)) k_ ∧ some k_ ≠ (u8 : Value).ownBlock)) (Kd.R_apart' (Kd.R_apart' (HO300.out) (Kd.N_typed HO_5.out) (by decide)) (Kd.N_typed HO_8.out) (by decide)) (fun k_ hk => ⟨⟨hk.1.1,hk.1.2⟩,hk.2⟩)))));(case aB => exact (zz HB));(case aF => exact (fun k_ hk => ⟨(Nat.le_trans (zT (zz HB)) hk),Kd.fresh' (Kd.N_lt (by (with_reducible repeat (first|apply Kd.N_alloc|apply Kd.N_drewN|apply Kd.N_drew));exact HO_5.out)) k_ hk⟩));(case aO => exact (by (with_reducible repeat (first|apply Kd.N_alloc|apply Kd.N_drewN|apply Kd.N_drew));exact Kd.N_mono HO_8.out (fun _ hk => ⟨hk.1.1,hk.1.2⟩)));(case aS => exact (zT (zz HB)));(case aL => have:=LMc36.out;omega);intro v302 w40 ho hb hg hat;rw [← Ny301.out] at ho;replace HO_5:=zA (Kd.N_afterv (ok:=(fun k_ => (w.heap.size ≤ k_) ∧ some k_ ≠ (.slice Ao41 y298.length co41 : Value).ownBlock)) (by (with_reducible repeat (first|apply Kd.N_alloc|apply Kd.N_drewN|apply Kd.N_drew));exact Kd.N_mono HO_5.out (fun _ hk => ⟨⟨hk.1.1,hk.2⟩,hk.1.2⟩)) hg hat);replace HB:=zA (hb);have HO303:=zA (ho);clear HO_8 HO300;clear ho hb hg hat));try go_wp2_with (first|((with_reducible refine gate_dst (N:=67) rfl ?_);refine Kd.R_lit (Kd.int .i64) _ 3 ?hg (N:=67) ?hd (xs:=([] : List Int)) (inner:=[]) (ok:=fun _ => True) (okp:=fun _ => True) ?hr ?hp (fun _ hk => hk) trivial (Below.refl _ _) (Nat.le_refl _) (by simp) ?_;(case hd => rfl);(case hg => rfl);(case hr => first|(go_simp;done)|(go_simp;rfl));(case hp => exact (Reps.none _ _));intro v295 w37 ho38 hb hg_ hnew_;clear hg_ hnew_;(first|rw [← Ny294.out] at ho38|(simp only [Int.reduceToNat] at ho38;rw [← Ny294.out] at ho38));replace HO_5:=zA (Kd.N_elder' (by (with_reducible repeat (first|apply Kd.N_alloc|apply Kd.N_drewN|apply Kd.N_drew));exact HO_5.out) (zW ho38) hb);replace HO_8:=zA (Kd.N_elder' (by (with_reducible repeat (first|apply Kd.N_alloc|apply Kd.N_drewN|apply Kd.N_drew));exact HO_8.out) (zW ho38) hb);have HO296:=zA (zHb (Kd.R_newM (M:=fun k_ => (w.heap.size ≤ k_)) ho38 (zT (zz HB)) (fun k_ h_ => h_)) (zT (zz HB)));replace HB:=zA (zJb (zz HB) hb);clear hb ho38;have p297 : 0 ≤ (x6_1 : Int):=zXb ze;have q297 : x6_1 < (l0.length : Int):=zXb ze;obtain ⟨ad297,A297_0,c297_0,e297,hx297_0,hl297_0,hi297_0⟩:=at_L1 HR0.out x6_1 p297 q297;cases e297;replace hx297_0:=(HB.out.cell (World.block_lt_of_cell? w _ hx297_0)).trans hx297_0;have HR297_0:=zA hi297_0;have HC297_0:=zA hl297_0;clear hi297_0 hl297_0;replace p297:=eq_true p297;replace q297:=eq_true q297)|((with_reducible refine gate_builtin (b:=.append) (xs:=#[.tmp 67,.tmp 71]) rfl ?_);at_builtin;refine Kd.R_append_rows (Kd.int .i64) (w0:=w) w.heap.size rfl (.tmp 67) (.tmp 71) 22 3 (.int .i64 0) 8 rfl Try.underlying22 info3 rfl (by decide) (by omega) v295 y294 (rd_L1 l0 x6_1) _ _ _ (fun k_ => (w.heap.size ≤ k_)) (fun _ => False) rfl rfl ?aO ?aR (fun _ _ h => h) (fun _ h => h.elim) ?aF ?aB ?aS ?aL ?_;(case aR => exact zsd HR297_0 HB);(case aB => exact (zz HB));(case aF => exact (fun k_ hk => (Nat.le_trans (zT (zz HB)) hk)));(case aO => exact (by (with_reducible repeat (first|apply zE|apply zD|apply zH));exact zGb HO296.out (fun _ hk => hk.1)));(case aS => exact (zT (zz HB)));(case aL => have:=LMc35.out;omega);intro v299 w39 ho hb hg hat;rw [← Ny298.out] at ho;replace HO_5:=zA (Kd.N_afterv (ok:=(fun k_ => (w.heap.size ≤ k_) ∧ some k_ ≠ (u8 : Value).ownBlock)) (by (with_reducible repeat (first|apply Kd.N_alloc|apply Kd.N_drewN|apply Kd.N_drew));exact HO_5.out) hg hat);replace HO_8:=zA (Kd.N_afterv (ok:=(fun k_ => (w.heap.size ≤ k_) ∧ some k_ ≠ (.slice Ao7 x5_1.length co7 : Value).ownBlock)) (by (with_reducible repeat (first|apply Kd.N_alloc|apply Kd.N_drewN|apply Kd.N_drew));exact HO_8.out) hg hat);replace HB:=zA (hb);have HO300:=zA (ho);clear HO296;clear ho hb hg hat;obtain ⟨Ao41,co41,eo41⟩:=Kd.R_slice HO300.out;subst eo41)|((with_reducible refine gate_builtin (b:=.append) (xs:=#[.tmp 66,.tmp 73]) rfl ?_);at_builtin;refine Kd.N_append (Kd.slice 3 (Kd.int .i64)) (w0:=w) w.heap.size rfl (.tmp 66) (.tmp 73) 57 22 (.slice none 0 0) 24 rfl Try.underlying57 info22 rfl (by decide) (by omega) u8 x8_4 y298 [.slice Ao41 y298.length co41] (fun k_ => (w.heap.size ≤ k_) ∧ some k_ ≠ (.slice Ao7 x5_1.length co7 : Value).ownBlock) (fun k_ => ((fun k_ => (w.heap.size ≤ k_) ∧ some k_ ≠ (.slice Ao7 x5_1.length co7 : Value).ownBlock)) k_ ∧ some k_ ≠ (u8 : Value).ownBlock) rfl rfl ?aP (fun _ hk => hk) ?aF ?aO ?aB ?aS ?aL ?_;(case aP => exact (Kd.FK_slice_mk (Kd.R_reads' (zGb (ok':=(fun k_ => ((fun k_ => (w.heap.size ≤ k_) ∧ some k_ ≠ (.slice Ao7 x5_1.length co7 : Value).ownBlock)) k_ ∧ some k_ ≠ (u8 : Value).ownBlock)) (Kd.R_apart' (Kd.R_apart' (HO300.out) (Kd.N_typed HO_5.out) (by decide)) (Kd.N_typed HO_8.out) (by decide)) (fun k_ hk => ⟨⟨hk.1.1,hk.1.2⟩,hk.2⟩))).2.1 (Kd.R_F (zGb (ok':=(fun k_ => ((fun k_ => (w.heap.size ≤ k_) ∧ some k_ ≠ (.slice Ao7 x5_1.length co7 : Value).ownBlock)) k_ ∧ some k_ ≠ (u8 : Value).ownBlock)) (Kd.R_apart' (Kd.R_apart' (HO300.out) (Kd.N_typed HO_5.out) (by decide)) (Kd.N_typed HO_8.out) (by decide)) (fun k_ hk => ⟨⟨hk.1.1,hk.1.2⟩,hk.2⟩)))));(case aB => exact (zz HB));(case aF => exact (fun k_ hk => ⟨(Nat.le_trans (zT (zz HB)) hk),Kd.fresh' (Kd.N_lt (by (with_reducible repeat (first|apply Kd.N_alloc|apply Kd.N_drewN|apply Kd.N_drew));exact HO_5.out)) k_ hk⟩));(case aO => exact (by (with_reducible repeat (first|apply Kd.N_alloc|apply Kd.N_drewN|apply Kd.N_drew));exact Kd.N_mono HO_8.out (fun _ hk => ⟨hk.1.1,hk.1.2⟩)));(case aS => exact (zT (zz HB)));(case aL => have:=LMc36.out;omega);intro v302 w40 ho hb hg hat;rw [← Ny301.out] at ho;replace HO_5:=zA (Kd.N_afterv (ok:=(fun k_ => (w.heap.size ≤ k_) ∧ some k_ ≠ (.slice Ao41 y298.length co41 : Value).ownBlock)) (by (with_reducible repeat (first|apply Kd.N_alloc|apply Kd.N_drewN|apply Kd.N_drew));exact Kd.N_mono HO_5.out (fun _ hk => ⟨⟨hk.1.1,hk.2⟩,hk.1.2⟩)) hg hat);replace HB:=zA (hb);have HO303:=zA (ho);clear HO_8 HO300;clear ho hb hg hat)))
                go_loopg [8,10] k4 (fun kq v8 v10 w' => ∃ (x8_5 : List (List Int)) (x10_5 : Int),v10 = .int .i64 x10_5 ∧ Aside0 (spec_l6Sort.l3 kq l0 a1 x5_1 x6_1 x8_5 x10_5 = some r) ∧ Aside0 (kq ≤ k4) ∧ Aside0 (Kd.N (Kd.slice 3 (Kd.int .i64)) 22 w' w.heap.size (fun k_ => (w.heap.size ≤ k_) ∧ some k_ ≠ (v8 : Value).ownBlock) (.slice Ao7 x5_1.length co7) x5_1) ∧ Aside0 (Kd.N (Kd.slice 3 (Kd.int .i64)) 22 w' w.heap.size (fun k_ => (w.heap.size ≤ k_) ∧ some k_ ≠ ((.slice Ao7 x5_1.length co7) : Value).ownBlock) v8 x8_5) ∧ Aside0 (Below w.heap.size w w'))
                case atStart => exact ⟨(y301),(x7_5),za,H',⟨Nat.le_refl _⟩,⟨by (with_reducible repeat (first|apply Kd.N_alloc|apply Kd.N_drewN|apply Kd.N_drew));exact Kd.N_mono HO_5.out (fun _ hk => ⟨hk.1.1,hk.2⟩)⟩,⟨by (with_reducible repeat (first|apply Kd.N_alloc|apply Kd.N_drewN|apply Kd.N_drew));exact HO303.out⟩,⟨zz HB⟩⟩
                case round =>
                 clear H';(try clear c1);(try clear c2);(try clear p2);(try clear q2);(try clear hx2);(try clear c3);(try clear c5);(try clear c5b0);(try clear p6);(try clear c8);(try clear c8b0);(try clear c9);(try clear c9b0);(try clear c10);(try clear c10b0);(try clear c12);(try clear c12b0);(try clear c13);(try clear c13b0);(try clear c15);(try clear c17);(try clear c18);(try clear c18b0);(try clear c20);(try clear c20b0);(try clear c21);(try clear c21b0);(try clear c22);(try clear c22b0);(try clear c23);(try clear c23b0);(try clear c25);(try clear c28);(try clear c28b0);(try clear p28);(try clear q28);(try clear hx28);(try clear c29);(try clear c29b0);(try clear p29);(try clear q29);(try clear hx29);(try clear c30);(try clear c30b0);(try clear c31);(try clear c33);(try clear c33b0);(try clear c34);(try clear c34b0);(try clear c35);(try clear c36);(try clear hx281_0);(try clear hx282_0);(try clear hx284_0);(try clear hx285_0);(try clear hx290_0);(try clear hx297_0);(try clear p2);(try clear p281);(try clear p282);(try clear p284);(try clear p285);(try clear p290);(try clear p297);(try clear p6);(try clear q2);(try clear q281);(try clear q282);(try clear q284);(try clear q285);(try clear q290);(try clear q297);obtain ⟨x8_5,x10_5,rfl,HA,HK5,HO_5,HO_8,HB⟩:=hrel
                 cases gk with
                 | zero => exact absurd HA.out (by simp [spec_l6Sort.l3])
                 | succ k5 =>
                  have H:=HA.out;clear HA;simp only [spec_l6Sort.l3] at H
                  by_cases c42 : x10_5 < (x5_1.length : Int)
                  ·
                   rw [if_pos c42] at H;have c42b0:=decide_eq_true c42;clear c42
                   by_cases c43 : 0 ≤ x10_5
                   ·
                    rw [if_pos c43] at H;have c43b0:=decide_eq_true c43;clear c43
                    by_cases c44 : x8_5.length < 5864062014805
                    ·
                     rw [if_pos c44] at H;have LMc44:=zA c44;clear c44;obtain ⟨y305,hy305⟩ : ∃ y_ : List (List Int),y_ = (x8_5 ++ [rd_L1 x5_1 x10_5]):=⟨_,rfl⟩
                     replace H : (spec_l6Sort.l3 k5 l0 a1 x5_1 x6_1 y305 (wrap64 (x10_5 + 1))) = some r:=by first|(rw [hy305];with_reducible exact H)|(have H2_:=(Option.bind_some _ _).symm.trans H;rw [hy305];with_reducible exact H2_)|(have H2_:=(Option.bind_some _ _).symm.trans H;with_reducible exact H2_)|with_reducible exact H|(rw [hy305];exact H)|exact H
                     have Ny305:=zA hy305;clear hy305
                     have H':=zA H
                     clear H;have p304 : 0 ≤ (x10_5 : Int):=zXb ze;have q304 : x10_5 < (x5_1.length : Int):=zXb ze;obtain ⟨ad304,A304_0,c304_0,e304,hx304_0,hl304_0,hi304_0⟩:=at_L1 (Kd.N_reads' HO_5.out).2.2 x10_5 p304 q304
                     cases e304
                     obtain ⟨ce304,hce304,hMe304,hcc304⟩:=Kd.N_get HO_5.out [] x10_5 p304 (by first|exact q304|exact zXb ze|(have e_:=(Kd.N_reads' HO_5.out).1;omega));obtain ⟨ua304_0,uc304_0,rfl,ul304_0,ge304_0⟩:=Kd.FK_slice_open hMe304;have hv304_0:=hcc304 0 _ rfl;rw [Nat.add_zero,show ((Kd.slice 3 (Kd.int .i64))).sz = 1 from rfl,Nat.mul_one] at hv304_0;replace hv304_0:=Option.some.inj (hv304_0.symm.trans hx304_0)
                     injection hv304_0 with hva_ hvn_ hvc_
                     rw [hva_] at ge304_0;rw [hvc_] at ul304_0;have HL304_0:=zA (show Kd.V (Kd.int .i64) 3 _ w.heap.size _ _ (rd_L1 x5_1 x10_5) from Kd.V_mk ul304_0 ge304_0);clear hva_ hvn_ hvc_ ge304_0 ul304_0;clear hcc304 hce304;have HR304_0:=zA hi304_0;have HC304_0:=zA hl304_0;clear hi304_0 hl304_0;replace p304:=eq_true p304;replace q304:=eq_true q304
                     go_wp2_with (first|((with_reducible refine gate_builtin (b:=.append) (xs:=#[.tmp 82,.tmp 87]) rfl ?_);at_builtin;refine Kd.N_append (Kd.slice 3 (Kd.int .i64)) (w0:=w) w.heap.size rfl (.tmp 82) (.tmp 87) 57 22 (.slice none 0 0) 24 rfl Try.underlying57 info22 rfl (by decide) (by omega) u8 x8_5 (rd_L1 x5_1 x10_5) [.slice A304_0 (rd_L1 x5_1 x10_5).length c304_0] (fun k_ => (w.heap.size ≤ k_) ∧ some k_ ≠ (.slice (some ad304) x5_1.length co7 : Value).ownBlock) (fun k_ => ((fun k_ => (w.heap.size ≤ k_) ∧ some k_ ≠ (.slice (some ad304) x5_1.length co7 : Value).ownBlock)) k_ ∧ some k_ ≠ (u8 : Value).ownBlock) rfl rfl ?aP (fun _ hk => hk) ?aF ?aO ?aB ?aS ?aL ?_;(case aP => exact (Kd.FK_slice_mk (Kd.V_reads' (Kd.V_mono (ok':=(fun k_ => ((fun k_ => (w.heap.size ≤ k_) ∧ some k_ ≠ (.slice (some ad304) x5_1.length co7 : Value).ownBlock)) k_ ∧ some k_ ≠ (u8 : Value).ownBlock)) (HL304_0.out) (fun k_ hk => ⟨⟨hk.1.1,hk.2⟩,hk.1.2⟩))).2.1 (Kd.V_F (Kd.V_mono (ok':=(fun k_ => ((fun k_ => (w.heap.size ≤ k_) ∧ some k_ ≠ (.slice (some ad304) x5_1.length co7 : Value).ownBlock)) k_ ∧ some k_ ≠ (u8 : Value).ownBlock)) (HL304_0.out) (fun k_ hk => ⟨⟨hk.1.1,hk.2⟩,hk.1.2⟩)))));(case aB => exact (zz HB));(case aF => exact (fun k_ hk => ⟨(Nat.le_trans (zT (zz HB)) hk),Kd.fresh' (Kd.N_lt (by (with_reducible repeat (first|apply Kd.N_alloc|apply Kd.N_drewN|apply Kd.N_drew));exact HO_5.out)) k_ hk⟩));(case aO => exact (by (with_reducible repeat (first|apply Kd.N_alloc|apply Kd.N_drewN|apply Kd.N_drew));exact HO_8.out));(case aS => exact (zT (zz HB)));(case aL => have:=LMc44.out;omega);intro v306 w45 ho hb hg hat;rw [← Ny305.out] at ho;replace HO_5:=zA (Kd.N_afterv (ok:=(fun k_ => (w.heap.size ≤ k_))) (by (with_reducible repeat (first|apply Kd.N_alloc|apply Kd.N_drewN|apply Kd.N_drew));exact HO_5.out) hg hat);replace HL304_0:=zA (Kd.V_afterv (ok:=(fun k_ => (w.heap.size ≤ k_) ∧ some k_ ≠ (.slice (some ad304) x5_1.length co7 : Value).ownBlock)) (by (with_reducible repeat (first|apply Kd.V_alloc|apply Kd.V_drewN|apply Kd.V_drew));exact Kd.V_mono HL304_0.out (fun _ hk => ⟨⟨hk.1.1,hk.2⟩,hk.1.2⟩)) hg hat);replace HB:=zA (hb);have HO307:=zA (ho);clear HO_8;clear ho hb hg hat))
                     repeat (go_quiet (first|((with_reducible refine gate_builtin (b:=.append) (xs:=#[.tmp 82,.tmp 87]) rfl ?_);at_builtin;refine Kd.N_append (Kd.slice 3 (Kd.int .i64)) (w0:=w) w.heap.size rfl (.tmp 82) (.tmp 87) 57 22 (.slice none 0 0) 24 rfl Try.underlying57 info22 rfl (by decide) (by omega) u8 x8_5 (rd_L1 x5_1 x10_5) [.slice A304_0 (rd_L1 x5_1 x10_5).length c304_0] (fun k_ => (w.heap.size ≤ k_) ∧ some k_ ≠ (.slice (some ad304) x5_1.length co7 : Value).ownBlock) (fun k_ => ((fun k_ => (w.heap.size ≤ k_) ∧ some k_ ≠ (.slice (some ad304) x5_1.length co7 : Value).ownBlock)) k_ ∧ some k_ ≠ (u8 : Value).ownBlock) rfl rfl ?aP (fun _ hk => hk) ?aF ?aO ?aB ?aS ?aL ?_;(case aP => exact (Kd.FK_slice_mk (Kd.V_reads' (Kd.V_mono (ok':=(fun k_ => ((fun k_ => (w.heap.size ≤ k_) ∧ some k_ ≠ (.slice (some ad304) x5_1.length co7 : Value).ownBlock)) k_ ∧ some k_ ≠ (u8 : Value).ownBlock)) (HL304_0.out) (fun k_ hk => ⟨⟨hk.1.1,hk.2⟩,hk.1.2⟩))).2.1 (Kd.V_F (Kd.V_mono (ok':=(fun k_ => ((fun k_ => (w.heap.size ≤ k_) ∧ some k_ ≠ (.slice (some ad304) x5_1.length co7 : Value).ownBlock)) k_ ∧ some k_ ≠ (u8 : Value).ownBlock)) (HL304_0.out) (fun k_ hk => ⟨⟨hk.1.1,hk.2⟩,hk.1.2⟩)))));(case aB => exact (zz HB));(case aF => exact (fun k_ hk => ⟨(Nat.le_trans (zT (zz HB)) hk),Kd.fresh' (Kd.N_lt (by (with_reducible repeat (first|apply Kd.N_alloc|apply Kd.N_drewN|apply Kd.N_drew));exact HO_5.out)) k_ hk⟩));(case aO => exact (by (with_reducible repeat (first|apply Kd.N_alloc|apply Kd.N_drewN|apply Kd.N_drew));exact HO_8.out));(case aS => exact (zT (zz HB)));(case aL => have:=LMc44.out;omega);intro v306 w45 ho hb hg hat;rw [← Ny305.out] at ho;replace HO_5:=zA (Kd.N_afterv (ok:=(fun k_ => (w.heap.size ≤ k_))) (by (with_reducible repeat (first|apply Kd.N_alloc|apply Kd.N_drewN|apply Kd.N_drew));exact HO_5.out) hg hat);replace HL304_0:=zA (Kd.V_afterv (ok:=(fun k_ => (w.heap.size ≤ k_) ∧ some k_ ≠ (.slice (some ad304) x5_1.length co7 : Value).ownBlock)) (by (with_reducible repeat (first|apply Kd.V_alloc|apply Kd.V_drewN|apply Kd.V_drew));exact Kd.V_mono HL304_0.out (fun _ hk => ⟨⟨hk.1.1,hk.2⟩,hk.1.2⟩)) hg hat);replace HB:=zA (hb);have HO307:=zA (ho);clear HO_8;clear ho hb hg hat));try go_wp2_with (first|((with_reducible refine gate_builtin (b:=.append) (xs:=#[.tmp 82,.tmp 87]) rfl ?_);at_builtin;refine Kd.N_append (Kd.slice 3 (Kd.int .i64)) (w0:=w) w.heap.size rfl (.tmp 82) (.tmp 87) 57 22 (.slice none 0 0) 24 rfl Try.underlying57 info22 rfl (by decide) (by omega) u8 x8_5 (rd_L1 x5_1 x10_5) [.slice A304_0 (rd_L1 x5_1 x10_5).length c304_0] (fun k_ => (w.heap.size ≤ k_) ∧ some k_ ≠ (.slice (some ad304) x5_1.length co7 : Value).ownBlock) (fun k_ => ((fun k_ => (w.heap.size ≤ k_) ∧ some k_ ≠ (.slice (some ad304) x5_1.length co7 : Value).ownBlock)) k_ ∧ some k_ ≠ (u8 : Value).ownBlock) rfl rfl ?aP (fun _ hk => hk) ?aF ?aO ?aB ?aS ?aL ?_;(case aP => exact (Kd.FK_slice_mk (Kd.V_reads' (Kd.V_mono (ok':=(fun k_ => ((fun k_ => (w.heap.size ≤ k_) ∧ some k_ ≠ (.slice (some ad304) x5_1.length co7 : Value).ownBlock)) k_ ∧ some k_ ≠ (u8 : Value).ownBlock)) (HL304_0.out) (fun k_ hk => ⟨⟨hk.1.1,hk.2⟩,hk.1.2⟩))).2.1 (Kd.V_F (Kd.V_mono (ok':=(fun k_ => ((fun k_ => (w.heap.size ≤ k_) ∧ some k_ ≠ (.slice (some ad304) x5_1.length co7 : Value).ownBlock)) k_ ∧ some k_ ≠ (u8 : Value).ownBlock)) (HL304_0.out) (fun k_ hk => ⟨⟨hk.1.1,hk.2⟩,hk.1.2⟩)))));(case aB => exact (zz HB));(case aF => exact (fun k_ hk => ⟨(Nat.le_trans (zT (zz HB)) hk),Kd.fresh' (Kd.N_lt (by (with_reducible repeat (first|apply Kd.N_alloc|apply Kd.N_drewN|apply Kd.N_drew));exact HO_5.out)) k_ hk⟩));(case aO => exact (by (with_reducible repeat (first|apply Kd.N_alloc|apply Kd.N_drewN|apply Kd.N_drew));exact HO_8.out));(case aS => exact (zT (zz HB)));(case aL => have:=LMc44.out;omega);intro v306 w45 ho hb hg hat;rw [← Ny305.out] at ho;replace HO_5:=zA (Kd.N_afterv (ok:=(fun k_ => (w.heap.size ≤ k_))) (by (with_reducible repeat (first|apply Kd.N_alloc|apply Kd.N_drewN|apply Kd.N_drew));exact HO_5.out) hg hat);replace HL304_0:=zA (Kd.V_afterv (ok:=(fun k_ => (w.heap.size ≤ k_) ∧ some k_ ≠ (.slice (some ad304) x5_1.length co7 : Value).ownBlock)) (by (with_reducible repeat (first|apply Kd.V_alloc|apply Kd.V_drewN|apply Kd.V_drew));exact Kd.V_mono HL304_0.out (fun _ hk => ⟨⟨hk.1.1,hk.2⟩,hk.1.2⟩)) hg hat);replace HB:=zA (hb);have HO307:=zA (ho);clear HO_8;clear ho hb hg hat)))
                     go_roundg k5
                     case measure => have:=HK1.out;have:=HJ5.out;have:=HJ15.out;have:=HK4.out;have:=HK5.out;omega
                     case rel => exact ⟨(y305),(wrap64 (x10_5 + 1)),za,H',⟨by have:=HK1.out;have:=HJ5.out;have:=HJ15.out;have:=HK4.out;have:=HK5.out;omega⟩,⟨by (with_reducible repeat (first|apply Kd.N_alloc|apply Kd.N_drewN|apply Kd.N_drew));exact HO_5.out⟩,⟨by (with_reducible repeat (first|apply Kd.N_alloc|apply Kd.N_drewN|apply Kd.N_drew));exact HO307.out⟩,⟨zz HB⟩⟩
                    ·
                     rw [if_neg c44] at H
                     exact absurd H (by simp)
                   ·
                    rw [if_neg c43] at H
                    exact absurd H (by simp)
                  ·
                   rw [if_neg c42] at H;have c42b0:=decide_eq_false c42;clear c42
                   have H':=zA H
                   clear H
                   go_wp2
                   repeat (go_quiet (fail);try go_wp2)
                   go_roundg k5
                   case measure => have:=HK1.out;have:=HJ5.out;have:=HJ15.out;have:=HK4.out;have:=HK5.out;omega
                   case rel => exact ⟨(x8_5),(wrap64 (x6_1 + 1)),za,H',⟨by have:=HK1.out;have:=HJ5.out;have:=HJ15.out;have:=HK4.out;have:=HK5.out;omega⟩,⟨by (with_reducible repeat (first|apply Kd.N_alloc|apply Kd.N_drewN|apply Kd.N_drew));exact Kd.N_mono HO_8.out (fun _ hk => hk.1)⟩,⟨zz HB⟩⟩
               ·
                rw [if_neg c36] at H
                exact absurd H (by simp)
              ·
               rw [if_neg c35] at H
               exact absurd H (by simp)
             ·
              rw [if_neg c34] at H
              exact absurd H (by simp)
            ·
             rw [if_neg c33] at H
             exact absurd H (by simp)
   ·
    rw [if_neg c5] at H;have c5b0:=decide_eq_false c5;clear c5
    obtain rfl:=Option.some.inj H
    go_wp2
    repeat (go_quiet (fail);try go_wp2)
    go_ret
    exact ⟨_,by first|rfl|(simp [errW_none,errW_some] <;> rfl)|(simp [*,errW_none,errW_some] <;> rfl),by (with_reducible repeat (first|apply Kd.N_alloc|apply Kd.N_drewN|apply Kd.N_drew));exact HO_5.out,zz HB⟩

end Go.Proofs.Ytfelabhakgcifaa.QFnExactIsAnswer
