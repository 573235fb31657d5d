/- Walks through the Go functions that FnExactAnswers reaches: each call returns what the Lean function beside it says, within the bounds that the theorem names. -/
import Derived.Test.YtfelabhakgcifaaGreatQFnExactAnswersx0
import Derived.Test.YtfelabhakgcifaaGreatQFnExactAnswersx1
namespace Go.Proofs.YtfelabhakgcifaaGreat.QFnExactAnswers
open Go.RowKit Go.Proofs.YtfelabhakgcifaaGreatW.PrintWords Go.Proofs.YtfelabhakgcifaaGreatW.PrintLast Go.Proofs.YtfelabhakgcifaaGreatW.PrintMore
attribute [local go_sem] max2_int min2_int max_two min_two max_three min_three max_four min_four   -- for this text's walks alone
set_option linter.unusedVariables false
set_option linter.unusedSimpArgs false


/-! ### spec_l6Sort: function 30 -/
mutual
def spec_l6Sort.l0 : Nat → List (List Int) → Bool → List (List Int) → Int → Option ((List (List Int)))
 | 0, _, _, _, _ => none
 | k + 1, x0, x1, x5, x6 => if x6 < (x0.length : Int) then (spec_l6Sort.l1 k x0 x1 x5 x6 (x5.length : Int)) else (some x5)
def spec_l6Sort.j2 : Nat → List (List Int) → Bool → List (List Int) → Int → Int → Option ((List (List Int)))
 | 0, _, _, _, _, _ => none
 | k + 1, x0, x1, x5, x6, x7 => if x1 = true then (if x7 > 0 then (if 0 ≤ (wrap64 (x7 - 1)) then (if (wrap64 (x7 - 1)) < (x5.length : Int) then (if 0 ≤ x6 then (if x6 < (x0.length : Int) then ((spec_l2Ints.f k (rd_L1 x5 (wrap64 (x7 - 1))) (rd_L1 x0 x6)).bind fun t128 => (spec_l6Sort.j3 k x0 x1 x5 x6 x7 t128)) else (none)) else (none)) else (none)) else (none)) else (spec_l6Sort.j3 k x0 x1 x5 x6 x7 false)) else (spec_l6Sort.j3 k x0 x1 x5 x6 x7 false)
def spec_l6Sort.j3 : Nat → List (List Int) → Bool → List (List Int) → Int → Int → Bool → Option ((List (List Int)))
 | 0, _, _, _, _, _, _ => none
 | k + 1, x0, x1, x5, x6, x7, x52 => if x52 = true then (spec_l6Sort.l0 k x0 x1 x5 (wrap64 (x6 + 1))) else (spec_l6Sort.l2 k x0 x1 x5 x6 x7 (([] : List (List Int))) 0)
def spec_l6Sort.l2 : Nat → List (List Int) → Bool → List (List Int) → Int → Int → List (List Int) → Int → Option ((List (List Int)))
 | 0, _, _, _, _, _, _, _ => none
 | k + 1, x0, x1, x5, x6, x7, x8, x9 => if x9 < x7 then (if 0 ≤ x9 then (if x9 < (x5.length : Int) then (if x8.length < 5864062014805 then (spec_l6Sort.l2 k x0 x1 x5 x6 x7 (x8 ++ [rd_L1 x5 x9]) (wrap64 (x9 + 1))) else (none)) else (none)) else (none)) else ((some (([] : List Int) : List Int)).bind fun y136 => (if 0 ≤ x6 then (if x6 < (x0.length : Int) then (if y136.length + (rd_L1 x0 x6).length < 17592186044416 then (if x8.length < 5864062014805 then (spec_l6Sort.l3 k x0 x1 x5 x6 (x8 ++ [(y136 ++ (rd_L1 x0 x6))]) x7) else (none)) else (none)) else (none)) else (none)))
def spec_l6Sort.l3 : Nat → List (List Int) → Bool → List (List Int) → Int → List (List Int) → Int → Option ((List (List Int)))
 | 0, _, _, _, _, _, _ => none
 | k + 1, x0, x1, x5, x6, x8, x10 => if x10 < (x5.length : Int) then (if 0 ≤ x10 then (if x8.length < 5864062014805 then (spec_l6Sort.l3 k x0 x1 x5 x6 (x8 ++ [rd_L1 x5 x10]) (wrap64 (x10 + 1))) else (none)) else (none)) else (spec_l6Sort.l0 k x0 x1 x8 (wrap64 (x6 + 1)))
def spec_l6Sort.l1 : Nat → List (List Int) → Bool → List (List Int) → Int → Int → Option ((List (List Int)))
 | 0, _, _, _, _, _ => none
 | k + 1, x0, x1, x5, x6, x7 => if x7 > 0 then (if 0 ≤ x6 then (if x6 < (x0.length : Int) then (if 0 ≤ (wrap64 (x7 - 1)) then (if (wrap64 (x7 - 1)) < (x5.length : Int) then ((spec_l2Less.f k (rd_L1 x0 x6) (rd_L1 x5 (wrap64 (x7 - 1)))).bind fun t125 => (if t125 = true then (spec_l6Sort.l1 k x0 x1 x5 x6 (wrap64 (x7 - 1))) else (spec_l6Sort.j2 k x0 x1 x5 x6 x7))) else (none)) else (none)) else (none)) else (none)) else (spec_l6Sort.j2 k x0 x1 x5 x6 x7)
end
def spec_l6Sort.f (k : Nat) (l0 : List (List Int)) (a1 : Bool) : Option ((List (List Int))) := spec_l6Sort.l0 k l0 a1 (([] : List (List Int))) 0
set_option maxHeartbeats 8000000 in
set_option maxRecDepth 100000 in
theorem spec_l6Sort.calls (k : Nat) (A0 : Option Addr) (c0 : Nat) (l0 : List (List Int)) (a1 : Bool) (r : List (List Int)) (w : World) (hr0 : Kd.C (Kd.slice 3 (Kd.int .i64)) w A0 l0.length l0) (hc0 : l0.length ≤ c0) (h : spec_l6Sort.f k l0 a1 = some r) :
  Calls Tryz.prog 30 #[.slice A0 l0.length c0, .bool a1] w fun e w' => ∃ v0_ : Value, e = .returned (v0_) ∧ Kd.N (Kd.slice 3 (Kd.int .i64)) 22 w' w.heap.size (fun k_ => (w.heap.size ≤ k_)) v0_ r ∧ Below w.heap.size w w' := by
 have HR0:=zA hr0;have HC0:=zA hc0;clear hr0 hc0;have HB:=zA (Below.refl w.heap.size w)
 have H : (spec_l6Sort.l0 k l0 a1 (([] : List (List Int))) 0) = some r:=h
 clear h;obtain ⟨y120,hy120⟩ : ∃ y_ : List (List Int),y_ = (([] : List (List Int))):=⟨_,rfl⟩
 replace H : (spec_l6Sort.l0 k l0 a1 y120 0) = some r:=by first|(rw [hy120];with_reducible exact H)|(have H2_:=(Option.bind_some _ _).symm.trans H;rw [hy120];with_reducible exact H2_)|(have H2_:=(Option.bind_some _ _).symm.trans H;with_reducible exact H2_)|with_reducible exact H|(rw [hy120];exact H)|exact H
 have Ny120:=zA hy120;clear hy120
 have H':=zA H
 clear H
 go_enter Tryz.func30,Tryz.ntmps30
 go_wp2_with (first|((with_reducible refine gate_dst (N:=11) rfl ?_);refine Kd.N_lit (Kd.slice 3 (Kd.int .i64)) _ 22 ?hg (N':=11) ?hd (xs:=([] : List (List Int))) (inner:=[]) (ok:=(fun k_ => (w.heap.size ≤ k_))) (okp:=(fun k_ => (w.heap.size ≤ k_))) ?hr ?hp (fun _ hk => hk) ((show ∀ k_,w.heap.size ≤ k_ → (fun k_ => (w.heap.size ≤ k_)) k_ from fun k_ hk => (Nat.le_trans (zT (zz HB)) hk)) _ (Nat.le_refl _)) (Below.refl _ _) (Nat.le_refl _) (by simp) ?_;(case hd => rfl);(case hg => rfl);(case hr => first|(go_simp;done)|(go_simp;rfl));(case hp => exact (Reps.none _ _));intro v121 w3 ho4 hb hg_ hnew_;clear hg_ hnew_;(first|rw [← Ny120.out] at ho4|(simp only [Int.reduceToNat] at ho4;rw [← Ny120.out] at ho4));have HO122:=zA (Kd.N_lower ho4 (zT (zz HB)));replace HB:=zA (zJb (zz HB) hb);clear hb ho4))
 repeat (go_quiet (first|((with_reducible refine gate_dst (N:=11) rfl ?_);refine Kd.N_lit (Kd.slice 3 (Kd.int .i64)) _ 22 ?hg (N':=11) ?hd (xs:=([] : List (List Int))) (inner:=[]) (ok:=(fun k_ => (w.heap.size ≤ k_))) (okp:=(fun k_ => (w.heap.size ≤ k_))) ?hr ?hp (fun _ hk => hk) ((show ∀ k_,w.heap.size ≤ k_ → (fun k_ => (w.heap.size ≤ k_)) k_ from fun k_ hk => (Nat.le_trans (zT (zz HB)) hk)) _ (Nat.le_refl _)) (Below.refl _ _) (Nat.le_refl _) (by simp) ?_;(case hd => rfl);(case hg => rfl);(case hr => first|(go_simp;done)|(go_simp;rfl));(case hp => exact (Reps.none _ _));intro v121 w3 ho4 hb hg_ hnew_;clear hg_ hnew_;(first|rw [← Ny120.out] at ho4|(simp only [Int.reduceToNat] at ho4;rw [← Ny120.out] at ho4));have HO122:=zA (Kd.N_lower ho4 (zT (zz HB)));replace HB:=zA (zJb (zz HB) hb);clear hb ho4));try go_wp2_with (first|((with_reducible refine gate_dst (N:=11) rfl ?_);refine Kd.N_lit (Kd.slice 3 (Kd.int .i64)) _ 22 ?hg (N':=11) ?hd (xs:=([] : List (List Int))) (inner:=[]) (ok:=(fun k_ => (w.heap.size ≤ k_))) (okp:=(fun k_ => (w.heap.size ≤ k_))) ?hr ?hp (fun _ hk => hk) ((show ∀ k_,w.heap.size ≤ k_ → (fun k_ => (w.heap.size ≤ k_)) k_ from fun k_ hk => (Nat.le_trans (zT (zz HB)) hk)) _ (Nat.le_refl _)) (Below.refl _ _) (Nat.le_refl _) (by simp) ?_;(case hd => rfl);(case hg => rfl);(case hr => first|(go_simp;done)|(go_simp;rfl));(case hp => exact (Reps.none _ _));intro v121 w3 ho4 hb hg_ hnew_;clear hg_ hnew_;(first|rw [← Ny120.out] at ho4|(simp only [Int.reduceToNat] at ho4;rw [← Ny120.out] at ho4));have HO122:=zA (Kd.N_lower ho4 (zT (zz HB)));replace HB:=zA (zJb (zz HB) hb);clear hb ho4)))
 go_loopg [5,6] k (fun kq v5 v6 w' => ∃ (x5_1 : List (List Int)) (x6_1 : Int),v6 = .int .i64 x6_1 ∧ Aside0 (spec_l6Sort.l0 kq l0 a1 x5_1 x6_1 = some r) ∧ Aside0 (kq ≤ k) ∧ Aside0 (Kd.N (Kd.slice 3 (Kd.int .i64)) 22 w' w.heap.size (fun k_ => (w.heap.size ≤ k_)) v5 x5_1) ∧ Aside0 (Below w.heap.size w w'))
 case atStart => exact ⟨(y120),(0),za,H',⟨Nat.le_refl _⟩,⟨by (with_reducible repeat (first|apply Kd.N_alloc|apply Kd.N_drewN|apply Kd.N_drew));exact HO122.out⟩,⟨zz HB⟩⟩
 case round =>
  clear H';(try clear p2);(try clear c3);obtain ⟨x5_1,x6_1,rfl,HA,HK1,HO_5,HB⟩:=hrel
  cases gk with
  | zero => exact absurd HA.out (by simp [spec_l6Sort.l0])
  | succ k1 =>
   have H:=HA.out;clear HA;simp only [spec_l6Sort.l0] at H
   by_cases c5 : x6_1 < (l0.length : Int)
   ·
    rw [if_pos c5] at H;have c5b0:=decide_eq_true c5;clear c5;have HC6:=zA H;clear H;obtain ⟨Ao7,co7,eo7⟩:=Kd.N_slice HO_5.out
    subst eo7
    go_upto_block 2 with (fail)
    repeat (go_quiet (fail);go_upto_block 2 with (fail))
    go_cut [7] (fun v7 wc => ∃ (kq : Nat) (x7_5 : Int),v7 = .int .i64 x7_5 ∧ Aside0 (spec_l6Sort.j2 kq l0 a1 x5_1 x6_1 x7_5 = some r) ∧ Aside0 (kq ≤ k1) ∧ Aside0 (Kd.N (Kd.slice 3 (Kd.int .i64)) 22 wc w.heap.size (fun k_ => (w.heap.size ≤ k_)) (.slice Ao7 x5_1.length co7) x5_1) ∧ Aside0 (Below w.heap.size w wc))
    case first =>
     have H:=HC6.out;clear HC6
     have H':=zA H
     clear H
     go_wp2
     repeat (go_quiet (fail);try go_wp2)
     go_loopg [7] k1 (fun kq v7 w' => ∃ (x7_2 : Int),v7 = .int .i64 x7_2 ∧ Aside0 (spec_l6Sort.l1 kq l0 a1 x5_1 x6_1 x7_2 = some r) ∧ Aside0 (kq ≤ k1) ∧ Aside0 (Kd.N (Kd.slice 3 (Kd.int .i64)) 22 w' w.heap.size (fun k_ => (w.heap.size ≤ k_)) (.slice Ao7 x5_1.length co7) x5_1) ∧ Aside0 (Below w.heap.size w w'))
     case atStart => exact ⟨((x5_1.length : Int)),za,H',⟨Nat.le_refl _⟩,⟨by (with_reducible repeat (first|apply Kd.N_alloc|apply Kd.N_drewN|apply Kd.N_drew));exact HO_5.out⟩,⟨zz HB⟩⟩
     case round =>
      clear H';(try clear p2);(try clear c3);(try clear c5);(try clear c5b0);(try clear p2);obtain ⟨x7_2,rfl,HA,HK2,HO_5,HB⟩:=hrel
      cases gk with
      | zero => exact absurd HA.out (by simp [spec_l6Sort.l1])
      | succ k2 =>
       have H:=HA.out;clear HA;simp only [spec_l6Sort.l1] at H
       by_cases c8 : x7_2 > 0
       ·
        rw [if_pos c8] at H
        have c8b0 : decide (0 < x7_2) = true:=decide_eq_true c8
        clear c8
        (first|rw [c8b0]|(simp only [i64_w,i32_w];rw [c8b0])|skip)
        by_cases c9 : 0 ≤ x6_1
        ·
         rw [if_pos c9] at H;have c9b0:=decide_eq_true c9;clear c9
         by_cases c10 : x6_1 < (l0.length : Int)
         ·
          rw [if_pos c10] at H;have c10b0:=decide_eq_true c10;clear c10;obtain ⟨ji11,hji11⟩ : ∃ j_ : Int,(wrap64 (x7_2 - 1)) = j_:=⟨_,rfl⟩
          replace H : (if 0 ≤ (ji11) then (if (ji11) < (x5_1.length : Int) then ((spec_l2Less.f k2 (rd_L1 l0 x6_1) (rd_L1 x5_1 (ji11))).bind fun t125 => (if t125 = true then (spec_l6Sort.l1 k2 l0 a1 x5_1 x6_1 ji11) else (spec_l6Sort.j2 k2 l0 a1 x5_1 x6_1 x7_2))) else (none)) else (none)) = some r:=by first|(rw [hji11] at H;exact H)|(simp only [hji11] at H ⊢;exact H)
          have hji11w : (IntKind.i64.wrap (x7_2 - 1)) = ji11:=(i64_w _).trans hji11
          by_cases c12 : 0 ≤ (ji11)
          ·
           rw [if_pos c12] at H;have c12b0:=decide_eq_true c12;clear c12
           by_cases c13 : (ji11) < (x5_1.length : Int)
           ·
            rw [if_pos c13] at H;have c13b0:=decide_eq_true c13;clear c13;replace H:=Option.bind_eq_some_iff.mp H;obtain ⟨t125,A140,H⟩:=H;(try dsimp only at H);have A14:=zA A140;clear A140
            by_cases c15 : t125 = true
            ·
             subst c15
             rw [if_pos rfl] at H
             have H':=zA H
             clear H;have p123 : 0 ≤ (x6_1 : Int):=zXb ze;have q123 : x6_1 < (l0.length : Int):=zXb ze;obtain ⟨ad123,A123_0,c123_0,e123,hx123_0,hl123_0,hi123_0⟩:=at_L1 HR0.out x6_1 p123 q123
             cases e123
             replace hx123_0:=(HB.out.cell (World.block_lt_of_cell? w _ hx123_0)).trans hx123_0;have HR123_0:=zA hi123_0;have HC123_0:=zA hl123_0;clear hi123_0 hl123_0;replace p123:=eq_true p123;replace q123:=eq_true q123;have p124 : 0 ≤ ((ji11) : Int):=zXb ze;have q124 : (ji11) < (x5_1.length : Int):=zXb ze;obtain ⟨ad124,A124_0,c124_0,e124,hx124_0,hl124_0,hi124_0⟩:=at_L1 (Kd.N_reads' HO_5.out).2.2 (ji11) p124 q124
             cases e124
             obtain ⟨ce124,hce124,hMe124,hcc124⟩:=Kd.N_get HO_5.out [] (ji11) p124 (by first|exact q124|exact zXb ze|(have e_:=(Kd.N_reads' HO_5.out).1;omega));obtain ⟨ua124_0,uc124_0,rfl,ul124_0,ge124_0⟩:=Kd.FK_slice_open hMe124;have hv124_0:=hcc124 0 _ rfl;rw [Nat.add_zero,show ((Kd.slice 3 (Kd.int .i64))).sz = 1 from rfl,Nat.mul_one] at hv124_0;replace hv124_0:=Option.some.inj (hv124_0.symm.trans hx124_0)
             injection hv124_0 with hva_ hvn_ hvc_
             rw [hva_] at ge124_0;rw [hvc_] at ul124_0;have HL124_0:=zA (show Kd.V (Kd.int .i64) 3 _ w.heap.size _ _ (rd_L1 x5_1 (ji11)) from Kd.V_mk ul124_0 ge124_0);clear hva_ hvn_ hvc_ ge124_0 ul124_0;clear hcc124 hce124;have HR124_0:=zA hi124_0;have HC124_0:=zA hl124_0;clear hi124_0 hl124_0;replace p124:=eq_true p124;replace q124:=eq_true q124
             go_wp2_with (first|(go_at_call 50;(with_reducible refine (spec_l2Less.calls k2 _ _ (rd_L1 l0 x6_1) _ _ (rd_L1 x5_1 (ji11)) true _ ?side1 ?side2 ?side3 ?side4 A14.out).mono ?_);(case side1 => exact zsd HR123_0 HB);(case side2 => exact HC123_0.out);(case side3 => repeat (first|exact (by repeat (first|(with_reducible exact HR124_0.out)|(with_reducible refine zBb ?_ _)|(with_reducible refine zAb ?_ _)|(with_reducible refine zX ?_)|exact HR124_0.out))|(with_reducible refine zBb ?_ _)|(with_reducible refine zAb ?_ _)|(with_reducible refine zX ?_)));(case side4 => exact HC124_0.out);rintro e w' ⟨rfl,⟨nd,rfl⟩⟩;(try first|exact ⟨rfl,_,World.drewN_drewN _ _ _⟩|exact ⟨rfl,_,Eq.trans (World.drewN_drewN _ _ _) (congrArg (World.drewN _) (Nat.add_assoc _ _ _))⟩)))
             repeat (go_quiet (first|(go_at_call 50;(with_reducible refine (spec_l2Less.calls k2 _ _ (rd_L1 l0 x6_1) _ _ (rd_L1 x5_1 (ji11)) true _ ?side1 ?side2 ?side3 ?side4 A14.out).mono ?_);(case side1 => exact zsd HR123_0 HB);(case side2 => exact HC123_0.out);(case side3 => repeat (first|exact (by repeat (first|(with_reducible exact HR124_0.out)|(with_reducible refine zBb ?_ _)|(with_reducible refine zAb ?_ _)|(with_reducible refine zX ?_)|exact HR124_0.out))|(with_reducible refine zBb ?_ _)|(with_reducible refine zAb ?_ _)|(with_reducible refine zX ?_)));(case side4 => exact HC124_0.out);rintro e w' ⟨rfl,⟨nd,rfl⟩⟩;(try first|exact ⟨rfl,_,World.drewN_drewN _ _ _⟩|exact ⟨rfl,_,Eq.trans (World.drewN_drewN _ _ _) (congrArg (World.drewN _) (Nat.add_assoc _ _ _))⟩)));try go_wp2_with (first|(go_at_call 50;(with_reducible refine (spec_l2Less.calls k2 _ _ (rd_L1 l0 x6_1) _ _ (rd_L1 x5_1 (ji11)) true _ ?side1 ?side2 ?side3 ?side4 A14.out).mono ?_);(case side1 => exact zsd HR123_0 HB);(case side2 => exact HC123_0.out);(case side3 => repeat (first|exact (by repeat (first|(with_reducible exact HR124_0.out)|(with_reducible refine zBb ?_ _)|(with_reducible refine zAb ?_ _)|(with_reducible refine zX ?_)|exact HR124_0.out))|(with_reducible refine zBb ?_ _)|(with_reducible refine zAb ?_ _)|(with_reducible refine zX ?_)));(case side4 => exact HC124_0.out);rintro e w' ⟨rfl,⟨nd,rfl⟩⟩;(try first|exact ⟨rfl,_,World.drewN_drewN _ _ _⟩|exact ⟨rfl,_,Eq.trans (World.drewN_drewN _ _ _) (congrArg (World.drewN _) (Nat.add_assoc _ _ _))⟩))))
             go_roundg k2
             case measure => have:=HK1.out;have:=HK2.out;omega
             case rel => exact ⟨(ji11),(by first|rfl|(simp;done)|(simp only [← hji11] <;> (first|rfl|simp))|(simp [*];done)),H',⟨by have:=HK1.out;have:=HK2.out;omega⟩,⟨by (with_reducible repeat (first|apply Kd.N_alloc|apply Kd.N_drewN|apply Kd.N_drew));exact HO_5.out⟩,⟨zz HB⟩⟩
            ·
             replace c15:=Bool.eq_false_iff.mpr c15
             subst c15
             have H1 : (spec_l6Sort.j2 k2 l0 a1 x5_1 x6_1 x7_2) = some r:=by rw [if_neg (show ¬ (false = true) by decide)] at H;exact H
             clear H;have H:=H1;clear H1
             have H':=zA H
             clear H;have p123 : 0 ≤ (x6_1 : Int):=zXb ze;have q123 : x6_1 < (l0.length : Int):=zXb ze;obtain ⟨ad123,A123_0,c123_0,e123,hx123_0,hl123_0,hi123_0⟩:=at_L1 HR0.out x6_1 p123 q123
             cases e123
             replace hx123_0:=(HB.out.cell (World.block_lt_of_cell? w _ hx123_0)).trans hx123_0;have HR123_0:=zA hi123_0;have HC123_0:=zA hl123_0;clear hi123_0 hl123_0;replace p123:=eq_true p123;replace q123:=eq_true q123;have p124 : 0 ≤ ((ji11) : Int):=zXb ze;have q124 : (ji11) < (x5_1.length : Int):=zXb ze;obtain ⟨ad124,A124_0,c124_0,e124,hx124_0,hl124_0,hi124_0⟩:=at_L1 (Kd.N_reads' HO_5.out).2.2 (ji11) p124 q124
             cases e124
             obtain ⟨ce124,hce124,hMe124,hcc124⟩:=Kd.N_get HO_5.out [] (ji11) p124 (by first|exact q124|exact zXb ze|(have e_:=(Kd.N_reads' HO_5.out).1;omega));obtain ⟨ua124_0,uc124_0,rfl,ul124_0,ge124_0⟩:=Kd.FK_slice_open hMe124;have hv124_0:=hcc124 0 _ rfl;rw [Nat.add_zero,show ((Kd.slice 3 (Kd.int .i64))).sz = 1 from rfl,Nat.mul_one] at hv124_0;replace hv124_0:=Option.some.inj (hv124_0.symm.trans hx124_0)
             injection hv124_0 with hva_ hvn_ hvc_
             rw [hva_] at ge124_0;rw [hvc_] at ul124_0;have HL124_0:=zA (show Kd.V (Kd.int .i64) 3 _ w.heap.size _ _ (rd_L1 x5_1 (ji11)) from Kd.V_mk ul124_0 ge124_0);clear hva_ hvn_ hvc_ ge124_0 ul124_0;clear hcc124 hce124;have HR124_0:=zA hi124_0;have HC124_0:=zA hl124_0;clear hi124_0 hl124_0;replace p124:=eq_true p124;replace q124:=eq_true q124
             go_wp2_with (first|(go_at_call 50;(with_reducible refine (spec_l2Less.calls k2 _ _ (rd_L1 l0 x6_1) _ _ (rd_L1 x5_1 (ji11)) false _ ?side1 ?side2 ?side3 ?side4 A14.out).mono ?_);(case side1 => exact zsd HR123_0 HB);(case side2 => exact HC123_0.out);(case side3 => repeat (first|exact (by repeat (first|(with_reducible exact HR124_0.out)|(with_reducible refine zBb ?_ _)|(with_reducible refine zAb ?_ _)|(with_reducible refine zX ?_)|exact HR124_0.out))|(with_reducible refine zBb ?_ _)|(with_reducible refine zAb ?_ _)|(with_reducible refine zX ?_)));(case side4 => exact HC124_0.out);rintro e w' ⟨rfl,⟨nd,rfl⟩⟩;(try first|exact ⟨rfl,_,World.drewN_drewN _ _ _⟩|exact ⟨rfl,_,Eq.trans (World.drewN_drewN _ _ _) (congrArg (World.drewN _) (Nat.add_assoc _ _ _))⟩)))
             repeat (go_quiet (first|(go_at_call 50;(with_reducible refine (spec_l2Less.calls k2 _ _ (rd_L1 l0 x6_1) _ _ (rd_L1 x5_1 (ji11)) false _ ?side1 ?side2 ?side3 ?side4 A14.out).mono ?_);(case side1 => exact zsd HR123_0 HB);(case side2 => exact HC123_0.out);(case side3 => repeat (first|exact (by repeat (first|(with_reducible exact HR124_0.out)|(with_reducible refine zBb ?_ _)|(with_reducible refine zAb ?_ _)|(with_reducible refine zX ?_)|exact HR124_0.out))|(with_reducible refine zBb ?_ _)|(with_reducible refine zAb ?_ _)|(with_reducible refine zX ?_)));(case side4 => exact HC124_0.out);rintro e w' ⟨rfl,⟨nd,rfl⟩⟩;(try first|exact ⟨rfl,_,World.drewN_drewN _ _ _⟩|exact ⟨rfl,_,Eq.trans (World.drewN_drewN _ _ _) (congrArg (World.drewN _) (Nat.add_assoc _ _ _))⟩)));try go_wp2_with (first|(go_at_call 50;(with_reducible refine (spec_l2Less.calls k2 _ _ (rd_L1 l0 x6_1) _ _ (rd_L1 x5_1 (ji11)) false _ ?side1 ?side2 ?side3 ?side4 A14.out).mono ?_);(case side1 => exact zsd HR123_0 HB);(case side2 => exact HC123_0.out);(case side3 => repeat (first|exact (by repeat (first|(with_reducible exact HR124_0.out)|(with_reducible refine zBb ?_ _)|(with_reducible refine zAb ?_ _)|(with_reducible refine zX ?_)|exact HR124_0.out))|(with_reducible refine zBb ?_ _)|(with_reducible refine zAb ?_ _)|(with_reducible refine zX ?_)));(case side4 => exact HC124_0.out);rintro e w' ⟨rfl,⟨nd,rfl⟩⟩;(try first|exact ⟨rfl,_,World.drewN_drewN _ _ _⟩|exact ⟨rfl,_,Eq.trans (World.drewN_drewN _ _ _) (congrArg (World.drewN _) (Nat.add_assoc _ _ _))⟩))))
             go_meet
             case rel => exact ⟨_,(x7_2),za,H',⟨by have:=HK1.out;have:=HK2.out;first|omega|exact Nat.le_refl _⟩,⟨by (with_reducible repeat (first|apply Kd.N_alloc|apply Kd.N_drewN|apply Kd.N_drew));exact HO_5.out⟩,⟨zz HB⟩⟩
           ·
            rw [if_neg c13] at H
            exact absurd H (by simp)
          ·
           rw [if_neg c12] at H
           exact absurd H (by simp)
         ·
          rw [if_neg c10] at H
          exact absurd H (by simp)
        ·
         rw [if_neg c9] at H
         exact absurd H (by simp)
       ·
        rw [if_neg c8] at H
        have c8b0 : decide (0 < x7_2) = false:=decide_eq_false c8
        clear c8
        (first|rw [c8b0]|(simp only [i64_w,i32_w];rw [c8b0])|skip)
        have H':=zA H
        clear H
        go_wp2
        repeat (go_quiet (fail);try go_wp2)
        go_meet
        case rel => exact ⟨_,(x7_2),za,H',⟨by have:=HK1.out;have:=HK2.out;first|omega|exact Nat.le_refl _⟩,⟨by (with_reducible repeat (first|apply Kd.N_alloc|apply Kd.N_drewN|apply Kd.N_drew));exact HO_5.out⟩,⟨zz HB⟩⟩
    case rest =>
     clear HC6;(try clear c1);(try clear p1);(try clear q1);(try clear hx1);(try clear p2);(try clear c3);(try clear c5);(try clear c5b0);(try clear p6);(try clear c8);(try clear c8b0);(try clear c9);(try clear c9b0);(try clear c10);(try clear c10b0);(try clear c12);(try clear c12b0);(try clear p12);(try clear q12);(try clear hx12);(try clear c13);(try clear c13b0);(try clear c15);(try clear hx123_0);(try clear hx124_0);(try clear p123);(try clear p124);(try clear p2);(try clear q123);(try clear q124);obtain ⟨kq,x7_5,rfl,HA,HJ5,HO_5,HB⟩:=hcut
     cases kq with
     | zero => exact absurd HA.out (by simp [spec_l6Sort.j2])
     | succ kj5 =>
      have H:=HA.out;clear HA;simp only [spec_l6Sort.j2] at H;have HC16:=zA H;clear H
      go_upto_region 8 with (fail)
      repeat (go_quiet (fail);go_upto_region 8 with (fail))
      go_cut [52] (fun v52 wc => ∃ (kq : Nat) (x52_15 : Bool),v52 = .bool x52_15 ∧ Aside0 (spec_l6Sort.j3 kq l0 a1 x5_1 x6_1 x7_5 x52_15 = some r) ∧ Aside0 (kq ≤ kj5) ∧ Aside0 (Kd.N (Kd.slice 3 (Kd.int .i64)) 22 wc w.heap.size (fun k_ => (w.heap.size ≤ k_)) (.slice Ao7 x5_1.length co7) x5_1) ∧ Aside0 (Below w.heap.size w wc))
      case first =>
       have H:=HC16.out;clear HC16
       by_cases c17 : a1 = true
       ·
        subst c17
        rw [if_pos rfl] at H
        by_cases c18 : x7_5 > 0
        ·
         rw [if_pos c18] at H
         have c18b0 : decide (0 < x7_5) = true:=decide_eq_true c18
         clear c18
         (first|rw [c18b0]|(simp only [i64_w,i32_w];rw [c18b0])|skip)
         obtain ⟨ji19,hji19⟩ : ∃ j_ : Int,(wrap64 (x7_5 - 1)) = j_:=⟨_,rfl⟩
         replace H : (if 0 ≤ (ji19) then (if (ji19) < (x5_1.length : Int) then (if 0 ≤ x6_1 then (if x6_1 < (l0.length : Int) then ((spec_l2Ints.f kj5 (rd_L1 x5_1 (ji19)) (rd_L1 l0 x6_1)).bind fun t128 => (spec_l6Sort.j3 kj5 l0 true x5_1 x6_1 x7_5 t128)) else (none)) else (none)) else (none)) else (none)) = some r:=by first|(rw [hji19] at H;exact H)|(simp only [hji19] at H ⊢;exact H)
         have hji19w : (IntKind.i64.wrap (x7_5 - 1)) = ji19:=(i64_w _).trans hji19
         by_cases c20 : 0 ≤ (ji19)
         ·
          rw [if_pos c20] at H;have c20b0:=decide_eq_true c20;clear c20
          by_cases c21 : (ji19) < (x5_1.length : Int)
          ·
           rw [if_pos c21] at H;have c21b0:=decide_eq_true c21;clear c21
           by_cases c22 : 0 ≤ x6_1
           ·
            rw [if_pos c22] at H;have c22b0:=decide_eq_true c22;clear c22
            by_cases c23 : x6_1 < (l0.length : Int)
            ·
             rw [if_pos c23] at H;have c23b0:=decide_eq_true c23;clear c23;replace H:=Option.bind_eq_some_iff.mp H;obtain ⟨t128,A240,H⟩:=H;(try dsimp only at H);have A24:=zA A240;clear A240
             have H':=zA H
             clear H;have p126 : 0 ≤ ((ji19) : Int):=zXb ze;have q126 : (ji19) < (x5_1.length : Int):=zXb ze;obtain ⟨ad126,A126_0,c126_0,e126,hx126_0,hl126_0,hi126_0⟩:=at_L1 (Kd.N_reads' HO_5.out).2.2 (ji19) p126 q126
             cases e126
             obtain ⟨ce126,hce126,hMe126,hcc126⟩:=Kd.N_get HO_5.out [] (ji19) p126 (by first|exact q126|exact zXb ze|(have e_:=(Kd.N_reads' HO_5.out).1;omega));obtain ⟨ua126_0,uc126_0,rfl,ul126_0,ge126_0⟩:=Kd.FK_slice_open hMe126;have hv126_0:=hcc126 0 _ rfl;rw [Nat.add_zero,show ((Kd.slice 3 (Kd.int .i64))).sz = 1 from rfl,Nat.mul_one] at hv126_0;replace hv126_0:=Option.some.inj (hv126_0.symm.trans hx126_0)
             injection hv126_0 with hva_ hvn_ hvc_
             rw [hva_] at ge126_0;rw [hvc_] at ul126_0;have HL126_0:=zA (show Kd.V (Kd.int .i64) 3 _ w.heap.size _ _ (rd_L1 x5_1 (ji19)) from Kd.V_mk ul126_0 ge126_0);clear hva_ hvn_ hvc_ ge126_0 ul126_0;clear hcc126 hce126;have HR126_0:=zA hi126_0;have HC126_0:=zA hl126_0;clear hi126_0 hl126_0;replace p126:=eq_true p126;replace q126:=eq_true q126;have p127 : 0 ≤ (x6_1 : Int):=zXb ze;have q127 : x6_1 < (l0.length : Int):=zXb ze;obtain ⟨ad127,A127_0,c127_0,e127,hx127_0,hl127_0,hi127_0⟩:=at_L1 HR0.out x6_1 p127 q127
             cases e127
             replace hx127_0:=(HB.out.cell (World.block_lt_of_cell? w _ hx127_0)).trans hx127_0;have HR127_0:=zA hi127_0;have HC127_0:=zA hl127_0;clear hi127_0 hl127_0;replace p127:=eq_true p127;replace q127:=eq_true q127
             go_wp2_with (first|(go_at_call 46;(with_reducible refine (spec_l2Ints.calls kj5 _ _ (rd_L1 x5_1 (ji19)) _ _ (rd_L1 l0 x6_1) t128 _ ?side1 ?side2 ?side3 ?side4 A24.out).mono ?_);(case side1 => repeat (first|exact (by repeat (first|(with_reducible exact HR126_0.out)|(with_reducible refine zBb ?_ _)|(with_reducible refine zAb ?_ _)|(with_reducible refine zX ?_)|exact HR126_0.out))|(with_reducible refine zBb ?_ _)|(with_reducible refine zAb ?_ _)|(with_reducible refine zX ?_)));(case side2 => exact HC126_0.out);(case side3 => exact zsd HR127_0 HB);(case side4 => exact HC127_0.out);rintro e w' ⟨rfl,⟨nd,rfl⟩⟩;(try first|exact ⟨rfl,_,World.drewN_drewN _ _ _⟩|exact ⟨rfl,_,Eq.trans (World.drewN_drewN _ _ _) (congrArg (World.drewN _) (Nat.add_assoc _ _ _))⟩)))
             repeat (go_quiet (first|(go_at_call 46;(with_reducible refine (spec_l2Ints.calls kj5 _ _ (rd_L1 x5_1 (ji19)) _ _ (rd_L1 l0 x6_1) t128 _ ?side1 ?side2 ?side3 ?side4 A24.out).mono ?_);(case side1 => repeat (first|exact (by repeat (first|(with_reducible exact HR126_0.out)|(with_reducible refine zBb ?_ _)|(with_reducible refine zAb ?_ _)|(with_reducible refine zX ?_)|exact HR126_0.out))|(with_reducible refine zBb ?_ _)|(with_reducible refine zAb ?_ _)|(with_reducible refine zX ?_)));(case side2 => exact HC126_0.out);(case side3 => exact zsd HR127_0 HB);(case side4 => exact HC127_0.out);rintro e w' ⟨rfl,⟨nd,rfl⟩⟩;(try first|exact ⟨rfl,_,World.drewN_drewN _ _ _⟩|exact ⟨rfl,_,Eq.trans (World.drewN_drewN _ _ _) (congrArg (World.drewN _) (Nat.add_assoc _ _ _))⟩)));try go_wp2_with (first|(go_at_call 46;(with_reducible refine (spec_l2Ints.calls kj5 _ _ (rd_L1 x5_1 (ji19)) _ _ (rd_L1 l0 x6_1) t128 _ ?side1 ?side2 ?side3 ?side4 A24.out).mono ?_);(case side1 => repeat (first|exact (by repeat (first|(with_reducible exact HR126_0.out)|(with_reducible refine zBb ?_ _)|(with_reducible refine zAb ?_ _)|(with_reducible refine zX ?_)|exact HR126_0.out))|(with_reducible refine zBb ?_ _)|(with_reducible refine zAb ?_ _)|(with_reducible refine zX ?_)));(case side2 => exact HC126_0.out);(case side3 => exact zsd HR127_0 HB);(case side4 => exact HC127_0.out);rintro e w' ⟨rfl,⟨nd,rfl⟩⟩;(try first|exact ⟨rfl,_,World.drewN_drewN _ _ _⟩|exact ⟨rfl,_,Eq.trans (World.drewN_drewN _ _ _) (congrArg (World.drewN _) (Nat.add_assoc _ _ _))⟩))))
             go_meet
             case rel => exact ⟨_,(t128),za,H',⟨by have:=HK1.out;have:=HJ5.out;first|omega|exact Nat.le_refl _⟩,⟨by (with_reducible repeat (first|apply Kd.N_alloc|apply Kd.N_drewN|apply Kd.N_drew));exact HO_5.out⟩,⟨zz HB⟩⟩
            ·
             rw [if_neg c23] at H
             exact absurd H (by simp)
           ·
            rw [if_neg c22] at H
            exact absurd H (by simp)
          ·
           rw [if_neg c21] at H
           exact absurd H (by simp)
         ·
          rw [if_neg c20] at H
          exact absurd H (by simp)
        ·
         rw [if_neg c18] at H
         have c18b0 : decide (0 < x7_5) = false:=decide_eq_false c18
         clear c18
         (first|rw [c18b0]|(simp only [i64_w,i32_w];rw [c18b0])|skip)
         have H':=zA H
         clear H
         go_wp2
         repeat (go_quiet (fail);try go_wp2)
         go_meet
         case rel => exact ⟨_,(false),za,H',⟨by have:=HK1.out;have:=HJ5.out;first|omega|exact Nat.le_refl _⟩,⟨by (with_reducible repeat (first|apply Kd.N_alloc|apply Kd.N_drewN|apply Kd.N_drew));exact HO_5.out⟩,⟨zz HB⟩⟩
       ·
        replace c17:=Bool.eq_false_iff.mpr c17
        subst c17
        have H1 : (spec_l6Sort.j3 kj5 l0 false x5_1 x6_1 x7_5 false) = some r:=by rw [if_neg (show ¬ (false = true) by decide)] at H;exact H
        clear H;have H:=H1;clear H1
        have H':=zA H
        clear H
        go_wp2
        repeat (go_quiet (fail);try go_wp2)
        go_meet
        case rel => exact ⟨_,(false),za,H',⟨by have:=HK1.out;have:=HJ5.out;first|omega|exact Nat.le_refl _⟩,⟨by (with_reducible repeat (first|apply Kd.N_alloc|apply Kd.N_drewN|apply Kd.N_drew));exact HO_5.out⟩,⟨zz HB⟩⟩
      case rest =>
       clear HC16;(try clear c1);(try clear p1);(try clear q1);(try clear hx1);(try clear c2);(try clear p2);(try clear c3);(try clear c5);(try clear c5b0);(try clear p6);(try clear c8);(try clear c8b0);(try clear c9);(try clear c9b0);(try clear c10);(try clear c10b0);(try clear c12);(try clear c12b0);(try clear p12);(try clear q12);(try clear hx12);(try clear c13);(try clear c13b0);(try clear c15);(try clear c17);(try clear c18);(try clear c18b0);(try clear c20);(try clear c20b0);(try clear c21);(try clear c21b0);(try clear c22);(try clear c22b0);(try clear c23);(try clear c23b0);(try clear hx123_0);(try clear hx124_0);(try clear hx126_0);(try clear hx127_0);(try clear p1);(try clear p12);(try clear p123);(try clear p124);(try clear p126);(try clear p127);(try clear p2);(try clear p6);(try clear q1);(try clear q12);(try clear q123);(try clear q124);(try clear q126);(try clear q127);obtain ⟨kq,x52_15,rfl,HA,HJ15,HO_5,HB⟩:=hcut
       cases kq with
       | zero => exact absurd HA.out (by simp [spec_l6Sort.j3])
       | succ kj15 =>
        have H:=HA.out;clear HA;simp only [spec_l6Sort.j3] at H
        by_cases c25 : x52_15 = true
        ·
         subst c25
         rw [if_pos rfl] at H
         have H':=zA H
         clear H
         go_wp2
         repeat (go_quiet (fail);try go_wp2)
         go_roundg kj15
         case measure => have:=HK1.out;have:=HJ5.out;have:=HJ15.out;omega
         case rel => exact ⟨(x5_1),(wrap64 (x6_1 + 1)),za,H',⟨by have:=HK1.out;have:=HJ5.out;have:=HJ15.out;omega⟩,⟨by (with_reducible repeat (first|apply Kd.N_alloc|apply Kd.N_drewN|apply Kd.N_drew));exact HO_5.out⟩,⟨zz HB⟩⟩
        ·
         replace c25:=Bool.eq_false_iff.mpr c25
         subst c25
         have H1 : (spec_l6Sort.l2 kj15 l0 a1 x5_1 x6_1 x7_5 (([] : List (List Int))) 0) = some r:=by rw [if_neg (show ¬ (false = true) by decide)] at H;exact H
         clear H;have H:=H1;clear H1;obtain ⟨y129,hy129⟩ : ∃ y_ : List (List Int),y_ = (([] : List (List Int))):=⟨_,rfl⟩
         replace H : (spec_l6Sort.l2 kj15 l0 a1 x5_1 x6_1 x7_5 y129 0) = some r:=by first|(rw [hy129];with_reducible exact H)|(have H2_:=(Option.bind_some _ _).symm.trans H;rw [hy129];with_reducible exact H2_)|(have H2_:=(Option.bind_some _ _).symm.trans H;with_reducible exact H2_)|with_reducible exact H|(rw [hy129];exact H)|exact H
         have Ny129:=zA hy129;clear hy129
         have H':=zA H
         clear H
         go_wp2_with (first|((with_reducible refine gate_dst (N:=53) rfl ?_);refine Kd.N_lit (Kd.slice 3 (Kd.int .i64)) _ 22 ?hg (N':=53) ?hd (xs:=([] : List (List Int))) (inner:=[]) (ok:=(fun k_ => (w.heap.size ≤ k_) ∧ some k_ ≠ (.slice Ao7 x5_1.length co7 : Value).ownBlock)) (okp:=(fun k_ => (w.heap.size ≤ k_) ∧ some k_ ≠ (.slice Ao7 x5_1.length co7 : Value).ownBlock)) ?hr ?hp (fun _ hk => hk) ((show ∀ k_,wc.heap.size ≤ k_ → (fun k_ => (w.heap.size ≤ k_) ∧ some k_ ≠ (.slice Ao7 x5_1.length co7 : Value).ownBlock) k_ from fun k_ hk => ⟨(Nat.le_trans (zT (zz HB)) hk),Kd.fresh' (Kd.N_lt (by (with_reducible repeat (first|apply Kd.N_alloc|apply Kd.N_drewN|apply Kd.N_drew));exact HO_5.out)) k_ hk⟩) _ (Nat.le_refl _)) (Below.refl _ _) (Nat.le_refl _) (by simp) ?_;(case hd => rfl);(case hg => rfl);(case hr => first|(go_simp;done)|(go_simp;rfl));(case hp => exact (Reps.none _ _));intro v130 w26 ho27 hb hg_ hnew_;clear hg_ hnew_;(first|rw [← Ny129.out] at ho27|(simp only [Int.reduceToNat] at ho27;rw [← Ny129.out] at ho27));replace HO_5:=zA (Kd.N_elder' (by (with_reducible repeat (first|apply Kd.N_alloc|apply Kd.N_drewN|apply Kd.N_drew));exact HO_5.out) (Kd.N_base ho27) hb);have HO131:=zA (Kd.N_lower ho27 (zT (zz HB)));replace HB:=zA (zJb (zz HB) hb);clear hb ho27))
         repeat (go_quiet (first|((with_reducible refine gate_dst (N:=53) rfl ?_);refine Kd.N_lit (Kd.slice 3 (Kd.int .i64)) _ 22 ?hg (N':=53) ?hd (xs:=([] : List (List Int))) (inner:=[]) (ok:=(fun k_ => (w.heap.size ≤ k_) ∧ some k_ ≠ (.slice Ao7 x5_1.length co7 : Value).ownBlock)) (okp:=(fun k_ => (w.heap.size ≤ k_) ∧ some k_ ≠ (.slice Ao7 x5_1.length co7 : Value).ownBlock)) ?hr ?hp (fun _ hk => hk) ((show ∀ k_,wc.heap.size ≤ k_ → (fun k_ => (w.heap.size ≤ k_) ∧ some k_ ≠ (.slice Ao7 x5_1.length co7 : Value).ownBlock) k_ from fun k_ hk => ⟨(Nat.le_trans (zT (zz HB)) hk),Kd.fresh' (Kd.N_lt (by (with_reducible repeat (first|apply Kd.N_alloc|apply Kd.N_drewN|apply Kd.N_drew));exact HO_5.out)) k_ hk⟩) _ (Nat.le_refl _)) (Below.refl _ _) (Nat.le_refl _) (by simp) ?_;(case hd => rfl);(case hg => rfl);(case hr => first|(go_simp;done)|(go_simp;rfl));(case hp => exact (Reps.none _ _));intro v130 w26 ho27 hb hg_ hnew_;clear hg_ hnew_;(first|rw [← Ny129.out] at ho27|(simp only [Int.reduceToNat] at ho27;rw [← Ny129.out] at ho27));replace HO_5:=zA (Kd.N_elder' (by (with_reducible repeat (first|apply Kd.N_alloc|apply Kd.N_drewN|apply Kd.N_drew));exact HO_5.out) (Kd.N_base ho27) hb);have HO131:=zA (Kd.N_lower ho27 (zT (zz HB)));replace HB:=zA (zJb (zz HB) hb);clear hb ho27));try go_wp2_with (first|((with_reducible refine gate_dst (N:=53) rfl ?_);refine Kd.N_lit (Kd.slice 3 (Kd.int .i64)) _ 22 ?hg (N':=53) ?hd (xs:=([] : List (List Int))) (inner:=[]) (ok:=(fun k_ => (w.heap.size ≤ k_) ∧ some k_ ≠ (.slice Ao7 x5_1.length co7 : Value).ownBlock)) (okp:=(fun k_ => (w.heap.size ≤ k_) ∧ some k_ ≠ (.slice Ao7 x5_1.length co7 : Value).ownBlock)) ?hr ?hp (fun _ hk => hk) ((show ∀ k_,wc.heap.size ≤ k_ → (fun k_ => (w.heap.size ≤ k_) ∧ some k_ ≠ (.slice Ao7 x5_1.length co7 : Value).ownBlock) k_ from fun k_ hk => ⟨(Nat.le_trans (zT (zz HB)) hk),Kd.fresh' (Kd.N_lt (by (with_reducible repeat (first|apply Kd.N_alloc|apply Kd.N_drewN|apply Kd.N_drew));exact HO_5.out)) k_ hk⟩) _ (Nat.le_refl _)) (Below.refl _ _) (Nat.le_refl _) (by simp) ?_;(case hd => rfl);(case hg => rfl);(case hr => first|(go_simp;done)|(go_simp;rfl));(case hp => exact (Reps.none _ _));intro v130 w26 ho27 hb hg_ hnew_;clear hg_ hnew_;(first|rw [← Ny129.out] at ho27|(simp only [Int.reduceToNat] at ho27;rw [← Ny129.out] at ho27));replace HO_5:=zA (Kd.N_elder' (by (with_reducible repeat (first|apply Kd.N_alloc|apply Kd.N_drewN|apply Kd.N_drew));exact HO_5.out) (Kd.N_base ho27) hb);have HO131:=zA (Kd.N_lower ho27 (zT (zz HB)));replace HB:=zA (zJb (zz HB) hb);clear hb ho27)))
         go_loopg [8,9] kj15 (fun kq v8 v9 w' => ∃ (x8_4 : List (List Int)) (x9_4 : Int),v9 = .int .i64 x9_4 ∧ Aside0 (spec_l6Sort.l2 kq l0 a1 x5_1 x6_1 x7_5 x8_4 x9_4 = some r) ∧ Aside0 (kq ≤ kj15) ∧ Aside0 (Kd.N (Kd.slice 3 (Kd.int .i64)) 22 w' w.heap.size (fun k_ => (w.heap.size ≤ k_) ∧ some k_ ≠ (v8 : Value).ownBlock) (.slice Ao7 x5_1.length co7) x5_1) ∧ Aside0 (Kd.N (Kd.slice 3 (Kd.int .i64)) 22 w' w.heap.size (fun k_ => (w.heap.size ≤ k_) ∧ some k_ ≠ ((.slice Ao7 x5_1.length co7) : Value).ownBlock) v8 x8_4) ∧ Aside0 (Below w.heap.size w w'))
         case atStart => exact ⟨(y129),(0),za,H',⟨Nat.le_refl _⟩,⟨by (with_reducible repeat (first|apply Kd.N_alloc|apply Kd.N_drewN|apply Kd.N_drew));exact HO_5.out⟩,⟨by (with_reducible repeat (first|apply Kd.N_alloc|apply Kd.N_drewN|apply Kd.N_drew));exact HO131.out⟩,⟨zz HB⟩⟩
         case round =>
          clear H';(try clear c1);(try clear p1);(try clear q1);(try clear hx1);(try clear c2);(try clear p2);(try clear c3);(try clear c5);(try clear c5b0);(try clear p6);(try clear c8);(try clear c8b0);(try clear c9);(try clear c9b0);(try clear c10);(try clear c10b0);(try clear c12);(try clear c12b0);(try clear p12);(try clear q12);(try clear hx12);(try clear c13);(try clear c13b0);(try clear c15);(try clear c17);(try clear c18);(try clear c18b0);(try clear c20);(try clear c20b0);(try clear c21);(try clear c21b0);(try clear c22);(try clear c22b0);(try clear c23);(try clear c23b0);(try clear c25);(try clear hx123_0);(try clear hx124_0);(try clear hx126_0);(try clear hx127_0);(try clear p1);(try clear p12);(try clear p123);(try clear p124);(try clear p126);(try clear p127);(try clear p2);(try clear p6);(try clear q1);(try clear q12);(try clear q123);(try clear q124);(try clear q126);(try clear q127);obtain ⟨x8_4,x9_4,rfl,HA,HK4,HO_5,HO_8,HB⟩:=hrel
          cases gk with
          | zero => exact absurd HA.out (by simp [spec_l6Sort.l2])
          | succ k4 =>
           have H:=HA.out;clear HA;simp only [spec_l6Sort.l2] at H
           by_cases c28 : x9_4 < x7_5
           ·
            rw [if_pos c28] at H;have c28b0:=decide_eq_true c28;clear c28
            by_cases c29 : 0 ≤ x9_4
            ·
             rw [if_pos c29] at H;have c29b0:=decide_eq_true c29;clear c29
             by_cases c30 : x9_4 < (x5_1.length : Int)
             ·
              rw [if_pos c30] at H;have c30b0:=decide_eq_true c30;clear c30
              by_cases c31 : x8_4.length < 5864062014805
              ·
               rw [if_pos c31] at H;have LMc31:=zA c31;clear c31;obtain ⟨y133,hy133⟩ : ∃ y_ : List (List Int),y_ = (x8_4 ++ [rd_L1 x5_1 x9_4]):=⟨_,rfl⟩
               replace H : (spec_l6Sort.l2 k4 l0 a1 x5_1 x6_1 x7_5 y133 (wrap64 (x9_4 + 1))) = some r:=by first|(rw [hy133];with_reducible exact H)|(have H2_:=(Option.bind_some _ _).symm.trans H;rw [hy133];with_reducible exact H2_)|(have H2_:=(Option.bind_some _ _).symm.trans H;with_reducible exact H2_)|with_reducible exact H|(rw [hy133];exact H)|exact H
               have Ny133:=zA hy133;clear hy133
               have H':=zA H
               clear H;have p132 : 0 ≤ (x9_4 : Int):=zXb ze;have q132 : x9_4 < (x5_1.length : Int):=zXb ze;obtain ⟨ad132,A132_0,c132_0,e132,hx132_0,hl132_0,hi132_0⟩:=at_L1 (Kd.N_reads' HO_5.out).2.2 x9_4 p132 q132
               cases e132
               obtain ⟨ce132,hce132,hMe132,hcc132⟩:=Kd.N_get HO_5.out [] x9_4 p132 (by first|exact q132|exact zXb ze|(have e_:=(Kd.N_reads' HO_5.out).1;omega));obtain ⟨ua132_0,uc132_0,rfl,ul132_0,ge132_0⟩:=Kd.FK_slice_open hMe132;have hv132_0:=hcc132 0 _ rfl;rw [Nat.add_zero,show ((Kd.slice 3 (Kd.int .i64))).sz = 1 from rfl,Nat.mul_one] at hv132_0;replace hv132_0:=Option.some.inj (hv132_0.symm.trans hx132_0)
               injection hv132_0 with hva_ hvn_ hvc_
               rw [hva_] at ge132_0;rw [hvc_] at ul132_0;have HL132_0:=zA (show Kd.V (Kd.int .i64) 3 _ w.heap.size _ _ (rd_L1 x5_1 x9_4) from Kd.V_mk ul132_0 ge132_0);clear hva_ hvn_ hvc_ ge132_0 ul132_0;clear hcc132 hce132;have HR132_0:=zA hi132_0;have HC132_0:=zA hl132_0;clear hi132_0 hl132_0;replace p132:=eq_true p132;replace q132:=eq_true q132
               go_wp2_with (first|((with_reducible refine gate_builtin (b:=.append) (xs:=#[.tmp 59,.tmp 64]) rfl ?_);at_builtin;refine Kd.N_append (Kd.slice 3 (Kd.int .i64)) (w0:=w) w.heap.size rfl (.tmp 59) (.tmp 64) 32 22 (.slice none 0 0) 24 rfl Tryz.underlying32 info22 rfl (by decide) (by omega) u8 x8_4 (rd_L1 x5_1 x9_4) [.slice A132_0 (rd_L1 x5_1 x9_4).length c132_0] (fun k_ => (w.heap.size ≤ k_) ∧ some k_ ≠ (.slice (some ad132) x5_1.length co7 : Value).ownBlock) (fun k_ => ((fun k_ => (w.heap.size ≤ k_) ∧ some k_ ≠ (.slice (some ad132) x5_1.length co7 : Value).ownBlock)) k_ ∧ some k_ ≠ (u8 : Value).ownBlock) rfl rfl ?aP (fun _ hk => hk) ?aF ?aO ?aB ?aS ?aL ?_;(case aP => exact (Kd.FK_slice_mk (Kd.V_reads' (Kd.V_mono (ok':=(fun k_ => ((fun k_ => (w.heap.size ≤ k_) ∧ some k_ ≠ (.slice (some ad132) x5_1.length co7 : Value).ownBlock)) k_ ∧ some k_ ≠ (u8 : Value).ownBlock)) (HL132_0.out) (fun k_ hk => ⟨⟨hk.1.1,hk.2⟩,hk.1.2⟩))).2.1 (Kd.V_F (Kd.V_mono (ok':=(fun k_ => ((fun k_ => (w.heap.size ≤ k_) ∧ some k_ ≠ (.slice (some ad132) x5_1.length co7 : Value).ownBlock)) k_ ∧ some k_ ≠ (u8 : Value).ownBlock)) (HL132_0.out) (fun k_ hk => ⟨⟨hk.1.1,hk.2⟩,hk.1.2⟩)))));(case aB => exact (zz HB));(case aF => exact (fun k_ hk => ⟨(Nat.le_trans (zT (zz HB)) hk),Kd.fresh' (Kd.N_lt (by (with_reducible repeat (first|apply Kd.N_alloc|apply Kd.N_drewN|apply Kd.N_drew));exact HO_5.out)) k_ hk⟩));(case aO => exact (by (with_reducible repeat (first|apply Kd.N_alloc|apply Kd.N_drewN|apply Kd.N_drew));exact HO_8.out));(case aS => exact (zT (zz HB)));(case aL => have:=LMc31.out;omega);intro v134 w32 ho hb hg hat;rw [← Ny133.out] at ho;replace HO_5:=zA (Kd.N_afterv (ok:=(fun k_ => (w.heap.size ≤ k_))) (by (with_reducible repeat (first|apply Kd.N_alloc|apply Kd.N_drewN|apply Kd.N_drew));exact HO_5.out) hg hat);replace HL132_0:=zA (Kd.V_afterv (ok:=(fun k_ => (w.heap.size ≤ k_) ∧ some k_ ≠ (.slice (some ad132) x5_1.length co7 : Value).ownBlock)) (by (with_reducible repeat (first|apply Kd.V_alloc|apply Kd.V_drewN|apply Kd.V_drew));exact Kd.V_mono HL132_0.out (fun _ hk => ⟨⟨hk.1.1,hk.2⟩,hk.1.2⟩)) hg hat);replace HB:=zA (hb);have HO135:=zA (ho);clear HO_8;clear ho hb hg hat))
               repeat (go_quiet (first|((with_reducible refine gate_builtin (b:=.append) (xs:=#[.tmp 59,.tmp 64]) rfl ?_);at_builtin;refine Kd.N_append (Kd.slice 3 (Kd.int .i64)) (w0:=w) w.heap.size rfl (.tmp 59) (.tmp 64) 32 22 (.slice none 0 0) 24 rfl Tryz.underlying32 info22 rfl (by decide) (by omega) u8 x8_4 (rd_L1 x5_1 x9_4) [.slice A132_0 (rd_L1 x5_1 x9_4).length c132_0] (fun k_ => (w.heap.size ≤ k_) ∧ some k_ ≠ (.slice (some ad132) x5_1.length co7 : Value).ownBlock) (fun k_ => ((fun k_ => (w.heap.size ≤ k_) ∧ some k_ ≠ (.slice (some ad132) x5_1.length co7 : Value).ownBlock)) k_ ∧ some k_ ≠ (u8 : Value).ownBlock) rfl rfl ?aP (fun _ hk => hk) ?aF ?aO ?aB ?aS ?aL ?_;(case aP => exact (Kd.FK_slice_mk (Kd.V_reads' (Kd.V_mono (ok':=(fun k_ => ((fun k_ => (w.heap.size ≤ k_) ∧ some k_ ≠ (.slice (some ad132) x5_1.length co7 : Value).ownBlock)) k_ ∧ some k_ ≠ (u8 : Value).ownBlock)) (HL132_0.out) (fun k_ hk => ⟨⟨hk.1.1,hk.2⟩,hk.1.2⟩))).2.1 (Kd.V_F (Kd.V_mono (ok':=(fun k_ => ((fun k_ => (w.heap.size ≤ k_) ∧ some k_ ≠ (.slice (some ad132) x5_1.length co7 : Value).ownBlock)) k_ ∧ some k_ ≠ (u8 : Value).ownBlock)) (HL132_0.out) (fun k_ hk => ⟨⟨hk.1.1,hk.2⟩,hk.1.2⟩)))));(case aB => exact (zz HB));(case aF => exact (fun k_ hk => ⟨(Nat.le_trans (zT (zz HB)) hk),Kd.fresh' (Kd.N_lt (by (with_reducible repeat (first|apply Kd.N_alloc|apply Kd.N_drewN|apply Kd.N_drew));exact HO_5.out)) k_ hk⟩));(case aO => exact (by (with_reducible repeat (first|apply Kd.N_alloc|apply Kd.N_drewN|apply Kd.N_drew));exact HO_8.out));(case aS => exact (zT (zz HB)));(case aL => have:=LMc31.out;omega);intro v134 w32 ho hb hg hat;rw [← Ny133.out] at ho;replace HO_5:=zA (Kd.N_afterv (ok:=(fun k_ => (w.heap.size ≤ k_))) (by (with_reducible repeat (first|apply Kd.N_alloc|apply Kd.N_drewN|apply Kd.N_drew));exact HO_5.out) hg hat);replace HL132_0:=zA (Kd.V_afterv (ok:=(fun k_ => (w.heap.size ≤ k_) ∧ some k_ ≠ (.slice (some ad132) x5_1.length co7 : Value).ownBlock)) (by (with_reducible repeat (first|apply Kd.V_alloc|apply Kd.V_drewN|apply Kd.V_drew));exact Kd.V_mono HL132_0.out (fun _ hk => ⟨⟨hk.1.1,hk.2⟩,hk.1.2⟩)) hg hat);replace HB:=zA (hb);have HO135:=zA (ho);clear HO_8;clear ho hb hg hat));try go_wp2_with (first|((with_reducible refine gate_builtin (b:=.append) (xs:=#[.tmp 59,.tmp 64]) rfl ?_);at_builtin;refine Kd.N_append (Kd.slice 3 (Kd.int .i64)) (w0:=w) w.heap.size rfl (.tmp 59) (.tmp 64) 32 22 (.slice none 0 0) 24 rfl Tryz.underlying32 info22 rfl (by decide) (by omega) u8 x8_4 (rd_L1 x5_1 x9_4) [.slice A132_0 (rd_L1 x5_1 x9_4).length c132_0] (fun k_ => (w.heap.size ≤ k_) ∧ some k_ ≠ (.slice (some ad132) x5_1.length co7 : Value).ownBlock) (fun k_ => ((fun k_ => (w.heap.size ≤ k_) ∧ some k_ ≠ (.slice (some ad132) x5_1.length co7 : Value).ownBlock)) k_ ∧ some k_ ≠ (u8 : Value).ownBlock) rfl rfl ?aP (fun _ hk => hk) ?aF ?aO ?aB ?aS ?aL ?_;(case aP => exact (Kd.FK_slice_mk (Kd.V_reads' (Kd.V_mono (ok':=(fun k_ => ((fun k_ => (w.heap.size ≤ k_) ∧ some k_ ≠ (.slice (some ad132) x5_1.length co7 : Value).ownBlock)) k_ ∧ some k_ ≠ (u8 : Value).ownBlock)) (HL132_0.out) (fun k_ hk => ⟨⟨hk.1.1,hk.2⟩,hk.1.2⟩))).2.1 (Kd.V_F (Kd.V_mono (ok':=(fun k_ => ((fun k_ => (w.heap.size ≤ k_) ∧ some k_ ≠ (.slice (some ad132) x5_1.length co7 : Value).ownBlock)) k_ ∧ some k_ ≠ (u8 : Value).ownBlock)) (HL132_0.out) (fun k_ hk => ⟨⟨hk.1.1,hk.2⟩,hk.1.2⟩)))));(case aB => exact (zz HB));(case aF => exact (fun k_ hk => ⟨(Nat.le_trans (zT (zz HB)) hk),Kd.fresh' (Kd.N_lt (by (with_reducible repeat (first|apply Kd.N_alloc|apply Kd.N_drewN|apply Kd.N_drew));exact HO_5.out)) k_ hk⟩));(case aO => exact (by (with_reducible repeat (first|apply Kd.N_alloc|apply Kd.N_drewN|apply Kd.N_drew));exact HO_8.out));(case aS => exact (zT (zz HB)));(case aL => have:=LMc31.out;omega);intro v134 w32 ho hb hg hat;rw [← Ny133.out] at ho;replace HO_5:=zA (Kd.N_afterv (ok:=(fun k_ => (w.heap.size ≤ k_))) (by (with_reducible repeat (first|apply Kd.N_alloc|apply Kd.N_drewN|apply Kd.N_drew));exact HO_5.out) hg hat);replace HL132_0:=zA (Kd.V_afterv (ok:=(fun k_ => (w.heap.size ≤ k_) ∧ some k_ ≠ (.slice (some ad132) x5_1.length co7 : Value).ownBlock)) (by (with_reducible repeat (first|apply Kd.V_alloc|apply Kd.V_drewN|apply Kd.V_drew));exact Kd.V_mono HL132_0.out (fun _ hk => ⟨⟨hk.1.1,hk.2⟩,hk.1.2⟩)) hg hat);replace HB:=zA (hb);have HO135:=zA (ho);clear HO_8;clear ho hb hg hat)))
               go_roundg k4
               case measure => have:=HK1.out;have:=HJ5.out;have:=HJ15.out;have:=HK4.out;omega
               case rel => exact ⟨(y133),(wrap64 (x9_4 + 1)),za,H',⟨by have:=HK1.out;have:=HJ5.out;have:=HJ15.out;have:=HK4.out;omega⟩,⟨by (with_reducible repeat (first|apply Kd.N_alloc|apply Kd.N_drewN|apply Kd.N_drew));exact HO_5.out⟩,⟨by (with_reducible repeat (first|apply Kd.N_alloc|apply Kd.N_drewN|apply Kd.N_drew));exact HO135.out⟩,⟨zz HB⟩⟩
              ·
               rw [if_neg c31] at H
               exact absurd H (by simp)
             ·
              rw [if_neg c30] at H
              exact absurd H (by simp)
            ·
             rw [if_neg c29] at H
             exact absurd H (by simp)
           ·
            rw [if_neg c28] at H;have c28b0:=decide_eq_false c28;clear c28;obtain ⟨y136,hy136⟩ : ∃ y_ : List Int,y_ = (([] : List Int)):=⟨_,rfl⟩
            replace H : (if 0 ≤ x6_1 then (if x6_1 < (l0.length : Int) then (if y136.length + (rd_L1 l0 x6_1).length < 17592186044416 then (if x8_4.length < 5864062014805 then (spec_l6Sort.l3 k4 l0 a1 x5_1 x6_1 (x8_4 ++ [(y136 ++ (rd_L1 l0 x6_1))]) x7_5) else (none)) else (none)) else (none)) else (none)) = some r:=by first|(rw [hy136];with_reducible exact H)|(have H2_:=(Option.bind_some _ _).symm.trans H;rw [hy136];with_reducible exact H2_)|(have H2_:=(Option.bind_some _ _).symm.trans H;with_reducible exact H2_)|with_reducible exact H|(rw [hy136];exact H)|exact H
            have Ny136:=zA hy136;clear hy136
            by_cases c33 : 0 ≤ x6_1
            ·
             rw [if_pos c33] at H;have c33b0:=decide_eq_true c33;clear c33
             by_cases c34 : x6_1 < (l0.length : Int)
             ·
              rw [if_pos c34] at H;have c34b0:=decide_eq_true c34;clear c34
              by_cases c35 : y136.length + (rd_L1 l0 x6_1).length < 17592186044416
              ·
               rw [if_pos c35] at H;have LMc35:=zA c35;clear c35;obtain ⟨y140,hy140⟩ : ∃ y_ : List Int,y_ = (y136 ++ (rd_L1 l0 x6_1)):=⟨_,rfl⟩
               replace H : (if x8_4.length < 5864062014805 then (spec_l6Sort.l3 k4 l0 a1 x5_1 x6_1 (x8_4 ++ [y140]) x7_5) else (none)) = some r:=by first|(rw [hy140];with_reducible exact H)|(have H2_:=(Option.bind_some _ _).symm.trans H;rw [hy140];with_reducible exact H2_)|(have H2_:=(Option.bind_some _ _).symm.trans H;with_reducible exact H2_)|with_reducible exact H|(rw [hy140];exact H)|exact H
               have Ny140:=zA hy140;clear hy140
               by_cases c36 : x8_4.length < 5864062014805
               ·
                rw [if_pos c36] at H;have LMc36:=zA c36;clear c36;obtain ⟨y143,hy143⟩ : ∃ y_ : List (List Int),y_ = (x8_4 ++ [y140]):=⟨_,rfl⟩
                replace H : (spec_l6Sort.l3 k4 l0 a1 x5_1 x6_1 y143 x7_5) = some r:=by first|(rw [hy143];with_reducible exact H)|(have H2_:=(Option.bind_some _ _).symm.trans H;rw [hy143];with_reducible exact H2_)|(have H2_:=(Option.bind_some _ _).symm.trans H;with_reducible exact H2_)|with_reducible exact H|(rw [hy143];exact H)|exact H
                have Ny143:=zA hy143;clear hy143
                have H':=zA H
                clear H
                go_wp2_with (first|((with_reducible refine gate_dst (N:=67) rfl ?_);refine Kd.R_lit (Kd.int .i64) _ 3 ?hg (N:=67) ?hd (xs:=([] : List Int)) (inner:=[]) (ok:=fun _ => True) (okp:=fun _ => True) ?hr ?hp (fun _ hk => hk) trivial (Below.refl _ _) (Nat.le_refl _) (by simp) ?_;(case hd => rfl);(case hg => rfl);(case hr => first|(go_simp;done)|(go_simp;rfl));(case hp => exact (Reps.none _ _));intro v137 w37 ho38 hb hg_ hnew_;clear hg_ hnew_;(first|rw [← Ny136.out] at ho38|(simp only [Int.reduceToNat] at ho38;rw [← Ny136.out] at ho38));replace HO_5:=zA (Kd.N_elder' (by (with_reducible repeat (first|apply Kd.N_alloc|apply Kd.N_drewN|apply Kd.N_drew));exact HO_5.out) (zW ho38) hb);replace HO_8:=zA (Kd.N_elder' (by (with_reducible repeat (first|apply Kd.N_alloc|apply Kd.N_drewN|apply Kd.N_drew));exact HO_8.out) (zW ho38) hb);have HO138:=zA (zHb (Kd.R_newM (M:=fun k_ => (w.heap.size ≤ k_)) ho38 (zT (zz HB)) (fun k_ h_ => h_)) (zT (zz HB)));replace HB:=zA (zJb (zz HB) hb);clear hb ho38;have p139 : 0 ≤ (x6_1 : Int):=zXb ze;have q139 : x6_1 < (l0.length : Int):=zXb ze;obtain ⟨ad139,A139_0,c139_0,e139,hx139_0,hl139_0,hi139_0⟩:=at_L1 HR0.out x6_1 p139 q139;cases e139;replace hx139_0:=(HB.out.cell (World.block_lt_of_cell? w _ hx139_0)).trans hx139_0;have HR139_0:=zA hi139_0;have HC139_0:=zA hl139_0;clear hi139_0 hl139_0;replace p139:=eq_true p139;replace q139:=eq_true q139)|((with_reducible refine gate_builtin (b:=.append) (xs:=#[.tmp 67,.tmp 71]) rfl ?_);at_builtin;refine Kd.R_append_rows (Kd.int .i64) (w0:=w) w.heap.size rfl (.tmp 67) (.tmp 71) 22 3 (.int .i64 0) 8 rfl Tryz.underlying22 info3 rfl (by decide) (by omega) v137 y136 (rd_L1 l0 x6_1) _ _ _ (fun k_ => (w.heap.size ≤ k_)) (fun _ => False) rfl rfl ?aO ?aR (fun _ _ h => h) (fun _ h => h.elim) ?aF ?aB ?aS ?aL ?_;(case aR => exact zsd HR139_0 HB);(case aB => exact (zz HB));(case aF => exact (fun k_ hk => (Nat.le_trans (zT (zz HB)) hk)));(case aO => exact (by (with_reducible repeat (first|apply zE|apply zD|apply zH));exact zGb HO138.out (fun _ hk => hk.1)));(case aS => exact (zT (zz HB)));(case aL => have:=LMc35.out;omega);intro v141 w39 ho hb hg hat;rw [← Ny140.out] at ho;replace HO_5:=zA (Kd.N_afterv (ok:=(fun k_ => (w.heap.size ≤ k_) ∧ some k_ ≠ (u8 : Value).ownBlock)) (by (with_reducible repeat (first|apply Kd.N_alloc|apply Kd.N_drewN|apply Kd.N_drew));exact HO_5.out) hg hat);replace HO_8:=zA (Kd.N_afterv (ok:=(fun k_ => (w.heap.size ≤ k_) ∧ some k_ ≠ (.slice Ao7 x5_1.length co7 : Value).ownBlock)) (by (with_reducible repeat (first|apply Kd.N_alloc|apply Kd.N_drewN|apply Kd.N_drew));exact HO_8.out) hg hat);replace HB:=zA (hb);have HO142:=zA (ho);clear HO138;clear ho hb hg hat;obtain ⟨Ao41,co41,eo41⟩:=Kd.R_slice HO142.out;subst eo41)|((with_reducible refine gate_builtin (b:=.append) (xs:=#[.tmp 66,.tmp 73]) rfl ?_);at_builtin;refine Kd.N_append (Kd.slice 3 (Kd.int .i64)) (w0:=w) w.heap.size rfl (.tmp 66) (.tmp 73) 32 22 (.slice none 0 0) 24 rfl Tryz.underlying32 info22 rfl (by decide) (by omega) u8 x8_4 y140 [.slice Ao41 y140.length co41] (fun k_ => (w.heap.size ≤ k_) ∧ some k_ ≠ (.slice Ao7 x5_1.length co7 : Value).ownBlock) (fun k_ => ((fun k_ => (w.heap.size ≤ k_) ∧ some k_ ≠ (.slice Ao7 x5_1.length co7 : Value).ownBlock)) k_ ∧ some k_ ≠ (u8 : Value).ownBlock) rfl rfl ?aP (fun _ hk => hk) ?aF ?aO ?aB ?aS ?aL ?_;(case aP => exact (Kd.FK_slice_mk (Kd.R_reads' (zGb (ok':=(fun k_ => ((fun k_ => (w.heap.size ≤ k_) ∧ some k_ ≠ (.slice Ao7 x5_1.length co7 : Value).ownBlock)) k_ ∧ some k_ ≠ (u8 : Value).ownBlock)) (Kd.R_apart' (Kd.R_apart' (HO142.out) (Kd.N_typed HO_5.out) (by decide)) (Kd.N_typed HO_8.out) (by decide)) (fun k_ hk => ⟨⟨hk.1.1,hk.1.2⟩,hk.2⟩))).2.1 (Kd.R_F (zGb (ok':=(fun k_ => ((fun k_ => (w.heap.size ≤ k_) ∧ some k_ ≠ (.slice Ao7 x5_1.length co7 : Value).ownBlock)) k_ ∧ some k_ ≠ (u8 : Value).ownBlock)) (Kd.R_apart' (Kd.R_apart' (HO142.out) (Kd.N_typed HO_5.out) (by decide)) (Kd.N_typed HO_8.out) (by decide)) (fun k_ hk => ⟨⟨hk.1.1,hk.1.2⟩,hk.2⟩)))));(case aB => exact (zz HB));(case aF => exact (fun k_ hk => ⟨(Nat.le_trans (zT (zz HB)) hk),Kd.fresh' (Kd.N_lt (by (with_reducible repeat (first|apply Kd.N_alloc|apply Kd.N_drewN|apply Kd.N_drew));exact HO_5.out)) k_ hk⟩));(case aO => exact (by (with_reducible repeat (first|apply Kd.N_alloc|apply Kd.N_drewN|apply Kd.N_drew));exact Kd.N_mono HO_8.out (fun _ hk => ⟨hk.1.1,hk.1.2⟩)));(case aS => exact (zT (zz HB)));(case aL => have:=LMc36.out;omega);intro v144 w40 ho hb hg hat;rw [← Ny143.out] at ho;replace HO_5:=zA (Kd.N_afterv (ok:=(fun k_ => (w.heap.size ≤ k_) ∧ some k_ ≠ (.slice Ao41 y140.length co41 : Value).ownBlock)) (by (with_reducible repeat (first|apply Kd.N_alloc|apply Kd.N_drewN|apply Kd.N_drew));exact Kd.N_mono HO_5.out (fun _ hk => ⟨⟨hk.1.1,hk.2⟩,hk.1.2⟩)) hg hat);replace HB:=zA (hb);have HO145:=zA (ho);clear HO_8 HO142;clear ho hb hg hat))
                repeat (go_quiet (first|((with_reducible refine gate_dst (N:=67) rfl ?_);refine Kd.R_lit (Kd.int .i64) _ 3 ?hg (N:=67) ?hd (xs:=([] : List Int)) (inner:=[]) (ok:=fun _ => True) (okp:=fun _ => True) ?hr ?hp (fun _ hk => hk) trivial (Below.refl _ _) (Nat.le_refl _) (by simp) ?_;(case hd => rfl);(case hg => rfl);(case hr => first|(go_simp;done)|(go_simp;rfl));(case hp => exact (Reps.none _ _));intro v137 w37 ho38 hb hg_ hnew_;clear hg_ hnew_;(first|rw [← Ny136.out] at ho38|(simp only [Int.reduceToNat] at ho38;rw [← Ny136.out] at ho38));replace HO_5:=zA (Kd.N_elder' (by (with_reducible repeat (first|apply Kd.N_alloc|apply Kd.N_drewN|apply Kd.N_drew));exact HO_5.out) (zW ho38) hb);replace HO_8:=zA (Kd.N_elder' (by (with_reducible repeat (first|apply Kd.N_alloc|apply Kd.N_drewN|apply Kd.N_drew));exact HO_8.out) (zW ho38) hb);have HO138:=zA (zHb (Kd.R_newM (M:=fun k_ => (w.heap.size ≤ k_)) ho38 (zT (zz HB)) (fun k_ h_ => h_)) (zT (zz HB)));replace HB:=zA (zJb (zz HB) hb);clear hb ho38;have p139 : 0 ≤ (x6_1 : Int):=zXb ze;have q139 : x6_1 < (l0.length : Int):=zXb ze;obtain ⟨ad139,A139_0,c139_0,e139,hx139_0,hl139_0,hi139_0⟩:=at_L1 HR0.out x6_1 p139 q139;cases e139;replace hx139_0:=(HB.out.cell (World.block_lt_of_cell? w _ hx139_0)).trans hx139_0;have HR139_0:=zA hi139_0;have HC139_0:=zA hl139_0;clear hi139_0 hl139_0;replace p139:=eq_true p139;replace q139:=eq_true q139)|((with_reducible refine gate_builtin (b:=.append) (xs:=#[.tmp 67,.tmp 71]) rfl ?_);at_builtin;refine Kd.R_append_rows (Kd.int .i64) (w0:=w) w.heap.size rfl (.tmp 67) (.tmp 71) 22 3 (.int .i64 0) 8 rfl Tryz.underlying22 info3 rfl (by decide) (by omega) v137 y136 (rd_L1 l0 x6_1) _ _ _ (fun k_ => (w.heap.size ≤ k_)) (fun _ => False) rfl rfl ?aO ?aR (fun _ _ h => h) (fun _ h => h.elim) ?aF ?aB ?aS ?aL ?_;(case aR => exact zsd HR139_0 HB);(case aB => exact (zz HB));(case aF => exact (fun k_ hk => (Nat.le_trans (zT (zz HB)) hk)));(case aO => exact (by (with_reducible repeat (first|apply zE|apply zD|apply zH));exact zGb HO138.out (fun _ hk => hk.1)));(case aS => exact (zT (zz HB)));(case aL => have:=LMc35.out;omega);intro v141 w39 ho hb hg hat;rw [← Ny140.out] at ho;replace HO_5:=zA (Kd.N_afterv (ok:=(fun k_ => (w.heap.size ≤ k_) ∧ some k_ ≠ (u8 : Value).ownBlock)) (by (with_reducible repeat (first|apply Kd.N_alloc|apply Kd.N_drewN|apply Kd.N_drew));exact HO_5.out) hg hat);replace HO_8:=zA (Kd.N_afterv (ok:=(fun k_ => (w.heap.size ≤ k_) ∧ some k_ ≠ (.slice Ao7 x5_1.length co7 : Value).ownBlock)) (by (with_reducible repeat (first|apply Kd.N_alloc|apply Kd.N_drewN|apply Kd.N_drew));exact HO_8.out) hg hat);replace HB:=zA (hb);have HO142:=zA (ho);clear HO138;clear ho hb hg hat;obtain ⟨Ao41,co41,eo41⟩:=Kd.R_slice HO142.out;subst eo41)|((with_reducible refine gate_builtin (b:=.append) (xs:=#[.tmp 66,.tmp 73]) rfl ?_);at_builtin;refine Kd.N_append (Kd.slice 3 (Kd.int .i64)) (w0:=w) w.heap.size rfl (.tmp 66) (.tmp 73) 32 22 (.slice none 0 0) 24 rfl Tryz.underlying32 info22 rfl (by decide) (by omega) u8 x8_4 y140 [.slice Ao41 y140.length co41] (fun k_ => (w.heap.size ≤ k_) ∧ some k_ ≠ (.slice Ao7 x5_1.length co7 : Value).ownBlock) (fun k_ => ((fun k_ => (w.heap.size ≤ k_) ∧ some k_ ≠ (.slice Ao7 x5_1.length co7 : Value).ownBlock)) k_ ∧ some k_ ≠ (u8 : Value).ownBlock) rfl rfl ?aP (fun _ hk => hk) ?aF ?aO ?aB ?aS ?aL ?_;(case aP => exact (Kd.FK_slice_mk (Kd.R_reads' (zGb (ok':=(fun k_ => ((fun k_ => (w.heap.size ≤ k_) ∧ some k_ ≠ (.slice Ao7 x5_1.length co7 : Value).ownBlock)) k_ ∧ some k_ ≠ (u8 : Value).ownBlock)) (Kd.R_apart' (Kd.R_apart' (HO142.out) (Kd.N_typed HO_5.out) (by decide)) (Kd.N_typed HO_8.out) (by decide)) (fun k_ hk => ⟨⟨hk.1.1,hk.1.2⟩,hk.2⟩))).2.1 (Kd.R_F (zGb (ok':=(fun k_ => ((fun k_ => (w.heap.size ≤ k_) ∧ some k_ ≠ (.slice Ao7 x5_1.length co7 : Value).ownBlock)) k_ ∧ some k_ ≠ (u8 : Value).ownBlock)) (Kd.R_apart' (Kd.R_apart' (HO142.out) (Kd.N_typed HO_5.out) (by decide)) (Kd.N_typed HO_8.out) (by decide)) (fun k_ hk => ⟨⟨hk.1.1,hk.1.2⟩,hk.2⟩)))));(case aB => exact (zz HB));(case aF => exact (fun k_ hk => ⟨(Nat.le_trans (zT (zz HB)) hk),Kd.fresh' (Kd.N_lt (by (with_reducible repeat (first|apply Kd.N_alloc|apply Kd.N_drewN|apply Kd.N_drew));exact HO_5.out)) k_ hk⟩));(case aO => exact (by (with_reducible repeat (first|apply Kd.N_alloc|apply Kd.N_drewN|apply Kd.N_drew));exact Kd.N_mono HO_8.out (fun _ hk => ⟨hk.1.1,hk.1.2⟩)));(case aS => exact (zT (zz HB)));(case aL => have:=LMc36.out;omega);intro v144 w40 ho hb hg hat;rw [← Ny143.out] at ho;replace HO_5:=zA (Kd.N_afterv (ok:=(fun k_ => (w.heap.size ≤ k_) ∧ some k_ ≠ (.slice Ao41 y140.length co41 : Value).ownBlock)) (by (with_reducible repeat (first|apply Kd.N_alloc|apply Kd.N_drewN|apply Kd.N_drew));exact Kd.N_mono HO_5.out (fun _ hk => ⟨⟨hk.1.1,hk.2⟩,hk.1.2⟩)) hg hat);replace HB:=zA (hb);have HO145:=zA (ho);clear HO_8 HO142;clear ho hb hg hat));try go_wp2_with (first|((with_reducible refine gate_dst (N:=67) rfl ?_);refine Kd.R_lit (Kd.int .i64) _ 3 ?hg (N:=67) ?hd (xs:=([] : List Int)) (inner:=[]) (ok:=fun _ => True) (okp:=fun _ => True) ?hr ?hp (fun _ hk => hk) trivial (Below.refl _ _) (Nat.le_refl _) (by simp) ?_;(case hd => rfl);(case hg => rfl);(case hr => first|(go_simp;done)|(go_simp;rfl));(case hp => exact (Reps.none _ _));intro v137 w37 ho38 hb hg_ hnew_;clear hg_ hnew_;(first|rw [← Ny136.out] at ho38|(simp only [Int.reduceToNat] at ho38;rw [← Ny136.out] at ho38));replace HO_5:=zA (Kd.N_elder' (by (with_reducible repeat (first|apply Kd.N_alloc|apply Kd.N_drewN|apply Kd.N_drew));exact HO_5.out) (zW ho38) hb);replace HO_8:=zA (Kd.N_elder' (by (with_reducible repeat (first|apply Kd.N_alloc|apply Kd.N_drewN|apply Kd.N_drew));exact HO_8.out) (zW ho38) hb);have HO138:=zA (zHb (Kd.R_newM (M:=fun k_ => (w.heap.size ≤ k_)) ho38 (zT (zz HB)) (fun k_ h_ => h_)) (zT (zz HB)));replace HB:=zA (zJb (zz HB) hb);clear hb ho38;have p139 : 0 ≤ (x6_1 : Int):=zXb ze;have q139 : x6_1 < (l0.length : Int):=zXb ze;obtain ⟨ad139,A139_0,c139_0,e139,hx139_0,hl139_0,hi139_0⟩:=at_L1 HR0.out x6_1 p139 q139;cases e139;replace hx139_0:=(HB.out.cell (World.block_lt_of_cell? w _ hx139_0)).trans hx139_0;have HR139_0:=zA hi139_0;have HC139_0:=zA hl139_0;clear hi139_0 hl139_0;replace p139:=eq_true p139;replace q139:=eq_true q139)|((with_reducible refine gate_builtin (b:=.append) (xs:=#[.tmp 67,.tmp 71]) rfl ?_);at_builtin;refine Kd.R_append_rows (Kd.int .i64) (w0:=w) w.heap.size rfl (.tmp 67) (.tmp 71) 22 3 (.int .i64 0) 8 rfl Tryz.underlying22 info3 rfl (by decide) (by omega) v137 y136 (rd_L1 l0 x6_1) _ _ _ (fun k_ => (w.heap.size ≤ k_)) (fun _ => False) rfl rfl ?aO ?aR (fun _ _ h => h) (fun _ h => h.elim) ?aF ?aB ?aS ?aL ?_;(case aR => exact zsd HR139_0 HB);(case aB => exact (zz HB));(case aF => exact (fun k_ hk => (Nat.le_trans (zT (zz HB)) hk)));(case aO => exact (by (with_reducible repeat (first|apply zE|apply zD|apply zH));exact zGb HO138.out (fun _ hk => hk.1)));(case aS => exact (zT (zz HB)));(case aL => have:=LMc35.out;omega);intro v141 w39 ho hb hg hat;rw [← Ny140.out] at ho;replace HO_5:=zA (Kd.N_afterv (ok:=(fun k_ => (w.heap.size ≤ k_) ∧ some k_ ≠ (u8 : Value).ownBlock)) (by (with_reducible repeat (first|apply Kd.N_alloc|apply Kd.N_drewN|apply Kd.N_drew));exact HO_5.out) hg hat);replace HO_8:=zA (Kd.N_afterv (ok:=(fun k_ => (w.heap.size ≤ k_) ∧ some k_ ≠ (.slice Ao7 x5_1.length co7 : Value).ownBlock)) (by (with_reducible repeat (first|apply Kd.N_alloc|apply Kd.N_drewN|apply Kd.N_drew));exact HO_8.out) hg hat);replace HB:=zA (hb);have HO142:=zA (ho);clear HO138;clear ho hb hg hat;obtain ⟨Ao41,co41,eo41⟩:=Kd.R_slice HO142.out;subst eo41)|((with_reducible refine gate_builtin (b:=.append) (xs:=#[.tmp 66,.tmp 73]) rfl ?_);at_builtin;refine Kd.N_append (Kd.slice 3 (Kd.int .i64)) (w0:=w) w.heap.size rfl (.tmp 66) (.tmp 73) 32 22 (.slice none 0 0) 24 rfl Tryz.underlying32 info22 rfl (by decide) (by omega) u8 x8_4 y140 [.slice Ao41 y140.length co41] (fun k_ => (w.heap.size ≤ k_) ∧ some k_ ≠ (.slice Ao7 x5_1.length co7 : Value).ownBlock) (fun k_ => ((fun k_ => (w.heap.size ≤ k_) ∧ some k_ ≠ (.slice Ao7 x5_1.length co7 : Value).ownBlock)) k_ ∧ some k_ ≠ (u8 : Value).ownBlock) rfl rfl ?aP (fun _ hk => hk) ?aF ?aO ?aB ?aS ?aL ?_;(case aP => exact (Kd.FK_slice_mk (Kd.R_reads' (zGb (ok':=(fun k_ => ((fun k_ => (w.heap.size ≤ k_) ∧ some k_ ≠ (.slice Ao7 x5_1.length co7 : Value).ownBlock)) k_ ∧ some k_ ≠ (u8 : Value).ownBlock)) (Kd.R_apart' (Kd.R_apart' (HO142.out) (Kd.N_typed HO_5.out) (by decide)) (Kd.N_typed HO_8.out) (by decide)) (fun k_ hk => ⟨⟨hk.1.1,hk.1.2⟩,hk.2⟩))).2.1 (Kd.R_F (zGb (ok':=(fun k_ => ((fun k_ => (w.heap.size ≤ k_) ∧ some k_ ≠ (.slice Ao7 x5_1.length co7 : Value).ownBlock)) k_ ∧ some k_ ≠ (u8 : Value).ownBlock)) (Kd.R_apart' (Kd.R_apart' (HO142.out) (Kd.N_typed HO_5.out) (by decide)) (Kd.N_typed HO_8.out) (by decide)) (fun k_ hk => ⟨⟨hk.1.1,hk.1.2⟩,hk.2⟩)))));(case aB => exact (zz HB));(case aF => exact (fun k_ hk => ⟨(Nat.le_trans (zT (zz HB)) hk),Kd.fresh' (Kd.N_lt (by (with_reducible repeat (first|apply Kd.N_alloc|apply Kd.N_drewN|apply Kd.N_drew));exact HO_5.out)) k_ hk⟩));(case aO => exact (by (with_reducible repeat (first|apply Kd.N_alloc|apply Kd.N_drewN|apply Kd.N_drew));exact Kd.N_mono HO_8.out (fun _ hk => ⟨hk.1.1,hk.1.2⟩)));(case aS => exact (zT (zz HB)));(case aL => have:=LMc36.out;omega);intro v144 w40 ho hb hg hat;rw [← Ny143.out] at ho;replace HO_5:=zA (Kd.N_afterv (ok:=(fun k_ => (w.heap.size ≤ k_) ∧ some k_ ≠ (.slice Ao41 y140.length co41 : Value).ownBlock)) (by (with_reducible repeat (first|apply Kd.N_alloc|apply Kd.N_drewN|apply Kd.N_drew));exact Kd.N_mono HO_5.out (fun _ hk => ⟨⟨hk.1.1,hk.2⟩,hk.1.2⟩)) hg hat);replace HB:=zA (hb);have HO145:=zA (ho);clear HO_8 HO142;clear ho hb hg hat)))
                go_loopg [8,10] k4 (fun kq v8 v10 w' => ∃ (x8_5 : List (List Int)) (x10_5 : Int),v10 = .int .i64 x10_5 ∧ Aside0 (spec_l6Sort.l3 kq l0 a1 x5_1 x6_1 x8_5 x10_5 = some r) ∧ Aside0 (kq ≤ k4) ∧ Aside0 (Kd.N (Kd.slice 3 (Kd.int .i64)) 22 w' w.heap.size (fun k_ => (w.heap.size ≤ k_) ∧ some k_ ≠ (v8 : Value).ownBlock) (.slice Ao7 x5_1.length co7) x5_1) ∧ Aside0 (Kd.N (Kd.slice 3 (Kd.int .i64)) 22 w' w.heap.size (fun k_ => (w.heap.size ≤ k_) ∧ some k_ ≠ ((.slice Ao7 x5_1.length co7) : Value).ownBlock) v8 x8_5) ∧ Aside0 (Below w.heap.size w w'))
                case atStart => exact ⟨(y143),(x7_5),za,H',⟨Nat.le_refl _⟩,⟨by (with_reducible repeat (first|apply Kd.N_alloc|apply Kd.N_drewN|apply Kd.N_drew));exact Kd.N_mono HO_5.out (fun _ hk => ⟨hk.1.1,hk.2⟩)⟩,⟨by (with_reducible repeat (first|apply Kd.N_alloc|apply Kd.N_drewN|apply Kd.N_drew));exact HO145.out⟩,⟨zz HB⟩⟩
                case round =>
                 clear H';(try clear c1);(try clear p1);(try clear q1);(try clear hx1);(try clear c2);(try clear p2);(try clear c3);(try clear c5);(try clear c5b0);(try clear p6);(try clear c8);(try clear c8b0);(try clear c9);(try clear c9b0);(try clear c10);(try clear c10b0);(try clear c12);(try clear c12b0);(try clear p12);(try clear q12);(try clear hx12);(try clear c13);(try clear c13b0);(try clear p13);(try clear q13);(try clear hx13);(try clear c15);(try clear c17);(try clear c18);(try clear c18b0);(try clear c20);(try clear c20b0);(try clear c21);(try clear c21b0);(try clear c22);(try clear c22b0);(try clear c23);(try clear c23b0);(try clear c25);(try clear c28);(try clear c28b0);(try clear c29);(try clear c29b0);(try clear c30);(try clear c30b0);(try clear c31);(try clear c33);(try clear c33b0);(try clear c34);(try clear c34b0);(try clear c35);(try clear c36);(try clear hx123_0);(try clear hx124_0);(try clear hx126_0);(try clear hx127_0);(try clear hx132_0);(try clear hx139_0);(try clear p1);(try clear p12);(try clear p123);(try clear p124);(try clear p126);(try clear p127);(try clear p132);(try clear p139);(try clear p2);(try clear p6);(try clear q1);(try clear q12);(try clear q123);(try clear q124);(try clear q126);(try clear q127);(try clear q132);(try clear q139);obtain ⟨x8_5,x10_5,rfl,HA,HK5,HO_5,HO_8,HB⟩:=hrel
                 cases gk with
                 | zero => exact absurd HA.out (by simp [spec_l6Sort.l3])
                 | succ k5 =>
                  have H:=HA.out;clear HA;simp only [spec_l6Sort.l3] at H
                  by_cases c42 : x10_5 < (x5_1.length : Int)
                  ·
                   rw [if_pos c42] at H;have c42b0:=decide_eq_true c42;clear c42
                   by_cases c43 : 0 ≤ x10_5
                   ·
                    rw [if_pos c43] at H;have c43b0:=decide_eq_true c43;clear c43
                    by_cases c44 : x8_5.length < 5864062014805
                    ·
                     rw [if_pos c44] at H;have LMc44:=zA c44;clear c44;obtain ⟨y147,hy147⟩ : ∃ y_ : List (List Int),y_ = (x8_5 ++ [rd_L1 x5_1 x10_5]):=⟨_,rfl⟩
                     replace H : (spec_l6Sort.l3 k5 l0 a1 x5_1 x6_1 y147 (wrap64 (x10_5 + 1))) = some r:=by first|(rw [hy147];with_reducible exact H)|(have H2_:=(Option.bind_some _ _).symm.trans H;rw [hy147];with_reducible exact H2_)|(have H2_:=(Option.bind_some _ _).symm.trans H;with_reducible exact H2_)|with_reducible exact H|(rw [hy147];exact H)|exact H
                     have Ny147:=zA hy147;clear hy147
                     have H':=zA H
                     clear H;have p146 : 0 ≤ (x10_5 : Int):=zXb ze;have q146 : x10_5 < (x5_1.length : Int):=zXb ze;obtain ⟨ad146,A146_0,c146_0,e146,hx146_0,hl146_0,hi146_0⟩:=at_L1 (Kd.N_reads' HO_5.out).2.2 x10_5 p146 q146
                     cases e146
                     obtain ⟨ce146,hce146,hMe146,hcc146⟩:=Kd.N_get HO_5.out [] x10_5 p146 (by first|exact q146|exact zXb ze|(have e_:=(Kd.N_reads' HO_5.out).1;omega));obtain ⟨ua146_0,uc146_0,rfl,ul146_0,ge146_0⟩:=Kd.FK_slice_open hMe146;have hv146_0:=hcc146 0 _ rfl;rw [Nat.add_zero,show ((Kd.slice 3 (Kd.int .i64))).sz = 1 from rfl,Nat.mul_one] at hv146_0;replace hv146_0:=Option.some.inj (hv146_0.symm.trans hx146_0)
                     injection hv146_0 with hva_ hvn_ hvc_
                     rw [hva_] at ge146_0;rw [hvc_] at ul146_0;have HL146_0:=zA (show Kd.V (Kd.int .i64) 3 _ w.heap.size _ _ (rd_L1 x5_1 x10_5) from Kd.V_mk ul146_0 ge146_0);clear hva_ hvn_ hvc_ ge146_0 ul146_0;clear hcc146 hce146;have HR146_0:=zA hi146_0;have HC146_0:=zA hl146_0;clear hi146_0 hl146_0;replace p146:=eq_true p146;replace q146:=eq_true q146
                     go_wp2_with (first|((with_reducible refine gate_builtin (b:=.append) (xs:=#[.tmp 82,.tmp 87]) rfl ?_);at_builtin;refine Kd.N_append (Kd.slice 3 (Kd.int .i64)) (w0:=w) w.heap.size rfl (.tmp 82) (.tmp 87) 32 22 (.slice none 0 0) 24 rfl Tryz.underlying32 info22 rfl (by decide) (by omega) u8 x8_5 (rd_L1 x5_1 x10_5) [.slice A146_0 (rd_L1 x5_1 x10_5).length c146_0] (fun k_ => (w.heap.size ≤ k_) ∧ some k_ ≠ (.slice (some ad146) x5_1.length co7 : Value).ownBlock) (fun k_ => ((fun k_ => (w.heap.size ≤ k_) ∧ some k_ ≠ (.slice (some ad146) x5_1.length co7 : Value).ownBlock)) k_ ∧ some k_ ≠ (u8 : Value).ownBlock) rfl rfl ?aP (fun _ hk => hk) ?aF ?aO ?aB ?aS ?aL ?_;(case aP => exact (Kd.FK_slice_mk (Kd.V_reads' (Kd.V_mono (ok':=(fun k_ => ((fun k_ => (w.heap.size ≤ k_) ∧ some k_ ≠ (.slice (some ad146) x5_1.length co7 : Value).ownBlock)) k_ ∧ some k_ ≠ (u8 : Value).ownBlock)) (HL146_0.out) (fun k_ hk => ⟨⟨hk.1.1,hk.2⟩,hk.1.2⟩))).2.1 (Kd.V_F (Kd.V_mono (ok':=(fun k_ => ((fun k_ => (w.heap.size ≤ k_) ∧ some k_ ≠ (.slice (some ad146) x5_1.length co7 : Value).ownBlock)) k_ ∧ some k_ ≠ (u8 : Value).ownBlock)) (HL146_0.out) (fun k_ hk => ⟨⟨hk.1.1,hk.2⟩,hk.1.2⟩)))));(case aB => exact (zz HB));(case aF => exact (fun k_ hk => ⟨(Nat.le_trans (zT (zz HB)) hk),Kd.fresh' (Kd.N_lt (by (with_reducible repeat (first|apply Kd.N_alloc|apply Kd.N_drewN|apply Kd.N_drew));exact HO_5.out)) k_ hk⟩));(case aO => exact (by (with_reducible repeat (first|apply Kd.N_alloc|apply Kd.N_drewN|apply Kd.N_drew));exact HO_8.out));(case aS => exact (zT (zz HB)));(case aL => have:=LMc44.out;omega);intro v148 w45 ho hb hg hat;rw [← Ny147.out] at ho;replace HO_5:=zA (Kd.N_afterv (ok:=(fun k_ => (w.heap.size ≤ k_))) (by (with_reducible repeat (first|apply Kd.N_alloc|apply Kd.N_drewN|apply Kd.N_drew));exact HO_5.out) hg hat);replace HL146_0:=zA (Kd.V_afterv (ok:=(fun k_ => (w.heap.size ≤ k_) ∧ some k_ ≠ (.slice (some ad146) x5_1.length co7 : Value).ownBlock)) (by (with_reducible repeat (first|apply Kd.V_alloc|apply Kd.V_drewN|apply Kd.V_drew));exact Kd.V_mono HL146_0.out (fun _ hk => ⟨⟨hk.1.1,hk.2⟩,hk.1.2⟩)) hg hat);replace HB:=zA (hb);have HO149:=zA (ho);clear HO_8;clear ho hb hg hat))
                     repeat (go_quiet (first|((with_reducible refine gate_builtin (b:=.append) (xs:=#[.tmp 82,.tmp 87]) rfl ?_);at_builtin;refine Kd.N_append (Kd.slice 3 (Kd.int .i64)) (w0:=w) w.heap.size rfl (.tmp 82) (.tmp 87) 32 22 (.slice none 0 0) 24 rfl Tryz.underlying32 info22 rfl (by decide) (by omega) u8 x8_5 (rd_L1 x5_1 x10_5) [.slice A146_0 (rd_L1 x5_1 x10_5).length c146_0] (fun k_ => (w.heap.size ≤ k_) ∧ some k_ ≠ (.slice (some ad146) x5_1.length co7 : Value).ownBlock) (fun k_ => ((fun k_ => (w.heap.size ≤ k_) ∧ some k_ ≠ (.slice (some ad146) x5_1.length co7 : Value).ownBlock)) k_ ∧ some k_ ≠ (u8 : Value).ownBlock) rfl rfl ?aP (fun _ hk => hk) ?aF ?aO ?aB ?aS ?aL ?_;(case aP => exact (Kd.FK_slice_mk (Kd.V_reads' (Kd.V_mono (ok':=(fun k_ => ((fun k_ => (w.heap.size ≤ k_) ∧ some k_ ≠ (.slice (some ad146) x5_1.length co7 : Value).ownBlock)) k_ ∧ some k_ ≠ (u8 : Value).ownBlock)) (HL146_0.out) (fun k_ hk => ⟨⟨hk.1.1,hk.2⟩,hk.1.2⟩))).2.1 (Kd.V_F (Kd.V_mono (ok':=(fun k_ => ((fun k_ => (w.heap.size ≤ k_) ∧ some k_ ≠ (.slice (some ad146) x5_1.length co7 : Value).ownBlock)) k_ ∧ some k_ ≠ (u8 : Value).ownBlock)) (HL146_0.out) (fun k_ hk => ⟨⟨hk.1.1,hk.2⟩,hk.1.2⟩)))));(case aB => exact (zz HB));(case aF => exact (fun k_ hk => ⟨(Nat.le_trans (zT (zz HB)) hk),Kd.fresh' (Kd.N_lt (by (with_reducible repeat (first|apply Kd.N_alloc|apply Kd.N_drewN|apply Kd.N_drew));exact HO_5.out)) k_ hk⟩));(case aO => exact (by (with_reducible repeat (first|apply Kd.N_alloc|apply Kd.N_drewN|apply Kd.N_drew));exact HO_8.out));(case aS => exact (zT (zz HB)));(case aL => have:=LMc44.out;omega);intro v148 w45 ho hb hg hat;rw [← Ny147.out] at ho;replace HO_5:=zA (Kd.N_afterv (ok:=(fun k_ => (w.heap.size ≤ k_))) (by (with_reducible repeat (first|apply Kd.N_alloc|apply Kd.N_drewN|apply Kd.N_drew));exact HO_5.out) hg hat);replace HL146_0:=zA (Kd.V_afterv (ok:=(fun k_ => (w.heap.size ≤ k_) ∧ some k_ ≠ (.slice (some ad146) x5_1.length co7 : Value).ownBlock)) (by (with_reducible repeat (first|apply Kd.V_alloc|apply Kd.V_drewN|apply Kd.V_drew));exact Kd.V_mono HL146_0.out (fun _ hk => ⟨⟨hk.1.1,hk.2⟩,hk.1.2⟩)) hg hat);replace HB:=zA (hb);have HO149:=zA (ho);clear HO_8;clear ho hb hg hat));try go_wp2_with (first|((with_reducible refine gate_builtin (b:=.append) (xs:=#[.tmp 82,.tmp 87]) rfl ?_);at_builtin;refine Kd.N_append (Kd.slice 3 (Kd.int .i64)) (w0:=w) w.heap.size rfl (.tmp 82) (.tmp 87) 32 22 (.slice none 0 0) 24 rfl Tryz.underlying32 info22 rfl (by decide) (by omega) u8 x8_5 (rd_L1 x5_1 x10_5) [.slice A146_0 (rd_L1 x5_1 x10_5).length c146_0] (fun k_ => (w.heap.size ≤ k_) ∧ some k_ ≠ (.slice (some ad146) x5_1.length co7 : Value).ownBlock) (fun k_ => ((fun k_ => (w.heap.size ≤ k_) ∧ some k_ ≠ (.slice (some ad146) x5_1.length co7 : Value).ownBlock)) k_ ∧ some k_ ≠ (u8 : Value).ownBlock) rfl rfl ?aP (fun _ hk => hk) ?aF ?aO ?aB ?aS ?aL ?_;(case aP => exact (Kd.FK_slice_mk (Kd.V_reads' (Kd.V_mono (ok':=(fun k_ => ((fun k_ => (w.heap.size ≤ k_) ∧ some k_ ≠ (.slice (some ad146) x5_1.length co7 : Value).ownBlock)) k_ ∧ some k_ ≠ (u8 : Value).ownBlock)) (HL146_0.out) (fun k_ hk => ⟨⟨hk.1.1,hk.2⟩,hk.1.2⟩))).2.1 (Kd.V_F (Kd.V_mono (ok':=(fun k_ => ((fun k_ => (w.heap.size ≤ k_) ∧ some k_ ≠ (.slice (some ad146) x5_1.length co7 : Value).ownBlock)) k_ ∧ some k_ ≠ (u8 : Value).ownBlock)) (HL146_0.out) (fun k_ hk => ⟨⟨hk.1.1,hk.2⟩,hk.1.2⟩)))));(case aB => exact (zz HB));(case aF => exact (fun k_ hk => ⟨(Nat.le_trans (zT (zz HB)) hk),Kd.fresh' (Kd.N_lt (by (with_reducible repeat (first|apply Kd.N_alloc|apply Kd.N_drewN|apply Kd.N_drew));exact HO_5.out)) k_ hk⟩));(case aO => exact (by (with_reducible repeat (first|apply Kd.N_alloc|apply Kd.N_drewN|apply Kd.N_drew));exact HO_8.out));(case aS => exact (zT (zz HB)));(case aL => have:=LMc44.out;omega);intro v148 w45 ho hb hg hat;rw [← Ny147.out] at ho;replace HO_5:=zA (Kd.N_afterv (ok:=(fun k_ => (w.heap.size ≤ k_))) (by (with_reducible repeat (first|apply Kd.N_alloc|apply Kd.N_drewN|apply Kd.N_drew));exact HO_5.out) hg hat);replace HL146_0:=zA (Kd.V_afterv (ok:=(fun k_ => (w.heap.size ≤ k_) ∧ some k_ ≠ (.slice (some ad146) x5_1.length co7 : Value).ownBlock)) (by (with_reducible repeat (first|apply Kd.V_alloc|apply Kd.V_drewN|apply Kd.V_drew));exact Kd.V_mono HL146_0.out (fun _ hk => ⟨⟨hk.1.1,hk.2⟩,hk.1.2⟩)) hg hat);replace HB:=zA (hb);have HO149:=zA (ho);clear HO_8;clear ho hb hg hat)))
                     go_roundg k5
                     case measure => have:=HK1.out;have:=HJ5.out;have:=HJ15.out;have:=HK4.out;have:=HK5.out;omega
                     case rel => exact ⟨(y147),(wrap64 (x10_5 + 1)),za,H',⟨by have:=HK1.out;have:=HJ5.out;have:=HJ15.out;have:=HK4.out;have:=HK5.out;omega⟩,⟨by (with_reducible repeat (first|apply Kd.N_alloc|apply Kd.N_drewN|apply Kd.N_drew));exact HO_5.out⟩,⟨by (with_reducible repeat (first|apply Kd.N_alloc|apply Kd.N_drewN|apply Kd.N_drew));exact HO149.out⟩,⟨zz HB⟩⟩
                    ·
                     rw [if_neg c44] at H
                     exact absurd H (by simp)
                   ·
                    rw [if_neg c43] at H
                    exact absurd H (by simp)
                  ·
                   rw [if_neg c42] at H;have c42b0:=decide_eq_false c42;clear c42
                   have H':=zA H
                   clear H
                   go_wp2
                   repeat (go_quiet (fail);try go_wp2)
                   go_roundg k5
                   case measure => have:=HK1.out;have:=HJ5.out;have:=HJ15.out;have:=HK4.out;have:=HK5.out;omega
                   case rel => exact ⟨(x8_5),(wrap64 (x6_1 + 1)),za,H',⟨by have:=HK1.out;have:=HJ5.out;have:=HJ15.out;have:=HK4.out;have:=HK5.out;omega⟩,⟨by (with_reducible repeat (first|apply Kd.N_alloc|apply Kd.N_drewN|apply Kd.N_drew));exact Kd.N_mono HO_8.out (fun _ hk => hk.1)⟩,⟨zz HB⟩⟩
               ·
                rw [if_neg c36] at H
                exact absurd H (by simp)
              ·
               rw [if_neg c35] at H
               exact absurd H (by simp)
             ·
              rw [if_neg c34] at H
              exact absurd H (by simp)
            ·
             rw [if_neg c33] at H
             exact absurd H (by simp)
   ·
    rw [if_neg c5] at H;have c5b0:=decide_eq_false c5;clear c5
    obtain rfl:=Option.some.inj H
    go_wp2
    repeat (go_quiet (fail);try go_wp2)
    go_ret
    exact ⟨_,by first|rfl|(simp [errW_none,errW_some] <;> rfl)|(simp [*,errW_none,errW_some] <;> rfl),by (with_reducible repeat (first|apply Kd.N_alloc|apply Kd.N_drewN|apply Kd.N_drew));exact HO_5.out,zz HB⟩

end Go.Proofs.YtfelabhakgcifaaGreat.QFnExactAnswers
