/- Walks through the Go functions that FnExactCountAnswers reaches: each call returns what the Lean function beside it says, within the bounds that the theorem names. -/
import Derived.Test.YtfelabhakgcifaaGreatQFnExactCountAnswersx0
import Derived.Test.YtfelabhakgcifaaGreatQFnExactCountAnswersx3
import Derived.Test.YtfelabhakgcifaaGreatQFnExactCountAnswersx4
namespace Go.Proofs.YtfelabhakgcifaaGreat.QFnExactCountAnswers
open Go.RowKit Go.Proofs.YtfelabhakgcifaaGreatW.PrintWords Go.Proofs.YtfelabhakgcifaaGreatW.PrintLast Go.Proofs.YtfelabhakgcifaaGreatW.PrintMore
attribute [local go_sem] max2_int min2_int max_two min_two max_three min_three max_four min_four   -- for this text's walks alone
set_option linter.unusedVariables false
set_option linter.unusedSimpArgs false


/-! ### spec_l6Sort: function 30 -/
mutual
def spec_l6Sort.l0 : Nat → List (List Int) → Bool → List (List Int) → Int → Option ((List (List Int)))
 | 0, _, _, _, _ => none
 | k + 1, x0, x1, x5, x6 => if x6 < (x0.length : Int) then (spec_l6Sort.l1 k x0 x1 x5 x6 (x5.length : Int)) else (some x5)
def spec_l6Sort.j2 : Nat → List (List Int) → Bool → List (List Int) → Int → Int → Option ((List (List Int)))
 | 0, _, _, _, _, _ => none
 | k + 1, x0, x1, x5, x6, x7 => if x1 = true then (if x7 > 0 then (if 0 ≤ (wrap64 (x7 - 1)) then (if (wrap64 (x7 - 1)) < (x5.length : Int) then (if 0 ≤ x6 then (if x6 < (x0.length : Int) then ((spec_l2Ints.f k (rd_L1 x5 (wrap64 (x7 - 1))) (rd_L1 x0 x6)).bind fun t206 => (spec_l6Sort.j3 k x0 x1 x5 x6 x7 t206)) else (none)) else (none)) else (none)) else (none)) else (spec_l6Sort.j3 k x0 x1 x5 x6 x7 false)) else (spec_l6Sort.j3 k x0 x1 x5 x6 x7 false)
def spec_l6Sort.j3 : Nat → List (List Int) → Bool → List (List Int) → Int → Int → Bool → Option ((List (List Int)))
 | 0, _, _, _, _, _, _ => none
 | k + 1, x0, x1, x5, x6, x7, x52 => if x52 = true then (spec_l6Sort.l0 k x0 x1 x5 (wrap64 (x6 + 1))) else (spec_l6Sort.l2 k x0 x1 x5 x6 x7 (([] : List (List Int))) 0)
def spec_l6Sort.l2 : Nat → List (List Int) → Bool → List (List Int) → Int → Int → List (List Int) → Int → Option ((List (List Int)))
 | 0, _, _, _, _, _, _, _ => none
 | k + 1, x0, x1, x5, x6, x7, x8, x9 => if x9 < x7 then (if 0 ≤ x9 then (if x9 < (x5.length : Int) then (if x8.length < 5864062014805 then (spec_l6Sort.l2 k x0 x1 x5 x6 x7 (x8 ++ [rd_L1 x5 x9]) (wrap64 (x9 + 1))) else (none)) else (none)) else (none)) else ((some (([] : List Int) : List Int)).bind fun y214 => (if 0 ≤ x6 then (if x6 < (x0.length : Int) then (if y214.length + (rd_L1 x0 x6).length < 17592186044416 then (if x8.length < 5864062014805 then (spec_l6Sort.l3 k x0 x1 x5 x6 (x8 ++ [(y214 ++ (rd_L1 x0 x6))]) x7) else (none)) else (none)) else (none)) else (none)))
def spec_l6Sort.l3 : Nat → List (List Int) → Bool → List (List Int) → Int → List (List Int) → Int → Option ((List (List Int)))
 | 0, _, _, _, _, _, _ => none
 | k + 1, x0, x1, x5, x6, x8, x10 => if x10 < (x5.length : Int) then (if 0 ≤ x10 then (if x8.length < 5864062014805 then (spec_l6Sort.l3 k x0 x1 x5 x6 (x8 ++ [rd_L1 x5 x10]) (wrap64 (x10 + 1))) else (none)) else (none)) else (spec_l6Sort.l0 k x0 x1 x8 (wrap64 (x6 + 1)))
def spec_l6Sort.l1 : Nat → List (List Int) → Bool → List (List Int) → Int → Int → Option ((List (List Int)))
 | 0, _, _, _, _, _ => none
 | k + 1, x0, x1, x5, x6, x7 => if x7 > 0 then (if 0 ≤ x6 then (if x6 < (x0.length : Int) then (if 0 ≤ (wrap64 (x7 - 1)) then (if (wrap64 (x7 - 1)) < (x5.length : Int) then ((spec_l2Less.f k (rd_L1 x0 x6) (rd_L1 x5 (wrap64 (x7 - 1)))).bind fun t203 => (if t203 = true then (spec_l6Sort.l1 k x0 x1 x5 x6 (wrap64 (x7 - 1))) else (spec_l6Sort.j2 k x0 x1 x5 x6 x7))) else (none)) else (none)) else (none)) else (none)) else (spec_l6Sort.j2 k x0 x1 x5 x6 x7)
end
def spec_l6Sort.f (k : Nat) (l0 : List (List Int)) (a1 : Bool) : Option ((List (List Int))) := spec_l6Sort.l0 k l0 a1 (([] : List (List Int))) 0
set_option maxHeartbeats 8000000 in
set_option maxRecDepth 100000 in
theorem spec_l6Sort.calls (k : Nat) (A0 : Option Addr) (c0 : Nat) (l0 : List (List Int)) (a1 : Bool) (r : List (List Int)) (w : World) (hr0 : Kd.C (Kd.slice 3 (Kd.int .i64)) w A0 l0.length l0) (hc0 : l0.length ≤ c0) (h : spec_l6Sort.f k l0 a1 = some r) :
  Calls Tryz.prog 30 #[.slice A0 l0.length c0, .bool a1] w fun e w' => ∃ v0_ : Value, e = .returned (v0_) ∧ Kd.N (Kd.slice 3 (Kd.int .i64)) 22 w' w.heap.size (fun k_ => (w.heap.size ≤ k_)) v0_ r ∧ Below w.heap.size w w' := by
 have HR0:=zA hr0;have HC0:=zA hc0;clear hr0 hc0;have HB:=zA (Below.refl w.heap.size w)
 have H : (spec_l6Sort.l0 k l0 a1 (([] : List (List Int))) 0) = some r:=h
 clear h;obtain ⟨y198,hy198⟩ : ∃ y_ : List (List Int),y_ = (([] : List (List Int))):=⟨_,rfl⟩
 replace H : (spec_l6Sort.l0 k l0 a1 y198 0) = some r:=by first|(rw [hy198];with_reducible exact H)|(have H2_:=(Option.bind_some _ _).symm.trans H;rw [hy198];with_reducible exact H2_)|(have H2_:=(Option.bind_some _ _).symm.trans H;with_reducible exact H2_)|with_reducible exact H|(rw [hy198];exact H)|exact H
 have Ny198:=zA hy198;clear hy198
 have H':=zA H
 clear H
 go_enter Tryz.func30,Tryz.ntmps30
 go_wp2_with (first|((with_reducible refine gate_dst (N:=11) rfl ?_);refine Kd.N_lit (Kd.slice 3 (Kd.int .i64)) _ 22 ?hg (N':=11) ?hd (xs:=([] : List (List Int))) (inner:=[]) (ok:=(fun k_ => (w.heap.size ≤ k_))) (okp:=(fun k_ => (w.heap.size ≤ k_))) ?hr ?hp (fun _ hk => hk) ((show ∀ k_,w.heap.size ≤ k_ → (fun k_ => (w.heap.size ≤ k_)) k_ from fun k_ hk => (Nat.le_trans (zT (zz HB)) hk)) _ (Nat.le_refl _)) (Below.refl _ _) (Nat.le_refl _) (by simp) ?_;(case hd => rfl);(case hg => rfl);(case hr => first|(go_simp;done)|(go_simp;rfl));(case hp => exact (Reps.none _ _));intro v199 w3 ho4 hb hg_ hnew_;clear hg_ hnew_;(first|rw [← Ny198.out] at ho4|(simp only [Int.reduceToNat] at ho4;rw [← Ny198.out] at ho4));have HO200:=zA (Kd.N_lower ho4 (zT (zz HB)));replace HB:=zA (zJb (zz HB) hb);clear hb ho4))
 repeat (go_quiet (first|((with_reducible refine gate_dst (N:=11) rfl ?_);refine Kd.N_lit (Kd.slice 3 (Kd.int .i64)) _ 22 ?hg (N':=11) ?hd (xs:=([] : List (List Int))) (inner:=[]) (ok:=(fun k_ => (w.heap.size ≤ k_))) (okp:=(fun k_ => (w.heap.size ≤ k_))) ?hr ?hp (fun _ hk => hk) ((show ∀ k_,w.heap.size ≤ k_ → (fun k_ => (w.heap.size ≤ k_)) k_ from fun k_ hk => (Nat.le_trans (zT (zz HB)) hk)) _ (Nat.le_refl _)) (Below.refl _ _) (Nat.le_refl _) (by simp) ?_;(case hd => rfl);(case hg => rfl);(case hr => first|(go_simp;done)|(go_simp;rfl));(case hp => exact (Reps.none _ _));intro v199 w3 ho4 hb hg_ hnew_;clear hg_ hnew_;(first|rw [← Ny198.out] at ho4|(simp only [Int.reduceToNat] at ho4;rw [← Ny198.out] at ho4));have HO200:=zA (Kd.N_lower ho4 (zT (zz HB)));replace HB:=zA (zJb (zz HB) hb);clear hb ho4));try go_wp2_with (first|((with_reducible refine gate_dst (N:=11) rfl ?_);refine Kd.N_lit (Kd.slice 3 (Kd.int .i64)) _ 22 ?hg (N':=11) ?hd (xs:=([] : List (List Int))) (inner:=[]) (ok:=(fun k_ => (w.heap.size ≤ k_))) (okp:=(fun k_ => (w.heap.size ≤ k_))) ?hr ?hp (fun _ hk => hk) ((show ∀ k_,w.heap.size ≤ k_ → (fun k_ => (w.heap.size ≤ k_)) k_ from fun k_ hk => (Nat.le_trans (zT (zz HB)) hk)) _ (Nat.le_refl _)) (Below.refl _ _) (Nat.le_refl _) (by simp) ?_;(case hd => rfl);(case hg => rfl);(case hr => first|(go_simp;done)|(go_simp;rfl));(case hp => exact (Reps.none _ _));intro v199 w3 ho4 hb hg_ hnew_;clear hg_ hnew_;(first|rw [← Ny198.out] at ho4|(simp only [Int.reduceToNat] at ho4;rw [← Ny198.out] at ho4));have HO200:=zA (Kd.N_lower ho4 (zT (zz HB)));replace HB:=zA (zJb (zz HB) hb);clear hb ho4)))
 go_loopg [5,6] k (fun kq v5 v6 w' => ∃ (x5_1 : List (List Int)) (x6_1 : Int),v6 = .int .i64 x6_1 ∧ Aside0 (spec_l6Sort.l0 kq l0 a1 x5_1 x6_1 = some r) ∧ Aside0 (kq ≤ k) ∧ Aside0 (Kd.N (Kd.slice 3 (Kd.int .i64)) 22 w' w.heap.size (fun k_ => (w.heap.size ≤ k_)) v5 x5_1) ∧ Aside0 (Below w.heap.size w w'))
 case atStart => exact ⟨(y198),(0),za,H',⟨Nat.le_refl _⟩,⟨by (with_reducible repeat (first|apply Kd.N_alloc|apply Kd.N_drewN|apply Kd.N_drew));exact HO200.out⟩,⟨zz HB⟩⟩
 case round =>
  clear H';(try clear p2);(try clear c3);obtain ⟨x5_1,x6_1,rfl,HA,HK1,HO_5,HB⟩:=hrel
  cases gk with
  | zero => exact absurd HA.out (by simp [spec_l6Sort.l0])
  | succ k1 =>
   have H:=HA.out;clear HA;simp only [spec_l6Sort.l0] at H
   by_cases c5 : x6_1 < (l0.length : Int)
   ·
    rw [if_pos c5] at H;have c5b0:=decide_eq_true c5;clear c5;have HC6:=zA H;clear H;obtain ⟨Ao7,co7,eo7⟩:=Kd.N_slice HO_5.out
    subst eo7
    go_upto_block 2 with (fail)
    repeat (go_quiet (fail);go_upto_block 2 with (fail))
    go_cut [7] (fun v7 wc => ∃ (kq : Nat) (x7_5 : Int),v7 = .int .i64 x7_5 ∧ Aside0 (spec_l6Sort.j2 kq l0 a1 x5_1 x6_1 x7_5 = some r) ∧ Aside0 (kq ≤ k1) ∧ Aside0 (Kd.N (Kd.slice 3 (Kd.int .i64)) 22 wc w.heap.size (fun k_ => (w.heap.size ≤ k_)) (.slice Ao7 x5_1.length co7) x5_1) ∧ Aside0 (Below w.heap.size w wc))
    case first =>
     have H:=HC6.out;clear HC6
     have H':=zA H
     clear H
     go_wp2
     repeat (go_quiet (fail);try go_wp2)
     go_loopg [7] k1 (fun kq v7 w' => ∃ (x7_2 : Int),v7 = .int .i64 x7_2 ∧ Aside0 (spec_l6Sort.l1 kq l0 a1 x5_1 x6_1 x7_2 = some r) ∧ Aside0 (kq ≤ k1) ∧ Aside0 (Kd.N (Kd.slice 3 (Kd.int .i64)) 22 w' w.heap.size (fun k_ => (w.heap.size ≤ k_)) (.slice Ao7 x5_1.length co7) x5_1) ∧ Aside0 (Below w.heap.size w w'))
     case atStart => exact ⟨((x5_1.length : Int)),za,H',⟨Nat.le_refl _⟩,⟨by (with_reducible repeat (first|apply Kd.N_alloc|apply Kd.N_drewN|apply Kd.N_drew));exact HO_5.out⟩,⟨zz HB⟩⟩
     case round =>
      clear H';(try clear p2);(try clear c3);(try clear c5);(try clear c5b0);(try clear p2);obtain ⟨x7_2,rfl,HA,HK2,HO_5,HB⟩:=hrel
      cases gk with
      | zero => exact absurd HA.out (by simp [spec_l6Sort.l1])
      | succ k2 =>
       have H:=HA.out;clear HA;simp only [spec_l6Sort.l1] at H
       by_cases c8 : x7_2 > 0
       ·
        rw [if_pos c8] at H
        have c8b0 : decide (0 < x7_2) = true:=decide_eq_true c8
        clear c8
        (first|rw [c8b0]|(simp only [i64_w,i32_w];rw [c8b0])|skip)
        by_cases c9 : 0 ≤ x6_1
        ·
         rw [if_pos c9] at H;have c9b0:=decide_eq_true c9;clear c9
         by_cases c10 : x6_1 < (l0.length : Int)
         ·
          rw [if_pos c10] at H;have c10b0:=decide_eq_true c10;clear c10;obtain ⟨ji11,hji11⟩ : ∃ j_ : Int,(wrap64 (x7_2 - 1)) = j_:=⟨_,rfl⟩
          replace H : (if 0 ≤ (ji11) then (if (ji11) < (x5_1.length : Int) then ((spec_l2Less.f k2 (rd_L1 l0 x6_1) (rd_L1 x5_1 (ji11))).bind fun t203 => (if t203 = true then (spec_l6Sort.l1 k2 l0 a1 x5_1 x6_1 ji11) else (spec_l6Sort.j2 k2 l0 a1 x5_1 x6_1 x7_2))) else (none)) else (none)) = some r:=by first|(rw [hji11] at H;exact H)|(simp only [hji11] at H ⊢;exact H)
          have hji11w : (IntKind.i64.wrap (x7_2 - 1)) = ji11:=(i64_w _).trans hji11
          by_cases c12 : 0 ≤ (ji11)
          ·
           rw [if_pos c12] at H;have c12b0:=decide_eq_true c12;clear c12
           by_cases c13 : (ji11) < (x5_1.length : Int)
           ·
            rw [if_pos c13] at H;have c13b0:=decide_eq_true c13;clear c13;replace H:=Option.bind_eq_some_iff.mp H;obtain ⟨t203,A140,H⟩:=H;(try dsimp only at H);have A14:=zA A140;clear A140
            by_cases c15 : t203 = true
            ·
             subst c15
             rw [if_pos rfl] at H
             have H':=zA H
             clear H;have p201 : 0 ≤ (x6_1 : Int):=zXb ze;have q201 : x6_1 < (l0.length : Int):=zXb ze;obtain ⟨ad201,A201_0,c201_0,e201,hx201_0,hl201_0,hi201_0⟩:=at_L1 HR0.out x6_1 p201 q201
             cases e201
             replace hx201_0:=(HB.out.cell (World.block_lt_of_cell? w _ hx201_0)).trans hx201_0;have HR201_0:=zA hi201_0;have HC201_0:=zA hl201_0;clear hi201_0 hl201_0;replace p201:=eq_true p201;replace q201:=eq_true q201;have p202 : 0 ≤ ((ji11) : Int):=zXb ze;have q202 : (ji11) < (x5_1.length : Int):=zXb ze;obtain ⟨ad202,A202_0,c202_0,e202,hx202_0,hl202_0,hi202_0⟩:=at_L1 (Kd.N_reads' HO_5.out).2.2 (ji11) p202 q202
             cases e202
             obtain ⟨ce202,hce202,hMe202,hcc202⟩:=Kd.N_get HO_5.out [] (ji11) p202 (by first|exact q202|exact zXb ze|(have e_:=(Kd.N_reads' HO_5.out).1;omega));obtain ⟨ua202_0,uc202_0,rfl,ul202_0,ge202_0⟩:=Kd.FK_slice_open hMe202;have hv202_0:=hcc202 0 _ rfl;rw [Nat.add_zero,show ((Kd.slice 3 (Kd.int .i64))).sz = 1 from rfl,Nat.mul_one] at hv202_0;replace hv202_0:=Option.some.inj (hv202_0.symm.trans hx202_0)
             injection hv202_0 with hva_ hvn_ hvc_
             rw [hva_] at ge202_0;rw [hvc_] at ul202_0;have HL202_0:=zA (show Kd.V (Kd.int .i64) 3 _ w.heap.size _ _ (rd_L1 x5_1 (ji11)) from Kd.V_mk ul202_0 ge202_0);clear hva_ hvn_ hvc_ ge202_0 ul202_0;clear hcc202 hce202;have HR202_0:=zA hi202_0;have HC202_0:=zA hl202_0;clear hi202_0 hl202_0;replace p202:=eq_true p202;replace q202:=eq_true q202
             go_wp2_with (first|(go_at_call 50;(with_reducible refine (spec_l2Less.calls k2 _ _ (rd_L1 l0 x6_1) _ _ (rd_L1 x5_1 (ji11)) true _ ?side1 ?side2 ?side3 ?side4 A14.out).mono ?_);(case side1 => exact zsd HR201_0 HB);(case side2 => exact HC201_0.out);(case side3 => repeat (first|exact (by repeat (first|(with_reducible exact HR202_0.out)|(with_reducible refine zBb ?_ _)|(with_reducible refine zAb ?_ _)|(with_reducible refine zX ?_)|exact HR202_0.out))|(with_reducible refine zBb ?_ _)|(with_reducible refine zAb ?_ _)|(with_reducible refine zX ?_)));(case side4 => exact HC202_0.out);rintro e w' ⟨rfl,⟨nd,rfl⟩⟩;(try first|exact ⟨rfl,_,World.drewN_drewN _ _ _⟩|exact ⟨rfl,_,Eq.trans (World.drewN_drewN _ _ _) (congrArg (World.drewN _) (Nat.add_assoc _ _ _))⟩)))
             repeat (go_quiet (first|(go_at_call 50;(with_reducible refine (spec_l2Less.calls k2 _ _ (rd_L1 l0 x6_1) _ _ (rd_L1 x5_1 (ji11)) true _ ?side1 ?side2 ?side3 ?side4 A14.out).mono ?_);(case side1 => exact zsd HR201_0 HB);(case side2 => exact HC201_0.out);(case side3 => repeat (first|exact (by repeat (first|(with_reducible exact HR202_0.out)|(with_reducible refine zBb ?_ _)|(with_reducible refine zAb ?_ _)|(with_reducible refine zX ?_)|exact HR202_0.out))|(with_reducible refine zBb ?_ _)|(with_reducible refine zAb ?_ _)|(with_reducible refine zX ?_)));(case side4 => exact HC202_0.out);rintro e w' ⟨rfl,⟨nd,rfl⟩⟩;(try first|exact ⟨rfl,_,World.drewN_drewN _ _ _⟩|exact ⟨rfl,_,Eq.trans (World.drewN_drewN _ _ _) (congrArg (World.drewN _) (Nat.add_assoc _ _ _))⟩)));try go_wp2_with (first|(go_at_call 50;(with_reducible refine (spec_l2Less.calls k2 _ _ (rd_L1 l0 x6_1) _ _ (rd_L1 x5_1 (ji11)) true _ ?side1 ?side2 ?side3 ?side4 A14.out).mono ?_);(case side1 => exact zsd HR201_0 HB);(case side2 => exact HC201_0.out);(case side3 => repeat (first|exact (by repeat (first|(with_reducible exact HR202_0.out)|(with_reducible refine zBb ?_ _)|(with_reducible refine zAb ?_ _)|(with_reducible refine zX ?_)|exact HR202_0.out))|(with_reducible refine zBb ?_ _)|(with_reducible refine zAb ?_ _)|(with_reducible refine zX ?_)));(case side4 => exact HC202_0.out);rintro e w' ⟨rfl,⟨nd,rfl⟩⟩;(try first|exact ⟨rfl,_,World.drewN_drewN _ _ _⟩|exact ⟨rfl,_,Eq.trans (World.drewN_drewN _ _ _) (congrArg (World.drewN _) (Nat.add_assoc _ _ _))⟩))))
             go_roundg k2
             case measure => have:=HK1.out;have:=HK2.out;omega
             case rel => exact ⟨(ji11),(by first|rfl|(simp;done)|(simp only [← hji11] <;> (first|rfl|simp))|(simp [*];done)),H',⟨by have:=HK1.out;have:=HK2.out;omega⟩,⟨by (with_reducible repeat (first|apply Kd.N_alloc|apply Kd.N_drewN|apply Kd.N_drew));exact HO_5.out⟩,⟨zz HB⟩⟩
            ·
             replace c15:=Bool.eq_false_iff.mpr c15
             subst c15
             have H1 : (spec_l6Sort.j2 k2 l0 a1 x5_1 x6_1 x7_2) = some r:=by rw [if_neg (show ¬ (false = true) by decide)] at H;exact H
             clear H;have H:=H1;clear H1
             have H':=zA H
             clear H;have p201 : 0 ≤ (x6_1 : Int):=zXb ze;have q201 : x6_1 < (l0.length : Int):=zXb ze;obtain ⟨ad201,A201_0,c201_0,e201,hx201_0,hl201_0,hi201_0⟩:=at_L1 HR0.out x6_1 p201 q201
             cases e201
             replace hx201_0:=(HB.out.cell (World.block_lt_of_cell? w _ hx201_0)).trans hx201_0;have HR201_0:=zA hi201_0;have HC201_0:=zA hl201_0;clear hi201_0 hl201_0;replace p201:=eq_true p201;replace q201:=eq_true q201;have p202 : 0 ≤ ((ji11) : Int):=zXb ze;have q202 : (ji11) < (x5_1.length : Int):=zXb ze;obtain ⟨ad202,A202_0,c202_0,e202,hx202_0,hl202_0,hi202_0⟩:=at_L1 (Kd.N_reads' HO_5.out).2.2 (ji11) p202 q202
             cases e202
             obtain ⟨ce202,hce202,hMe202,hcc202⟩:=Kd.N_get HO_5.out [] (ji11) p202 (by first|exact q202|exact zXb ze|(have e_:=(Kd.N_reads' HO_5.out).1;omega));obtain ⟨ua202_0,uc202_0,rfl,ul202_0,ge202_0⟩:=Kd.FK_slice_open hMe202;have hv202_0:=hcc202 0 _ rfl;rw [Nat.add_zero,show ((Kd.slice 3 (Kd.int .i64))).sz = 1 from rfl,Nat.mul_one] at hv202_0;replace hv202_0:=Option.some.inj (hv202_0.symm.trans hx202_0)
             injection hv202_0 with hva_ hvn_ hvc_
             rw [hva_] at ge202_0;rw [hvc_] at ul202_0;have HL202_0:=zA (show Kd.V (Kd.int .i64) 3 _ w.heap.size _ _ (rd_L1 x5_1 (ji11)) from Kd.V_mk ul202_0 ge202_0);clear hva_ hvn_ hvc_ ge202_0 ul202_0;clear hcc202 hce202;have HR202_0:=zA hi202_0;have HC202_0:=zA hl202_0;clear hi202_0 hl202_0;replace p202:=eq_true p202;replace q202:=eq_true q202
             go_wp2_with (first|(go_at_call 50;(with_reducible refine (spec_l2Less.calls k2 _ _ (rd_L1 l0 x6_1) _ _ (rd_L1 x5_1 (ji11)) false _ ?side1 ?side2 ?side3 ?side4 A14.out).mono ?_);(case side1 => exact zsd HR201_0 HB);(case side2 => exact HC201_0.out);(case side3 => repeat (first|exact (by repeat (first|(with_reducible exact HR202_0.out)|(with_reducible refine zBb ?_ _)|(with_reducible refine zAb ?_ _)|(with_reducible refine zX ?_)|exact HR202_0.out))|(with_reducible refine zBb ?_ _)|(with_reducible refine zAb ?_ _)|(with_reducible refine zX ?_)));(case side4 => exact HC202_0.out);rintro e w' ⟨rfl,⟨nd,rfl⟩⟩;(try first|exact ⟨rfl,_,World.drewN_drewN _ _ _⟩|exact ⟨rfl,_,Eq.trans (World.drewN_drewN _ _ _) (congrArg (World.drewN _) (Nat.add_assoc _ _ _))⟩)))
             repeat (go_quiet (first|(go_at_call 50;(with_reducible refine (spec_l2Less.calls k2 _ _ (rd_L1 l0 x6_1) _ _ (rd_L1 x5_1 (ji11)) false _ ?side1 ?side2 ?side3 ?side4 A14.out).mono ?_);(case side1 => exact zsd HR201_0 HB);(case side2 => exact HC201_0.out);(case side3 => repeat (first|exact (by repeat (first|(with_reducible exact HR202_0.out)|(with_reducible refine zBb ?_ _)|(with_reducible refine zAb ?_ _)|(with_reducible refine zX ?_)|exact HR202_0.out))|(with_reducible refine zBb ?_ _)|(with_reducible refine zAb ?_ _)|(with_reducible refine zX ?_)));(case side4 => exact HC202_0.out);rintro e w' ⟨rfl,⟨nd,rfl⟩⟩;(try first|exact ⟨rfl,_,World.drewN_drewN _ _ _⟩|exact ⟨rfl,_,Eq.trans (World.drewN_drewN _ _ _) (congrArg (World.drewN _) (Nat.add_assoc _ _ _))⟩)));try go_wp2_with (first|(go_at_call 50;(with_reducible refine (spec_l2Less.calls k2 _ _ (rd_L1 l0 x6_1) _ _ (rd_L1 x5_1 (ji11)) false _ ?side1 ?side2 ?side3 ?side4 A14.out).mono ?_);(case side1 => exact zsd HR201_0 HB);(case side2 => exact HC201_0.out);(case side3 => repeat (first|exact (by repeat (first|(with_reducible exact HR202_0.out)|(with_reducible refine zBb ?_ _)|(with_reducible refine zAb ?_ _)|(with_reducible refine zX ?_)|exact HR202_0.out))|(with_reducible refine zBb ?_ _)|(with_reducible refine zAb ?_ _)|(with_reducible refine zX ?_)));(case side4 => exact HC202_0.out);rintro e w' ⟨rfl,⟨nd,rfl⟩⟩;(try first|exact ⟨rfl,_,World.drewN_drewN _ _ _⟩|exact ⟨rfl,_,Eq.trans (World.drewN_drewN _ _ _) (congrArg (World.drewN _) (Nat.add_assoc _ _ _))⟩))))
             go_meet
             case rel => exact ⟨_,(x7_2),za,H',⟨by have:=HK1.out;have:=HK2.out;first|omega|exact Nat.le_refl _⟩,⟨by (with_reducible repeat (first|apply Kd.N_alloc|apply Kd.N_drewN|apply Kd.N_drew));exact HO_5.out⟩,⟨zz HB⟩⟩
           ·
            rw [if_neg c13] at H
            exact absurd H (by simp)
          ·
           rw [if_neg c12] at H
           exact absurd H (by simp)
         ·
          rw [if_neg c10] at H
          exact absurd H (by simp)
        ·
         rw [if_neg c9] at H
         exact absurd H (by simp)
       ·
        rw [if_neg c8] at H
        have c8b0 : decide (0 < x7_2) = false:=decide_eq_false c8
        clear c8
        (first|rw [c8b0]|(simp only [i64_w,i32_w];rw [c8b0])|skip)
        have H':=zA H
        clear H
        go_wp2
        repeat (go_quiet (fail);try go_wp2)
        go_meet
        case rel => exact ⟨_,(x7_2),za,H',⟨by have:=HK1.out;have:=HK2.out;first|omega|exact Nat.le_refl _⟩,⟨by (with_reducible repeat (first|apply Kd.N_alloc|apply Kd.N_drewN|apply Kd.N_drew));exact HO_5.out⟩,⟨zz HB⟩⟩
    case rest =>
     clear HC6;(try clear c1);(try clear c2);(try clear p2);(try clear q2);(try clear hx2);(try clear c3);(try clear c5);(try clear c5b0);(try clear p6);(try clear c8);(try clear c8b0);(try clear c9);(try clear c9b0);(try clear c10);(try clear c10b0);(try clear c12);(try clear c12b0);(try clear c13);(try clear c13b0);(try clear c15);(try clear hx201_0);(try clear hx202_0);(try clear p2);(try clear p201);(try clear p202);(try clear q201);(try clear q202);obtain ⟨kq,x7_5,rfl,HA,HJ5,HO_5,HB⟩:=hcut
     cases kq with
     | zero => exact absurd HA.out (by simp [spec_l6Sort.j2])
     | succ kj5 =>
      have H:=HA.out;clear HA;simp only [spec_l6Sort.j2] at H;have HC16:=zA H;clear H
      go_upto_region 8 with (fail)
      repeat (go_quiet (fail);go_upto_region 8 with (fail))
      go_cut [52] (fun v52 wc => ∃ (kq : Nat) (x52_15 : Bool),v52 = .bool x52_15 ∧ Aside0 (spec_l6Sort.j3 kq l0 a1 x5_1 x6_1 x7_5 x52_15 = some r) ∧ Aside0 (kq ≤ kj5) ∧ Aside0 (Kd.N (Kd.slice 3 (Kd.int .i64)) 22 wc w.heap.size (fun k_ => (w.heap.size ≤ k_)) (.slice Ao7 x5_1.length co7) x5_1) ∧ Aside0 (Below w.heap.size w wc))
      case first =>
       have H:=HC16.out;clear HC16
       by_cases c17 : a1 = true
       ·
        subst c17
        rw [if_pos rfl] at H
        by_cases c18 : x7_5 > 0
        ·
         rw [if_pos c18] at H
         have c18b0 : decide (0 < x7_5) = true:=decide_eq_true c18
         clear c18
         (first|rw [c18b0]|(simp only [i64_w,i32_w];rw [c18b0])|skip)
         obtain ⟨ji19,hji19⟩ : ∃ j_ : Int,(wrap64 (x7_5 - 1)) = j_:=⟨_,rfl⟩
         replace H : (if 0 ≤ (ji19) then (if (ji19) < (x5_1.length : Int) then (if 0 ≤ x6_1 then (if x6_1 < (l0.length : Int) then ((spec_l2Ints.f kj5 (rd_L1 x5_1 (ji19)) (rd_L1 l0 x6_1)).bind fun t206 => (spec_l6Sort.j3 kj5 l0 true x5_1 x6_1 x7_5 t206)) else (none)) else (none)) else (none)) else (none)) = some r:=by first|(rw [hji19] at H;exact H)|(simp only [hji19] at H ⊢;exact H)
         have hji19w : (IntKind.i64.wrap (x7_5 - 1)) = ji19:=(i64_w _).trans hji19
         by_cases c20 : 0 ≤ (ji19)
         ·
          rw [if_pos c20] at H;have c20b0:=decide_eq_true c20;clear c20
          by_cases c21 : (ji19) < (x5_1.length : Int)
          ·
           rw [if_pos c21] at H;have c21b0:=decide_eq_true c21;clear c21
           by_cases c22 : 0 ≤ x6_1
           ·
            rw [if_pos c22] at H;have c22b0:=decide_eq_true c22;clear c22
            by_cases c23 : x6_1 < (l0.length : Int)
            ·
             rw [if_pos c23] at H;have c23b0:=decide_eq_true c23;clear c23;replace H:=Option.bind_eq_some_iff.mp H;obtain ⟨t206,A240,H⟩:=H;(try dsimp only at H);have A24:=zA A240;clear A240
             have H':=zA H
             clear H;have p204 : 0 ≤ ((ji19) : Int):=zXb ze;have q204 : (ji19) < (x5_1.length : Int):=zXb ze;obtain ⟨ad204,A204_0,c204_0,e204,hx204_0,hl204_0,hi204_0⟩:=at_L1 (Kd.N_reads' HO_5.out).2.2 (ji19) p204 q204
             cases e204
             obtain ⟨ce204,hce204,hMe204,hcc204⟩:=Kd.N_get HO_5.out [] (ji19) p204 (by first|exact q204|exact zXb ze|(have e_:=(Kd.N_reads' HO_5.out).1;omega));obtain ⟨ua204_0,uc204_0,rfl,ul204_0,ge204_0⟩:=Kd.FK_slice_open hMe204;have hv204_0:=hcc204 0 _ rfl;rw [Nat.add_zero,show ((Kd.slice 3 (Kd.int .i64))).sz = 1 from rfl,Nat.mul_one] at hv204_0;replace hv204_0:=Option.some.inj (hv204_0.symm.trans hx204_0)
             injection hv204_0 with hva_ hvn_ hvc_
             rw [hva_] at ge204_0;rw [hvc_] at ul204_0;have HL204_0:=zA (show Kd.V (Kd.int .i64) 3 _ w.heap.size _ _ (rd_L1 x5_1 (ji19)) from Kd.V_mk ul204_0 ge204_0);clear hva_ hvn_ hvc_ ge204_0 ul204_0;clear hcc204 hce204;have HR204_0:=zA hi204_0;have HC204_0:=zA hl204_0;clear hi204_0 hl204_0;replace p204:=eq_true p204;replace q204:=eq_true q204;have p205 : 0 ≤ (x6_1 : Int):=zXb ze;have q205 : x6_1 < (l0.length : Int):=zXb ze;obtain ⟨ad205,A205_0,c205_0,e205,hx205_0,hl205_0,hi205_0⟩:=at_L1 HR0.out x6_1 p205 q205
             cases e205
             replace hx205_0:=(HB.out.cell (World.block_lt_of_cell? w _ hx205_0)).trans hx205_0;have HR205_0:=zA hi205_0;have HC205_0:=zA hl205_0;clear hi205_0 hl205_0;replace p205:=eq_true p205;replace q205:=eq_true q205
             go_wp2_with (first|(go_at_call 46;(with_reducible refine (spec_l2Ints.calls kj5 _ _ (rd_L1 x5_1 (ji19)) _ _ (rd_L1 l0 x6_1) t206 _ ?side1 ?side2 ?side3 ?side4 A24.out).mono ?_);(case side1 => repeat (first|exact (by repeat (first|(with_reducible exact HR204_0.out)|(with_reducible refine zBb ?_ _)|(with_reducible refine zAb ?_ _)|(with_reducible refine zX ?_)|exact HR204_0.out))|(with_reducible refine zBb ?_ _)|(with_reducible refine zAb ?_ _)|(with_reducible refine zX ?_)));(case side2 => exact HC204_0.out);(case side3 => exact zsd HR205_0 HB);(case side4 => exact HC205_0.out);rintro e w' ⟨rfl,⟨nd,rfl⟩⟩;(try first|exact ⟨rfl,_,World.drewN_drewN _ _ _⟩|exact ⟨rfl,_,Eq.trans (World.drewN_drewN _ _ _) (congrArg (World.drewN _) (Nat.add_assoc _ _ _))⟩)))
             repeat (go_quiet (first|(go_at_call 46;(with_reducible refine (spec_l2Ints.calls kj5 _ _ (rd_L1 x5_1 (ji19)) _ _ (rd_L1 l0 x6_1) t206 _ ?side1 ?side2 ?side3 ?side4 A24.out).mono ?_);(case side1 => repeat (first|exact (by repeat (first|(with_reducible exact HR204_0.out)|(with_reducible refine zBb ?_ _)|(with_reducible refine zAb ?_ _)|(with_reducible refine zX ?_)|exact HR204_0.out))|(with_reducible refine zBb ?_ _)|(with_reducible refine zAb ?_ _)|(with_reducible refine zX ?_)));(case side2 => exact HC204_0.out);(case side3 => exact zsd HR205_0 HB);(case side4 => exact HC205_0.out);rintro e w' ⟨rfl,⟨nd,rfl⟩⟩;(try first|exact ⟨rfl,_,World.drewN_drewN _ _ _⟩|exact ⟨rfl,_,Eq.trans (World.drewN_drewN _ _ _) (congrArg (World.drewN _) (Nat.add_assoc _ _ _))⟩)));try go_wp2_with (first|(go_at_call 46;(with_reducible refine (spec_l2Ints.calls kj5 _ _ (rd_L1 x5_1 (ji19)) _ _ (rd_L1 l0 x6_1) t206 _ ?side1 ?side2 ?side3 ?side4 A24.out).mono ?_);(case side1 => repeat (first|exact (by repeat (first|(with_reducible exact HR204_0.out)|(with_reducible refine zBb ?_ _)|(with_reducible refine zAb ?_ _)|(with_reducible refine zX ?_)|exact HR204_0.out))|(with_reducible refine zBb ?_ _)|(with_reducible refine zAb ?_ _)|(with_reducible refine zX ?_)));(case side2 => exact HC204_0.out);(case side3 => exact zsd HR205_0 HB);(case side4 => exact HC205_0.out);rintro e w' ⟨rfl,⟨nd,rfl⟩⟩;(try first|exact ⟨rfl,_,World.drewN_drewN _ _ _⟩|exact ⟨rfl,_,Eq.trans (World.drewN_drewN _ _ _) (congrArg (World.drewN _) (Nat.add_assoc _ _ _))⟩))))
             go_meet
             case rel => exact ⟨_,(t206),za,H',⟨by have:=HK1.out;have:=HJ5.out;first|omega|exact Nat.le_refl _⟩,⟨by (with_reducible repeat (first|apply Kd.N_alloc|apply Kd.N_drewN|apply Kd.N_drew));exact HO_5.out⟩,⟨zz HB⟩⟩
            ·
             rw [if_neg c23] at H
             exact absurd H (by simp)
           ·
            rw [if_neg c22] at H
            exact absurd H (by simp)
          ·
           rw [if_neg c21] at H
           exact absurd H (by simp)
         ·
          rw [if_neg c20] at H
          exact absurd H (by simp)
        ·
         rw [if_neg c18] at H
         have c18b0 : decide (0 < x7_5) = false:=decide_eq_false c18
         clear c18
         (first|rw [c18b0]|(simp only [i64_w,i32_w];rw [c18b0])|skip)
         have H':=zA H
         clear H
         go_wp2
         repeat (go_quiet (fail);try go_wp2)
         go_meet
         case rel => exact ⟨_,(false),za,H',⟨by have:=HK1.out;have:=HJ5.out;first|omega|exact Nat.le_refl _⟩,⟨by (with_reducible repeat (first|apply Kd.N_alloc|apply Kd.N_drewN|apply Kd.N_drew));exact HO_5.out⟩,⟨zz HB⟩⟩
       ·
        replace c17:=Bool.eq_false_iff.mpr c17
        subst c17
        have H1 : (spec_l6Sort.j3 kj5 l0 false x5_1 x6_1 x7_5 false) = some r:=by rw [if_neg (show ¬ (false = true) by decide)] at H;exact H
        clear H;have H:=H1;clear H1
        have H':=zA H
        clear H
        go_wp2
        repeat (go_quiet (fail);try go_wp2)
        go_meet
        case rel => exact ⟨_,(false),za,H',⟨by have:=HK1.out;have:=HJ5.out;first|omega|exact Nat.le_refl _⟩,⟨by (with_reducible repeat (first|apply Kd.N_alloc|apply Kd.N_drewN|apply Kd.N_drew));exact HO_5.out⟩,⟨zz HB⟩⟩
      case rest =>
       clear HC16;(try clear c1);(try clear c2);(try clear p2);(try clear q2);(try clear hx2);(try clear c3);(try clear c5);(try clear c5b0);(try clear p6);(try clear c8);(try clear c8b0);(try clear c9);(try clear c9b0);(try clear c10);(try clear c10b0);(try clear c12);(try clear c12b0);(try clear c13);(try clear c13b0);(try clear c15);(try clear c17);(try clear c18);(try clear c18b0);(try clear c20);(try clear c20b0);(try clear p20);(try clear q20);(try clear hx20);(try clear c21);(try clear c21b0);(try clear c22);(try clear c22b0);(try clear c23);(try clear c23b0);(try clear hx201_0);(try clear hx202_0);(try clear hx204_0);(try clear hx205_0);(try clear p2);(try clear p201);(try clear p202);(try clear p204);(try clear p205);(try clear p6);(try clear q2);(try clear q201);(try clear q202);(try clear q204);(try clear q205);obtain ⟨kq,x52_15,rfl,HA,HJ15,HO_5,HB⟩:=hcut
       cases kq with
       | zero => exact absurd HA.out (by simp [spec_l6Sort.j3])
       | succ kj15 =>
        have H:=HA.out;clear HA;simp only [spec_l6Sort.j3] at H
        by_cases c25 : x52_15 = true
        ·
         subst c25
         rw [if_pos rfl] at H
         have H':=zA H
         clear H
         go_wp2
         repeat (go_quiet (fail);try go_wp2)
         go_roundg kj15
         case measure => have:=HK1.out;have:=HJ5.out;have:=HJ15.out;omega
         case rel => exact ⟨(x5_1),(wrap64 (x6_1 + 1)),za,H',⟨by have:=HK1.out;have:=HJ5.out;have:=HJ15.out;omega⟩,⟨by (with_reducible repeat (first|apply Kd.N_alloc|apply Kd.N_drewN|apply Kd.N_drew));exact HO_5.out⟩,⟨zz HB⟩⟩
        ·
         replace c25:=Bool.eq_false_iff.mpr c25
         subst c25
         have H1 : (spec_l6Sort.l2 kj15 l0 a1 x5_1 x6_1 x7_5 (([] : List (List Int))) 0) = some r:=by rw [if_neg (show ¬ (false = true) by decide)] at H;exact H
         clear H;have H:=H1;clear H1;obtain ⟨y207,hy207⟩ : ∃ y_ : List (List Int),y_ = (([] : List (List Int))):=⟨_,rfl⟩
         replace H : (spec_l6Sort.l2 kj15 l0 a1 x5_1 x6_1 x7_5 y207 0) = some r:=by first|(rw [hy207];with_reducible exact H)|(have H2_:=(Option.bind_some _ _).symm.trans H;rw [hy207];with_reducible exact H2_)|(have H2_:=(Option.bind_some _ _).symm.trans H;with_reducible exact H2_)|with_reducible exact H|(rw [hy207];exact H)|exact H
         have Ny207:=zA hy207;clear hy207
         have H':=zA H
         clear H
         go_wp2_with (first|((with_reducible refine gate_dst (N:=53) rfl ?_);refine Kd.N_lit (Kd.slice 3 (Kd.int .i64)) _ 22 ?hg (N':=53) ?hd (xs:=([] : List (List Int))) (inner:=[]) (ok:=(fun k_ => (w.heap.size ≤ k_) ∧ some k_ ≠ (.slice Ao7 x5_1.length co7 : Value).ownBlock)) (okp:=(fun k_ => (w.heap.size ≤ k_) ∧ some k_ ≠ (.slice Ao7 x5_1.length co7 : Value).ownBlock)) ?hr ?hp (fun _ hk => hk) ((show ∀ k_,wc.heap.size ≤ k_ → (fun k_ => (w.heap.size ≤ k_) ∧ some k_ ≠ (.slice Ao7 x5_1.length co7 : Value).ownBlock) k_ from fun k_ hk => ⟨(Nat.le_trans (zT (zz HB)) hk),Kd.fresh' (Kd.N_lt (by (with_reducible repeat (first|apply Kd.N_alloc|apply Kd.N_drewN|apply Kd.N_drew));exact HO_5.out)) k_ hk⟩) _ (Nat.le_refl _)) (Below.refl _ _) (Nat.le_refl _) (by simp) ?_;(case hd => rfl);(case hg => rfl);(case hr => first|(go_simp;done)|(go_simp;rfl));(case hp => exact (Reps.none _ _));intro v208 w26 ho27 hb hg_ hnew_;clear hg_ hnew_;(first|rw [← Ny207.out] at ho27|(simp only [Int.reduceToNat] at ho27;rw [← Ny207.out] at ho27));replace HO_5:=zA (Kd.N_elder' (by (with_reducible repeat (first|apply Kd.N_alloc|apply Kd.N_drewN|apply Kd.N_drew));exact HO_5.out) (Kd.N_base ho27) hb);have HO209:=zA (Kd.N_lower ho27 (zT (zz HB)));replace HB:=zA (zJb (zz HB) hb);clear hb ho27))
         repeat (go_quiet (first|((with_reducible refine gate_dst (N:=53) rfl ?_);refine Kd.N_lit (Kd.slice 3 (Kd.int .i64)) _ 22 ?hg (N':=53) ?hd (xs:=([] : List (List Int))) (inner:=[]) (ok:=(fun k_ => (w.heap.size ≤ k_) ∧ some k_ ≠ (.slice Ao7 x5_1.length co7 : Value).ownBlock)) (okp:=(fun k_ => (w.heap.size ≤ k_) ∧ some k_ ≠ (.slice Ao7 x5_1.length co7 : Value).ownBlock)) ?hr ?hp (fun _ hk => hk) ((show ∀ k_,wc.heap.size ≤ k_ → (fun k_ => (w.heap.size ≤ k_) ∧ some k_ ≠ (.slice Ao7 x5_1.length co7 : Value).ownBlock) k_ from fun k_ hk => ⟨(Nat.le_trans (zT (zz HB)) hk),Kd.fresh' (Kd.N_lt (by (with_reducible repeat (first|apply Kd.N_alloc|apply Kd.N_drewN|apply Kd.N_drew));exact HO_5.out)) k_ hk⟩) _ (Nat.le_refl _)) (Below.refl _ _) (Nat.le_refl _) (by simp) ?_;(case hd => rfl);(case hg => rfl);(case hr => first|(go_simp;done)|(go_simp;rfl));(case hp => exact (Reps.none _ _));intro v208 w26 ho27 hb hg_ hnew_;clear hg_ hnew_;(first|rw [← Ny207.out] at ho27|(simp only [Int.reduceToNat] at ho27;rw [← Ny207.out] at ho27));replace HO_5:=zA (Kd.N_elder' (by (with_reducible repeat (first|apply Kd.N_alloc|apply Kd.N_drewN|apply Kd.N_drew));exact HO_5.out) (Kd.N_base ho27) hb);have HO209:=zA (Kd.N_lower ho27 (zT (zz HB)));replace HB:=zA (zJb (zz HB) hb);clear hb ho27));try go_wp2_with (first|((with_reducible refine gate_dst (N:=53) rfl ?_);refine Kd.N_lit (Kd.slice 3 (Kd.int .i64)) _ 22 ?hg (N':=53) ?hd (xs:=([] : List (List Int))) (inner:=[]) (ok:=(fun k_ => (w.heap.size ≤ k_) ∧ some k_ ≠ (.slice Ao7 x5_1.length co7 : Value).ownBlock)) (okp:=(fun k_ => (w.heap.size ≤ k_) ∧ some k_ ≠ (.slice Ao7 x5_1.length co7 : Value).ownBlock)) ?hr ?hp (fun _ hk => hk) ((show ∀ k_,wc.heap.size ≤ k_ → (fun k_ => (w.heap.size ≤ k_) ∧ some k_ ≠ (.slice Ao7 x5_1.length co7 : Value).ownBlock) k_ from fun k_ hk => ⟨(Nat.le_trans (zT (zz HB)) hk),Kd.fresh' (Kd.N_lt (by (with_reducible repeat (first|apply Kd.N_alloc|apply Kd.N_drewN|apply Kd.N_drew));exact HO_5.out)) k_ hk⟩) _ (Nat.le_refl _)) (Below.refl _ _) (Nat.le_refl _) (by simp) ?_;(case hd => rfl);(case hg => rfl);(case hr => first|(go_simp;done)|(go_simp;rfl));(case hp => exact (Reps.none _ _));intro v208 w26 ho27 hb hg_ hnew_;clear hg_ hnew_;(first|rw [← Ny207.out] at ho27|(simp only [Int.reduceToNat] at ho27;rw [← Ny207.out] at ho27));replace HO_5:=zA (Kd.N_elder' (by (with_reducible repeat (first|apply Kd.N_alloc|apply Kd.N_drewN|apply Kd.N_drew));exact HO_5.out) (Kd.N_base ho27) hb);have HO209:=zA (Kd.N_lower ho27 (zT (zz HB)));replace HB:=zA (zJb (zz HB) hb);clear hb ho27)))
         go_loopg [8,9] kj15 (fun kq v8 v9 w' => ∃ (x8_4 : List (List Int)) (x9_4 : Int),v9 = .int .i64 x9_4 ∧ Aside0 (spec_l6Sort.l2 kq l0 a1 x5_1 x6_1 x7_5 x8_4 x9_4 = some r) ∧ Aside0 (kq ≤ kj15) ∧ Aside0 (Kd.N (Kd.slice 3 (Kd.int .i64)) 22 w' w.heap.size (fun k_ => (w.heap.size ≤ k_) ∧ some k_ ≠ (v8 : Value).ownBlock) (.slice Ao7 x5_1.length co7) x5_1) ∧ Aside0 (Kd.N (Kd.slice 3 (Kd.int .i64)) 22 w' w.heap.size (fun k_ => (w.heap.size ≤ k_) ∧ some k_ ≠ ((.slice Ao7 x5_1.length co7) : Value).ownBlock) v8 x8_4) ∧ Aside0 (Below w.heap.size w w'))
         case atStart => exact ⟨(y207),(0),za,H',⟨Nat.le_refl _⟩,⟨by (with_reducible repeat (first|apply Kd.N_alloc|apply Kd.N_drewN|apply Kd.N_drew));exact HO_5.out⟩,⟨by (with_reducible repeat (first|apply Kd.N_alloc|apply Kd.N_drewN|apply Kd.N_drew));exact HO209.out⟩,⟨zz HB⟩⟩
         case round =>
          clear H';(try clear c1);(try clear c2);(try clear p2);(try clear q2);(try clear hx2);(try clear c3);(try clear c5);(try clear c5b0);(try clear p6);(try clear c8);(try clear c8b0);(try clear c9);(try clear c9b0);(try clear c10);(try clear c10b0);(try clear c12);(try clear c12b0);(try clear c13);(try clear c13b0);(try clear c15);(try clear c17);(try clear c18);(try clear c18b0);(try clear c20);(try clear c20b0);(try clear p20);(try clear q20);(try clear hx20);(try clear c21);(try clear c21b0);(try clear c22);(try clear c22b0);(try clear c23);(try clear c23b0);(try clear c25);(try clear hx201_0);(try clear hx202_0);(try clear hx204_0);(try clear hx205_0);(try clear p2);(try clear p20);(try clear p201);(try clear p202);(try clear p204);(try clear p205);(try clear p6);(try clear q2);(try clear q20);(try clear q201);(try clear q202);(try clear q204);(try clear q205);obtain ⟨x8_4,x9_4,rfl,HA,HK4,HO_5,HO_8,HB⟩:=hrel
          cases gk with
          | zero => exact absurd HA.out (by simp [spec_l6Sort.l2])
          | succ k4 =>
           have H:=HA.out;clear HA;simp only [spec_l6Sort.l2] at H
           by_cases c28 : x9_4 < x7_5
           ·
            rw [if_pos c28] at H;have c28b0:=decide_eq_true c28;clear c28
            by_cases c29 : 0 ≤ x9_4
            ·
             rw [if_pos c29] at H;have c29b0:=decide_eq_true c29;clear c29
             by_cases c30 : x9_4 < (x5_1.length : Int)
             ·
              rw [if_pos c30] at H;have c30b0:=decide_eq_true c30;clear c30
              by_cases c31 : x8_4.length < 5864062014805
              ·
               rw [if_pos c31] at H;have LMc31:=zA c31;clear c31;obtain ⟨y211,hy211⟩ : ∃ y_ : List (List Int),y_ = (x8_4 ++ [rd_L1 x5_1 x9_4]):=⟨_,rfl⟩
               replace H : (spec_l6Sort.l2 k4 l0 a1 x5_1 x6_1 x7_5 y211 (wrap64 (x9_4 + 1))) = some r:=by first|(rw [hy211];with_reducible exact H)|(have H2_:=(Option.bind_some _ _).symm.trans H;rw [hy211];with_reducible exact H2_)|(have H2_:=(Option.bind_some _ _).symm.trans H;with_reducible exact H2_)|with_reducible exact H|(rw [hy211];exact H)|exact H
               have Ny211:=zA hy211;clear hy211
               have H':=zA H
               clear H;have p210 : 0 ≤ (x9_4 : Int):=zXb ze;have q210 : x9_4 < (x5_1.length : Int):=zXb ze;obtain ⟨ad210,A210_0,c210_0,e210,hx210_0,hl210_0,hi210_0⟩:=at_L1 (Kd.N_reads' HO_5.out).2.2 x9_4 p210 q210
               cases e210
               obtain ⟨ce210,hce210,hMe210,hcc210⟩:=Kd.N_get HO_5.out [] x9_4 p210 (by first|exact q210|exact zXb ze|(have e_:=(Kd.N_reads' HO_5.out).1;omega));obtain ⟨ua210_0,uc210_0,rfl,ul210_0,ge210_0⟩:=Kd.FK_slice_open hMe210;have hv210_0:=hcc210 0 _ rfl;rw [Nat.add_zero,show ((Kd.slice 3 (Kd.int .i64))).sz = 1 from rfl,Nat.mul_one] at hv210_0;replace hv210_0:=Option.some.inj (hv210_0.symm.trans hx210_0)
               injection hv210_0 with hva_ hvn_ hvc_
               rw [hva_] at ge210_0;rw [hvc_] at ul210_0;have HL210_0:=zA (show Kd.V (Kd.int .i64) 3 _ w.heap.size _ _ (rd_L1 x5_1 x9_4) from Kd.V_mk ul210_0 ge210_0);clear hva_ hvn_ hvc_ ge210_0 ul210_0;clear hcc210 hce210;have HR210_0:=zA hi210_0;have HC210_0:=zA hl210_0;clear hi210_0 hl210_0;replace p210:=eq_true p210;replace q210:=eq_true q210
               go_wp2_with (first|((with_reducible refine gate_builtin (b:=.append) (xs:=#[.tmp 59,.tmp 64]) rfl ?_);at_builtin;refine Kd.N_append (Kd.slice 3 (Kd.int .i64)) (w0:=w) w.heap.size rfl (.tmp 59) (.tmp 64) 32 22 (.slice none 0 0) 24 rfl Tryz.underlying32 info22 rfl (by decide) (by omega) u8 x8_4 (rd_L1 x5_1 x9_4) [.slice A210_0 (rd_L1 x5_1 x9_4).length c210_0] (fun k_ => (w.heap.size ≤ k_) ∧ some k_ ≠ (.slice (some ad210) x5_1.length co7 : Value).ownBlock) (fun k_ => ((fun k_ => (w.heap.size ≤ k_) ∧ some k_ ≠ (.slice (some ad210) x5_1.length co7 : Value).ownBlock)) k_ ∧ some k_ ≠ (u8 : Value).ownBlock) rfl rfl ?aP (fun _ hk => hk) ?aF ?aO ?aB ?aS ?aL ?_;(case aP => exact (Kd.FK_slice_mk (Kd.V_reads' (Kd.V_mono (ok':=(fun k_ => ((fun k_ => (w.heap.size ≤ k_) ∧ some k_ ≠ (.slice (some ad210) x5_1.length co7 : Value).ownBlock)) k_ ∧ some k_ ≠ (u8 : Value).ownBlock)) (HL210_0.out) (fun k_ hk => ⟨⟨hk.1.1,hk.2⟩,hk.1.2⟩))).2.1 (Kd.V_F (Kd.V_mono (ok':=(fun k_ => ((fun k_ => (w.heap.size ≤ k_) ∧ some k_ ≠ (.slice (some ad210) x5_1.length co7 : Value).ownBlock)) k_ ∧ some k_ ≠ (u8 : Value).ownBlock)) (HL210_0.out) (fun k_ hk => ⟨⟨hk.1.1,hk.2⟩,hk.1.2⟩)))));(case aB => exact (zz HB));(case aF => exact (fun k_ hk => ⟨(Nat.le_trans (zT (zz HB)) hk),Kd.fresh' (Kd.N_lt (by (with_reducible repeat (first|apply Kd.N_alloc|apply Kd.N_drewN|apply Kd.N_drew));exact HO_5.out)) k_ hk⟩));(case aO => exact (by (with_reducible repeat (first|apply Kd.N_alloc|apply Kd.N_drewN|apply Kd.N_drew));exact HO_8.out));(case aS => exact (zT (zz HB)));(case aL => have:=LMc31.out;omega);intro v212 w32 ho hb hg hat;rw [← Ny211.out] at ho;replace HO_5:=zA (Kd.N_afterv (ok:=(fun k_ => (w.heap.size ≤ k_))) (by (with_reducible repeat (first|apply Kd.N_alloc|apply Kd.N_drewN|apply Kd.N_drew));exact HO_5.out) hg hat);replace HL210_0:=zA (Kd.V_afterv (ok:=(fun k_ => (w.heap.size ≤ k_) ∧ some k_ ≠ (.slice (some ad210) x5_1.length co7 : Value).ownBlock)) (by (with_reducible repeat (first|apply Kd.V_alloc|apply Kd.V_drewN|apply Kd.V_drew));exact Kd.V_mono HL210_0.out (fun _ hk => ⟨⟨hk.1.1,hk.2⟩,hk.1.2⟩)) hg hat);replace HB:=zA (hb);have HO213:=zA (ho);clear HO_8;clear ho hb hg hat))
               repeat (go_quiet (first|((with_reducible refine gate_builtin (b:=.append) (xs:=#[.tmp 59,.tmp 64]) rfl ?_);at_builtin;refine Kd.N_append (Kd.slice 3 (Kd.int .i64)) (w0:=w) w.heap.size rfl (.tmp 59) (.tmp 64) 32 22 (.slice none 0 0) 24 rfl Tryz.underlying32 info22 rfl (by decide) (by omega) u8 x8_4 (rd_L1 x5_1 x9_4) [.slice A210_0 (rd_L1 x5_1 x9_4).length c210_0] (fun k_ => (w.heap.size ≤ k_) ∧ some k_ ≠ (.slice (some ad210) x5_1.length co7 : Value).ownBlock) (fun k_ => ((fun k_ => (w.heap.size ≤ k_) ∧ some k_ ≠ (.slice (some ad210) x5_1.length co7 : Value).ownBlock)) k_ ∧ some k_ ≠ (u8 : Value).ownBlock) rfl rfl ?aP (fun _ hk => hk) ?aF ?aO ?aB ?aS ?aL ?_;(case aP => exact (Kd.FK_slice_mk (Kd.V_reads' (Kd.V_mono (ok':=(fun k_ => ((fun k_ => (w.heap.size ≤ k_) ∧ some k_ ≠ (.slice (some ad210) x5_1.length co7 : Value).ownBlock)) k_ ∧ some k_ ≠ (u8 : Value).ownBlock)) (HL210_0.out) (fun k_ hk => ⟨⟨hk.1.1,hk.2⟩,hk.1.2⟩))).2.1 (Kd.V_F (Kd.V_mono (ok':=(fun k_ => ((fun k_ => (w.heap.size ≤ k_) ∧ some k_ ≠ (.slice (some ad210) x5_1.length co7 : Value).ownBlock)) k_ ∧ some k_ ≠ (u8 : Value).ownBlock)) (HL210_0.out) (fun k_ hk => ⟨⟨hk.1.1,hk.2⟩,hk.1.2⟩)))));(case aB => exact (zz HB));(case aF => exact (fun k_ hk => ⟨(Nat.le_trans (zT (zz HB)) hk),Kd.fresh' (Kd.N_lt (by (with_reducible repeat (first|apply Kd.N_alloc|apply Kd.N_drewN|apply Kd.N_drew));exact HO_5.out)) k_ hk⟩));(case aO => exact (by (with_reducible repeat (first|apply Kd.N_alloc|apply Kd.N_drewN|apply Kd.N_drew));exact HO_8.out));(case aS => exact (zT (zz HB)));(case aL => have:=LMc31.out;omega);intro v212 w32 ho hb hg hat;rw [← Ny211.out] at ho;replace HO_5:=zA (Kd.N_afterv (ok:=(fun k_ => (w.heap.size ≤ k_))) (by (with_reducible repeat (first|apply Kd.N_alloc|apply Kd.N_drewN|apply Kd.N_drew));exact HO_5.out) hg hat);replace HL210_0:=zA (Kd.V_afterv (ok:=(fun k_ => (w.heap.size ≤ k_) ∧ some k_ ≠ (.slice (some ad210) x5_1.length co7 : Value).ownBlock)) (by (with_reducible repeat (first|apply Kd.V_alloc|apply Kd.V_drewN|apply Kd.V_drew));exact Kd.V_mono HL210_0.out (fun _ hk => ⟨⟨hk.1.1,hk.2⟩,hk.1.2⟩)) hg hat);replace HB:=zA (hb);have HO213:=zA (ho);clear HO_8;clear ho hb hg hat));try go_wp2_with (first|((with_reducible refine gate_builtin (b:=.append) (xs:=#[.tmp 59,.tmp 64]) rfl ?_);at_builtin;refine Kd.N_append (Kd.slice 3 (Kd.int .i64)) (w0:=w) w.heap.size rfl (.tmp 59) (.tmp 64) 32 22 (.slice none 0 0) 24 rfl Tryz.underlying32 info22 rfl (by decide) (by omega) u8 x8_4 (rd_L1 x5_1 x9_4) [.slice A210_0 (rd_L1 x5_1 x9_4).length c210_0] (fun k_ => (w.heap.size ≤ k_) ∧ some k_ ≠ (.slice (some ad210) x5_1.length co7 : Value).ownBlock) (fun k_ => ((fun k_ => (w.heap.size ≤ k_) ∧ some k_ ≠ (.slice (some ad210) x5_1.length co7 : Value).ownBlock)) k_ ∧ some k_ ≠ (u8 : Value).ownBlock) rfl rfl ?aP (fun _ hk => hk) ?aF ?aO ?aB ?aS ?aL ?_;(case aP => exact (Kd.FK_slice_mk (Kd.V_reads' (Kd.V_mono (ok':=(fun k_ => ((fun k_ => (w.heap.size ≤ k_) ∧ some k_ ≠ (.slice (some ad210) x5_1.length co7 : Value).ownBlock)) k_ ∧ some k_ ≠ (u8 : Value).ownBlock)) (HL210_0.out) (fun k_ hk => ⟨⟨hk.1.1,hk.2⟩,hk.1.2⟩))).2.1 (Kd.V_F (Kd.V_mono (ok':=(fun k_ => ((fun k_ => (w.heap.size ≤ k_) ∧ some k_ ≠ (.slice (some ad210) x5_1.length co7 : Value).ownBlock)) k_ ∧ some k_ ≠ (u8 : Value).ownBlock)) (HL210_0.out) (fun k_ hk => ⟨⟨hk.1.1,hk.2⟩,hk.1.2⟩)))));(case aB => exact (zz HB));(case aF => exact (fun k_ hk => ⟨(Nat.le_trans (zT (zz HB)) hk),Kd.fresh' (Kd.N_lt (by (with_reducible repeat (first|apply Kd.N_alloc|apply Kd.N_drewN|apply Kd.N_drew));exact HO_5.out)) k_ hk⟩));(case aO => exact (by (with_reducible repeat (first|apply Kd.N_alloc|apply Kd.N_drewN|apply Kd.N_drew));exact HO_8.out));(case aS => exact (zT (zz HB)));(case aL => have:=LMc31.out;omega);intro v212 w32 ho hb hg hat;rw [← Ny211.out] at ho;replace HO_5:=zA (Kd.N_afterv (ok:=(fun k_ => (w.heap.size ≤ k_))) (by (with_reducible repeat (first|apply Kd.N_alloc|apply Kd.N_drewN|apply Kd.N_drew));exact HO_5.out) hg hat);replace HL210_0:=zA (Kd.V_afterv (ok:=(fun k_ => (w.heap.size ≤ k_) ∧ some k_ ≠ (.slice (some ad210) x5_1.length co7 : Value).ownBlock)) (by (with_reducible repeat (first|apply Kd.V_alloc|apply Kd.V_drewN|apply Kd.V_drew));exact Kd.V_mono HL210_0.out (fun _ hk => ⟨⟨hk.1.1,hk.2⟩,hk.1.2⟩)) hg hat);replace HB:=zA (hb);have HO213:=zA (ho);clear HO_8;clear ho hb hg hat)))
               go_roundg k4
               case measure => have:=HK1.out;have:=HJ5.out;have:=HJ15.out;have:=HK4.out;omega
               case rel => exact ⟨(y211),(wrap64 (x9_4 + 1)),za,H',⟨by have:=HK1.out;have:=HJ5.out;have:=HJ15.out;have:=HK4.out;omega⟩,⟨by (with_reducible repeat (first|apply Kd.N_alloc|apply Kd.N_drewN|apply Kd.N_drew));exact HO_5.out⟩,⟨by (with_reducible repeat (first|apply Kd.N_alloc|apply Kd.N_drewN|apply Kd.N_drew));exact HO213.out⟩,⟨zz HB⟩⟩
              ·
               rw [if_neg c31] at H
               exact absurd H (by simp)
             ·
              rw [if_neg c30] at H
              exact absurd H (by simp)
            ·
             rw [if_neg c29] at H
             exact absurd H (by simp)
           ·
            rw [if_neg c28] at H;have c28b0:=decide_eq_false c28;clear c28;obtain ⟨y214,hy214⟩ : ∃ y_ : List Int,y_ = (([] : List Int)):=⟨_,rfl⟩
            replace H : (if 0 ≤ x6_1 then (if x6_1 < (l0.length : Int) then (if y214.length + (rd_L1 l0 x6_1).length < 17592186044416 then (if x8_4.length < 5864062014805 then (spec_l6Sort.l3 k4 l0 a1 x5_1 x6_1 (x8_4 ++ [(y214 ++ (rd_L1 l0 x6_1))]) x7_5) else (none)) else (none)) else (none)) else (none)) = some r:=by first|(rw [hy214];with_reducible exact H)|(have H2_:=(Option.bind_some _ _).symm.trans H;rw [hy214];with_reducible exact H2_)|(have H2_:=(Option.bind_some _ _).symm.trans H;with_reducible exact H2_)|with_reducible exact H|(rw [hy214];exact H)|exact H
            have Ny214:=zA hy214;clear hy214
            by_cases c33 : 0 ≤ x6_1
            ·
             rw [if_pos c33] at H;have c33b0:=decide_eq_true c33;clear c33
             by_cases c34 : x6_1 < (l0.length : Int)
             ·
              rw [if_pos c34] at H;have c34b0:=decide_eq_true c34;clear c34
              by_cases c35 : y214.length + (rd_L1 l0 x6_1).length < 17592186044416
              ·
               rw [if_pos c35] at H;have LMc35:=zA c35;clear c35;obtain ⟨y218,hy218⟩ : ∃ y_ : List Int,y_ = (y214 ++ (rd_L1 l0 x6_1)):=⟨_,rfl⟩
               replace H : (if x8_4.length < 5864062014805 then (spec_l6Sort.l3 k4 l0 a1 x5_1 x6_1 (x8_4 ++ [y218]) x7_5) else (none)) = some r:=by first|(rw [hy218];with_reducible exact H)|(have H2_:=(Option.bind_some _ _).symm.trans H;rw [hy218];with_reducible exact H2_)|(have H2_:=(Option.bind_some _ _).symm.trans H;with_reducible exact H2_)|with_reducible exact H|(rw [hy218];exact H)|exact H
               have Ny218:=zA hy218;clear hy218
               by_cases c36 : x8_4.length < 5864062014805
               ·
                rw [if_pos c36] at H;have LMc36:=zA c36;clear c36;obtain ⟨y221,hy221⟩ : ∃ y_ : List (List Int),y_ = (x8_4 ++ [y218]):=⟨_,rfl⟩
                replace H : (spec_l6Sort.l3 k4 l0 a1 x5_1 x6_1 y221 x7_5) = some r:=by first|(rw [hy221];with_reducible exact H)|(have H2_:=(Option.bind_some _ _).symm.trans H;rw [hy221];with_reducible exact H2_)|(have H2_:=(Option.bind_some _ _).symm.trans H;with_reducible exact H2_)|with_reducible exact H|(rw [hy221];exact H)|exact H
                have Ny221:=zA hy221;clear hy221
                have H':=zA H
                clear H
                go_wp2_with (first|((with_reducible refine gate_dst (N:=67) rfl ?_);refine Kd.R_lit (Kd.int .i64) _ 3 ?hg (N:=67) ?hd (xs:=([] : List Int)) (inner:=[]) (ok:=fun _ => True) (okp:=fun _ => True) ?hr ?hp (fun _ hk => hk) trivial (Below.refl _ _) (Nat.le_refl _) (by simp) ?_;(case hd => rfl);(case hg => rfl);(case hr => first|(go_simp;done)|(go_simp;rfl));(case hp => exact (Reps.none _ _));intro v215 w37 ho38 hb hg_ hnew_;clear hg_ hnew_;(first|rw [← Ny214.out] at ho38|(simp only [Int.reduceToNat] at ho38;rw [← Ny214.out] at ho38));replace HO_5:=zA (Kd.N_elder' (by (with_reducible repeat (first|apply Kd.N_alloc|apply Kd.N_drewN|apply Kd.N_drew));exact HO_5.out) (zW ho38) hb);replace HO_8:=zA (Kd.N_elder' (by (with_reducible repeat (first|apply Kd.N_alloc|apply Kd.N_drewN|apply Kd.N_drew));exact HO_8.out) (zW ho38) hb);have HO216:=zA (zHb (Kd.R_newM (M:=fun k_ => (w.heap.size ≤ k_)) ho38 (zT (zz HB)) (fun k_ h_ => h_)) (zT (zz HB)));replace HB:=zA (zJb (zz HB) hb);clear hb ho38;have p217 : 0 ≤ (x6_1 : Int):=zXb ze;have q217 : x6_1 < (l0.length : Int):=zXb ze;obtain ⟨ad217,A217_0,c217_0,e217,hx217_0,hl217_0,hi217_0⟩:=at_L1 HR0.out x6_1 p217 q217;cases e217;replace hx217_0:=(HB.out.cell (World.block_lt_of_cell? w _ hx217_0)).trans hx217_0;have HR217_0:=zA hi217_0;have HC217_0:=zA hl217_0;clear hi217_0 hl217_0;replace p217:=eq_true p217;replace q217:=eq_true q217)|((with_reducible refine gate_builtin (b:=.append) (xs:=#[.tmp 67,.tmp 71]) rfl ?_);at_builtin;refine Kd.R_append_rows (Kd.int .i64) (w0:=w) w.heap.size rfl (.tmp 67) (.tmp 71) 22 3 (.int .i64 0) 8 rfl Tryz.underlying22 info3 rfl (by decide) (by omega) v215 y214 (rd_L1 l0 x6_1) _ _ _ (fun k_ => (w.heap.size ≤ k_)) (fun _ => False) rfl rfl ?aO ?aR (fun _ _ h => h) (fun _ h => h.elim) ?aF ?aB ?aS ?aL ?_;(case aR => exact zsd HR217_0 HB);(case aB => exact (zz HB));(case aF => exact (fun k_ hk => (Nat.le_trans (zT (zz HB)) hk)));(case aO => exact (by (with_reducible repeat (first|apply zE|apply zD|apply zH));exact zGb HO216.out (fun _ hk => hk.1)));(case aS => exact (zT (zz HB)));(case aL => have:=LMc35.out;omega);intro v219 w39 ho hb hg hat;rw [← Ny218.out] at ho;replace HO_5:=zA (Kd.N_afterv (ok:=(fun k_ => (w.heap.size ≤ k_) ∧ some k_ ≠ (u8 : Value).ownBlock)) (by (with_reducible repeat (first|apply Kd.N_alloc|apply Kd.N_drewN|apply Kd.N_drew));exact HO_5.out) hg hat);replace HO_8:=zA (Kd.N_afterv (ok:=(fun k_ => (w.heap.size ≤ k_) ∧ some k_ ≠ (.slice Ao7 x5_1.length co7 : Value).ownBlock)) (by (with_reducible repeat (first|apply Kd.N_alloc|apply Kd.N_drewN|apply Kd.N_drew));exact HO_8.out) hg hat);replace HB:=zA (hb);have HO220:=zA (ho);clear HO216;clear ho hb hg hat;obtain ⟨Ao41,co41,eo41⟩:=Kd.R_slice HO220.out;subst eo41)|((with_reducible refine gate_builtin (b:=.append) (xs:=#[.tmp 66,.tmp 73]) rfl ?_);at_builtin;refine Kd.N_append (Kd.slice 3 (Kd.int .i64)) (w0:=w) w.heap.size rfl (.tmp 66) (.tmp 73) 32 22 (.slice none 0 0) 24 rfl Tryz.underlying32 info22 rfl (by decide) (by omega) u8 x8_4 y218 [.slice Ao41 y218.length co41] (fun k_ => (w.heap.size ≤ k_) ∧ some k_ ≠ (.slice Ao7 x5_1.length co7 : Value).ownBlock) (fun k_ => ((fun k_ => (w.heap.size ≤ k_) ∧ some k_ ≠ (.slice Ao7 x5_1.length co7 : Value).ownBlock)) k_ ∧ some k_ ≠ (u8 : Value).ownBlock) rfl rfl ?aP (fun _ hk => hk) ?aF ?aO ?aB ?aS ?aL ?_;(case aP => exact (Kd.FK_slice_mk (Kd.R_reads' (zGb (ok':=(fun k_ => ((fun k_ => (w.heap.size ≤ k_) ∧ some k_ ≠ (.slice Ao7 x5_1.length co7 : Value).ownBlock)) k_ ∧ some k_ ≠ (u8 : Value).ownBlock)) (Kd.R_apart' (Kd.R_apart' (HO220.out) (Kd.N_typed HO_5.out) (by decide)) (Kd.N_typed HO_8.out) (by decide)) (fun k_ hk => ⟨⟨hk.1.1,hk.1.2⟩,hk.2⟩))).2.1 (Kd.R_F (zGb (ok':=(fun k_ => ((fun k_ => (w.heap.size ≤ k_) ∧ some k_ ≠ (.slice Ao7 x5_1.length co7 : Value).ownBlock)) k_ ∧ some k_ ≠ (u8 : Value).ownBlock)) (Kd.R_apart' (Kd.R_apart' (HO220.out) (Kd.N_typed HO_5.out) (by decide)) (Kd.N_typed HO_8.out) (by decide)) (fun k_ hk => ⟨⟨hk.1.1,hk.1.2⟩,hk.2⟩)))));(case aB => exact (zz HB));(case aF => exact (fun k_ hk => ⟨(Nat.le_trans (zT (zz HB)) hk),Kd.fresh' (Kd.N_lt (by (with_reducible repeat (first|apply Kd.N_alloc|apply Kd.N_drewN|apply Kd.N_drew));exact HO_5.out)) k_ hk⟩));(case aO => exact (by (with_reducible repeat (first|apply Kd.N_alloc|apply Kd.N_drewN|apply Kd.N_drew));exact Kd.N_mono HO_8.out (fun _ hk => ⟨hk.1.1,hk.1.2⟩)));(case aS => exact (zT (zz HB)));(case aL => have:=LMc36.out;omega);intro v222 w40 ho hb hg hat;rw [← Ny221.out] at ho;replace HO_5:=zA (Kd.N_afterv (ok:=(fun k_ => (w.heap.size ≤ k_) ∧ some k_ ≠ (.slice Ao41 y218.length co41 : Value).ownBlock)) (by (with_reducible repeat (first|apply Kd.N_alloc|apply Kd.N_drewN|apply Kd.N_drew));exact Kd.N_mono HO_5.out (fun _ hk => ⟨⟨hk.1.1,hk.2⟩,hk.1.2⟩)) hg hat);replace HB:=zA (hb);have HO223:=zA (ho);clear HO_8 HO220;clear ho hb hg hat))
                repeat (go_quiet (first|((with_reducible refine gate_dst (N:=67) rfl ?_);refine Kd.R_lit (Kd.int .i64) _ 3 ?hg (N:=67) ?hd (xs:=([] : List Int)) (inner:=[]) (ok:=fun _ => True) (okp:=fun _ => True) ?hr ?hp (fun _ hk => hk) trivial (Below.refl _ _) (Nat.le_refl _) (by simp) ?_;(case hd => rfl);(case hg => rfl);(case hr => first|(go_simp;done)|(go_simp;rfl));(case hp => exact (Reps.none _ _));intro v215 w37 ho38 hb hg_ hnew_;clear hg_ hnew_;(first|rw [← Ny214.out] at ho38|(simp only [Int.reduceToNat] at ho38;rw [← Ny214.out] at ho38));replace HO_5:=zA (Kd.N_elder' (by (with_reducible repeat (first|apply Kd.N_alloc|apply Kd.N_drewN|apply Kd.N_drew));exact HO_5.out) (zW ho38) hb);replace HO_8:=zA (Kd.N_elder' (by (with_reducible repeat (first|apply Kd.N_alloc|apply Kd.N_drewN|apply Kd.N_drew));exact HO_8.out) (zW ho38) hb);have HO216:=zA (zHb (Kd.R_newM (M:=fun k_ => (w.heap.size ≤ k_)) ho38 (zT (zz HB)) (fun k_ h_ => h_)) (zT (zz HB)));replace HB:=zA (zJb (zz HB) hb);clear hb ho38;have p217 : 0 ≤ (x6_1 : Int):=zXb ze;have q217 : x6_1 < (l0.length : Int):=zXb ze;obtain ⟨ad217,A217_0,c217_0,e217,hx217_0,hl217_0,hi217_0⟩:=at_L1 HR0.out x6_1 p217 q217;cases e217;replace hx217_0:=(HB.out.cell (World.block_lt_of_cell? w _ hx217_0)).trans hx217_0;have HR217_0:=zA hi217_0;have HC217_0:=zA hl217_0;clear hi217_0 hl217_0;replace p217:=eq_true p217;replace q217:=eq_true q217)|((with_reducible refine gate_builtin (b:=.append) (xs:=#[.tmp 67,.tmp 71]) rfl ?_);at_builtin;refine Kd.R_append_rows (Kd.int .i64) (w0:=w) w.heap.size rfl (.tmp 67) (.tmp 71) 22 3 (.int .i64 0) 8 rfl Tryz.underlying22 info3 rfl (by decide) (by omega) v215 y214 (rd_L1 l0 x6_1) _ _ _ (fun k_ => (w.heap.size ≤ k_)) (fun _ => False) rfl rfl ?aO ?aR (fun _ _ h => h) (fun _ h => h.elim) ?aF ?aB ?aS ?aL ?_;(case aR => exact zsd HR217_0 HB);(case aB => exact (zz HB));(case aF => exact (fun k_ hk => (Nat.le_trans (zT (zz HB)) hk)));(case aO => exact (by (with_reducible repeat (first|apply zE|apply zD|apply zH));exact zGb HO216.out (fun _ hk => hk.1)));(case aS => exact (zT (zz HB)));(case aL => have:=LMc35.out;omega);intro v219 w39 ho hb hg hat;rw [← Ny218.out] at ho;replace HO_5:=zA (Kd.N_afterv (ok:=(fun k_ => (w.heap.size ≤ k_) ∧ some k_ ≠ (u8 : Value).ownBlock)) (by (with_reducible repeat (first|apply Kd.N_alloc|apply Kd.N_drewN|apply Kd.N_drew));exact HO_5.out) hg hat);replace HO_8:=zA (Kd.N_afterv (ok:=(fun k_ => (w.heap.size ≤ k_) ∧ some k_ ≠ (.slice Ao7 x5_1.length co7 : Value).ownBlock)) (by (with_reducible repeat (first|apply Kd.N_alloc|apply Kd.N_drewN|apply Kd.N_drew));exact HO_8.out) hg hat);replace HB:=zA (hb);have HO220:=zA (ho);clear HO216;clear ho hb hg hat;obtain ⟨Ao41,co41,eo41⟩:=Kd.R_slice HO220.out;subst eo41)|((with_reducible refine gate_builtin (b:=.append) (xs:=#[.tmp 66,.tmp 73]) rfl ?_);at_builtin;refine Kd.N_append (Kd.slice 3 (Kd.int .i64)) (w0:=w) w.heap.size rfl (.tmp 66) (.tmp 73) 32 22 (.slice none 0 0) 24 rfl Tryz.underlying32 info22 rfl (by decide) (by omega) u8 x8_4 y218 [.slice Ao41 y218.length co41] (fun k_ => (w.heap.size ≤ k_) ∧ some k_ ≠ (.slice Ao7 x5_1.length co7 : Value).ownBlock) (fun k_ => ((fun k_ => (w.heap.size ≤ k_) ∧ some k_ ≠ (.slice Ao7 x5_1.length co7 : Value).ownBlock)) k_ ∧ some k_ ≠ (u8 : Value).ownBlock) rfl rfl ?aP (fun _ hk => hk) ?aF ?aO ?aB ?aS ?aL ?_;(case aP => exact (Kd.FK_slice_mk (Kd.R_reads' (zGb (ok':=(fun k_ => ((fun k_ => (w.heap.size ≤ k_) ∧ some k_ ≠ (.slice Ao7 x5_1.length co7 : Value).ownBlock)) k_ ∧ some k_ ≠ (u8 : Value).ownBlock)) (Kd.R_apart' (Kd.R_apart' (HO220.out) (Kd.N_typed HO_5.out) (by decide)) (Kd.N_typed HO_8.out) (by decide)) (fun k_ hk => ⟨⟨hk.1.1,hk.1.2⟩,hk.2⟩))).2.1 (Kd.R_F (zGb (ok':=(fun k_ => ((fun k_ => (w.heap.size ≤ k_) ∧ some k_ ≠ (.slice Ao7 x5_1.length co7 : Value).ownBlock)) k_ ∧ some k_ ≠ (u8 : Value).ownBlock)) (Kd.R_apart' (Kd.R_apart' (HO220.out) (Kd.N_typed HO_5.out) (by decide)) (Kd.N_typed HO_8.out) (by decide)) (fun k_ hk => ⟨⟨hk.1.1,hk.1.2⟩,hk.2⟩)))));(case aB => exact (zz HB));(case aF => exact (fun k_ hk => ⟨(Nat.le_trans (zT (zz HB)) hk),Kd.fresh' (Kd.N_lt (by (with_reducible repeat (first|apply Kd.N_alloc|apply Kd.N_drewN|apply Kd.N_drew));exact HO_5.out)) k_ hk⟩));(case aO => exact (by (with_reducible repeat (first|apply Kd.N_alloc|apply Kd.N_drewN|apply Kd.N_drew));exact Kd.N_mono HO_8.out (fun _ hk => ⟨hk.1.1,hk.1.2⟩)));(case aS => exact (zT (zz HB)));(case aL => have:=LMc36.out;omega);intro v222 w40 ho hb hg hat;rw [← Ny221.out] at ho;replace HO_5:=zA (Kd.N_afterv (ok:=(fun k_ => (w.heap.size ≤ k_) ∧ some k_ ≠ (.slice Ao41 y218.length co41 : Value).ownBlock)) (by (with_reducible repeat (first|apply Kd.N_alloc|apply Kd.N_drewN|apply Kd.N_drew));exact Kd.N_mono HO_5.out (fun _ hk => ⟨⟨hk.1.1,hk.2⟩,hk.1.2⟩)) hg hat);replace HB:=zA (hb);have HO223:=zA (ho);clear HO_8 HO220;clear ho hb hg hat));try go_wp2_with (first|((with_reducible refine gate_dst (N:=67) rfl ?_);refine Kd.R_lit (Kd.int .i64) _ 3 ?hg (N:=67) ?hd (xs:=([] : List Int)) (inner:=[]) (ok:=fun _ => True) (okp:=fun _ => True) ?hr ?hp (fun _ hk => hk) trivial (Below.refl _ _) (Nat.le_refl _) (by simp) ?_;(case hd => rfl);(case hg => rfl);(case hr => first|(go_simp;done)|(go_simp;rfl));(case hp => exact (Reps.none _ _));intro v215 w37 ho38 hb hg_ hnew_;clear hg_ hnew_;(first|rw [← Ny214.out] at ho38|(simp only [Int.reduceToNat] at ho38;rw [← Ny214.out] at ho38));replace HO_5:=zA (Kd.N_elder' (by (with_reducible repeat (first|apply Kd.N_alloc|apply Kd.N_drewN|apply Kd.N_drew));exact HO_5.out) (zW ho38) hb);replace HO_8:=zA (Kd.N_elder' (by (with_reducible repeat (first|apply Kd.N_alloc|apply Kd.N_drewN|apply Kd.N_drew));exact HO_8.out) (zW ho38) hb);have HO216:=zA (zHb (Kd.R_newM (M:=fun k_ => (w.heap.size ≤ k_)) ho38 (zT (zz HB)) (fun k_ h_ => h_)) (zT (zz HB)));replace HB:=zA (zJb (zz HB) hb);clear hb ho38;have p217 : 0 ≤ (x6_1 : Int):=zXb ze;have q217 : x6_1 < (l0.length : Int):=zXb ze;obtain ⟨ad217,A217_0,c217_0,e217,hx217_0,hl217_0,hi217_0⟩:=at_L1 HR0.out x6_1 p217 q217;cases e217;replace hx217_0:=(HB.out.cell (World.block_lt_of_cell? w _ hx217_0)).trans hx217_0;have HR217_0:=zA hi217_0;have HC217_0:=zA hl217_0;clear hi217_0 hl217_0;replace p217:=eq_true p217;replace q217:=eq_true q217)|((with_reducible refine gate_builtin (b:=.append) (xs:=#[.tmp 67,.tmp 71]) rfl ?_);at_builtin;refine Kd.R_append_rows (Kd.int .i64) (w0:=w) w.heap.size rfl (.tmp 67) (.tmp 71) 22 3 (.int .i64 0) 8 rfl Tryz.underlying22 info3 rfl (by decide) (by omega) v215 y214 (rd_L1 l0 x6_1) _ _ _ (fun k_ => (w.heap.size ≤ k_)) (fun _ => False) rfl rfl ?aO ?aR (fun _ _ h => h) (fun _ h => h.elim) ?aF ?aB ?aS ?aL ?_;(case aR => exact zsd HR217_0 HB);(case aB => exact (zz HB));(case aF => exact (fun k_ hk => (Nat.le_trans (zT (zz HB)) hk)));(case aO => exact (by (with_reducible repeat (first|apply zE|apply zD|apply zH));exact zGb HO216.out (fun _ hk => hk.1)));(case aS => exact (zT (zz HB)));(case aL => have:=LMc35.out;omega);intro v219 w39 ho hb hg hat;rw [← Ny218.out] at ho;replace HO_5:=zA (Kd.N_afterv (ok:=(fun k_ => (w.heap.size ≤ k_) ∧ some k_ ≠ (u8 : Value).ownBlock)) (by (with_reducible repeat (first|apply Kd.N_alloc|apply Kd.N_drewN|apply Kd.N_drew));exact HO_5.out) hg hat);replace HO_8:=zA (Kd.N_afterv (ok:=(fun k_ => (w.heap.size ≤ k_) ∧ some k_ ≠ (.slice Ao7 x5_1.length co7 : Value).ownBlock)) (by (with_reducible repeat (first|apply Kd.N_alloc|apply Kd.N_drewN|apply Kd.N_drew));exact HO_8.out) hg hat);replace HB:=zA (hb);have HO220:=zA (ho);clear HO216;clear ho hb hg hat;obtain ⟨Ao41,co41,eo41⟩:=Kd.R_slice HO220.out;subst eo41)|((with_reducible refine gate_builtin (b:=.append) (xs:=#[.tmp 66,.tmp 73]) rfl ?_);at_builtin;refine Kd.N_append (Kd.slice 3 (Kd.int .i64)) (w0:=w) w.heap.size rfl (.tmp 66) (.tmp 73) 32 22 (.slice none 0 0) 24 rfl Tryz.underlying32 info22 rfl (by decide) (by omega) u8 x8_4 y218 [.slice Ao41 y218.length co41] (fun k_ => (w.heap.size ≤ k_) ∧ some k_ ≠ (.slice Ao7 x5_1.length co7 : Value).ownBlock) (fun k_ => ((fun k_ => (w.heap.size ≤ k_) ∧ some k_ ≠ (.slice Ao7 x5_1.length co7 : Value).ownBlock)) k_ ∧ some k_ ≠ (u8 : Value).ownBlock) rfl rfl ?aP (fun _ hk => hk) ?aF ?aO ?aB ?aS ?aL ?_;(case aP => exact (Kd.FK_slice_mk (Kd.R_reads' (zGb (ok':=(fun k_ => ((fun k_ => (w.heap.size ≤ k_) ∧ some k_ ≠ (.slice Ao7 x5_1.length co7 : Value).ownBlock)) k_ ∧ some k_ ≠ (u8 : Value).ownBlock)) (Kd.R_apart' (Kd.R_apart' (HO220.out) (Kd.N_typed HO_5.out) (by decide)) (Kd.N_typed HO_8.out) (by decide)) (fun k_ hk => ⟨⟨hk.1.1,hk.1.2⟩,hk.2⟩))).2.1 (Kd.R_F (zGb (ok':=(fun k_ => ((fun k_ => (w.heap.size ≤ k_) ∧ some k_ ≠ (.slice Ao7 x5_1.length co7 : Value).ownBlock)) k_ ∧ some k_ ≠ (u8 : Value).ownBlock)) (Kd.R_apart' (Kd.R_apart' (HO220.out) (Kd.N_typed HO_5.out) (by decide)) (Kd.N_typed HO_8.out) (by decide)) (fun k_ hk => ⟨⟨hk.1.1,hk.1.2⟩,hk.2⟩)))));(case aB => exact (zz HB));(case aF => exact (fun k_ hk => ⟨(Nat.le_trans (zT (zz HB)) hk),Kd.fresh' (Kd.N_lt (by (with_reducible repeat (first|apply Kd.N_alloc|apply Kd.N_drewN|apply Kd.N_drew));exact HO_5.out)) k_ hk⟩));(case aO => exact (by (with_reducible repeat (first|apply Kd.N_alloc|apply Kd.N_drewN|apply Kd.N_drew));exact Kd.N_mono HO_8.out (fun _ hk => ⟨hk.1.1,hk.1.2⟩)));(case aS => exact (zT (zz HB)));(case aL => have:=LMc36.out;omega);intro v222 w40 ho hb hg hat;rw [← Ny221.out] at ho;replace HO_5:=zA (Kd.N_afterv (ok:=(fun k_ => (w.heap.size ≤ k_) ∧ some k_ ≠ (.slice Ao41 y218.length co41 : Value).ownBlock)) (by (with_reducible repeat (first|apply Kd.N_alloc|apply Kd.N_drewN|apply Kd.N_drew));exact Kd.N_mono HO_5.out (fun _ hk => ⟨⟨hk.1.1,hk.2⟩,hk.1.2⟩)) hg hat);replace HB:=zA (hb);have HO223:=zA (ho);clear HO_8 HO220;clear ho hb hg hat)))
                go_loopg [8,10] k4 (fun kq v8 v10 w' => ∃ (x8_5 : List (List Int)) (x10_5 : Int),v10 = .int .i64 x10_5 ∧ Aside0 (spec_l6Sort.l3 kq l0 a1 x5_1 x6_1 x8_5 x10_5 = some r) ∧ Aside0 (kq ≤ k4) ∧ Aside0 (Kd.N (Kd.slice 3 (Kd.int .i64)) 22 w' w.heap.size (fun k_ => (w.heap.size ≤ k_) ∧ some k_ ≠ (v8 : Value).ownBlock) (.slice Ao7 x5_1.length co7) x5_1) ∧ Aside0 (Kd.N (Kd.slice 3 (Kd.int .i64)) 22 w' w.heap.size (fun k_ => (w.heap.size ≤ k_) ∧ some k_ ≠ ((.slice Ao7 x5_1.length co7) : Value).ownBlock) v8 x8_5) ∧ Aside0 (Below w.heap.size w w'))
                case atStart => exact ⟨(y221),(x7_5),za,H',⟨Nat.le_refl _⟩,⟨by (with_reducible repeat (first|apply Kd.N_alloc|apply Kd.N_drewN|apply Kd.N_drew));exact Kd.N_mono HO_5.out (fun _ hk => ⟨hk.1.1,hk.2⟩)⟩,⟨by (with_reducible repeat (first|apply Kd.N_alloc|apply Kd.N_drewN|apply Kd.N_drew));exact HO223.out⟩,⟨zz HB⟩⟩
                case round =>
                 clear H';(try clear c1);(try clear c2);(try clear p2);(try clear q2);(try clear hx2);(try clear c3);(try clear c5);(try clear c5b0);(try clear p6);(try clear c8);(try clear c8b0);(try clear c9);(try clear c9b0);(try clear c10);(try clear c10b0);(try clear c12);(try clear c12b0);(try clear c13);(try clear c13b0);(try clear c15);(try clear c17);(try clear c18);(try clear c18b0);(try clear c20);(try clear c20b0);(try clear p20);(try clear q20);(try clear hx20);(try clear c21);(try clear c21b0);(try clear p21);(try clear q21);(try clear hx21);(try clear c22);(try clear c22b0);(try clear c23);(try clear c23b0);(try clear c25);(try clear c28);(try clear c28b0);(try clear c29);(try clear c29b0);(try clear c30);(try clear c30b0);(try clear c31);(try clear c33);(try clear c33b0);(try clear c34);(try clear c34b0);(try clear c35);(try clear c36);(try clear hx201_0);(try clear hx202_0);(try clear hx204_0);(try clear hx205_0);(try clear hx210_0);(try clear hx217_0);(try clear p2);(try clear p20);(try clear p201);(try clear p202);(try clear p204);(try clear p205);(try clear p210);(try clear p217);(try clear p6);(try clear q2);(try clear q20);(try clear q201);(try clear q202);(try clear q204);(try clear q205);(try clear q210);(try clear q217);obtain ⟨x8_5,x10_5,rfl,HA,HK5,HO_5,HO_8,HB⟩:=hrel
                 cases gk with
                 | zero => exact absurd HA.out (by simp [spec_l6Sort.l3])
                 | succ k5 =>
                  have H:=HA.out;clear HA;simp only [spec_l6Sort.l3] at H
                  by_cases c42 : x10_5 < (x5_1.length : Int)
                  ·
                   rw [if_pos c42] at H;have c42b0:=decide_eq_true c42;clear c42
                   by_cases c43 : 0 ≤ x10_5
                   ·
                    rw [if_pos c43] at H;have c43b0:=decide_eq_true c43;clear c43
                    by_cases c44 : x8_5.length < 5864062014805
                    ·
                     rw [if_pos c44] at H;have LMc44:=zA c44;clear c44;obtain ⟨y225,hy225⟩ : ∃ y_ : List (List Int),y_ = (x8_5 ++ [rd_L1 x5_1 x10_5]):=⟨_,rfl⟩
                     replace H : (spec_l6Sort.l3 k5 l0 a1 x5_1 x6_1 y225 (wrap64 (x10_5 + 1))) = some r:=by first|(rw [hy225];with_reducible exact H)|(have H2_:=(Option.bind_some _ _).symm.trans H;rw [hy225];with_reducible exact H2_)|(have H2_:=(Option.bind_some _ _).symm.trans H;with_reducible exact H2_)|with_reducible exact H|(rw [hy225];exact H)|exact H
                     have Ny225:=zA hy225;clear hy225
                     have H':=zA H
                     clear H;have p224 : 0 ≤ (x10_5 : Int):=zXb ze;have q224 : x10_5 < (x5_1.length : Int):=zXb ze;obtain ⟨ad224,A224_0,c224_0,e224,hx224_0,hl224_0,hi224_0⟩:=at_L1 (Kd.N_reads' HO_5.out).2.2 x10_5 p224 q224
                     cases e224
                     obtain ⟨ce224,hce224,hMe224,hcc224⟩:=Kd.N_get HO_5.out [] x10_5 p224 (by first|exact q224|exact zXb ze|(have e_:=(Kd.N_reads' HO_5.out).1;omega));obtain ⟨ua224_0,uc224_0,rfl,ul224_0,ge224_0⟩:=Kd.FK_slice_open hMe224;have hv224_0:=hcc224 0 _ rfl;rw [Nat.add_zero,show ((Kd.slice 3 (Kd.int .i64))).sz = 1 from rfl,Nat.mul_one] at hv224_0;replace hv224_0:=Option.some.inj (hv224_0.symm.trans hx224_0)
                     injection hv224_0 with hva_ hvn_ hvc_
                     rw [hva_] at ge224_0;rw [hvc_] at ul224_0;have HL224_0:=zA (show Kd.V (Kd.int .i64) 3 _ w.heap.size _ _ (rd_L1 x5_1 x10_5) from Kd.V_mk ul224_0 ge224_0);clear hva_ hvn_ hvc_ ge224_0 ul224_0;clear hcc224 hce224;have HR224_0:=zA hi224_0;have HC224_0:=zA hl224_0;clear hi224_0 hl224_0;replace p224:=eq_true p224;replace q224:=eq_true q224
                     go_wp2_with (first|((with_reducible refine gate_builtin (b:=.append) (xs:=#[.tmp 82,.tmp 87]) rfl ?_);at_builtin;refine Kd.N_append (Kd.slice 3 (Kd.int .i64)) (w0:=w) w.heap.size rfl (.tmp 82) (.tmp 87) 32 22 (.slice none 0 0) 24 rfl Tryz.underlying32 info22 rfl (by decide) (by omega) u8 x8_5 (rd_L1 x5_1 x10_5) [.slice A224_0 (rd_L1 x5_1 x10_5).length c224_0] (fun k_ => (w.heap.size ≤ k_) ∧ some k_ ≠ (.slice (some ad224) x5_1.length co7 : Value).ownBlock) (fun k_ => ((fun k_ => (w.heap.size ≤ k_) ∧ some k_ ≠ (.slice (some ad224) x5_1.length co7 : Value).ownBlock)) k_ ∧ some k_ ≠ (u8 : Value).ownBlock) rfl rfl ?aP (fun _ hk => hk) ?aF ?aO ?aB ?aS ?aL ?_;(case aP => exact (Kd.FK_slice_mk (Kd.V_reads' (Kd.V_mono (ok':=(fun k_ => ((fun k_ => (w.heap.size ≤ k_) ∧ some k_ ≠ (.slice (some ad224) x5_1.length co7 : Value).ownBlock)) k_ ∧ some k_ ≠ (u8 : Value).ownBlock)) (HL224_0.out) (fun k_ hk => ⟨⟨hk.1.1,hk.2⟩,hk.1.2⟩))).2.1 (Kd.V_F (Kd.V_mono (ok':=(fun k_ => ((fun k_ => (w.heap.size ≤ k_) ∧ some k_ ≠ (.slice (some ad224) x5_1.length co7 : Value).ownBlock)) k_ ∧ some k_ ≠ (u8 : Value).ownBlock)) (HL224_0.out) (fun k_ hk => ⟨⟨hk.1.1,hk.2⟩,hk.1.2⟩)))));(case aB => exact (zz HB));(case aF => exact (fun k_ hk => ⟨(Nat.le_trans (zT (zz HB)) hk),Kd.fresh' (Kd.N_lt (by (with_reducible repeat (first|apply Kd.N_alloc|apply Kd.N_drewN|apply Kd.N_drew));exact HO_5.out)) k_ hk⟩));(case aO => exact (by (with_reducible repeat (first|apply Kd.N_alloc|apply Kd.N_drewN|apply Kd.N_drew));exact HO_8.out));(case aS => exact (zT (zz HB)));(case aL => have:=LMc44.out;omega);intro v226 w45 ho hb hg hat;rw [← Ny225.out] at ho;replace HO_5:=zA (Kd.N_afterv (ok:=(fun k_ => (w.heap.size ≤ k_))) (by (with_reducible repeat (first|apply Kd.N_alloc|apply Kd.N_drewN|apply Kd.N_drew));exact HO_5.out) hg hat);replace HL224_0:=zA (Kd.V_afterv (ok:=(fun k_ => (w.heap.size ≤ k_) ∧ some k_ ≠ (.slice (some ad224) x5_1.length co7 : Value).ownBlock)) (by (with_reducible repeat (first|apply Kd.V_alloc|apply Kd.V_drewN|apply Kd.V_drew));exact Kd.V_mono HL224_0.out (fun _ hk => ⟨⟨hk.1.1,hk.2⟩,hk.1.2⟩)) hg hat);replace HB:=zA (hb);have HO227:=zA (ho);clear HO_8;clear ho hb hg hat))
                     repeat (go_quiet (first|((with_reducible refine gate_builtin (b:=.append) (xs:=#[.tmp 82,.tmp 87]) rfl ?_);at_builtin;refine Kd.N_append (Kd.slice 3 (Kd.int .i64)) (w0:=w) w.heap.size rfl (.tmp 82) (.tmp 87) 32 22 (.slice none 0 0) 24 rfl Tryz.underlying32 info22 rfl (by decide) (by omega) u8 x8_5 (rd_L1 x5_1 x10_5) [.slice A224_0 (rd_L1 x5_1 x10_5).length c224_0] (fun k_ => (w.heap.size ≤ k_) ∧ some k_ ≠ (.slice (some ad224) x5_1.length co7 : Value).ownBlock) (fun k_ => ((fun k_ => (w.heap.size ≤ k_) ∧ some k_ ≠ (.slice (some ad224) x5_1.length co7 : Value).ownBlock)) k_ ∧ some k_ ≠ (u8 : Value).ownBlock) rfl rfl ?aP (fun _ hk => hk) ?aF ?aO ?aB ?aS ?aL ?_;(case aP => exact (Kd.FK_slice_mk (Kd.V_reads' (Kd.V_mono (ok':=(fun k_ => ((fun k_ => (w.heap.size ≤ k_) ∧ some k_ ≠ (.slice (some ad224) x5_1.length co7 : Value).ownBlock)) k_ ∧ some k_ ≠ (u8 : Value).ownBlock)) (HL224_0.out) (fun k_ hk => ⟨⟨hk.1.1,hk.2⟩,hk.1.2⟩))).2.1 (Kd.V_F (Kd.V_mono (ok':=(fun k_ => ((fun k_ => (w.heap.size ≤ k_) ∧ some k_ ≠ (.slice (some ad224) x5_1.length co7 : Value).ownBlock)) k_ ∧ some k_ ≠ (u8 : Value).ownBlock)) (HL224_0.out) (fun k_ hk => ⟨⟨hk.1.1,hk.2⟩,hk.1.2⟩)))));(case aB => exact (zz HB));(case aF => exact (fun k_ hk => ⟨(Nat.le_trans (zT (zz HB)) hk),Kd.fresh' (Kd.N_lt (by (with_reducible repeat (first|apply Kd.N_alloc|apply Kd.N_drewN|apply Kd.N_drew));exact HO_5.out)) k_ hk⟩));(case aO => exact (by (with_reducible repeat (first|apply Kd.N_alloc|apply Kd.N_drewN|apply Kd.N_drew));exact HO_8.out));(case aS => exact (zT (zz HB)));(case aL => have:=LMc44.out;omega);intro v226 w45 ho hb hg hat;rw [← Ny225.out] at ho;replace HO_5:=zA (Kd.N_afterv (ok:=(fun k_ => (w.heap.size ≤ k_))) (by (with_reducible repeat (first|apply Kd.N_alloc|apply Kd.N_drewN|apply Kd.N_drew));exact HO_5.out) hg hat);replace HL224_0:=zA (Kd.V_afterv (ok:=(fun k_ => (w.heap.size ≤ k_) ∧ some k_ ≠ (.slice (some ad224) x5_1.length co7 : Value).ownBlock)) (by (with_reducible repeat (first|apply Kd.V_alloc|apply Kd.V_drewN|apply Kd.V_drew));exact Kd.V_mono HL224_0.out (fun _ hk => ⟨⟨hk.1.1,hk.2⟩,hk.1.2⟩)) hg hat);replace HB:=zA (hb);have HO227:=zA (ho);clear HO_8;clear ho hb hg hat));try go_wp2_with (first|((with_reducible refine gate_builtin (b:=.append) (xs:=#[.tmp 82,.tmp 87]) rfl ?_);at_builtin;refine Kd.N_append (Kd.slice 3 (Kd.int .i64)) (w0:=w) w.heap.size rfl (.tmp 82) (.tmp 87) 32 22 (.slice none 0 0) 24 rfl Tryz.underlying32 info22 rfl (by decide) (by omega) u8 x8_5 (rd_L1 x5_1 x10_5) [.slice A224_0 (rd_L1 x5_1 x10_5).length c224_0] (fun k_ => (w.heap.size ≤ k_) ∧ some k_ ≠ (.slice (some ad224) x5_1.length co7 : Value).ownBlock) (fun k_ => ((fun k_ => (w.heap.size ≤ k_) ∧ some k_ ≠ (.slice (some ad224) x5_1.length co7 : Value).ownBlock)) k_ ∧ some k_ ≠ (u8 : Value).ownBlock) rfl rfl ?aP (fun _ hk => hk) ?aF ?aO ?aB ?aS ?aL ?_;(case aP => exact (Kd.FK_slice_mk (Kd.V_reads' (Kd.V_mono (ok':=(fun k_ => ((fun k_ => (w.heap.size ≤ k_) ∧ some k_ ≠ (.slice (some ad224) x5_1.length co7 : Value).ownBlock)) k_ ∧ some k_ ≠ (u8 : Value).ownBlock)) (HL224_0.out) (fun k_ hk => ⟨⟨hk.1.1,hk.2⟩,hk.1.2⟩))).2.1 (Kd.V_F (Kd.V_mono (ok':=(fun k_ => ((fun k_ => (w.heap.size ≤ k_) ∧ some k_ ≠ (.slice (some ad224) x5_1.length co7 : Value).ownBlock)) k_ ∧ some k_ ≠ (u8 : Value).ownBlock)) (HL224_0.out) (fun k_ hk => ⟨⟨hk.1.1,hk.2⟩,hk.1.2⟩)))));(case aB => exact (zz HB));(case aF => exact (fun k_ hk => ⟨(Nat.le_trans (zT (zz HB)) hk),Kd.fresh' (Kd.N_lt (by (with_reducible repeat (first|apply Kd.N_alloc|apply Kd.N_drewN|apply Kd.N_drew));exact HO_5.out)) k_ hk⟩));(case aO => exact (by (with_reducible repeat (first|apply Kd.N_alloc|apply Kd.N_drewN|apply Kd.N_drew));exact HO_8.out));(case aS => exact (zT (zz HB)));(case aL => have:=LMc44.out;omega);intro v226 w45 ho hb hg hat;rw [← Ny225.out] at ho;replace HO_5:=zA (Kd.N_afterv (ok:=(fun k_ => (w.heap.size ≤ k_))) (by (with_reducible repeat (first|apply Kd.N_alloc|apply Kd.N_drewN|apply Kd.N_drew));exact HO_5.out) hg hat);replace HL224_0:=zA (Kd.V_afterv (ok:=(fun k_ => (w.heap.size ≤ k_) ∧ some k_ ≠ (.slice (some ad224) x5_1.length co7 : Value).ownBlock)) (by (with_reducible repeat (first|apply Kd.V_alloc|apply Kd.V_drewN|apply Kd.V_drew));exact Kd.V_mono HL224_0.out (fun _ hk => ⟨⟨hk.1.1,hk.2⟩,hk.1.2⟩)) hg hat);replace HB:=zA (hb);have HO227:=zA (ho);clear HO_8;clear ho hb hg hat)))
                     go_roundg k5
                     case measure => have:=HK1.out;have:=HJ5.out;have:=HJ15.out;have:=HK4.out;have:=HK5.out;omega
                     case rel => exact ⟨(y225),(wrap64 (x10_5 + 1)),za,H',⟨by have:=HK1.out;have:=HJ5.out;have:=HJ15.out;have:=HK4.out;have:=HK5.out;omega⟩,⟨by (with_reducible repeat (first|apply Kd.N_alloc|apply Kd.N_drewN|apply Kd.N_drew));exact HO_5.out⟩,⟨by (with_reducible repeat (first|apply Kd.N_alloc|apply Kd.N_drewN|apply Kd.N_drew));exact HO227.out⟩,⟨zz HB⟩⟩
                    ·
                     rw [if_neg c44] at H
                     exact absurd H (by simp)
                   ·
                    rw [if_neg c43] at H
                    exact absurd H (by simp)
                  ·
                   rw [if_neg c42] at H;have c42b0:=decide_eq_false c42;clear c42
                   have H':=zA H
                   clear H
                   go_wp2
                   repeat (go_quiet (fail);try go_wp2)
                   go_roundg k5
                   case measure => have:=HK1.out;have:=HJ5.out;have:=HJ15.out;have:=HK4.out;have:=HK5.out;omega
                   case rel => exact ⟨(x8_5),(wrap64 (x6_1 + 1)),za,H',⟨by have:=HK1.out;have:=HJ5.out;have:=HJ15.out;have:=HK4.out;have:=HK5.out;omega⟩,⟨by (with_reducible repeat (first|apply Kd.N_alloc|apply Kd.N_drewN|apply Kd.N_drew));exact Kd.N_mono HO_8.out (fun _ hk => hk.1)⟩,⟨zz HB⟩⟩
               ·
                rw [if_neg c36] at H
                exact absurd H (by simp)
              ·
               rw [if_neg c35] at H
               exact absurd H (by simp)
             ·
              rw [if_neg c34] at H
              exact absurd H (by simp)
            ·
             rw [if_neg c33] at H
             exact absurd H (by simp)
   ·
    rw [if_neg c5] at H;have c5b0:=decide_eq_false c5;clear c5
    obtain rfl:=Option.some.inj H
    go_wp2
    repeat (go_quiet (fail);try go_wp2)
    go_ret
    exact ⟨_,by first|rfl|(simp [errW_none,errW_some] <;> rfl)|(simp [*,errW_none,errW_some] <;> rfl),by (with_reducible repeat (first|apply Kd.N_alloc|apply Kd.N_drewN|apply Kd.N_drew));exact HO_5.out,zz HB⟩

end Go.Proofs.YtfelabhakgcifaaGreat.QFnExactCountAnswers
