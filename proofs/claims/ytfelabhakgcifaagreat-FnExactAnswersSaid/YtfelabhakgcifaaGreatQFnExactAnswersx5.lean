/- Walks through the Go functions that FnExactAnswers reaches: each call returns what the Lean function beside it says, within the bounds that the theorem names. -/
import Derived.Test.YtfelabhakgcifaaGreatQFnExactAnswersx0
namespace Go.Proofs.YtfelabhakgcifaaGreat.QFnExactAnswers
open Go.RowKit Go.Proofs.YtfelabhakgcifaaGreatW.PrintWords Go.Proofs.YtfelabhakgcifaaGreatW.PrintLast Go.Proofs.YtfelabhakgcifaaGreatW.PrintMore
attribute [local go_sem] max2_int min2_int max_two min_two max_three min_three max_four min_four   -- for this text's walks alone
set_option linter.unusedVariables false
set_option linter.unusedSimpArgs false


/-! ### spec_l2Has: function 91 -/
def spec_l2Has.l0 : Nat → List Int → Int → Int → Option (Bool)
 | 0, _, _, _ => none
 | k + 1, x0, x1, x5 => if x5 < (x0.length : Int) then (if 0 ≤ x5 then (if (rd x0 x5) = x1 then (some true) else (spec_l2Has.l0 k x0 x1 (wrap64 (x5 + 1)))) else (none)) else (some false)
def spec_l2Has.f (k : Nat) (l0 : List Int) (a1 : Int) : Option (Bool) := spec_l2Has.l0 k l0 a1 0
set_option maxHeartbeats 8000000 in
set_option maxRecDepth 100000 in
theorem spec_l2Has.calls (k : Nat) (A0 : Option Addr) (c0 : Nat) (l0 : List Int) (a1 : Int) (r : Bool) (w : World) (hr0 : Kd.C (Kd.int .i64) w A0 l0.length l0) (hc0 : l0.length ≤ c0) (h : spec_l2Has.f k l0 a1 = some r) :
  Calls Tryz.prog 91 #[.slice A0 l0.length c0, .int .i64 a1] w fun e w' => e = .returned (.bool r) ∧ Drawn0 w w' := by
 have HR0:=zA hr0;have HC0:=zA hc0;clear hr0 hc0
 have H : (spec_l2Has.l0 k l0 a1 0) = some r:=h
 clear h
 have H':=zA H
 clear H
 go_enter Tryz.func91,Tryz.ntmps91
 go_wp2
 go_loopg [5] k (fun kq v5 w' => ∃ (x5_1 : Int),v5 = .int .i64 x5_1 ∧ Aside0 (spec_l2Has.l0 kq l0 a1 x5_1 = some r) ∧ Aside0 (kq ≤ k) ∧ Drawn0 w w')
 case atStart => exact ⟨(0),za,H',⟨Nat.le_refl _⟩,by repeat (first|exact Drawn0.refl _|apply Drawn0.step)⟩
 case round =>
  clear H';(try clear p2);obtain ⟨x5_1,rfl,HA,HK1,⟨m1,rfl⟩⟩:=hrel
  cases gk with
  | zero => exact absurd HA.out (by simp [spec_l2Has.l0])
  | succ k1 =>
   have H:=HA.out;clear HA;simp only [spec_l2Has.l0] at H
   by_cases c3 : x5_1 < (l0.length : Int)
   ·
    rw [if_pos c3] at H;have c3b0:=decide_eq_true c3;clear c3
    by_cases c4 : 0 ≤ x5_1
    ·
     rw [if_pos c4] at H;have c4b0:=decide_eq_true c4;clear c4
     by_cases c5 : (rd l0 x5_1) = a1
     ·
      rw [if_pos c5] at H;have c5b0:=beq_iff_eq.mpr c5;have c5b1:=bne_eq_false_iff_eq.mpr c5;clear c5
      obtain rfl:=Option.some.inj H
      have p190 : 0 ≤ (x5_1 : Int):=zXb ze;have q190 : x5_1 < (l0.length : Int):=zXb ze;obtain ⟨ad190,e190,hx190_0⟩:=Kd.at_int HR0.out x5_1 p190 q190
      cases e190
      replace p190:=eq_true p190;replace q190:=eq_true q190
      go_wp2
      go_ret
      exact ⟨by first|rfl|(simp;done)|(simp [*];done),by repeat (first|exact Drawn0.refl _|apply Drawn0.step)⟩
     ·
      rw [if_neg c5] at H;have c5b0:=beq_eq_false_iff_ne.mpr c5;have c5b1:=bne_iff_ne.mpr c5
      have H':=zA H
      clear H;have p190 : 0 ≤ (x5_1 : Int):=zXb ze;have q190 : x5_1 < (l0.length : Int):=zXb ze;obtain ⟨ad190,e190,hx190_0⟩:=Kd.at_int HR0.out x5_1 p190 q190
      cases e190
      replace p190:=eq_true p190;replace q190:=eq_true q190
      go_wp2
      go_roundg k1
      case measure => have:=HK1.out;omega
      case rel => exact ⟨(wrap64 (x5_1 + 1)),za,H',⟨by have:=HK1.out;omega⟩,by repeat (first|exact Drawn0.refl _|apply Drawn0.step)⟩
    ·
     rw [if_neg c4] at H
     exact absurd H (by simp)
   ·
    rw [if_neg c3] at H;have c3b0:=decide_eq_false c3;clear c3
    obtain rfl:=Option.some.inj H
    go_wp2
    go_ret
    exact ⟨by first|rfl|(simp;done)|(simp [*];done),by repeat (first|exact Drawn0.refl _|apply Drawn0.step)⟩

/-! ### spec_l4BodyVars: function 92 -/
mutual
def spec_l4BodyVars.l0 : Nat → List Int → Int → List Int → List (S81) → Option (List Int)
 | 0, _, _, _, _ => none
 | k + 1, x3, x4, x192000, x192001 => if x4 < (x192001.length : Int) then (spec_l4BodyVars.l1 k x3 x4 0 x192000 x192001) else (some x3)
def spec_l4BodyVars.l1 : Nat → List Int → Int → Int → List Int → List (S81) → Option (List Int)
 | 0, _, _, _, _, _ => none
 | k + 1, x3, x4, x5, x192000, x192001 => if 0 ≤ x4 then (if x4 < (x192001.length : Int) then (if x5 < (((rd_T81 x192001 x4).f1).length : Int) then (if 0 ≤ x5 then (if (rd ((rd_T81 x192001 x4).f1) x5) ≥ 0 then ((spec_l2Has.f k x3 (rd ((rd_T81 x192001 x4).f1) x5)).bind fun t198 => (if t198 = true then (spec_l4BodyVars.l1 k x3 x4 (wrap64 (x5 + 1)) x192000 x192001) else (if x3.length < 17592186044416 then (spec_l4BodyVars.l1 k (x3 ++ [rd ((rd_T81 x192001 x4).f1) x5]) x4 (wrap64 (x5 + 1)) x192000 x192001) else (none)))) else (spec_l4BodyVars.l1 k x3 x4 (wrap64 (x5 + 1)) x192000 x192001)) else (none)) else (spec_l4BodyVars.l0 k x3 (wrap64 (x4 + 1)) x192000 x192001)) else (none)) else (none)
end
def spec_l4BodyVars.f (k : Nat) (l0_0 : List Int) (l0_1 : List (S81)) : Option (List Int) := spec_l4BodyVars.l0 k (([] : List Int)) 0 l0_0 l0_1
set_option maxHeartbeats 8000000 in
set_option maxRecDepth 100000 in
theorem spec_l4BodyVars.calls (k : Nat) (A0_0 : Option Addr) (c0_0 : Nat) (l0_0 : List Int) (A0_1 : Option Addr) (c0_1 : Nat) (l0_1 : List (S81)) (r : List Int) (w : World) (hr0_0 : Kd.C (Kd.int .i64) w A0_0 l0_0.length l0_0) (hc0_0 : l0_0.length ≤ c0_0) (hr0_1 : Kd.C k81 w A0_1 l0_1.length l0_1) (hc0_1 : l0_1.length ≤ c0_1) (h : spec_l4BodyVars.f k l0_0 l0_1 = some r) :
  Calls Tryz.prog 92 #[.agg #[.slice A0_0 l0_0.length c0_0, .slice A0_1 l0_1.length c0_1]] w fun e w' => ∃ v0_ : Value, e = .returned (v0_) ∧ Kd.R (Kd.int .i64) 3 w' w.heap.size (fun _ => True) v0_ r ∧ Below w.heap.size w w' := by
 have hu38:=Tryz.underlying38;have HR0_0:=zA hr0_0;have HC0_0:=zA hc0_0;clear hr0_0 hc0_0;have HR0_1:=zA hr0_1;have HC0_1:=zA hc0_1;clear hr0_1 hc0_1;have HB:=zA (Below.refl w.heap.size w)
 have H : (spec_l4BodyVars.l0 k (([] : List Int)) 0 l0_0 l0_1) = some r:=h
 clear h;obtain ⟨y192,hy192⟩ : ∃ y_ : List Int,y_ = (([] : List Int)):=⟨_,rfl⟩
 replace H : (spec_l4BodyVars.l0 k y192 0 l0_0 l0_1) = some r:=by first|(rw [hy192];with_reducible exact H)|(have H2_:=(Option.bind_some _ _).symm.trans H;rw [hy192];with_reducible exact H2_)|(have H2_:=(Option.bind_some _ _).symm.trans H;with_reducible exact H2_)|with_reducible exact H|(rw [hy192];exact H)|exact H
 have Ny192:=zA hy192;clear hy192
 have H':=zA H
 clear H
 go_enter Tryz.func92,Tryz.ntmps92
 go_wp2_with (first|((with_reducible refine gate_dst (N:=1) rfl ?_);refine box_event ?hg (N:=1) ?hd (cs:=#[.slice A0_0 l0_0.length c0_0,.slice A0_1 l0_1.length c0_1]) (t:=38) ?hr ?_;(case hd => rfl);(case hg => rfl);(case hr => first|(go_simp;done)|(go_simp;rfl));intro gb191 hg w2 hbox hb;have BK191:=zA (hbox);have GW191:=zA ((by rw [hg];exact (zT (zz HB)) : w.heap.size ≤ gb191));have GE191:=zA ((by rw [hg];exact (zT (zz HB)) : w.heap.size ≤ gb191));replace HB:=zA (zJb (zz HB) hb);clear hb hbox hg)|((with_reducible refine gate_dst (N:=7) rfl ?_);refine Kd.R_lit (Kd.int .i64) _ 3 ?hg (N:=7) ?hd (xs:=([] : List Int)) (inner:=[]) (ok:=fun _ => True) (okp:=fun _ => True) ?hr ?hp (fun _ hk => hk) trivial (Below.refl _ _) (Nat.le_refl _) (by simp) ?_;(case hd => rfl);(case hg => rfl);(case hr => first|(go_simp;done)|(go_simp;rfl));(case hp => exact (Reps.none _ _));intro v193 w3 ho4 hb hg_ hnew_;clear hg_ hnew_;(first|rw [← Ny192.out] at ho4|(simp only [Int.reduceToNat] at ho4;rw [← Ny192.out] at ho4));have HO194:=zA (zHb ho4 (zT (zz HB)));replace BK191:=zA (zQ (g:=gb191) (o:=.cells #[.slice A0_0 l0_0.length c0_0,.slice A0_1 l0_1.length c0_1] 38 (0,0)) (zx BK191) hb);replace HB:=zA (zJb (zz HB) hb);clear hb ho4))
 go_loopg [3,4] k (fun kq v3 v4 w' => ∃ (x3_1 : List Int) (x4_1 : Int),v4 = .int .i64 x4_1 ∧ Aside0 (spec_l4BodyVars.l0 kq x3_1 x4_1 l0_0 l0_1 = some r) ∧ Aside0 (kq ≤ k) ∧ Aside0 (Kd.R (Kd.int .i64) 3 w' w.heap.size (fun _ => True) v3 x3_1) ∧ Aside0 (w'.heap[gb191]? = some (.cells #[(.slice A0_0 l0_0.length c0_0),(.slice A0_1 l0_1.length c0_1)] 38 (0,0))) ∧ Aside0 (Below w.heap.size w w'))
 case atStart => exact ⟨(y192),(0),za,H',⟨Nat.le_refl _⟩,⟨zq HO194⟩,⟨zx BK191⟩,⟨zz HB⟩⟩
 case round =>
  clear H';(try clear p2);obtain ⟨x3_1,x4_1,rfl,HA,HK1,HO_3,BK191,HB⟩:=hrel
  cases gk with
  | zero => exact absurd HA.out (by simp [spec_l4BodyVars.l0])
  | succ k1 =>
   have H:=HA.out;clear HA;simp only [spec_l4BodyVars.l0] at H
   by_cases c5 : x4_1 < (l0_1.length : Int)
   ·
    rw [if_pos c5] at H;have c5b0:=decide_eq_true c5;clear c5
    have H':=zA H
    clear H;have hcz6_0:=zc (.slice A0_0 l0_0.length c0_0) BK191 0 rfl;have hcz6_1:=zc (.slice A0_1 l0_1.length c0_1) BK191 1 rfl;have hfz6_0:=blk_frozen BK191.out 0;have hfz6_1:=blk_frozen BK191.out 1
    go_wp2
    go_loopg [3,5] k1 (fun kq v3 v5 w' => ∃ (x3_2 : List Int) (x5_2 : Int),v5 = .int .i64 x5_2 ∧ Aside0 (spec_l4BodyVars.l1 kq x3_2 x4_1 x5_2 l0_0 l0_1 = some r) ∧ Aside0 (kq ≤ k1) ∧ Aside0 (Kd.R (Kd.int .i64) 3 w' w.heap.size (fun _ => True) v3 x3_2) ∧ Aside0 (w'.heap[gb191]? = some (.cells #[(.slice A0_0 l0_0.length c0_0),(.slice A0_1 l0_1.length c0_1)] 38 (0,0))) ∧ Aside0 (Below w.heap.size w w'))
    case atStart => exact ⟨(x3_1),(0),za,H',⟨Nat.le_refl _⟩,⟨zq HO_3⟩,⟨zx BK191⟩,⟨zz HB⟩⟩
    case round =>
     clear H';(try clear p2);(try clear c5);(try clear c5b0);(try clear hcz6_0);(try clear hcz6_1);(try clear hfz6_0);(try clear hfz6_1);(try clear p2);obtain ⟨x3_2,x5_2,rfl,HA,HK2,HO_3,BK191,HB⟩:=hrel
     cases gk with
     | zero => exact absurd HA.out (by simp [spec_l4BodyVars.l1])
     | succ k2 =>
      have H:=HA.out;clear HA;simp only [spec_l4BodyVars.l1] at H
      by_cases c7 : 0 ≤ x4_1
      ·
       rw [if_pos c7] at H;have c7b0:=decide_eq_true c7;clear c7
       by_cases c8 : x4_1 < (l0_1.length : Int)
       ·
        rw [if_pos c8] at H;have c8b0:=decide_eq_true c8;clear c8
        by_cases c9 : x5_2 < (((rd_T81 l0_1 x4_1).f1).length : Int)
        ·
         rw [if_pos c9] at H;have c9b0:=decide_eq_true c9;clear c9
         by_cases c10 : 0 ≤ x5_2
         ·
          rw [if_pos c10] at H;have c10b0:=decide_eq_true c10;clear c10
          by_cases c11 : (rd ((rd_T81 l0_1 x4_1).f1) x5_2) ≥ 0
          ·
           rw [if_pos c11] at H
           have c11b0 : decide (0 ≤ (rd ((rd_T81 l0_1 x4_1).f1) x5_2)) = true:=decide_eq_true c11
           clear c11;replace H:=Option.bind_eq_some_iff.mp H;obtain ⟨t198,A120,H⟩:=H;(try dsimp only at H);have A12:=zA A120;clear A120
           by_cases c13 : t198 = true
           ·
            subst c13
            rw [if_pos rfl] at H
            have H':=zA H
            clear H;have hcz14_0:=zc (.slice A0_0 l0_0.length c0_0) BK191 0 rfl;have hcz14_1:=zc (.slice A0_1 l0_1.length c0_1) BK191 1 rfl;have hfz14_0:=blk_frozen BK191.out 0;have hfz14_1:=blk_frozen BK191.out 1;have p195 : 0 ≤ (x4_1 : Int):=zXb ze;have q195 : x4_1 < (l0_1.length : Int):=zXb ze;obtain ⟨ad195,A195_1,c195_1,e195,hx195_0,hx195_1,hl195_1,hi195_1⟩:=at_T81 HR0_1.out x4_1 p195 q195
            cases e195
            replace hx195_0:=(HB.out.cell (World.block_lt_of_cell? w _ hx195_0)).trans hx195_0;replace hx195_1:=(HB.out.cell (World.block_lt_of_cell? w _ hx195_1)).trans hx195_1;have HR195_1:=zA hi195_1;have HC195_1:=zA hl195_1;clear hi195_1 hl195_1;replace p195:=eq_true p195;replace q195:=eq_true q195;have p196 : 0 ≤ (x4_1 : Int):=zXb ze;have q196 : x4_1 < (l0_1.length : Int):=zXb ze;obtain ⟨ad196,A196_1,c196_1,e196,hx196_0,hx196_1,hl196_1,hi196_1⟩:=at_T81 HR0_1.out x4_1 p196 q196
            obtain rfl : ad195 = ad196:=(by injection e196)
            replace hx196_0:=(HB.out.cell (World.block_lt_of_cell? w _ hx196_0)).trans hx196_0;replace hx196_1:=(HB.out.cell (World.block_lt_of_cell? w _ hx196_1)).trans hx196_1;have HR196_1:=zA hi196_1;have HC196_1:=zA hl196_1;clear hi196_1 hl196_1;replace p196:=eq_true p196;replace q196:=eq_true q196;have ea_:=Option.some.inj (hx195_1.symm.trans hx196_1)
            injection ea_ with ea_ en_ ec_
            subst ea_
            subst ec_
            clear en_;have p197 : 0 ≤ (x5_2 : Int):=zXb ze;have q197 : x5_2 < (((rd_T81 l0_1 x4_1).f1).length : Int):=zXb ze;obtain ⟨ad197,e197,hx197_0⟩:=Kd.at_int HR196_1.out x5_2 p197 q197
            cases e197
            replace hx197_0:=(HB.out.cell (World.block_lt_of_cell? w _ hx197_0)).trans hx197_0;replace p197:=eq_true p197;replace q197:=eq_true q197;obtain ⟨Ao15,co15,eo15⟩:=Kd.R_slice HO_3.out
            subst eo15
            go_wp2_with (first|(go_at_call 91;(with_reducible refine (spec_l2Has.calls k2 _ _ x3_2 (rd ((rd_T81 l0_1 x4_1).f1) x5_2) true _ ?side1 ?side2 A12.out).mono ?_);(case side1 => repeat (first|exact (Kd.R_reads' HO_3.out).2.2|(with_reducible refine zBb ?_ _)|(with_reducible refine zAb ?_ _)|(with_reducible refine zX ?_)));(case side2 => exact (Kd.R_reads' HO_3.out).2.1);rintro e w' ⟨rfl,⟨nd,rfl⟩⟩))
            go_roundg k2
            case measure => have:=HK1.out;have:=HK2.out;omega
            case rel => exact ⟨(x3_2),(wrap64 (x5_2 + 1)),za,H',⟨by have:=HK1.out;have:=HK2.out;omega⟩,⟨zq HO_3⟩,⟨zx BK191⟩,⟨zz HB⟩⟩
           ·
            replace c13:=Bool.eq_false_iff.mpr c13
            subst c13
            have H1 : (if x3_2.length < 17592186044416 then (spec_l4BodyVars.l1 k2 (x3_2 ++ [rd ((rd_T81 l0_1 x4_1).f1) x5_2]) x4_1 (wrap64 (x5_2 + 1)) l0_0 l0_1) else (none)) = some r:=by rw [if_neg (show ¬ (false = true) by decide)] at H;exact H
            clear H;have H:=H1;clear H1
            by_cases c16 : x3_2.length < 17592186044416
            ·
             rw [if_pos c16] at H;have LMc16:=zA c16;clear c16;obtain ⟨y199,hy199⟩ : ∃ y_ : List Int,y_ = (x3_2 ++ [rd ((rd_T81 l0_1 x4_1).f1) x5_2]):=⟨_,rfl⟩
             replace H : (spec_l4BodyVars.l1 k2 y199 x4_1 (wrap64 (x5_2 + 1)) l0_0 l0_1) = some r:=by first|(rw [hy199];with_reducible exact H)|(have H2_:=(Option.bind_some _ _).symm.trans H;rw [hy199];with_reducible exact H2_)|(have H2_:=(Option.bind_some _ _).symm.trans H;with_reducible exact H2_)|with_reducible exact H|(rw [hy199];exact H)|exact H
             have Ny199:=zA hy199;clear hy199
             have H':=zA H
             clear H;have hcz17_0:=zc (.slice A0_0 l0_0.length c0_0) BK191 0 rfl;have hcz17_1:=zc (.slice A0_1 l0_1.length c0_1) BK191 1 rfl;have hfz17_0:=blk_frozen BK191.out 0;have hfz17_1:=blk_frozen BK191.out 1;have p195 : 0 ≤ (x4_1 : Int):=zXb ze;have q195 : x4_1 < (l0_1.length : Int):=zXb ze;obtain ⟨ad195,A195_1,c195_1,e195,hx195_0,hx195_1,hl195_1,hi195_1⟩:=at_T81 HR0_1.out x4_1 p195 q195
             cases e195
             replace hx195_0:=(HB.out.cell (World.block_lt_of_cell? w _ hx195_0)).trans hx195_0;replace hx195_1:=(HB.out.cell (World.block_lt_of_cell? w _ hx195_1)).trans hx195_1;have HR195_1:=zA hi195_1;have HC195_1:=zA hl195_1;clear hi195_1 hl195_1;replace p195:=eq_true p195;replace q195:=eq_true q195;have p196 : 0 ≤ (x4_1 : Int):=zXb ze;have q196 : x4_1 < (l0_1.length : Int):=zXb ze;obtain ⟨ad196,A196_1,c196_1,e196,hx196_0,hx196_1,hl196_1,hi196_1⟩:=at_T81 HR0_1.out x4_1 p196 q196
             obtain rfl : ad195 = ad196:=(by injection e196)
             replace hx196_0:=(HB.out.cell (World.block_lt_of_cell? w _ hx196_0)).trans hx196_0;replace hx196_1:=(HB.out.cell (World.block_lt_of_cell? w _ hx196_1)).trans hx196_1;have HR196_1:=zA hi196_1;have HC196_1:=zA hl196_1;clear hi196_1 hl196_1;replace p196:=eq_true p196;replace q196:=eq_true q196;have ea_:=Option.some.inj (hx195_1.symm.trans hx196_1)
             injection ea_ with ea_ en_ ec_
             subst ea_
             subst ec_
             clear en_;have p197 : 0 ≤ (x5_2 : Int):=zXb ze;have q197 : x5_2 < (((rd_T81 l0_1 x4_1).f1).length : Int):=zXb ze;obtain ⟨ad197,e197,hx197_0⟩:=Kd.at_int HR196_1.out x5_2 p197 q197
             cases e197
             replace hx197_0:=(HB.out.cell (World.block_lt_of_cell? w _ hx197_0)).trans hx197_0;replace p197:=eq_true p197;replace q197:=eq_true q197;obtain ⟨Ao18,co18,eo18⟩:=Kd.R_slice HO_3.out
             subst eo18
             go_wp2_with (first|(go_at_call 91;(with_reducible refine (spec_l2Has.calls k2 _ _ x3_2 (rd ((rd_T81 l0_1 x4_1).f1) x5_2) false _ ?side1 ?side2 A12.out).mono ?_);(case side1 => repeat (first|exact (Kd.R_reads' HO_3.out).2.2|(with_reducible refine zBb ?_ _)|(with_reducible refine zAb ?_ _)|(with_reducible refine zX ?_)));(case side2 => exact (Kd.R_reads' HO_3.out).2.1);rintro e w' ⟨rfl,⟨nd,rfl⟩⟩)|((with_reducible refine gate_builtin (b:=.append) (xs:=#[.tmp 43,.tmp 45]) rfl ?_);at_builtin;refine Kd.R_append (Kd.int .i64) (w0:=w) w.heap.size rfl (.tmp 43) (.tmp 45) 22 3 (.int .i64 0) 8 rfl Tryz.underlying22 info3 rfl (by decide) (by omega) (.slice Ao18 x3_2.length co18) x3_2 (rd ((rd_T81 l0_1 x4_1).f1) x5_2) [.int .i64 (rd ((rd_T81 l0_1 x4_1).f1) x5_2)] (fun _ => True) (fun _ => False) rfl rfl ?aP (fun _ hk => hk.elim) ?aF ?aO ?aB ?aS ?aL ?_;(case aP => exact rfl);(case aB => exact (zz HB));(case aF => exact (fun _ _ => trivial));(case aO => exact (zq HO_3));(case aS => exact (zT (zz HB)));(case aL => have:=LMc16.out;omega);intro v200 w19 ho hb hg hat;rw [← Ny199.out] at ho;replace BK191:=zA (blk_grown (g:=gb191) (o:=.cells #[.slice A0_0 l0_0.length c0_0,.slice (some ad195) l0_1.length c0_1] 38 (0,0)) (zx BK191) hg (Kd.R_ne HO_3.out BK191.out (by decide)));replace HB:=zA (hb);have HO201:=zA (ho);clear HO_3;clear ho hb hg hat))
             go_roundg k2
             case measure => have:=HK1.out;have:=HK2.out;omega
             case rel => exact ⟨(y199),(wrap64 (x5_2 + 1)),za,H',⟨by have:=HK1.out;have:=HK2.out;omega⟩,⟨zq HO201⟩,⟨zx BK191⟩,⟨zz HB⟩⟩
            ·
             rw [if_neg c16] at H
             exact absurd H (by simp)
          ·
           rw [if_neg c11] at H
           have c11b0 : decide (0 ≤ (rd ((rd_T81 l0_1 x4_1).f1) x5_2)) = false:=decide_eq_false c11
           clear c11
           have H':=zA H
           clear H;have hcz20_0:=zc (.slice A0_0 l0_0.length c0_0) BK191 0 rfl;have hcz20_1:=zc (.slice A0_1 l0_1.length c0_1) BK191 1 rfl;have hfz20_0:=blk_frozen BK191.out 0;have hfz20_1:=blk_frozen BK191.out 1;have p195 : 0 ≤ (x4_1 : Int):=zXb ze;have q195 : x4_1 < (l0_1.length : Int):=zXb ze;obtain ⟨ad195,A195_1,c195_1,e195,hx195_0,hx195_1,hl195_1,hi195_1⟩:=at_T81 HR0_1.out x4_1 p195 q195
           cases e195
           replace hx195_0:=(HB.out.cell (World.block_lt_of_cell? w _ hx195_0)).trans hx195_0;replace hx195_1:=(HB.out.cell (World.block_lt_of_cell? w _ hx195_1)).trans hx195_1;have HR195_1:=zA hi195_1;have HC195_1:=zA hl195_1;clear hi195_1 hl195_1;replace p195:=eq_true p195;replace q195:=eq_true q195;have p196 : 0 ≤ (x4_1 : Int):=zXb ze;have q196 : x4_1 < (l0_1.length : Int):=zXb ze;obtain ⟨ad196,A196_1,c196_1,e196,hx196_0,hx196_1,hl196_1,hi196_1⟩:=at_T81 HR0_1.out x4_1 p196 q196
           obtain rfl : ad195 = ad196:=(by injection e196)
           replace hx196_0:=(HB.out.cell (World.block_lt_of_cell? w _ hx196_0)).trans hx196_0;replace hx196_1:=(HB.out.cell (World.block_lt_of_cell? w _ hx196_1)).trans hx196_1;have HR196_1:=zA hi196_1;have HC196_1:=zA hl196_1;clear hi196_1 hl196_1;replace p196:=eq_true p196;replace q196:=eq_true q196;have ea_:=Option.some.inj (hx195_1.symm.trans hx196_1)
           injection ea_ with ea_ en_ ec_
           subst ea_
           subst ec_
           clear en_;have p197 : 0 ≤ (x5_2 : Int):=zXb ze;have q197 : x5_2 < (((rd_T81 l0_1 x4_1).f1).length : Int):=zXb ze;obtain ⟨ad197,e197,hx197_0⟩:=Kd.at_int HR196_1.out x5_2 p197 q197
           cases e197
           replace hx197_0:=(HB.out.cell (World.block_lt_of_cell? w _ hx197_0)).trans hx197_0;replace p197:=eq_true p197;replace q197:=eq_true q197
           go_wp2
           go_roundg k2
           case measure => have:=HK1.out;have:=HK2.out;omega
           case rel => exact ⟨(x3_2),(wrap64 (x5_2 + 1)),za,H',⟨by have:=HK1.out;have:=HK2.out;omega⟩,⟨zq HO_3⟩,⟨zx BK191⟩,⟨zz HB⟩⟩
         ·
          rw [if_neg c10] at H
          exact absurd H (by simp)
        ·
         rw [if_neg c9] at H;have c9b0:=decide_eq_false c9;clear c9
         have H':=zA H
         clear H;have hcz21_0:=zc (.slice A0_0 l0_0.length c0_0) BK191 0 rfl;have hcz21_1:=zc (.slice A0_1 l0_1.length c0_1) BK191 1 rfl;have hfz21_0:=blk_frozen BK191.out 0;have hfz21_1:=blk_frozen BK191.out 1;have p195 : 0 ≤ (x4_1 : Int):=zXb ze;have q195 : x4_1 < (l0_1.length : Int):=zXb ze;obtain ⟨ad195,A195_1,c195_1,e195,hx195_0,hx195_1,hl195_1,hi195_1⟩:=at_T81 HR0_1.out x4_1 p195 q195
         cases e195
         replace hx195_0:=(HB.out.cell (World.block_lt_of_cell? w _ hx195_0)).trans hx195_0;replace hx195_1:=(HB.out.cell (World.block_lt_of_cell? w _ hx195_1)).trans hx195_1;have HR195_1:=zA hi195_1;have HC195_1:=zA hl195_1;clear hi195_1 hl195_1;replace p195:=eq_true p195;replace q195:=eq_true q195
         go_wp2
         go_roundg k2
         case measure => have:=HK1.out;have:=HK2.out;omega
         case rel => exact ⟨(x3_2),(wrap64 (x4_1 + 1)),za,H',⟨by have:=HK1.out;have:=HK2.out;omega⟩,⟨zq HO_3⟩,⟨zx BK191⟩,⟨zz HB⟩⟩
       ·
        rw [if_neg c8] at H
        exact absurd H (by simp)
      ·
       rw [if_neg c7] at H
       exact absurd H (by simp)
   ·
    rw [if_neg c5] at H;have c5b0:=decide_eq_false c5;clear c5
    obtain rfl:=Option.some.inj H
    have hcz22_0:=zc (.slice A0_0 l0_0.length c0_0) BK191 0 rfl;have hcz22_1:=zc (.slice A0_1 l0_1.length c0_1) BK191 1 rfl;have hfz22_0:=blk_frozen BK191.out 0;have hfz22_1:=blk_frozen BK191.out 1
    go_wp2
    go_ret
    exact ⟨_,by first|rfl|(simp [errW_none,errW_some] <;> rfl)|(simp [*,errW_none,errW_some] <;> rfl),zq HO_3,zz HB⟩

end Go.Proofs.YtfelabhakgcifaaGreat.QFnExactAnswers
