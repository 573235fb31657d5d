/- Walks through the Go functions that FnExactAnswers reaches: each call returns what the Lean function beside it says, within the bounds that the theorem names. -/
import Derived.Test.YtfelabhakgcifaaGreatQFnExactAnswersx0
namespace Go.Proofs.YtfelabhakgcifaaGreat.QFnExactAnswers
open Go.RowKit Go.Proofs.YtfelabhakgcifaaGreatW.PrintWords Go.Proofs.YtfelabhakgcifaaGreatW.PrintLast Go.Proofs.YtfelabhakgcifaaGreatW.PrintMore
attribute [local go_sem] max2_int min2_int max_two min_two max_three min_three max_four min_four   -- for this text's walks alone
set_option linter.unusedVariables false
set_option linter.unusedSimpArgs false


/-! ### spec_l6Tuple: function 51 -/
def spec_l6Tuple.l0 : Nat → List Int → List Int → List Int → Int → Option (List Int)
 | 0, _, _, _, _ => none
 | k + 1, x0, x1, x5, x6 => if x6 < (x0.length : Int) then (if 0 ≤ x6 then (if (rd x0 x6) < 0 then (if x5.length < 17592186044416 then (spec_l6Tuple.l0 k x0 x1 (x5 ++ [wrap64 ((-1) - (rd x0 x6))]) (wrap64 (x6 + 1))) else (none)) else (if 0 ≤ (rd x0 x6) then (if (rd x0 x6) < (x1.length : Int) then (if x5.length < 17592186044416 then (spec_l6Tuple.l0 k x0 x1 (x5 ++ [rd x1 (rd x0 x6)]) (wrap64 (x6 + 1))) else (none)) else (none)) else (none))) else (none)) else (some x5)
def spec_l6Tuple.f (k : Nat) (l0 : List Int) (l1 : List Int) : Option (List Int) := spec_l6Tuple.l0 k l0 l1 (([] : List Int)) 0
set_option maxHeartbeats 8000000 in
set_option maxRecDepth 100000 in
theorem spec_l6Tuple.calls (k : Nat) (A0 : Option Addr) (c0 : Nat) (l0 : List Int) (A1 : Option Addr) (c1 : Nat) (l1 : List Int) (r : List Int) (w : World) (hr0 : Kd.C (Kd.int .i64) w A0 l0.length l0) (hc0 : l0.length ≤ c0) (hr1 : Kd.C (Kd.int .i64) w A1 l1.length l1) (hc1 : l1.length ≤ c1) (h : spec_l6Tuple.f k l0 l1 = some r) :
  Calls Tryz.prog 51 #[.slice A0 l0.length c0, .slice A1 l1.length c1] w fun e w' => ∃ v0_ : Value, e = .returned (v0_) ∧ Kd.R (Kd.int .i64) 3 w' w.heap.size (fun _ => True) v0_ r ∧ Below w.heap.size w w' := by
 have HR0:=zA hr0;have HC0:=zA hc0;clear hr0 hc0;have HR1:=zA hr1;have HC1:=zA hc1;clear hr1 hc1;have HB:=zA (Below.refl w.heap.size w)
 have H : (spec_l6Tuple.l0 k l0 l1 (([] : List Int)) 0) = some r:=h
 clear h;obtain ⟨y150,hy150⟩ : ∃ y_ : List Int,y_ = (([] : List Int)):=⟨_,rfl⟩
 replace H : (spec_l6Tuple.l0 k l0 l1 y150 0) = some r:=by first|(rw [hy150];with_reducible exact H)|(have H2_:=(Option.bind_some _ _).symm.trans H;rw [hy150];with_reducible exact H2_)|(have H2_:=(Option.bind_some _ _).symm.trans H;with_reducible exact H2_)|with_reducible exact H|(rw [hy150];exact H)|exact H
 have Ny150:=zA hy150;clear hy150
 have H':=zA H
 clear H
 go_enter Tryz.func51,Tryz.ntmps51
 go_wp2_with (first|((with_reducible refine gate_dst (N:=7) rfl ?_);refine Kd.R_lit (Kd.int .i64) _ 3 ?hg (N:=7) ?hd (xs:=([] : List Int)) (inner:=[]) (ok:=fun _ => True) (okp:=fun _ => True) ?hr ?hp (fun _ hk => hk) trivial (Below.refl _ _) (Nat.le_refl _) (by simp) ?_;(case hd => rfl);(case hg => rfl);(case hr => first|(go_simp;done)|(go_simp;rfl));(case hp => exact (Reps.none _ _));intro v151 w3 ho4 hb hg_ hnew_;clear hg_ hnew_;(first|rw [← Ny150.out] at ho4|(simp only [Int.reduceToNat] at ho4;rw [← Ny150.out] at ho4));have HO152:=zA (zHb ho4 (zT (zz HB)));replace HB:=zA (zJb (zz HB) hb);clear hb ho4))
 go_loopg [5,6] k (fun kq v5 v6 w' => ∃ (x5_1 : List Int) (x6_1 : Int),v6 = .int .i64 x6_1 ∧ Aside0 (spec_l6Tuple.l0 kq l0 l1 x5_1 x6_1 = some r) ∧ Aside0 (kq ≤ k) ∧ Aside0 (Kd.R (Kd.int .i64) 3 w' w.heap.size (fun _ => True) v5 x5_1) ∧ Aside0 (Below w.heap.size w w'))
 case atStart => exact ⟨(y150),(0),za,H',⟨Nat.le_refl _⟩,⟨zq HO152⟩,⟨zz HB⟩⟩
 case round =>
  clear H';(try clear c1);(try clear p2);obtain ⟨x5_1,x6_1,rfl,HA,HK1,HO_5,HB⟩:=hrel
  cases gk with
  | zero => exact absurd HA.out (by simp [spec_l6Tuple.l0])
  | succ k1 =>
   have H:=HA.out;clear HA;simp only [spec_l6Tuple.l0] at H
   by_cases c5 : x6_1 < (l0.length : Int)
   ·
    rw [if_pos c5] at H;have c5b0:=decide_eq_true c5;clear c5
    by_cases c6 : 0 ≤ x6_1
    ·
     rw [if_pos c6] at H;have c6b0:=decide_eq_true c6;clear c6
     by_cases c7 : (rd l0 x6_1) < 0
     ·
      rw [if_pos c7] at H;have c7b0:=decide_eq_true c7;clear c7
      by_cases c8 : x5_1.length < 17592186044416
      ·
       rw [if_pos c8] at H;have LMc8:=zA c8;clear c8;obtain ⟨y155,hy155⟩ : ∃ y_ : List Int,y_ = (x5_1 ++ [wrap64 ((-1) - (rd l0 x6_1))]):=⟨_,rfl⟩
       replace H : (spec_l6Tuple.l0 k1 l0 l1 y155 (wrap64 (x6_1 + 1))) = some r:=by first|(rw [hy155];with_reducible exact H)|(have H2_:=(Option.bind_some _ _).symm.trans H;rw [hy155];with_reducible exact H2_)|(have H2_:=(Option.bind_some _ _).symm.trans H;with_reducible exact H2_)|with_reducible exact H|(rw [hy155];exact H)|exact H
       have Ny155:=zA hy155;clear hy155
       have H':=zA H
       clear H;have p153 : 0 ≤ (x6_1 : Int):=zXb ze;have q153 : x6_1 < (l0.length : Int):=zXb ze;obtain ⟨ad153,e153,hx153_0⟩:=Kd.at_int HR0.out x6_1 p153 q153
       cases e153
       replace hx153_0:=(HB.out.cell (World.block_lt_of_cell? w _ hx153_0)).trans hx153_0;replace p153:=eq_true p153;replace q153:=eq_true q153;have p154 : 0 ≤ (x6_1 : Int):=zXb ze;have q154 : x6_1 < (l0.length : Int):=zXb ze;obtain ⟨ad154,e154,hx154_0⟩:=Kd.at_int HR0.out x6_1 p154 q154
       obtain rfl : ad153 = ad154:=(by injection e154)
       replace hx154_0:=(HB.out.cell (World.block_lt_of_cell? w _ hx154_0)).trans hx154_0;replace p154:=eq_true p154;replace q154:=eq_true q154
       go_wp2_with (first|((with_reducible refine gate_builtin (b:=.append) (xs:=#[.tmp 19,.tmp 25]) rfl ?_);at_builtin;refine Kd.R_append (Kd.int .i64) (w0:=w) w.heap.size rfl (.tmp 19) (.tmp 25) 22 3 (.int .i64 0) 8 rfl Tryz.underlying22 info3 rfl (by decide) (by omega) u5 x5_1 (wrap64 ((-1) - (rd l0 x6_1))) [.int .i64 (wrap64 ((-1) - (rd l0 x6_1)))] (fun _ => True) (fun _ => False) rfl rfl ?aP (fun _ hk => hk.elim) ?aF ?aO ?aB ?aS ?aL ?_;(case aP => exact rfl);(case aB => exact (zz HB));(case aF => exact (fun _ _ => trivial));(case aO => exact (zq HO_5));(case aS => exact (zT (zz HB)));(case aL => have:=LMc8.out;omega);intro v156 w9 ho hb hg hat;rw [← Ny155.out] at ho;replace HB:=zA (hb);have HO157:=zA (ho);clear HO_5;clear ho hb hg hat))
       go_roundg k1
       case measure => have:=HK1.out;omega
       case rel => exact ⟨(y155),(wrap64 (x6_1 + 1)),za,H',⟨by have:=HK1.out;omega⟩,⟨zq HO157⟩,⟨zz HB⟩⟩
      ·
       rw [if_neg c8] at H
       exact absurd H (by simp)
     ·
      rw [if_neg c7] at H;have c7b0:=decide_eq_false c7;clear c7
      by_cases c10 : 0 ≤ (rd l0 x6_1)
      ·
       rw [if_pos c10] at H;have c10b0:=decide_eq_true c10;clear c10
       by_cases c11 : (rd l0 x6_1) < (l1.length : Int)
       ·
        rw [if_pos c11] at H;have c11b0:=decide_eq_true c11;clear c11
        by_cases c12 : x5_1.length < 17592186044416
        ·
         rw [if_pos c12] at H;have LMc12:=zA c12;clear c12;obtain ⟨y160,hy160⟩ : ∃ y_ : List Int,y_ = (x5_1 ++ [rd l1 (rd l0 x6_1)]):=⟨_,rfl⟩
         replace H : (spec_l6Tuple.l0 k1 l0 l1 y160 (wrap64 (x6_1 + 1))) = some r:=by first|(rw [hy160];with_reducible exact H)|(have H2_:=(Option.bind_some _ _).symm.trans H;rw [hy160];with_reducible exact H2_)|(have H2_:=(Option.bind_some _ _).symm.trans H;with_reducible exact H2_)|with_reducible exact H|(rw [hy160];exact H)|exact H
         have Ny160:=zA hy160;clear hy160
         have H':=zA H
         clear H;have p153 : 0 ≤ (x6_1 : Int):=zXb ze;have q153 : x6_1 < (l0.length : Int):=zXb ze;obtain ⟨ad153,e153,hx153_0⟩:=Kd.at_int HR0.out x6_1 p153 q153
         cases e153
         replace hx153_0:=(HB.out.cell (World.block_lt_of_cell? w _ hx153_0)).trans hx153_0;replace p153:=eq_true p153;replace q153:=eq_true q153;have p158 : 0 ≤ (x6_1 : Int):=zXb ze;have q158 : x6_1 < (l0.length : Int):=zXb ze;obtain ⟨ad158,e158,hx158_0⟩:=Kd.at_int HR0.out x6_1 p158 q158
         obtain rfl : ad153 = ad158:=(by injection e158)
         replace hx158_0:=(HB.out.cell (World.block_lt_of_cell? w _ hx158_0)).trans hx158_0;replace p158:=eq_true p158;replace q158:=eq_true q158;have p159 : 0 ≤ ((rd l0 x6_1) : Int):=zXb ze;have q159 : (rd l0 x6_1) < (l1.length : Int):=zXb ze;obtain ⟨ad159,e159,hx159_0⟩:=Kd.at_int HR1.out (rd l0 x6_1) p159 q159
         cases e159
         replace hx159_0:=(HB.out.cell (World.block_lt_of_cell? w _ hx159_0)).trans hx159_0;replace p159:=eq_true p159;replace q159:=eq_true q159
         go_wp2_with (first|((with_reducible refine gate_builtin (b:=.append) (xs:=#[.tmp 27,.tmp 35]) rfl ?_);at_builtin;refine Kd.R_append (Kd.int .i64) (w0:=w) w.heap.size rfl (.tmp 27) (.tmp 35) 22 3 (.int .i64 0) 8 rfl Tryz.underlying22 info3 rfl (by decide) (by omega) u5 x5_1 (rd l1 (rd l0 x6_1)) [.int .i64 (rd l1 (rd l0 x6_1))] (fun _ => True) (fun _ => False) rfl rfl ?aP (fun _ hk => hk.elim) ?aF ?aO ?aB ?aS ?aL ?_;(case aP => exact rfl);(case aB => exact (zz HB));(case aF => exact (fun _ _ => trivial));(case aO => exact (zq HO_5));(case aS => exact (zT (zz HB)));(case aL => have:=LMc12.out;omega);intro v161 w13 ho hb hg hat;rw [← Ny160.out] at ho;replace HB:=zA (hb);have HO162:=zA (ho);clear HO_5;clear ho hb hg hat))
         go_roundg k1
         case measure => have:=HK1.out;omega
         case rel => exact ⟨(y160),(wrap64 (x6_1 + 1)),za,H',⟨by have:=HK1.out;omega⟩,⟨zq HO162⟩,⟨zz HB⟩⟩
        ·
         rw [if_neg c12] at H
         exact absurd H (by simp)
       ·
        rw [if_neg c11] at H
        exact absurd H (by simp)
      ·
       rw [if_neg c10] at H
       exact absurd H (by simp)
    ·
     rw [if_neg c6] at H
     exact absurd H (by simp)
   ·
    rw [if_neg c5] at H;have c5b0:=decide_eq_false c5;clear c5
    obtain rfl:=Option.some.inj H
    go_wp2
    go_ret
    exact ⟨_,by first|rfl|(simp [errW_none,errW_some] <;> rfl)|(simp [*,errW_none,errW_some] <;> rfl),zq HO_5,zz HB⟩

/-! ### spec_l6Heads: function 31 -/
def spec_l6Heads.l0 : Nat → List (List Int) → List (List Int) → Int → List Int → List (S81) → Option ((List (List Int)))
 | 0, _, _, _, _, _ => none
 | k + 1, x1, x5, x6, x164000, x164001 => if x6 < (x1.length : Int) then (if 0 ≤ x6 then ((spec_l6Tuple.f k x164000 (rd_L1 x1 x6)).bind fun t168 => (if x5.length < 5864062014805 then (spec_l6Heads.l0 k x1 (x5 ++ [t168]) (wrap64 (x6 + 1)) x164000 x164001) else (none))) else (none)) else (some x5)
def spec_l6Heads.f (k : Nat) (l0_0 : List Int) (l0_1 : List (S81)) (l1 : List (List Int)) : Option ((List (List Int))) := spec_l6Heads.l0 k l1 (([] : List (List Int))) 0 l0_0 l0_1
def spec_l6Heads.T5 : Bool × List (List Nat × List Nat) := (true, [([], []), ([], []), ([1], [1]), ([], []), ([], []), ([3, 4], [3, 4]), ([5], [5]), ([2, 6], [2, 6]), ([7], [7]), ([0, 8, 7], [0, 8]), ([9, 9, 0, 1, 2, 3, 4, 5, 6, 7, 8, 9], [0, 9])])
def spec_l6Heads.B5 : List Nat := [0, 0, 2, 0, 0, 24, 56, 126, 254, 511, 1023]
theorem spec_l6Heads.tab5 : rtab .any (opsOf Tryz.f31 5) = spec_l6Heads.T5 := by kernel_rfl
theorem spec_l6Heads.bits5 : waitsOk spec_l6Heads.T5.2 spec_l6Heads.B5 = true := by kernel_rfl
set_option maxHeartbeats 8000000 in
set_option maxRecDepth 100000 in
theorem spec_l6Heads.calls (k : Nat) (A0_0 : Option Addr) (c0_0 : Nat) (l0_0 : List Int) (A0_1 : Option Addr) (c0_1 : Nat) (l0_1 : List (S81)) (A1 : Option Addr) (c1 : Nat) (l1 : List (List Int)) (r : List (List Int)) (w : World) (hr0_0 : Kd.C (Kd.int .i64) w A0_0 l0_0.length l0_0) (hc0_0 : l0_0.length ≤ c0_0) (hr0_1 : Kd.C k81 w A0_1 l0_1.length l0_1) (hc0_1 : l0_1.length ≤ c0_1) (hr1 : Kd.C (Kd.slice 3 (Kd.int .i64)) w A1 l1.length l1) (hc1 : l1.length ≤ c1) (h : spec_l6Heads.f k l0_0 l0_1 l1 = some r) :
  Calls Tryz.prog 31 #[.agg #[.slice A0_0 l0_0.length c0_0, .slice A0_1 l0_1.length c0_1], .slice A1 l1.length c1] w fun e w' => ∃ v0_ : Value, e = .returned (v0_) ∧ Kd.S (Kd.slice 3 (Kd.int .i64)) 22 w' w.heap.size (fun _ => True) v0_ r ∧ Below w.heap.size w w' := by
 have hu38:=Tryz.underlying38;have HR0_0:=zA hr0_0;have HC0_0:=zA hc0_0;clear hr0_0 hc0_0;have HR0_1:=zA hr0_1;have HC0_1:=zA hc0_1;clear hr0_1 hc0_1;have HR1:=zA hr1;have HC1:=zA hc1;clear hr1 hc1;have HB:=zA (Below.refl w.heap.size w)
 have H : (spec_l6Heads.l0 k l1 (([] : List (List Int))) 0 l0_0 l0_1) = some r:=h
 clear h;obtain ⟨y164,hy164⟩ : ∃ y_ : List (List Int),y_ = (([] : List (List Int))):=⟨_,rfl⟩
 replace H : (spec_l6Heads.l0 k l1 y164 0 l0_0 l0_1) = some r:=by first|(rw [hy164];with_reducible exact H)|(have H2_:=(Option.bind_some _ _).symm.trans H;rw [hy164];with_reducible exact H2_)|(have H2_:=(Option.bind_some _ _).symm.trans H;with_reducible exact H2_)|with_reducible exact H|(rw [hy164];exact H)|exact H
 have Ny164:=zA hy164;clear hy164
 have H':=zA H
 clear H
 go_enter Tryz.func31,Tryz.ntmps31
 go_wp2_with (first|((with_reducible refine gate_dst (N:=2) rfl ?_);refine box_event ?hg (N:=2) ?hd (cs:=#[.slice A0_0 l0_0.length c0_0,.slice A0_1 l0_1.length c0_1]) (t:=38) ?hr ?_;(case hd => rfl);(case hg => rfl);(case hr => first|(go_simp;done)|(go_simp;rfl));intro gb163 hg w3 hbox hb;have BK163:=zA (hbox);have GW163:=zA ((by rw [hg];exact (zT (zz HB)) : w.heap.size ≤ gb163));have GE163:=zA ((by rw [hg];exact (zT (zz HB)) : w.heap.size ≤ gb163));replace HB:=zA (zJb (zz HB) hb);clear hb hbox hg)|((with_reducible refine gate_dst (N:=7) rfl ?_);refine Kd.S_lit (Kd.slice 3 (Kd.int .i64)) _ 22 ?hg (N:=7) ?hd (xs:=([] : List (List Int))) (inner:=[]) (ok:=fun _ => True) (okp:=fun _ => True) ?hr ?hp (fun _ hk => hk) trivial (Below.refl _ _) (Nat.le_refl _) (by simp) ?_;(case hd => rfl);(case hg => rfl);(case hr => first|(go_simp;done)|(go_simp;rfl));(case hp => exact (Reps.none _ _));intro v165 w4 ho5 hb hg_ hnew_;clear hg_ hnew_;(first|rw [← Ny164.out] at ho5|(simp only [Int.reduceToNat] at ho5;rw [← Ny164.out] at ho5));have HO166:=zA (zIb ho5 (zT (zz HB)));replace BK163:=zA (zQ (g:=gb163) (o:=.cells #[.slice A0_0 l0_0.length c0_0,.slice A0_1 l0_1.length c0_1] 38 (0,0)) (zx BK163) hb);replace HB:=zA (zJb (zz HB) hb);clear hb ho5))
 go_loopg [5,6] k (fun kq v5 v6 w' => ∃ (x5_1 : List (List Int)) (x6_1 : Int),v6 = .int .i64 x6_1 ∧ Aside0 (spec_l6Heads.l0 kq l1 x5_1 x6_1 l0_0 l0_1 = some r) ∧ Aside0 (kq ≤ k) ∧ Aside0 (Kd.S (Kd.slice 3 (Kd.int .i64)) 22 w' w.heap.size (fun _ => True) v5 x5_1) ∧ Aside0 (w'.heap[gb163]? = some (.cells #[(.slice A0_0 l0_0.length c0_0),(.slice A0_1 l0_1.length c0_1)] 38 (0,0))) ∧ Aside0 (Below w.heap.size w w'))
 case atStart => exact ⟨(y164),(0),za,H',⟨Nat.le_refl _⟩,⟨zy HO166⟩,⟨zx BK163⟩,⟨zz HB⟩⟩
 case round =>
  clear H';(try clear c1);(try clear p2);(try clear c3);obtain ⟨x5_1,x6_1,rfl,HA,HK1,HO_5,BK163,HB⟩:=hrel
  cases gk with
  | zero => exact absurd HA.out (by simp [spec_l6Heads.l0])
  | succ k1 =>
   have H:=HA.out;clear HA;simp only [spec_l6Heads.l0] at H
   by_cases c6 : x6_1 < (l1.length : Int)
   ·
    rw [if_pos c6] at H;have c6b0:=decide_eq_true c6;clear c6
    by_cases c7 : 0 ≤ x6_1
    ·
     rw [if_pos c7] at H;have c7b0:=decide_eq_true c7;clear c7;replace H:=Option.bind_eq_some_iff.mp H;obtain ⟨t168,A80,H⟩:=H;(try dsimp only at H);have A8:=zA A80;clear A80
     by_cases c9 : x5_1.length < 5864062014805
     ·
      rw [if_pos c9] at H;have LMc9:=zA c9;clear c9;obtain ⟨y171,hy171⟩ : ∃ y_ : List (List Int),y_ = (x5_1 ++ [t168]):=⟨_,rfl⟩
      replace H : (spec_l6Heads.l0 k1 l1 y171 (wrap64 (x6_1 + 1)) l0_0 l0_1) = some r:=by first|(rw [hy171];with_reducible exact H)|(have H2_:=(Option.bind_some _ _).symm.trans H;rw [hy171];with_reducible exact H2_)|(have H2_:=(Option.bind_some _ _).symm.trans H;with_reducible exact H2_)|with_reducible exact H|(rw [hy171];exact H)|exact H
      have Ny171:=zA hy171;clear hy171
      have H':=zA H
      clear H
      try go_wp2
      have n0_:=zA (zN HO_5.out);have n1_:=zA (zI BK163.out);have n2_:=zA (zJ HB.out);clear HO_5;clear BK163;clear HB;have HO_5:=n0_;have BK163:=n1_;have HB:=n2_;clear n0_ n1_ n2_;have p167 : 0 ≤ (x6_1 : Int):=zXb ze;have q167 : x6_1 < (l1.length : Int):=zXb ze;obtain ⟨ad167,A167_0,c167_0,e167,hx167_0,hl167_0,hi167_0⟩:=at_L1 HR1.out x6_1 p167 q167;have hw167_0:=hx167_0
      cases e167
      replace hx167_0:=(HB.out.cell (World.block_lt_of_cell? w _ hx167_0)).trans hx167_0;have HR167_0:=zA hi167_0;have HC167_0:=zA hl167_0;clear hi167_0 hl167_0;replace p167:=eq_true p167;replace q167:=eq_true q167
      refine start_ (n:=11) (S:=fun w' => w'.cell? ⟨gb163,0,none⟩ = some (.slice A0_0 l0_0.length c0_0) ∧ w'.cell? ⟨gb163,1,none⟩ = some (.slice A0_1 l0_1.length c0_1) ∧ w'.cell? (ad167.add (x6_1).toNat) = some (.slice A167_0 (rd_L1 l1 x6_1).length c167_0)) (ds:=[]) #[false,false,false,false,false,false,false,false,false,false,false] (by kernel_rfl) rfl rfl ⟨(zP BK163.out 0).trans rfl,(zP BK163.out 1).trans rfl,((HB.out.cell (World.block_lt_of_cell? w _ hw167_0)).trans hw167_0)⟩ (fun hHeld => ?_);refine with_tabW spec_l6Heads.tab5 spec_l6Heads.bits5 (fun HT_ HW_ => ?_)
      generalize wr.drew = w10 at HO_5 BK163 HB HR167_0 hx167_0 hHeld ⊢
      refine zut 0 14 HT_ ?_;refine zut 1 15 HT_ ?_;refine zut 3 17 HT_ ?_;refine zut 4 18 HT_ ?_;refine zut 5 19 HT_ ?_;refine zwt 2 16 HT_ HW_ hHeld ?_;refine zwt 6 20 HT_ HW_ hHeld ?_
      refine one_ (i:=7) (N:=some 21) #[true,true,true,true,true,true,true,true,false,false,false] rfl rfl (one_of HT_.out (by kernel_rfl)) (by decide) (fun K hK => ?_)
      refine goes_ Tryz.func51 (by kernel_rfl) rfl #[.slice A0_0 l0_0.length c0_0,.slice A167_0 (rd_L1 l1 x6_1).length c167_0] (by rfl) rfl rfl (by (try simp only [zCb,zMb,zNb]);first|done|rfl|(simp only [zLb,zDb];rfl)) ?_
      with_reducible refine (spec_l6Tuple.calls k1 _ _ l0_0 _ _ (rd_L1 l1 x6_1) t168 _ ?side1 ?side2 ?side3 ?side4 A8.out).mono ?_
      (case side1 => exact zsd HR0_0 HB)
      (case side2 => exact HC0_0.out)
      (case side3 => exact zsd HR167_0 HB)
      (case side4 => exact HC167_0.out)
      rintro e w11 ⟨v169,rfl,ho0,hb⟩
      refine ⟨_,rfl,?_⟩
      have n0_:=zA (zSb (zy HO_5) (zW ho0) hb);have n1_:=zA (zHb ho0 (zT (zz HB)));have n2_:=zA (zQ (g:=gb163) (o:=.cells #[.slice A0_0 l0_0.length c0_0,.slice A0_1 l0_1.length c0_1] 38 (0,0)) (zx BK163) hb);have n3_:=zA (zJb (zz HB) hb);clear HO_5;clear BK163;clear HB;have HO_5:=n0_;have HO170:=n1_;have BK163:=n2_;have HB:=n3_;clear n0_ n1_ n2_ n3_;(try clear hb);(try clear hb2);(try clear hk);(try clear hi);(try clear ho0);obtain ⟨Ao13,co13,eo13⟩:=Kd.R_slice HO170.out
      (first|subst eo13|(injection eo13 with f1_ f2_ f3_;have f4_:=f1_.symm;have f5_:=f3_.symm;clear f1_ f2_ f3_;subst f4_;subst f5_))
      refine hK.out _ _ ⟨(zP BK163.out 0).trans rfl,(zP BK163.out 1).trans rfl,((HB.out.cell (World.block_lt_of_cell? w _ hw167_0)).trans hw167_0)⟩ (fun hHeld => ?_)
      clear hK K
      refine norm_ (a':=?_) ?_ ?_
      rotate_left
      ·
       show Act.put _ (some 21) _ = _
       simp only [Act.put,zO,zEb,zFb,i64_w,i32_w]
       rfl
      refine one_ (i:=8) (N:=some 22) #[true,true,true,true,true,true,true,true,true,false,false] rfl rfl (one_of HT_.out (by kernel_rfl)) (by decide) (fun K hK => ?_)
      refine value_ (w1:=?_) (v:=?_) (by rfl) rfl ?_ ?_
      rotate_left 2
      ·
       go_simp
       constructor
       ·
        rfl
       ·
        rfl
      refine hK.out _ _ ⟨(zP (zG BK163.out _) 0).trans rfl,(zP (zG BK163.out _) 1).trans rfl,(World.cell?_alloc_lt _ _ _ (World.block_lt_of_cell? _ _ (((HB.out.cell (World.block_lt_of_cell? w _ hw167_0)).trans hw167_0)))).trans (((HB.out.cell (World.block_lt_of_cell? w _ hw167_0)).trans hw167_0))⟩ (fun hHeld => ?_)
      clear hK K
      refine norm_ (a':=?_) ?_ ?_
      rotate_left
      ·
       show Act.put _ (some 22) _ = _
       simp only [Act.put,zO,zEb,zFb,i64_w,i32_w]
       rfl
      refine one_ (i:=9) (N:=some 23) #[true,true,true,true,true,true,true,true,true,true,false] rfl rfl (one_of HT_.out (by kernel_rfl)) (by decide) (fun K hK => ?_)
      refine Kd.S_append_step (Kd.slice 3 (Kd.int .i64)) (w0:=w) w.heap.size (by rfl) (.tmp 14) (.tmp 22) 32 22 (.slice none 0 0) 24 rfl Tryz.underlying32 info22 rfl (by decide) (by omega) u5 x5_1 t168 [.slice Ao13 t168.length co13] (fun _ => True) (fun k_ => some k_ = (.slice Ao13 t168.length co13 : Value).ownBlock) rfl rfl ?aP (fun k_ hk_ => ((zGb (ok':=fun k_ => ((fun _ => True)) k_ ∧ some k_ ≠ (u5 : Value).ownBlock) (Kd.R_apart' (HO170.out) (Kd.S_typed HO_5.out) (by decide)) (fun k_ hk => ⟨trivial,hk.2⟩))).1 k_ hk_.symm) ?aF ?aO ?aB ?aS ?aL ?_
      (case aP => exact Kd.M_row (zGb (Kd.R_tight rfl (zGb (ok':=fun k_ => ((fun _ => True)) k_ ∧ some k_ ≠ (u5 : Value).ownBlock) (Kd.R_apart' (HO170.out) (Kd.S_typed HO_5.out) (by decide)) (fun k_ hk => ⟨trivial,hk.2⟩))) (fun _ h_ => h_)))
      (case aB => exact (zz HB))
      (case aF => exact (fun _ _ => trivial))
      (case aO => exact (by (with_reducible repeat (first|apply zM|apply zL|apply zN));exact zS HO_5.out (fun k_ hk => ⟨trivial,fun e_ => hk.2 e_⟩)))
      (case aS => exact (zT (zz HB)))
      (case aL => have:=LMc9.out;omega)
      intro v172 w12 ho hb hg hat
      rw [← Ny171.out] at ho;have n0_:=zA (blk_grown (g:=gb163) (o:=.cells #[.slice A0_0 l0_0.length c0_0,.slice A0_1 l0_1.length c0_1] 38 (0,0)) (zx BK163) hg (Kd.S_ne HO_5.out BK163.out (by decide)));have n1_:=zA (hb);have n2_:=zA (ho);clear BK163;clear HB;clear HO_5;clear HO170;have BK163:=n0_;have HB:=n1_;have HO173:=n2_;clear n0_ n1_ n2_;clear ho hb hg hat
      refine hK.out _ _ ⟨(zP BK163.out 0).trans rfl,(zP BK163.out 1).trans rfl,((HB.out.cell (World.block_lt_of_cell? w _ hw167_0)).trans hw167_0)⟩ (fun hHeld => ?_)
      clear hK K
      refine norm_ (a':=?_) ?_ ?_
      rotate_left
      ·
       show Act.put _ (some 23) _ = _
       simp only [Act.put,zO,zEb,zFb,i64_w,i32_w]
       rfl
      refine zut 10 5 HT_ ?_
      refine done_ (done_of HT_.out (by kernel_rfl)) ?_
      try go_wp2
      go_roundg k1
      case measure => have:=HK1.out;omega
      case rel => exact ⟨(y171),(wrap64 (x6_1 + 1)),za,H',⟨by have:=HK1.out;omega⟩,⟨zy HO173⟩,⟨zx BK163⟩,⟨zz HB⟩⟩
     ·
      rw [if_neg c9] at H
      exact absurd H (by simp)
    ·
     rw [if_neg c7] at H
     exact absurd H (by simp)
   ·
    rw [if_neg c6] at H;have c6b0:=decide_eq_false c6;clear c6
    obtain rfl:=Option.some.inj H
    go_wp2
    go_ret
    exact ⟨_,by first|rfl|(simp [errW_none,errW_some] <;> rfl)|(simp [*,errW_none,errW_some] <;> rfl),zy HO_5,zz HB⟩

/-! ### spec_l1In: function 88 -/
def spec_l1In.f (a0 : Int) (a1 : Int) (a2 : Int) : Option (Bool) := if a0 ≥ a1 then (some (decide (a0 ≤ a2))) else (some false)
set_option maxHeartbeats 8000000 in
set_option maxRecDepth 100000 in
theorem spec_l1In.calls (a0 : Int) (a1 : Int) (a2 : Int) (r : Bool) (w : World) (h : spec_l1In.f a0 a1 a2 = some r) :
  Calls Tryz.prog 88 #[.int .i64 a0, .int .i64 a1, .int .i64 a2] w fun e w' => e = .returned (.bool r) ∧ Drawn0 w w' := by
 have H : (if a0 ≥ a1 then (some (decide (a0 ≤ a2))) else (some false)) = some r:=h
 clear h
 by_cases c4 : a0 ≥ a1
 ·
  rw [if_pos c4] at H
  have c4b0 : decide (a1 ≤ a0) = true:=decide_eq_true c4
  clear c4
  obtain rfl:=Option.some.inj H
  go_enter Tryz.func88,Tryz.ntmps88
  go_wp2
  go_ret
  exact ⟨by first|rfl|(simp;done)|(simp [*];done),by repeat (first|exact Drawn0.refl _|apply Drawn0.step)⟩
 ·
  rw [if_neg c4] at H
  have c4b0 : decide (a1 ≤ a0) = false:=decide_eq_false c4
  clear c4
  obtain rfl:=Option.some.inj H
  go_enter Tryz.func88,Tryz.ntmps88
  go_wp2
  go_ret
  exact ⟨by first|rfl|(simp;done)|(simp [*];done),by repeat (first|exact Drawn0.refl _|apply Drawn0.step)⟩

/-! ### spec_IsSchema: function 74 -/
def spec_IsSchema.l0 : Nat → Int → List Int → Option (Bool)
 | 0, _, _ => none
 | k + 1, x3, x175000 => if x3 < (x175000.length : Int) then (if 0 ≤ x3 then ((spec_l1In.f (rd x175000 x3) 1 3).bind fun t176 => (if t176 = true then (spec_IsSchema.l0 k (wrap64 (x3 + 1)) x175000) else (some false))) else (none)) else ((spec_l1In.f (x175000.length : Int) 1 4).bind fun t177 => (some t177))
def spec_IsSchema.f (k : Nat) (l0_0 : List Int) : Option (Bool) := spec_IsSchema.l0 k 0 l0_0
set_option maxHeartbeats 8000000 in
set_option maxRecDepth 100000 in
theorem spec_IsSchema.calls (k : Nat) (A0_0 : Option Addr) (c0_0 : Nat) (l0_0 : List Int) (r : Bool) (w : World) (hr0_0 : Kd.C (Kd.int .i64) w A0_0 l0_0.length l0_0) (hc0_0 : l0_0.length ≤ c0_0) (h : spec_IsSchema.f k l0_0 = some r) :
  Calls Tryz.prog 74 #[.agg #[.slice A0_0 l0_0.length c0_0]] w fun e w' => e = .returned (.bool r) ∧ Below w.heap.size w w' := by
 have hu34:=Tryz.underlying34;have HR0_0:=zA hr0_0;have HC0_0:=zA hc0_0;clear hr0_0 hc0_0;have HB:=zA (Below.refl w.heap.size w)
 have H : (spec_IsSchema.l0 k 0 l0_0) = some r:=h
 clear h
 have H':=zA H
 clear H
 go_enter Tryz.func74,Tryz.ntmps74
 go_wp2_with (first|((with_reducible refine gate_dst (N:=1) rfl ?_);refine box_event ?hg (N:=1) ?hd (cs:=#[.slice A0_0 l0_0.length c0_0]) (t:=34) ?hr ?_;(case hd => rfl);(case hg => rfl);(case hr => first|(go_simp;done)|(go_simp;rfl));intro gb174 hg w2 hbox hb;have BK174:=zA (hbox);have GW174:=zA ((by rw [hg];exact (zT (zz HB)) : w.heap.size ≤ gb174));have GE174:=zA ((by rw [hg];exact (zT (zz HB)) : w.heap.size ≤ gb174));replace HB:=zA (zJb (zz HB) hb);clear hb hbox hg))
 go_loopg [3] k (fun kq v3 w' => ∃ (x3_1 : Int),v3 = .int .i64 x3_1 ∧ Aside0 (spec_IsSchema.l0 kq x3_1 l0_0 = some r) ∧ Aside0 (kq ≤ k) ∧ Aside0 (w'.heap[gb174]? = some (.cells #[(.slice A0_0 l0_0.length c0_0)] 34 (0,0))) ∧ Aside0 (Below w.heap.size w w'))
 case atStart => exact ⟨(0),za,H',⟨Nat.le_refl _⟩,⟨zx BK174⟩,⟨zz HB⟩⟩
 case round =>
  clear H';(try clear p2);obtain ⟨x3_1,rfl,HA,HK1,BK174,HB⟩:=hrel
  cases gk with
  | zero => exact absurd HA.out (by simp [spec_IsSchema.l0])
  | succ k1 =>
   have H:=HA.out;clear HA;simp only [spec_IsSchema.l0] at H
   by_cases c3 : x3_1 < (l0_0.length : Int)
   ·
    rw [if_pos c3] at H;have c3b0:=decide_eq_true c3;clear c3
    by_cases c4 : 0 ≤ x3_1
    ·
     rw [if_pos c4] at H;have c4b0:=decide_eq_true c4;clear c4;replace H:=Option.bind_eq_some_iff.mp H;obtain ⟨t176,A50,H⟩:=H;(try dsimp only at H);have A5:=zA A50;clear A50
     by_cases c6 : t176 = true
     ·
      subst c6
      rw [if_pos rfl] at H
      have H':=zA H
      clear H;have hcz7_0:=zc (.slice A0_0 l0_0.length c0_0) BK174 0 rfl;have hfz7_0:=blk_frozen BK174.out 0;have p175 : 0 ≤ (x3_1 : Int):=zXb ze;have q175 : x3_1 < (l0_0.length : Int):=zXb ze;obtain ⟨ad175,e175,hx175_0⟩:=Kd.at_int HR0_0.out x3_1 p175 q175
      cases e175
      replace hx175_0:=(HB.out.cell (World.block_lt_of_cell? w _ hx175_0)).trans hx175_0;replace p175:=eq_true p175;replace q175:=eq_true q175
      go_wp2_with (first|((with_reducible refine gate_callee (f:=88) rfl ?_);refine goesL_ (some 16) rfl rfl Tryz.func88 (by kernel_rfl) rfl #[.int .i64 (rd l0_0 x3_1),.int .i64 1,.int .i64 3] rfl (by (try simp only [zCb,zMb,zNb]);first|done|rfl|(simp only [zLb,zDb];rfl)) ?_;(with_reducible refine (spec_l1In.calls (rd l0_0 x3_1) 1 3 true _ A5.out).mono ?_);rintro e w' ⟨rfl,⟨nd,rfl⟩⟩;refine ⟨_,rfl,?_⟩))
      go_roundg k1
      case measure => have:=HK1.out;omega
      case rel => exact ⟨(wrap64 (x3_1 + 1)),za,H',⟨by have:=HK1.out;omega⟩,⟨zx BK174⟩,⟨zz HB⟩⟩
     ·
      replace c6:=Bool.eq_false_iff.mpr c6
      subst c6
      have H1 : (some false) = some r:=by rw [if_neg (show ¬ (false = true) by decide)] at H;exact H
      clear H;have H:=H1;clear H1
      obtain rfl:=Option.some.inj H
      have hcz8_0:=zc (.slice A0_0 l0_0.length c0_0) BK174 0 rfl;have hfz8_0:=blk_frozen BK174.out 0;have p175 : 0 ≤ (x3_1 : Int):=zXb ze;have q175 : x3_1 < (l0_0.length : Int):=zXb ze;obtain ⟨ad175,e175,hx175_0⟩:=Kd.at_int HR0_0.out x3_1 p175 q175
      cases e175
      replace hx175_0:=(HB.out.cell (World.block_lt_of_cell? w _ hx175_0)).trans hx175_0;replace p175:=eq_true p175;replace q175:=eq_true q175
      go_wp2_with (first|((with_reducible refine gate_callee (f:=88) rfl ?_);refine goesL_ (some 16) rfl rfl Tryz.func88 (by kernel_rfl) rfl #[.int .i64 (rd l0_0 x3_1),.int .i64 1,.int .i64 3] rfl (by (try simp only [zCb,zMb,zNb]);first|done|rfl|(simp only [zLb,zDb];rfl)) ?_;(with_reducible refine (spec_l1In.calls (rd l0_0 x3_1) 1 3 false _ A5.out).mono ?_);rintro e w' ⟨rfl,⟨nd,rfl⟩⟩;refine ⟨_,rfl,?_⟩))
      go_ret
      exact ⟨by first|rfl|(simp [errW_none,errW_some] <;> rfl)|(simp [*,errW_none,errW_some] <;> rfl),zz HB⟩
    ·
     rw [if_neg c4] at H
     exact absurd H (by simp)
   ·
    rw [if_neg c3] at H;have c3b0:=decide_eq_false c3;clear c3;replace H:=Option.bind_eq_some_iff.mp H;obtain ⟨t177,A90,H⟩:=H;(try dsimp only at H);have A9:=zA A90;clear A90
    obtain rfl:=Option.some.inj H
    have hcz10_0:=zc (.slice A0_0 l0_0.length c0_0) BK174 0 rfl;have hfz10_0:=blk_frozen BK174.out 0
    go_wp2_with (first|((with_reducible refine gate_callee (f:=88) rfl ?_);refine goesL_ (some 21) rfl rfl Tryz.func88 (by kernel_rfl) rfl #[.int .i64 (l0_0.length : Int),.int .i64 1,.int .i64 4] rfl (by (try simp only [zCb,zMb,zNb]);first|done|rfl|(simp only [zLb,zDb];rfl)) ?_;(with_reducible refine (spec_l1In.calls (l0_0.length : Int) 1 4 t177 _ A9.out).mono ?_);rintro e w' ⟨rfl,⟨nd,rfl⟩⟩;refine ⟨_,rfl,?_⟩))
    go_ret
    exact ⟨by first|rfl|(simp [errW_none,errW_some] <;> rfl)|(simp [*,errW_none,errW_some] <;> rfl),zz HB⟩

/-! ### spec_IsVar: function 90 -/
def spec_IsVar.f (a0 : Int) : Option (Bool) := (spec_l1In.f a0 0 19).bind fun t178 => (some t178)
set_option maxHeartbeats 8000000 in
set_option maxRecDepth 100000 in
theorem spec_IsVar.calls (a0 : Int) (r : Bool) (w : World) (h : spec_IsVar.f a0 = some r) :
  Calls Tryz.prog 90 #[.int .i64 a0] w fun e w' => e = .returned (.bool r) ∧ Drawn0 w w' := by
 have H : ((spec_l1In.f a0 0 19).bind fun t178 => (some t178)) = some r:=h
 clear h;replace H:=Option.bind_eq_some_iff.mp H;obtain ⟨t178,A20,H⟩:=H;(try dsimp only at H);have A2:=zA A20;clear A20
 obtain rfl:=Option.some.inj H
 go_enter Tryz.func90,Tryz.ntmps90
 go_wp2_with (first|((with_reducible refine gate_callee (f:=88) rfl ?_);refine goesL_ (some 4) rfl rfl Tryz.func88 (by kernel_rfl) rfl #[.int .i64 a0,.int .i64 0,.int .i64 19] rfl (by (try simp only [zCb,zMb,zNb]);first|done|rfl|(simp only [zLb,zDb];rfl)) ?_;(with_reducible refine (spec_l1In.calls a0 0 19 t178 _ A2.out).mono ?_);rintro e w' ⟨rfl,⟨nd,rfl⟩⟩;refine ⟨_,rfl,?_⟩))
 go_ret
 exact ⟨by first|rfl|(simp;done)|(simp [*];done),by repeat (first|exact Drawn0.refl _|apply Drawn0.step)⟩

/-! ### spec_ConstOf: function 114 -/
def spec_ConstOf.f (a0 : Int) : Option (Int) := (spec_l1In.f a0 (-80) (-1)).bind fun t179 => (if t179 = true then (some (wrap64 ((-1) - a0))) else (some (-1)))
set_option maxHeartbeats 8000000 in
set_option maxRecDepth 100000 in
theorem spec_ConstOf.calls (a0 : Int) (r : Int) (w : World) (h : spec_ConstOf.f a0 = some r) :
  Calls Tryz.prog 114 #[.int .i64 a0] w fun e w' => e = .returned (.int .i64 r) ∧ Drawn0 w w' := by
 have H : ((spec_l1In.f a0 (-80) (-1)).bind fun t179 => (if t179 = true then (some (wrap64 ((-1) - a0))) else (some (-1)))) = some r:=h
 clear h;replace H:=Option.bind_eq_some_iff.mp H;obtain ⟨t179,A20,H⟩:=H;(try dsimp only at H);have A2:=zA A20;clear A20
 by_cases c3 : t179 = true
 ·
  subst c3
  rw [if_pos rfl] at H
  obtain rfl:=Option.some.inj H
  go_enter Tryz.func114,Tryz.ntmps114
  go_wp2_with (first|((with_reducible refine gate_callee (f:=88) rfl ?_);refine goesL_ (some 4) rfl rfl Tryz.func88 (by kernel_rfl) rfl #[.int .i64 a0,.int .i64 (-80),.int .i64 (-1)] rfl (by (try simp only [zCb,zMb,zNb]);first|done|rfl|(simp only [zLb,zDb];rfl)) ?_;(with_reducible refine (spec_l1In.calls a0 (-80) (-1) true _ A2.out).mono ?_);rintro e w' ⟨rfl,⟨nd,rfl⟩⟩;refine ⟨_,rfl,?_⟩))
  go_ret
  exact ⟨by first|rfl|(simp;done)|(simp [*];done),by repeat (first|exact Drawn0.refl _|apply Drawn0.step)⟩
 ·
  replace c3:=Bool.eq_false_iff.mpr c3
  subst c3
  have H1 : (some (-1)) = some r:=by rw [if_neg (show ¬ (false = true) by decide)] at H;exact H
  clear H;have H:=H1;clear H1
  obtain rfl:=Option.some.inj H
  go_enter Tryz.func114,Tryz.ntmps114
  go_wp2_with (first|((with_reducible refine gate_callee (f:=88) rfl ?_);refine goesL_ (some 4) rfl rfl Tryz.func88 (by kernel_rfl) rfl #[.int .i64 a0,.int .i64 (-80),.int .i64 (-1)] rfl (by (try simp only [zCb,zMb,zNb]);first|done|rfl|(simp only [zLb,zDb];rfl)) ?_;(with_reducible refine (spec_l1In.calls a0 (-80) (-1) false _ A2.out).mono ?_);rintro e w' ⟨rfl,⟨nd,rfl⟩⟩;refine ⟨_,rfl,?_⟩))
  go_ret
  exact ⟨by first|rfl|(simp;done)|(simp [*];done),by repeat (first|exact Drawn0.refl _|apply Drawn0.step)⟩

/-! ### spec_IsTerm: function 107 -/
def spec_IsTerm.f (a0 : Int) : Option (Bool) := (spec_IsVar.f a0).bind fun t180 => (if t180 = true then (some true) else ((spec_ConstOf.f a0).bind fun t181 => (some (decide (t181 ≥ 0)))))
set_option maxHeartbeats 8000000 in
set_option maxRecDepth 100000 in
theorem spec_IsTerm.calls (a0 : Int) (r : Bool) (w : World) (h : spec_IsTerm.f a0 = some r) :
  Calls Tryz.prog 107 #[.int .i64 a0] w fun e w' => e = .returned (.bool r) ∧ Drawn0 w w' := by
 have H : ((spec_IsVar.f a0).bind fun t180 => (if t180 = true then (some true) else ((spec_ConstOf.f a0).bind fun t181 => (some (decide (t181 ≥ 0)))))) = some r:=h
 clear h;replace H:=Option.bind_eq_some_iff.mp H;obtain ⟨t180,A20,H⟩:=H;(try dsimp only at H);have A2:=zA A20;clear A20
 by_cases c3 : t180 = true
 ·
  subst c3
  rw [if_pos rfl] at H
  obtain rfl:=Option.some.inj H
  go_enter Tryz.func107,Tryz.ntmps107
  go_wp2_with (first|((with_reducible refine gate_callee (f:=90) rfl ?_);refine goesL_ (some 4) rfl rfl Tryz.func90 (by kernel_rfl) rfl #[.int .i64 a0] rfl (by (try simp only [zCb,zMb,zNb]);first|done|rfl|(simp only [zLb,zDb];rfl)) ?_;(with_reducible refine (spec_IsVar.calls a0 true _ A2.out).mono ?_);rintro e w' ⟨rfl,⟨nd,rfl⟩⟩;refine ⟨_,rfl,?_⟩))
  go_ret
  exact ⟨by first|rfl|(simp;done)|(simp [*];done),by repeat (first|exact Drawn0.refl _|apply Drawn0.step)⟩
 ·
  replace c3:=Bool.eq_false_iff.mpr c3
  subst c3
  have H1 : ((spec_ConstOf.f a0).bind fun t181 => (some (decide (t181 ≥ 0)))) = some r:=by rw [if_neg (show ¬ (false = true) by decide)] at H;exact H
  clear H;have H:=H1;clear H1;replace H:=Option.bind_eq_some_iff.mp H;obtain ⟨t181,A40,H⟩:=H;(try dsimp only at H);have A4:=zA A40;clear A40
  obtain rfl:=Option.some.inj H
  go_enter Tryz.func107,Tryz.ntmps107
  go_wp2_with (first|((with_reducible refine gate_callee (f:=90) rfl ?_);refine goesL_ (some 4) rfl rfl Tryz.func90 (by kernel_rfl) rfl #[.int .i64 a0] rfl (by (try simp only [zCb,zMb,zNb]);first|done|rfl|(simp only [zLb,zDb];rfl)) ?_;(with_reducible refine (spec_IsVar.calls a0 false _ A2.out).mono ?_);rintro e w' ⟨rfl,⟨nd,rfl⟩⟩;refine ⟨_,rfl,?_⟩)|(go_at_call 114;(with_reducible refine (spec_ConstOf.calls a0 t181 _ A4.out).mono ?_);rintro e w' ⟨rfl,⟨nd,rfl⟩⟩))
  go_ret
  exact ⟨by first|rfl|(simp;done)|(simp [*];done),by repeat (first|exact Drawn0.refl _|apply Drawn0.step)⟩

/-! ### spec_l3Terms: function 87 -/
def spec_l3Terms.l0 : Nat → List Int → Int → Option (Bool)
 | 0, _, _ => none
 | k + 1, x0, x3 => if x3 < (x0.length : Int) then (if 0 ≤ x3 then ((spec_IsTerm.f (rd x0 x3)).bind fun t183 => (if t183 = true then (spec_l3Terms.l0 k x0 (wrap64 (x3 + 1))) else (some false))) else (none)) else (some (decide ((x0.length : Int) ≤ 3)))
def spec_l3Terms.f (k : Nat) (l0 : List Int) : Option (Bool) := spec_l3Terms.l0 k l0 0
set_option maxHeartbeats 8000000 in
set_option maxRecDepth 100000 in
theorem spec_l3Terms.calls (k : Nat) (A0 : Option Addr) (c0 : Nat) (l0 : List Int) (r : Bool) (w : World) (hr0 : Kd.C (Kd.int .i64) w A0 l0.length l0) (hc0 : l0.length ≤ c0) (h : spec_l3Terms.f k l0 = some r) :
  Calls Tryz.prog 87 #[.slice A0 l0.length c0] w fun e w' => e = .returned (.bool r) ∧ Drawn0 w w' := by
 have HR0:=zA hr0;have HC0:=zA hc0;clear hr0 hc0
 have H : (spec_l3Terms.l0 k l0 0) = some r:=h
 clear h
 have H':=zA H
 clear H
 go_enter Tryz.func87,Tryz.ntmps87
 go_wp2
 go_loopg [3] k (fun kq v3 w' => ∃ (x3_1 : Int),v3 = .int .i64 x3_1 ∧ Aside0 (spec_l3Terms.l0 kq l0 x3_1 = some r) ∧ Aside0 (kq ≤ k) ∧ Drawn0 w w')
 case atStart => exact ⟨(0),za,H',⟨Nat.le_refl _⟩,by repeat (first|exact Drawn0.refl _|apply Drawn0.step)⟩
 case round =>
  clear H';obtain ⟨x3_1,rfl,HA,HK1,⟨m1,rfl⟩⟩:=hrel
  cases gk with
  | zero => exact absurd HA.out (by simp [spec_l3Terms.l0])
  | succ k1 =>
   have H:=HA.out;clear HA;simp only [spec_l3Terms.l0] at H
   by_cases c2 : x3_1 < (l0.length : Int)
   ·
    rw [if_pos c2] at H;have c2b0:=decide_eq_true c2;clear c2
    by_cases c3 : 0 ≤ x3_1
    ·
     rw [if_pos c3] at H;have c3b0:=decide_eq_true c3;clear c3;replace H:=Option.bind_eq_some_iff.mp H;obtain ⟨t183,A40,H⟩:=H;(try dsimp only at H);have A4:=zA A40;clear A40
     by_cases c5 : t183 = true
     ·
      subst c5
      rw [if_pos rfl] at H
      have H':=zA H
      clear H;have p182 : 0 ≤ (x3_1 : Int):=zXb ze;have q182 : x3_1 < (l0.length : Int):=zXb ze;obtain ⟨ad182,e182,hx182_0⟩:=Kd.at_int HR0.out x3_1 p182 q182
      cases e182
      replace p182:=eq_true p182;replace q182:=eq_true q182
      go_wp2_with (first|((with_reducible refine gate_callee (f:=107) rfl ?_);refine goesL_ (some 14) rfl rfl Tryz.func107 (by kernel_rfl) rfl #[.int .i64 (rd l0 x3_1)] rfl (by (try simp only [zCb,zMb,zNb]);first|done|rfl|(simp only [zLb,zDb];rfl)) ?_;(with_reducible refine (spec_IsTerm.calls (rd l0 x3_1) true _ A4.out).mono ?_);rintro e w' ⟨rfl,⟨nd,rfl⟩⟩;refine ⟨_,rfl,?_⟩))
      go_roundg k1
      case measure => have:=HK1.out;omega
      case rel => exact ⟨(wrap64 (x3_1 + 1)),za,H',⟨by have:=HK1.out;omega⟩,by repeat (first|exact Drawn0.refl _|apply Drawn0.step)⟩
     ·
      replace c5:=Bool.eq_false_iff.mpr c5
      subst c5
      have H1 : (some false) = some r:=by rw [if_neg (show ¬ (false = true) by decide)] at H;exact H
      clear H;have H:=H1;clear H1
      obtain rfl:=Option.some.inj H
      have p182 : 0 ≤ (x3_1 : Int):=zXb ze;have q182 : x3_1 < (l0.length : Int):=zXb ze;obtain ⟨ad182,e182,hx182_0⟩:=Kd.at_int HR0.out x3_1 p182 q182
      cases e182
      replace p182:=eq_true p182;replace q182:=eq_true q182
      go_wp2_with (first|((with_reducible refine gate_callee (f:=107) rfl ?_);refine goesL_ (some 14) rfl rfl Tryz.func107 (by kernel_rfl) rfl #[.int .i64 (rd l0 x3_1)] rfl (by (try simp only [zCb,zMb,zNb]);first|done|rfl|(simp only [zLb,zDb];rfl)) ?_;(with_reducible refine (spec_IsTerm.calls (rd l0 x3_1) false _ A4.out).mono ?_);rintro e w' ⟨rfl,⟨nd,rfl⟩⟩;refine ⟨_,rfl,?_⟩))
      go_ret
      exact ⟨by first|rfl|(simp;done)|(simp [*];done),by repeat (first|exact Drawn0.refl _|apply Drawn0.step)⟩
    ·
     rw [if_neg c3] at H
     exact absurd H (by simp)
   ·
    rw [if_neg c2] at H;have c2b0:=decide_eq_false c2;clear c2
    obtain rfl:=Option.some.inj H
    go_wp2
    go_ret
    exact ⟨by first|rfl|(simp;done)|(simp [*];done),by repeat (first|exact Drawn0.refl _|apply Drawn0.step)⟩

end Go.Proofs.YtfelabhakgcifaaGreat.QFnExactAnswers
