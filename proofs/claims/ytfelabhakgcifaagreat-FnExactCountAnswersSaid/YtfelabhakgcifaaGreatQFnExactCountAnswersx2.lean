/- Walks through the Go functions that FnExactCountAnswers reaches: each call returns what the Lean function beside it says, within the bounds that the theorem names. -/
import Derived.Test.YtfelabhakgcifaaGreatQFnExactCountAnswersx0
import Derived.Test.YtfelabhakgcifaaGreatQFnExactCountAnswersx1
namespace Go.Proofs.YtfelabhakgcifaaGreat.QFnExactCountAnswers
open Go.RowKit Go.Proofs.YtfelabhakgcifaaGreatW.PrintWords Go.Proofs.YtfelabhakgcifaaGreatW.PrintLast Go.Proofs.YtfelabhakgcifaaGreatW.PrintMore
attribute [local go_sem] max2_int min2_int max_two min_two max_three min_three max_four min_four   -- for this text's walks alone
set_option linter.unusedVariables false
set_option linter.unusedSimpArgs false


/-! ### laws_toFact: function 35 -/
def laws_toFact.f (k : Nat) (a0_0 : Int) (l0_1 : List Int) : Option (Int × List Int) := (laws_toIntS.f k l0_1).bind fun t152 => (some (a0_0, t152))
set_option maxHeartbeats 8000000 in
set_option maxRecDepth 100000 in
theorem laws_toFact.calls (k : Nat) (a0_0 : Int) (A0_1 : Option Addr) (c0_1 : Nat) (l0_1 : List Int) (r1 : Int) (r2 : List Int) (w : World) (hr0_1 : Kd.C (Kd.int .i64) w A0_1 l0_1.length l0_1) (hc0_1 : l0_1.length ≤ c0_1) (h : laws_toFact.f k a0_0 l0_1 = some (r1, r2)) :
  Calls Tryz.prog 35 #[.agg #[.int .i64 a0_0, .slice A0_1 l0_1.length c0_1]] w fun e w' => ∃ v1_ : Value, e = .returned (.agg #[.int .i64 r1, v1_]) ∧ Kd.R (Kd.int .i64) 3 w' w.heap.size (fun _ => True) v1_ r2 ∧ Below w.heap.size w w' := by
 have hu59:=Tryz.underlying59;have hu64:=Tryz.underlying64;have HR0_1:=zA hr0_1;have HC0_1:=zA hc0_1;clear hr0_1 hc0_1;have HB:=zA (Below.refl w.heap.size w)
 have H : ((laws_toIntS.f k l0_1).bind fun t152 => (some (a0_0,t152))) = some (r1,r2):=h
 clear h;replace H:=Option.bind_eq_some_iff.mp H;obtain ⟨t152,A20,H⟩:=H;(try dsimp only at H);have A2:=zA A20;clear A20;simp only [Option.some.injEq,Prod.mk.injEq] at H;obtain ⟨rfl,rfl⟩:=H
 go_enter Tryz.func35,Tryz.ntmps35
 go_wp2_with (first|((with_reducible refine gate_dst (N:=1) rfl ?_);refine box_event ?hg (N:=1) ?hd (cs:=#[.int .i64 a0_0,.slice A0_1 l0_1.length c0_1]) (t:=59) ?hr ?_;(case hd => rfl);(case hg => rfl);(case hr => first|(go_simp;done)|(go_simp;rfl));intro gb149 hg w3 hbox hb;have BK149:=zA (hbox);have GW149:=zA ((by rw [hg];exact (zT (zz HB)) : w.heap.size ≤ gb149));have GE149:=zA ((by rw [hg];exact (zT (zz HB)) : w.heap.size ≤ gb149));replace HB:=zA (zJb (zz HB) hb);clear hb hbox hg)|((with_reducible refine gate_dst (N:=2) rfl ?_);refine box_event ?hg (N:=2) ?hd (cs:=#[.int .i64 0,.slice none 0 0]) (t:=64) ?hr ?_;(case hd => rfl);(case hg => rfl);(case hr => first|(go_simp;done)|(go_simp;rfl));intro gb150 hg w4 hbox hb;have BK150:=zA (hbox);have GW150:=zA ((by rw [hg];exact (zT (zz HB)) : w.heap.size ≤ gb150));have GE150:=zA ((by rw [hg];exact (zT (zz HB)) : w.heap.size ≤ gb150));replace HB:=zA (zJb (zz HB) hb);have NB149_150:=zA ((by rw [hg];exact Nat.ne_of_lt (blk_lt (g:=gb149) (o:=.cells #[.int .i64 a0_0,.slice A0_1 l0_1.length c0_1] 59 (0,0)) (zx BK149)) : gb149 ≠ gb150));have NB150_149:=zA ((by rw [hg];exact Nat.ne_of_gt (blk_lt (g:=gb149) (o:=.cells #[.int .i64 a0_0,.slice A0_1 l0_1.length c0_1] 59 (0,0)) (zx BK149)) : gb150 ≠ gb149));replace BK149:=zA (zQ (g:=gb149) (o:=.cells #[.int .i64 a0_0,.slice A0_1 l0_1.length c0_1] 59 (0,0)) (zx BK149) hb);clear hb hbox hg)|((with_reducible refine gate_dst (N:=3) rfl ?_);refine box_event ?hg (N:=3) ?hd (cs:=#[.int .i64 0,.slice none 0 0]) (t:=64) ?hr ?_;(case hd => rfl);(case hg => rfl);(case hr => first|(go_simp;done)|(go_simp;rfl));intro gb151 hg w5 hbox hb;have BK151:=zA (hbox);have GW151:=zA ((by rw [hg];exact (zT (zz HB)) : w.heap.size ≤ gb151));have GE151:=zA ((by rw [hg];exact (zT (zz HB)) : w.heap.size ≤ gb151));replace HB:=zA (zJb (zz HB) hb);have NB149_151:=zA ((by rw [hg];exact Nat.ne_of_lt (blk_lt (g:=gb149) (o:=.cells #[.int .i64 a0_0,.slice A0_1 l0_1.length c0_1] 59 (0,0)) (zx BK149)) : gb149 ≠ gb151));have NB151_149:=zA ((by rw [hg];exact Nat.ne_of_gt (blk_lt (g:=gb149) (o:=.cells #[.int .i64 a0_0,.slice A0_1 l0_1.length c0_1] 59 (0,0)) (zx BK149)) : gb151 ≠ gb149));replace BK149:=zA (zQ (g:=gb149) (o:=.cells #[.int .i64 a0_0,.slice A0_1 l0_1.length c0_1] 59 (0,0)) (zx BK149) hb);have NB150_151:=zA ((by rw [hg];exact Nat.ne_of_lt (blk_lt (g:=gb150) (o:=.cells #[.int .i64 0,.slice none 0 0] 64 (0,0)) (zx BK150)) : gb150 ≠ gb151));have NB151_150:=zA ((by rw [hg];exact Nat.ne_of_gt (blk_lt (g:=gb150) (o:=.cells #[.int .i64 0,.slice none 0 0] 64 (0,0)) (zx BK150)) : gb151 ≠ gb150));replace BK150:=zA (zQ (g:=gb150) (o:=.cells #[.int .i64 0,.slice none 0 0] 64 (0,0)) (zx BK150) hb);clear hb hbox hg;have hnb6:=NB149_150.out;have hnc6:=NB150_149.out;have hnb7:=NB149_151.out;have hnc7:=NB151_149.out;have hcz8_0:=zc (.int .i64 a0_0) BK149 0 rfl;have hcz8_1:=zc (.slice A0_1 l0_1.length c0_1) BK149 1 rfl;have hfz8_0:=blk_frozen BK149.out 0;have hfz8_1:=blk_frozen BK149.out 1;have hnb9:=NB151_150.out;have hnc9:=NB150_151.out;have hcz10_0:=zc (.int .i64 0) BK151 0 rfl;have hcz10_1:=zc (.slice none 0 0) BK151 1 rfl;have hfz10_0:=blk_frozen BK151.out 0;have hfz10_1:=blk_frozen BK151.out 1)|((with_reducible refine gate_callee (f:=33) rfl ?_);refine goesL_ (some 9) rfl rfl Tryz.func33 (by kernel_rfl) rfl #[.slice A0_1 l0_1.length c0_1] rfl (by (try simp only [zCb,zMb,zNb]);first|done|rfl|(simp only [zLb,zDb];rfl)) ?_;(with_reducible refine (laws_toIntS.calls k _ _ l0_1 t152 _ ?side1 ?side2 A2.out).mono ?_);(case side1 => exact zKb HR0_1.out (zz HB));(case side2 => exact HC0_1.out);rintro e w11 ⟨v153,rfl,ho0,hb⟩;refine ⟨_,rfl,?_⟩;have HO154:=zA (zHb ho0 (zT (zz HB)));replace BK149:=zA (zQ (g:=gb149) (o:=.cells #[.int .i64 a0_0,.slice A0_1 l0_1.length c0_1] 59 (0,0)) (by (with_reducible repeat (first|refine zF ?_ _|refine zI ?_|refine zG ?_ _));refine zUb ?_ NB149_151.out _;(with_reducible repeat (first|refine zF ?_ _|refine zI ?_|refine zG ?_ _));exact BK149.out) hb);replace BK150:=zA (zQ (g:=gb150) (o:=.cells #[.int .i64 0,.slice none 0 0] 64 (0,0)) (by (with_reducible repeat (first|refine zF ?_ _|refine zI ?_|refine zG ?_ _));refine zUb ?_ NB150_151.out _;(with_reducible repeat (first|refine zF ?_ _|refine zI ?_|refine zG ?_ _));exact BK150.out) hb);replace BK151:=zA (zQ (g:=gb151) (o:=.cells #[.int .i64 a0_0,.slice none 0 0] 64 (0,0)) (by (with_reducible repeat (first|refine zF ?_ _|refine zI ?_|refine zG ?_ _));refine blk_put (cs:=#[.int .i64 0,.slice none 0 0]) ?_ 0 _ rfl;(with_reducible repeat (first|refine zF ?_ _|refine zI ?_|refine zG ?_ _));exact BK151.out) hb);replace HB:=zA (zJb (zz HB) hb);(try clear hb);(try clear hb2);(try clear hk);(try clear hi);(try clear ho0);obtain ⟨Ao12,co12,eo12⟩:=Kd.R_slice HO154.out;subst eo12;have hcz13_0:=zc (.int .i64 a0_0) BK151 0 rfl;have hcz13_1:=zc (.slice none 0 0) BK151 1 rfl;have hfz13_0:=blk_frozen BK151.out 0;have hfz13_1:=blk_frozen BK151.out 1;have hcz14_0:=zc (.int .i64 0) BK150 0 rfl;have hcz14_1:=zc (.slice none 0 0) BK150 1 rfl;have hfz14_0:=blk_frozen BK150.out 0;have hfz14_1:=blk_frozen BK150.out 1))
 refine bodyPost_ret (results_cell_row rfl _ _ gb150 64 #[.int .i64 a0_0,.slice Ao12 t152.length co12] (0,0) _ rfl (by (with_reducible repeat (first|refine zF ?_ _|refine zI ?_|refine zG ?_ _));refine blk_put (cs:=#[.int .i64 a0_0,.slice none 0 0]) ?_ 1 _ rfl;(with_reducible repeat (first|refine zF ?_ _|refine zI ?_|refine zG ?_ _));refine blk_put (cs:=#[.int .i64 0,.slice none 0 0]) ?_ 0 _ rfl;(with_reducible repeat (first|refine zF ?_ _|refine zI ?_|refine zG ?_ _));refine zUb ?_ NB150_151.out _;(with_reducible repeat (first|refine zF ?_ _|refine zI ?_|refine zG ?_ _));exact BK150.out) Tryz.underlying64 rfl (by kernel_rfl)) rfl ?_
 exact ⟨_,by first|rfl|(simp [errW_none,errW_some] <;> rfl)|(simp [*,errW_none,errW_some] <;> rfl),by (with_reducible repeat (first|apply zE|apply zD|apply zH));exact zGb (zR (p:=⟨gb150,1,none⟩) (zR (p:=⟨gb150,0,none⟩) (zR (p:=⟨gb151,1,none⟩) (Kd.R_types (Kd.R_types HO154.out BK151.out (by decide)) BK150.out (by decide)) (fun _ hk => hk.1.2) (.slice Ao12 t152.length co12)) (fun _ hk => hk.2) (.int .i64 a0_0)) (fun _ hk => hk.2) (.slice Ao12 t152.length co12)) (fun _ hk => trivial),zz HB⟩

/-! ### laws_toFactS: function 11 -/
def laws_toFactS.l0 : Nat → List (S59) → List (S64) → Int → Option ((List (S64)))
 | 0, _, _, _ => none
 | k + 1, x0, x3, x4 => if x4 < (x0.length : Int) then (if 0 ≤ x4 then ((laws_toFact.f k ((rd_T59 x0 x4).f0) ((rd_T59 x0 x4).f1)).bind fun bt159 => (if x4 < (x3.length : Int) then (laws_toFactS.l0 k x0 (x3.set (x4 : Int).toNat (⟨bt159.1, bt159.2⟩ : S64)) (wrap64 (x4 + 1))) else (none))) else (none)) else (some x3)
def laws_toFactS.f (k : Nat) (l0 : List (S59)) : Option ((List (S64))) := if 0 ≤ (l0.length : Int) then (if ((l0.length : Int) : Int).toNat ≤ 8796093022208 then (laws_toFactS.l0 k l0 (List.replicate ((l0.length : Int) : Int).toNat z64) 0) else (none)) else (none)
set_option maxHeartbeats 8000000 in
set_option maxRecDepth 100000 in
theorem laws_toFactS.calls (k : Nat) (A0 : Option Addr) (c0 : Nat) (l0 : List (S59)) (r : List (S64)) (w : World) (hr0 : Kd.C k59 w A0 l0.length l0) (hc0 : l0.length ≤ c0) (h : laws_toFactS.f k l0 = some r) :
  Calls Tryz.prog 11 #[.slice A0 l0.length c0] w fun e w' => ∃ v0_ : Value, e = .returned (v0_) ∧ Kd.S k64 64 w' w.heap.size (fun _ => True) v0_ r ∧ Below w.heap.size w w' := by
 have hu59:=Tryz.underlying59;have hu64:=Tryz.underlying64;have HR0:=zA hr0;have HC0:=zA hc0;clear hr0 hc0;have HB:=zA (Below.refl w.heap.size w)
 have H : (if 0 ≤ (l0.length : Int) then (if ((l0.length : Int) : Int).toNat ≤ 8796093022208 then (laws_toFactS.l0 k l0 (List.replicate ((l0.length : Int) : Int).toNat z64) 0) else (none)) else (none)) = some r:=h
 clear h
 by_cases c2 : 0 ≤ (l0.length : Int)
 ·
  rw [if_pos c2] at H;have c2b0:=eq_true c2;have c2b1:=decide_eq_true c2;clear c2
  by_cases c3 : ((l0.length : Int) : Int).toNat ≤ 8796093022208
  ·
   rw [if_pos c3] at H;have c3b0:=eq_true c3;have c3b1:=decide_eq_true c3;clear c3;obtain ⟨y155,hy155⟩ : ∃ y_ : List (S64),y_ = (List.replicate ((l0.length : Int) : Int).toNat z64):=⟨_,rfl⟩
   replace H : (laws_toFactS.l0 k l0 y155 0) = some r:=by first|(rw [hy155];with_reducible exact H)|(have H2_:=(Option.bind_some _ _).symm.trans H;rw [hy155];with_reducible exact H2_)|(have H2_:=(Option.bind_some _ _).symm.trans H;with_reducible exact H2_)|with_reducible exact H|(rw [hy155];exact H)|exact H
   have Ny155:=zA hy155;clear hy155
   have H':=zA H
   clear H
   go_enter Tryz.func11,Tryz.ntmps11
   go_wp2_with (first|((with_reducible refine gate_dst (N:=7) rfl ?_);refine Kd.S_make k64 _ 64 rfl (N:=7) rfl 40 _ _ rfl (l0.length : Int) rfl rfl Tryz.underlying40 (.agg #[(.int .i64 0),(.slice none 0 0)]) 32 info64 rfl (by decide) (by omega) z64 (ok:=fun _ => True) (okp:=fun _ => True) (k64_mkM _ _ _ z64 (Kd.R_nil _ _ _ _ _)) (fun _ hk => hk) trivial (zXb ze) (Nat.le_trans (Nat.mul_le_mul_right _ (zXb ze : (l0.length : Int).toNat ≤ 8796093022208)) (by omega)) (Below.refl _ _) (Nat.le_refl _) ?_;intro v156 w4 ho5 hb hg_ hnew_;clear hg_ hnew_;(first|rw [← Ny155.out] at ho5|(simp only [Int.reduceToNat] at ho5;rw [← Ny155.out] at ho5));have HO157:=zA (zIb ho5 (zT (zz HB)));replace HB:=zA (zJb (zz HB) hb);clear hb ho5))
   go_loopg [4] k (fun kq v4 w' => ∃ (x3_1 : List (S64)) (x4_1 : Int),v4 = .int .i64 x4_1 ∧ Aside0 (laws_toFactS.l0 kq l0 x3_1 x4_1 = some r) ∧ Aside0 (kq ≤ k) ∧ Aside0 (Kd.S k64 64 w' w.heap.size (fun _ => True) v156 x3_1) ∧ Aside0 (Below w.heap.size w w'))
   case atStart => exact ⟨(y155),(0),za,H',⟨Nat.le_refl _⟩,⟨zy HO157⟩,⟨zz HB⟩⟩
   case round =>
    clear H';(try clear c1);(try clear c2);(try clear c2b0);(try clear c2b1);(try clear p2);(try clear c3);(try clear c3b0);(try clear c3b1);obtain ⟨x3_1,x4_1,rfl,HA,HK1,HO_3,HB⟩:=hrel
    cases gk with
    | zero => exact absurd HA.out (by simp [laws_toFactS.l0])
    | succ k1 =>
     have H:=HA.out;clear HA;simp only [laws_toFactS.l0] at H
     by_cases c6 : x4_1 < (l0.length : Int)
     ·
      rw [if_pos c6] at H;have c6b0:=decide_eq_true c6;clear c6
      by_cases c7 : 0 ≤ x4_1
      ·
       rw [if_pos c7] at H;have c7b0:=decide_eq_true c7;clear c7;replace H:=Option.bind_eq_some_iff.mp H;obtain ⟨⟨t159,t160⟩,A80,H⟩:=H;(try dsimp only at H);have A8:=zA A80;clear A80
       by_cases c9 : x4_1 < (x3_1.length : Int)
       ·
        rw [if_pos c9] at H;have c9b0:=decide_eq_true c9;clear c9;obtain ⟨y163,hy163⟩ : ∃ y_ : List (S64),y_ = (x3_1.set (x4_1 : Int).toNat (⟨t159,t160⟩ : S64)):=⟨_,rfl⟩
        replace H : (laws_toFactS.l0 k1 l0 y163 (wrap64 (x4_1 + 1))) = some r:=by first|(rw [hy163];with_reducible exact H)|(have H2_:=(Option.bind_some _ _).symm.trans H;rw [hy163];with_reducible exact H2_)|(have H2_:=(Option.bind_some _ _).symm.trans H;with_reducible exact H2_)|with_reducible exact H|(rw [hy163];exact H)|exact H
        have Ny163:=zA hy163;clear hy163
        have H':=zA H
        clear H;have p158 : 0 ≤ (x4_1 : Int):=zXb ze;have q158 : x4_1 < (l0.length : Int):=zXb ze;obtain ⟨ad158,A158_1,c158_1,e158,hx158_0,hx158_1,hl158_1,hi158_1⟩:=at_T59 HR0.out x4_1 p158 q158
        cases e158
        replace hx158_0:=(HB.out.cell (World.block_lt_of_cell? w _ hx158_0)).trans hx158_0;replace hx158_1:=(HB.out.cell (World.block_lt_of_cell? w _ hx158_1)).trans hx158_1;have HR158_1:=zA hi158_1;have HC158_1:=zA hl158_1;clear hi158_1 hl158_1;replace p158:=eq_true p158;replace q158:=eq_true q158
        go_wp2_with (first|((with_reducible refine gate_callee (f:=35) rfl ?_);refine goesL_ (some 20) rfl rfl Tryz.func35 (by kernel_rfl) rfl #[.agg #[.int .i64 ((rd_T59 l0 x4_1).f0),.slice A158_1 ((rd_T59 l0 x4_1).f1).length c158_1]] rfl (by (try simp only [zCb,zMb,zNb]);first|done|rfl|(simp only [zLb,zDb];rfl)) ?_;(with_reducible refine (laws_toFact.calls k1 ((rd_T59 l0 x4_1).f0) _ _ ((rd_T59 l0 x4_1).f1) t159 t160 _ ?side1 ?side2 A8.out).mono ?_);(case side1 => exact zsd HR158_1 HB);(case side2 => exact HC158_1.out);rintro e w11 ⟨v161,rfl,ho0,hb⟩;refine ⟨_,rfl,?_⟩;replace HO_3:=zA (zSb (zy HO_3) (zW ho0) hb);have HO162:=zA (zHb ho0 (zT (zz HB)));replace HB:=zA (zJb (zz HB) hb);(try clear hb);(try clear hb2);(try clear hk);(try clear hi);(try clear ho0);have p10 : 0 ≤ (x4_1 : Int):=zXb ze;have q10 : (x4_1 : Int) < ((x3_1.length : Int) : Int):=zXb ze;obtain ⟨go10,co10,eo10,gb10,gl10,cl10,HG10⟩:=Kd.S_form HO_3.out (by omega);(first|cases eo10|(injection eo10 with ea_ en_ ec_;(first|subst ea_|(injection ea_ with ea_;subst ea_));subst ec_;clear en_));have GB10:=zA gb10;have GG10:=zA HG10;clear gb10 gl10 HG10;obtain ⟨_,ce10,hcl10,hM10,hcc10,hfr10,_,_⟩:=Kd.S_elem HO_3.out z64 (x4_1 : Int) p10 q10;obtain ⟨ve10_1,rfl,ge10_1⟩:=k64_openM hM10;have hx10_0 : w11.cell? ⟨go10,(x4_1 : Int).toNat * 2,none⟩ = some (.int .i64 ((rd_T64 x3_1 x4_1).f0)):=hcc10 0 _ rfl;have hx10_1 : w11.cell? ⟨go10,(x4_1 : Int).toNat * 2 + 1,none⟩ = some (ve10_1):=hcc10 1 _ rfl;have hf10_0 : w11.frozen? ⟨go10,(x4_1 : Int).toNat * 2,none⟩ = false:=hfr10 0;have hf10_1 : w11.frozen? ⟨go10,(x4_1 : Int).toNat * 2 + 1,none⟩ = false:=hfr10 1;clear hcl10 hcc10 hfr10 hM10;replace p10:=eq_true p10;replace q10:=eq_true q10;obtain ⟨Ao12,co12,eo12⟩:=Kd.R_slice HO162.out;subst eo12;have n_:=zA (zS (ok':=(fun k_ => some k_ ≠ (.slice Ao12 t160.length co12 : Value).ownBlock)) HO_3.out (fun k_ hk => hk.2));clear HO_3;have HO_3:=n_;clear n_;have HX13:=zA (show Kd.S k64 64 w11 w.heap.size (fun k_ => ((fun _ => True)) k_ ∧ ¬ ((fun k_ => some k_ = (.slice Ao12 t160.length co12 : Value).ownBlock)) k_) (.slice (some ⟨go10,0,none⟩) x3_1.length co10) x3_1 from (by (with_reducible repeat (first|apply zM|apply zL|apply zN));exact zS HO_3.out (fun k_ hk => ⟨trivial,fun e_ => hk e_⟩)));obtain ⟨oki13,ce13,hcl13,hM13,hcc13,hfr13,hoki13,hH13⟩:=Kd.S_elem HX13.out z64 (x4_1 : Int) (zXb ze) (by have h_ : (x4_1 : Int) < ((x3_1.length : Int) : Int):=zXb ze;first|exact h_|(have e_:=(Kd.S_reads' HO_3.out).1;omega)|simpa using h_);obtain ⟨ve13_1,rfl,ge13_1⟩:=k64_openM hM13;have HP13:=Kd.S_seg hH13 (zXb ze) (by have h_ : (x4_1 : Int) < ((x3_1.length : Int) : Int):=zXb ze;first|exact h_|(have e_:=(Kd.S_reads' HO_3.out).1;omega)|simpa using h_) (seg:=[.int .i64 t159,.slice Ao12 t160.length co12]) (j:=0) (show 2 ≤ 2 from by decide) (x':=(⟨t159,t160⟩ : S64)) (k64_mkM _ _ _ (⟨t159,t160⟩ : S64) (zGb (Kd.R_tight rfl (zGb (ok':=fun k_ => ((fun _ => True)) k_ ∧ k_ ≠ go10) (Kd.R_apart' (HO162.out) (Kd.S_typed HO_3.out) (by decide)) (fun k_ hk => ⟨trivial,fun e_ => (hk.2) (by rw [e_];rfl)⟩))) (fun _ h_ => Or.inr (h_)))) (fun _ hk => hk) (fun k_ hk_ => ((zGb (ok':=fun k_ => ((fun _ => True)) k_ ∧ k_ ≠ go10) (Kd.R_apart' (HO162.out) (Kd.S_typed HO_3.out) (by decide)) (fun k_ hk => ⟨trivial,fun e_ => (hk.2) (by rw [e_];rfl)⟩))).1 k_ hk_.symm);have hx13_0:=hcc13 0 _ rfl;(try simp only [show (k64).sz = 2 from rfl,Nat.mul_one,Nat.add_zero] at hx13_0);have hf13_0:=hfr13 0;(try simp only [show (k64).sz = 2 from rfl,Nat.mul_one,Nat.add_zero] at hf13_0);have hx13_1:=hcc13 1 _ rfl;(try simp only [show (k64).sz = 2 from rfl,Nat.mul_one,Nat.add_zero] at hx13_1);have hf13_1:=hfr13 1;(try simp only [show (k64).sz = 2 from rfl,Nat.mul_one,Nat.add_zero] at hf13_1);clear hcl13 hcc13 hfr13 hM13 hoki13 hH13)|((with_reducible refine gate_store (t:=64) (p:=21) rfl ?_);refine store_event (t:=64) (p:=21) (v:=?vo_w14) (w1:=((w11.setCell ⟨go10,(x4_1 : Int).toNat * 2,none⟩ (.int .i64 t159)).setCell ⟨go10,(x4_1 : Int).toNat * 2 + 1,none⟩ (.slice Ao12 t160.length co12))) ?hg ?ho ?hn ?hr ?_;(case ho => rfl);(case hg => rfl);(case hn => rfl);(case hr => first|(go_simp;done)|(go_simp;rfl));intro w14 hw;have hg : w11.grownBy w14 (some go10):=(by rw [hw];exact HP13.2);have hp_ : Kd.S k64 64 w14 w.heap.size (fun _ => True) (.slice (some ⟨go10,0,none⟩) x3_1.length co10) y163:=(by rw [hw,Ny163.out];exact HP13.1);clear HP13;replace HO_3:=zA (hp_);replace HB:=zA ((by rw [hw];exact zB (zB (HB.out) GB10.out) GB10.out : Below w.heap.size w w14));clear HO162;clear hg hw hp_))
        go_roundg k1
        case measure => have:=HK1.out;omega
        case rel => exact ⟨(y163),(wrap64 (x4_1 + 1)),za,H',⟨by have:=HK1.out;omega⟩,⟨zy HO_3⟩,⟨zz HB⟩⟩
       ·
        rw [if_neg c9] at H
        exact absurd H (by simp)
      ·
       rw [if_neg c7] at H
       exact absurd H (by simp)
     ·
      rw [if_neg c6] at H;have c6b0:=decide_eq_false c6;clear c6
      obtain rfl:=Option.some.inj H
      go_wp2
      go_ret
      exact ⟨_,by first|rfl|(simp [errW_none,errW_some] <;> rfl)|(simp [*,errW_none,errW_some] <;> rfl),zy HO_3,zz HB⟩
  ·
   rw [if_neg c3] at H
   exact absurd H (by simp)
 ·
  rw [if_neg c2] at H
  exact absurd H (by simp)

/-! ### laws_eqIntS: function 40 -/
def laws_eqIntS.l0 : Nat → List Int → List Int → Int → Option (Bool)
 | 0, _, _, _ => none
 | k + 1, x0, x1, x5 => if x5 < (x0.length : Int) then (if 0 ≤ x5 then (if x5 < (x1.length : Int) then (if (rd x0 x5) = (rd x1 x5) then (laws_eqIntS.l0 k x0 x1 (wrap64 (x5 + 1))) else (some false)) else (none)) else (none)) else (some true)
def laws_eqIntS.f (k : Nat) (l0 : List Int) (l1 : List Int) : Option (Bool) := if (l0.length : Int) = (l1.length : Int) then (laws_eqIntS.l0 k l0 l1 0) else (some false)
set_option maxHeartbeats 8000000 in
set_option maxRecDepth 100000 in
theorem laws_eqIntS.calls (k : Nat) (A0 : Option Addr) (c0 : Nat) (l0 : List Int) (A1 : Option Addr) (c1 : Nat) (l1 : List Int) (r : Bool) (w : World) (hr0 : Kd.C (Kd.int .i64) w A0 l0.length l0) (hc0 : l0.length ≤ c0) (hr1 : Kd.C (Kd.int .i64) w A1 l1.length l1) (hc1 : l1.length ≤ c1) (h : laws_eqIntS.f k l0 l1 = some r) :
  Calls Tryz.prog 40 #[.slice A0 l0.length c0, .slice A1 l1.length c1] w fun e w' => e = .returned (.bool r) ∧ Drawn0 w w' := by
 have HR0:=zA hr0;have HC0:=zA hc0;clear hr0 hc0;have HR1:=zA hr1;have HC1:=zA hc1;clear hr1 hc1
 have H : (if (l0.length : Int) = (l1.length : Int) then (laws_eqIntS.l0 k l0 l1 0) else (some false)) = some r:=h
 clear h
 by_cases c3 : (l0.length : Int) = (l1.length : Int)
 ·
  rw [if_pos c3] at H;have c3b0:=beq_iff_eq.mpr c3;have c3b1:=bne_eq_false_iff_eq.mpr c3
  have c3b2 : (l0.length == l1.length) = true:=by first|simpa using c3|(simp at c3 ⊢;omega)
  clear c3
  have H':=zA H
  clear H
  go_enter Tryz.func40,Tryz.ntmps40
  go_wp2
  repeat (go_quiet (fail);try go_wp2)
  go_loopg [5] k (fun kq v5 w' => ∃ (x5_1 : Int),v5 = .int .i64 x5_1 ∧ Aside0 (laws_eqIntS.l0 kq l0 l1 x5_1 = some r) ∧ Aside0 (kq ≤ k) ∧ Drawn0 w w')
  case atStart => exact ⟨(0),za,H',⟨Nat.le_refl _⟩,by repeat (first|exact Drawn0.refl _|apply Drawn0.step)⟩
  case round =>
   clear H';(try clear c1);(try clear p2);(try clear c3);(try clear c3b0);(try clear c3b1);(try clear c3b2);obtain ⟨x5_1,rfl,HA,HK1,⟨m1,rfl⟩⟩:=hrel
   cases gk with
   | zero => exact absurd HA.out (by simp [laws_eqIntS.l0])
   | succ k1 =>
    have H:=HA.out;clear HA;simp only [laws_eqIntS.l0] at H
    by_cases c4 : x5_1 < (l0.length : Int)
    ·
     rw [if_pos c4] at H;have c4b0:=decide_eq_true c4;clear c4
     by_cases c5 : 0 ≤ x5_1
     ·
      rw [if_pos c5] at H;have c5b0:=decide_eq_true c5;clear c5
      by_cases c6 : x5_1 < (l1.length : Int)
      ·
       rw [if_pos c6] at H;have c6b0:=decide_eq_true c6;clear c6
       by_cases c7 : (rd l0 x5_1) = (rd l1 x5_1)
       ·
        rw [if_pos c7] at H;have c7b0:=beq_iff_eq.mpr c7;have c7b1:=bne_eq_false_iff_eq.mpr c7;clear c7
        have H':=zA H
        clear H;have p164 : 0 ≤ (x5_1 : Int):=zXb ze;have q164 : x5_1 < (l0.length : Int):=zXb ze;obtain ⟨ad164,e164,hx164_0⟩:=Kd.at_int HR0.out x5_1 p164 q164
        cases e164
        replace p164:=eq_true p164;replace q164:=eq_true q164;have p165 : 0 ≤ (x5_1 : Int):=zXb ze;have q165 : x5_1 < (l1.length : Int):=zXb ze;obtain ⟨ad165,e165,hx165_0⟩:=Kd.at_int HR1.out x5_1 p165 q165
        cases e165
        replace p165:=eq_true p165;replace q165:=eq_true q165
        go_wp2
        repeat (go_quiet (fail);try go_wp2)
        go_roundg k1
        case measure => have:=HK1.out;omega
        case rel => exact ⟨(wrap64 (x5_1 + 1)),za,H',⟨by have:=HK1.out;omega⟩,by repeat (first|exact Drawn0.refl _|apply Drawn0.step)⟩
       ·
        rw [if_neg c7] at H;have c7b0:=beq_eq_false_iff_ne.mpr c7;have c7b1:=bne_iff_ne.mpr c7
        obtain rfl:=Option.some.inj H
        have p164 : 0 ≤ (x5_1 : Int):=zXb ze;have q164 : x5_1 < (l0.length : Int):=zXb ze;obtain ⟨ad164,e164,hx164_0⟩:=Kd.at_int HR0.out x5_1 p164 q164
        cases e164
        replace p164:=eq_true p164;replace q164:=eq_true q164;have p165 : 0 ≤ (x5_1 : Int):=zXb ze;have q165 : x5_1 < (l1.length : Int):=zXb ze;obtain ⟨ad165,e165,hx165_0⟩:=Kd.at_int HR1.out x5_1 p165 q165
        cases e165
        replace p165:=eq_true p165;replace q165:=eq_true q165
        go_wp2
        repeat (go_quiet (fail);try go_wp2)
        go_ret
        exact ⟨by first|rfl|(simp;done)|(simp [*];done),by repeat (first|exact Drawn0.refl _|apply Drawn0.step)⟩
      ·
       rw [if_neg c6] at H
       exact absurd H (by simp)
     ·
      rw [if_neg c5] at H
      exact absurd H (by simp)
    ·
     rw [if_neg c4] at H;have c4b0:=decide_eq_false c4;clear c4
     obtain rfl:=Option.some.inj H
     go_wp2
     repeat (go_quiet (fail);try go_wp2)
     go_ret
     exact ⟨by first|rfl|(simp;done)|(simp [*];done),by repeat (first|exact Drawn0.refl _|apply Drawn0.step)⟩
 ·
  rw [if_neg c3] at H;have c3b0:=beq_eq_false_iff_ne.mpr c3;have c3b1:=bne_iff_ne.mpr c3
  have c3b2 : (l0.length == l1.length) = false:=by first|simpa using c3|(simp at c3 ⊢;omega)
  obtain rfl:=Option.some.inj H
  go_enter Tryz.func40,Tryz.ntmps40
  go_wp2
  repeat (go_quiet (fail);try go_wp2)
  go_ret
  exact ⟨by first|rfl|(simp;done)|(simp [*];done),by repeat (first|exact Drawn0.refl _|apply Drawn0.step)⟩

/-! ### laws_eqSchema: function 14 -/
def laws_eqSchema.f (k : Nat) (l0_0 : List Int) (l1_0 : List Int) : Option (Bool) := (laws_eqIntS.f k l0_0 l1_0).bind fun t168 => (if t168 = true then (some true) else (some false))
set_option maxHeartbeats 8000000 in
set_option maxRecDepth 100000 in
theorem laws_eqSchema.calls (k : Nat) (A0_0 : Option Addr) (c0_0 : Nat) (l0_0 : List Int) (A1_0 : Option Addr) (c1_0 : Nat) (l1_0 : List Int) (r : Bool) (w : World) (hr0_0 : Kd.C (Kd.int .i64) w A0_0 l0_0.length l0_0) (hc0_0 : l0_0.length ≤ c0_0) (hr1_0 : Kd.C (Kd.int .i64) w A1_0 l1_0.length l1_0) (hc1_0 : l1_0.length ≤ c1_0) (h : laws_eqSchema.f k l0_0 l1_0 = some r) :
  Calls Tryz.prog 14 #[.agg #[.slice A0_0 l0_0.length c0_0], .agg #[.slice A1_0 l1_0.length c1_0]] w fun e w' => e = .returned (.bool r) ∧ Below w.heap.size w w' := by
 have hu34:=Tryz.underlying34;have HR0_0:=zA hr0_0;have HC0_0:=zA hc0_0;clear hr0_0 hc0_0;have HR1_0:=zA hr1_0;have HC1_0:=zA hc1_0;clear hr1_0 hc1_0;have HB:=zA (Below.refl w.heap.size w)
 have H : ((laws_eqIntS.f k l0_0 l1_0).bind fun t168 => (if t168 = true then (some true) else (some false))) = some r:=h
 clear h;replace H:=Option.bind_eq_some_iff.mp H;obtain ⟨t168,A30,H⟩:=H;(try dsimp only at H);have A3:=zA A30;clear A30
 by_cases c4 : t168 = true
 ·
  subst c4
  rw [if_pos rfl] at H
  obtain rfl:=Option.some.inj H
  go_enter Tryz.func14,Tryz.ntmps14
  go_wp2_with (first|((with_reducible refine gate_dst (N:=2) rfl ?_);refine box_event ?hg (N:=2) ?hd (cs:=#[.slice A0_0 l0_0.length c0_0]) (t:=34) ?hr ?_;(case hd => rfl);(case hg => rfl);(case hr => first|(go_simp;done)|(go_simp;rfl));intro gb166 hg w5 hbox hb;have BK166:=zA (hbox);have GW166:=zA ((by rw [hg];exact (zT (zz HB)) : w.heap.size ≤ gb166));have GE166:=zA ((by rw [hg];exact (zT (zz HB)) : w.heap.size ≤ gb166));replace HB:=zA (zJb (zz HB) hb);clear hb hbox hg)|((with_reducible refine gate_dst (N:=3) rfl ?_);refine box_event ?hg (N:=3) ?hd (cs:=#[.slice A1_0 l1_0.length c1_0]) (t:=34) ?hr ?_;(case hd => rfl);(case hg => rfl);(case hr => first|(go_simp;done)|(go_simp;rfl));intro gb167 hg w6 hbox hb;have BK167:=zA (hbox);have GW167:=zA ((by rw [hg];exact (zT (zz HB)) : w.heap.size ≤ gb167));have GE167:=zA ((by rw [hg];exact (zT (zz HB)) : w.heap.size ≤ gb167));replace HB:=zA (zJb (zz HB) hb);have NB166_167:=zA ((by rw [hg];exact Nat.ne_of_lt (blk_lt (g:=gb166) (o:=.cells #[.slice A0_0 l0_0.length c0_0] 34 (0,0)) (zx BK166)) : gb166 ≠ gb167));have NB167_166:=zA ((by rw [hg];exact Nat.ne_of_gt (blk_lt (g:=gb166) (o:=.cells #[.slice A0_0 l0_0.length c0_0] 34 (0,0)) (zx BK166)) : gb167 ≠ gb166));replace BK166:=zA (zQ (g:=gb166) (o:=.cells #[.slice A0_0 l0_0.length c0_0] 34 (0,0)) (zx BK166) hb);clear hb hbox hg;have hnb7:=NB166_167.out;have hnc7:=NB167_166.out;have hcz8_0:=zc (.slice A0_0 l0_0.length c0_0) BK166 0 rfl;have hfz8_0:=blk_frozen BK166.out 0;have hcz9_0:=zc (.slice A1_0 l1_0.length c1_0) BK167 0 rfl;have hfz9_0:=blk_frozen BK167.out 0)|((with_reducible refine gate_callee (f:=40) rfl ?_);refine goesL_ (some 9) rfl rfl Tryz.func40 (by kernel_rfl) rfl #[.slice A0_0 l0_0.length c0_0,.slice A1_0 l1_0.length c1_0] rfl (by (try simp only [zCb,zMb,zNb]);first|done|rfl|(simp only [zLb,zDb];rfl)) ?_;(with_reducible refine (laws_eqIntS.calls k _ _ l0_0 _ _ l1_0 true _ ?side1 ?side2 ?side3 ?side4 A3.out).mono ?_);(case side1 => exact zsd HR0_0 HB);(case side2 => exact HC0_0.out);(case side3 => exact zsd HR1_0 HB);(case side4 => exact HC1_0.out);rintro e w' ⟨rfl,⟨nd,rfl⟩⟩;refine ⟨_,rfl,?_⟩))
  go_ret
  exact ⟨by first|rfl|(simp [errW_none,errW_some] <;> rfl)|(simp [*,errW_none,errW_some] <;> rfl),zz HB⟩
 ·
  replace c4:=Bool.eq_false_iff.mpr c4
  subst c4
  have H1 : (some false) = some r:=by rw [if_neg (show ¬ (false = true) by decide)] at H;exact H
  clear H;have H:=H1;clear H1
  obtain rfl:=Option.some.inj H
  go_enter Tryz.func14,Tryz.ntmps14
  go_wp2_with (first|((with_reducible refine gate_dst (N:=2) rfl ?_);refine box_event ?hg (N:=2) ?hd (cs:=#[.slice A0_0 l0_0.length c0_0]) (t:=34) ?hr ?_;(case hd => rfl);(case hg => rfl);(case hr => first|(go_simp;done)|(go_simp;rfl));intro gb166 hg w10 hbox hb;have BK166:=zA (hbox);have GW166:=zA ((by rw [hg];exact (zT (zz HB)) : w.heap.size ≤ gb166));have GE166:=zA ((by rw [hg];exact (zT (zz HB)) : w.heap.size ≤ gb166));replace HB:=zA (zJb (zz HB) hb);clear hb hbox hg)|((with_reducible refine gate_dst (N:=3) rfl ?_);refine box_event ?hg (N:=3) ?hd (cs:=#[.slice A1_0 l1_0.length c1_0]) (t:=34) ?hr ?_;(case hd => rfl);(case hg => rfl);(case hr => first|(go_simp;done)|(go_simp;rfl));intro gb167 hg w11 hbox hb;have BK167:=zA (hbox);have GW167:=zA ((by rw [hg];exact (zT (zz HB)) : w.heap.size ≤ gb167));have GE167:=zA ((by rw [hg];exact (zT (zz HB)) : w.heap.size ≤ gb167));replace HB:=zA (zJb (zz HB) hb);have NB166_167:=zA ((by rw [hg];exact Nat.ne_of_lt (blk_lt (g:=gb166) (o:=.cells #[.slice A0_0 l0_0.length c0_0] 34 (0,0)) (zx BK166)) : gb166 ≠ gb167));have NB167_166:=zA ((by rw [hg];exact Nat.ne_of_gt (blk_lt (g:=gb166) (o:=.cells #[.slice A0_0 l0_0.length c0_0] 34 (0,0)) (zx BK166)) : gb167 ≠ gb166));replace BK166:=zA (zQ (g:=gb166) (o:=.cells #[.slice A0_0 l0_0.length c0_0] 34 (0,0)) (zx BK166) hb);clear hb hbox hg;have hnb12:=NB166_167.out;have hnc12:=NB167_166.out;have hcz13_0:=zc (.slice A0_0 l0_0.length c0_0) BK166 0 rfl;have hfz13_0:=blk_frozen BK166.out 0;have hcz14_0:=zc (.slice A1_0 l1_0.length c1_0) BK167 0 rfl;have hfz14_0:=blk_frozen BK167.out 0)|((with_reducible refine gate_callee (f:=40) rfl ?_);refine goesL_ (some 9) rfl rfl Tryz.func40 (by kernel_rfl) rfl #[.slice A0_0 l0_0.length c0_0,.slice A1_0 l1_0.length c1_0] rfl (by (try simp only [zCb,zMb,zNb]);first|done|rfl|(simp only [zLb,zDb];rfl)) ?_;(with_reducible refine (laws_eqIntS.calls k _ _ l0_0 _ _ l1_0 false _ ?side1 ?side2 ?side3 ?side4 A3.out).mono ?_);(case side1 => exact zsd HR0_0 HB);(case side2 => exact HC0_0.out);(case side3 => exact zsd HR1_0 HB);(case side4 => exact HC1_0.out);rintro e w' ⟨rfl,⟨nd,rfl⟩⟩;refine ⟨_,rfl,?_⟩))
  go_ret
  exact ⟨by first|rfl|(simp [errW_none,errW_some] <;> rfl)|(simp [*,errW_none,errW_some] <;> rfl),zz HB⟩

/-! ### laws_eqAtom: function 70 -/
def laws_eqAtom.f (k : Nat) (a0_0 : Int) (l0_1 : List Int) (a1_0 : Int) (l1_1 : List Int) : Option (Bool) := if a0_0 = a1_0 then ((laws_eqIntS.f k l0_1 l1_1).bind fun t171 => (if t171 = true then (some true) else (some false))) else (some false)
set_option maxHeartbeats 8000000 in
set_option maxRecDepth 100000 in
theorem laws_eqAtom.calls (k : Nat) (a0_0 : Int) (A0_1 : Option Addr) (c0_1 : Nat) (l0_1 : List Int) (a1_0 : Int) (A1_1 : Option Addr) (c1_1 : Nat) (l1_1 : List Int) (r : Bool) (w : World) (hr0_1 : Kd.C (Kd.int .i64) w A0_1 l0_1.length l0_1) (hc0_1 : l0_1.length ≤ c0_1) (hr1_1 : Kd.C (Kd.int .i64) w A1_1 l1_1.length l1_1) (hc1_1 : l1_1.length ≤ c1_1) (h : laws_eqAtom.f k a0_0 l0_1 a1_0 l1_1 = some r) :
  Calls Tryz.prog 70 #[.agg #[.int .i64 a0_0, .slice A0_1 l0_1.length c0_1], .agg #[.int .i64 a1_0, .slice A1_1 l1_1.length c1_1]] w fun e w' => e = .returned (.bool r) ∧ Below w.heap.size w w' := by
 have hu81:=Tryz.underlying81;have HR0_1:=zA hr0_1;have HC0_1:=zA hc0_1;clear hr0_1 hc0_1;have HR1_1:=zA hr1_1;have HC1_1:=zA hc1_1;clear hr1_1 hc1_1;have HB:=zA (Below.refl w.heap.size w)
 have H : (if a0_0 = a1_0 then ((laws_eqIntS.f k l0_1 l1_1).bind fun t171 => (if t171 = true then (some true) else (some false))) else (some false)) = some r:=h
 clear h
 by_cases c3 : a0_0 = a1_0
 ·
  rw [if_pos c3] at H;have c3b0:=beq_iff_eq.mpr c3;have c3b1:=bne_eq_false_iff_eq.mpr c3;clear c3;replace H:=Option.bind_eq_some_iff.mp H;obtain ⟨t171,A40,H⟩:=H;(try dsimp only at H);have A4:=zA A40;clear A40
  by_cases c5 : t171 = true
  ·
   subst c5
   rw [if_pos rfl] at H
   obtain rfl:=Option.some.inj H
   go_enter Tryz.func70,Tryz.ntmps70
   go_wp2_with (first|((with_reducible refine gate_dst (N:=2) rfl ?_);refine box_event ?hg (N:=2) ?hd (cs:=#[.int .i64 a0_0,.slice A0_1 l0_1.length c0_1]) (t:=81) ?hr ?_;(case hd => rfl);(case hg => rfl);(case hr => first|(go_simp;done)|(go_simp;rfl));intro gb169 hg w6 hbox hb;have BK169:=zA (hbox);have GW169:=zA ((by rw [hg];exact (zT (zz HB)) : w.heap.size ≤ gb169));have GE169:=zA ((by rw [hg];exact (zT (zz HB)) : w.heap.size ≤ gb169));replace HB:=zA (zJb (zz HB) hb);clear hb hbox hg)|((with_reducible refine gate_dst (N:=3) rfl ?_);refine box_event ?hg (N:=3) ?hd (cs:=#[.int .i64 a1_0,.slice A1_1 l1_1.length c1_1]) (t:=81) ?hr ?_;(case hd => rfl);(case hg => rfl);(case hr => first|(go_simp;done)|(go_simp;rfl));intro gb170 hg w7 hbox hb;have BK170:=zA (hbox);have GW170:=zA ((by rw [hg];exact (zT (zz HB)) : w.heap.size ≤ gb170));have GE170:=zA ((by rw [hg];exact (zT (zz HB)) : w.heap.size ≤ gb170));replace HB:=zA (zJb (zz HB) hb);have NB169_170:=zA ((by rw [hg];exact Nat.ne_of_lt (blk_lt (g:=gb169) (o:=.cells #[.int .i64 a0_0,.slice A0_1 l0_1.length c0_1] 81 (0,0)) (zx BK169)) : gb169 ≠ gb170));have NB170_169:=zA ((by rw [hg];exact Nat.ne_of_gt (blk_lt (g:=gb169) (o:=.cells #[.int .i64 a0_0,.slice A0_1 l0_1.length c0_1] 81 (0,0)) (zx BK169)) : gb170 ≠ gb169));replace BK169:=zA (zQ (g:=gb169) (o:=.cells #[.int .i64 a0_0,.slice A0_1 l0_1.length c0_1] 81 (0,0)) (zx BK169) hb);clear hb hbox hg;have hnb8:=NB169_170.out;have hnc8:=NB170_169.out;have hcz9_0:=zc (.int .i64 a0_0) BK169 0 rfl;have hcz9_1:=zc (.slice A0_1 l0_1.length c0_1) BK169 1 rfl;have hfz9_0:=blk_frozen BK169.out 0;have hfz9_1:=blk_frozen BK169.out 1;have hcz10_0:=zc (.int .i64 a1_0) BK170 0 rfl;have hcz10_1:=zc (.slice A1_1 l1_1.length c1_1) BK170 1 rfl;have hfz10_0:=blk_frozen BK170.out 0;have hfz10_1:=blk_frozen BK170.out 1)|((with_reducible refine gate_callee (f:=40) rfl ?_);refine goesL_ (some 14) rfl rfl Tryz.func40 (by kernel_rfl) rfl #[.slice A0_1 l0_1.length c0_1,.slice A1_1 l1_1.length c1_1] rfl (by (try simp only [zCb,zMb,zNb]);first|done|rfl|(simp only [zLb,zDb];rfl)) ?_;(with_reducible refine (laws_eqIntS.calls k _ _ l0_1 _ _ l1_1 true _ ?side1 ?side2 ?side3 ?side4 A4.out).mono ?_);(case side1 => exact zsd HR0_1 HB);(case side2 => exact HC0_1.out);(case side3 => exact zsd HR1_1 HB);(case side4 => exact HC1_1.out);rintro e w' ⟨rfl,⟨nd,rfl⟩⟩;refine ⟨_,rfl,?_⟩))
   go_ret
   exact ⟨by first|rfl|(simp [errW_none,errW_some] <;> rfl)|(simp [*,errW_none,errW_some] <;> rfl),zz HB⟩
  ·
   replace c5:=Bool.eq_false_iff.mpr c5
   subst c5
   have H1 : (some false) = some r:=by rw [if_neg (show ¬ (false = true) by decide)] at H;exact H
   clear H;have H:=H1;clear H1
   obtain rfl:=Option.some.inj H
   go_enter Tryz.func70,Tryz.ntmps70
   go_wp2_with (first|((with_reducible refine gate_dst (N:=2) rfl ?_);refine box_event ?hg (N:=2) ?hd (cs:=#[.int .i64 a0_0,.slice A0_1 l0_1.length c0_1]) (t:=81) ?hr ?_;(case hd => rfl);(case hg => rfl);(case hr => first|(go_simp;done)|(go_simp;rfl));intro gb169 hg w11 hbox hb;have BK169:=zA (hbox);have GW169:=zA ((by rw [hg];exact (zT (zz HB)) : w.heap.size ≤ gb169));have GE169:=zA ((by rw [hg];exact (zT (zz HB)) : w.heap.size ≤ gb169));replace HB:=zA (zJb (zz HB) hb);clear hb hbox hg)|((with_reducible refine gate_dst (N:=3) rfl ?_);refine box_event ?hg (N:=3) ?hd (cs:=#[.int .i64 a1_0,.slice A1_1 l1_1.length c1_1]) (t:=81) ?hr ?_;(case hd => rfl);(case hg => rfl);(case hr => first|(go_simp;done)|(go_simp;rfl));intro gb170 hg w12 hbox hb;have BK170:=zA (hbox);have GW170:=zA ((by rw [hg];exact (zT (zz HB)) : w.heap.size ≤ gb170));have GE170:=zA ((by rw [hg];exact (zT (zz HB)) : w.heap.size ≤ gb170));replace HB:=zA (zJb (zz HB) hb);have NB169_170:=zA ((by rw [hg];exact Nat.ne_of_lt (blk_lt (g:=gb169) (o:=.cells #[.int .i64 a0_0,.slice A0_1 l0_1.length c0_1] 81 (0,0)) (zx BK169)) : gb169 ≠ gb170));have NB170_169:=zA ((by rw [hg];exact Nat.ne_of_gt (blk_lt (g:=gb169) (o:=.cells #[.int .i64 a0_0,.slice A0_1 l0_1.length c0_1] 81 (0,0)) (zx BK169)) : gb170 ≠ gb169));replace BK169:=zA (zQ (g:=gb169) (o:=.cells #[.int .i64 a0_0,.slice A0_1 l0_1.length c0_1] 81 (0,0)) (zx BK169) hb);clear hb hbox hg;have hnb13:=NB169_170.out;have hnc13:=NB170_169.out;have hcz14_0:=zc (.int .i64 a0_0) BK169 0 rfl;have hcz14_1:=zc (.slice A0_1 l0_1.length c0_1) BK169 1 rfl;have hfz14_0:=blk_frozen BK169.out 0;have hfz14_1:=blk_frozen BK169.out 1;have hcz15_0:=zc (.int .i64 a1_0) BK170 0 rfl;have hcz15_1:=zc (.slice A1_1 l1_1.length c1_1) BK170 1 rfl;have hfz15_0:=blk_frozen BK170.out 0;have hfz15_1:=blk_frozen BK170.out 1)|((with_reducible refine gate_callee (f:=40) rfl ?_);refine goesL_ (some 14) rfl rfl Tryz.func40 (by kernel_rfl) rfl #[.slice A0_1 l0_1.length c0_1,.slice A1_1 l1_1.length c1_1] rfl (by (try simp only [zCb,zMb,zNb]);first|done|rfl|(simp only [zLb,zDb];rfl)) ?_;(with_reducible refine (laws_eqIntS.calls k _ _ l0_1 _ _ l1_1 false _ ?side1 ?side2 ?side3 ?side4 A4.out).mono ?_);(case side1 => exact zsd HR0_1 HB);(case side2 => exact HC0_1.out);(case side3 => exact zsd HR1_1 HB);(case side4 => exact HC1_1.out);rintro e w' ⟨rfl,⟨nd,rfl⟩⟩;refine ⟨_,rfl,?_⟩))
   go_ret
   exact ⟨by first|rfl|(simp [errW_none,errW_some] <;> rfl)|(simp [*,errW_none,errW_some] <;> rfl),zz HB⟩
 ·
  rw [if_neg c3] at H;have c3b0:=beq_eq_false_iff_ne.mpr c3;have c3b1:=bne_iff_ne.mpr c3
  obtain rfl:=Option.some.inj H
  go_enter Tryz.func70,Tryz.ntmps70
  go_wp2_with (first|((with_reducible refine gate_dst (N:=2) rfl ?_);refine box_event ?hg (N:=2) ?hd (cs:=#[.int .i64 a0_0,.slice A0_1 l0_1.length c0_1]) (t:=81) ?hr ?_;(case hd => rfl);(case hg => rfl);(case hr => first|(go_simp;done)|(go_simp;rfl));intro gb169 hg w16 hbox hb;have BK169:=zA (hbox);have GW169:=zA ((by rw [hg];exact (zT (zz HB)) : w.heap.size ≤ gb169));have GE169:=zA ((by rw [hg];exact (zT (zz HB)) : w.heap.size ≤ gb169));replace HB:=zA (zJb (zz HB) hb);clear hb hbox hg)|((with_reducible refine gate_dst (N:=3) rfl ?_);refine box_event ?hg (N:=3) ?hd (cs:=#[.int .i64 a1_0,.slice A1_1 l1_1.length c1_1]) (t:=81) ?hr ?_;(case hd => rfl);(case hg => rfl);(case hr => first|(go_simp;done)|(go_simp;rfl));intro gb170 hg w17 hbox hb;have BK170:=zA (hbox);have GW170:=zA ((by rw [hg];exact (zT (zz HB)) : w.heap.size ≤ gb170));have GE170:=zA ((by rw [hg];exact (zT (zz HB)) : w.heap.size ≤ gb170));replace HB:=zA (zJb (zz HB) hb);have NB169_170:=zA ((by rw [hg];exact Nat.ne_of_lt (blk_lt (g:=gb169) (o:=.cells #[.int .i64 a0_0,.slice A0_1 l0_1.length c0_1] 81 (0,0)) (zx BK169)) : gb169 ≠ gb170));have NB170_169:=zA ((by rw [hg];exact Nat.ne_of_gt (blk_lt (g:=gb169) (o:=.cells #[.int .i64 a0_0,.slice A0_1 l0_1.length c0_1] 81 (0,0)) (zx BK169)) : gb170 ≠ gb169));replace BK169:=zA (zQ (g:=gb169) (o:=.cells #[.int .i64 a0_0,.slice A0_1 l0_1.length c0_1] 81 (0,0)) (zx BK169) hb);clear hb hbox hg;have hnb18:=NB169_170.out;have hnc18:=NB170_169.out;have hcz19_0:=zc (.int .i64 a0_0) BK169 0 rfl;have hcz19_1:=zc (.slice A0_1 l0_1.length c0_1) BK169 1 rfl;have hfz19_0:=blk_frozen BK169.out 0;have hfz19_1:=blk_frozen BK169.out 1;have hcz20_0:=zc (.int .i64 a1_0) BK170 0 rfl;have hcz20_1:=zc (.slice A1_1 l1_1.length c1_1) BK170 1 rfl;have hfz20_0:=blk_frozen BK170.out 0;have hfz20_1:=blk_frozen BK170.out 1))
  go_ret
  exact ⟨by first|rfl|(simp [errW_none,errW_some] <;> rfl)|(simp [*,errW_none,errW_some] <;> rfl),zz HB⟩

/-! ### laws_eqAtomS: function 41 -/
def laws_eqAtomS.l0 : Nat → List (S81) → List (S81) → Int → Option (Bool)
 | 0, _, _, _ => none
 | k + 1, x0, x1, x5 => if x5 < (x0.length : Int) then (if 0 ≤ x5 then (if x5 < (x1.length : Int) then ((laws_eqAtom.f k ((rd_T81 x0 x5).f0) ((rd_T81 x0 x5).f1) ((rd_T81 x1 x5).f0) ((rd_T81 x1 x5).f1)).bind fun t174 => (if t174 = true then (laws_eqAtomS.l0 k x0 x1 (wrap64 (x5 + 1))) else (some false))) else (none)) else (none)) else (some true)
def laws_eqAtomS.f (k : Nat) (l0 : List (S81)) (l1 : List (S81)) : Option (Bool) := if (l0.length : Int) = (l1.length : Int) then (laws_eqAtomS.l0 k l0 l1 0) else (some false)
def laws_eqAtomS.T6 : Bool × List (List Nat × List Nat) := (true, [([], []), ([], []), ([0, 1], [0, 1]), ([2], [2]), ([], []), ([], []), ([4, 5], [4, 5]), ([6], [6]), ([3, 7], [3, 7]), ([8], [8])])
def laws_eqAtomS.B6 : List Nat := [0, 0, 3, 7, 0, 0, 48, 112, 255, 511]
theorem laws_eqAtomS.tab6 : rtab .any (opsOf Tryz.f41 6) = laws_eqAtomS.T6 := by kernel_rfl
theorem laws_eqAtomS.bits6 : waitsOk laws_eqAtomS.T6.2 laws_eqAtomS.B6 = true := by kernel_rfl
set_option maxHeartbeats 8000000 in
set_option maxRecDepth 100000 in
theorem laws_eqAtomS.calls (k : Nat) (A0 : Option Addr) (c0 : Nat) (l0 : List (S81)) (A1 : Option Addr) (c1 : Nat) (l1 : List (S81)) (r : Bool) (w : World) (hr0 : Kd.C k81 w A0 l0.length l0) (hc0 : l0.length ≤ c0) (hr1 : Kd.C k81 w A1 l1.length l1) (hc1 : l1.length ≤ c1) (h : laws_eqAtomS.f k l0 l1 = some r) :
  Calls Tryz.prog 41 #[.slice A0 l0.length c0, .slice A1 l1.length c1] w fun e w' => e = .returned (.bool r) ∧ Below w.heap.size w w' := by
 have hu81:=Tryz.underlying81;have HR0:=zA hr0;have HC0:=zA hc0;clear hr0 hc0;have HR1:=zA hr1;have HC1:=zA hc1;clear hr1 hc1;have HB:=zA (Below.refl w.heap.size w)
 have H : (if (l0.length : Int) = (l1.length : Int) then (laws_eqAtomS.l0 k l0 l1 0) else (some false)) = some r:=h
 clear h
 by_cases c3 : (l0.length : Int) = (l1.length : Int)
 ·
  rw [if_pos c3] at H;have c3b0:=beq_iff_eq.mpr c3;have c3b1:=bne_eq_false_iff_eq.mpr c3
  have c3b2 : (l0.length == l1.length) = true:=by first|simpa using c3|(simp at c3 ⊢;omega)
  clear c3
  have H':=zA H
  clear H
  go_enter Tryz.func41,Tryz.ntmps41
  go_wp2
  go_loopg [5] k (fun kq v5 w' => ∃ (x5_1 : Int),v5 = .int .i64 x5_1 ∧ Aside0 (laws_eqAtomS.l0 kq l0 l1 x5_1 = some r) ∧ Aside0 (kq ≤ k) ∧ Aside0 (Below w.heap.size w w'))
  case atStart => exact ⟨(0),za,H',⟨Nat.le_refl _⟩,⟨zz HB⟩⟩
  case round =>
   clear H';(try clear c1);(try clear p2);(try clear c3);(try clear c3b0);(try clear c3b1);(try clear c3b2);obtain ⟨x5_1,rfl,HA,HK1,HB⟩:=hrel
   cases gk with
   | zero => exact absurd HA.out (by simp [laws_eqAtomS.l0])
   | succ k1 =>
    have H:=HA.out;clear HA;simp only [laws_eqAtomS.l0] at H
    by_cases c4 : x5_1 < (l0.length : Int)
    ·
     rw [if_pos c4] at H;have c4b0:=decide_eq_true c4;clear c4
     by_cases c5 : 0 ≤ x5_1
     ·
      rw [if_pos c5] at H;have c5b0:=decide_eq_true c5;clear c5
      by_cases c6 : x5_1 < (l1.length : Int)
      ·
       rw [if_pos c6] at H;have c6b0:=decide_eq_true c6;clear c6;replace H:=Option.bind_eq_some_iff.mp H;obtain ⟨t174,A70,H⟩:=H;(try dsimp only at H);have A7:=zA A70;clear A70
       by_cases c8 : t174 = true
       ·
        subst c8
        rw [if_pos rfl] at H
        have H':=zA H
        clear H
        try go_wp2
        have n0_:=zA (zJ HB.out);clear HB;have HB:=n0_;clear n0_;have p172 : 0 ≤ (x5_1 : Int):=zXb ze;have q172 : x5_1 < (l0.length : Int):=zXb ze;obtain ⟨ad172,A172_1,c172_1,e172,hx172_0,hx172_1,hl172_1,hi172_1⟩:=at_T81 HR0.out x5_1 p172 q172;have hw172_1:=hx172_1;have hw172_0:=hx172_0
        cases e172
        replace hx172_0:=(HB.out.cell (World.block_lt_of_cell? w _ hx172_0)).trans hx172_0;replace hx172_1:=(HB.out.cell (World.block_lt_of_cell? w _ hx172_1)).trans hx172_1;have HR172_1:=zA hi172_1;have HC172_1:=zA hl172_1;clear hi172_1 hl172_1;replace p172:=eq_true p172;replace q172:=eq_true q172;have p173 : 0 ≤ (x5_1 : Int):=zXb ze;have q173 : x5_1 < (l1.length : Int):=zXb ze;obtain ⟨ad173,A173_1,c173_1,e173,hx173_0,hx173_1,hl173_1,hi173_1⟩:=at_T81 HR1.out x5_1 p173 q173;have hw173_1:=hx173_1;have hw173_0:=hx173_0
        cases e173
        replace hx173_0:=(HB.out.cell (World.block_lt_of_cell? w _ hx173_0)).trans hx173_0;replace hx173_1:=(HB.out.cell (World.block_lt_of_cell? w _ hx173_1)).trans hx173_1;have HR173_1:=zA hi173_1;have HC173_1:=zA hl173_1;clear hi173_1 hl173_1;replace p173:=eq_true p173;replace q173:=eq_true q173
        refine start_ (n:=10) (S:=fun w' => w'.cell? (ad172.add ((x5_1).toNat * 2)) = some (.int .i64 ((rd_T81 l0 x5_1).f0)) ∧ w'.cell? ⟨(ad172.add ((x5_1).toNat * 2)).block,(ad172.add ((x5_1).toNat * 2)).off + 1,none⟩ = some (.slice A172_1 ((rd_T81 l0 x5_1).f1).length c172_1) ∧ w'.cell? (ad173.add ((x5_1).toNat * 2)) = some (.int .i64 ((rd_T81 l1 x5_1).f0)) ∧ w'.cell? ⟨(ad173.add ((x5_1).toNat * 2)).block,(ad173.add ((x5_1).toNat * 2)).off + 1,none⟩ = some (.slice A173_1 ((rd_T81 l1 x5_1).f1).length c173_1)) (ds:=[]) #[false,false,false,false,false,false,false,false,false,false] (by kernel_rfl) rfl rfl ⟨((HB.out.cell (World.block_lt_of_cell? w _ hw172_0)).trans hw172_0),((HB.out.cell (World.block_lt_of_cell? w _ hw172_1)).trans hw172_1),((HB.out.cell (World.block_lt_of_cell? w _ hw173_0)).trans hw173_0),((HB.out.cell (World.block_lt_of_cell? w _ hw173_1)).trans hw173_1)⟩ (fun hHeld => ?_);refine with_tabW laws_eqAtomS.tab6 laws_eqAtomS.bits6 (fun HT_ HW_ => ?_)
        generalize wr.drew = w9 at HB HR172_1 HR173_1 hx172_0 hx172_1 hx173_0 hx173_1 hHeld ⊢
        refine zut 0 17 HT_ ?_;refine zut 1 18 HT_ ?_;refine zut 2 19 HT_ ?_;refine zut 4 21 HT_ ?_;refine zut 5 22 HT_ ?_;refine zut 6 23 HT_ ?_;refine zwt 3 20 HT_ HW_ hHeld ?_;refine zwt 7 24 HT_ HW_ hHeld ?_
        refine one_ (i:=8) (N:=some 25) #[true,true,true,true,true,true,true,true,true,false] rfl rfl (one_of HT_.out (by kernel_rfl)) (by decide) (fun K hK => ?_)
        refine goes_ Tryz.func70 (by kernel_rfl) rfl #[.agg #[.int .i64 ((rd_T81 l0 x5_1).f0),.slice A172_1 ((rd_T81 l0 x5_1).f1).length c172_1],.agg #[.int .i64 ((rd_T81 l1 x5_1).f0),.slice A173_1 ((rd_T81 l1 x5_1).f1).length c173_1]] (by rfl) rfl rfl (by (try simp only [zCb,zMb,zNb]);first|done|rfl|(simp only [zLb,zDb];rfl)) ?_
        with_reducible refine (laws_eqAtom.calls k1 ((rd_T81 l0 x5_1).f0) _ _ ((rd_T81 l0 x5_1).f1) ((rd_T81 l1 x5_1).f0) _ _ ((rd_T81 l1 x5_1).f1) true _ ?side1 ?side2 ?side3 ?side4 A7.out).mono ?_
        (case side1 => exact zsd HR172_1 HB)
        (case side2 => exact HC172_1.out)
        (case side3 => exact zsd HR173_1 HB)
        (case side4 => exact HC173_1.out)
        rintro e w10 ⟨rfl,hb⟩
        refine ⟨_,rfl,?_⟩
        have n0_:=zA (zJb (zz HB) hb);clear HB;have HB:=n0_;clear n0_;(try clear hb);(try clear hb2);(try clear hk);(try clear hi)
        refine hK.out _ _ ⟨((HB.out.cell (World.block_lt_of_cell? w _ hw172_0)).trans hw172_0),((HB.out.cell (World.block_lt_of_cell? w _ hw172_1)).trans hw172_1),((HB.out.cell (World.block_lt_of_cell? w _ hw173_0)).trans hw173_0),((HB.out.cell (World.block_lt_of_cell? w _ hw173_1)).trans hw173_1)⟩ (fun hHeld => ?_)
        clear hK K
        refine norm_ (a':=?_) ?_ ?_
        rotate_left
        ·
         show Act.put _ (some 25) _ = _
         simp only [Act.put,zO,zEb,zFb,i64_w,i32_w]
         rfl
        refine zut 9 26 HT_ ?_
        refine done_ (done_of HT_.out (by kernel_rfl)) ?_
        try go_wp2
        go_roundg k1
        case measure => have:=HK1.out;omega
        case rel => exact ⟨(wrap64 (x5_1 + 1)),za,H',⟨by have:=HK1.out;omega⟩,⟨zz HB⟩⟩
       ·
        replace c8:=Bool.eq_false_iff.mpr c8
        subst c8
        have H1 : (some false) = some r:=by rw [if_neg (show ¬ (false = true) by decide)] at H;exact H
        clear H;have H:=H1;clear H1
        obtain rfl:=Option.some.inj H
        try go_wp2
        have n0_:=zA (zJ HB.out);clear HB;have HB:=n0_;clear n0_;have p172 : 0 ≤ (x5_1 : Int):=zXb ze;have q172 : x5_1 < (l0.length : Int):=zXb ze;obtain ⟨ad172,A172_1,c172_1,e172,hx172_0,hx172_1,hl172_1,hi172_1⟩:=at_T81 HR0.out x5_1 p172 q172;have hw172_1:=hx172_1;have hw172_0:=hx172_0
        cases e172
        replace hx172_0:=(HB.out.cell (World.block_lt_of_cell? w _ hx172_0)).trans hx172_0;replace hx172_1:=(HB.out.cell (World.block_lt_of_cell? w _ hx172_1)).trans hx172_1;have HR172_1:=zA hi172_1;have HC172_1:=zA hl172_1;clear hi172_1 hl172_1;replace p172:=eq_true p172;replace q172:=eq_true q172;have p173 : 0 ≤ (x5_1 : Int):=zXb ze;have q173 : x5_1 < (l1.length : Int):=zXb ze;obtain ⟨ad173,A173_1,c173_1,e173,hx173_0,hx173_1,hl173_1,hi173_1⟩:=at_T81 HR1.out x5_1 p173 q173;have hw173_1:=hx173_1;have hw173_0:=hx173_0
        cases e173
        replace hx173_0:=(HB.out.cell (World.block_lt_of_cell? w _ hx173_0)).trans hx173_0;replace hx173_1:=(HB.out.cell (World.block_lt_of_cell? w _ hx173_1)).trans hx173_1;have HR173_1:=zA hi173_1;have HC173_1:=zA hl173_1;clear hi173_1 hl173_1;replace p173:=eq_true p173;replace q173:=eq_true q173
        refine start_ (n:=10) (S:=fun w' => w'.cell? (ad172.add ((x5_1).toNat * 2)) = some (.int .i64 ((rd_T81 l0 x5_1).f0)) ∧ w'.cell? ⟨(ad172.add ((x5_1).toNat * 2)).block,(ad172.add ((x5_1).toNat * 2)).off + 1,none⟩ = some (.slice A172_1 ((rd_T81 l0 x5_1).f1).length c172_1) ∧ w'.cell? (ad173.add ((x5_1).toNat * 2)) = some (.int .i64 ((rd_T81 l1 x5_1).f0)) ∧ w'.cell? ⟨(ad173.add ((x5_1).toNat * 2)).block,(ad173.add ((x5_1).toNat * 2)).off + 1,none⟩ = some (.slice A173_1 ((rd_T81 l1 x5_1).f1).length c173_1)) (ds:=[]) #[false,false,false,false,false,false,false,false,false,false] (by kernel_rfl) rfl rfl ⟨((HB.out.cell (World.block_lt_of_cell? w _ hw172_0)).trans hw172_0),((HB.out.cell (World.block_lt_of_cell? w _ hw172_1)).trans hw172_1),((HB.out.cell (World.block_lt_of_cell? w _ hw173_0)).trans hw173_0),((HB.out.cell (World.block_lt_of_cell? w _ hw173_1)).trans hw173_1)⟩ (fun hHeld => ?_);refine with_tabW laws_eqAtomS.tab6 laws_eqAtomS.bits6 (fun HT_ HW_ => ?_)
        generalize wr.drew = w11 at HB HR172_1 HR173_1 hx172_0 hx172_1 hx173_0 hx173_1 hHeld ⊢
        refine zut 0 17 HT_ ?_;refine zut 1 18 HT_ ?_;refine zut 2 19 HT_ ?_;refine zut 4 21 HT_ ?_;refine zut 5 22 HT_ ?_;refine zut 6 23 HT_ ?_;refine zwt 3 20 HT_ HW_ hHeld ?_;refine zwt 7 24 HT_ HW_ hHeld ?_
        refine one_ (i:=8) (N:=some 25) #[true,true,true,true,true,true,true,true,true,false] rfl rfl (one_of HT_.out (by kernel_rfl)) (by decide) (fun K hK => ?_)
        refine goes_ Tryz.func70 (by kernel_rfl) rfl #[.agg #[.int .i64 ((rd_T81 l0 x5_1).f0),.slice A172_1 ((rd_T81 l0 x5_1).f1).length c172_1],.agg #[.int .i64 ((rd_T81 l1 x5_1).f0),.slice A173_1 ((rd_T81 l1 x5_1).f1).length c173_1]] (by rfl) rfl rfl (by (try simp only [zCb,zMb,zNb]);first|done|rfl|(simp only [zLb,zDb];rfl)) ?_
        with_reducible refine (laws_eqAtom.calls k1 ((rd_T81 l0 x5_1).f0) _ _ ((rd_T81 l0 x5_1).f1) ((rd_T81 l1 x5_1).f0) _ _ ((rd_T81 l1 x5_1).f1) false _ ?side1 ?side2 ?side3 ?side4 A7.out).mono ?_
        (case side1 => exact zsd HR172_1 HB)
        (case side2 => exact HC172_1.out)
        (case side3 => exact zsd HR173_1 HB)
        (case side4 => exact HC173_1.out)
        rintro e w12 ⟨rfl,hb⟩
        refine ⟨_,rfl,?_⟩
        have n0_:=zA (zJb (zz HB) hb);clear HB;have HB:=n0_;clear n0_;(try clear hb);(try clear hb2);(try clear hk);(try clear hi)
        refine hK.out _ _ ⟨((HB.out.cell (World.block_lt_of_cell? w _ hw172_0)).trans hw172_0),((HB.out.cell (World.block_lt_of_cell? w _ hw172_1)).trans hw172_1),((HB.out.cell (World.block_lt_of_cell? w _ hw173_0)).trans hw173_0),((HB.out.cell (World.block_lt_of_cell? w _ hw173_1)).trans hw173_1)⟩ (fun hHeld => ?_)
        clear hK K
        refine norm_ (a':=?_) ?_ ?_
        rotate_left
        ·
         show Act.put _ (some 25) _ = _
         simp only [Act.put,zO,zEb,zFb,i64_w,i32_w]
         rfl
        refine zut 9 26 HT_ ?_
        refine done_ (done_of HT_.out (by kernel_rfl)) ?_
        try go_wp2
        go_ret
        exact ⟨by first|rfl|(simp [errW_none,errW_some] <;> rfl)|(simp [*,errW_none,errW_some] <;> rfl),zz HB⟩
      ·
       rw [if_neg c6] at H
       exact absurd H (by simp)
     ·
      rw [if_neg c5] at H
      exact absurd H (by simp)
    ·
     rw [if_neg c4] at H;have c4b0:=decide_eq_false c4;clear c4
     obtain rfl:=Option.some.inj H
     go_wp2
     go_ret
     exact ⟨by first|rfl|(simp [errW_none,errW_some] <;> rfl)|(simp [*,errW_none,errW_some] <;> rfl),zz HB⟩
 ·
  rw [if_neg c3] at H;have c3b0:=beq_eq_false_iff_ne.mpr c3;have c3b1:=bne_iff_ne.mpr c3
  have c3b2 : (l0.length == l1.length) = false:=by first|simpa using c3|(simp at c3 ⊢;omega)
  obtain rfl:=Option.some.inj H
  go_enter Tryz.func41,Tryz.ntmps41
  go_wp2
  go_ret
  exact ⟨by first|rfl|(simp [errW_none,errW_some] <;> rfl)|(simp [*,errW_none,errW_some] <;> rfl),zz HB⟩

end Go.Proofs.YtfelabhakgcifaaGreat.QFnExactCountAnswers
