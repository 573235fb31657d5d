/- Walks through the Go functions that FnMappings reaches: each call returns what the Lean function beside it says, within the bounds that the theorem names. -/
import Derived.Test.YtanbgnjfllpkgaaQFnMappingsx0
import Derived.Test.YtanbgnjfllpkgaaQFnMappingsx8
namespace Go.Proofs.Ytanbgnjfllpkgaa.QFnMappings
open Go.RowKit Go.Proofs.YtanbgnjfllpkgaaW.PrintWords Go.Proofs.YtanbgnjfllpkgaaW.PrintLast Go.Proofs.YtanbgnjfllpkgaaW.PrintMore
attribute [local go_sem] max2_int min2_int max_two min_two max_three min_three max_four min_four   -- for this text's walks alone
set_option linter.unusedVariables false
set_option linter.unusedSimpArgs false


/-! ### impl_copyAtoms: function 147 -/
def impl_copyAtoms.l0 : Nat → List (S97) → List (S97) → Int → Int → Option ((List (S97)))
 | 0, _, _, _, _ => none
 | k + 1, x3, x7, x8, x9 => if x9 < x8 then (if 0 ≤ x9 then (if x9 < (x7.length : Int) then ((impl_copyInts.f ((rd_T97 x7 x9).f1)).bind fun t236 => (if x3.length < 4398046511104 then (impl_copyAtoms.l0 k (x3 ++ [(⟨(rd_T97 x7 x9).f0, t236⟩ : S97)]) x7 x8 (wrap64 (x9 + 1))) else (none))) else (none)) else (none)) else (some x3)
def impl_copyAtoms.f (k : Nat) (l0 : List (S97)) : Option ((List (S97))) := impl_copyAtoms.l0 k (([] : List (S97))) l0 (l0.length : Int) 0
def impl_copyAtoms.T5 : Bool × List (List Nat × List Nat) := (true, [([], []), ([], []), ([1], [1]), ([], []), ([3], [3]), ([4], [4]), ([2, 5], [2, 5]), ([6], [6]), ([0, 7, 5], [0, 7]), ([8, 8, 0, 1, 2, 3, 4, 5, 6, 7, 8], [0, 8])])
def impl_copyAtoms.B5 : List Nat := [0, 0, 2, 0, 8, 24, 62, 126, 255, 511]
theorem impl_copyAtoms.tab5 : rtab .any (opsOf Try.f147 5) = impl_copyAtoms.T5 := by kernel_rfl
theorem impl_copyAtoms.bits5 : waitsOk impl_copyAtoms.T5.2 impl_copyAtoms.B5 = true := by kernel_rfl
set_option maxHeartbeats 8000000 in
set_option maxRecDepth 100000 in
theorem impl_copyAtoms.calls (k : Nat) (A0 : Option Addr) (c0 : Nat) (l0 : List (S97)) (r : List (S97)) (w : World) (hr0 : Kd.C k97 w A0 l0.length l0) (hc0 : l0.length ≤ c0) (h : impl_copyAtoms.f k l0 = some r) :
  Calls Try.prog 147 #[.slice A0 l0.length c0] w fun e w' => ∃ v0_ : Value, e = .returned (v0_) ∧ Kd.S k97 97 w' w.heap.size (fun _ => True) v0_ r ∧ Below w.heap.size w w' := by
 have hu97:=Try.underlying97;have HR0:=zA hr0;have HC0:=zA hc0;clear hr0 hc0;have HB:=zA (Below.refl w.heap.size w)
 have H : (impl_copyAtoms.l0 k (([] : List (S97))) l0 (l0.length : Int) 0) = some r:=h
 clear h;obtain ⟨y231,hy231⟩ : ∃ y_ : List (S97),y_ = (([] : List (S97))):=⟨_,rfl⟩
 replace H : (impl_copyAtoms.l0 k y231 l0 (l0.length : Int) 0) = some r:=by first|(rw [hy231];with_reducible exact H)|(have H2_:=(Option.bind_some _ _).symm.trans H;rw [hy231];with_reducible exact H2_)|(have H2_:=(Option.bind_some _ _).symm.trans H;with_reducible exact H2_)|with_reducible exact H|(rw [hy231];exact H)|exact H
 have Ny231:=zA hy231;clear hy231
 have H':=zA H
 clear H
 go_enter Try.func147,Try.ntmps147
 go_wp2_with (first|((with_reducible refine gate_dst (N:=6) rfl ?_);refine Kd.S_lit k97 _ 97 ?hg (N:=6) ?hd (xs:=([] : List (S97))) (inner:=[]) (ok:=fun _ => True) (okp:=fun _ => True) ?hr ?hp (fun _ hk => hk) trivial (Below.refl _ _) (Nat.le_refl _) (by simp) ?_;(case hd => rfl);(case hg => rfl);(case hr => first|(go_simp;done)|(go_simp;rfl));(case hp => exact (Reps.none _ _));intro v232 w2 ho3 hb hg_ hnew_;clear hg_ hnew_;(first|rw [← Ny231.out] at ho3|(simp only [Int.reduceToNat] at ho3;rw [← Ny231.out] at ho3));have HO233:=zA (zIb ho3 (zT (zz HB)));replace HB:=zA (zJb (zz HB) hb);clear hb ho3))
 go_loopg [3,9] k (fun kq v3 v9 w' => ∃ (x3_1 : List (S97)) (x9_1 : Int),v9 = .int .i64 x9_1 ∧ Aside0 (impl_copyAtoms.l0 kq x3_1 l0 (l0.length : Int) x9_1 = some r) ∧ Aside0 (kq ≤ k) ∧ Aside0 (Kd.S k97 97 w' w.heap.size (fun _ => True) v3 x3_1) ∧ Aside0 (Below w.heap.size w w'))
 case atStart => exact ⟨(y231),(0),za,H',⟨Nat.le_refl _⟩,⟨zy HO233⟩,⟨zz HB⟩⟩
 case round =>
  clear H';(try clear c1);(try clear p2);obtain ⟨x3_1,x9_1,rfl,HA,HK1,HO_3,HB⟩:=hrel
  cases gk with
  | zero => exact absurd HA.out (by simp [impl_copyAtoms.l0])
  | succ k1 =>
   have H:=HA.out;clear HA;simp only [impl_copyAtoms.l0] at H
   by_cases c4 : x9_1 < (l0.length : Int)
   ·
    rw [if_pos c4] at H;have c4b0:=decide_eq_true c4;clear c4
    by_cases c5 : 0 ≤ x9_1
    ·
     rw [if_pos c5] at H;have c5b0:=decide_eq_true c5;clear c5
     by_cases c6 : x9_1 < (l0.length : Int)
     ·
      rw [if_pos c6] at H;have c6b0:=decide_eq_true c6;clear c6;obtain ⟨t236,A70,H⟩:=zYb.mp H;(try dsimp only at H);have A7:=zA A70;clear A70
      by_cases c8 : x3_1.length < 4398046511104
      ·
       rw [if_pos c8] at H;have LMc8:=zA c8;clear c8;obtain ⟨y239,hy239⟩ : ∃ y_ : List (S97),y_ = (x3_1 ++ [(⟨(rd_T97 l0 x9_1).f0,t236⟩ : S97)]):=⟨_,rfl⟩
       replace H : (impl_copyAtoms.l0 k1 y239 l0 (l0.length : Int) (wrap64 (x9_1 + 1))) = some r:=by first|(rw [hy239];with_reducible exact H)|(have H2_:=(Option.bind_some _ _).symm.trans H;rw [hy239];with_reducible exact H2_)|(have H2_:=(Option.bind_some _ _).symm.trans H;with_reducible exact H2_)|with_reducible exact H|(rw [hy239];exact H)|exact H
       have Ny239:=zA hy239;clear hy239
       have H':=zA H
       clear H;have p234 : 0 ≤ (x9_1 : Int):=zXb ze;have q234 : x9_1 < (l0.length : Int):=zXb ze;obtain ⟨ad234,A234_1,c234_1,e234,hx234_0,hx234_1,hl234_1,hi234_1⟩:=at_T97 HR0.out x9_1 p234 q234
       cases e234
       replace hx234_0:=zhx HB hx234_0;replace hx234_1:=zhx HB hx234_1;have HR234_1:=zA hi234_1;have HC234_1:=zA hl234_1;clear hi234_1 hl234_1;replace p234:=eq_true p234;replace q234:=eq_true q234
       try go_wp2_with (first|((with_reducible refine gate_dst (N:=5) rfl ?_);refine zbx 5 #[.int .i64 0,.slice none 0 0] 97 ?_;intro gb235 hg w9 hbox hb;replace HO_3:=zA (zY (Kd.S_elderB (zy HO_3) gb235 (Nat.le_of_eq hg.symm)) hb);have BK235:=zA (hbox);have GW235:=zgw hg HB;have GE235:=zgw hg HB;replace HB:=zA (zJb (zz HB) hb);clear hb hbox hg;have hcz10_0:=zc (.int .i64 0) BK235 0 rfl;have hcz10_1:=zc (.slice none 0 0) BK235 1 rfl;have hfz10_0:=blk_frozen BK235.out 0;have hfz10_1:=blk_frozen BK235.out 1))
       have n0_ : Aside0 (Kd.S k97 97 ((w9.setCell ⟨gb235,0,none⟩ (.int .i64 ((rd_T97 l0 x9_1).f0))).setCell ⟨gb235,1,none⟩ (.slice A234_1 ((rd_T97 l0 x9_1).f1).length c234_1)) w.heap.size (fun k_ => k_ ≠ gb235) u3 x3_1):=⟨by (with_reducible repeat (first|apply zM|apply zL|apply zN));exact zS (zVb (p:=⟨gb235,1,none⟩) (zVb (p:=⟨gb235,0,none⟩) (zS HO_3.out (fun k_ hk => (⟨hk,hk.2⟩ : _ ∧ k_ ≠ gb235))) (fun _ hk => hk.2) (.int .i64 ((rd_T97 l0 x9_1).f0))) (fun _ hk => hk.2) (.slice A234_1 ((rd_T97 l0 x9_1).f1).length c234_1)) (fun _ hk => hk.1.2)⟩
       have n1_ : Aside0 (((w9.setCell ⟨gb235,0,none⟩ (.int .i64 ((rd_T97 l0 x9_1).f0))).setCell ⟨gb235,1,none⟩ (.slice A234_1 ((rd_T97 l0 x9_1).f1).length c234_1)).heap[gb235]? = some (.cells #[.int .i64 ((rd_T97 l0 x9_1).f0),.slice A234_1 ((rd_T97 l0 x9_1).f1).length c234_1] 97 (0,0))):=⟨by (with_reducible repeat (first|refine zF ?_ _|refine zI ?_|refine zG ?_ _));refine blk_put (cs:=#[.int .i64 ((rd_T97 l0 x9_1).f0),.slice none 0 0]) ?_ 1 _ rfl;(with_reducible repeat (first|refine zF ?_ _|refine zI ?_|refine zG ?_ _));refine blk_put (cs:=#[.int .i64 0,.slice none 0 0]) ?_ 0 _ rfl;(with_reducible repeat (first|refine zF ?_ _|refine zI ?_|refine zG ?_ _));exact BK235.out⟩
       have n2_ : Aside0 (Below w.heap.size w ((w9.setCell ⟨gb235,0,none⟩ (.int .i64 ((rd_T97 l0 x9_1).f0))).setCell ⟨gb235,1,none⟩ (.slice A234_1 ((rd_T97 l0 x9_1).f1).length c234_1))):=⟨zz HB⟩;(try clear HO_3);(try clear BK235);(try clear HB)
       generalize ((w9.setCell ⟨gb235,0,none⟩ (.int .i64 ((rd_T97 l0 x9_1).f0))).setCell ⟨gb235,1,none⟩ (.slice A234_1 ((rd_T97 l0 x9_1).f1).length c234_1)) = w11 at n0_ n1_ n2_ ⊢
       have HO_3:=n0_;have BK235:=n1_;have HB:=n2_;clear n0_ n1_ n2_;have n0_:=zA (zN HO_3.out);have n1_:=zA (zI BK235.out);have n2_:=zA (zJ HB.out);clear HO_3;clear BK235;clear HB;have HO_3:=n0_;have BK235:=n1_;have HB:=n2_;clear n0_ n1_ n2_
       refine start_ (n:=10) (S:=fun w' => w'.cell? ⟨gb235,0,none⟩ = some (.int .i64 ((rd_T97 l0 x9_1).f0)) ∧ w'.cell? ⟨gb235,1,none⟩ = some (.slice A234_1 ((rd_T97 l0 x9_1).f1).length c234_1)) (ds:=[]) #[false,false,false,false,false,false,false,false,false,false] (by kernel_rfl) rfl rfl ⟨(zP BK235.out 0).trans rfl,(zP BK235.out 1).trans rfl⟩ (fun hHeld => ?_);refine with_tabW impl_copyAtoms.tab5 impl_copyAtoms.bits5 (fun HT_ HW_ => ?_)
       generalize w11.drew = w12 at HO_3 BK235 HB hHeld ⊢
       refine zut 0 13 HT_ ?_;refine zut 1 14 HT_ ?_;refine zut 3 16 HT_ ?_;refine zwt 2 15 HT_ HW_ hHeld ?_;refine zwt 4 17 HT_ HW_ hHeld ?_
       refine one_ (i:=5) (N:=some 18) #[true,true,true,true,true,true,false,false,false,false] rfl rfl (one_of HT_.out (by kernel_rfl)) (by decide) (fun K hK => ?_)
       refine goes_ Try.func139 (by kernel_rfl) rfl #[.slice A234_1 ((rd_T97 l0 x9_1).f1).length c234_1] (by rfl) rfl rfl (by (try simp only [zCb,zMb,zNb]);first|done|rfl|(simp only [zLb,zDb];rfl)) ?_
       with_reducible refine (impl_copyInts.calls _ _ ((rd_T97 l0 x9_1).f1) t236 _ ?side1 ?side2 A7.out).mono ?_
       (case side1 => exact zsd HR234_1 HB)
       (case side2 => exact HC234_1.out)
       rintro e w13 ⟨v237,rfl,ho0,hb⟩
       refine ⟨_,rfl,?_⟩
       have n0_:=zA (zSb (zy HO_3) (zW ho0) hb);have n1_:=zA (zHb ho0 (zT (zz HB)));have n2_:=zbk BK235 hb;have n3_:=zA (zJb (zz HB) hb);clear HO_3;clear BK235;clear HB;have HO_3:=n0_;have HO238:=n1_;have BK235:=n2_;have HB:=n3_;clear n0_ n1_ n2_ n3_;(try clear hb);(try clear hb2);(try clear hk);(try clear hi);(try clear ho0);obtain ⟨Ao14,co14,eo14⟩:=Kd.R_slice HO238.out
       (first|subst eo14|(injection eo14 with f1_ f2_ f3_;have f4_:=f1_.symm;have f5_:=f3_.symm;clear f1_ f2_ f3_;subst f4_;subst f5_))
       refine hK.out _ _ ⟨(zP BK235.out 0).trans rfl,(zP BK235.out 1).trans rfl⟩ (fun hHeld => ?_)
       clear hK K
       refine norm_ (a':=?_) ?_ ?_
       rotate_left
       ·
        show Act.put _ (some 18) _ = _
        simp only [Act.put,zO,zEb,zFb,i64_w,i32_w]
        rfl
       refine zut 6 19 HT_ ?_
       refine one_ (i:=7) (N:=some 20) #[true,true,true,true,true,true,true,true,false,false] rfl rfl (one_of HT_.out (by kernel_rfl)) (by decide) (fun K hK => ?_)
       refine value_ (w1:=?_) (v:=?_) (by rfl) rfl ?_ ?_
       rotate_left 2
       ·
        go_simp
        constructor
        ·
         rfl
        ·
         rfl
       refine hK.out _ _ ⟨(zP (zG BK235.out _) 0).trans rfl,(zP (zG BK235.out _) 1).trans rfl⟩ (fun hHeld => ?_)
       clear hK K
       refine norm_ (a':=?_) ?_ ?_
       rotate_left
       ·
        show Act.put _ (some 20) _ = _
        simp only [Act.put,zO,zEb,zFb,i64_w,i32_w]
        rfl
       refine one_ (i:=8) (N:=some 21) #[true,true,true,true,true,true,true,true,true,false] rfl rfl (one_of HT_.out (by kernel_rfl)) (by decide) (fun K hK => ?_)
       refine Kd.S_append_step k97 (w0:=w) w.heap.size (by rfl) (.tmp 13) (.tmp 20) 44 97 (.agg #[(.int .i64 0),(.slice none 0 0)]) 32 rfl Try.underlying44 info97 rfl (by decide) (by omega) u3 x3_1 (⟨(rd_T97 l0 x9_1).f0,t236⟩ : S97) [.int .i64 ((rd_T97 l0 x9_1).f0),.slice Ao14 t236.length co14] (fun k_ => k_ ≠ gb235) (fun k_ => some k_ = (.slice Ao14 t236.length co14 : Value).ownBlock) rfl rfl ?aP (fun k_ hk_ => ((zGb (ok':=fun k_ => ((fun k_ => k_ ≠ gb235)) k_ ∧ some k_ ≠ (u3 : Value).ownBlock) (Kd.R_types (Kd.R_apart' (HO238.out) (Kd.S_typed HO_3.out) (by decide)) BK235.out (by decide)) (fun k_ hk => ⟨hk.2,hk.1.2⟩))).1 k_ hk_.symm) ?aF ?aO ?aB ?aS ?aL ?_
       (case aP => exact k97_mkM _ _ _ (⟨(rd_T97 l0 x9_1).f0,t236⟩ : S97) (zGb (Kd.R_tight rfl (zGb (ok':=fun k_ => ((fun k_ => k_ ≠ gb235)) k_ ∧ some k_ ≠ (u3 : Value).ownBlock) (Kd.R_types (Kd.R_apart' (HO238.out) (Kd.S_typed HO_3.out) (by decide)) BK235.out (by decide)) (fun k_ hk => ⟨hk.2,hk.1.2⟩))) (fun _ h_ => h_)))
       (case aB => exact (zz HB))
       (case aF => exact (fun k_ hk => Kd.freshB (g:=gb235) (o:=.cells #[.int .i64 ((rd_T97 l0 x9_1).f0),.slice A234_1 ((rd_T97 l0 x9_1).f1).length c234_1] 97 (0,0)) (zx BK235) k_ hk))
       (case aO => exact (by (with_reducible repeat (first|apply zM|apply zL|apply zN));exact zS HO_3.out (fun k_ hk => ⟨hk.1,fun e_ => hk.2 e_⟩)))
       (case aS => exact (zT (zz HB)))
       (case aL => have:=LMc8.out;omega)
       intro v240 w15 ho hb hg hat
       rw [← Ny239.out] at ho;have n0_:=zA (blk_grown (g:=gb235) (o:=.cells #[.int .i64 ((rd_T97 l0 x9_1).f0),.slice A234_1 ((rd_T97 l0 x9_1).f1).length c234_1] 97 (0,0)) (zx BK235) hg (Kd.S_away HO_3.out (fun _ hk => hk.1)));have n1_:=zA (hb);have n2_:=zA (ho);clear BK235;clear HB;clear HO_3;clear HO238;have BK235:=n0_;have HB:=n1_;have HO241:=n2_;clear n0_ n1_ n2_;clear ho hb hg hat
       refine hK.out _ _ ⟨(zP BK235.out 0).trans rfl,(zP BK235.out 1).trans rfl⟩ (fun hHeld => ?_)
       clear hK K
       refine norm_ (a':=?_) ?_ ?_
       rotate_left
       ·
        show Act.put _ (some 21) _ = _
        simp only [Act.put,zO,zEb,zFb,i64_w,i32_w]
        rfl
       refine zut 9 3 HT_ ?_
       refine done_ (done_of HT_.out (by kernel_rfl)) ?_
       try go_wp2
       go_roundg k1
       case measure => have:=HK1.out;omega
       case rel => exact ⟨(y239),(wrap64 (x9_1 + 1)),za,H',⟨by have:=HK1.out;omega⟩,⟨by (with_reducible repeat (first|apply zM|apply zL|apply zN));exact zS HO241.out (fun _ hk => trivial)⟩,⟨zz HB⟩⟩
      ·
       rw [if_neg c8] at H
       exact absurd H (by simp)
     ·
      rw [if_neg c6] at H
      exact absurd H (by simp)
    ·
     rw [if_neg c5] at H
     exact absurd H (by simp)
   ·
    rw [if_neg c4] at H;have c4b0:=decide_eq_false c4;clear c4
    obtain rfl:=Option.some.inj H
    go_wp2
    go_ret
    exact ⟨_,zrr,zy HO_3,zz HB⟩

/-! ### impl_copyQuery: function 125 -/
def impl_copyQuery.f (k : Nat) (l0_0 : List Int) (l0_1 : List (S97)) : Option (List Int × (List (S97))) := (impl_copyInts.f l0_0).bind fun t244 => ((impl_copyAtoms.f k l0_1).bind fun t247 => (some (t244, t247)))
def impl_copyQuery.T1 : Bool × List (List Nat × List Nat) := (true, [([], []), ([0], [0]), ([1], [1]), ([], []), ([3], [3]), ([4, 2], [4]), ([2, 5], [2, 5]), ([6, 5, 0, 1, 2, 3, 4, 5, 6], [6])])
def impl_copyQuery.B1 : List Nat := [0, 1, 3, 0, 8, 31, 63, 127]
theorem impl_copyQuery.tab1 : rtab .any (opsOf Try.f125 1) = impl_copyQuery.T1 := by kernel_rfl
theorem impl_copyQuery.bits1 : waitsOk impl_copyQuery.T1.2 impl_copyQuery.B1 = true := by kernel_rfl
set_option maxHeartbeats 8000000 in
set_option maxRecDepth 100000 in
theorem impl_copyQuery.calls (k : Nat) (A0_0 : Option Addr) (c0_0 : Nat) (l0_0 : List Int) (A0_1 : Option Addr) (c0_1 : Nat) (l0_1 : List (S97)) (r1 : List Int) (r2 : List (S97)) (w : World) (hr0_0 : Kd.C (Kd.int .i64) w A0_0 l0_0.length l0_0) (hc0_0 : l0_0.length ≤ c0_0) (hr0_1 : Kd.C k97 w A0_1 l0_1.length l0_1) (hc0_1 : l0_1.length ≤ c0_1) (h : impl_copyQuery.f k l0_0 l0_1 = some (r1, r2)) :
  Calls Try.prog 125 #[.agg #[.slice A0_0 l0_0.length c0_0, .slice A0_1 l0_1.length c0_1]] w fun e w' => ∃ v0_ v1_ : Value, e = .returned (.agg #[v0_, v1_]) ∧ Kd.R (Kd.int .i64) 3 w' w.heap.size (fun _ => True) v0_ r1 ∧ Kd.S k97 97 w' w.heap.size (fun k_ => some k_ ≠ (v0_ : Value).ownBlock) v1_ r2 ∧ Below w.heap.size w w' := by
 have hu46:=Try.underlying46;have HR0_0:=zA hr0_0;have HC0_0:=zA hc0_0;clear hr0_0 hc0_0;have HR0_1:=zA hr0_1;have HC0_1:=zA hc0_1;clear hr0_1 hc0_1;have HB:=zA (Below.refl w.heap.size w)
 have H : ((impl_copyInts.f l0_0).bind fun t244 => ((impl_copyAtoms.f k l0_1).bind fun t247 => (some (t244,t247)))) = some (r1,r2):=h
 clear h;obtain ⟨t244,A20,H⟩:=zYb.mp H;(try dsimp only at H);have A2:=zA A20;clear A20;obtain ⟨t247,A30,H⟩:=zYb.mp H;(try dsimp only at H);have A3:=zA A30;clear A30;simp only [Option.some.injEq,Prod.mk.injEq] at H;obtain ⟨rfl,rfl⟩:=H
 go_enter Try.func125,Try.ntmps125
 try go_wp2_with (first|((with_reducible refine gate_dst (N:=1) rfl ?_);refine zbx 1 #[.slice A0_0 l0_0.length c0_0,.slice A0_1 l0_1.length c0_1] 46 ?_;intro gb242 hg w4 hbox hb;have BK242:=zA (hbox);have GW242:=zgw hg HB;have GE242:=zgw hg HB;replace HB:=zA (zJb (zz HB) hb);clear hb hbox hg)|((with_reducible refine gate_dst (N:=2) rfl ?_);refine zbx 2 #[.slice none 0 0,.slice none 0 0] 46 ?_;intro gb243 hg w5 hbox hb;have BK243:=zA (hbox);have GW243:=zgw hg HB;have GE243:=zgw hg HB;replace HB:=zA (zJb (zz HB) hb);have NB242_243:=znb hg BK242;have NB243_242:=znc hg BK242;replace BK242:=zbk BK242 hb;clear hb hbox hg))
 have n0_:=zA (zI BK242.out);have n1_:=zA (zI BK243.out);have n2_:=zA (zJ HB.out);clear BK242;clear BK243;clear HB;have BK242:=n0_;have BK243:=n1_;have HB:=n2_;clear n0_ n1_ n2_
 refine start_ (n:=8) (S:=fun w' => w'.cell? ⟨gb242,0,none⟩ = some (.slice A0_0 l0_0.length c0_0) ∧ w'.cell? ⟨gb242,1,none⟩ = some (.slice A0_1 l0_1.length c0_1)) (ds:=[]) #[false,false,false,false,false,false,false,false] (by kernel_rfl) rfl rfl ⟨(zP BK242.out 0).trans rfl,(zP BK242.out 1).trans rfl⟩ (fun hHeld => ?_);refine with_tabW impl_copyQuery.tab1 impl_copyQuery.bits1 (fun HT_ HW_ => ?_)
 generalize w5.drew = w6 at BK242 BK243 HB hHeld ⊢
 refine zut 0 3 HT_ ?_;refine zut 3 6 HT_ ?_;refine zwt 1 4 HT_ HW_ hHeld ?_;refine zwt 4 7 HT_ HW_ hHeld ?_
 refine one_ (i:=2) (N:=some 5) #[true,true,true,true,true,false,false,false] rfl rfl (one_of HT_.out (by kernel_rfl)) (by decide) (fun K hK => ?_)
 refine goes_ Try.func139 (by kernel_rfl) rfl #[.slice A0_0 l0_0.length c0_0] (by rfl) rfl rfl (by (try simp only [zCb,zMb,zNb]);first|done|rfl|(simp only [zLb,zDb];rfl)) ?_
 with_reducible refine (impl_copyInts.calls _ _ l0_0 t244 _ ?side1 ?side2 A2.out).mono ?_
 (case side1 => exact zsd HR0_0 HB)
 (case side2 => exact HC0_0.out)
 rintro e w7 ⟨v245,rfl,ho0,hb⟩
 refine ⟨_,rfl,?_⟩
 have n0_:=zA (zHb ho0 (zT (zz HB)));have n1_:=zbk BK242 hb;have n2_:=zbk BK243 hb;have n3_:=zA (zJb (zz HB) hb);clear BK242;clear BK243;clear HB;have HO246:=n0_;have BK242:=n1_;have BK243:=n2_;have HB:=n3_;clear n0_ n1_ n2_ n3_;(try clear hb);(try clear hb2);(try clear hk);(try clear hi);(try clear ho0)
 refine hK.out _ _ ⟨(zP BK242.out 0).trans rfl,(zP BK242.out 1).trans rfl⟩ (fun hHeld => ?_)
 clear hK K
 refine norm_ (a':=?_) ?_ ?_
 rotate_left
 ·
  show Act.put _ (some 5) _ = _
  simp only [Act.put,zO,zEb,zFb,i64_w,i32_w]
  rfl
 refine one_ (i:=5) (N:=some 8) #[true,true,true,true,true,true,false,false] rfl rfl (one_of HT_.out (by kernel_rfl)) (by decide) (fun K hK => ?_)
 refine goes_ Try.func147 (by kernel_rfl) rfl #[.slice A0_1 l0_1.length c0_1] (by rfl) rfl rfl (by (try simp only [zCb,zMb,zNb]);first|done|rfl|(simp only [zLb,zDb];rfl)) ?_
 with_reducible refine (impl_copyAtoms.calls k _ _ l0_1 t247 _ ?side1 ?side2 A3.out).mono ?_
 (case side1 => exact zsd HR0_1 HB)
 (case side2 => exact HC0_1.out)
 rintro e w8 ⟨v248,rfl,ho0,hb⟩
 refine ⟨_,rfl,?_⟩
 have n0_:=zA (zZ (zq HO246) hb);have n1_:=zA (zIb (zV ho0 (zOb (zq HO246))) (zT (zz HB)));have n2_:=zbk BK242 hb;have n3_:=zbk BK243 hb;have n4_:=zA (zJb (zz HB) hb);clear HO246;clear BK242;clear BK243;clear HB;have HO246:=n0_;have HO249:=n1_;have BK242:=n2_;have BK243:=n3_;have HB:=n4_;clear n0_ n1_ n2_ n3_ n4_;(try clear hb);(try clear hb2);(try clear hk);(try clear hi);(try clear ho0);obtain ⟨Ao9,co9,eo9⟩:=Kd.S_slice HO249.out
 (first|subst eo9|(injection eo9 with f1_ f2_ f3_;have f4_:=f1_.symm;have f5_:=f3_.symm;clear f1_ f2_ f3_;subst f4_;subst f5_))
 obtain ⟨Ao10,co10,eo10⟩:=Kd.R_slice HO246.out
 (first|subst eo10|(injection eo10 with f1_ f2_ f3_;have f4_:=f1_.symm;have f5_:=f3_.symm;clear f1_ f2_ f3_;subst f4_;subst f5_))
 refine hK.out _ _ ⟨(zP BK242.out 0).trans rfl,(zP BK242.out 1).trans rfl⟩ (fun hHeld => ?_)
 clear hK K
 refine norm_ (a':=?_) ?_ ?_
 rotate_left
 ·
  show Act.put _ (some 8) _ = _
  simp only [Act.put,zO,zEb,zFb,i64_w,i32_w]
  rfl
 refine zut 6 9 HT_ ?_
 refine one_ (i:=7) (N:=none) #[true,true,true,true,true,true,true,true] rfl rfl (one_of HT_.out (by kernel_rfl)) (by decide) (fun K hK => ?_)
 have hs11 : w8.cell? ⟨gb243,0,none⟩ = some (.slice none 0 0):=(zP BK243.out 0).trans rfl
 have hfs11:=blk_frozen BK243.out 0;have hns11_0:=NB242_243.out;have hms11_0:=NB243_242.out
 have hs12 : w8.cell? ⟨gb243,1,none⟩ = some (.slice none 0 0):=(zP BK243.out 1).trans rfl
 have hfs12:=blk_frozen BK243.out 1;have hns12_0:=NB242_243.out;have hms12_0:=NB243_242.out
 refine skip_ (w1:=?_) (by rfl) rfl ?_ ?_
 rotate_left
 ·
  go_simp
  rfl
 refine hK.out _ _ ⟨((zWb (p:=⟨gb243,_,none⟩) NB242_243.out _).trans (((zWb (p:=⟨gb243,_,none⟩) NB242_243.out _).trans (hHeld.1)))),((zWb (p:=⟨gb243,_,none⟩) NB242_243.out _).trans (((zWb (p:=⟨gb243,_,none⟩) NB242_243.out _).trans (hHeld.2))))⟩ (fun hHeld => ?_)
 clear hK K
 refine done_ (done_of HT_.out (by kernel_rfl)) ?_
 try go_wp2
 refine bodyPost_ret (results_cell_row rfl _ _ gb243 46 #[.slice Ao10 t244.length co10,.slice Ao9 t247.length co9] (0,0) _ rfl (by (with_reducible repeat (first|refine zF ?_ _|refine zI ?_|refine zG ?_ _));refine blk_put (cs:=#[.slice Ao10 t244.length co10,.slice none 0 0]) ?_ 1 _ rfl;(with_reducible repeat (first|refine zF ?_ _|refine zI ?_|refine zG ?_ _));refine blk_put (cs:=#[.slice none 0 0,.slice none 0 0]) ?_ 0 _ rfl;(with_reducible repeat (first|refine zF ?_ _|refine zI ?_|refine zG ?_ _));exact BK243.out) Try.underlying46 rfl (by kernel_rfl)) rfl ?_
 exact ⟨_,_,zrr,by (with_reducible repeat (first|apply zE|apply zD|apply zH));exact zGb (zR (p:=⟨gb243,1,none⟩) (zR (p:=⟨gb243,0,none⟩) (Kd.R_types HO246.out BK243.out (by decide)) (fun _ hk => hk.2) (.slice Ao10 t244.length co10)) (fun _ hk => hk.2) (.slice Ao9 t247.length co9)) (fun _ hk => trivial),by (with_reducible repeat (first|apply zM|apply zL|apply zN));exact zS (zVb (p:=⟨gb243,1,none⟩) (zVb (p:=⟨gb243,0,none⟩) (Kd.S_types HO249.out BK243.out (by decide)) (fun _ hk => hk.2) (.slice Ao10 t244.length co10)) (fun _ hk => hk.2) (.slice Ao9 t247.length co9)) (fun _ hk => hk.1.2),zz HB⟩

-- NOT PRINTED: function 97 (impl_Query_changed)

-- NOT PRINTED: function 155 (impl_Atom_155)

-- NOT PRINTED: function 133 (impl_Atom_133)

-- NOT PRINTED: function 104 (impl_maps)

-- NOT PRINTED: function 50 (impl_IsMapping)

/-! ### spec_l7Empty: function 108 -/
def spec_l7Empty.l0 : Nat → List Int → Int → Option (List Int)
 | 0, _, _ => none
 | k + 1, x1, x2 => if x2 < 20 then (if x1.length < 17592186044416 then (spec_l7Empty.l0 k (x1 ++ [(-1000)]) (wrap64 (x2 + 1))) else (none)) else (some x1)
def spec_l7Empty.f (k : Nat)  : Option (List Int) := spec_l7Empty.l0 k (([] : List Int)) 0
set_option maxHeartbeats 8000000 in
set_option maxRecDepth 100000 in
theorem spec_l7Empty.calls (k : Nat)  (r : List Int) (w : World) (h : spec_l7Empty.f k  = some r) :
  Calls Try.prog 108 #[] w fun e w' => ∃ v0_ : Value, e = .returned (v0_) ∧ Kd.R (Kd.int .i64) 3 w' w.heap.size (fun _ => True) v0_ r ∧ Below w.heap.size w w' := by
 have HB:=zA (Below.refl w.heap.size w)
 have H : (spec_l7Empty.l0 k (([] : List Int)) 0) = some r:=h
 clear h;obtain ⟨y257,hy257⟩ : ∃ y_ : List Int,y_ = (([] : List Int)):=⟨_,rfl⟩
 replace H : (spec_l7Empty.l0 k y257 0) = some r:=by first|(rw [hy257];with_reducible exact H)|(have H2_:=(Option.bind_some _ _).symm.trans H;rw [hy257];with_reducible exact H2_)|(have H2_:=(Option.bind_some _ _).symm.trans H;with_reducible exact H2_)|with_reducible exact H|(rw [hy257];exact H)|exact H
 have Ny257:=zA hy257;clear hy257
 have H':=zA H
 clear H
 go_enter Try.func108,Try.ntmps108
 go_wp2_with (first|((with_reducible refine gate_dst (N:=3) rfl ?_);refine Kd.R_lit (Kd.int .i64) _ 3 ?hg (N:=3) ?hd (xs:=([] : List Int)) (inner:=[]) (ok:=fun _ => True) (okp:=fun _ => True) ?hr ?hp (fun _ hk => hk) trivial (Below.refl _ _) (Nat.le_refl _) (by simp) ?_;(case hd => rfl);(case hg => rfl);(case hr => first|(go_simp;done)|(go_simp;rfl));(case hp => exact (Reps.none _ _));intro v258 w1 ho2 hb hg_ hnew_;clear hg_ hnew_;(first|rw [← Ny257.out] at ho2|(simp only [Int.reduceToNat] at ho2;rw [← Ny257.out] at ho2));have HO259:=zA (zHb ho2 (zT (zz HB)));replace HB:=zA (zJb (zz HB) hb);clear hb ho2))
 go_loopg [1,2] k (fun kq v1 v2 w' => ∃ (x1_1 : List Int) (x2_1 : Int),v2 = .int .i64 x2_1 ∧ Aside0 (spec_l7Empty.l0 kq x1_1 x2_1 = some r) ∧ Aside0 (kq ≤ k) ∧ Aside0 (Kd.R (Kd.int .i64) 3 w' w.heap.size (fun _ => True) v1 x1_1) ∧ Aside0 (Below w.heap.size w w'))
 case atStart => exact ⟨(y257),(0),za,H',⟨Nat.le_refl _⟩,⟨zq HO259⟩,⟨zz HB⟩⟩
 case round =>
  clear H';(try clear c1);(try clear p2);obtain ⟨x1_1,x2_1,rfl,HA,HK1,HO_1,HB⟩:=hrel
  cases gk with
  | zero => exact absurd HA.out (by simp [spec_l7Empty.l0])
  | succ k1 =>
   have H:=HA.out;clear HA;simp only [spec_l7Empty.l0] at H
   by_cases c3 : x2_1 < 20
   ·
    rw [if_pos c3] at H;have c3b0:=decide_eq_true c3;clear c3
    by_cases c4 : x1_1.length < 17592186044416
    ·
     rw [if_pos c4] at H;have LMc4:=zA c4;clear c4;obtain ⟨y260,hy260⟩ : ∃ y_ : List Int,y_ = (x1_1 ++ [(-1000)]):=⟨_,rfl⟩
     replace H : (spec_l7Empty.l0 k1 y260 (wrap64 (x2_1 + 1))) = some r:=by first|(rw [hy260];with_reducible exact H)|(have H2_:=(Option.bind_some _ _).symm.trans H;rw [hy260];with_reducible exact H2_)|(have H2_:=(Option.bind_some _ _).symm.trans H;with_reducible exact H2_)|with_reducible exact H|(rw [hy260];exact H)|exact H
     have Ny260:=zA hy260;clear hy260
     have H':=zA H
     clear H
     go_wp2_with (first|((with_reducible refine gate_builtin (b:=.append) (xs:=#[.tmp 8,.tmp 9]) rfl ?_);at_builtin;refine Kd.R_append (Kd.int .i64) (w0:=w) w.heap.size rfl (.tmp 8) (.tmp 9) 38 3 (.int .i64 0) 8 rfl Try.underlying38 info3 rfl (by decide) (by omega) u1 x1_1 (-1000) [.int .i64 (-1000)] (fun _ => True) (fun _ => False) rfl rfl ?aP (fun _ hk => hk.elim) ?aF ?aO ?aB ?aS ?aL ?_;(case aP => exact rfl);(case aB => exact (zz HB));(case aF => exact (fun _ _ => trivial));(case aO => exact (zq HO_1));(case aS => exact (zT (zz HB)));(case aL => have:=LMc4.out;omega);intro v261 w5 ho hb hg hat;rw [← Ny260.out] at ho;replace HB:=zA (hb);have HO262:=zA (ho);clear HO_1;clear ho hb hg hat))
     go_roundg k1
     case measure => have:=HK1.out;omega
     case rel => exact ⟨(y260),(wrap64 (x2_1 + 1)),za,H',⟨by have:=HK1.out;omega⟩,⟨zq HO262⟩,⟨zz HB⟩⟩
    ·
     rw [if_neg c4] at H
     exact absurd H (by simp)
   ·
    rw [if_neg c3] at H;have c3b0:=decide_eq_false c3;clear c3
    obtain rfl:=Option.some.inj H
    go_wp2
    go_ret
    exact ⟨_,zrr,zq HO_1,zz HB⟩

/-! ### spec_l7Unify: function 135 -/
def spec_l7Unify.l0 : Nat → List Int → List Int → List Int → Int → Option (List Int × Bool)
 | 0, _, _, _, _ => none
 | k + 1, x0, x1, x8, x9 => if x9 < (x0.length : Int) then (if 0 ≤ x9 then (if (rd x0 x9) < 0 then (if x9 < (x1.length : Int) then (if (rd x0 x9) = (rd x1 x9) then (spec_l7Unify.l0 k x0 x1 x8 (wrap64 (x9 + 1))) else (some (x8, false))) else (none)) else (if 0 ≤ (rd x0 x9) then (if (rd x0 x9) < (x8.length : Int) then (if (rd x8 (rd x0 x9)) = (-1000) then (if x9 < (x1.length : Int) then (spec_l7Unify.l0 k x0 x1 (x8.set ((rd x0 x9) : Int).toNat (rd x1 x9)) (wrap64 (x9 + 1))) else (none)) else (if x9 < (x1.length : Int) then (if (rd x8 (rd x0 x9)) = (rd x1 x9) then (spec_l7Unify.l0 k x0 x1 x8 (wrap64 (x9 + 1))) else (some (x8, false))) else (none))) else (none)) else (none))) else (none)) else (some (x8, true))
def spec_l7Unify.f (k : Nat) (l0 : List Int) (l1 : List Int) (l2 : List Int) : Option (List Int × Bool) := (some (([] : List Int) : List Int)).bind fun y263 => (if y263.length + l2.length < 17592186044416 then (spec_l7Unify.l0 k l0 l1 (y263 ++ l2) 0) else (none))
set_option maxHeartbeats 8000000 in
set_option maxRecDepth 100000 in
theorem spec_l7Unify.calls (k : Nat) (A0 : Option Addr) (c0 : Nat) (l0 : List Int) (A1 : Option Addr) (c1 : Nat) (l1 : List Int) (A2 : Option Addr) (c2 : Nat) (l2 : List Int) (r1 : List Int) (r2 : Bool) (w : World) (hr0 : Kd.C (Kd.int .i64) w A0 l0.length l0) (hc0 : l0.length ≤ c0) (hr1 : Kd.C (Kd.int .i64) w A1 l1.length l1) (hc1 : l1.length ≤ c1) (hr2 : Kd.C (Kd.int .i64) w A2 l2.length l2) (hc2 : l2.length ≤ c2) (h : spec_l7Unify.f k l0 l1 l2 = some (r1, r2)) :
  Calls Try.prog 135 #[.slice A0 l0.length c0, .slice A1 l1.length c1, .slice A2 l2.length c2] w fun e w' => ∃ v0_ : Value, e = .returned (.tuple #[v0_, .bool r2]) ∧ Kd.R (Kd.int .i64) 3 w' w.heap.size (fun _ => True) v0_ r1 ∧ Below w.heap.size w w' := by
 have HR0:=zA hr0;have HC0:=zA hc0;clear hr0 hc0;have HR1:=zA hr1;have HC1:=zA hc1;clear hr1 hc1;have HR2:=zA hr2;have HC2:=zA hc2;clear hr2 hc2;have HB:=zA (Below.refl w.heap.size w)
 have H : ((some (([] : List Int) : List Int)).bind fun y263 => (if y263.length + l2.length < 17592186044416 then (spec_l7Unify.l0 k l0 l1 (y263 ++ l2) 0) else (none))) = some (r1,r2):=h
 clear h;obtain ⟨y263,hy263⟩ : ∃ y_ : List Int,y_ = (([] : List Int)):=⟨_,rfl⟩
 replace H : (if y263.length + l2.length < 17592186044416 then (spec_l7Unify.l0 k l0 l1 (y263 ++ l2) 0) else (none)) = some (r1,r2):=by first|(rw [hy263];with_reducible exact H)|(have H2_:=(Option.bind_some _ _).symm.trans H;rw [hy263];with_reducible exact H2_)|(have H2_:=(Option.bind_some _ _).symm.trans H;with_reducible exact H2_)|with_reducible exact H|(rw [hy263];exact H)|exact H
 have Ny263:=zA hy263;clear hy263
 by_cases c4 : y263.length + l2.length < 17592186044416
 ·
  rw [if_pos c4] at H;have LMc4:=zA c4;clear c4;obtain ⟨y266,hy266⟩ : ∃ y_ : List Int,y_ = (y263 ++ l2):=⟨_,rfl⟩
  replace H : (spec_l7Unify.l0 k l0 l1 y266 0) = some (r1,r2):=by first|(rw [hy266];with_reducible exact H)|(have H2_:=(Option.bind_some _ _).symm.trans H;rw [hy266];with_reducible exact H2_)|(have H2_:=(Option.bind_some _ _).symm.trans H;with_reducible exact H2_)|with_reducible exact H|(rw [hy266];exact H)|exact H
  have Ny266:=zA hy266;clear hy266
  have H':=zA H
  clear H
  go_enter Try.func135,Try.ntmps135
  go_wp2_with (first|((with_reducible refine gate_dst (N:=11) rfl ?_);refine Kd.R_lit (Kd.int .i64) _ 3 ?hg (N:=11) ?hd (xs:=([] : List Int)) (inner:=[]) (ok:=fun _ => True) (okp:=fun _ => True) ?hr ?hp (fun _ hk => hk) trivial (Below.refl _ _) (Nat.le_refl _) (by simp) ?_;(case hd => rfl);(case hg => rfl);(case hr => first|(go_simp;done)|(go_simp;rfl));(case hp => exact (Reps.none _ _));intro v264 w5 ho6 hb hg_ hnew_;clear hg_ hnew_;(first|rw [← Ny263.out] at ho6|(simp only [Int.reduceToNat] at ho6;rw [← Ny263.out] at ho6));have HO265:=zA (zHb ho6 (zT (zz HB)));replace HB:=zA (zJb (zz HB) hb);clear hb ho6)|((with_reducible refine gate_builtin (b:=.append) (xs:=#[.tmp 11,.tmp 12]) rfl ?_);at_builtin;refine Kd.R_append_rows (Kd.int .i64) (w0:=w) w.heap.size rfl (.tmp 11) (.tmp 12) 38 3 (.int .i64 0) 8 rfl Try.underlying38 info3 rfl (by decide) (by omega) v264 y263 l2 _ _ _ (fun _ => True) (fun _ => False) rfl rfl ?aO ?aR (fun _ _ h => h) (fun _ h => h.elim) ?aF ?aB ?aS ?aL ?_;(case aR => exact zsd HR2 HB);(case aB => exact (zz HB));(case aF => exact (fun _ _ => trivial));(case aO => exact (zq HO265));(case aS => exact (zT (zz HB)));(case aL => have:=LMc4.out;omega);intro v267 w7 ho hb hg hat;rw [← Ny266.out] at ho;replace HB:=zA (hb);have HO268:=zA (ho);clear HO265;clear ho hb hg hat))
  repeat (go_quiet (first|((with_reducible refine gate_dst (N:=11) rfl ?_);refine Kd.R_lit (Kd.int .i64) _ 3 ?hg (N:=11) ?hd (xs:=([] : List Int)) (inner:=[]) (ok:=fun _ => True) (okp:=fun _ => True) ?hr ?hp (fun _ hk => hk) trivial (Below.refl _ _) (Nat.le_refl _) (by simp) ?_;(case hd => rfl);(case hg => rfl);(case hr => first|(go_simp;done)|(go_simp;rfl));(case hp => exact (Reps.none _ _));intro v264 w5 ho6 hb hg_ hnew_;clear hg_ hnew_;(first|rw [← Ny263.out] at ho6|(simp only [Int.reduceToNat] at ho6;rw [← Ny263.out] at ho6));have HO265:=zA (zHb ho6 (zT (zz HB)));replace HB:=zA (zJb (zz HB) hb);clear hb ho6)|((with_reducible refine gate_builtin (b:=.append) (xs:=#[.tmp 11,.tmp 12]) rfl ?_);at_builtin;refine Kd.R_append_rows (Kd.int .i64) (w0:=w) w.heap.size rfl (.tmp 11) (.tmp 12) 38 3 (.int .i64 0) 8 rfl Try.underlying38 info3 rfl (by decide) (by omega) v264 y263 l2 _ _ _ (fun _ => True) (fun _ => False) rfl rfl ?aO ?aR (fun _ _ h => h) (fun _ h => h.elim) ?aF ?aB ?aS ?aL ?_;(case aR => exact zsd HR2 HB);(case aB => exact (zz HB));(case aF => exact (fun _ _ => trivial));(case aO => exact (zq HO265));(case aS => exact (zT (zz HB)));(case aL => have:=LMc4.out;omega);intro v267 w7 ho hb hg hat;rw [← Ny266.out] at ho;replace HB:=zA (hb);have HO268:=zA (ho);clear HO265;clear ho hb hg hat));try go_wp2_with (first|((with_reducible refine gate_dst (N:=11) rfl ?_);refine Kd.R_lit (Kd.int .i64) _ 3 ?hg (N:=11) ?hd (xs:=([] : List Int)) (inner:=[]) (ok:=fun _ => True) (okp:=fun _ => True) ?hr ?hp (fun _ hk => hk) trivial (Below.refl _ _) (Nat.le_refl _) (by simp) ?_;(case hd => rfl);(case hg => rfl);(case hr => first|(go_simp;done)|(go_simp;rfl));(case hp => exact (Reps.none _ _));intro v264 w5 ho6 hb hg_ hnew_;clear hg_ hnew_;(first|rw [← Ny263.out] at ho6|(simp only [Int.reduceToNat] at ho6;rw [← Ny263.out] at ho6));have HO265:=zA (zHb ho6 (zT (zz HB)));replace HB:=zA (zJb (zz HB) hb);clear hb ho6)|((with_reducible refine gate_builtin (b:=.append) (xs:=#[.tmp 11,.tmp 12]) rfl ?_);at_builtin;refine Kd.R_append_rows (Kd.int .i64) (w0:=w) w.heap.size rfl (.tmp 11) (.tmp 12) 38 3 (.int .i64 0) 8 rfl Try.underlying38 info3 rfl (by decide) (by omega) v264 y263 l2 _ _ _ (fun _ => True) (fun _ => False) rfl rfl ?aO ?aR (fun _ _ h => h) (fun _ h => h.elim) ?aF ?aB ?aS ?aL ?_;(case aR => exact zsd HR2 HB);(case aB => exact (zz HB));(case aF => exact (fun _ _ => trivial));(case aO => exact (zq HO265));(case aS => exact (zT (zz HB)));(case aL => have:=LMc4.out;omega);intro v267 w7 ho hb hg hat;rw [← Ny266.out] at ho;replace HB:=zA (hb);have HO268:=zA (ho);clear HO265;clear ho hb hg hat)))
  go_loopg [9] k (fun kq v9 w' => ∃ (x8_1 : List Int) (x9_1 : Int),v9 = .int .i64 x9_1 ∧ Aside0 (spec_l7Unify.l0 kq l0 l1 x8_1 x9_1 = some (r1,r2)) ∧ Aside0 (kq ≤ k) ∧ Aside0 (Kd.R (Kd.int .i64) 3 w' w.heap.size (fun _ => True) v267 x8_1) ∧ Aside0 (Below w.heap.size w w'))
  case atStart => exact ⟨(y266),(0),za,H',⟨Nat.le_refl _⟩,⟨zq HO268⟩,⟨zz HB⟩⟩
  case round =>
   clear H';(try clear c1);(try clear c2);(try clear p2);(try clear c4);obtain ⟨x8_1,x9_1,rfl,HA,HK1,HO_8,HB⟩:=hrel
   cases gk with
   | zero => exact absurd HA.out (by simp [spec_l7Unify.l0])
   | succ k1 =>
    have H:=HA.out;clear HA;simp only [spec_l7Unify.l0] at H
    by_cases c8 : x9_1 < (l0.length : Int)
    ·
     rw [if_pos c8] at H;have c8b0:=decide_eq_true c8;clear c8
     by_cases c9 : 0 ≤ x9_1
     ·
      rw [if_pos c9] at H;have c9b0:=decide_eq_true c9;clear c9
      by_cases c10 : (rd l0 x9_1) < 0
      ·
       rw [if_pos c10] at H;have c10b0:=decide_eq_true c10;clear c10
       by_cases c11 : x9_1 < (l1.length : Int)
       ·
        rw [if_pos c11] at H;have c11b0:=decide_eq_true c11;clear c11
        by_cases c12 : (rd l0 x9_1) = (rd l1 x9_1)
        ·
         rw [if_pos c12] at H;have c12b0:=beq_iff_eq.mpr c12;have c12b1:=bne_eq_false_iff_eq.mpr c12;clear c12
         have H':=zA H
         clear H;have p269 : 0 ≤ (x9_1 : Int):=zXb ze;have q269 : x9_1 < (l0.length : Int):=zXb ze;obtain ⟨ad269,e269,hx269_0⟩:=Kd.at_int HR0.out x9_1 p269 q269
         cases e269
         replace hx269_0:=zhx HB hx269_0;replace p269:=eq_true p269;replace q269:=eq_true q269;have p270 : 0 ≤ (x9_1 : Int):=zXb ze;have q270 : x9_1 < (l1.length : Int):=zXb ze;obtain ⟨ad270,e270,hx270_0⟩:=Kd.at_int HR1.out x9_1 p270 q270
         cases e270
         replace hx270_0:=zhx HB hx270_0;replace p270:=eq_true p270;replace q270:=eq_true q270
         go_wp2
         repeat (go_quiet (fail);try go_wp2)
         go_roundg k1
         case measure => have:=HK1.out;omega
         case rel => exact ⟨(x8_1),(wrap64 (x9_1 + 1)),za,H',⟨by have:=HK1.out;omega⟩,⟨zq HO_8⟩,⟨zz HB⟩⟩
        ·
         rw [if_neg c12] at H;have c12b0:=beq_eq_false_iff_ne.mpr c12;have c12b1:=bne_iff_ne.mpr c12;simp only [Option.some.injEq,Prod.mk.injEq] at H;obtain ⟨rfl,rfl⟩:=H;have p269 : 0 ≤ (x9_1 : Int):=zXb ze;have q269 : x9_1 < (l0.length : Int):=zXb ze;obtain ⟨ad269,e269,hx269_0⟩:=Kd.at_int HR0.out x9_1 p269 q269
         cases e269
         replace hx269_0:=zhx HB hx269_0;replace p269:=eq_true p269;replace q269:=eq_true q269;have p270 : 0 ≤ (x9_1 : Int):=zXb ze;have q270 : x9_1 < (l1.length : Int):=zXb ze;obtain ⟨ad270,e270,hx270_0⟩:=Kd.at_int HR1.out x9_1 p270 q270
         cases e270
         replace hx270_0:=zhx HB hx270_0;replace p270:=eq_true p270;replace q270:=eq_true q270
         go_wp2
         repeat (go_quiet (fail);try go_wp2)
         go_ret2
         exact ⟨_,zrr,zq HO_8,zz HB⟩
       ·
        rw [if_neg c11] at H
        exact absurd H (by simp)
      ·
       rw [if_neg c10] at H;have c10b0:=decide_eq_false c10;clear c10
       by_cases c13 : 0 ≤ (rd l0 x9_1)
       ·
        rw [if_pos c13] at H;have c13b0:=decide_eq_true c13;clear c13
        by_cases c14 : (rd l0 x9_1) < (x8_1.length : Int)
        ·
         rw [if_pos c14] at H;have c14b0:=decide_eq_true c14;clear c14
         by_cases c15 : (rd x8_1 (rd l0 x9_1)) = (-1000)
         ·
          rw [if_pos c15] at H;have c15b0:=beq_iff_eq.mpr c15;have c15b1:=bne_eq_false_iff_eq.mpr c15;clear c15
          by_cases c16 : x9_1 < (l1.length : Int)
          ·
           rw [if_pos c16] at H;have c16b0:=decide_eq_true c16;clear c16;obtain ⟨y273,hy273⟩ : ∃ y_ : List Int,y_ = (x8_1.set ((rd l0 x9_1) : Int).toNat (rd l1 x9_1)):=⟨_,rfl⟩
           replace H : (spec_l7Unify.l0 k1 l0 l1 y273 (wrap64 (x9_1 + 1))) = some (r1,r2):=by first|(rw [hy273];with_reducible exact H)|(have H2_:=(Option.bind_some _ _).symm.trans H;rw [hy273];with_reducible exact H2_)|(have H2_:=(Option.bind_some _ _).symm.trans H;with_reducible exact H2_)|with_reducible exact H|(rw [hy273];exact H)|exact H
           have Ny273:=zA hy273;clear hy273
           have H':=zA H
           clear H;have p269 : 0 ≤ (x9_1 : Int):=zXb ze;have q269 : x9_1 < (l0.length : Int):=zXb ze;obtain ⟨ad269,e269,hx269_0⟩:=Kd.at_int HR0.out x9_1 p269 q269
           cases e269
           replace hx269_0:=zhx HB hx269_0;replace p269:=eq_true p269;replace q269:=eq_true q269;obtain ⟨Ao18,co18,eo18⟩:=Kd.R_slice HO_8.out
           subst eo18
           have p271 : 0 ≤ ((rd l0 x9_1) : Int):=zXb ze;have q271 : (rd l0 x9_1) < (x8_1.length : Int):=zXb ze;obtain ⟨ad271,e271,hx271_0⟩:=Kd.at_int (Kd.R_reads' HO_8.out).2.2 (rd l0 x9_1) p271 q271
           cases e271
           replace p271:=eq_true p271;replace q271:=eq_true q271;have p272 : 0 ≤ (x9_1 : Int):=zXb ze;have q272 : x9_1 < (l1.length : Int):=zXb ze;obtain ⟨ad272,e272,hx272_0⟩:=Kd.at_int HR1.out x9_1 p272 q272
           cases e272
           replace hx272_0:=zhx HB hx272_0;replace p272:=eq_true p272;replace q272:=eq_true q272;have p17 : 0 ≤ ((rd l0 x9_1) : Int):=zXb ze;have q17 : ((rd l0 x9_1) : Int) < ((x8_1.length : Int) : Int):=zXb ze;obtain ⟨go17,co17,eo17,gb17,gl17,cl17,HG17⟩:=Kd.R_form HO_8.out (by omega)
           (first|cases eo17|(injection eo17 with ea_ en_ ec_;(first|subst ea_|(injection ea_ with ea_;subst ea_));subst ec_;clear en_))
           have GB17:=zA gb17;have GG17:=zA HG17;clear gb17 gl17 HG17
           (first|simp only [add_plain] at hx271_0|skip)
           obtain ⟨hx17_0,hf17_0⟩:=Kd.R_celln 0 HO_8.out ((rd l0 x9_1) : Int) p17 q17;replace p17:=eq_true p17;replace q17:=eq_true q17;have HP19:=Kd.R_putg HO_8.out ((rd l0 x9_1) : Int) (rd l1 x9_1)
           go_wp2_with (first|((with_reducible refine gate_store (t:=3) (p:=46) rfl ?_);(try (rw [drewN_self wr];generalize hq_ : World.drewN wr _ = wr;replace HO_8:=zA (Kd.R_at hq_ HO_8.out);replace HB:=zA (below_at hq_ HB.out);clear hq_;(try (have HP19:=Kd.R_putg HO_8.out ((rd l0 x9_1) : Int) (rd l1 x9_1)))));refine store_event (t:=3) (p:=46) (v:=?vo_w20) (w1:=(wr.setCell ⟨go17,((rd l0 x9_1) : Int).toNat,none⟩ (.int .i64 (rd l1 x9_1)))) ?hg ?ho ?hn ?hr ?_;(case ho => rfl);(case hg => rfl);(case hn => rfl);(case hr => first|(go_simp;done)|(go_simp;rfl));intro w20 hw;have hg : wr.grownBy w20 (some go17):=(by rw [hw];exact HP19.2);have hp_ : Kd.R (Kd.int .i64) 3 w20 w.heap.size (fun _ => True) (.slice (some ⟨go17,0,none⟩) x8_1.length co18) y273:=(by rw [hw,Ny273.out];exact HP19.1);clear HP19;replace HO_8:=zA (hp_);replace HB:=zA ((by rw [hw];exact zB (HB.out) GB17.out : Below w.heap.size w w20));clear hg hw hp_))
           repeat (go_quiet (first|((with_reducible refine gate_store (t:=3) (p:=46) rfl ?_);(try (rw [drewN_self wr];generalize hq_ : World.drewN wr _ = wr;replace HO_8:=zA (Kd.R_at hq_ HO_8.out);replace HB:=zA (below_at hq_ HB.out);clear hq_;(try (have HP19:=Kd.R_putg HO_8.out ((rd l0 x9_1) : Int) (rd l1 x9_1)))));refine store_event (t:=3) (p:=46) (v:=?vo_w20) (w1:=(wr.setCell ⟨go17,((rd l0 x9_1) : Int).toNat,none⟩ (.int .i64 (rd l1 x9_1)))) ?hg ?ho ?hn ?hr ?_;(case ho => rfl);(case hg => rfl);(case hn => rfl);(case hr => first|(go_simp;done)|(go_simp;rfl));intro w20 hw;have hg : wr.grownBy w20 (some go17):=(by rw [hw];exact HP19.2);have hp_ : Kd.R (Kd.int .i64) 3 w20 w.heap.size (fun _ => True) (.slice (some ⟨go17,0,none⟩) x8_1.length co18) y273:=(by rw [hw,Ny273.out];exact HP19.1);clear HP19;replace HO_8:=zA (hp_);replace HB:=zA ((by rw [hw];exact zB (HB.out) GB17.out : Below w.heap.size w w20));clear hg hw hp_));try go_wp2_with (first|((with_reducible refine gate_store (t:=3) (p:=46) rfl ?_);(try (rw [drewN_self wr];generalize hq_ : World.drewN wr _ = wr;replace HO_8:=zA (Kd.R_at hq_ HO_8.out);replace HB:=zA (below_at hq_ HB.out);clear hq_;(try (have HP19:=Kd.R_putg HO_8.out ((rd l0 x9_1) : Int) (rd l1 x9_1)))));refine store_event (t:=3) (p:=46) (v:=?vo_w20) (w1:=(wr.setCell ⟨go17,((rd l0 x9_1) : Int).toNat,none⟩ (.int .i64 (rd l1 x9_1)))) ?hg ?ho ?hn ?hr ?_;(case ho => rfl);(case hg => rfl);(case hn => rfl);(case hr => first|(go_simp;done)|(go_simp;rfl));intro w20 hw;have hg : wr.grownBy w20 (some go17):=(by rw [hw];exact HP19.2);have hp_ : Kd.R (Kd.int .i64) 3 w20 w.heap.size (fun _ => True) (.slice (some ⟨go17,0,none⟩) x8_1.length co18) y273:=(by rw [hw,Ny273.out];exact HP19.1);clear HP19;replace HO_8:=zA (hp_);replace HB:=zA ((by rw [hw];exact zB (HB.out) GB17.out : Below w.heap.size w w20));clear hg hw hp_)))
           go_roundg k1
           case measure => have:=HK1.out;omega
           case rel => exact ⟨(y273),(wrap64 (x9_1 + 1)),za,H',⟨by have:=HK1.out;omega⟩,⟨zq HO_8⟩,⟨zz HB⟩⟩
          ·
           rw [if_neg c16] at H
           exact absurd H (by simp)
         ·
          rw [if_neg c15] at H;have c15b0:=beq_eq_false_iff_ne.mpr c15;have c15b1:=bne_iff_ne.mpr c15
          by_cases c21 : x9_1 < (l1.length : Int)
          ·
           rw [if_pos c21] at H;have c21b0:=decide_eq_true c21;clear c21
           by_cases c22 : (rd x8_1 (rd l0 x9_1)) = (rd l1 x9_1)
           ·
            rw [if_pos c22] at H;have c22b0:=beq_iff_eq.mpr c22;have c22b1:=bne_eq_false_iff_eq.mpr c22;clear c22
            have H':=zA H
            clear H;have p269 : 0 ≤ (x9_1 : Int):=zXb ze;have q269 : x9_1 < (l0.length : Int):=zXb ze;obtain ⟨ad269,e269,hx269_0⟩:=Kd.at_int HR0.out x9_1 p269 q269
            cases e269
            replace hx269_0:=zhx HB hx269_0;replace p269:=eq_true p269;replace q269:=eq_true q269;obtain ⟨Ao23,co23,eo23⟩:=Kd.R_slice HO_8.out
            subst eo23
            have p271 : 0 ≤ ((rd l0 x9_1) : Int):=zXb ze;have q271 : (rd l0 x9_1) < (x8_1.length : Int):=zXb ze;obtain ⟨ad271,e271,hx271_0⟩:=Kd.at_int (Kd.R_reads' HO_8.out).2.2 (rd l0 x9_1) p271 q271
            cases e271
            replace p271:=eq_true p271;replace q271:=eq_true q271;have p274 : 0 ≤ ((rd l0 x9_1) : Int):=zXb ze;have q274 : (rd l0 x9_1) < (x8_1.length : Int):=zXb ze;obtain ⟨ad274,e274,hx274_0⟩:=Kd.at_int (Kd.R_reads' HO_8.out).2.2 (rd l0 x9_1) p274 q274
            obtain rfl : ad271 = ad274:=(by injection e274)
            replace p274:=eq_true p274;replace q274:=eq_true q274;have p275 : 0 ≤ (x9_1 : Int):=zXb ze;have q275 : x9_1 < (l1.length : Int):=zXb ze;obtain ⟨ad275,e275,hx275_0⟩:=Kd.at_int HR1.out x9_1 p275 q275
            cases e275
            replace hx275_0:=zhx HB hx275_0;replace p275:=eq_true p275;replace q275:=eq_true q275
            go_wp2
            repeat (go_quiet (fail);try go_wp2)
            go_roundg k1
            case measure => have:=HK1.out;omega
            case rel => exact ⟨(x8_1),(wrap64 (x9_1 + 1)),za,H',⟨by have:=HK1.out;omega⟩,⟨zq HO_8⟩,⟨zz HB⟩⟩
           ·
            rw [if_neg c22] at H;have c22b0:=beq_eq_false_iff_ne.mpr c22;have c22b1:=bne_iff_ne.mpr c22;simp only [Option.some.injEq,Prod.mk.injEq] at H;obtain ⟨rfl,rfl⟩:=H;have p269 : 0 ≤ (x9_1 : Int):=zXb ze;have q269 : x9_1 < (l0.length : Int):=zXb ze;obtain ⟨ad269,e269,hx269_0⟩:=Kd.at_int HR0.out x9_1 p269 q269
            cases e269
            replace hx269_0:=zhx HB hx269_0;replace p269:=eq_true p269;replace q269:=eq_true q269;obtain ⟨Ao24,co24,eo24⟩:=Kd.R_slice HO_8.out
            subst eo24
            have p271 : 0 ≤ ((rd l0 x9_1) : Int):=zXb ze;have q271 : (rd l0 x9_1) < (x8_1.length : Int):=zXb ze;obtain ⟨ad271,e271,hx271_0⟩:=Kd.at_int (Kd.R_reads' HO_8.out).2.2 (rd l0 x9_1) p271 q271
            cases e271
            replace p271:=eq_true p271;replace q271:=eq_true q271;have p274 : 0 ≤ ((rd l0 x9_1) : Int):=zXb ze;have q274 : (rd l0 x9_1) < (x8_1.length : Int):=zXb ze;obtain ⟨ad274,e274,hx274_0⟩:=Kd.at_int (Kd.R_reads' HO_8.out).2.2 (rd l0 x9_1) p274 q274
            obtain rfl : ad271 = ad274:=(by injection e274)
            replace p274:=eq_true p274;replace q274:=eq_true q274;have p275 : 0 ≤ (x9_1 : Int):=zXb ze;have q275 : x9_1 < (l1.length : Int):=zXb ze;obtain ⟨ad275,e275,hx275_0⟩:=Kd.at_int HR1.out x9_1 p275 q275
            cases e275
            replace hx275_0:=zhx HB hx275_0;replace p275:=eq_true p275;replace q275:=eq_true q275
            go_wp2
            repeat (go_quiet (fail);try go_wp2)
            go_ret2
            exact ⟨_,zrr,zq HO_8,zz HB⟩
          ·
           rw [if_neg c21] at H
           exact absurd H (by simp)
        ·
         rw [if_neg c14] at H
         exact absurd H (by simp)
       ·
        rw [if_neg c13] at H
        exact absurd H (by simp)
     ·
      rw [if_neg c9] at H
      exact absurd H (by simp)
    ·
     rw [if_neg c8] at H;have c8b0:=decide_eq_false c8;clear c8;simp only [Option.some.injEq,Prod.mk.injEq] at H;obtain ⟨rfl,rfl⟩:=H
     go_wp2
     repeat (go_quiet (fail);try go_wp2)
     go_ret2
     exact ⟨_,zrr,zq HO_8,zz HB⟩
 ·
  rw [if_neg c4] at H
  exact absurd H (by simp)

-- NOT PRINTED: function 136 (spec_l7Search)

-- NOT PRINTED: function 105 (spec_l7Find)

-- NOT PRINTED: function 56 (spec_FindMapping)

end Go.Proofs.Ytanbgnjfllpkgaa.QFnMappings
