/- Walks through the Go functions that FnExactIsMapping reaches: each call returns what the Lean function beside it says, within the bounds that the theorem names. -/
import Derived.Test.YtanbgnjfllpkgaaQFnExactIsMappingx0
import Derived.Test.YtanbgnjfllpkgaaQFnExactIsMappingx1
import Derived.Test.YtanbgnjfllpkgaaQFnExactIsMappingx9
namespace Go.Proofs.Ytanbgnjfllpkgaa.QFnExactIsMapping
open Go.RowKit Go.Proofs.YtanbgnjfllpkgaaW.PrintWords Go.Proofs.YtanbgnjfllpkgaaW.PrintLast Go.Proofs.YtanbgnjfllpkgaaW.PrintMore
attribute [local go_sem] max2_int min2_int max_two min_two max_three min_three max_four min_four   -- for this text's walks alone
set_option linter.unusedVariables false
set_option linter.unusedSimpArgs false


/-! ### impl_copyAtoms: function 147 -/
def impl_copyAtoms.l0 : Nat → List (S97) → List (S97) → Int → Int → Option ((List (S97)))
 | 0, _, _, _, _ => none
 | k + 1, x3, x7, x8, x9 => if x9 < x8 then (if 0 ≤ x9 then (if x9 < (x7.length : Int) then ((impl_copyInts.f ((rd_T97 x7 x9).f1)).bind fun t292 => (if x3.length < 4398046511104 then (impl_copyAtoms.l0 k (x3 ++ [(⟨(rd_T97 x7 x9).f0, t292⟩ : S97)]) x7 x8 (wrap64 (x9 + 1))) else (none))) else (none)) else (none)) else (some x3)
def impl_copyAtoms.f (k : Nat) (l0 : List (S97)) : Option ((List (S97))) := impl_copyAtoms.l0 k (([] : List (S97))) l0 (l0.length : Int) 0
theorem impl_copyAtoms.mono_l : ∀ k, (∀ y0 y1 y2 y3, LeO (impl_copyAtoms.l0 k y0 y1 y2 y3) (impl_copyAtoms.l0 (k + 1) y0 y1 y2 y3))
 | 0 => fun _ _ _ _ r h => by simp [impl_copyAtoms.l0] at h
 | k + 1 => by
  have ih0:=impl_copyAtoms.mono_l k
  ·
   intro y0 y1 y2 y3
   unfold impl_copyAtoms.l0
   repeat' first
   | (with_reducible exact ih0 _ _ _ _)
   | (with_reducible exact LeO.refl _)
   | (with_reducible exact LeO.none _)
   | (with_reducible refine LeO.ite ?_ ?_)
   | (with_reducible refine LeO.bind ?_ (fun _ => ?_))
   | exact ih0 _ _ _ _
   | exact LeO.none _
   | refine LeO.ite ?_ ?_
   | refine LeO.bind ?_ (fun _ => ?_)
theorem impl_copyAtoms.mono : ∀ a0 k, LeO (impl_copyAtoms.f k a0) (impl_copyAtoms.f (k + 1) a0) := by
 intro a0 k
 have ih0:=impl_copyAtoms.mono_l k
 unfold impl_copyAtoms.f
 repeat' first
   | (with_reducible exact ih0 _ _ _ _)
   | (with_reducible exact LeO.refl _)
   | (with_reducible exact LeO.none _)
   | (with_reducible refine LeO.ite ?_ ?_)
   | (with_reducible refine LeO.bind ?_ (fun _ => ?_))
   | exact ih0 _ _ _ _
   | exact LeO.none _
   | refine LeO.ite ?_ ?_
   | refine LeO.bind ?_ (fun _ => ?_)
def impl_copyAtoms.T5 : Bool × List (List Nat × List Nat) := (true, [([], []), ([], []), ([1], [1]), ([], []), ([3], [3]), ([4], [4]), ([2, 5], [2, 5]), ([6], [6]), ([0, 7, 5], [0, 7]), ([8, 8, 0, 1, 2, 3, 4, 5, 6, 7, 8], [0, 8])])
def impl_copyAtoms.B5 : List Nat := [0, 0, 2, 0, 8, 24, 62, 126, 255, 511]
theorem impl_copyAtoms.tab5 : rtab .any (opsOf Try.f147 5) = impl_copyAtoms.T5 := by kernel_rfl
theorem impl_copyAtoms.bits5 : waitsOk impl_copyAtoms.T5.2 impl_copyAtoms.B5 = true := by kernel_rfl
set_option maxHeartbeats 8000000 in
set_option maxRecDepth 100000 in
theorem impl_copyAtoms.calls (k : Nat) (A0 : Option Addr) (c0 : Nat) (l0 : List (S97)) (r : List (S97)) (w : World) (hr0 : Kd.C k97 w A0 l0.length l0) (hc0 : l0.length ≤ c0) (h : impl_copyAtoms.f k l0 = some r) :
  Calls Try.prog 147 #[.slice A0 l0.length c0] w fun e w' => ∃ v0_ : Value, e = .returned (v0_) ∧ Kd.S k97 97 w' w.heap.size (fun _ => True) v0_ r ∧ Below w.heap.size w w' := by
 have hu97:=Try.underlying97;have HR0:=zA hr0;have HC0:=zA hc0;clear hr0 hc0;have HB:=zA (Below.refl w.heap.size w)
 have H : (impl_copyAtoms.l0 k (([] : List (S97))) l0 (l0.length : Int) 0) = some r:=h
 clear h;obtain ⟨y287,hy287⟩ : ∃ y_ : List (S97),y_ = (([] : List (S97))):=⟨_,rfl⟩
 replace H : (impl_copyAtoms.l0 k y287 l0 (l0.length : Int) 0) = some r:=by first|(rw [hy287];with_reducible exact H)|(have H2_:=(Option.bind_some _ _).symm.trans H;rw [hy287];with_reducible exact H2_)|(have H2_:=(Option.bind_some _ _).symm.trans H;with_reducible exact H2_)|with_reducible exact H|(rw [hy287];exact H)|exact H
 have Ny287:=zA hy287;clear hy287
 have H':=zA H
 clear H
 go_enter Try.func147,Try.ntmps147
 go_wp2_with (first|((with_reducible refine gate_dst (N:=6) rfl ?_);refine Kd.S_lit k97 _ 97 ?hg (N:=6) ?hd (xs:=([] : List (S97))) (inner:=[]) (ok:=fun _ => True) (okp:=fun _ => True) ?hr ?hp (fun _ hk => hk) trivial (Below.refl _ _) (Nat.le_refl _) (by simp) ?_;(case hd => rfl);(case hg => rfl);(case hr => first|(go_simp;done)|(go_simp;rfl));(case hp => exact (Reps.none _ _));intro v288 w2 ho3 hb hg_ hnew_;clear hg_ hnew_;(first|rw [← Ny287.out] at ho3|(simp only [Int.reduceToNat] at ho3;rw [← Ny287.out] at ho3));have HO289:=zA (zIb ho3 (zT (zz HB)));replace HB:=zA (zJb (zz HB) hb);clear hb ho3))
 go_loopg [3,9] k (fun kq v3 v9 w' => ∃ (x3_1 : List (S97)) (x9_1 : Int),v9 = .int .i64 x9_1 ∧ Aside0 (impl_copyAtoms.l0 kq x3_1 l0 (l0.length : Int) x9_1 = some r) ∧ Aside0 (kq ≤ k) ∧ Aside0 (Kd.S k97 97 w' w.heap.size (fun _ => True) v3 x3_1) ∧ Aside0 (Below w.heap.size w w'))
 case atStart => exact ⟨(y287),(0),za,H',⟨Nat.le_refl _⟩,⟨zy HO289⟩,⟨zz HB⟩⟩
 case round =>
  clear H';(try clear c1);(try clear p2);obtain ⟨x3_1,x9_1,rfl,HA,HK1,HO_3,HB⟩:=hrel
  cases gk with
  | zero => exact absurd HA.out (by simp [impl_copyAtoms.l0])
  | succ k1 =>
   have H:=HA.out;clear HA;simp only [impl_copyAtoms.l0] at H
   by_cases c4 : x9_1 < (l0.length : Int)
   ·
    rw [if_pos c4] at H;have c4b0:=decide_eq_true c4;clear c4
    by_cases c5 : 0 ≤ x9_1
    ·
     rw [if_pos c5] at H;have c5b0:=decide_eq_true c5;clear c5
     by_cases c6 : x9_1 < (l0.length : Int)
     ·
      rw [if_pos c6] at H;have c6b0:=decide_eq_true c6;clear c6;replace H:=Option.bind_eq_some_iff.mp H;obtain ⟨t292,A70,H⟩:=H;(try dsimp only at H);have A7:=zA A70;clear A70
      by_cases c8 : x3_1.length < 4398046511104
      ·
       rw [if_pos c8] at H;have LMc8:=zA c8;clear c8;obtain ⟨y295,hy295⟩ : ∃ y_ : List (S97),y_ = (x3_1 ++ [(⟨(rd_T97 l0 x9_1).f0,t292⟩ : S97)]):=⟨_,rfl⟩
       replace H : (impl_copyAtoms.l0 k1 y295 l0 (l0.length : Int) (wrap64 (x9_1 + 1))) = some r:=by first|(rw [hy295];with_reducible exact H)|(have H2_:=(Option.bind_some _ _).symm.trans H;rw [hy295];with_reducible exact H2_)|(have H2_:=(Option.bind_some _ _).symm.trans H;with_reducible exact H2_)|with_reducible exact H|(rw [hy295];exact H)|exact H
       have Ny295:=zA hy295;clear hy295
       have H':=zA H
       clear H;have p290 : 0 ≤ (x9_1 : Int):=zXb ze;have q290 : x9_1 < (l0.length : Int):=zXb ze;obtain ⟨ad290,A290_1,c290_1,e290,hx290_0,hx290_1,hl290_1,hi290_1⟩:=at_T97 HR0.out x9_1 p290 q290
       cases e290
       replace hx290_0:=(HB.out.cell (World.block_lt_of_cell? w _ hx290_0)).trans hx290_0;replace hx290_1:=(HB.out.cell (World.block_lt_of_cell? w _ hx290_1)).trans hx290_1;have HR290_1:=zA hi290_1;have HC290_1:=zA hl290_1;clear hi290_1 hl290_1;replace p290:=eq_true p290;replace q290:=eq_true q290
       try go_wp2_with (first|((with_reducible refine gate_dst (N:=5) rfl ?_);refine box_event ?hg (N:=5) ?hd (cs:=#[.int .i64 0,.slice none 0 0]) (t:=97) ?hr ?_;(case hd => rfl);(case hg => rfl);(case hr => first|(go_simp;done)|(go_simp;rfl));intro gb291 hg w9 hbox hb;replace HO_3:=zA (zY (Kd.S_elderB (zy HO_3) gb291 (Nat.le_of_eq hg.symm)) hb);have BK291:=zA (hbox);have GW291:=zA ((by rw [hg];exact (zT (zz HB)) : w.heap.size ≤ gb291));have GE291:=zA ((by rw [hg];exact (zT (zz HB)) : w.heap.size ≤ gb291));replace HB:=zA (zJb (zz HB) hb);clear hb hbox hg;have hcz10_0:=zc (.int .i64 0) BK291 0 rfl;have hcz10_1:=zc (.slice none 0 0) BK291 1 rfl;have hfz10_0:=blk_frozen BK291.out 0;have hfz10_1:=blk_frozen BK291.out 1))
       have n0_ : Aside0 (Kd.S k97 97 ((w9.setCell ⟨gb291,0,none⟩ (.int .i64 ((rd_T97 l0 x9_1).f0))).setCell ⟨gb291,1,none⟩ (.slice A290_1 ((rd_T97 l0 x9_1).f1).length c290_1)) w.heap.size (fun k_ => k_ ≠ gb291) u3 x3_1):=⟨by (with_reducible repeat (first|apply zM|apply zL|apply zN));exact zS (zVb (p:=⟨gb291,1,none⟩) (zVb (p:=⟨gb291,0,none⟩) (zS HO_3.out (fun k_ hk => (⟨hk,hk.2⟩ : _ ∧ k_ ≠ gb291))) (fun _ hk => hk.2) (.int .i64 ((rd_T97 l0 x9_1).f0))) (fun _ hk => hk.2) (.slice A290_1 ((rd_T97 l0 x9_1).f1).length c290_1)) (fun _ hk => hk.1.2)⟩
       have n1_ : Aside0 (((w9.setCell ⟨gb291,0,none⟩ (.int .i64 ((rd_T97 l0 x9_1).f0))).setCell ⟨gb291,1,none⟩ (.slice A290_1 ((rd_T97 l0 x9_1).f1).length c290_1)).heap[gb291]? = some (.cells #[.int .i64 ((rd_T97 l0 x9_1).f0),.slice A290_1 ((rd_T97 l0 x9_1).f1).length c290_1] 97 (0,0))):=⟨by (with_reducible repeat (first|refine zF ?_ _|refine zI ?_|refine zG ?_ _));refine blk_put (cs:=#[.int .i64 ((rd_T97 l0 x9_1).f0),.slice none 0 0]) ?_ 1 _ rfl;(with_reducible repeat (first|refine zF ?_ _|refine zI ?_|refine zG ?_ _));refine blk_put (cs:=#[.int .i64 0,.slice none 0 0]) ?_ 0 _ rfl;(with_reducible repeat (first|refine zF ?_ _|refine zI ?_|refine zG ?_ _));exact BK291.out⟩
       have n2_ : Aside0 (Below w.heap.size w ((w9.setCell ⟨gb291,0,none⟩ (.int .i64 ((rd_T97 l0 x9_1).f0))).setCell ⟨gb291,1,none⟩ (.slice A290_1 ((rd_T97 l0 x9_1).f1).length c290_1))):=⟨zz HB⟩;(try clear HO_3);(try clear BK291);(try clear HB)
       generalize ((w9.setCell ⟨gb291,0,none⟩ (.int .i64 ((rd_T97 l0 x9_1).f0))).setCell ⟨gb291,1,none⟩ (.slice A290_1 ((rd_T97 l0 x9_1).f1).length c290_1)) = w11 at n0_ n1_ n2_ ⊢
       have HO_3:=n0_;have BK291:=n1_;have HB:=n2_;clear n0_ n1_ n2_;have n0_:=zA (zN HO_3.out);have n1_:=zA (zI BK291.out);have n2_:=zA (zJ HB.out);clear HO_3;clear BK291;clear HB;have HO_3:=n0_;have BK291:=n1_;have HB:=n2_;clear n0_ n1_ n2_
       refine start_ (n:=10) (S:=fun w' => w'.cell? ⟨gb291,0,none⟩ = some (.int .i64 ((rd_T97 l0 x9_1).f0)) ∧ w'.cell? ⟨gb291,1,none⟩ = some (.slice A290_1 ((rd_T97 l0 x9_1).f1).length c290_1)) (ds:=[]) #[false,false,false,false,false,false,false,false,false,false] (by kernel_rfl) rfl rfl ⟨(zP BK291.out 0).trans rfl,(zP BK291.out 1).trans rfl⟩ (fun hHeld => ?_);refine with_tabW impl_copyAtoms.tab5 impl_copyAtoms.bits5 (fun HT_ HW_ => ?_)
       generalize w11.drew = w12 at HO_3 BK291 HB hHeld ⊢
       refine pure_ (i:=0) (N:=some 13) (v:=?_) (a':=?_) #[true,false,false,false,false,false,false,false,false,false] rfl rfl (any_of HT_.out (by kernel_rfl)) (fun _ _ _ h => h) (Or.inl ⟨by rfl,?_⟩) ?_ ?_
       rotate_left
       ·
        intro w'
        go_simp
        with_reducible rfl
       rotate_left
       ·
        simp only [Act.put,zO,zEb,zFb,i64_w,i32_w]
        rfl
       refine pure_ (i:=1) (N:=some 14) (v:=?_) (a':=?_) #[true,true,false,false,false,false,false,false,false,false] rfl rfl (any_of HT_.out (by kernel_rfl)) (fun _ _ _ h => h) (Or.inl ⟨by rfl,?_⟩) ?_ ?_
       rotate_left
       ·
        intro w'
        go_simp
        with_reducible rfl
       rotate_left
       ·
        simp only [Act.put,zO,zEb,zFb,i64_w,i32_w]
        rfl
       refine pure_ (i:=3) (N:=some 16) (v:=?_) (a':=?_) #[true,true,false,true,false,false,false,false,false,false] rfl rfl (any_of HT_.out (by kernel_rfl)) (fun _ _ _ h => h) (Or.inl ⟨by rfl,?_⟩) ?_ ?_
       rotate_left
       ·
        intro w'
        go_simp
        with_reducible rfl
       rotate_left
       ·
        simp only [Act.put,zO,zEb,zFb,i64_w,i32_w]
        rfl
       refine take_ (i:=2) (N:=some 15) (v:=?_) (a':=?_) #[true,true,true,true,false,false,false,false,false,false] rfl rfl (take_ofW HT_.out HW_.out (by kernel_rfl)) (fun _ _ _ h => h) (Or.inl ⟨by rfl,?_⟩) hHeld ?_ ?_
       rotate_left
       ·
        rintro w' ⟨s0,s1⟩
        go_simp
        with_reducible rfl
       rotate_left
       ·
        simp only [Act.put,zO,zEb,zFb,i64_w,i32_w]
        rfl
       refine take_ (i:=4) (N:=some 17) (v:=?_) (a':=?_) #[true,true,true,true,true,false,false,false,false,false] rfl rfl (take_ofW HT_.out HW_.out (by kernel_rfl)) (fun _ _ _ h => h) (Or.inl ⟨by rfl,?_⟩) hHeld ?_ ?_
       rotate_left
       ·
        rintro w' ⟨s0,s1⟩
        go_simp
        with_reducible rfl
       rotate_left
       ·
        simp only [Act.put,zO,zEb,zFb,i64_w,i32_w]
        rfl
       refine one_ (i:=5) (N:=some 18) #[true,true,true,true,true,true,false,false,false,false] rfl rfl (one_of HT_.out (by kernel_rfl)) (by decide) (fun K hK => ?_)
       refine goes_ Try.func139 (by kernel_rfl) rfl #[.slice A290_1 ((rd_T97 l0 x9_1).f1).length c290_1] (by rfl) rfl rfl (by (try simp only [zCb,zMb,zNb]);first|done|rfl|(simp only [zLb,zDb];rfl)) ?_
       with_reducible refine (impl_copyInts.calls _ _ ((rd_T97 l0 x9_1).f1) t292 _ ?side1 ?side2 A7.out).mono ?_
       (case side1 => repeat (first|exact (zKb HR290_1.out HB.out)|(with_reducible refine zBb ?_ _)|(with_reducible refine zAb ?_ _)|(with_reducible refine zX ?_)))
       (case side2 => exact HC290_1.out)
       rintro e w13 ⟨v293,rfl,ho0,hb⟩
       refine ⟨_,rfl,?_⟩
       have n0_:=zA (zSb (zy HO_3) (zW ho0) hb);have n1_:=zA (zHb ho0 (zT (zz HB)));have n2_:=zA (zQ (g:=gb291) (o:=.cells #[.int .i64 ((rd_T97 l0 x9_1).f0),.slice A290_1 ((rd_T97 l0 x9_1).f1).length c290_1] 97 (0,0)) (zx BK291) hb);have n3_:=zA (zJb (zz HB) hb);clear HO_3;clear BK291;clear HB;have HO_3:=n0_;have HO294:=n1_;have BK291:=n2_;have HB:=n3_;clear n0_ n1_ n2_ n3_;(try clear hb);(try clear hb2);(try clear hk);(try clear hi);(try clear ho0);obtain ⟨Ao14,co14,eo14⟩:=Kd.R_slice HO294.out
       (first|subst eo14|(injection eo14 with f1_ f2_ f3_;have f4_:=f1_.symm;have f5_:=f3_.symm;clear f1_ f2_ f3_;subst f4_;subst f5_))
       refine hK.out _ _ ⟨(zP BK291.out 0).trans rfl,(zP BK291.out 1).trans rfl⟩ (fun hHeld => ?_)
       clear hK K
       refine norm_ (a':=?_) ?_ ?_
       rotate_left
       ·
        show Act.put _ (some 18) _ = _
        simp only [Act.put,zO,zEb,zFb,i64_w,i32_w]
        rfl
       refine pure_ (i:=6) (N:=some 19) (v:=?_) (a':=?_) #[true,true,true,true,true,true,true,false,false,false] rfl rfl (any_of HT_.out (by kernel_rfl)) (fun _ _ _ h => h) (Or.inl ⟨by rfl,?_⟩) ?_ ?_
       rotate_left
       ·
        intro w'
        go_simp
        with_reducible rfl
       rotate_left
       ·
        simp only [Act.put,zO,zEb,zFb,i64_w,i32_w]
        rfl
       refine one_ (i:=7) (N:=some 20) #[true,true,true,true,true,true,true,true,false,false] rfl rfl (one_of HT_.out (by kernel_rfl)) (by decide) (fun K hK => ?_)
       refine value_ (w1:=?_) (v:=?_) (by rfl) rfl ?_ ?_
       rotate_left 2
       ·
        go_simp
        constructor
        ·
         rfl
        ·
         rfl
       refine hK.out _ _ ⟨(zP (zG BK291.out _) 0).trans rfl,(zP (zG BK291.out _) 1).trans rfl⟩ (fun hHeld => ?_)
       clear hK K
       refine norm_ (a':=?_) ?_ ?_
       rotate_left
       ·
        show Act.put _ (some 20) _ = _
        simp only [Act.put,zO,zEb,zFb,i64_w,i32_w]
        rfl
       refine one_ (i:=8) (N:=some 21) #[true,true,true,true,true,true,true,true,true,false] rfl rfl (one_of HT_.out (by kernel_rfl)) (by decide) (fun K hK => ?_)
       refine Kd.S_append_step k97 (w0:=w) w.heap.size (by rfl) (.tmp 13) (.tmp 20) 44 97 (.agg #[(.int .i64 0),(.slice none 0 0)]) 32 rfl Try.underlying44 info97 rfl (by decide) (by omega) u3 x3_1 (⟨(rd_T97 l0 x9_1).f0,t292⟩ : S97) [.int .i64 ((rd_T97 l0 x9_1).f0),.slice Ao14 t292.length co14] (fun k_ => k_ ≠ gb291) (fun k_ => some k_ = (.slice Ao14 t292.length co14 : Value).ownBlock) rfl rfl ?aP (fun k_ hk_ => ((zGb (ok':=fun k_ => ((fun k_ => k_ ≠ gb291)) k_ ∧ some k_ ≠ (u3 : Value).ownBlock) (Kd.R_types (Kd.R_apart' (HO294.out) (Kd.S_typed HO_3.out) (by decide)) BK291.out (by decide)) (fun k_ hk => ⟨hk.2,hk.1.2⟩))).1 k_ hk_.symm) ?aF ?aO ?aB ?aS ?aL ?_
       (case aP => exact k97_mkM _ _ _ (⟨(rd_T97 l0 x9_1).f0,t292⟩ : S97) (zGb (Kd.R_tight rfl (zGb (ok':=fun k_ => ((fun k_ => k_ ≠ gb291)) k_ ∧ some k_ ≠ (u3 : Value).ownBlock) (Kd.R_types (Kd.R_apart' (HO294.out) (Kd.S_typed HO_3.out) (by decide)) BK291.out (by decide)) (fun k_ hk => ⟨hk.2,hk.1.2⟩))) (fun _ h_ => h_)))
       (case aB => exact (zz HB))
       (case aF => exact (fun k_ hk => Kd.freshB (g:=gb291) (o:=.cells #[.int .i64 ((rd_T97 l0 x9_1).f0),.slice A290_1 ((rd_T97 l0 x9_1).f1).length c290_1] 97 (0,0)) (zx BK291) k_ hk))
       (case aO => exact (by (with_reducible repeat (first|apply zM|apply zL|apply zN));exact zS HO_3.out (fun k_ hk => ⟨hk.1,fun e_ => hk.2 e_⟩)))
       (case aS => exact (zT (zz HB)))
       (case aL => have:=LMc8.out;omega)
       intro v296 w15 ho hb hg hat
       rw [← Ny295.out] at ho;have n0_:=zA (blk_grown (g:=gb291) (o:=.cells #[.int .i64 ((rd_T97 l0 x9_1).f0),.slice A290_1 ((rd_T97 l0 x9_1).f1).length c290_1] 97 (0,0)) (zx BK291) hg (Kd.S_away HO_3.out (fun _ hk => hk.1)));have n1_:=zA (hb);have n2_:=zA (ho);clear BK291;clear HB;clear HO_3;clear HO294;have BK291:=n0_;have HB:=n1_;have HO297:=n2_;clear n0_ n1_ n2_;clear ho hb hg hat
       refine hK.out _ _ ⟨(zP BK291.out 0).trans rfl,(zP BK291.out 1).trans rfl⟩ (fun hHeld => ?_)
       clear hK K
       refine norm_ (a':=?_) ?_ ?_
       rotate_left
       ·
        show Act.put _ (some 21) _ = _
        simp only [Act.put,zO,zEb,zFb,i64_w,i32_w]
        rfl
       refine pure_ (i:=9) (N:=some 3) (v:=?_) (a':=?_) #[true,true,true,true,true,true,true,true,true,true] rfl rfl (any_of HT_.out (by kernel_rfl)) (fun _ _ _ h => h) (Or.inl ⟨by rfl,?_⟩) ?_ ?_
       rotate_left
       ·
        intro w'
        go_simp
        with_reducible rfl
       rotate_left
       ·
        simp only [Act.put,zO,zEb,zFb,i64_w,i32_w]
        rfl
       refine done_ (done_of HT_.out (by kernel_rfl)) ?_
       try go_wp2
       go_roundg k1
       case measure => have:=HK1.out;omega
       case rel => exact ⟨(y295),(wrap64 (x9_1 + 1)),za,H',⟨by have:=HK1.out;omega⟩,⟨by (with_reducible repeat (first|apply zM|apply zL|apply zN));exact zS HO297.out (fun _ hk => trivial)⟩,⟨zz HB⟩⟩
      ·
       rw [if_neg c8] at H
       exact absurd H (by simp)
     ·
      rw [if_neg c6] at H
      exact absurd H (by simp)
    ·
     rw [if_neg c5] at H
     exact absurd H (by simp)
   ·
    rw [if_neg c4] at H;have c4b0:=decide_eq_false c4;clear c4
    obtain rfl:=Option.some.inj H
    go_wp2
    go_ret
    exact ⟨_,by first|rfl|(simp [errW_none,errW_some] <;> rfl)|(simp [*,errW_none,errW_some] <;> rfl),zy HO_3,zz HB⟩

/-! ### impl_copyQuery: function 125 -/
def impl_copyQuery.f (k : Nat) (l0_0 : List Int) (l0_1 : List (S97)) : Option (List Int × (List (S97))) := (impl_copyInts.f l0_0).bind fun t300 => ((impl_copyAtoms.f k l0_1).bind fun t303 => (some (t300, t303)))
theorem impl_copyQuery.mono : ∀ a0 a1 k, LeO (impl_copyQuery.f k a0 a1) (impl_copyQuery.f (k + 1) a0 a1) := by
 intro a0 a1 k
 unfold impl_copyQuery.f
 repeat' first
   | (with_reducible exact impl_copyAtoms.mono _ _)
   | (with_reducible exact LeO.refl _)
   | (with_reducible exact LeO.none _)
   | (with_reducible refine LeO.ite ?_ ?_)
   | (with_reducible refine LeO.bind ?_ (fun _ => ?_))
   | exact LeO.none _
   | refine LeO.ite ?_ ?_
   | refine LeO.bind ?_ (fun _ => ?_)
def impl_copyQuery.T1 : Bool × List (List Nat × List Nat) := (true, [([], []), ([0], [0]), ([1], [1]), ([], []), ([3], [3]), ([4, 2], [4]), ([2, 5], [2, 5]), ([6, 5, 0, 1, 2, 3, 4, 5, 6], [6])])
def impl_copyQuery.B1 : List Nat := [0, 1, 3, 0, 8, 31, 63, 127]
theorem impl_copyQuery.tab1 : rtab .any (opsOf Try.f125 1) = impl_copyQuery.T1 := by kernel_rfl
theorem impl_copyQuery.bits1 : waitsOk impl_copyQuery.T1.2 impl_copyQuery.B1 = true := by kernel_rfl
set_option maxHeartbeats 8000000 in
set_option maxRecDepth 100000 in
theorem impl_copyQuery.calls (k : Nat) (A0_0 : Option Addr) (c0_0 : Nat) (l0_0 : List Int) (A0_1 : Option Addr) (c0_1 : Nat) (l0_1 : List (S97)) (r1 : List Int) (r2 : List (S97)) (w : World) (hr0_0 : Kd.C (Kd.int .i64) w A0_0 l0_0.length l0_0) (hc0_0 : l0_0.length ≤ c0_0) (hr0_1 : Kd.C k97 w A0_1 l0_1.length l0_1) (hc0_1 : l0_1.length ≤ c0_1) (h : impl_copyQuery.f k l0_0 l0_1 = some (r1, r2)) :
  Calls Try.prog 125 #[.agg #[.slice A0_0 l0_0.length c0_0, .slice A0_1 l0_1.length c0_1]] w fun e w' => ∃ v0_ v1_ : Value, e = .returned (.agg #[v0_, v1_]) ∧ Kd.R (Kd.int .i64) 3 w' w.heap.size (fun _ => True) v0_ r1 ∧ Kd.S k97 97 w' w.heap.size (fun k_ => some k_ ≠ (v0_ : Value).ownBlock) v1_ r2 ∧ Below w.heap.size w w' := by
 have hu46:=Try.underlying46;have HR0_0:=zA hr0_0;have HC0_0:=zA hc0_0;clear hr0_0 hc0_0;have HR0_1:=zA hr0_1;have HC0_1:=zA hc0_1;clear hr0_1 hc0_1;have HB:=zA (Below.refl w.heap.size w)
 have H : ((impl_copyInts.f l0_0).bind fun t300 => ((impl_copyAtoms.f k l0_1).bind fun t303 => (some (t300,t303)))) = some (r1,r2):=h
 clear h;replace H:=Option.bind_eq_some_iff.mp H;obtain ⟨t300,A20,H⟩:=H;(try dsimp only at H);have A2:=zA A20;clear A20;replace H:=Option.bind_eq_some_iff.mp H;obtain ⟨t303,A30,H⟩:=H;(try dsimp only at H);have A3:=zA A30;clear A30;simp only [Option.some.injEq,Prod.mk.injEq] at H;obtain ⟨rfl,rfl⟩:=H
 go_enter Try.func125,Try.ntmps125
 try go_wp2_with (first|((with_reducible refine gate_dst (N:=1) rfl ?_);refine box_event ?hg (N:=1) ?hd (cs:=#[.slice A0_0 l0_0.length c0_0,.slice A0_1 l0_1.length c0_1]) (t:=46) ?hr ?_;(case hd => rfl);(case hg => rfl);(case hr => first|(go_simp;done)|(go_simp;rfl));intro gb298 hg w4 hbox hb;have BK298:=zA (hbox);have GW298:=zA ((by rw [hg];exact (zT (zz HB)) : w.heap.size ≤ gb298));have GE298:=zA ((by rw [hg];exact (zT (zz HB)) : w.heap.size ≤ gb298));replace HB:=zA (zJb (zz HB) hb);clear hb hbox hg)|((with_reducible refine gate_dst (N:=2) rfl ?_);refine box_event ?hg (N:=2) ?hd (cs:=#[.slice none 0 0,.slice none 0 0]) (t:=46) ?hr ?_;(case hd => rfl);(case hg => rfl);(case hr => first|(go_simp;done)|(go_simp;rfl));intro gb299 hg w5 hbox hb;have BK299:=zA (hbox);have GW299:=zA ((by rw [hg];exact (zT (zz HB)) : w.heap.size ≤ gb299));have GE299:=zA ((by rw [hg];exact (zT (zz HB)) : w.heap.size ≤ gb299));replace HB:=zA (zJb (zz HB) hb);have NB298_299:=zA ((by rw [hg];exact Nat.ne_of_lt (blk_lt (g:=gb298) (o:=.cells #[.slice A0_0 l0_0.length c0_0,.slice A0_1 l0_1.length c0_1] 46 (0,0)) (zx BK298)) : gb298 ≠ gb299));have NB299_298:=zA ((by rw [hg];exact Nat.ne_of_gt (blk_lt (g:=gb298) (o:=.cells #[.slice A0_0 l0_0.length c0_0,.slice A0_1 l0_1.length c0_1] 46 (0,0)) (zx BK298)) : gb299 ≠ gb298));replace BK298:=zA (zQ (g:=gb298) (o:=.cells #[.slice A0_0 l0_0.length c0_0,.slice A0_1 l0_1.length c0_1] 46 (0,0)) (zx BK298) hb);clear hb hbox hg))
 have n0_:=zA (zI BK298.out);have n1_:=zA (zI BK299.out);have n2_:=zA (zJ HB.out);clear BK298;clear BK299;clear HB;have BK298:=n0_;have BK299:=n1_;have HB:=n2_;clear n0_ n1_ n2_
 refine start_ (n:=8) (S:=fun w' => w'.cell? ⟨gb298,0,none⟩ = some (.slice A0_0 l0_0.length c0_0) ∧ w'.cell? ⟨gb298,1,none⟩ = some (.slice A0_1 l0_1.length c0_1)) (ds:=[]) #[false,false,false,false,false,false,false,false] (by kernel_rfl) rfl rfl ⟨(zP BK298.out 0).trans rfl,(zP BK298.out 1).trans rfl⟩ (fun hHeld => ?_);refine with_tabW impl_copyQuery.tab1 impl_copyQuery.bits1 (fun HT_ HW_ => ?_)
 generalize w5.drew = w6 at BK298 BK299 HB hHeld ⊢
 refine pure_ (i:=0) (N:=some 3) (v:=?_) (a':=?_) #[true,false,false,false,false,false,false,false] rfl rfl (any_of HT_.out (by kernel_rfl)) (fun _ _ _ h => h) (Or.inl ⟨by rfl,?_⟩) ?_ ?_
 rotate_left
 ·
  intro w'
  go_simp
  with_reducible rfl
 rotate_left
 ·
  simp only [Act.put,zO,zEb,zFb,i64_w,i32_w]
  rfl
 refine pure_ (i:=3) (N:=some 6) (v:=?_) (a':=?_) #[true,false,false,true,false,false,false,false] rfl rfl (any_of HT_.out (by kernel_rfl)) (fun _ _ _ h => h) (Or.inl ⟨by rfl,?_⟩) ?_ ?_
 rotate_left
 ·
  intro w'
  go_simp
  with_reducible rfl
 rotate_left
 ·
  simp only [Act.put,zO,zEb,zFb,i64_w,i32_w]
  rfl
 refine take_ (i:=1) (N:=some 4) (v:=?_) (a':=?_) #[true,true,false,true,false,false,false,false] rfl rfl (take_ofW HT_.out HW_.out (by kernel_rfl)) (fun _ _ _ h => h) (Or.inl ⟨by rfl,?_⟩) hHeld ?_ ?_
 rotate_left
 ·
  rintro w' ⟨s0,s1⟩
  go_simp
  with_reducible rfl
 rotate_left
 ·
  simp only [Act.put,zO,zEb,zFb,i64_w,i32_w]
  rfl
 refine take_ (i:=4) (N:=some 7) (v:=?_) (a':=?_) #[true,true,false,true,true,false,false,false] rfl rfl (take_ofW HT_.out HW_.out (by kernel_rfl)) (fun _ _ _ h => h) (Or.inl ⟨by rfl,?_⟩) hHeld ?_ ?_
 rotate_left
 ·
  rintro w' ⟨s0,s1⟩
  go_simp
  with_reducible rfl
 rotate_left
 ·
  simp only [Act.put,zO,zEb,zFb,i64_w,i32_w]
  rfl
 refine one_ (i:=2) (N:=some 5) #[true,true,true,true,true,false,false,false] rfl rfl (one_of HT_.out (by kernel_rfl)) (by decide) (fun K hK => ?_)
 refine goes_ Try.func139 (by kernel_rfl) rfl #[.slice A0_0 l0_0.length c0_0] (by rfl) rfl rfl (by (try simp only [zCb,zMb,zNb]);first|done|rfl|(simp only [zLb,zDb];rfl)) ?_
 with_reducible refine (impl_copyInts.calls _ _ l0_0 t300 _ ?side1 ?side2 A2.out).mono ?_
 (case side1 => repeat (first|exact (zKb HR0_0.out HB.out)|(with_reducible refine zBb ?_ _)|(with_reducible refine zAb ?_ _)|(with_reducible refine zX ?_)))
 (case side2 => exact HC0_0.out)
 rintro e w7 ⟨v301,rfl,ho0,hb⟩
 refine ⟨_,rfl,?_⟩
 have n0_:=zA (zHb ho0 (zT (zz HB)));have n1_:=zA (zQ (g:=gb298) (o:=.cells #[.slice A0_0 l0_0.length c0_0,.slice A0_1 l0_1.length c0_1] 46 (0,0)) (zx BK298) hb);have n2_:=zA (zQ (g:=gb299) (o:=.cells #[.slice none 0 0,.slice none 0 0] 46 (0,0)) (zx BK299) hb);have n3_:=zA (zJb (zz HB) hb);clear BK298;clear BK299;clear HB;have HO302:=n0_;have BK298:=n1_;have BK299:=n2_;have HB:=n3_;clear n0_ n1_ n2_ n3_;(try clear hb);(try clear hb2);(try clear hk);(try clear hi);(try clear ho0)
 refine hK.out _ _ ⟨(zP BK298.out 0).trans rfl,(zP BK298.out 1).trans rfl⟩ (fun hHeld => ?_)
 clear hK K
 refine norm_ (a':=?_) ?_ ?_
 rotate_left
 ·
  show Act.put _ (some 5) _ = _
  simp only [Act.put,zO,zEb,zFb,i64_w,i32_w]
  rfl
 refine one_ (i:=5) (N:=some 8) #[true,true,true,true,true,true,false,false] rfl rfl (one_of HT_.out (by kernel_rfl)) (by decide) (fun K hK => ?_)
 refine goes_ Try.func147 (by kernel_rfl) rfl #[.slice A0_1 l0_1.length c0_1] (by rfl) rfl rfl (by (try simp only [zCb,zMb,zNb]);first|done|rfl|(simp only [zLb,zDb];rfl)) ?_
 with_reducible refine (impl_copyAtoms.calls k _ _ l0_1 t303 _ ?side1 ?side2 A3.out).mono ?_
 (case side1 => repeat (first|exact (zKb HR0_1.out HB.out)|(with_reducible refine zBb ?_ _)|(with_reducible refine zAb ?_ _)|(with_reducible refine zX ?_)))
 (case side2 => exact HC0_1.out)
 rintro e w8 ⟨v304,rfl,ho0,hb⟩
 refine ⟨_,rfl,?_⟩
 have n0_:=zA (zZ (zq HO302) hb);have n1_:=zA (zIb (zV ho0 (zOb (zq HO302))) (zT (zz HB)));have n2_:=zA (zQ (g:=gb298) (o:=.cells #[.slice A0_0 l0_0.length c0_0,.slice A0_1 l0_1.length c0_1] 46 (0,0)) (zx BK298) hb);have n3_:=zA (zQ (g:=gb299) (o:=.cells #[.slice none 0 0,.slice none 0 0] 46 (0,0)) (zx BK299) hb);have n4_:=zA (zJb (zz HB) hb);clear HO302;clear BK298;clear BK299;clear HB;have HO302:=n0_;have HO305:=n1_;have BK298:=n2_;have BK299:=n3_;have HB:=n4_;clear n0_ n1_ n2_ n3_ n4_;(try clear hb);(try clear hb2);(try clear hk);(try clear hi);(try clear ho0);obtain ⟨Ao9,co9,eo9⟩:=Kd.S_slice HO305.out
 (first|subst eo9|(injection eo9 with f1_ f2_ f3_;have f4_:=f1_.symm;have f5_:=f3_.symm;clear f1_ f2_ f3_;subst f4_;subst f5_))
 obtain ⟨Ao10,co10,eo10⟩:=Kd.R_slice HO302.out
 (first|subst eo10|(injection eo10 with f1_ f2_ f3_;have f4_:=f1_.symm;have f5_:=f3_.symm;clear f1_ f2_ f3_;subst f4_;subst f5_))
 refine hK.out _ _ ⟨(zP BK298.out 0).trans rfl,(zP BK298.out 1).trans rfl⟩ (fun hHeld => ?_)
 clear hK K
 refine norm_ (a':=?_) ?_ ?_
 rotate_left
 ·
  show Act.put _ (some 8) _ = _
  simp only [Act.put,zO,zEb,zFb,i64_w,i32_w]
  rfl
 refine pure_ (i:=6) (N:=some 9) (v:=?_) (a':=?_) #[true,true,true,true,true,true,true,false] rfl rfl (any_of HT_.out (by kernel_rfl)) (fun _ _ _ h => h) (Or.inl ⟨by rfl,?_⟩) ?_ ?_
 rotate_left
 ·
  intro w'
  go_simp
  with_reducible rfl
 rotate_left
 ·
  simp only [Act.put,zO,zEb,zFb,i64_w,i32_w]
  rfl
 refine one_ (i:=7) (N:=none) #[true,true,true,true,true,true,true,true] rfl rfl (one_of HT_.out (by kernel_rfl)) (by decide) (fun K hK => ?_)
 have hs11 : w8.cell? ⟨gb299,0,none⟩ = some (.slice none 0 0):=(zP BK299.out 0).trans rfl
 have hfs11:=blk_frozen BK299.out 0;have hns11_0:=NB298_299.out;have hms11_0:=NB299_298.out
 have hs12 : w8.cell? ⟨gb299,1,none⟩ = some (.slice none 0 0):=(zP BK299.out 1).trans rfl
 have hfs12:=blk_frozen BK299.out 1;have hns12_0:=NB298_299.out;have hms12_0:=NB299_298.out
 refine skip_ (w1:=?_) (by rfl) rfl ?_ ?_
 rotate_left
 ·
  go_simp
  rfl
 refine hK.out _ _ ⟨((zWb (p:=⟨gb299,_,none⟩) NB298_299.out _).trans (((zWb (p:=⟨gb299,_,none⟩) NB298_299.out _).trans (hHeld.1)))),((zWb (p:=⟨gb299,_,none⟩) NB298_299.out _).trans (((zWb (p:=⟨gb299,_,none⟩) NB298_299.out _).trans (hHeld.2))))⟩ (fun hHeld => ?_)
 clear hK K
 refine done_ (done_of HT_.out (by kernel_rfl)) ?_
 try go_wp2
 refine bodyPost_ret (results_cell_row rfl _ _ gb299 46 #[.slice Ao10 t300.length co10,.slice Ao9 t303.length co9] (0,0) _ rfl (by (with_reducible repeat (first|refine zF ?_ _|refine zI ?_|refine zG ?_ _));refine blk_put (cs:=#[.slice Ao10 t300.length co10,.slice none 0 0]) ?_ 1 _ rfl;(with_reducible repeat (first|refine zF ?_ _|refine zI ?_|refine zG ?_ _));refine blk_put (cs:=#[.slice none 0 0,.slice none 0 0]) ?_ 0 _ rfl;(with_reducible repeat (first|refine zF ?_ _|refine zI ?_|refine zG ?_ _));exact BK299.out) Try.underlying46 rfl (by kernel_rfl)) rfl ?_
 exact ⟨_,_,by first|rfl|(simp [errW_none,errW_some] <;> rfl)|(simp [*,errW_none,errW_some] <;> rfl),by (with_reducible repeat (first|apply zE|apply zD|apply zH));exact zGb (zR (p:=⟨gb299,1,none⟩) (zR (p:=⟨gb299,0,none⟩) (Kd.R_types HO302.out BK299.out (by decide)) (fun _ hk => hk.2) (.slice Ao10 t300.length co10)) (fun _ hk => hk.2) (.slice Ao9 t303.length co9)) (fun _ hk => trivial),by (with_reducible repeat (first|apply zM|apply zL|apply zN));exact zS (zVb (p:=⟨gb299,1,none⟩) (zVb (p:=⟨gb299,0,none⟩) (Kd.S_types HO305.out BK299.out (by decide)) (fun _ hk => hk.2) (.slice Ao10 t300.length co10)) (fun _ hk => hk.2) (.slice Ao9 t303.length co9)) (fun _ hk => hk.1.2),zz HB⟩

-- NOT PRINTED: function 97 (impl_Query_changed)

-- NOT PRINTED: function 155 (impl_Atom_155)

-- NOT PRINTED: function 133 (impl_Atom_133)

-- NOT PRINTED: function 104 (impl_maps)

-- NOT PRINTED: function 50 (impl_IsMapping)

/-! ### laws_eqSchema: function 51 -/
def laws_eqSchema.f (k : Nat) (l0_0 : List Int) (l1_0 : List Int) : Option (Bool) := (laws_eqIntS.f k l0_0 l1_0).bind fun t315 => (if t315 = true then (some true) else (some false))
theorem laws_eqSchema.mono : ∀ a0 a1 k, LeO (laws_eqSchema.f k a0 a1) (laws_eqSchema.f (k + 1) a0 a1) := by
 intro a0 a1 k
 unfold laws_eqSchema.f
 repeat' first
   | (with_reducible exact laws_eqIntS.mono _ _ _)
   | (with_reducible exact LeO.refl _)
   | (with_reducible exact LeO.none _)
   | (with_reducible refine LeO.ite ?_ ?_)
   | (with_reducible refine LeO.bind ?_ (fun _ => ?_))
   | exact LeO.none _
   | refine LeO.ite ?_ ?_
   | refine LeO.bind ?_ (fun _ => ?_)
set_option maxHeartbeats 8000000 in
set_option maxRecDepth 100000 in
theorem laws_eqSchema.calls (k : Nat) (A0_0 : Option Addr) (c0_0 : Nat) (l0_0 : List Int) (A1_0 : Option Addr) (c1_0 : Nat) (l1_0 : List Int) (r : Bool) (w : World) (hr0_0 : Kd.C (Kd.int .i64) w A0_0 l0_0.length l0_0) (hc0_0 : l0_0.length ≤ c0_0) (hr1_0 : Kd.C (Kd.int .i64) w A1_0 l1_0.length l1_0) (hc1_0 : l1_0.length ≤ c1_0) (h : laws_eqSchema.f k l0_0 l1_0 = some r) :
  Calls Try.prog 51 #[.agg #[.slice A0_0 l0_0.length c0_0], .agg #[.slice A1_0 l1_0.length c1_0]] w fun e w' => e = .returned (.bool r) ∧ Below w.heap.size w w' := by
 have hu65:=Try.underlying65;have HR0_0:=zA hr0_0;have HC0_0:=zA hc0_0;clear hr0_0 hc0_0;have HR1_0:=zA hr1_0;have HC1_0:=zA hc1_0;clear hr1_0 hc1_0;have HB:=zA (Below.refl w.heap.size w)
 have H : ((laws_eqIntS.f k l0_0 l1_0).bind fun t315 => (if t315 = true then (some true) else (some false))) = some r:=h
 clear h;replace H:=Option.bind_eq_some_iff.mp H;obtain ⟨t315,A30,H⟩:=H;(try dsimp only at H);have A3:=zA A30;clear A30
 by_cases c4 : t315 = true
 ·
  subst c4
  rw [if_pos rfl] at H
  obtain rfl:=Option.some.inj H
  go_enter Try.func51,Try.ntmps51
  go_wp2_with (first|((with_reducible refine gate_dst (N:=2) rfl ?_);refine box_event ?hg (N:=2) ?hd (cs:=#[.slice A0_0 l0_0.length c0_0]) (t:=65) ?hr ?_;(case hd => rfl);(case hg => rfl);(case hr => first|(go_simp;done)|(go_simp;rfl));intro gb313 hg w5 hbox hb;have BK313:=zA (hbox);have GW313:=zA ((by rw [hg];exact (zT (zz HB)) : w.heap.size ≤ gb313));have GE313:=zA ((by rw [hg];exact (zT (zz HB)) : w.heap.size ≤ gb313));replace HB:=zA (zJb (zz HB) hb);clear hb hbox hg)|((with_reducible refine gate_dst (N:=3) rfl ?_);refine box_event ?hg (N:=3) ?hd (cs:=#[.slice A1_0 l1_0.length c1_0]) (t:=65) ?hr ?_;(case hd => rfl);(case hg => rfl);(case hr => first|(go_simp;done)|(go_simp;rfl));intro gb314 hg w6 hbox hb;have BK314:=zA (hbox);have GW314:=zA ((by rw [hg];exact (zT (zz HB)) : w.heap.size ≤ gb314));have GE314:=zA ((by rw [hg];exact (zT (zz HB)) : w.heap.size ≤ gb314));replace HB:=zA (zJb (zz HB) hb);have NB313_314:=zA ((by rw [hg];exact Nat.ne_of_lt (blk_lt (g:=gb313) (o:=.cells #[.slice A0_0 l0_0.length c0_0] 65 (0,0)) (zx BK313)) : gb313 ≠ gb314));have NB314_313:=zA ((by rw [hg];exact Nat.ne_of_gt (blk_lt (g:=gb313) (o:=.cells #[.slice A0_0 l0_0.length c0_0] 65 (0,0)) (zx BK313)) : gb314 ≠ gb313));replace BK313:=zA (zQ (g:=gb313) (o:=.cells #[.slice A0_0 l0_0.length c0_0] 65 (0,0)) (zx BK313) hb);clear hb hbox hg;have hnb7:=NB313_314.out;have hnc7:=NB314_313.out;have hcz8_0:=zc (.slice A0_0 l0_0.length c0_0) BK313 0 rfl;have hfz8_0:=blk_frozen BK313.out 0;have hcz9_0:=zc (.slice A1_0 l1_0.length c1_0) BK314 0 rfl;have hfz9_0:=blk_frozen BK314.out 0)|((with_reducible refine gate_callee (f:=43) rfl ?_);refine goesL_ (some 9) rfl rfl Try.func43 (by kernel_rfl) rfl #[.slice A0_0 l0_0.length c0_0,.slice A1_0 l1_0.length c1_0] rfl (by (try simp only [zCb,zMb,zNb]);first|done|rfl|(simp only [zLb,zDb];rfl)) ?_;(with_reducible refine (laws_eqIntS.calls k _ _ l0_0 _ _ l1_0 true _ ?side1 ?side2 ?side3 ?side4 A3.out).mono ?_);(case side1 => repeat (first|exact (zKb HR0_0.out HB.out)|(with_reducible refine zBb ?_ _)|(with_reducible refine zAb ?_ _)|(with_reducible refine zX ?_)));(case side2 => exact HC0_0.out);(case side3 => repeat (first|exact (zKb HR1_0.out HB.out)|(with_reducible refine zBb ?_ _)|(with_reducible refine zAb ?_ _)|(with_reducible refine zX ?_)));(case side4 => exact HC1_0.out);rintro e w' ⟨rfl,⟨nd,rfl⟩⟩;refine ⟨_,rfl,?_⟩))
  go_ret
  exact ⟨by first|rfl|(simp [errW_none,errW_some] <;> rfl)|(simp [*,errW_none,errW_some] <;> rfl),zz HB⟩
 ·
  replace c4:=Bool.eq_false_iff.mpr c4
  subst c4
  have H1 : (some false) = some r:=by rw [if_neg (show ¬ (false = true) by decide)] at H;exact H
  clear H;have H:=H1;clear H1
  obtain rfl:=Option.some.inj H
  go_enter Try.func51,Try.ntmps51
  go_wp2_with (first|((with_reducible refine gate_dst (N:=2) rfl ?_);refine box_event ?hg (N:=2) ?hd (cs:=#[.slice A0_0 l0_0.length c0_0]) (t:=65) ?hr ?_;(case hd => rfl);(case hg => rfl);(case hr => first|(go_simp;done)|(go_simp;rfl));intro gb313 hg w10 hbox hb;have BK313:=zA (hbox);have GW313:=zA ((by rw [hg];exact (zT (zz HB)) : w.heap.size ≤ gb313));have GE313:=zA ((by rw [hg];exact (zT (zz HB)) : w.heap.size ≤ gb313));replace HB:=zA (zJb (zz HB) hb);clear hb hbox hg)|((with_reducible refine gate_dst (N:=3) rfl ?_);refine box_event ?hg (N:=3) ?hd (cs:=#[.slice A1_0 l1_0.length c1_0]) (t:=65) ?hr ?_;(case hd => rfl);(case hg => rfl);(case hr => first|(go_simp;done)|(go_simp;rfl));intro gb314 hg w11 hbox hb;have BK314:=zA (hbox);have GW314:=zA ((by rw [hg];exact (zT (zz HB)) : w.heap.size ≤ gb314));have GE314:=zA ((by rw [hg];exact (zT (zz HB)) : w.heap.size ≤ gb314));replace HB:=zA (zJb (zz HB) hb);have NB313_314:=zA ((by rw [hg];exact Nat.ne_of_lt (blk_lt (g:=gb313) (o:=.cells #[.slice A0_0 l0_0.length c0_0] 65 (0,0)) (zx BK313)) : gb313 ≠ gb314));have NB314_313:=zA ((by rw [hg];exact Nat.ne_of_gt (blk_lt (g:=gb313) (o:=.cells #[.slice A0_0 l0_0.length c0_0] 65 (0,0)) (zx BK313)) : gb314 ≠ gb313));replace BK313:=zA (zQ (g:=gb313) (o:=.cells #[.slice A0_0 l0_0.length c0_0] 65 (0,0)) (zx BK313) hb);clear hb hbox hg;have hnb12:=NB313_314.out;have hnc12:=NB314_313.out;have hcz13_0:=zc (.slice A0_0 l0_0.length c0_0) BK313 0 rfl;have hfz13_0:=blk_frozen BK313.out 0;have hcz14_0:=zc (.slice A1_0 l1_0.length c1_0) BK314 0 rfl;have hfz14_0:=blk_frozen BK314.out 0)|((with_reducible refine gate_callee (f:=43) rfl ?_);refine goesL_ (some 9) rfl rfl Try.func43 (by kernel_rfl) rfl #[.slice A0_0 l0_0.length c0_0,.slice A1_0 l1_0.length c1_0] rfl (by (try simp only [zCb,zMb,zNb]);first|done|rfl|(simp only [zLb,zDb];rfl)) ?_;(with_reducible refine (laws_eqIntS.calls k _ _ l0_0 _ _ l1_0 false _ ?side1 ?side2 ?side3 ?side4 A3.out).mono ?_);(case side1 => repeat (first|exact (zKb HR0_0.out HB.out)|(with_reducible refine zBb ?_ _)|(with_reducible refine zAb ?_ _)|(with_reducible refine zX ?_)));(case side2 => exact HC0_0.out);(case side3 => repeat (first|exact (zKb HR1_0.out HB.out)|(with_reducible refine zBb ?_ _)|(with_reducible refine zAb ?_ _)|(with_reducible refine zX ?_)));(case side4 => exact HC1_0.out);rintro e w' ⟨rfl,⟨nd,rfl⟩⟩;refine ⟨_,rfl,?_⟩))
  go_ret
  exact ⟨by first|rfl|(simp [errW_none,errW_some] <;> rfl)|(simp [*,errW_none,errW_some] <;> rfl),zz HB⟩

-- NOT PRINTED: function 9 (laws_FnExactIsMapping)

end Go.Proofs.Ytanbgnjfllpkgaa.QFnExactIsMapping
