/- Walks through the Go functions that FnFacts reaches: each call returns what the Lean function beside it says, within the bounds that the theorem names. -/
import Derived.Test.YtfelabhakgcifaaQFnFactsx0
import Derived.Test.YtfelabhakgcifaaQFnFactsx5
import Derived.Test.YtfelabhakgcifaaQFnFactsx6
import Derived.Test.YtfelabhakgcifaaQFnFactsx10
import Derived.Test.YtfelabhakgcifaaQFnFactsx11
import Derived.Test.YtfelabhakgcifaaQFnFactsx12
namespace Go.Proofs.Ytfelabhakgcifaa.QFnFacts
open Go.RowKit Go.Proofs.YtfelabhakgcifaaW.PrintWords Go.Proofs.YtfelabhakgcifaaW.PrintLast Go.Proofs.YtfelabhakgcifaaW.PrintMore
attribute [local go_sem] max2_int min2_int max_two min_two max_three min_three max_four min_four   -- for this text's walks alone
set_option linter.unusedVariables false
set_option linter.unusedSimpArgs false


/-! ### spec_l3Any: function 121 -/
def spec_l3Any.f (k : Nat) (s0_0 : List Int) (s0_1 : Int) (s0_2 : Int) : Option (List Int × Int × Int) := (spec_l3Schema.f k s0_0 s0_1 s0_2).bind fun bt381 => ((spec_l1Below.f s0_0 bt381.2.1 bt381.2.2 10).bind fun bt387 => (if bt387.1 = 0 then ((spec_l1PickInt.f s0_0 bt387.2.1 bt387.2.2 (([0, 3, 4] : List Int))).bind fun bt393 => (if bt381.1.length < 17592186044416 then (some ((bt381.1 ++ [bt393.1]), bt393.2.1, bt393.2.2)) else (none))) else (if bt387.1 = 1 then (some (([] : List Int), bt387.2.1, bt387.2.2)) else (if bt387.1 = 2 then (some ((([1, 2, 3, 1, 2] : List Int)), bt387.2.1, bt387.2.2)) else (some (bt381.1, bt387.2.1, bt387.2.2))))))
theorem spec_l3Any.mono : ∀ a0 a1 a2 k, LeO (spec_l3Any.f k a0 a1 a2) (spec_l3Any.f (k + 1) a0 a1 a2) := by
 intro a0 a1 a2 k
 unfold spec_l3Any.f
 repeat' first
   | (with_reducible exact spec_l3Schema.mono _ _ _ _)
   | (with_reducible exact LeO.refl _)
   | (with_reducible exact LeO.none _)
   | (with_reducible refine LeO.ite ?_ ?_)
   | (with_reducible refine LeO.bind ?_ (fun _ => ?_))
   | exact LeO.none _
   | refine LeO.ite ?_ ?_
   | refine LeO.bind ?_ (fun _ => ?_)
def spec_l3Any.T4 : Bool × List (List Nat × List Nat) := (true, [([], []), ([0], [0]), ([], []), ([], []), ([2, 3], [2, 3]), ([4], [4]), ([1, 5, 4], [1, 5]), ([0, 1, 2, 3, 4, 5, 6], []), ([7, 6, 6, 0, 1, 2, 3, 4, 5, 6], [6, 7])])
def spec_l3Any.B4 : List Nat := [0, 1, 0, 0, 12, 28, 63, 127, 255]
theorem spec_l3Any.tab4 : rtab .any (opsOf Try.f121 4) = spec_l3Any.T4 := by kernel_rfl
theorem spec_l3Any.bits4 : waitsOk spec_l3Any.T4.2 spec_l3Any.B4 = true := by kernel_rfl
set_option maxHeartbeats 8000000 in
set_option maxRecDepth 100000 in
theorem spec_l3Any.calls (k : Nat) (g : Nat) (s0_0 : List Int) (s0_1 : Int) (s0_2 : Int) (r1 : List Int) (r2 : Int) (r3 : Int) (w0 w : World) (hI : IsS139 w0 w g s0_0 s0_1 s0_2) (hB : Below w0.heap.size w0 w) (h : spec_l3Any.f k s0_0 s0_1 s0_2 = some (r1, r2, r3)) :
  Calls Try.prog 121 #[.pointer (some ⟨g, 0, none⟩)] w fun e w' => ∃ v0_ : Value, e = .returned (.agg #[v0_]) ∧ Kd.R (Kd.int .i64) 3 w' w.heap.size (fun _ => True) v0_ r1 ∧ IsS139 w0 w' g s0_0 r2 r3 ∧ Below w0.heap.size w0 w' ∧ KeepBut w w' g none := by
 have hu34:=Try.underlying34;have HI0:=zA hI;have HK:=zA (KeepBut.refl w g none);have HL:=zA hB.size;clear hI;have HW0:=zA hB.size;have HB:=zA hB;clear hB
 have H : ((spec_l3Schema.f k s0_0 s0_1 s0_2).bind fun bt381 => ((spec_l1Below.f s0_0 bt381.2.1 bt381.2.2 10).bind fun bt387 => (if bt387.1 = 0 then ((spec_l1PickInt.f s0_0 bt387.2.1 bt387.2.2 (([0,3,4] : List Int))).bind fun bt393 => (if bt381.1.length < 17592186044416 then (some ((bt381.1 ++ [bt393.1]),bt393.2.1,bt393.2.2)) else (none))) else (if bt387.1 = 1 then (some (([] : List Int),bt387.2.1,bt387.2.2)) else (if bt387.1 = 2 then (some ((([1,2,3,1,2] : List Int)),bt387.2.1,bt387.2.2)) else (some (bt381.1,bt387.2.1,bt387.2.2))))))) = some (r1,r2,r3):=h
 clear h;replace H:=Option.bind_eq_some_iff.mp H;obtain ⟨⟨t381,t384,t385⟩,A20,H⟩:=H;(try dsimp only at H);have A2:=zA A20;clear A20;replace H:=Option.bind_eq_some_iff.mp H;obtain ⟨⟨t387,t388,t389⟩,A30,H⟩:=H;(try dsimp only at H);have A3:=zA A30;clear A30
 by_cases c4 : t387 = 0
 ·
  rw [if_pos c4] at H;have c4b0:=beq_iff_eq.mpr c4;have c4b1:=bne_eq_false_iff_eq.mpr c4;clear c4;obtain ⟨y390,hy390⟩ : ∃ y_ : List Int,y_ = (([0,3,4] : List Int)):=⟨_,rfl⟩
  replace H : ((spec_l1PickInt.f s0_0 t388 t389 y390).bind fun bt393 => (if t381.length < 17592186044416 then (some ((t381 ++ [bt393.1]),bt393.2.1,bt393.2.2)) else (none))) = some (r1,r2,r3):=by first|(rw [hy390];with_reducible exact H)|(have H2_:=(Option.bind_some _ _).symm.trans H;rw [hy390];with_reducible exact H2_)|(have H2_:=(Option.bind_some _ _).symm.trans H;with_reducible exact H2_)|with_reducible exact H|(rw [hy390];exact H)|exact H
  have Ny390:=zA hy390;clear hy390;replace H:=Option.bind_eq_some_iff.mp H;obtain ⟨⟨t393,t394,t395⟩,A50,H⟩:=H;(try dsimp only at H);have A5:=zA A50;clear A50
  by_cases c6 : t381.length < 17592186044416
  ·
   rw [if_pos c6] at H;have LMc6:=zA c6;clear c6;obtain ⟨y396,hy396⟩ : ∃ y_ : List Int,y_ = (t381 ++ [t393]):=⟨_,rfl⟩
   replace H : (some (y396,t394,t395)) = some (r1,r2,r3):=by first|(rw [hy396];with_reducible exact H)|(have H2_:=(Option.bind_some _ _).symm.trans H;rw [hy396];with_reducible exact H2_)|(have H2_:=(Option.bind_some _ _).symm.trans H;with_reducible exact H2_)|with_reducible exact H|(rw [hy396];exact H)|exact H
   have Ny396:=zA hy396;clear hy396;simp only [Option.some.injEq,Prod.mk.injEq] at H;obtain ⟨rfl,rfl,rfl⟩:=H
   go_enter Try.func121,Try.ntmps121
   try go_wp2_with (first|((with_reducible refine gate_dst (N:=2) rfl ?_);refine box_event ?hg (N:=2) ?hd (cs:=#[.slice none 0 0]) (t:=34) ?hr ?_;(case hd => rfl);(case hg => rfl);(case hr => first|(go_simp;done)|(go_simp;rfl));intro gb380 hg w7 hbox hb;replace HB:=zA (zJb (by repeat (first|(with_reducible first|exact HB.out|apply zK|apply zC|apply zJ|refine zB ?_ (IsS139.ge HI0.out))|exact HB.out)) hb);have BK380:=zA (hbox);have GW380:=zA ((by rw [hg];exact (keep_size (w:=w) (g:=g) (row:=none) (by repeat (first|(with_reducible first|exact HK.out|apply KeepBut.set_|apply keep_drewN|apply keep_drew|apply keep_alloc)|exact HK.out))) : w.heap.size ≤ gb380));have GE380:=zA ((Nat.le_trans HW0.out (by rw [hg];exact (keep_size (w:=w) (g:=g) (row:=none) (by repeat (first|(with_reducible first|exact HK.out|apply KeepBut.set_|apply keep_drewN|apply keep_drew|apply keep_alloc)|exact HK.out))) : w.heap.size ≤ gb380) : w0.heap.size ≤ gb380));replace HK:=zA (KeepBut.trans (by repeat (first|(with_reducible first|exact HK.out|apply KeepBut.set_|apply keep_drewN|apply keep_drew|apply keep_alloc)|exact HK.out)) (KeepBut.of_below hb g none) (.inl rfl));have NB0_380:=zA ((by rw [hg];exact Nat.ne_of_lt (IsS139.lt (show IsS139 w0 _ g s0_0 s0_1 s0_2 from by repeat (first|(with_reducible first|exact HI0.out|apply IsS139.alloc|apply IsS139.drewN|apply IsS139.drew|apply IsS139.set_1|apply IsS139.set_2)|exact HI0.out))) : g ≠ gb380));have NB380_0:=zA ((by rw [hg];exact Nat.ne_of_gt (IsS139.lt (show IsS139 w0 _ g s0_0 s0_1 s0_2 from by repeat (first|(with_reducible first|exact HI0.out|apply IsS139.alloc|apply IsS139.drewN|apply IsS139.drew|apply IsS139.set_1|apply IsS139.set_2)|exact HI0.out))) : gb380 ≠ g));replace HI0:=zA (IsS139.below (by repeat (first|(with_reducible first|exact HI0.out|apply IsS139.alloc|apply IsS139.drewN|apply IsS139.drew|apply IsS139.set_1|apply IsS139.set_2)|exact HI0.out)) hb);clear hb hbox hg)|((with_reducible refine gate_callee (f:=155) rfl ?_);refine goesL_ (some 5) rfl rfl Try.func155 (by kernel_rfl) rfl #[.pointer (some ⟨g,0,none⟩)] rfl (by (try simp only [zCb,zMb,zNb]);first|done|rfl|(simp only [zLb,zDb];rfl)) ?_;(with_reducible refine (spec_l3Schema.calls k g s0_0 s0_1 s0_2 t381 t384 t385 w0 _ ?side1 ?side2 A2.out).mono ?_);(case side1 => repeat (first|(with_reducible first|exact HI0.out|apply IsS139.alloc|apply IsS139.drewN|apply IsS139.drew|apply IsS139.set_1|apply IsS139.set_2|refine IsS139.far ?_ NB0_380.out _)|exact HI0.out));(case side2 => repeat (first|(with_reducible first|exact HB.out|apply zK|apply zC|apply zJ|refine zB ?_ (IsS139.ge HI0.out)|refine zB ?_ GE380.out)|exact HB.out));rintro e w8 ⟨v382,rfl,ho0,hi,hb,hk⟩;refine ⟨_,rfl,?_⟩;replace BK380:=zA (KeepBut.blk hk (g':=gb380) (o:=.cells #[.slice none 0 0] 34 (0,0)) (zx BK380) NB380_0.out (by simp));have HO383:=zA (zHb ho0 (keep_size (w:=w) (g:=g) (row:=none) (by repeat (first|(with_reducible first|exact HK.out|apply KeepBut.set_|apply keep_drewN|apply keep_drew|apply keep_alloc|refine keep_far ?_ GW380.out _)|exact HK.out))));replace HK:=zA (KeepBut.trans (by repeat (first|(with_reducible first|exact HK.out|apply KeepBut.set_|apply keep_drewN|apply keep_drew|apply keep_alloc|refine keep_far ?_ GW380.out _)|exact HK.out)) hk (.inl rfl));replace HB:=zA (hb);replace HI0:=zA (hi);(try clear hb);(try clear hb2);(try clear hk);(try clear hi);(try clear ho0))|((with_reducible refine gate_dst (N:=3) rfl ?_);refine box_event ?hg (N:=3) ?hd (cs:=#[.slice none 0 0]) (t:=34) ?hr ?_;(case hd => rfl);(case hg => rfl);(case hr => first|(go_simp;done)|(go_simp;rfl));intro gb386 hg w9 hbox hb;replace HO383:=zA (zZ (zq HO383) hb);replace HB:=zA (zJb (by repeat (first|(with_reducible first|exact HB.out|apply zK|apply zC|apply zJ|refine zB ?_ (IsS139.ge HI0.out)|refine zB ?_ GE380.out)|exact HB.out)) hb);have BK386:=zA (hbox);have GW386:=zA ((by rw [hg];exact (keep_size (w:=w) (g:=g) (row:=none) (by repeat (first|(with_reducible first|exact HK.out|apply KeepBut.set_|apply keep_drewN|apply keep_drew|apply keep_alloc|refine keep_far ?_ GW380.out _)|exact HK.out))) : w.heap.size ≤ gb386));have GE386:=zA ((Nat.le_trans HW0.out (by rw [hg];exact (keep_size (w:=w) (g:=g) (row:=none) (by repeat (first|(with_reducible first|exact HK.out|apply KeepBut.set_|apply keep_drewN|apply keep_drew|apply keep_alloc|refine keep_far ?_ GW380.out _)|exact HK.out))) : w.heap.size ≤ gb386) : w0.heap.size ≤ gb386));replace HK:=zA (KeepBut.trans (by repeat (first|(with_reducible first|exact HK.out|apply KeepBut.set_|apply keep_drewN|apply keep_drew|apply keep_alloc|refine keep_far ?_ GW380.out _)|exact HK.out)) (KeepBut.of_below hb g none) (.inl rfl));have NB380_386:=zA ((by rw [hg];exact Nat.ne_of_lt (blk_lt (g:=gb380) (o:=.cells #[.slice none 0 0] 34 (0,0)) (zx BK380)) : gb380 ≠ gb386));have NB386_380:=zA ((by rw [hg];exact Nat.ne_of_gt (blk_lt (g:=gb380) (o:=.cells #[.slice none 0 0] 34 (0,0)) (zx BK380)) : gb386 ≠ gb380));replace BK380:=zA (zQ (g:=gb380) (o:=.cells #[.slice none 0 0] 34 (0,0)) (zx BK380) hb);have NB0_386:=zA ((by rw [hg];exact Nat.ne_of_lt (IsS139.lt (show IsS139 w0 _ g s0_0 t384 t385 from by repeat (first|(with_reducible first|exact HI0.out|apply IsS139.alloc|apply IsS139.drewN|apply IsS139.drew|apply IsS139.set_1|apply IsS139.set_2|refine IsS139.far ?_ NB0_380.out _)|exact HI0.out))) : g ≠ gb386));have NB386_0:=zA ((by rw [hg];exact Nat.ne_of_gt (IsS139.lt (show IsS139 w0 _ g s0_0 t384 t385 from by repeat (first|(with_reducible first|exact HI0.out|apply IsS139.alloc|apply IsS139.drewN|apply IsS139.drew|apply IsS139.set_1|apply IsS139.set_2|refine IsS139.far ?_ NB0_380.out _)|exact HI0.out))) : gb386 ≠ g));replace HI0:=zA (IsS139.below (by repeat (first|(with_reducible first|exact HI0.out|apply IsS139.alloc|apply IsS139.drewN|apply IsS139.drew|apply IsS139.set_1|apply IsS139.set_2|refine IsS139.far ?_ NB0_380.out _)|exact HI0.out)) hb);clear hb hbox hg;obtain ⟨Ao10,co10,eo10⟩:=Kd.R_slice HO383.out;subst eo10;have hnb11:=NB386_380.out;have hnc11:=NB380_386.out;have hnb12:=NB386_0.out;have hnc12:=NB0_386.out;have hcz13_0:=zc (.slice none 0 0) BK386 0 rfl;have hfz13_0:=blk_frozen BK386.out 0)|((with_reducible refine gate_callee (f:=89) rfl ?_);refine goesL_ (some 7) rfl rfl Try.func89 (by kernel_rfl) rfl #[.pointer (some ⟨g,0,none⟩),.int .i64 10] rfl (by (try simp only [zCb,zMb,zNb]);first|done|rfl|(simp only [zLb,zDb];rfl)) ?_;(with_reducible refine (spec_l1Below.calls g s0_0 t384 t385 10 t387 t388 t389 w0 _ ?side1 ?side2 A3.out).mono ?_);(case side1 => repeat (first|(with_reducible first|exact HI0.out|apply IsS139.alloc|apply IsS139.drewN|apply IsS139.drew|apply IsS139.set_1|apply IsS139.set_2|refine IsS139.far ?_ NB0_380.out _|refine IsS139.far ?_ NB0_386.out _)|exact HI0.out));(case side2 => repeat (first|(with_reducible first|exact HB.out|apply zK|apply zC|apply zJ|refine zB ?_ (IsS139.ge HI0.out)|refine zB ?_ GE380.out|refine zB ?_ GE386.out)|exact HB.out));rintro e w14 ⟨rfl,hi,hb,hk⟩;refine ⟨_,rfl,?_⟩;replace BK380:=zA (KeepBut.blk hk (g':=gb380) (o:=.cells #[.slice none 0 0] 34 (0,0)) (by (with_reducible repeat (first|refine zF ?_ _|refine zI ?_|refine zG ?_ _));refine zUb ?_ NB380_386.out _;(with_reducible repeat (first|refine zF ?_ _|refine zI ?_|refine zG ?_ _));exact BK380.out) NB380_0.out (by simp));replace HO383:=zA (zGb (Kd.R_keep (IsS139.apart (show IsS139 w0 _ g s0_0 t384 t385 from by repeat (first|(with_reducible first|exact HI0.out|apply IsS139.alloc|apply IsS139.drewN|apply IsS139.drew|apply IsS139.set_1|apply IsS139.set_2|refine IsS139.far ?_ NB0_380.out _|refine IsS139.far ?_ NB0_386.out _)|exact HI0.out)) (by (with_reducible repeat (first|apply zE|apply zD|apply zH));exact (zGb (zR (p:=⟨gb386,0,none⟩) (Kd.R_types HO383.out BK386.out (by decide)) (fun _ hk => hk.2) (.slice Ao10 t381.length co10)) (fun _ h_ => h_.1))) (by decide)) hk (fun _ h => h.2)) (fun _ h => h.1));replace BK386:=zA (KeepBut.blk hk (g':=gb386) (o:=.cells #[.slice Ao10 t381.length co10] 34 (0,0)) (by (with_reducible repeat (first|refine zF ?_ _|refine zI ?_|refine zG ?_ _));refine blk_put (cs:=#[.slice none 0 0]) ?_ 0 _ rfl;(with_reducible repeat (first|refine zF ?_ _|refine zI ?_|refine zG ?_ _));exact BK386.out) NB386_0.out (by simp));replace HK:=zA (KeepBut.trans (by repeat (first|(with_reducible first|exact HK.out|apply KeepBut.set_|apply keep_drewN|apply keep_drew|apply keep_alloc|refine keep_far ?_ GW380.out _|refine keep_far ?_ GW386.out _)|exact HK.out)) hk (.inl rfl));replace HB:=zA (hb);replace HI0:=zA (hi);(try clear hb);(try clear hb2);(try clear hk);(try clear hi)))
   have n0_:=zA (zH HO383.out);have n1_:=zA (zI BK380.out);have n2_:=zA (zI BK386.out);have n3_:=zA (IsS139.drew HI0.out);have n4_:=zA (keep_drew HK.out);have n5_:=zA (zJ HB.out);clear HO383;clear BK380;clear BK386;clear HI0;clear HK;clear HB;have HO383:=n0_;have BK380:=n1_;have BK386:=n2_;have HI0:=n3_;have HK:=n4_;have HB:=n5_;clear n0_ n1_ n2_ n3_ n4_ n5_
   refine start_ (n:=9) (S:=fun w' => w'.cell? ⟨gb386,0,none⟩ = some (.slice Ao10 t381.length co10)) (ds:=[8]) #[false,false,false,false,false,false,false,false,false] (by kernel_rfl) rfl rfl ((zP BK386.out 0).trans rfl) (fun hHeld => ?_);refine with_tabW spec_l3Any.tab4 spec_l3Any.bits4 (fun HT_ HW_ => ?_)
   generalize w14.drew = w15 at HO383 BK380 BK386 HI0 HK HB hHeld ⊢
   refine pure_ (i:=0) (N:=some 10) (v:=?_) (a':=?_) #[true,false,false,false,false,false,false,false,false] rfl rfl (any_of HT_.out (by kernel_rfl)) (fun _ _ _ h => h) (Or.inl ⟨by rfl,?_⟩) ?_ ?_
   rotate_left
   ·
    intro w'
    go_simp
    with_reducible rfl
   rotate_left
   ·
    simp only [Act.put,zO,zEb,zFb,i64_w,i32_w]
    rfl
   refine pure_ (i:=2) (N:=some 12) (v:=?_) (a':=?_) #[true,false,true,false,false,false,false,false,false] rfl rfl (any_of HT_.out (by kernel_rfl)) (fun _ _ _ h => h) (Or.inl ⟨by rfl,?_⟩) ?_ ?_
   rotate_left
   ·
    intro w'
    go_simp
    with_reducible rfl
   rotate_left
   ·
    simp only [Act.put,zO,zEb,zFb,i64_w,i32_w]
    rfl
   refine take_ (i:=1) (N:=some 11) (v:=?_) (a':=?_) #[true,true,true,false,false,false,false,false,false] rfl rfl (take_ofW HT_.out HW_.out (by kernel_rfl)) (fun _ _ _ h => h) (Or.inl ⟨by rfl,?_⟩) hHeld ?_ ?_
   rotate_left
   ·
    intro w' s0
    go_simp
    with_reducible rfl
   rotate_left
   ·
    simp only [Act.put,zO,zEb,zFb,i64_w,i32_w]
    rfl
   refine one_ (i:=3) (N:=some 13) #[true,true,true,true,false,false,false,false,false] rfl rfl (one_of HT_.out (by kernel_rfl)) (by decide) (fun K hK => ?_)
   refine Kd.R_lit_step (Kd.int .i64) _ 3 ?hg (N:=13) ?hd (xs:=([0,3,4] : List Int)) (inner:=[.int .i64 0,.int .i64 3,.int .i64 4]) (ok:=fun _ => True) (okp:=fun _ => True) ?hr ?hp (fun _ hk => hk) trivial (Below.refl _ _) (Nat.le_refl _) (by simp) ?_;(case hd => rfl);(case hg => rfl);(case hr => first|(go_simp;done)|(go_simp;rfl));(case hp => exact (Reps.one (show Kd.M (Kd.int .i64) _ _ _ 0 [.int .i64 0] from rfl) (Reps.one (show Kd.M (Kd.int .i64) _ _ _ 3 [.int .i64 3] from rfl) (Reps.one (show Kd.M (Kd.int .i64) _ _ _ 4 [.int .i64 4] from rfl) (Reps.none _ _)))))
   intro v391 w16 ho17 hb hg_ hnew_
   clear hg_ hnew_
   (first|rw [← Ny390.out] at ho17|(simp only [Int.reduceToNat] at ho17;rw [← Ny390.out] at ho17))
   have n0_:=zA (zTb (zq HO383) (zW ho17) hb);have n1_:=zA (zHb (zQb ho17 (zOb (zq HO383))) (keep_size (w:=w) (g:=g) (row:=none) (by repeat (first|(with_reducible first|exact HK.out|apply KeepBut.set_|apply keep_drewN|apply keep_drew|apply keep_alloc|refine keep_far ?_ GW380.out _|refine keep_far ?_ GW386.out _)|exact HK.out))));have n2_:=zA (IsS139.below (by repeat (first|(with_reducible first|exact HI0.out|apply IsS139.alloc|apply IsS139.drewN|apply IsS139.drew|apply IsS139.set_1|apply IsS139.set_2|refine IsS139.far ?_ NB0_380.out _|refine IsS139.far ?_ NB0_386.out _)|exact HI0.out)) hb);have n3_:=zA (zQ (g:=gb380) (o:=.cells #[.slice none 0 0] 34 (0,0)) (zx BK380) hb);have n4_:=zA (zQ (g:=gb386) (o:=.cells #[.slice Ao10 t381.length co10] 34 (0,0)) (zx BK386) hb);have n5_:=zA (KeepBut.trans (by repeat (first|(with_reducible first|exact HK.out|apply KeepBut.set_|apply keep_drewN|apply keep_drew|apply keep_alloc|refine keep_far ?_ GW380.out _|refine keep_far ?_ GW386.out _)|exact HK.out)) (KeepBut.of_below hb g none) (.inl rfl));have n6_:=zA (zJb (by repeat (first|(with_reducible first|exact HB.out|apply zK|apply zC|apply zJ|refine zB ?_ (IsS139.ge HI0.out)|refine zB ?_ GE380.out|refine zB ?_ GE386.out)|exact HB.out)) hb);clear HO383;clear HI0;clear BK380;clear BK386;clear HK;clear HB;have HO383:=n0_;have HO392:=n1_;have HI0:=n2_;have BK380:=n3_;have BK386:=n4_;have HK:=n5_;have HB:=n6_;clear n0_ n1_ n2_ n3_ n4_ n5_ n6_;clear hb ho17;obtain ⟨Ao18,co18,eo18⟩:=Kd.R_slice HO392.out
   (first|subst eo18|(injection eo18 with f1_ f2_ f3_;have f4_:=f1_.symm;have f5_:=f3_.symm;clear f1_ f2_ f3_;subst f4_;subst f5_))
   refine hK.out _ _ ((zP BK386.out 0).trans rfl) (fun hHeld => ?_)
   clear hK K
   refine norm_ (a':=?_) ?_ ?_
   rotate_left
   ·
    show Act.put _ (some 13) _ = _
    simp only [Act.put,zO,zEb,zFb,i64_w,i32_w]
    rfl
   refine one_ (i:=4) (N:=some 14) #[true,true,true,true,true,false,false,false,false] rfl rfl (one_of HT_.out (by kernel_rfl)) (by decide) (fun K hK => ?_)
   refine goes_ Try.func126 (by kernel_rfl) rfl #[.pointer (some ⟨g,0,none⟩),.slice Ao18 y390.length co18] (by rfl) rfl rfl (by (try simp only [zCb,zMb,zNb]);first|done|rfl|(simp only [zLb,zDb];rfl)) ?_
   with_reducible refine (spec_l1PickInt.calls g s0_0 t388 t389 _ _ y390 t393 t394 t395 w0 _ ?side1 ?side2 ?side3 ?side4 ?side5 A5.out).mono ?_
   (case side1 => repeat (first|(with_reducible first|exact HI0.out|apply IsS139.alloc|apply IsS139.drewN|apply IsS139.drew|apply IsS139.set_1|apply IsS139.set_2|refine IsS139.far ?_ NB0_380.out _|refine IsS139.far ?_ NB0_386.out _)|exact HI0.out))
   (case side2 => repeat (first|(with_reducible first|exact HB.out|apply zK|apply zC|apply zJ|refine zB ?_ (IsS139.ge HI0.out)|refine zB ?_ GE380.out|refine zB ?_ GE386.out)|exact HB.out))
   (case side3 => repeat (first|exact (Kd.R_reads' HO392.out).2.2|(with_reducible refine zBb ?_ _)|(with_reducible refine zAb ?_ _)|(with_reducible refine zX ?_)))
   (case side4 => exact (Kd.R_reads' HO392.out).2.1)
   (case side5 => exact far_slice (IsS139.own_ne HI0.out HO392.out (by decide)))
   rintro e w19 ⟨rfl,hi,hb,hk⟩
   refine ⟨_,rfl,?_⟩
   have n0_:=zA (KeepBut.blk hk (g':=gb380) (o:=.cells #[.slice none 0 0] 34 (0,0)) (zx BK380) NB380_0.out (by simp));have n1_:=zA (zGb (Kd.R_keep (IsS139.apart (show IsS139 w0 _ g s0_0 t388 t389 from by repeat (first|(with_reducible first|exact HI0.out|apply IsS139.alloc|apply IsS139.drewN|apply IsS139.drew|apply IsS139.set_1|apply IsS139.set_2|refine IsS139.far ?_ NB0_380.out _|refine IsS139.far ?_ NB0_386.out _)|exact HI0.out)) (zq HO383) (by decide)) hk (fun _ h => h.2)) (fun _ h => h.1));have n2_:=zA (KeepBut.blk hk (g':=gb386) (o:=.cells #[.slice Ao10 t381.length co10] 34 (0,0)) (zx BK386) NB386_0.out (by simp));have n3_:=zA (zGb (Kd.R_keep (IsS139.apart (show IsS139 w0 _ g s0_0 t388 t389 from by repeat (first|(with_reducible first|exact HI0.out|apply IsS139.alloc|apply IsS139.drewN|apply IsS139.drew|apply IsS139.set_1|apply IsS139.set_2|refine IsS139.far ?_ NB0_380.out _|refine IsS139.far ?_ NB0_386.out _)|exact HI0.out)) (zq HO392) (by decide)) hk (fun _ h => h.2)) (fun _ h => h.1));have n4_:=zA (KeepBut.trans (by repeat (first|(with_reducible first|exact HK.out|apply KeepBut.set_|apply keep_drewN|apply keep_drew|apply keep_alloc|refine keep_far ?_ GW380.out _|refine keep_far ?_ GW386.out _)|exact HK.out)) hk (.inl rfl));have n5_:=zA (hb);have n6_:=zA (hi);clear BK380;clear HO383;clear BK386;clear HO392;clear HK;clear HB;clear HI0;have BK380:=n0_;have HO383:=n1_;have BK386:=n2_;have HO392:=n3_;have HK:=n4_;have HB:=n5_;have HI0:=n6_;clear n0_ n1_ n2_ n3_ n4_ n5_ n6_;(try clear hb);(try clear hb2);(try clear hk);(try clear hi)
   refine hK.out _ _ ((zP BK386.out 0).trans rfl) (fun hHeld => ?_)
   clear hK K
   refine norm_ (a':=?_) ?_ ?_
   rotate_left
   ·
    show Act.put _ (some 14) _ = _
    simp only [Act.put,zO,zEb,zFb,i64_w,i32_w]
    rfl
   refine one_ (i:=5) (N:=some 15) #[true,true,true,true,true,true,false,false,false] rfl rfl (one_of HT_.out (by kernel_rfl)) (by decide) (fun K hK => ?_)
   refine value_ (w1:=?_) (v:=?_) (by rfl) rfl ?_ ?_
   rotate_left 2
   ·
    go_simp
    constructor
    ·
     rfl
    ·
     rfl
   refine hK.out _ _ ((zP (zG BK386.out _) 0).trans rfl) (fun hHeld => ?_)
   clear hK K
   refine norm_ (a':=?_) ?_ ?_
   rotate_left
   ·
    show Act.put _ (some 15) _ = _
    simp only [Act.put,zO,zEb,zFb,i64_w,i32_w]
    rfl
   refine one_ (i:=6) (N:=some 16) #[true,true,true,true,true,true,true,false,false] rfl rfl (one_of HT_.out (by kernel_rfl)) (by decide) (fun K hK => ?_)
   refine Kd.R_append_step (Kd.int .i64) w.heap.size (by rfl) (.tmp 11) (.tmp 15) 22 3 (.int .i64 0) 8 rfl Try.underlying22 info3 rfl (by decide) (by omega) (.slice Ao10 t381.length co10) t381 t393 [.int .i64 t393] (fun k_ => some k_ ≠ (.slice Ao18 y390.length co18 : Value).ownBlock) (fun _ => False) rfl rfl ?aP (fun _ hk => hk.elim) ?aF ?aO (Below.refl _ _) ?aS ?aL ?_
   (case aP => exact rfl)
   (case aF => exact (fun k_ hk => Kd.fresh' (zOb (zq HO392)) k_ hk))
   (case aO => exact (by (with_reducible repeat (first|apply zE|apply zD|apply zH));exact zGb HO383.out (fun _ hk => hk.2)))
   (case aS => exact (keep_size (w:=w) (g:=g) (row:=none) (by repeat (first|(with_reducible first|exact HK.out|apply KeepBut.set_|apply keep_drewN|apply keep_drew|apply keep_alloc|refine keep_far ?_ GW380.out _|refine keep_far ?_ GW386.out _)|exact HK.out))))
   (case aL => have:=LMc6.out;omega)
   intro v397 w20 ho hb hg hat
   rw [← Ny396.out] at ho;have n0_:=zA (IsS139.grown (by repeat (first|(with_reducible first|exact HI0.out|apply IsS139.alloc|apply IsS139.drewN|apply IsS139.drew|apply IsS139.set_1|apply IsS139.set_2|refine IsS139.far ?_ NB0_380.out _|refine IsS139.far ?_ NB0_386.out _)|exact HI0.out)) hg (IsS139.own_ne HI0.out HO383.out (by decide)));have n1_:=zA (blk_grown (g:=gb380) (o:=.cells #[.slice none 0 0] 34 (0,0)) (zx BK380) hg (Kd.R_ne HO383.out BK380.out (by decide)));have n2_:=zA (blk_grown (g:=gb386) (o:=.cells #[.slice Ao10 t381.length co10] 34 (0,0)) (zx BK386) hg (Kd.R_ne HO383.out BK386.out (by decide)));have n3_:=zA (Kd.R_after (ok:=(fun _ => True)) (zq HO392) hg hat);have n4_:=zA (below_weaken (by repeat (first|(with_reducible first|exact HB.out|apply zK|apply zC|apply zJ|refine zB ?_ (IsS139.ge HI0.out)|refine zB ?_ GE380.out|refine zB ?_ GE386.out)|exact HB.out)) HL.out hb);have n5_:=zA (KeepBut.trans (by repeat (first|(with_reducible first|exact HK.out|apply KeepBut.set_|apply keep_drewN|apply keep_drew|apply keep_alloc|refine keep_far ?_ GW380.out _|refine keep_far ?_ GW386.out _)|exact HK.out)) (KeepBut.of_grown hg g) (Kd.R_base2 HO383.out));have n6_:=zA (ho);clear HI0;clear BK380;clear BK386;clear HO392;clear HB;clear HK;clear HO383;have HI0:=n0_;have BK380:=n1_;have BK386:=n2_;have HO392:=n3_;have HB:=n4_;have HK:=n5_;have HO398:=n6_;clear n0_ n1_ n2_ n3_ n4_ n5_ n6_;clear ho hb hg hat;obtain ⟨Ao21,co21,eo21⟩:=Kd.R_slice HO398.out
   (first|subst eo21|(injection eo21 with f1_ f2_ f3_;have f4_:=f1_.symm;have f5_:=f3_.symm;clear f1_ f2_ f3_;subst f4_;subst f5_))
   refine hK.out _ _ ((zP BK386.out 0).trans rfl) (fun hHeld => ?_)
   clear hK K
   refine norm_ (a':=?_) ?_ ?_
   rotate_left
   ·
    show Act.put _ (some 16) _ = _
    simp only [Act.put,zO,zEb,zFb,i64_w,i32_w]
    rfl
   refine pure_ (i:=7) (N:=some 17) (v:=?_) (a':=?_) #[true,true,true,true,true,true,true,true,false] rfl rfl (any_of HT_.out (by kernel_rfl)) (fun _ _ _ h => h) (Or.inl ⟨by rfl,?_⟩) ?_ ?_
   rotate_left
   ·
    intro w'
    go_simp
    with_reducible rfl
   rotate_left
   ·
    simp only [Act.put,zO,zEb,zFb,i64_w,i32_w]
    rfl
   refine last_ (i:=8) (N:=none) #[true,true,true,true,true,true,true,true,true] rfl rfl (one_of HT_.out (by kernel_rfl)) (by decide) (fun K hK => ?_)
   have hs22 : w20.cell? ⟨gb386,0,none⟩ = some (.slice Ao10 t381.length co10):=(zP BK386.out 0).trans rfl
   have hfs22:=blk_frozen BK386.out 0;have hns22_0:=NB380_386.out;have hms22_0:=NB386_380.out
   refine skip_ (w1:=?_) (by rfl) rfl ?_ ?_
   rotate_left
   ·
    go_simp
    rfl
   refine hK.out _ _ ?_
   clear hK K
   refine done_ (done_of HT_.out (by kernel_rfl)) ?_
   have hcz23_0:=zc (.slice Ao10 t381.length co10) BK386 0 rfl;have hfz23_0:=blk_frozen BK386.out 0;have hnb24:=NB380_0.out;have hnc24:=NB0_380.out;have hcz25_0:=zc (.slice none 0 0) BK380 0 rfl;have hfz25_0:=blk_frozen BK380.out 0
   try go_wp2
   refine bodyPost_ret (results_cell_row rfl _ _ gb380 34 #[.slice Ao21 y396.length co21] (0,0) _ rfl (by (with_reducible repeat (first|refine zF ?_ _|refine zI ?_|refine zG ?_ _));refine blk_put (cs:=#[.slice none 0 0]) ?_ 0 _ rfl;(with_reducible repeat (first|refine zF ?_ _|refine zI ?_|refine zG ?_ _));refine zUb ?_ NB380_386.out _;(with_reducible repeat (first|refine zF ?_ _|refine zI ?_|refine zG ?_ _));exact BK380.out) Try.underlying34 rfl (by kernel_rfl)) rfl ?_
   exact ⟨_,by first|rfl|(simp [errW_none,errW_some] <;> rfl)|(simp [*,errW_none,errW_some] <;> rfl),by (with_reducible repeat (first|apply zE|apply zD|apply zH));exact zGb (zR (p:=⟨gb380,0,none⟩) (zR (p:=⟨gb386,0,none⟩) (Kd.R_types (Kd.R_types HO398.out BK386.out (by decide)) BK380.out (by decide)) (fun _ hk => hk.1.2) (.slice Ao21 y396.length co21)) (fun _ hk => hk.2) (.slice Ao21 y396.length co21)) (fun _ hk => trivial),by repeat (first|(with_reducible first|exact HI0.out|apply IsS139.alloc|apply IsS139.drewN|apply IsS139.drew|apply IsS139.set_1|apply IsS139.set_2|refine IsS139.far ?_ NB0_380.out _|refine IsS139.far ?_ NB0_386.out _)|exact HI0.out),by repeat (first|(with_reducible first|exact HB.out|apply zK|apply zC|apply zJ|refine zB ?_ (IsS139.ge HI0.out)|refine zB ?_ GE380.out|refine zB ?_ GE386.out)|exact HB.out),by repeat (first|(with_reducible first|exact HK.out|apply KeepBut.set_|apply keep_drewN|apply keep_drew|apply keep_alloc|refine keep_far ?_ GW380.out _|refine keep_far ?_ GW386.out _)|exact HK.out)⟩
  ·
   rw [if_neg c6] at H
   exact absurd H (by simp)
 ·
  rw [if_neg c4] at H;have c4b0:=beq_eq_false_iff_ne.mpr c4;have c4b1:=bne_iff_ne.mpr c4
  by_cases c26 : t387 = 1
  ·
   rw [if_pos c26] at H;have c26b0:=beq_iff_eq.mpr c26;have c26b1:=bne_eq_false_iff_eq.mpr c26;clear c26;simp only [Option.some.injEq,Prod.mk.injEq] at H;obtain ⟨rfl,rfl,rfl⟩:=H
   go_enter Try.func121,Try.ntmps121
   go_wp2_with (first|((with_reducible refine gate_dst (N:=2) rfl ?_);refine box_event ?hg (N:=2) ?hd (cs:=#[.slice none 0 0]) (t:=34) ?hr ?_;(case hd => rfl);(case hg => rfl);(case hr => first|(go_simp;done)|(go_simp;rfl));intro gb380 hg w27 hbox hb;replace HB:=zA (zJb (by repeat (first|(with_reducible first|exact HB.out|apply zK|apply zC|apply zJ|refine zB ?_ (IsS139.ge HI0.out))|exact HB.out)) hb);have BK380:=zA (hbox);have GW380:=zA ((by rw [hg];exact (keep_size (w:=w) (g:=g) (row:=none) (by repeat (first|(with_reducible first|exact HK.out|apply KeepBut.set_|apply keep_drewN|apply keep_drew|apply keep_alloc)|exact HK.out))) : w.heap.size ≤ gb380));have GE380:=zA ((Nat.le_trans HW0.out (by rw [hg];exact (keep_size (w:=w) (g:=g) (row:=none) (by repeat (first|(with_reducible first|exact HK.out|apply KeepBut.set_|apply keep_drewN|apply keep_drew|apply keep_alloc)|exact HK.out))) : w.heap.size ≤ gb380) : w0.heap.size ≤ gb380));replace HK:=zA (KeepBut.trans (by repeat (first|(with_reducible first|exact HK.out|apply KeepBut.set_|apply keep_drewN|apply keep_drew|apply keep_alloc)|exact HK.out)) (KeepBut.of_below hb g none) (.inl rfl));have NB0_380:=zA ((by rw [hg];exact Nat.ne_of_lt (IsS139.lt (show IsS139 w0 _ g s0_0 s0_1 s0_2 from by repeat (first|(with_reducible first|exact HI0.out|apply IsS139.alloc|apply IsS139.drewN|apply IsS139.drew|apply IsS139.set_1|apply IsS139.set_2)|exact HI0.out))) : g ≠ gb380));have NB380_0:=zA ((by rw [hg];exact Nat.ne_of_gt (IsS139.lt (show IsS139 w0 _ g s0_0 s0_1 s0_2 from by repeat (first|(with_reducible first|exact HI0.out|apply IsS139.alloc|apply IsS139.drewN|apply IsS139.drew|apply IsS139.set_1|apply IsS139.set_2)|exact HI0.out))) : gb380 ≠ g));replace HI0:=zA (IsS139.below (by repeat (first|(with_reducible first|exact HI0.out|apply IsS139.alloc|apply IsS139.drewN|apply IsS139.drew|apply IsS139.set_1|apply IsS139.set_2)|exact HI0.out)) hb);clear hb hbox hg)|((with_reducible refine gate_callee (f:=155) rfl ?_);refine goesL_ (some 5) rfl rfl Try.func155 (by kernel_rfl) rfl #[.pointer (some ⟨g,0,none⟩)] rfl (by (try simp only [zCb,zMb,zNb]);first|done|rfl|(simp only [zLb,zDb];rfl)) ?_;(with_reducible refine (spec_l3Schema.calls k g s0_0 s0_1 s0_2 t381 t384 t385 w0 _ ?side1 ?side2 A2.out).mono ?_);(case side1 => repeat (first|(with_reducible first|exact HI0.out|apply IsS139.alloc|apply IsS139.drewN|apply IsS139.drew|apply IsS139.set_1|apply IsS139.set_2|refine IsS139.far ?_ NB0_380.out _)|exact HI0.out));(case side2 => repeat (first|(with_reducible first|exact HB.out|apply zK|apply zC|apply zJ|refine zB ?_ (IsS139.ge HI0.out)|refine zB ?_ GE380.out)|exact HB.out));rintro e w28 ⟨v382,rfl,ho0,hi,hb,hk⟩;refine ⟨_,rfl,?_⟩;replace BK380:=zA (KeepBut.blk hk (g':=gb380) (o:=.cells #[.slice none 0 0] 34 (0,0)) (zx BK380) NB380_0.out (by simp));have HO383:=zA (zHb ho0 (keep_size (w:=w) (g:=g) (row:=none) (by repeat (first|(with_reducible first|exact HK.out|apply KeepBut.set_|apply keep_drewN|apply keep_drew|apply keep_alloc|refine keep_far ?_ GW380.out _)|exact HK.out))));replace HK:=zA (KeepBut.trans (by repeat (first|(with_reducible first|exact HK.out|apply KeepBut.set_|apply keep_drewN|apply keep_drew|apply keep_alloc|refine keep_far ?_ GW380.out _)|exact HK.out)) hk (.inl rfl));replace HB:=zA (hb);replace HI0:=zA (hi);(try clear hb);(try clear hb2);(try clear hk);(try clear hi);(try clear ho0))|((with_reducible refine gate_dst (N:=3) rfl ?_);refine box_event ?hg (N:=3) ?hd (cs:=#[.slice none 0 0]) (t:=34) ?hr ?_;(case hd => rfl);(case hg => rfl);(case hr => first|(go_simp;done)|(go_simp;rfl));intro gb386 hg w29 hbox hb;replace HO383:=zA (zZ (zq HO383) hb);replace HB:=zA (zJb (by repeat (first|(with_reducible first|exact HB.out|apply zK|apply zC|apply zJ|refine zB ?_ (IsS139.ge HI0.out)|refine zB ?_ GE380.out)|exact HB.out)) hb);have BK386:=zA (hbox);have GW386:=zA ((by rw [hg];exact (keep_size (w:=w) (g:=g) (row:=none) (by repeat (first|(with_reducible first|exact HK.out|apply KeepBut.set_|apply keep_drewN|apply keep_drew|apply keep_alloc|refine keep_far ?_ GW380.out _)|exact HK.out))) : w.heap.size ≤ gb386));have GE386:=zA ((Nat.le_trans HW0.out (by rw [hg];exact (keep_size (w:=w) (g:=g) (row:=none) (by repeat (first|(with_reducible first|exact HK.out|apply KeepBut.set_|apply keep_drewN|apply keep_drew|apply keep_alloc|refine keep_far ?_ GW380.out _)|exact HK.out))) : w.heap.size ≤ gb386) : w0.heap.size ≤ gb386));replace HK:=zA (KeepBut.trans (by repeat (first|(with_reducible first|exact HK.out|apply KeepBut.set_|apply keep_drewN|apply keep_drew|apply keep_alloc|refine keep_far ?_ GW380.out _)|exact HK.out)) (KeepBut.of_below hb g none) (.inl rfl));have NB380_386:=zA ((by rw [hg];exact Nat.ne_of_lt (blk_lt (g:=gb380) (o:=.cells #[.slice none 0 0] 34 (0,0)) (zx BK380)) : gb380 ≠ gb386));have NB386_380:=zA ((by rw [hg];exact Nat.ne_of_gt (blk_lt (g:=gb380) (o:=.cells #[.slice none 0 0] 34 (0,0)) (zx BK380)) : gb386 ≠ gb380));replace BK380:=zA (zQ (g:=gb380) (o:=.cells #[.slice none 0 0] 34 (0,0)) (zx BK380) hb);have NB0_386:=zA ((by rw [hg];exact Nat.ne_of_lt (IsS139.lt (show IsS139 w0 _ g s0_0 t384 t385 from by repeat (first|(with_reducible first|exact HI0.out|apply IsS139.alloc|apply IsS139.drewN|apply IsS139.drew|apply IsS139.set_1|apply IsS139.set_2|refine IsS139.far ?_ NB0_380.out _)|exact HI0.out))) : g ≠ gb386));have NB386_0:=zA ((by rw [hg];exact Nat.ne_of_gt (IsS139.lt (show IsS139 w0 _ g s0_0 t384 t385 from by repeat (first|(with_reducible first|exact HI0.out|apply IsS139.alloc|apply IsS139.drewN|apply IsS139.drew|apply IsS139.set_1|apply IsS139.set_2|refine IsS139.far ?_ NB0_380.out _)|exact HI0.out))) : gb386 ≠ g));replace HI0:=zA (IsS139.below (by repeat (first|(with_reducible first|exact HI0.out|apply IsS139.alloc|apply IsS139.drewN|apply IsS139.drew|apply IsS139.set_1|apply IsS139.set_2|refine IsS139.far ?_ NB0_380.out _)|exact HI0.out)) hb);clear hb hbox hg;obtain ⟨Ao30,co30,eo30⟩:=Kd.R_slice HO383.out;subst eo30;have hnb31:=NB386_380.out;have hnc31:=NB380_386.out;have hnb32:=NB386_0.out;have hnc32:=NB0_386.out;have hcz33_0:=zc (.slice none 0 0) BK386 0 rfl;have hfz33_0:=blk_frozen BK386.out 0)|((with_reducible refine gate_callee (f:=89) rfl ?_);refine goesL_ (some 7) rfl rfl Try.func89 (by kernel_rfl) rfl #[.pointer (some ⟨g,0,none⟩),.int .i64 10] rfl (by (try simp only [zCb,zMb,zNb]);first|done|rfl|(simp only [zLb,zDb];rfl)) ?_;(with_reducible refine (spec_l1Below.calls g s0_0 t384 t385 10 t387 t388 t389 w0 _ ?side1 ?side2 A3.out).mono ?_);(case side1 => repeat (first|(with_reducible first|exact HI0.out|apply IsS139.alloc|apply IsS139.drewN|apply IsS139.drew|apply IsS139.set_1|apply IsS139.set_2|refine IsS139.far ?_ NB0_380.out _|refine IsS139.far ?_ NB0_386.out _)|exact HI0.out));(case side2 => repeat (first|(with_reducible first|exact HB.out|apply zK|apply zC|apply zJ|refine zB ?_ (IsS139.ge HI0.out)|refine zB ?_ GE380.out|refine zB ?_ GE386.out)|exact HB.out));rintro e w34 ⟨rfl,hi,hb,hk⟩;refine ⟨_,rfl,?_⟩;replace BK380:=zA (KeepBut.blk hk (g':=gb380) (o:=.cells #[.slice none 0 0] 34 (0,0)) (by (with_reducible repeat (first|refine zF ?_ _|refine zI ?_|refine zG ?_ _));refine zUb ?_ NB380_386.out _;(with_reducible repeat (first|refine zF ?_ _|refine zI ?_|refine zG ?_ _));exact BK380.out) NB380_0.out (by simp));replace HO383:=zA (zGb (Kd.R_keep (IsS139.apart (show IsS139 w0 _ g s0_0 t384 t385 from by repeat (first|(with_reducible first|exact HI0.out|apply IsS139.alloc|apply IsS139.drewN|apply IsS139.drew|apply IsS139.set_1|apply IsS139.set_2|refine IsS139.far ?_ NB0_380.out _|refine IsS139.far ?_ NB0_386.out _)|exact HI0.out)) (by (with_reducible repeat (first|apply zE|apply zD|apply zH));exact (zGb (zR (p:=⟨gb386,0,none⟩) (Kd.R_types HO383.out BK386.out (by decide)) (fun _ hk => hk.2) (.slice Ao30 t381.length co30)) (fun _ h_ => h_.1))) (by decide)) hk (fun _ h => h.2)) (fun _ h => h.1));replace BK386:=zA (KeepBut.blk hk (g':=gb386) (o:=.cells #[.slice Ao30 t381.length co30] 34 (0,0)) (by (with_reducible repeat (first|refine zF ?_ _|refine zI ?_|refine zG ?_ _));refine blk_put (cs:=#[.slice none 0 0]) ?_ 0 _ rfl;(with_reducible repeat (first|refine zF ?_ _|refine zI ?_|refine zG ?_ _));exact BK386.out) NB386_0.out (by simp));replace HK:=zA (KeepBut.trans (by repeat (first|(with_reducible first|exact HK.out|apply KeepBut.set_|apply keep_drewN|apply keep_drew|apply keep_alloc|refine keep_far ?_ GW380.out _|refine keep_far ?_ GW386.out _)|exact HK.out)) hk (.inl rfl));replace HB:=zA (hb);replace HI0:=zA (hi);(try clear hb);(try clear hb2);(try clear hk);(try clear hi);have hcz35_0:=zc (.slice Ao30 t381.length co30) BK386 0 rfl;have hfz35_0:=blk_frozen BK386.out 0;have hnb36:=NB380_0.out;have hnc36:=NB0_380.out;have hcz37_0:=zc (.slice none 0 0) BK380 0 rfl;have hfz37_0:=blk_frozen BK380.out 0))
   refine bodyPost_ret (results_cell_row rfl _ _ gb380 34 #[.slice none 0 0] (0,0) _ rfl (by (with_reducible repeat (first|refine zF ?_ _|refine zI ?_|refine zG ?_ _));refine blk_put (cs:=#[.slice none 0 0]) ?_ 0 _ rfl;(with_reducible repeat (first|refine zF ?_ _|refine zI ?_|refine zG ?_ _));refine zUb ?_ NB380_386.out _;(with_reducible repeat (first|refine zF ?_ _|refine zI ?_|refine zG ?_ _));exact BK380.out) Try.underlying34 rfl (by kernel_rfl)) rfl ?_
   exact ⟨_,by first|rfl|(simp [errW_none,errW_some] <;> rfl)|(simp [*,errW_none,errW_some] <;> rfl),by first|exact Kd.R_nil _ _ _ _ _|exact Kd.N_nil _ _ _ _ _|exact Kd.V_nil _ _ _ _ _|exact Kd.Q_nil _ _ _ _ _|exact Kd.S_nil _ _ _ _ _,by repeat (first|(with_reducible first|exact HI0.out|apply IsS139.alloc|apply IsS139.drewN|apply IsS139.drew|apply IsS139.set_1|apply IsS139.set_2|refine IsS139.far ?_ NB0_380.out _|refine IsS139.far ?_ NB0_386.out _)|exact HI0.out),by repeat (first|(with_reducible first|exact HB.out|apply zK|apply zC|apply zJ|refine zB ?_ (IsS139.ge HI0.out)|refine zB ?_ GE380.out|refine zB ?_ GE386.out)|exact HB.out),by repeat (first|(with_reducible first|exact HK.out|apply KeepBut.set_|apply keep_drewN|apply keep_drew|apply keep_alloc|refine keep_far ?_ GW380.out _|refine keep_far ?_ GW386.out _)|exact HK.out)⟩
  ·
   rw [if_neg c26] at H;have c26b0:=beq_eq_false_iff_ne.mpr c26;have c26b1:=bne_iff_ne.mpr c26
   by_cases c38 : t387 = 2
   ·
    rw [if_pos c38] at H;have c38b0:=beq_iff_eq.mpr c38;have c38b1:=bne_eq_false_iff_eq.mpr c38;clear c38;obtain ⟨y399,hy399⟩ : ∃ y_ : List Int,y_ = (([1,2,3,1,2] : List Int)):=⟨_,rfl⟩
    replace H : (some (y399,t388,t389)) = some (r1,r2,r3):=by first|(rw [hy399];with_reducible exact H)|(have H2_:=(Option.bind_some _ _).symm.trans H;rw [hy399];with_reducible exact H2_)|(have H2_:=(Option.bind_some _ _).symm.trans H;with_reducible exact H2_)|with_reducible exact H|(rw [hy399];exact H)|exact H
    have Ny399:=zA hy399;clear hy399;simp only [Option.some.injEq,Prod.mk.injEq] at H;obtain ⟨rfl,rfl,rfl⟩:=H
    go_enter Try.func121,Try.ntmps121
    go_wp2_with (first|((with_reducible refine gate_dst (N:=2) rfl ?_);refine box_event ?hg (N:=2) ?hd (cs:=#[.slice none 0 0]) (t:=34) ?hr ?_;(case hd => rfl);(case hg => rfl);(case hr => first|(go_simp;done)|(go_simp;rfl));intro gb380 hg w39 hbox hb;replace HB:=zA (zJb (by repeat (first|(with_reducible first|exact HB.out|apply zK|apply zC|apply zJ|refine zB ?_ (IsS139.ge HI0.out))|exact HB.out)) hb);have BK380:=zA (hbox);have GW380:=zA ((by rw [hg];exact (keep_size (w:=w) (g:=g) (row:=none) (by repeat (first|(with_reducible first|exact HK.out|apply KeepBut.set_|apply keep_drewN|apply keep_drew|apply keep_alloc)|exact HK.out))) : w.heap.size ≤ gb380));have GE380:=zA ((Nat.le_trans HW0.out (by rw [hg];exact (keep_size (w:=w) (g:=g) (row:=none) (by repeat (first|(with_reducible first|exact HK.out|apply KeepBut.set_|apply keep_drewN|apply keep_drew|apply keep_alloc)|exact HK.out))) : w.heap.size ≤ gb380) : w0.heap.size ≤ gb380));replace HK:=zA (KeepBut.trans (by repeat (first|(with_reducible first|exact HK.out|apply KeepBut.set_|apply keep_drewN|apply keep_drew|apply keep_alloc)|exact HK.out)) (KeepBut.of_below hb g none) (.inl rfl));have NB0_380:=zA ((by rw [hg];exact Nat.ne_of_lt (IsS139.lt (show IsS139 w0 _ g s0_0 s0_1 s0_2 from by repeat (first|(with_reducible first|exact HI0.out|apply IsS139.alloc|apply IsS139.drewN|apply IsS139.drew|apply IsS139.set_1|apply IsS139.set_2)|exact HI0.out))) : g ≠ gb380));have NB380_0:=zA ((by rw [hg];exact Nat.ne_of_gt (IsS139.lt (show IsS139 w0 _ g s0_0 s0_1 s0_2 from by repeat (first|(with_reducible first|exact HI0.out|apply IsS139.alloc|apply IsS139.drewN|apply IsS139.drew|apply IsS139.set_1|apply IsS139.set_2)|exact HI0.out))) : gb380 ≠ g));replace HI0:=zA (IsS139.below (by repeat (first|(with_reducible first|exact HI0.out|apply IsS139.alloc|apply IsS139.drewN|apply IsS139.drew|apply IsS139.set_1|apply IsS139.set_2)|exact HI0.out)) hb);clear hb hbox hg)|((with_reducible refine gate_callee (f:=155) rfl ?_);refine goesL_ (some 5) rfl rfl Try.func155 (by kernel_rfl) rfl #[.pointer (some ⟨g,0,none⟩)] rfl (by (try simp only [zCb,zMb,zNb]);first|done|rfl|(simp only [zLb,zDb];rfl)) ?_;(with_reducible refine (spec_l3Schema.calls k g s0_0 s0_1 s0_2 t381 t384 t385 w0 _ ?side1 ?side2 A2.out).mono ?_);(case side1 => repeat (first|(with_reducible first|exact HI0.out|apply IsS139.alloc|apply IsS139.drewN|apply IsS139.drew|apply IsS139.set_1|apply IsS139.set_2|refine IsS139.far ?_ NB0_380.out _)|exact HI0.out));(case side2 => repeat (first|(with_reducible first|exact HB.out|apply zK|apply zC|apply zJ|refine zB ?_ (IsS139.ge HI0.out)|refine zB ?_ GE380.out)|exact HB.out));rintro e w40 ⟨v382,rfl,ho0,hi,hb,hk⟩;refine ⟨_,rfl,?_⟩;replace BK380:=zA (KeepBut.blk hk (g':=gb380) (o:=.cells #[.slice none 0 0] 34 (0,0)) (zx BK380) NB380_0.out (by simp));have HO383:=zA (zHb ho0 (keep_size (w:=w) (g:=g) (row:=none) (by repeat (first|(with_reducible first|exact HK.out|apply KeepBut.set_|apply keep_drewN|apply keep_drew|apply keep_alloc|refine keep_far ?_ GW380.out _)|exact HK.out))));replace HK:=zA (KeepBut.trans (by repeat (first|(with_reducible first|exact HK.out|apply KeepBut.set_|apply keep_drewN|apply keep_drew|apply keep_alloc|refine keep_far ?_ GW380.out _)|exact HK.out)) hk (.inl rfl));replace HB:=zA (hb);replace HI0:=zA (hi);(try clear hb);(try clear hb2);(try clear hk);(try clear hi);(try clear ho0))|((with_reducible refine gate_dst (N:=3) rfl ?_);refine box_event ?hg (N:=3) ?hd (cs:=#[.slice none 0 0]) (t:=34) ?hr ?_;(case hd => rfl);(case hg => rfl);(case hr => first|(go_simp;done)|(go_simp;rfl));intro gb386 hg w41 hbox hb;replace HO383:=zA (zZ (zq HO383) hb);replace HB:=zA (zJb (by repeat (first|(with_reducible first|exact HB.out|apply zK|apply zC|apply zJ|refine zB ?_ (IsS139.ge HI0.out)|refine zB ?_ GE380.out)|exact HB.out)) hb);have BK386:=zA (hbox);have GW386:=zA ((by rw [hg];exact (keep_size (w:=w) (g:=g) (row:=none) (by repeat (first|(with_reducible first|exact HK.out|apply KeepBut.set_|apply keep_drewN|apply keep_drew|apply keep_alloc|refine keep_far ?_ GW380.out _)|exact HK.out))) : w.heap.size ≤ gb386));have GE386:=zA ((Nat.le_trans HW0.out (by rw [hg];exact (keep_size (w:=w) (g:=g) (row:=none) (by repeat (first|(with_reducible first|exact HK.out|apply KeepBut.set_|apply keep_drewN|apply keep_drew|apply keep_alloc|refine keep_far ?_ GW380.out _)|exact HK.out))) : w.heap.size ≤ gb386) : w0.heap.size ≤ gb386));replace HK:=zA (KeepBut.trans (by repeat (first|(with_reducible first|exact HK.out|apply KeepBut.set_|apply keep_drewN|apply keep_drew|apply keep_alloc|refine keep_far ?_ GW380.out _)|exact HK.out)) (KeepBut.of_below hb g none) (.inl rfl));have NB380_386:=zA ((by rw [hg];exact Nat.ne_of_lt (blk_lt (g:=gb380) (o:=.cells #[.slice none 0 0] 34 (0,0)) (zx BK380)) : gb380 ≠ gb386));have NB386_380:=zA ((by rw [hg];exact Nat.ne_of_gt (blk_lt (g:=gb380) (o:=.cells #[.slice none 0 0] 34 (0,0)) (zx BK380)) : gb386 ≠ gb380));replace BK380:=zA (zQ (g:=gb380) (o:=.cells #[.slice none 0 0] 34 (0,0)) (zx BK380) hb);have NB0_386:=zA ((by rw [hg];exact Nat.ne_of_lt (IsS139.lt (show IsS139 w0 _ g s0_0 t384 t385 from by repeat (first|(with_reducible first|exact HI0.out|apply IsS139.alloc|apply IsS139.drewN|apply IsS139.drew|apply IsS139.set_1|apply IsS139.set_2|refine IsS139.far ?_ NB0_380.out _)|exact HI0.out))) : g ≠ gb386));have NB386_0:=zA ((by rw [hg];exact Nat.ne_of_gt (IsS139.lt (show IsS139 w0 _ g s0_0 t384 t385 from by repeat (first|(with_reducible first|exact HI0.out|apply IsS139.alloc|apply IsS139.drewN|apply IsS139.drew|apply IsS139.set_1|apply IsS139.set_2|refine IsS139.far ?_ NB0_380.out _)|exact HI0.out))) : gb386 ≠ g));replace HI0:=zA (IsS139.below (by repeat (first|(with_reducible first|exact HI0.out|apply IsS139.alloc|apply IsS139.drewN|apply IsS139.drew|apply IsS139.set_1|apply IsS139.set_2|refine IsS139.far ?_ NB0_380.out _)|exact HI0.out)) hb);clear hb hbox hg;obtain ⟨Ao42,co42,eo42⟩:=Kd.R_slice HO383.out;subst eo42;have hnb43:=NB386_380.out;have hnc43:=NB380_386.out;have hnb44:=NB386_0.out;have hnc44:=NB0_386.out;have hcz45_0:=zc (.slice none 0 0) BK386 0 rfl;have hfz45_0:=blk_frozen BK386.out 0)|((with_reducible refine gate_callee (f:=89) rfl ?_);refine goesL_ (some 7) rfl rfl Try.func89 (by kernel_rfl) rfl #[.pointer (some ⟨g,0,none⟩),.int .i64 10] rfl (by (try simp only [zCb,zMb,zNb]);first|done|rfl|(simp only [zLb,zDb];rfl)) ?_;(with_reducible refine (spec_l1Below.calls g s0_0 t384 t385 10 t387 t388 t389 w0 _ ?side1 ?side2 A3.out).mono ?_);(case side1 => repeat (first|(with_reducible first|exact HI0.out|apply IsS139.alloc|apply IsS139.drewN|apply IsS139.drew|apply IsS139.set_1|apply IsS139.set_2|refine IsS139.far ?_ NB0_380.out _|refine IsS139.far ?_ NB0_386.out _)|exact HI0.out));(case side2 => repeat (first|(with_reducible first|exact HB.out|apply zK|apply zC|apply zJ|refine zB ?_ (IsS139.ge HI0.out)|refine zB ?_ GE380.out|refine zB ?_ GE386.out)|exact HB.out));rintro e w46 ⟨rfl,hi,hb,hk⟩;refine ⟨_,rfl,?_⟩;replace BK380:=zA (KeepBut.blk hk (g':=gb380) (o:=.cells #[.slice none 0 0] 34 (0,0)) (by (with_reducible repeat (first|refine zF ?_ _|refine zI ?_|refine zG ?_ _));refine zUb ?_ NB380_386.out _;(with_reducible repeat (first|refine zF ?_ _|refine zI ?_|refine zG ?_ _));exact BK380.out) NB380_0.out (by simp));replace HO383:=zA (zGb (Kd.R_keep (IsS139.apart (show IsS139 w0 _ g s0_0 t384 t385 from by repeat (first|(with_reducible first|exact HI0.out|apply IsS139.alloc|apply IsS139.drewN|apply IsS139.drew|apply IsS139.set_1|apply IsS139.set_2|refine IsS139.far ?_ NB0_380.out _|refine IsS139.far ?_ NB0_386.out _)|exact HI0.out)) (by (with_reducible repeat (first|apply zE|apply zD|apply zH));exact (zGb (zR (p:=⟨gb386,0,none⟩) (Kd.R_types HO383.out BK386.out (by decide)) (fun _ hk => hk.2) (.slice Ao42 t381.length co42)) (fun _ h_ => h_.1))) (by decide)) hk (fun _ h => h.2)) (fun _ h => h.1));replace BK386:=zA (KeepBut.blk hk (g':=gb386) (o:=.cells #[.slice Ao42 t381.length co42] 34 (0,0)) (by (with_reducible repeat (first|refine zF ?_ _|refine zI ?_|refine zG ?_ _));refine blk_put (cs:=#[.slice none 0 0]) ?_ 0 _ rfl;(with_reducible repeat (first|refine zF ?_ _|refine zI ?_|refine zG ?_ _));exact BK386.out) NB386_0.out (by simp));replace HK:=zA (KeepBut.trans (by repeat (first|(with_reducible first|exact HK.out|apply KeepBut.set_|apply keep_drewN|apply keep_drew|apply keep_alloc|refine keep_far ?_ GW380.out _|refine keep_far ?_ GW386.out _)|exact HK.out)) hk (.inl rfl));replace HB:=zA (hb);replace HI0:=zA (hi);(try clear hb);(try clear hb2);(try clear hk);(try clear hi))|((with_reducible refine gate_dst (N:=23) rfl ?_);refine Kd.R_lit (Kd.int .i64) _ 3 ?hg (N:=23) ?hd (xs:=([1,2,3,1,2] : List Int)) (inner:=[.int .i64 1,.int .i64 2,.int .i64 3,.int .i64 1,.int .i64 2]) (ok:=fun _ => True) (okp:=fun _ => True) ?hr ?hp (fun _ hk => hk) trivial (Below.refl _ _) (Nat.le_refl _) (by simp) ?_;(case hd => rfl);(case hg => rfl);(case hr => first|(go_simp;done)|(go_simp;rfl));(case hp => exact (Reps.one (show Kd.M (Kd.int .i64) _ _ _ 1 [.int .i64 1] from rfl) (Reps.one (show Kd.M (Kd.int .i64) _ _ _ 2 [.int .i64 2] from rfl) (Reps.one (show Kd.M (Kd.int .i64) _ _ _ 3 [.int .i64 3] from rfl) (Reps.one (show Kd.M (Kd.int .i64) _ _ _ 1 [.int .i64 1] from rfl) (Reps.one (show Kd.M (Kd.int .i64) _ _ _ 2 [.int .i64 2] from rfl) (Reps.none _ _)))))));intro v400 w47 ho48 hb hg_ hnew_;clear hg_ hnew_;(first|rw [← Ny399.out] at ho48|(simp only [Int.reduceToNat] at ho48;rw [← Ny399.out] at ho48));have HO401:=zA (zHb (zQb ho48 (zOb (zq HO383))) (keep_size (w:=w) (g:=g) (row:=none) (by repeat (first|(with_reducible first|exact HK.out|apply KeepBut.set_|apply keep_drewN|apply keep_drew|apply keep_alloc|refine keep_far ?_ GW380.out _|refine keep_far ?_ GW386.out _)|exact HK.out))));replace HO383:=zA (zTb (zq HO383) (zW ho48) hb);replace BK380:=zA (zQ (g:=gb380) (o:=.cells #[.slice none 0 0] 34 (0,0)) (zx BK380) hb);replace BK386:=zA (zQ (g:=gb386) (o:=.cells #[.slice Ao42 t381.length co42] 34 (0,0)) (zx BK386) hb);replace HK:=zA (KeepBut.trans (by repeat (first|(with_reducible first|exact HK.out|apply KeepBut.set_|apply keep_drewN|apply keep_drew|apply keep_alloc|refine keep_far ?_ GW380.out _|refine keep_far ?_ GW386.out _)|exact HK.out)) (KeepBut.of_below hb g none) (.inl rfl));replace HB:=zA (zJb (by repeat (first|(with_reducible first|exact HB.out|apply zK|apply zC|apply zJ|refine zB ?_ (IsS139.ge HI0.out)|refine zB ?_ GE380.out|refine zB ?_ GE386.out)|exact HB.out)) hb);replace HI0:=zA (IsS139.below (by repeat (first|(with_reducible first|exact HI0.out|apply IsS139.alloc|apply IsS139.drewN|apply IsS139.drew|apply IsS139.set_1|apply IsS139.set_2|refine IsS139.far ?_ NB0_380.out _|refine IsS139.far ?_ NB0_386.out _)|exact HI0.out)) hb);clear hb ho48;obtain ⟨Ao49,co49,eo49⟩:=Kd.R_slice HO401.out;subst eo49;have hcz50_0:=zc (.slice Ao42 t381.length co42) BK386 0 rfl;have hfz50_0:=blk_frozen BK386.out 0;have hnb51:=NB380_0.out;have hnc51:=NB0_380.out;have hcz52_0:=zc (.slice none 0 0) BK380 0 rfl;have hfz52_0:=blk_frozen BK380.out 0))
    refine bodyPost_ret (results_cell_row rfl _ _ gb380 34 #[.slice Ao49 y399.length co49] (0,0) _ rfl (by (with_reducible repeat (first|refine zF ?_ _|refine zI ?_|refine zG ?_ _));refine blk_put (cs:=#[.slice none 0 0]) ?_ 0 _ rfl;(with_reducible repeat (first|refine zF ?_ _|refine zI ?_|refine zG ?_ _));refine zUb ?_ NB380_386.out _;(with_reducible repeat (first|refine zF ?_ _|refine zI ?_|refine zG ?_ _));exact BK380.out) Try.underlying34 rfl (by kernel_rfl)) rfl ?_
    exact ⟨_,by first|rfl|(simp [errW_none,errW_some] <;> rfl)|(simp [*,errW_none,errW_some] <;> rfl),by (with_reducible repeat (first|apply zE|apply zD|apply zH));exact zGb (zR (p:=⟨gb380,0,none⟩) (zR (p:=⟨gb386,0,none⟩) (Kd.R_types (Kd.R_types HO401.out BK386.out (by decide)) BK380.out (by decide)) (fun _ hk => hk.1.2) (.slice Ao49 y399.length co49)) (fun _ hk => hk.2) (.slice Ao49 y399.length co49)) (fun _ hk => trivial),by repeat (first|(with_reducible first|exact HI0.out|apply IsS139.alloc|apply IsS139.drewN|apply IsS139.drew|apply IsS139.set_1|apply IsS139.set_2|refine IsS139.far ?_ NB0_380.out _|refine IsS139.far ?_ NB0_386.out _)|exact HI0.out),by repeat (first|(with_reducible first|exact HB.out|apply zK|apply zC|apply zJ|refine zB ?_ (IsS139.ge HI0.out)|refine zB ?_ GE380.out|refine zB ?_ GE386.out)|exact HB.out),by repeat (first|(with_reducible first|exact HK.out|apply KeepBut.set_|apply keep_drewN|apply keep_drew|apply keep_alloc|refine keep_far ?_ GW380.out _|refine keep_far ?_ GW386.out _)|exact HK.out)⟩
   ·
    rw [if_neg c38] at H;have c38b0:=beq_eq_false_iff_ne.mpr c38;have c38b1:=bne_iff_ne.mpr c38;simp only [Option.some.injEq,Prod.mk.injEq] at H;obtain ⟨rfl,rfl,rfl⟩:=H
    go_enter Try.func121,Try.ntmps121
    go_wp2_with (first|((with_reducible refine gate_dst (N:=2) rfl ?_);refine box_event ?hg (N:=2) ?hd (cs:=#[.slice none 0 0]) (t:=34) ?hr ?_;(case hd => rfl);(case hg => rfl);(case hr => first|(go_simp;done)|(go_simp;rfl));intro gb380 hg w53 hbox hb;replace HB:=zA (zJb (by repeat (first|(with_reducible first|exact HB.out|apply zK|apply zC|apply zJ|refine zB ?_ (IsS139.ge HI0.out))|exact HB.out)) hb);have BK380:=zA (hbox);have GW380:=zA ((by rw [hg];exact (keep_size (w:=w) (g:=g) (row:=none) (by repeat (first|(with_reducible first|exact HK.out|apply KeepBut.set_|apply keep_drewN|apply keep_drew|apply keep_alloc)|exact HK.out))) : w.heap.size ≤ gb380));have GE380:=zA ((Nat.le_trans HW0.out (by rw [hg];exact (keep_size (w:=w) (g:=g) (row:=none) (by repeat (first|(with_reducible first|exact HK.out|apply KeepBut.set_|apply keep_drewN|apply keep_drew|apply keep_alloc)|exact HK.out))) : w.heap.size ≤ gb380) : w0.heap.size ≤ gb380));replace HK:=zA (KeepBut.trans (by repeat (first|(with_reducible first|exact HK.out|apply KeepBut.set_|apply keep_drewN|apply keep_drew|apply keep_alloc)|exact HK.out)) (KeepBut.of_below hb g none) (.inl rfl));have NB0_380:=zA ((by rw [hg];exact Nat.ne_of_lt (IsS139.lt (show IsS139 w0 _ g s0_0 s0_1 s0_2 from by repeat (first|(with_reducible first|exact HI0.out|apply IsS139.alloc|apply IsS139.drewN|apply IsS139.drew|apply IsS139.set_1|apply IsS139.set_2)|exact HI0.out))) : g ≠ gb380));have NB380_0:=zA ((by rw [hg];exact Nat.ne_of_gt (IsS139.lt (show IsS139 w0 _ g s0_0 s0_1 s0_2 from by repeat (first|(with_reducible first|exact HI0.out|apply IsS139.alloc|apply IsS139.drewN|apply IsS139.drew|apply IsS139.set_1|apply IsS139.set_2)|exact HI0.out))) : gb380 ≠ g));replace HI0:=zA (IsS139.below (by repeat (first|(with_reducible first|exact HI0.out|apply IsS139.alloc|apply IsS139.drewN|apply IsS139.drew|apply IsS139.set_1|apply IsS139.set_2)|exact HI0.out)) hb);clear hb hbox hg)|((with_reducible refine gate_callee (f:=155) rfl ?_);refine goesL_ (some 5) rfl rfl Try.func155 (by kernel_rfl) rfl #[.pointer (some ⟨g,0,none⟩)] rfl (by (try simp only [zCb,zMb,zNb]);first|done|rfl|(simp only [zLb,zDb];rfl)) ?_;(with_reducible refine (spec_l3Schema.calls k g s0_0 s0_1 s0_2 t381 t384 t385 w0 _ ?side1 ?side2 A2.out).mono ?_);(case side1 => repeat (first|(with_reducible first|exact HI0.out|apply IsS139.alloc|apply IsS139.drewN|apply IsS139.drew|apply IsS139.set_1|apply IsS139.set_2|refine IsS139.far ?_ NB0_380.out _)|exact HI0.out));(case side2 => repeat (first|(with_reducible first|exact HB.out|apply zK|apply zC|apply zJ|refine zB ?_ (IsS139.ge HI0.out)|refine zB ?_ GE380.out)|exact HB.out));rintro e w54 ⟨v382,rfl,ho0,hi,hb,hk⟩;refine ⟨_,rfl,?_⟩;replace BK380:=zA (KeepBut.blk hk (g':=gb380) (o:=.cells #[.slice none 0 0] 34 (0,0)) (zx BK380) NB380_0.out (by simp));have HO383:=zA (zHb ho0 (keep_size (w:=w) (g:=g) (row:=none) (by repeat (first|(with_reducible first|exact HK.out|apply KeepBut.set_|apply keep_drewN|apply keep_drew|apply keep_alloc|refine keep_far ?_ GW380.out _)|exact HK.out))));replace HK:=zA (KeepBut.trans (by repeat (first|(with_reducible first|exact HK.out|apply KeepBut.set_|apply keep_drewN|apply keep_drew|apply keep_alloc|refine keep_far ?_ GW380.out _)|exact HK.out)) hk (.inl rfl));replace HB:=zA (hb);replace HI0:=zA (hi);(try clear hb);(try clear hb2);(try clear hk);(try clear hi);(try clear ho0))|((with_reducible refine gate_dst (N:=3) rfl ?_);refine box_event ?hg (N:=3) ?hd (cs:=#[.slice none 0 0]) (t:=34) ?hr ?_;(case hd => rfl);(case hg => rfl);(case hr => first|(go_simp;done)|(go_simp;rfl));intro gb386 hg w55 hbox hb;replace HO383:=zA (zZ (zq HO383) hb);replace HB:=zA (zJb (by repeat (first|(with_reducible first|exact HB.out|apply zK|apply zC|apply zJ|refine zB ?_ (IsS139.ge HI0.out)|refine zB ?_ GE380.out)|exact HB.out)) hb);have BK386:=zA (hbox);have GW386:=zA ((by rw [hg];exact (keep_size (w:=w) (g:=g) (row:=none) (by repeat (first|(with_reducible first|exact HK.out|apply KeepBut.set_|apply keep_drewN|apply keep_drew|apply keep_alloc|refine keep_far ?_ GW380.out _)|exact HK.out))) : w.heap.size ≤ gb386));have GE386:=zA ((Nat.le_trans HW0.out (by rw [hg];exact (keep_size (w:=w) (g:=g) (row:=none) (by repeat (first|(with_reducible first|exact HK.out|apply KeepBut.set_|apply keep_drewN|apply keep_drew|apply keep_alloc|refine keep_far ?_ GW380.out _)|exact HK.out))) : w.heap.size ≤ gb386) : w0.heap.size ≤ gb386));replace HK:=zA (KeepBut.trans (by repeat (first|(with_reducible first|exact HK.out|apply KeepBut.set_|apply keep_drewN|apply keep_drew|apply keep_alloc|refine keep_far ?_ GW380.out _)|exact HK.out)) (KeepBut.of_below hb g none) (.inl rfl));have NB380_386:=zA ((by rw [hg];exact Nat.ne_of_lt (blk_lt (g:=gb380) (o:=.cells #[.slice none 0 0] 34 (0,0)) (zx BK380)) : gb380 ≠ gb386));have NB386_380:=zA ((by rw [hg];exact Nat.ne_of_gt (blk_lt (g:=gb380) (o:=.cells #[.slice none 0 0] 34 (0,0)) (zx BK380)) : gb386 ≠ gb380));replace BK380:=zA (zQ (g:=gb380) (o:=.cells #[.slice none 0 0] 34 (0,0)) (zx BK380) hb);have NB0_386:=zA ((by rw [hg];exact Nat.ne_of_lt (IsS139.lt (show IsS139 w0 _ g s0_0 t384 t385 from by repeat (first|(with_reducible first|exact HI0.out|apply IsS139.alloc|apply IsS139.drewN|apply IsS139.drew|apply IsS139.set_1|apply IsS139.set_2|refine IsS139.far ?_ NB0_380.out _)|exact HI0.out))) : g ≠ gb386));have NB386_0:=zA ((by rw [hg];exact Nat.ne_of_gt (IsS139.lt (show IsS139 w0 _ g s0_0 t384 t385 from by repeat (first|(with_reducible first|exact HI0.out|apply IsS139.alloc|apply IsS139.drewN|apply IsS139.drew|apply IsS139.set_1|apply IsS139.set_2|refine IsS139.far ?_ NB0_380.out _)|exact HI0.out))) : gb386 ≠ g));replace HI0:=zA (IsS139.below (by repeat (first|(with_reducible first|exact HI0.out|apply IsS139.alloc|apply IsS139.drewN|apply IsS139.drew|apply IsS139.set_1|apply IsS139.set_2|refine IsS139.far ?_ NB0_380.out _)|exact HI0.out)) hb);clear hb hbox hg;obtain ⟨Ao56,co56,eo56⟩:=Kd.R_slice HO383.out;subst eo56;have hnb57:=NB386_380.out;have hnc57:=NB380_386.out;have hnb58:=NB386_0.out;have hnc58:=NB0_386.out;have hcz59_0:=zc (.slice none 0 0) BK386 0 rfl;have hfz59_0:=blk_frozen BK386.out 0)|((with_reducible refine gate_callee (f:=89) rfl ?_);refine goesL_ (some 7) rfl rfl Try.func89 (by kernel_rfl) rfl #[.pointer (some ⟨g,0,none⟩),.int .i64 10] rfl (by (try simp only [zCb,zMb,zNb]);first|done|rfl|(simp only [zLb,zDb];rfl)) ?_;(with_reducible refine (spec_l1Below.calls g s0_0 t384 t385 10 t387 t388 t389 w0 _ ?side1 ?side2 A3.out).mono ?_);(case side1 => repeat (first|(with_reducible first|exact HI0.out|apply IsS139.alloc|apply IsS139.drewN|apply IsS139.drew|apply IsS139.set_1|apply IsS139.set_2|refine IsS139.far ?_ NB0_380.out _|refine IsS139.far ?_ NB0_386.out _)|exact HI0.out));(case side2 => repeat (first|(with_reducible first|exact HB.out|apply zK|apply zC|apply zJ|refine zB ?_ (IsS139.ge HI0.out)|refine zB ?_ GE380.out|refine zB ?_ GE386.out)|exact HB.out));rintro e w60 ⟨rfl,hi,hb,hk⟩;refine ⟨_,rfl,?_⟩;replace BK380:=zA (KeepBut.blk hk (g':=gb380) (o:=.cells #[.slice none 0 0] 34 (0,0)) (by (with_reducible repeat (first|refine zF ?_ _|refine zI ?_|refine zG ?_ _));refine zUb ?_ NB380_386.out _;(with_reducible repeat (first|refine zF ?_ _|refine zI ?_|refine zG ?_ _));exact BK380.out) NB380_0.out (by simp));replace HO383:=zA (zGb (Kd.R_keep (IsS139.apart (show IsS139 w0 _ g s0_0 t384 t385 from by repeat (first|(with_reducible first|exact HI0.out|apply IsS139.alloc|apply IsS139.drewN|apply IsS139.drew|apply IsS139.set_1|apply IsS139.set_2|refine IsS139.far ?_ NB0_380.out _|refine IsS139.far ?_ NB0_386.out _)|exact HI0.out)) (by (with_reducible repeat (first|apply zE|apply zD|apply zH));exact (zGb (zR (p:=⟨gb386,0,none⟩) (Kd.R_types HO383.out BK386.out (by decide)) (fun _ hk => hk.2) (.slice Ao56 t381.length co56)) (fun _ h_ => h_.1))) (by decide)) hk (fun _ h => h.2)) (fun _ h => h.1));replace BK386:=zA (KeepBut.blk hk (g':=gb386) (o:=.cells #[.slice Ao56 t381.length co56] 34 (0,0)) (by (with_reducible repeat (first|refine zF ?_ _|refine zI ?_|refine zG ?_ _));refine blk_put (cs:=#[.slice none 0 0]) ?_ 0 _ rfl;(with_reducible repeat (first|refine zF ?_ _|refine zI ?_|refine zG ?_ _));exact BK386.out) NB386_0.out (by simp));replace HK:=zA (KeepBut.trans (by repeat (first|(with_reducible first|exact HK.out|apply KeepBut.set_|apply keep_drewN|apply keep_drew|apply keep_alloc|refine keep_far ?_ GW380.out _|refine keep_far ?_ GW386.out _)|exact HK.out)) hk (.inl rfl));replace HB:=zA (hb);replace HI0:=zA (hi);(try clear hb);(try clear hb2);(try clear hk);(try clear hi);have hcz61_0:=zc (.slice Ao56 t381.length co56) BK386 0 rfl;have hfz61_0:=blk_frozen BK386.out 0;have hnb62:=NB380_0.out;have hnc62:=NB0_380.out;have hcz63_0:=zc (.slice none 0 0) BK380 0 rfl;have hfz63_0:=blk_frozen BK380.out 0))
    refine bodyPost_ret (results_cell_row rfl _ _ gb380 34 #[.slice Ao56 t381.length co56] (0,0) _ rfl (by (with_reducible repeat (first|refine zF ?_ _|refine zI ?_|refine zG ?_ _));refine blk_put (cs:=#[.slice none 0 0]) ?_ 0 _ rfl;(with_reducible repeat (first|refine zF ?_ _|refine zI ?_|refine zG ?_ _));exact BK380.out) Try.underlying34 rfl (by kernel_rfl)) rfl ?_
    exact ⟨_,by first|rfl|(simp [errW_none,errW_some] <;> rfl)|(simp [*,errW_none,errW_some] <;> rfl),by (with_reducible repeat (first|apply zE|apply zD|apply zH));exact zGb (zR (p:=⟨gb380,0,none⟩) (Kd.R_types HO383.out BK380.out (by decide)) (fun _ hk => hk.2) (.slice Ao56 t381.length co56)) (fun _ hk => trivial),by repeat (first|(with_reducible first|exact HI0.out|apply IsS139.alloc|apply IsS139.drewN|apply IsS139.drew|apply IsS139.set_1|apply IsS139.set_2|refine IsS139.far ?_ NB0_380.out _|refine IsS139.far ?_ NB0_386.out _)|exact HI0.out),by repeat (first|(with_reducible first|exact HB.out|apply zK|apply zC|apply zJ|refine zB ?_ (IsS139.ge HI0.out)|refine zB ?_ GE380.out|refine zB ?_ GE386.out)|exact HB.out),by repeat (first|(with_reducible first|exact HK.out|apply KeepBut.set_|apply keep_drewN|apply keep_drew|apply keep_alloc|refine keep_far ?_ GW380.out _|refine keep_far ?_ GW386.out _)|exact HK.out)⟩

/-! ### spec_l5Db: function 122 -/
def spec_l5Db.l0 : Nat → List (S37) → Int → List Int → Int → Int → List Int → Option ((List (S37)) × Int × Int)
 | 0, _, _, _, _, _, _ => none
 | k + 1, x5, x6, x1000, x1001, x1002, x403000 => if x6 > 0 then ((spec_l5Fact.f k x1000 x1001 x1002 x403000).bind fun bt409 => ((spec_l5Put.f k x5 bt409.1 bt409.2.1).bind fun t415 => (spec_l5Db.l0 k t415 (wrap64 (x6 - 1)) x1000 bt409.2.2.1 bt409.2.2.2 x403000))) else (some (x5, x1001, x1002))
def spec_l5Db.f (k : Nat) (s0_0 : List Int) (s0_1 : Int) (s0_2 : Int) (l1_0 : List Int) : Option ((List (S37)) × Int × Int) := (spec_l1Below.f s0_0 s0_1 s0_2 9).bind fun bt406 => (spec_l5Db.l0 k (([] : List (S37))) bt406.1 s0_0 bt406.2.1 bt406.2.2 l1_0)
theorem spec_l5Db.mono_l : ∀ k, (∀ y0 y1 y2 y3 y4 y5, LeO (spec_l5Db.l0 k y0 y1 y2 y3 y4 y5) (spec_l5Db.l0 (k + 1) y0 y1 y2 y3 y4 y5))
 | 0 => fun _ _ _ _ _ _ r h => by simp [spec_l5Db.l0] at h
 | k + 1 => by
  have ih0:=spec_l5Db.mono_l k
  ·
   intro y0 y1 y2 y3 y4 y5
   unfold spec_l5Db.l0
   repeat' first
   | (with_reducible exact ih0 _ _ _ _ _ _)
   | (with_reducible exact spec_l5Fact.mono _ _ _ _ _)
   | (with_reducible exact spec_l5Put.mono _ _ _ _)
   | (with_reducible exact LeO.refl _)
   | (with_reducible exact LeO.none _)
   | (with_reducible refine LeO.ite ?_ ?_)
   | (with_reducible refine LeO.bind ?_ (fun _ => ?_))
   | exact ih0 _ _ _ _ _ _
   | exact LeO.none _
   | refine LeO.ite ?_ ?_
   | refine LeO.bind ?_ (fun _ => ?_)
theorem spec_l5Db.mono : ∀ a0 a1 a2 a3 k, LeO (spec_l5Db.f k a0 a1 a2 a3) (spec_l5Db.f (k + 1) a0 a1 a2 a3) := by
 intro a0 a1 a2 a3 k
 have ih0:=spec_l5Db.mono_l k
 unfold spec_l5Db.f
 repeat' first
   | (with_reducible exact ih0 _ _ _ _ _ _)
   | (with_reducible exact spec_l5Fact.mono _ _ _ _ _)
   | (with_reducible exact spec_l5Put.mono _ _ _ _)
   | (with_reducible exact LeO.refl _)
   | (with_reducible exact LeO.none _)
   | (with_reducible refine LeO.ite ?_ ?_)
   | (with_reducible refine LeO.bind ?_ (fun _ => ?_))
   | exact ih0 _ _ _ _ _ _
   | exact LeO.none _
   | refine LeO.ite ?_ ?_
   | refine LeO.bind ?_ (fun _ => ?_)
set_option maxHeartbeats 8000000 in
set_option maxRecDepth 100000 in
theorem spec_l5Db.calls (k : Nat) (g : Nat) (s0_0 : List Int) (s0_1 : Int) (s0_2 : Int) (A1_0 : Option Addr) (c1_0 : Nat) (l1_0 : List Int) (r1 : List (S37)) (r2 : Int) (r3 : Int) (w0 w : World) (hI : IsS139 w0 w g s0_0 s0_1 s0_2) (hB : Below w0.heap.size w0 w) (hr1_0 : Kd.C (Kd.int .i64) w A1_0 l1_0.length l1_0) (hc1_0 : l1_0.length ≤ c1_0) (hf1_0 : ∀ ad, A1_0 = some ad → 0 < l1_0.length → ad.block ≠ g) (h : spec_l5Db.f k s0_0 s0_1 s0_2 l1_0 = some (r1, r2, r3)) :
  Calls Try.prog 122 #[.pointer (some ⟨g, 0, none⟩), .agg #[.slice A1_0 l1_0.length c1_0]] w fun e w' => ∃ v0_ : Value, e = .returned (v0_) ∧ Kd.S k37 37 w' w.heap.size (fun _ => True) v0_ r1 ∧ IsS139 w0 w' g s0_0 r2 r3 ∧ Below w0.heap.size w0 w' ∧ KeepBut w w' g none := by
 have hu34:=Try.underlying34;have HR1_0:=zA hr1_0;have HC1_0:=zA hc1_0;clear hr1_0 hc1_0;have HI0:=zA hI;have HK:=zA (KeepBut.refl w g none);have HL:=zA hB.size;clear hI;have HW0:=zA hB.size;have HB:=zA hB;clear hB
 have H : ((spec_l1Below.f s0_0 s0_1 s0_2 9).bind fun bt406 => (spec_l5Db.l0 k (([] : List (S37))) bt406.1 s0_0 bt406.2.1 bt406.2.2 l1_0)) = some (r1,r2,r3):=h
 clear h;obtain ⟨y403,hy403⟩ : ∃ y_ : List (S37),y_ = (([] : List (S37))):=⟨_,rfl⟩
 replace H : ((spec_l1Below.f s0_0 s0_1 s0_2 9).bind fun bt406 => (spec_l5Db.l0 k y403 bt406.1 s0_0 bt406.2.1 bt406.2.2 l1_0)) = some (r1,r2,r3):=by first|(rw [hy403];with_reducible exact H)|(have H2_:=(Option.bind_some _ _).symm.trans H;rw [hy403];with_reducible exact H2_)|(have H2_:=(Option.bind_some _ _).symm.trans H;with_reducible exact H2_)|with_reducible exact H|(rw [hy403];exact H)|exact H
 have Ny403:=zA hy403;clear hy403;replace H:=Option.bind_eq_some_iff.mp H;obtain ⟨⟨t406,t407,t408⟩,A30,H⟩:=H;(try dsimp only at H);have A3:=zA A30;clear A30
 have H':=zA H
 clear H
 go_enter Try.func122,Try.ntmps122
 go_wp2_with (first|((with_reducible refine gate_dst (N:=3) rfl ?_);refine box_event ?hg (N:=3) ?hd (cs:=#[.slice A1_0 l1_0.length c1_0]) (t:=34) ?hr ?_;(case hd => rfl);(case hg => rfl);(case hr => first|(go_simp;done)|(go_simp;rfl));intro gb402 hg w4 hbox hb;replace HB:=zA (zJb (by repeat (first|(with_reducible first|exact HB.out|apply zK|apply zC|apply zJ|refine zB ?_ (IsS139.ge HI0.out))|exact HB.out)) hb);have BK402:=zA (hbox);have GW402:=zA ((by rw [hg];exact (keep_size (w:=w) (g:=g) (row:=none) (by repeat (first|(with_reducible first|exact HK.out|apply KeepBut.set_|apply keep_drewN|apply keep_drew|apply keep_alloc)|exact HK.out))) : w.heap.size ≤ gb402));have GE402:=zA ((Nat.le_trans HW0.out (by rw [hg];exact (keep_size (w:=w) (g:=g) (row:=none) (by repeat (first|(with_reducible first|exact HK.out|apply KeepBut.set_|apply keep_drewN|apply keep_drew|apply keep_alloc)|exact HK.out))) : w.heap.size ≤ gb402) : w0.heap.size ≤ gb402));replace HK:=zA (KeepBut.trans (by repeat (first|(with_reducible first|exact HK.out|apply KeepBut.set_|apply keep_drewN|apply keep_drew|apply keep_alloc)|exact HK.out)) (KeepBut.of_below hb g none) (.inl rfl));have NB0_402:=zA ((by rw [hg];exact Nat.ne_of_lt (IsS139.lt (show IsS139 w0 _ g s0_0 s0_1 s0_2 from by repeat (first|(with_reducible first|exact HI0.out|apply IsS139.alloc|apply IsS139.drewN|apply IsS139.drew|apply IsS139.set_1|apply IsS139.set_2)|exact HI0.out))) : g ≠ gb402));have NB402_0:=zA ((by rw [hg];exact Nat.ne_of_gt (IsS139.lt (show IsS139 w0 _ g s0_0 s0_1 s0_2 from by repeat (first|(with_reducible first|exact HI0.out|apply IsS139.alloc|apply IsS139.drewN|apply IsS139.drew|apply IsS139.set_1|apply IsS139.set_2)|exact HI0.out))) : gb402 ≠ g));replace HI0:=zA (IsS139.below (by repeat (first|(with_reducible first|exact HI0.out|apply IsS139.alloc|apply IsS139.drewN|apply IsS139.drew|apply IsS139.set_1|apply IsS139.set_2)|exact HI0.out)) hb);clear hb hbox hg)|((with_reducible refine gate_dst (N:=7) rfl ?_);refine Kd.S_lit k37 _ 37 ?hg (N:=7) ?hd (xs:=([] : List (S37))) (inner:=[]) (ok:=fun _ => True) (okp:=fun _ => True) ?hr ?hp (fun _ hk => hk) trivial (Below.refl _ _) (Nat.le_refl _) (by simp) ?_;(case hd => rfl);(case hg => rfl);(case hr => first|(go_simp;done)|(go_simp;rfl));(case hp => exact (Reps.none _ _));intro v404 w5 ho6 hb hg_ hnew_;clear hg_ hnew_;(first|rw [← Ny403.out] at ho6|(simp only [Int.reduceToNat] at ho6;rw [← Ny403.out] at ho6));have HO405:=zA (zIb ho6 (keep_size (w:=w) (g:=g) (row:=none) (by repeat (first|(with_reducible first|exact HK.out|apply KeepBut.set_|apply keep_drewN|apply keep_drew|apply keep_alloc|refine keep_far ?_ GW402.out _)|exact HK.out))));replace BK402:=zA (zQ (g:=gb402) (o:=.cells #[.slice A1_0 l1_0.length c1_0] 34 (0,0)) (zx BK402) hb);replace HK:=zA (KeepBut.trans (by repeat (first|(with_reducible first|exact HK.out|apply KeepBut.set_|apply keep_drewN|apply keep_drew|apply keep_alloc|refine keep_far ?_ GW402.out _)|exact HK.out)) (KeepBut.of_below hb g none) (.inl rfl));replace HB:=zA (zJb (by repeat (first|(with_reducible first|exact HB.out|apply zK|apply zC|apply zJ|refine zB ?_ (IsS139.ge HI0.out)|refine zB ?_ GE402.out)|exact HB.out)) hb);replace HI0:=zA (IsS139.below (by repeat (first|(with_reducible first|exact HI0.out|apply IsS139.alloc|apply IsS139.drewN|apply IsS139.drew|apply IsS139.set_1|apply IsS139.set_2|refine IsS139.far ?_ NB0_402.out _)|exact HI0.out)) hb);clear hb ho6)|((with_reducible refine gate_callee (f:=89) rfl ?_);refine goesL_ (some 9) rfl rfl Try.func89 (by kernel_rfl) rfl #[.pointer (some ⟨g,0,none⟩),.int .i64 9] rfl (by (try simp only [zCb,zMb,zNb]);first|done|rfl|(simp only [zLb,zDb];rfl)) ?_;(with_reducible refine (spec_l1Below.calls g s0_0 s0_1 s0_2 9 t406 t407 t408 w0 _ ?side1 ?side2 A3.out).mono ?_);(case side1 => repeat (first|(with_reducible first|exact HI0.out|apply IsS139.alloc|apply IsS139.drewN|apply IsS139.drew|apply IsS139.set_1|apply IsS139.set_2|refine IsS139.far ?_ NB0_402.out _)|exact HI0.out));(case side2 => repeat (first|(with_reducible first|exact HB.out|apply zK|apply zC|apply zJ|refine zB ?_ (IsS139.ge HI0.out)|refine zB ?_ GE402.out)|exact HB.out));rintro e w7 ⟨rfl,hi,hb,hk⟩;refine ⟨_,rfl,?_⟩;replace BK402:=zA (KeepBut.blk hk (g':=gb402) (o:=.cells #[.slice A1_0 l1_0.length c1_0] 34 (0,0)) (zx BK402) NB402_0.out (by simp));replace HO405:=zA (zS (Kd.S_keep (IsS139.apartS (show IsS139 w0 _ g s0_0 s0_1 s0_2 from by repeat (first|(with_reducible first|exact HI0.out|apply IsS139.alloc|apply IsS139.drewN|apply IsS139.drew|apply IsS139.set_1|apply IsS139.set_2|refine IsS139.far ?_ NB0_402.out _)|exact HI0.out)) (zy HO405) (by decide)) hk (fun _ h => h.2)) (fun _ h => h.1));replace HK:=zA (KeepBut.trans (by repeat (first|(with_reducible first|exact HK.out|apply KeepBut.set_|apply keep_drewN|apply keep_drew|apply keep_alloc|refine keep_far ?_ GW402.out _)|exact HK.out)) hk (.inl rfl));replace HB:=zA (hb);replace HI0:=zA (hi);(try clear hb);(try clear hb2);(try clear hk);(try clear hi)))
 go_loopg [5,6] k (fun kq v5 v6 w' => ∃ (x5_1 : List (S37)) (x6_1 : Int) (x1001_1 : Int) (x1002_1 : Int),v6 = .int .i64 x6_1 ∧ Aside0 (spec_l5Db.l0 kq x5_1 x6_1 s0_0 x1001_1 x1002_1 l1_0 = some (r1,r2,r3)) ∧ Aside0 (kq ≤ k) ∧ Aside0 (Kd.S k37 37 w' w.heap.size (fun _ => True) v5 x5_1) ∧ Aside0 (w'.heap[gb402]? = some (.cells #[(.slice A1_0 l1_0.length c1_0)] 34 (0,0))) ∧ Aside0 (IsS139 w0 w' g s0_0 x1001_1 x1002_1) ∧ Aside0 (KeepBut w w' g none) ∧ Aside0 (Below w0.heap.size w0 w'))
 case atStart => exact ⟨(y403),(t406),(t407),(t408),za,H',⟨Nat.le_refl _⟩,⟨zy HO405⟩,⟨zx BK402⟩,⟨by repeat (first|(with_reducible first|exact HI0.out|apply IsS139.alloc|apply IsS139.drewN|apply IsS139.drew|apply IsS139.set_1|apply IsS139.set_2|refine IsS139.far ?_ NB0_402.out _)|exact HI0.out)⟩,⟨by repeat (first|(with_reducible first|exact HK.out|apply KeepBut.set_|apply keep_drewN|apply keep_drew|apply keep_alloc|refine keep_far ?_ GW402.out _)|exact HK.out)⟩,⟨by repeat (first|(with_reducible first|exact HB.out|apply zK|apply zC|apply zJ|refine zB ?_ (IsS139.ge HI0.out)|refine zB ?_ GE402.out)|exact HB.out)⟩⟩
 case round =>
  clear H';(try clear c1);(try clear p2);obtain ⟨x5_1,x6_1,x1001_1,x1002_1,rfl,HA,HK1,HO_5,BK402,HI0,HK,HB⟩:=hrel
  cases gk with
  | zero => exact absurd HA.out (by simp [spec_l5Db.l0])
  | succ k1 =>
   have H:=HA.out;clear HA;simp only [spec_l5Db.l0] at H
   by_cases c8 : x6_1 > 0
   ·
    rw [if_pos c8] at H
    have c8b0 : decide (0 < x6_1) = true:=decide_eq_true c8
    clear c8;replace H:=Option.bind_eq_some_iff.mp H;obtain ⟨⟨t409,t410,t413,t414⟩,A90,H⟩:=H;(try dsimp only at H);have A9:=zA A90;clear A90;replace H:=Option.bind_eq_some_iff.mp H;obtain ⟨t415,A100,H⟩:=H;(try dsimp only at H);have A10:=zA A100;clear A100
    have H':=zA H
    clear H;have hnb11:=NB402_0.out;have hnc11:=NB0_402.out;have hcz12_0:=zc (.slice A1_0 l1_0.length c1_0) BK402 0 rfl;have hfz12_0:=blk_frozen BK402.out 0
    go_wp2_with (first|((with_reducible refine gate_callee (f:=125) rfl ?_);refine goesL_ (some 17) rfl rfl Try.func125 (by kernel_rfl) rfl #[.pointer (some ⟨g,0,none⟩),.agg #[.slice A1_0 l1_0.length c1_0]] rfl (by (try simp only [zCb,zMb,zNb]);first|done|rfl|(simp only [zLb,zDb];rfl)) ?_;(with_reducible refine (spec_l5Fact.calls k1 g s0_0 x1001_1 x1002_1 _ _ l1_0 t409 t410 t413 t414 w0 _ ?side1 ?side2 ?side3 ?side4 ?side5 A9.out).mono ?_);(case side1 => repeat (first|(with_reducible first|exact HI0.out|apply IsS139.alloc|apply IsS139.drewN|apply IsS139.drew|apply IsS139.set_1|apply IsS139.set_2|refine IsS139.far ?_ NB0_402.out _)|exact HI0.out));(case side2 => repeat (first|(with_reducible first|exact HB.out|apply zK|apply zC|apply zJ|refine zB ?_ (IsS139.ge HI0.out)|refine zB ?_ GE402.out)|exact HB.out));(case side3 => exact Kd.C_keep 0 HR1_0.out (by repeat (first|(with_reducible first|exact HK.out|apply KeepBut.set_|apply keep_drewN|apply keep_drew|apply keep_alloc|refine keep_far ?_ GW402.out _)|exact HK.out)) hf1_0);(case side4 => exact HC1_0.out);(case side5 => exact hf1_0);rintro e w13 ⟨v411,rfl,ho0,hi,hb,hk⟩;refine ⟨_,rfl,?_⟩;replace HO_5:=zA (zS (zU (Kd.S_oldK (IsS139.apartS (show IsS139 w0 _ g s0_0 x1001_1 x1002_1 from by repeat (first|(with_reducible first|exact HI0.out|apply IsS139.alloc|apply IsS139.drewN|apply IsS139.drew|apply IsS139.set_1|apply IsS139.set_2|refine IsS139.far ?_ NB0_402.out _)|exact HI0.out)) (zy HO_5) (by decide)) hk) (zW ho0)) (fun _ h_ => h_.1));replace BK402:=zA (KeepBut.blk hk (g':=gb402) (o:=.cells #[.slice A1_0 l1_0.length c1_0] 34 (0,0)) (zx BK402) NB402_0.out (by simp));have HO412:=zA (zHb ho0 (keep_size (w:=w) (g:=g) (row:=none) (by repeat (first|(with_reducible first|exact HK.out|apply KeepBut.set_|apply keep_drewN|apply keep_drew|apply keep_alloc|refine keep_far ?_ GW402.out _)|exact HK.out))));replace HK:=zA (KeepBut.trans (by repeat (first|(with_reducible first|exact HK.out|apply KeepBut.set_|apply keep_drewN|apply keep_drew|apply keep_alloc|refine keep_far ?_ GW402.out _)|exact HK.out)) hk (.inl rfl));replace HB:=zA (hb);replace HI0:=zA (hi);(try clear hb);(try clear hb2);(try clear hk);(try clear hi);(try clear ho0);obtain ⟨Ao14,co14,eo14⟩:=Kd.S_slice HO_5.out;subst eo14;obtain ⟨Ao15,co15,eo15⟩:=Kd.R_slice HO412.out;subst eo15)|((with_reducible refine gate_callee (f:=50) rfl ?_);refine goesL_ (some 18) rfl rfl Try.func50 (by kernel_rfl) rfl #[.slice Ao14 x5_1.length co14,.agg #[.int .i64 t409,.slice Ao15 t410.length co15]] rfl (by (try simp only [zCb,zMb,zNb]);first|done|rfl|(simp only [zLb,zDb];rfl)) ?_;(with_reducible refine (spec_l5Put.calls k1 _ _ x5_1 t409 _ _ t410 t415 _ ?side1 ?side2 ?side3 ?side4 A10.out).mono ?_);(case side1 => repeat (first|exact (Kd.S_reads' HO_5.out).2.2|(with_reducible refine zBb ?_ _)|(with_reducible refine zAb ?_ _)|(with_reducible refine zX ?_)));(case side2 => exact (Kd.S_reads' HO_5.out).2.1);(case side3 => repeat (first|exact (Kd.R_reads' HO412.out).2.2|(with_reducible refine zBb ?_ _)|(with_reducible refine zAb ?_ _)|(with_reducible refine zX ?_)));(case side4 => exact (Kd.R_reads' HO412.out).2.1);rintro e w16 ⟨v416,rfl,ho0,hb⟩;refine ⟨_,rfl,?_⟩;have HO417:=zA (zIb (zV (zV ho0 (Kd.S_lt (zy HO_5))) (zOb (zq HO412))) (keep_size (w:=w) (g:=g) (row:=none) (by repeat (first|(with_reducible first|exact HK.out|apply KeepBut.set_|apply keep_drewN|apply keep_drew|apply keep_alloc|refine keep_far ?_ GW402.out _)|exact HK.out))));replace HO_5:=zA (zSb (zy HO_5) (Kd.S_base ho0) hb);replace HO412:=zA (zZ (zq HO412) hb);replace BK402:=zA (zQ (g:=gb402) (o:=.cells #[.slice A1_0 l1_0.length c1_0] 34 (0,0)) (zx BK402) hb);replace HK:=zA (KeepBut.trans (by repeat (first|(with_reducible first|exact HK.out|apply KeepBut.set_|apply keep_drewN|apply keep_drew|apply keep_alloc|refine keep_far ?_ GW402.out _)|exact HK.out)) (KeepBut.of_below hb g none) (.inl rfl));replace HB:=zA (zJb (by repeat (first|(with_reducible first|exact HB.out|apply zK|apply zC|apply zJ|refine zB ?_ (IsS139.ge HI0.out)|refine zB ?_ GE402.out)|exact HB.out)) hb);replace HI0:=zA (IsS139.below (by repeat (first|(with_reducible first|exact HI0.out|apply IsS139.alloc|apply IsS139.drewN|apply IsS139.drew|apply IsS139.set_1|apply IsS139.set_2|refine IsS139.far ?_ NB0_402.out _)|exact HI0.out)) hb);(try clear hb);(try clear hb2);(try clear hk);(try clear hi);(try clear ho0)))
    go_roundg k1
    case measure => have:=HK1.out;omega
    case rel => exact ⟨(t415),(wrap64 (x6_1 - 1)),(t413),(t414),za,H',⟨by have:=HK1.out;omega⟩,⟨by (with_reducible repeat (first|apply zM|apply zL|apply zN));exact zS HO417.out (fun _ hk => trivial)⟩,⟨zx BK402⟩,⟨by repeat (first|(with_reducible first|exact HI0.out|apply IsS139.alloc|apply IsS139.drewN|apply IsS139.drew|apply IsS139.set_1|apply IsS139.set_2|refine IsS139.far ?_ NB0_402.out _)|exact HI0.out)⟩,⟨by repeat (first|(with_reducible first|exact HK.out|apply KeepBut.set_|apply keep_drewN|apply keep_drew|apply keep_alloc|refine keep_far ?_ GW402.out _)|exact HK.out)⟩,⟨by repeat (first|(with_reducible first|exact HB.out|apply zK|apply zC|apply zJ|refine zB ?_ (IsS139.ge HI0.out)|refine zB ?_ GE402.out)|exact HB.out)⟩⟩
   ·
    rw [if_neg c8] at H
    have c8b0 : decide (0 < x6_1) = false:=decide_eq_false c8
    clear c8;simp only [Option.some.injEq,Prod.mk.injEq] at H;obtain ⟨rfl,rfl,rfl⟩:=H
    go_wp2
    go_ret
    exact ⟨_,by first|rfl|(simp [errW_none,errW_some] <;> rfl)|(simp [*,errW_none,errW_some] <;> rfl),zy HO_5,by repeat (first|(with_reducible first|exact HI0.out|apply IsS139.alloc|apply IsS139.drewN|apply IsS139.drew|apply IsS139.set_1|apply IsS139.set_2|refine IsS139.far ?_ NB0_402.out _)|exact HI0.out),by repeat (first|(with_reducible first|exact HB.out|apply zK|apply zC|apply zJ|refine zB ?_ (IsS139.ge HI0.out)|refine zB ?_ GE402.out)|exact HB.out),by repeat (first|(with_reducible first|exact HK.out|apply KeepBut.set_|apply keep_drewN|apply keep_drew|apply keep_alloc|refine keep_far ?_ GW402.out _)|exact HK.out)⟩

-- NOT PRINTED: function 87 (spec_l5Any)

/-! ### spec_l1Once: function 88 -/
def spec_l1Once.f (s0_0 : List Int) (s0_1 : Int) (s0_2 : Int) (a1 : Int) : Option (Bool × Int × Int) := (spec_l1Below.f s0_0 s0_1 s0_2 a1).bind fun bt436 => (some ((bt436.1 == 0), bt436.2.1, bt436.2.2))
set_option maxHeartbeats 8000000 in
set_option maxRecDepth 100000 in
theorem spec_l1Once.calls (g : Nat) (s0_0 : List Int) (s0_1 : Int) (s0_2 : Int) (a1 : Int) (r1 : Bool) (r2 : Int) (r3 : Int) (w0 w : World) (hI : IsS139 w0 w g s0_0 s0_1 s0_2) (hB : Below w0.heap.size w0 w) (h : spec_l1Once.f s0_0 s0_1 s0_2 a1 = some (r1, r2, r3)) :
  Calls Try.prog 88 #[.pointer (some ⟨g, 0, none⟩), .int .i64 a1] w fun e w' => e = .returned (.bool r1) ∧ IsS139 w0 w' g s0_0 r2 r3 ∧ Below w0.heap.size w0 w' ∧ KeepBut w w' g none := by
 have HI0:=zA hI;have HK:=zA (KeepBut.refl w g none);have HL:=zA hB.size;clear hI;have HW0:=zA hB.size;have HB:=zA hB;clear hB
 have H : ((spec_l1Below.f s0_0 s0_1 s0_2 a1).bind fun bt436 => (some ((bt436.1 == 0),bt436.2.1,bt436.2.2))) = some (r1,r2,r3):=h
 clear h;replace H:=Option.bind_eq_some_iff.mp H;obtain ⟨⟨t436,t437,t438⟩,A30,H⟩:=H;(try dsimp only at H);have A3:=zA A30;clear A30;simp only [Option.some.injEq,Prod.mk.injEq] at H;obtain ⟨rfl,rfl,rfl⟩:=H
 go_enter Try.func88,Try.ntmps88
 go_wp2_with (first|((with_reducible refine gate_callee (f:=89) rfl ?_);refine goesL_ (some 7) rfl rfl Try.func89 (by kernel_rfl) rfl #[.pointer (some ⟨g,0,none⟩),.int .i64 a1] rfl (by (try simp only [zCb,zMb,zNb]);first|done|rfl|(simp only [zLb,zDb];rfl)) ?_;(with_reducible refine (spec_l1Below.calls g s0_0 s0_1 s0_2 a1 t436 t437 t438 w0 _ ?side1 ?side2 A3.out).mono ?_);(case side1 => repeat (first|(with_reducible first|exact HI0.out|apply IsS139.alloc|apply IsS139.drewN|apply IsS139.drew|apply IsS139.set_1|apply IsS139.set_2)|exact HI0.out));(case side2 => repeat (first|(with_reducible first|exact HB.out|apply zK|apply zC|apply zJ|refine zB ?_ (IsS139.ge HI0.out))|exact HB.out));rintro e w4 ⟨rfl,hi,hb,hk⟩;refine ⟨_,rfl,?_⟩;replace HK:=zA (KeepBut.trans (by repeat (first|(with_reducible first|exact HK.out|apply KeepBut.set_|apply keep_drewN|apply keep_drew|apply keep_alloc)|exact HK.out)) hk (.inl rfl));replace HB:=zA (hb);replace HI0:=zA (hi);(try clear hb);(try clear hb2);(try clear hk);(try clear hi)))
 go_ret
 exact ⟨by first|rfl|(simp [errW_none,errW_some] <;> rfl)|(simp [*,errW_none,errW_some] <;> rfl),by repeat (first|(with_reducible first|exact HI0.out|apply IsS139.alloc|apply IsS139.drewN|apply IsS139.drew|apply IsS139.set_1|apply IsS139.set_2)|exact HI0.out),by repeat (first|(with_reducible first|exact HB.out|apply zK|apply zC|apply zJ|refine zB ?_ (IsS139.ge HI0.out))|exact HB.out),by repeat (first|(with_reducible first|exact HK.out|apply KeepBut.set_|apply keep_drewN|apply keep_drew|apply keep_alloc)|exact HK.out)⟩

-- NOT PRINTED: function 57 (spec_l5Draw)

-- NOT PRINTED: function 23 (spec_DrawAddFact)

/-! ### spec_EqualFacts: function 24 -/
def spec_EqualFacts.l0 : Nat → List (S37) → List (S37) → Int → Option (Bool)
 | 0, _, _, _ => none
 | k + 1, x0, x1, x5 => if x5 < (x0.length : Int) then (if 0 ≤ x5 then (if x5 < (x1.length : Int) then ((spec_l5Same.f k ((rd_T37 x0 x5).f0) ((rd_T37 x0 x5).f1) ((rd_T37 x1 x5).f0) ((rd_T37 x1 x5).f1)).bind fun t449 => (if t449 = true then (spec_EqualFacts.l0 k x0 x1 (wrap64 (x5 + 1))) else (some false))) else (none)) else (none)) else (some true)
def spec_EqualFacts.f (k : Nat) (l0 : List (S37)) (l1 : List (S37)) : Option (Bool) := if (l0.length : Int) = (l1.length : Int) then (spec_EqualFacts.l0 k l0 l1 0) else (some false)
theorem spec_EqualFacts.mono_l : ∀ k, (∀ y0 y1 y2, LeO (spec_EqualFacts.l0 k y0 y1 y2) (spec_EqualFacts.l0 (k + 1) y0 y1 y2))
 | 0 => fun _ _ _ r h => by simp [spec_EqualFacts.l0] at h
 | k + 1 => by
  have ih0:=spec_EqualFacts.mono_l k
  ·
   intro y0 y1 y2
   unfold spec_EqualFacts.l0
   repeat' first
   | (with_reducible exact ih0 _ _ _)
   | (with_reducible exact spec_l5Same.mono _ _ _ _ _)
   | (with_reducible exact LeO.refl _)
   | (with_reducible exact LeO.none _)
   | (with_reducible refine LeO.ite ?_ ?_)
   | (with_reducible refine LeO.bind ?_ (fun _ => ?_))
   | exact ih0 _ _ _
   | exact LeO.none _
   | refine LeO.ite ?_ ?_
   | refine LeO.bind ?_ (fun _ => ?_)
theorem spec_EqualFacts.mono : ∀ a0 a1 k, LeO (spec_EqualFacts.f k a0 a1) (spec_EqualFacts.f (k + 1) a0 a1) := by
 intro a0 a1 k
 have ih0:=spec_EqualFacts.mono_l k
 unfold spec_EqualFacts.f
 repeat' first
   | (with_reducible exact ih0 _ _ _)
   | (with_reducible exact spec_l5Same.mono _ _ _ _ _)
   | (with_reducible exact LeO.refl _)
   | (with_reducible exact LeO.none _)
   | (with_reducible refine LeO.ite ?_ ?_)
   | (with_reducible refine LeO.bind ?_ (fun _ => ?_))
   | exact ih0 _ _ _
   | exact LeO.none _
   | refine LeO.ite ?_ ?_
   | refine LeO.bind ?_ (fun _ => ?_)
def spec_EqualFacts.T6 : Bool × List (List Nat × List Nat) := (true, [([], []), ([], []), ([0, 1], [0, 1]), ([2], [2]), ([], []), ([], []), ([4, 5], [4, 5]), ([6], [6]), ([3, 7], [3, 7]), ([8], [8])])
def spec_EqualFacts.B6 : List Nat := [0, 0, 3, 7, 0, 0, 48, 112, 255, 511]
theorem spec_EqualFacts.tab6 : rtab .any (opsOf Try.f24 6) = spec_EqualFacts.T6 := by kernel_rfl
theorem spec_EqualFacts.bits6 : waitsOk spec_EqualFacts.T6.2 spec_EqualFacts.B6 = true := by kernel_rfl
set_option maxHeartbeats 8000000 in
set_option maxRecDepth 100000 in
theorem spec_EqualFacts.calls (k : Nat) (A0 : Option Addr) (c0 : Nat) (l0 : List (S37)) (A1 : Option Addr) (c1 : Nat) (l1 : List (S37)) (r : Bool) (w : World) (hr0 : Kd.C k37 w A0 l0.length l0) (hc0 : l0.length ≤ c0) (hr1 : Kd.C k37 w A1 l1.length l1) (hc1 : l1.length ≤ c1) (h : spec_EqualFacts.f k l0 l1 = some r) :
  Calls Try.prog 24 #[.slice A0 l0.length c0, .slice A1 l1.length c1] w fun e w' => e = .returned (.bool r) ∧ Below w.heap.size w w' := by
 have hu37:=Try.underlying37;have HR0:=zA hr0;have HC0:=zA hc0;clear hr0 hc0;have HR1:=zA hr1;have HC1:=zA hc1;clear hr1 hc1;have HB:=zA (Below.refl w.heap.size w)
 have H : (if (l0.length : Int) = (l1.length : Int) then (spec_EqualFacts.l0 k l0 l1 0) else (some false)) = some r:=h
 clear h
 by_cases c3 : (l0.length : Int) = (l1.length : Int)
 ·
  rw [if_pos c3] at H;have c3b0:=beq_iff_eq.mpr c3;have c3b1:=bne_eq_false_iff_eq.mpr c3
  have c3b2 : (l0.length == l1.length) = true:=by first|simpa using c3|(simp at c3 ⊢;omega)
  clear c3
  have H':=zA H
  clear H
  go_enter Try.func24,Try.ntmps24
  go_wp2
  go_loopg [5] k (fun kq v5 w' => ∃ (x5_1 : Int),v5 = .int .i64 x5_1 ∧ Aside0 (spec_EqualFacts.l0 kq l0 l1 x5_1 = some r) ∧ Aside0 (kq ≤ k) ∧ Aside0 (Below w.heap.size w w'))
  case atStart => exact ⟨(0),za,H',⟨Nat.le_refl _⟩,⟨zz HB⟩⟩
  case round =>
   clear H';(try clear c1);(try clear c2);(try clear p2);(try clear c3);(try clear c3b0);(try clear c3b1);(try clear c3b2);obtain ⟨x5_1,rfl,HA,HK1,HB⟩:=hrel
   cases gk with
   | zero => exact absurd HA.out (by simp [spec_EqualFacts.l0])
   | succ k1 =>
    have H:=HA.out;clear HA;simp only [spec_EqualFacts.l0] at H
    by_cases c4 : x5_1 < (l0.length : Int)
    ·
     rw [if_pos c4] at H;have c4b0:=decide_eq_true c4;clear c4
     by_cases c5 : 0 ≤ x5_1
     ·
      rw [if_pos c5] at H;have c5b0:=decide_eq_true c5;clear c5
      by_cases c6 : x5_1 < (l1.length : Int)
      ·
       rw [if_pos c6] at H;have c6b0:=decide_eq_true c6;clear c6;replace H:=Option.bind_eq_some_iff.mp H;obtain ⟨t449,A70,H⟩:=H;(try dsimp only at H);have A7:=zA A70;clear A70
       by_cases c8 : t449 = true
       ·
        subst c8
        rw [if_pos rfl] at H
        have H':=zA H
        clear H
        try go_wp2
        have n0_:=zA (zJ HB.out);clear HB;have HB:=n0_;clear n0_;have p447 : 0 ≤ (x5_1 : Int):=zXb ze;have q447 : x5_1 < (l0.length : Int):=zXb ze;obtain ⟨ad447,A447_1,c447_1,e447,hx447_0,hx447_1,hl447_1,hi447_1⟩:=at_T37 HR0.out x5_1 p447 q447;have hw447_1:=hx447_1;have hw447_0:=hx447_0
        cases e447
        replace hx447_0:=(HB.out.cell (World.block_lt_of_cell? w _ hx447_0)).trans hx447_0;replace hx447_1:=(HB.out.cell (World.block_lt_of_cell? w _ hx447_1)).trans hx447_1;have HR447_1:=zA hi447_1;have HC447_1:=zA hl447_1;clear hi447_1 hl447_1;replace p447:=eq_true p447;replace q447:=eq_true q447;have p448 : 0 ≤ (x5_1 : Int):=zXb ze;have q448 : x5_1 < (l1.length : Int):=zXb ze;obtain ⟨ad448,A448_1,c448_1,e448,hx448_0,hx448_1,hl448_1,hi448_1⟩:=at_T37 HR1.out x5_1 p448 q448;have hw448_1:=hx448_1;have hw448_0:=hx448_0
        cases e448
        replace hx448_0:=(HB.out.cell (World.block_lt_of_cell? w _ hx448_0)).trans hx448_0;replace hx448_1:=(HB.out.cell (World.block_lt_of_cell? w _ hx448_1)).trans hx448_1;have HR448_1:=zA hi448_1;have HC448_1:=zA hl448_1;clear hi448_1 hl448_1;replace p448:=eq_true p448;replace q448:=eq_true q448
        refine start_ (n:=10) (S:=fun w' => w'.cell? (ad447.add ((x5_1).toNat * 2)) = some (.int .i64 ((rd_T37 l0 x5_1).f0)) ∧ w'.cell? ⟨(ad447.add ((x5_1).toNat * 2)).block,(ad447.add ((x5_1).toNat * 2)).off + 1,none⟩ = some (.slice A447_1 ((rd_T37 l0 x5_1).f1).length c447_1) ∧ w'.cell? (ad448.add ((x5_1).toNat * 2)) = some (.int .i64 ((rd_T37 l1 x5_1).f0)) ∧ w'.cell? ⟨(ad448.add ((x5_1).toNat * 2)).block,(ad448.add ((x5_1).toNat * 2)).off + 1,none⟩ = some (.slice A448_1 ((rd_T37 l1 x5_1).f1).length c448_1)) (ds:=[]) #[false,false,false,false,false,false,false,false,false,false] (by kernel_rfl) rfl rfl ⟨((HB.out.cell (World.block_lt_of_cell? w _ hw447_0)).trans hw447_0),((HB.out.cell (World.block_lt_of_cell? w _ hw447_1)).trans hw447_1),((HB.out.cell (World.block_lt_of_cell? w _ hw448_0)).trans hw448_0),((HB.out.cell (World.block_lt_of_cell? w _ hw448_1)).trans hw448_1)⟩ (fun hHeld => ?_);refine with_tabW spec_EqualFacts.tab6 spec_EqualFacts.bits6 (fun HT_ HW_ => ?_)
        generalize wr.drew = w9 at HB HR447_1 HR448_1 hx447_0 hx447_1 hx448_0 hx448_1 hHeld ⊢
        refine pure_ (i:=0) (N:=some 17) (v:=?_) (a':=?_) #[true,false,false,false,false,false,false,false,false,false] rfl rfl (any_of HT_.out (by kernel_rfl)) (fun _ _ _ h => h) (Or.inl ⟨by rfl,?_⟩) ?_ ?_
        rotate_left
        ·
         intro w'
         go_simp
         with_reducible rfl
        rotate_left
        ·
         simp only [Act.put,zO,zEb,zFb,i64_w,i32_w]
         rfl
        refine pure_ (i:=1) (N:=some 18) (v:=?_) (a':=?_) #[true,true,false,false,false,false,false,false,false,false] rfl rfl (any_of HT_.out (by kernel_rfl)) (fun _ _ _ h => h) (Or.inl ⟨by rfl,?_⟩) ?_ ?_
        rotate_left
        ·
         intro w'
         go_simp
         with_reducible rfl
        rotate_left
        ·
         simp only [Act.put,zO,zEb,zFb,i64_w,i32_w]
         rfl
        refine pure_ (i:=2) (N:=some 19) (v:=?_) (a':=?_) #[true,true,true,false,false,false,false,false,false,false] rfl rfl (any_of HT_.out (by kernel_rfl)) (fun _ _ _ h => h) (Or.inl ⟨by rfl,?_⟩) ?_ ?_
        rotate_left
        ·
         intro w'
         go_simp
         with_reducible rfl
        rotate_left
        ·
         simp only [Act.put,zO,zEb,zFb,i64_w,i32_w]
         rfl
        refine pure_ (i:=4) (N:=some 21) (v:=?_) (a':=?_) #[true,true,true,false,true,false,false,false,false,false] rfl rfl (any_of HT_.out (by kernel_rfl)) (fun _ _ _ h => h) (Or.inl ⟨by rfl,?_⟩) ?_ ?_
        rotate_left
        ·
         intro w'
         go_simp
         with_reducible rfl
        rotate_left
        ·
         simp only [Act.put,zO,zEb,zFb,i64_w,i32_w]
         rfl
        refine pure_ (i:=5) (N:=some 22) (v:=?_) (a':=?_) #[true,true,true,false,true,true,false,false,false,false] rfl rfl (any_of HT_.out (by kernel_rfl)) (fun _ _ _ h => h) (Or.inl ⟨by rfl,?_⟩) ?_ ?_
        rotate_left
        ·
         intro w'
         go_simp
         with_reducible rfl
        rotate_left
        ·
         simp only [Act.put,zO,zEb,zFb,i64_w,i32_w]
         rfl
        refine pure_ (i:=6) (N:=some 23) (v:=?_) (a':=?_) #[true,true,true,false,true,true,true,false,false,false] rfl rfl (any_of HT_.out (by kernel_rfl)) (fun _ _ _ h => h) (Or.inl ⟨by rfl,?_⟩) ?_ ?_
        rotate_left
        ·
         intro w'
         go_simp
         with_reducible rfl
        rotate_left
        ·
         simp only [Act.put,zO,zEb,zFb,i64_w,i32_w]
         rfl
        refine take_ (i:=3) (N:=some 20) (v:=?_) (a':=?_) #[true,true,true,true,true,true,true,false,false,false] rfl rfl (take_ofW HT_.out HW_.out (by kernel_rfl)) (fun _ _ _ h => h) (Or.inl ⟨by rfl,?_⟩) hHeld ?_ ?_
        rotate_left
        ·
         rintro w' ⟨s0,s1,s2,s3⟩
         go_simp
         with_reducible rfl
        rotate_left
        ·
         simp only [Act.put,zO,zEb,zFb,i64_w,i32_w]
         rfl
        refine take_ (i:=7) (N:=some 24) (v:=?_) (a':=?_) #[true,true,true,true,true,true,true,true,false,false] rfl rfl (take_ofW HT_.out HW_.out (by kernel_rfl)) (fun _ _ _ h => h) (Or.inl ⟨by rfl,?_⟩) hHeld ?_ ?_
        rotate_left
        ·
         rintro w' ⟨s0,s1,s2,s3⟩
         go_simp
         with_reducible rfl
        rotate_left
        ·
         simp only [Act.put,zO,zEb,zFb,i64_w,i32_w]
         rfl
        refine one_ (i:=8) (N:=some 25) #[true,true,true,true,true,true,true,true,true,false] rfl rfl (one_of HT_.out (by kernel_rfl)) (by decide) (fun K hK => ?_)
        refine goes_ Try.func58 (by kernel_rfl) rfl #[.agg #[.int .i64 ((rd_T37 l0 x5_1).f0),.slice A447_1 ((rd_T37 l0 x5_1).f1).length c447_1],.agg #[.int .i64 ((rd_T37 l1 x5_1).f0),.slice A448_1 ((rd_T37 l1 x5_1).f1).length c448_1]] (by rfl) rfl rfl (by (try simp only [zCb,zMb,zNb]);first|done|rfl|(simp only [zLb,zDb];rfl)) ?_
        with_reducible refine (spec_l5Same.calls k1 ((rd_T37 l0 x5_1).f0) _ _ ((rd_T37 l0 x5_1).f1) ((rd_T37 l1 x5_1).f0) _ _ ((rd_T37 l1 x5_1).f1) true _ ?side1 ?side2 ?side3 ?side4 A7.out).mono ?_
        (case side1 => repeat (first|exact (zKb HR447_1.out HB.out)|(with_reducible refine zBb ?_ _)|(with_reducible refine zAb ?_ _)|(with_reducible refine zX ?_)))
        (case side2 => exact HC447_1.out)
        (case side3 => repeat (first|exact (zKb HR448_1.out HB.out)|(with_reducible refine zBb ?_ _)|(with_reducible refine zAb ?_ _)|(with_reducible refine zX ?_)))
        (case side4 => exact HC448_1.out)
        rintro e w10 ⟨rfl,hb⟩
        refine ⟨_,rfl,?_⟩
        have n0_:=zA (zJb (zz HB) hb);clear HB;have HB:=n0_;clear n0_;(try clear hb);(try clear hb2);(try clear hk);(try clear hi)
        refine hK.out _ _ ⟨((HB.out.cell (World.block_lt_of_cell? w _ hw447_0)).trans hw447_0),((HB.out.cell (World.block_lt_of_cell? w _ hw447_1)).trans hw447_1),((HB.out.cell (World.block_lt_of_cell? w _ hw448_0)).trans hw448_0),((HB.out.cell (World.block_lt_of_cell? w _ hw448_1)).trans hw448_1)⟩ (fun hHeld => ?_)
        clear hK K
        refine norm_ (a':=?_) ?_ ?_
        rotate_left
        ·
         show Act.put _ (some 25) _ = _
         simp only [Act.put,zO,zEb,zFb,i64_w,i32_w]
         rfl
        refine pure_ (i:=9) (N:=some 26) (v:=?_) (a':=?_) #[true,true,true,true,true,true,true,true,true,true] rfl rfl (any_of HT_.out (by kernel_rfl)) (fun _ _ _ h => h) (Or.inl ⟨by rfl,?_⟩) ?_ ?_
        rotate_left
        ·
         intro w'
         go_simp
         with_reducible rfl
        rotate_left
        ·
         simp only [Act.put,zO,zEb,zFb,i64_w,i32_w]
         rfl
        refine done_ (done_of HT_.out (by kernel_rfl)) ?_
        try go_wp2
        go_roundg k1
        case measure => have:=HK1.out;omega
        case rel => exact ⟨(wrap64 (x5_1 + 1)),za,H',⟨by have:=HK1.out;omega⟩,⟨zz HB⟩⟩
       ·
        replace c8:=Bool.eq_false_iff.mpr c8
        subst c8
        have H1 : (some false) = some r:=by rw [if_neg (show ¬ (false = true) by decide)] at H;exact H
        clear H;have H:=H1;clear H1
        obtain rfl:=Option.some.inj H
        try go_wp2
        have n0_:=zA (zJ HB.out);clear HB;have HB:=n0_;clear n0_;have p447 : 0 ≤ (x5_1 : Int):=zXb ze;have q447 : x5_1 < (l0.length : Int):=zXb ze;obtain ⟨ad447,A447_1,c447_1,e447,hx447_0,hx447_1,hl447_1,hi447_1⟩:=at_T37 HR0.out x5_1 p447 q447;have hw447_1:=hx447_1;have hw447_0:=hx447_0
        cases e447
        replace hx447_0:=(HB.out.cell (World.block_lt_of_cell? w _ hx447_0)).trans hx447_0;replace hx447_1:=(HB.out.cell (World.block_lt_of_cell? w _ hx447_1)).trans hx447_1;have HR447_1:=zA hi447_1;have HC447_1:=zA hl447_1;clear hi447_1 hl447_1;replace p447:=eq_true p447;replace q447:=eq_true q447;have p448 : 0 ≤ (x5_1 : Int):=zXb ze;have q448 : x5_1 < (l1.length : Int):=zXb ze;obtain ⟨ad448,A448_1,c448_1,e448,hx448_0,hx448_1,hl448_1,hi448_1⟩:=at_T37 HR1.out x5_1 p448 q448;have hw448_1:=hx448_1;have hw448_0:=hx448_0
        cases e448
        replace hx448_0:=(HB.out.cell (World.block_lt_of_cell? w _ hx448_0)).trans hx448_0;replace hx448_1:=(HB.out.cell (World.block_lt_of_cell? w _ hx448_1)).trans hx448_1;have HR448_1:=zA hi448_1;have HC448_1:=zA hl448_1;clear hi448_1 hl448_1;replace p448:=eq_true p448;replace q448:=eq_true q448
        refine start_ (n:=10) (S:=fun w' => w'.cell? (ad447.add ((x5_1).toNat * 2)) = some (.int .i64 ((rd_T37 l0 x5_1).f0)) ∧ w'.cell? ⟨(ad447.add ((x5_1).toNat * 2)).block,(ad447.add ((x5_1).toNat * 2)).off + 1,none⟩ = some (.slice A447_1 ((rd_T37 l0 x5_1).f1).length c447_1) ∧ w'.cell? (ad448.add ((x5_1).toNat * 2)) = some (.int .i64 ((rd_T37 l1 x5_1).f0)) ∧ w'.cell? ⟨(ad448.add ((x5_1).toNat * 2)).block,(ad448.add ((x5_1).toNat * 2)).off + 1,none⟩ = some (.slice A448_1 ((rd_T37 l1 x5_1).f1).length c448_1)) (ds:=[]) #[false,false,false,false,false,false,false,false,false,false] (by kernel_rfl) rfl rfl ⟨((HB.out.cell (World.block_lt_of_cell? w _ hw447_0)).trans hw447_0),((HB.out.cell (World.block_lt_of_cell? w _ hw447_1)).trans hw447_1),((HB.out.cell (World.block_lt_of_cell? w _ hw448_0)).trans hw448_0),((HB.out.cell (World.block_lt_of_cell? w _ hw448_1)).trans hw448_1)⟩ (fun hHeld => ?_);refine with_tabW spec_EqualFacts.tab6 spec_EqualFacts.bits6 (fun HT_ HW_ => ?_)
        generalize wr.drew = w11 at HB HR447_1 HR448_1 hx447_0 hx447_1 hx448_0 hx448_1 hHeld ⊢
        refine pure_ (i:=0) (N:=some 17) (v:=?_) (a':=?_) #[true,false,false,false,false,false,false,false,false,false] rfl rfl (any_of HT_.out (by kernel_rfl)) (fun _ _ _ h => h) (Or.inl ⟨by rfl,?_⟩) ?_ ?_
        rotate_left
        ·
         intro w'
         go_simp
         with_reducible rfl
        rotate_left
        ·
         simp only [Act.put,zO,zEb,zFb,i64_w,i32_w]
         rfl
        refine pure_ (i:=1) (N:=some 18) (v:=?_) (a':=?_) #[true,true,false,false,false,false,false,false,false,false] rfl rfl (any_of HT_.out (by kernel_rfl)) (fun _ _ _ h => h) (Or.inl ⟨by rfl,?_⟩) ?_ ?_
        rotate_left
        ·
         intro w'
         go_simp
         with_reducible rfl
        rotate_left
        ·
         simp only [Act.put,zO,zEb,zFb,i64_w,i32_w]
         rfl
        refine pure_ (i:=2) (N:=some 19) (v:=?_) (a':=?_) #[true,true,true,false,false,false,false,false,false,false] rfl rfl (any_of HT_.out (by kernel_rfl)) (fun _ _ _ h => h) (Or.inl ⟨by rfl,?_⟩) ?_ ?_
        rotate_left
        ·
         intro w'
         go_simp
         with_reducible rfl
        rotate_left
        ·
         simp only [Act.put,zO,zEb,zFb,i64_w,i32_w]
         rfl
        refine pure_ (i:=4) (N:=some 21) (v:=?_) (a':=?_) #[true,true,true,false,true,false,false,false,false,false] rfl rfl (any_of HT_.out (by kernel_rfl)) (fun _ _ _ h => h) (Or.inl ⟨by rfl,?_⟩) ?_ ?_
        rotate_left
        ·
         intro w'
         go_simp
         with_reducible rfl
        rotate_left
        ·
         simp only [Act.put,zO,zEb,zFb,i64_w,i32_w]
         rfl
        refine pure_ (i:=5) (N:=some 22) (v:=?_) (a':=?_) #[true,true,true,false,true,true,false,false,false,false] rfl rfl (any_of HT_.out (by kernel_rfl)) (fun _ _ _ h => h) (Or.inl ⟨by rfl,?_⟩) ?_ ?_
        rotate_left
        ·
         intro w'
         go_simp
         with_reducible rfl
        rotate_left
        ·
         simp only [Act.put,zO,zEb,zFb,i64_w,i32_w]
         rfl
        refine pure_ (i:=6) (N:=some 23) (v:=?_) (a':=?_) #[true,true,true,false,true,true,true,false,false,false] rfl rfl (any_of HT_.out (by kernel_rfl)) (fun _ _ _ h => h) (Or.inl ⟨by rfl,?_⟩) ?_ ?_
        rotate_left
        ·
         intro w'
         go_simp
         with_reducible rfl
        rotate_left
        ·
         simp only [Act.put,zO,zEb,zFb,i64_w,i32_w]
         rfl
        refine take_ (i:=3) (N:=some 20) (v:=?_) (a':=?_) #[true,true,true,true,true,true,true,false,false,false] rfl rfl (take_ofW HT_.out HW_.out (by kernel_rfl)) (fun _ _ _ h => h) (Or.inl ⟨by rfl,?_⟩) hHeld ?_ ?_
        rotate_left
        ·
         rintro w' ⟨s0,s1,s2,s3⟩
         go_simp
         with_reducible rfl
        rotate_left
        ·
         simp only [Act.put,zO,zEb,zFb,i64_w,i32_w]
         rfl
        refine take_ (i:=7) (N:=some 24) (v:=?_) (a':=?_) #[true,true,true,true,true,true,true,true,false,false] rfl rfl (take_ofW HT_.out HW_.out (by kernel_rfl)) (fun _ _ _ h => h) (Or.inl ⟨by rfl,?_⟩) hHeld ?_ ?_
        rotate_left
        ·
         rintro w' ⟨s0,s1,s2,s3⟩
         go_simp
         with_reducible rfl
        rotate_left
        ·
         simp only [Act.put,zO,zEb,zFb,i64_w,i32_w]
         rfl
        refine one_ (i:=8) (N:=some 25) #[true,true,true,true,true,true,true,true,true,false] rfl rfl (one_of HT_.out (by kernel_rfl)) (by decide) (fun K hK => ?_)
        refine goes_ Try.func58 (by kernel_rfl) rfl #[.agg #[.int .i64 ((rd_T37 l0 x5_1).f0),.slice A447_1 ((rd_T37 l0 x5_1).f1).length c447_1],.agg #[.int .i64 ((rd_T37 l1 x5_1).f0),.slice A448_1 ((rd_T37 l1 x5_1).f1).length c448_1]] (by rfl) rfl rfl (by (try simp only [zCb,zMb,zNb]);first|done|rfl|(simp only [zLb,zDb];rfl)) ?_
        with_reducible refine (spec_l5Same.calls k1 ((rd_T37 l0 x5_1).f0) _ _ ((rd_T37 l0 x5_1).f1) ((rd_T37 l1 x5_1).f0) _ _ ((rd_T37 l1 x5_1).f1) false _ ?side1 ?side2 ?side3 ?side4 A7.out).mono ?_
        (case side1 => repeat (first|exact (zKb HR447_1.out HB.out)|(with_reducible refine zBb ?_ _)|(with_reducible refine zAb ?_ _)|(with_reducible refine zX ?_)))
        (case side2 => exact HC447_1.out)
        (case side3 => repeat (first|exact (zKb HR448_1.out HB.out)|(with_reducible refine zBb ?_ _)|(with_reducible refine zAb ?_ _)|(with_reducible refine zX ?_)))
        (case side4 => exact HC448_1.out)
        rintro e w12 ⟨rfl,hb⟩
        refine ⟨_,rfl,?_⟩
        have n0_:=zA (zJb (zz HB) hb);clear HB;have HB:=n0_;clear n0_;(try clear hb);(try clear hb2);(try clear hk);(try clear hi)
        refine hK.out _ _ ⟨((HB.out.cell (World.block_lt_of_cell? w _ hw447_0)).trans hw447_0),((HB.out.cell (World.block_lt_of_cell? w _ hw447_1)).trans hw447_1),((HB.out.cell (World.block_lt_of_cell? w _ hw448_0)).trans hw448_0),((HB.out.cell (World.block_lt_of_cell? w _ hw448_1)).trans hw448_1)⟩ (fun hHeld => ?_)
        clear hK K
        refine norm_ (a':=?_) ?_ ?_
        rotate_left
        ·
         show Act.put _ (some 25) _ = _
         simp only [Act.put,zO,zEb,zFb,i64_w,i32_w]
         rfl
        refine pure_ (i:=9) (N:=some 26) (v:=?_) (a':=?_) #[true,true,true,true,true,true,true,true,true,true] rfl rfl (any_of HT_.out (by kernel_rfl)) (fun _ _ _ h => h) (Or.inl ⟨by rfl,?_⟩) ?_ ?_
        rotate_left
        ·
         intro w'
         go_simp
         with_reducible rfl
        rotate_left
        ·
         simp only [Act.put,zO,zEb,zFb,i64_w,i32_w]
         rfl
        refine done_ (done_of HT_.out (by kernel_rfl)) ?_
        try go_wp2
        go_ret
        exact ⟨by first|rfl|(simp [errW_none,errW_some] <;> rfl)|(simp [*,errW_none,errW_some] <;> rfl),zz HB⟩
      ·
       rw [if_neg c6] at H
       exact absurd H (by simp)
     ·
      rw [if_neg c5] at H
      exact absurd H (by simp)
    ·
     rw [if_neg c4] at H;have c4b0:=decide_eq_false c4;clear c4
     obtain rfl:=Option.some.inj H
     go_wp2
     go_ret
     exact ⟨by first|rfl|(simp [errW_none,errW_some] <;> rfl)|(simp [*,errW_none,errW_some] <;> rfl),zz HB⟩
 ·
  rw [if_neg c3] at H;have c3b0:=beq_eq_false_iff_ne.mpr c3;have c3b1:=bne_iff_ne.mpr c3
  have c3b2 : (l0.length == l1.length) = false:=by first|simpa using c3|(simp at c3 ⊢;omega)
  obtain rfl:=Option.some.inj H
  go_enter Try.func24,Try.ntmps24
  go_wp2
  go_ret
  exact ⟨by first|rfl|(simp [errW_none,errW_some] <;> rfl)|(simp [*,errW_none,errW_some] <;> rfl),zz HB⟩

end Go.Proofs.Ytfelabhakgcifaa.QFnFacts
