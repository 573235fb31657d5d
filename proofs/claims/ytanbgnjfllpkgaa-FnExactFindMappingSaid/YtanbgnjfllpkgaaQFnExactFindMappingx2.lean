/- Walks through the Go functions that FnExactFindMapping reaches: each call returns what the Lean function beside it says, within the bounds that the theorem names. -/
import Derived.Test.YtanbgnjfllpkgaaQFnExactFindMappingx0
import Derived.Test.YtanbgnjfllpkgaaQFnExactFindMappingx1
namespace Go.Proofs.Ytanbgnjfllpkgaa.QFnExactFindMapping
open Go.RowKit Go.Proofs.YtanbgnjfllpkgaaW.PrintWords Go.Proofs.YtanbgnjfllpkgaaW.PrintLast Go.Proofs.YtanbgnjfllpkgaaW.PrintMore
attribute [local go_sem] max2_int min2_int max_two min_two max_three min_three max_four min_four   -- for this text's walks alone
set_option linter.unusedVariables false
set_option linter.unusedSimpArgs false


/-! ### laws_eqAtomS: function 89 -/
def laws_eqAtomS.l0 : Nat → List (S97) → List (S97) → Int → Option (Bool)
 | 0, _, _, _ => none
 | k + 1, x0, x1, x5 => if x5 < (x0.length : Int) then (if 0 ≤ x5 then (if x5 < (x1.length : Int) then ((laws_eqAtom.f k ((rd_T97 x0 x5).f0) ((rd_T97 x0 x5).f1) ((rd_T97 x1 x5).f0) ((rd_T97 x1 x5).f1)).bind fun t144 => (if t144 = true then (laws_eqAtomS.l0 k x0 x1 (wrap64 (x5 + 1))) else (some false))) else (none)) else (none)) else (some true)
def laws_eqAtomS.f (k : Nat) (l0 : List (S97)) (l1 : List (S97)) : Option (Bool) := if (l0.length : Int) = (l1.length : Int) then (laws_eqAtomS.l0 k l0 l1 0) else (some false)
theorem laws_eqAtomS.mono_l : ∀ k, (∀ y0 y1 y2, LeO (laws_eqAtomS.l0 k y0 y1 y2) (laws_eqAtomS.l0 (k + 1) y0 y1 y2))
 | 0 => fun _ _ _ r h => by simp [laws_eqAtomS.l0] at h
 | k + 1 => by
  have ih0:=laws_eqAtomS.mono_l k
  ·
   intro y0 y1 y2
   unfold laws_eqAtomS.l0
   repeat' first
   | (with_reducible exact ih0 _ _ _)
   | (with_reducible exact laws_eqAtom.mono _ _ _ _ _)
   | (with_reducible exact LeO.refl _)
   | (with_reducible exact LeO.none _)
   | (with_reducible refine LeO.ite ?_ ?_)
   | (with_reducible refine LeO.bind ?_ (fun _ => ?_))
   | exact ih0 _ _ _
   | exact LeO.none _
   | refine LeO.ite ?_ ?_
   | refine LeO.bind ?_ (fun _ => ?_)
theorem laws_eqAtomS.mono : ∀ a0 a1 k, LeO (laws_eqAtomS.f k a0 a1) (laws_eqAtomS.f (k + 1) a0 a1) := by
 intro a0 a1 k
 have ih0:=laws_eqAtomS.mono_l k
 unfold laws_eqAtomS.f
 repeat' first
   | (with_reducible exact ih0 _ _ _)
   | (with_reducible exact laws_eqAtom.mono _ _ _ _ _)
   | (with_reducible exact LeO.refl _)
   | (with_reducible exact LeO.none _)
   | (with_reducible refine LeO.ite ?_ ?_)
   | (with_reducible refine LeO.bind ?_ (fun _ => ?_))
   | exact ih0 _ _ _
   | exact LeO.none _
   | refine LeO.ite ?_ ?_
   | refine LeO.bind ?_ (fun _ => ?_)
def laws_eqAtomS.T6 : Bool × List (List Nat × List Nat) := (true, [([], []), ([], []), ([0, 1], [0, 1]), ([2], [2]), ([], []), ([], []), ([4, 5], [4, 5]), ([6], [6]), ([3, 7], [3, 7]), ([8], [8])])
def laws_eqAtomS.B6 : List Nat := [0, 0, 3, 7, 0, 0, 48, 112, 255, 511]
theorem laws_eqAtomS.tab6 : rtab .any (opsOf Try.f89 6) = laws_eqAtomS.T6 := by kernel_rfl
theorem laws_eqAtomS.bits6 : waitsOk laws_eqAtomS.T6.2 laws_eqAtomS.B6 = true := by kernel_rfl
set_option maxHeartbeats 8000000 in
set_option maxRecDepth 100000 in
theorem laws_eqAtomS.calls (k : Nat) (A0 : Option Addr) (c0 : Nat) (l0 : List (S97)) (A1 : Option Addr) (c1 : Nat) (l1 : List (S97)) (r : Bool) (w : World) (hr0 : Kd.C k97 w A0 l0.length l0) (hc0 : l0.length ≤ c0) (hr1 : Kd.C k97 w A1 l1.length l1) (hc1 : l1.length ≤ c1) (h : laws_eqAtomS.f k l0 l1 = some r) :
  Calls Try.prog 89 #[.slice A0 l0.length c0, .slice A1 l1.length c1] w fun e w' => e = .returned (.bool r) ∧ Below w.heap.size w w' := by
 have hu97:=Try.underlying97;have HR0:=zA hr0;have HC0:=zA hc0;clear hr0 hc0;have HR1:=zA hr1;have HC1:=zA hc1;clear hr1 hc1;have HB:=zA (Below.refl w.heap.size w)
 have H : (if (l0.length : Int) = (l1.length : Int) then (laws_eqAtomS.l0 k l0 l1 0) else (some false)) = some r:=h
 clear h
 by_cases c3 : (l0.length : Int) = (l1.length : Int)
 ·
  rw [if_pos c3] at H;have c3b0:=beq_iff_eq.mpr c3;have c3b1:=bne_eq_false_iff_eq.mpr c3
  have c3b2 : (l0.length == l1.length) = true:=by first|simpa using c3|(simp at c3 ⊢;omega)
  clear c3
  have H':=zA H
  clear H
  go_enter Try.func89,Try.ntmps89
  go_wp2
  go_loopg [5] k (fun kq v5 w' => ∃ (x5_1 : Int),v5 = .int .i64 x5_1 ∧ Aside0 (laws_eqAtomS.l0 kq l0 l1 x5_1 = some r) ∧ Aside0 (kq ≤ k) ∧ Aside0 (Below w.heap.size w w'))
  case atStart => exact ⟨(0),za,H',⟨Nat.le_refl _⟩,⟨zz HB⟩⟩
  case round =>
   clear H';(try clear c1);(try clear p2);(try clear c3);(try clear c3b0);(try clear c3b1);(try clear c3b2);obtain ⟨x5_1,rfl,HA,HK1,HB⟩:=hrel
   cases gk with
   | zero => exact absurd HA.out (by simp [laws_eqAtomS.l0])
   | succ k1 =>
    have H:=HA.out;clear HA;simp only [laws_eqAtomS.l0] at H
    by_cases c4 : x5_1 < (l0.length : Int)
    ·
     rw [if_pos c4] at H;have c4b0:=decide_eq_true c4;clear c4
     by_cases c5 : 0 ≤ x5_1
     ·
      rw [if_pos c5] at H;have c5b0:=decide_eq_true c5;clear c5
      by_cases c6 : x5_1 < (l1.length : Int)
      ·
       rw [if_pos c6] at H;have c6b0:=decide_eq_true c6;clear c6;replace H:=Option.bind_eq_some_iff.mp H;obtain ⟨t144,A70,H⟩:=H;(try dsimp only at H);have A7:=zA A70;clear A70
       by_cases c8 : t144 = true
       ·
        subst c8
        rw [if_pos rfl] at H
        have H':=zA H
        clear H
        try go_wp2
        have n0_:=zA (zJ HB.out);clear HB;have HB:=n0_;clear n0_;have p142 : 0 ≤ (x5_1 : Int):=zXb ze;have q142 : x5_1 < (l0.length : Int):=zXb ze;obtain ⟨ad142,A142_1,c142_1,e142,hx142_0,hx142_1,hl142_1,hi142_1⟩:=at_T97 HR0.out x5_1 p142 q142;have hw142_1:=hx142_1;have hw142_0:=hx142_0
        cases e142
        replace hx142_0:=(HB.out.cell (World.block_lt_of_cell? w _ hx142_0)).trans hx142_0;replace hx142_1:=(HB.out.cell (World.block_lt_of_cell? w _ hx142_1)).trans hx142_1;have HR142_1:=zA hi142_1;have HC142_1:=zA hl142_1;clear hi142_1 hl142_1;replace p142:=eq_true p142;replace q142:=eq_true q142;have p143 : 0 ≤ (x5_1 : Int):=zXb ze;have q143 : x5_1 < (l1.length : Int):=zXb ze;obtain ⟨ad143,A143_1,c143_1,e143,hx143_0,hx143_1,hl143_1,hi143_1⟩:=at_T97 HR1.out x5_1 p143 q143;have hw143_1:=hx143_1;have hw143_0:=hx143_0
        cases e143
        replace hx143_0:=(HB.out.cell (World.block_lt_of_cell? w _ hx143_0)).trans hx143_0;replace hx143_1:=(HB.out.cell (World.block_lt_of_cell? w _ hx143_1)).trans hx143_1;have HR143_1:=zA hi143_1;have HC143_1:=zA hl143_1;clear hi143_1 hl143_1;replace p143:=eq_true p143;replace q143:=eq_true q143
        refine start_ (n:=10) (S:=fun w' => w'.cell? (ad142.add ((x5_1).toNat * 2)) = some (.int .i64 ((rd_T97 l0 x5_1).f0)) ∧ w'.cell? ⟨(ad142.add ((x5_1).toNat * 2)).block,(ad142.add ((x5_1).toNat * 2)).off + 1,none⟩ = some (.slice A142_1 ((rd_T97 l0 x5_1).f1).length c142_1) ∧ w'.cell? (ad143.add ((x5_1).toNat * 2)) = some (.int .i64 ((rd_T97 l1 x5_1).f0)) ∧ w'.cell? ⟨(ad143.add ((x5_1).toNat * 2)).block,(ad143.add ((x5_1).toNat * 2)).off + 1,none⟩ = some (.slice A143_1 ((rd_T97 l1 x5_1).f1).length c143_1)) (ds:=[]) #[false,false,false,false,false,false,false,false,false,false] (by kernel_rfl) rfl rfl ⟨((HB.out.cell (World.block_lt_of_cell? w _ hw142_0)).trans hw142_0),((HB.out.cell (World.block_lt_of_cell? w _ hw142_1)).trans hw142_1),((HB.out.cell (World.block_lt_of_cell? w _ hw143_0)).trans hw143_0),((HB.out.cell (World.block_lt_of_cell? w _ hw143_1)).trans hw143_1)⟩ (fun hHeld => ?_);refine with_tabW laws_eqAtomS.tab6 laws_eqAtomS.bits6 (fun HT_ HW_ => ?_)
        generalize wr.drew = w9 at HB HR142_1 HR143_1 hx142_0 hx142_1 hx143_0 hx143_1 hHeld ⊢
        refine pure_ (i:=0) (N:=some 17) (v:=?_) (a':=?_) #[true,false,false,false,false,false,false,false,false,false] rfl rfl (any_of HT_.out (by kernel_rfl)) (fun _ _ _ h => h) (Or.inl ⟨by rfl,?_⟩) ?_ ?_
        rotate_left
        ·
         intro w'
         go_simp
         with_reducible rfl
        rotate_left
        ·
         simp only [Act.put,zO,zEb,zFb,i64_w,i32_w]
         rfl
        refine pure_ (i:=1) (N:=some 18) (v:=?_) (a':=?_) #[true,true,false,false,false,false,false,false,false,false] rfl rfl (any_of HT_.out (by kernel_rfl)) (fun _ _ _ h => h) (Or.inl ⟨by rfl,?_⟩) ?_ ?_
        rotate_left
        ·
         intro w'
         go_simp
         with_reducible rfl
        rotate_left
        ·
         simp only [Act.put,zO,zEb,zFb,i64_w,i32_w]
         rfl
        refine pure_ (i:=2) (N:=some 19) (v:=?_) (a':=?_) #[true,true,true,false,false,false,false,false,false,false] rfl rfl (any_of HT_.out (by kernel_rfl)) (fun _ _ _ h => h) (Or.inl ⟨by rfl,?_⟩) ?_ ?_
        rotate_left
        ·
         intro w'
         go_simp
         with_reducible rfl
        rotate_left
        ·
         simp only [Act.put,zO,zEb,zFb,i64_w,i32_w]
         rfl
        refine pure_ (i:=4) (N:=some 21) (v:=?_) (a':=?_) #[true,true,true,false,true,false,false,false,false,false] rfl rfl (any_of HT_.out (by kernel_rfl)) (fun _ _ _ h => h) (Or.inl ⟨by rfl,?_⟩) ?_ ?_
        rotate_left
        ·
         intro w'
         go_simp
         with_reducible rfl
        rotate_left
        ·
         simp only [Act.put,zO,zEb,zFb,i64_w,i32_w]
         rfl
        refine pure_ (i:=5) (N:=some 22) (v:=?_) (a':=?_) #[true,true,true,false,true,true,false,false,false,false] rfl rfl (any_of HT_.out (by kernel_rfl)) (fun _ _ _ h => h) (Or.inl ⟨by rfl,?_⟩) ?_ ?_
        rotate_left
        ·
         intro w'
         go_simp
         with_reducible rfl
        rotate_left
        ·
         simp only [Act.put,zO,zEb,zFb,i64_w,i32_w]
         rfl
        refine pure_ (i:=6) (N:=some 23) (v:=?_) (a':=?_) #[true,true,true,false,true,true,true,false,false,false] rfl rfl (any_of HT_.out (by kernel_rfl)) (fun _ _ _ h => h) (Or.inl ⟨by rfl,?_⟩) ?_ ?_
        rotate_left
        ·
         intro w'
         go_simp
         with_reducible rfl
        rotate_left
        ·
         simp only [Act.put,zO,zEb,zFb,i64_w,i32_w]
         rfl
        refine take_ (i:=3) (N:=some 20) (v:=?_) (a':=?_) #[true,true,true,true,true,true,true,false,false,false] rfl rfl (take_ofW HT_.out HW_.out (by kernel_rfl)) (fun _ _ _ h => h) (Or.inl ⟨by rfl,?_⟩) hHeld ?_ ?_
        rotate_left
        ·
         rintro w' ⟨s0,s1,s2,s3⟩
         go_simp
         with_reducible rfl
        rotate_left
        ·
         simp only [Act.put,zO,zEb,zFb,i64_w,i32_w]
         rfl
        refine take_ (i:=7) (N:=some 24) (v:=?_) (a':=?_) #[true,true,true,true,true,true,true,true,false,false] rfl rfl (take_ofW HT_.out HW_.out (by kernel_rfl)) (fun _ _ _ h => h) (Or.inl ⟨by rfl,?_⟩) hHeld ?_ ?_
        rotate_left
        ·
         rintro w' ⟨s0,s1,s2,s3⟩
         go_simp
         with_reducible rfl
        rotate_left
        ·
         simp only [Act.put,zO,zEb,zFb,i64_w,i32_w]
         rfl
        refine one_ (i:=8) (N:=some 25) #[true,true,true,true,true,true,true,true,true,false] rfl rfl (one_of HT_.out (by kernel_rfl)) (by decide) (fun K hK => ?_)
        refine goes_ Try.func123 (by kernel_rfl) rfl #[.agg #[.int .i64 ((rd_T97 l0 x5_1).f0),.slice A142_1 ((rd_T97 l0 x5_1).f1).length c142_1],.agg #[.int .i64 ((rd_T97 l1 x5_1).f0),.slice A143_1 ((rd_T97 l1 x5_1).f1).length c143_1]] (by rfl) rfl rfl (by (try simp only [zCb,zMb,zNb]);first|done|rfl|(simp only [zLb,zDb];rfl)) ?_
        with_reducible refine (laws_eqAtom.calls k1 ((rd_T97 l0 x5_1).f0) _ _ ((rd_T97 l0 x5_1).f1) ((rd_T97 l1 x5_1).f0) _ _ ((rd_T97 l1 x5_1).f1) true _ ?side1 ?side2 ?side3 ?side4 A7.out).mono ?_
        (case side1 => repeat (first|exact (zKb HR142_1.out HB.out)|(with_reducible refine zBb ?_ _)|(with_reducible refine zAb ?_ _)|(with_reducible refine zX ?_)))
        (case side2 => exact HC142_1.out)
        (case side3 => repeat (first|exact (zKb HR143_1.out HB.out)|(with_reducible refine zBb ?_ _)|(with_reducible refine zAb ?_ _)|(with_reducible refine zX ?_)))
        (case side4 => exact HC143_1.out)
        rintro e w10 ⟨rfl,hb⟩
        refine ⟨_,rfl,?_⟩
        have n0_:=zA (zJb (zz HB) hb);clear HB;have HB:=n0_;clear n0_;(try clear hb);(try clear hb2);(try clear hk);(try clear hi)
        refine hK.out _ _ ⟨((HB.out.cell (World.block_lt_of_cell? w _ hw142_0)).trans hw142_0),((HB.out.cell (World.block_lt_of_cell? w _ hw142_1)).trans hw142_1),((HB.out.cell (World.block_lt_of_cell? w _ hw143_0)).trans hw143_0),((HB.out.cell (World.block_lt_of_cell? w _ hw143_1)).trans hw143_1)⟩ (fun hHeld => ?_)
        clear hK K
        refine norm_ (a':=?_) ?_ ?_
        rotate_left
        ·
         show Act.put _ (some 25) _ = _
         simp only [Act.put,zO,zEb,zFb,i64_w,i32_w]
         rfl
        refine pure_ (i:=9) (N:=some 26) (v:=?_) (a':=?_) #[true,true,true,true,true,true,true,true,true,true] rfl rfl (any_of HT_.out (by kernel_rfl)) (fun _ _ _ h => h) (Or.inl ⟨by rfl,?_⟩) ?_ ?_
        rotate_left
        ·
         intro w'
         go_simp
         with_reducible rfl
        rotate_left
        ·
         simp only [Act.put,zO,zEb,zFb,i64_w,i32_w]
         rfl
        refine done_ (done_of HT_.out (by kernel_rfl)) ?_
        try go_wp2
        go_roundg k1
        case measure => have:=HK1.out;omega
        case rel => exact ⟨(wrap64 (x5_1 + 1)),za,H',⟨by have:=HK1.out;omega⟩,⟨zz HB⟩⟩
       ·
        replace c8:=Bool.eq_false_iff.mpr c8
        subst c8
        have H1 : (some false) = some r:=by rw [if_neg (show ¬ (false = true) by decide)] at H;exact H
        clear H;have H:=H1;clear H1
        obtain rfl:=Option.some.inj H
        try go_wp2
        have n0_:=zA (zJ HB.out);clear HB;have HB:=n0_;clear n0_;have p142 : 0 ≤ (x5_1 : Int):=zXb ze;have q142 : x5_1 < (l0.length : Int):=zXb ze;obtain ⟨ad142,A142_1,c142_1,e142,hx142_0,hx142_1,hl142_1,hi142_1⟩:=at_T97 HR0.out x5_1 p142 q142;have hw142_1:=hx142_1;have hw142_0:=hx142_0
        cases e142
        replace hx142_0:=(HB.out.cell (World.block_lt_of_cell? w _ hx142_0)).trans hx142_0;replace hx142_1:=(HB.out.cell (World.block_lt_of_cell? w _ hx142_1)).trans hx142_1;have HR142_1:=zA hi142_1;have HC142_1:=zA hl142_1;clear hi142_1 hl142_1;replace p142:=eq_true p142;replace q142:=eq_true q142;have p143 : 0 ≤ (x5_1 : Int):=zXb ze;have q143 : x5_1 < (l1.length : Int):=zXb ze;obtain ⟨ad143,A143_1,c143_1,e143,hx143_0,hx143_1,hl143_1,hi143_1⟩:=at_T97 HR1.out x5_1 p143 q143;have hw143_1:=hx143_1;have hw143_0:=hx143_0
        cases e143
        replace hx143_0:=(HB.out.cell (World.block_lt_of_cell? w _ hx143_0)).trans hx143_0;replace hx143_1:=(HB.out.cell (World.block_lt_of_cell? w _ hx143_1)).trans hx143_1;have HR143_1:=zA hi143_1;have HC143_1:=zA hl143_1;clear hi143_1 hl143_1;replace p143:=eq_true p143;replace q143:=eq_true q143
        refine start_ (n:=10) (S:=fun w' => w'.cell? (ad142.add ((x5_1).toNat * 2)) = some (.int .i64 ((rd_T97 l0 x5_1).f0)) ∧ w'.cell? ⟨(ad142.add ((x5_1).toNat * 2)).block,(ad142.add ((x5_1).toNat * 2)).off + 1,none⟩ = some (.slice A142_1 ((rd_T97 l0 x5_1).f1).length c142_1) ∧ w'.cell? (ad143.add ((x5_1).toNat * 2)) = some (.int .i64 ((rd_T97 l1 x5_1).f0)) ∧ w'.cell? ⟨(ad143.add ((x5_1).toNat * 2)).block,(ad143.add ((x5_1).toNat * 2)).off + 1,none⟩ = some (.slice A143_1 ((rd_T97 l1 x5_1).f1).length c143_1)) (ds:=[]) #[false,false,false,false,false,false,false,false,false,false] (by kernel_rfl) rfl rfl ⟨((HB.out.cell (World.block_lt_of_cell? w _ hw142_0)).trans hw142_0),((HB.out.cell (World.block_lt_of_cell? w _ hw142_1)).trans hw142_1),((HB.out.cell (World.block_lt_of_cell? w _ hw143_0)).trans hw143_0),((HB.out.cell (World.block_lt_of_cell? w _ hw143_1)).trans hw143_1)⟩ (fun hHeld => ?_);refine with_tabW laws_eqAtomS.tab6 laws_eqAtomS.bits6 (fun HT_ HW_ => ?_)
        generalize wr.drew = w11 at HB HR142_1 HR143_1 hx142_0 hx142_1 hx143_0 hx143_1 hHeld ⊢
        refine pure_ (i:=0) (N:=some 17) (v:=?_) (a':=?_) #[true,false,false,false,false,false,false,false,false,false] rfl rfl (any_of HT_.out (by kernel_rfl)) (fun _ _ _ h => h) (Or.inl ⟨by rfl,?_⟩) ?_ ?_
        rotate_left
        ·
         intro w'
         go_simp
         with_reducible rfl
        rotate_left
        ·
         simp only [Act.put,zO,zEb,zFb,i64_w,i32_w]
         rfl
        refine pure_ (i:=1) (N:=some 18) (v:=?_) (a':=?_) #[true,true,false,false,false,false,false,false,false,false] rfl rfl (any_of HT_.out (by kernel_rfl)) (fun _ _ _ h => h) (Or.inl ⟨by rfl,?_⟩) ?_ ?_
        rotate_left
        ·
         intro w'
         go_simp
         with_reducible rfl
        rotate_left
        ·
         simp only [Act.put,zO,zEb,zFb,i64_w,i32_w]
         rfl
        refine pure_ (i:=2) (N:=some 19) (v:=?_) (a':=?_) #[true,true,true,false,false,false,false,false,false,false] rfl rfl (any_of HT_.out (by kernel_rfl)) (fun _ _ _ h => h) (Or.inl ⟨by rfl,?_⟩) ?_ ?_
        rotate_left
        ·
         intro w'
         go_simp
         with_reducible rfl
        rotate_left
        ·
         simp only [Act.put,zO,zEb,zFb,i64_w,i32_w]
         rfl
        refine pure_ (i:=4) (N:=some 21) (v:=?_) (a':=?_) #[true,true,true,false,true,false,false,false,false,false] rfl rfl (any_of HT_.out (by kernel_rfl)) (fun _ _ _ h => h) (Or.inl ⟨by rfl,?_⟩) ?_ ?_
        rotate_left
        ·
         intro w'
         go_simp
         with_reducible rfl
        rotate_left
        ·
         simp only [Act.put,zO,zEb,zFb,i64_w,i32_w]
         rfl
        refine pure_ (i:=5) (N:=some 22) (v:=?_) (a':=?_) #[true,true,true,false,true,true,false,false,false,false] rfl rfl (any_of HT_.out (by kernel_rfl)) (fun _ _ _ h => h) (Or.inl ⟨by rfl,?_⟩) ?_ ?_
        rotate_left
        ·
         intro w'
         go_simp
         with_reducible rfl
        rotate_left
        ·
         simp only [Act.put,zO,zEb,zFb,i64_w,i32_w]
         rfl
        refine pure_ (i:=6) (N:=some 23) (v:=?_) (a':=?_) #[true,true,true,false,true,true,true,false,false,false] rfl rfl (any_of HT_.out (by kernel_rfl)) (fun _ _ _ h => h) (Or.inl ⟨by rfl,?_⟩) ?_ ?_
        rotate_left
        ·
         intro w'
         go_simp
         with_reducible rfl
        rotate_left
        ·
         simp only [Act.put,zO,zEb,zFb,i64_w,i32_w]
         rfl
        refine take_ (i:=3) (N:=some 20) (v:=?_) (a':=?_) #[true,true,true,true,true,true,true,false,false,false] rfl rfl (take_ofW HT_.out HW_.out (by kernel_rfl)) (fun _ _ _ h => h) (Or.inl ⟨by rfl,?_⟩) hHeld ?_ ?_
        rotate_left
        ·
         rintro w' ⟨s0,s1,s2,s3⟩
         go_simp
         with_reducible rfl
        rotate_left
        ·
         simp only [Act.put,zO,zEb,zFb,i64_w,i32_w]
         rfl
        refine take_ (i:=7) (N:=some 24) (v:=?_) (a':=?_) #[true,true,true,true,true,true,true,true,false,false] rfl rfl (take_ofW HT_.out HW_.out (by kernel_rfl)) (fun _ _ _ h => h) (Or.inl ⟨by rfl,?_⟩) hHeld ?_ ?_
        rotate_left
        ·
         rintro w' ⟨s0,s1,s2,s3⟩
         go_simp
         with_reducible rfl
        rotate_left
        ·
         simp only [Act.put,zO,zEb,zFb,i64_w,i32_w]
         rfl
        refine one_ (i:=8) (N:=some 25) #[true,true,true,true,true,true,true,true,true,false] rfl rfl (one_of HT_.out (by kernel_rfl)) (by decide) (fun K hK => ?_)
        refine goes_ Try.func123 (by kernel_rfl) rfl #[.agg #[.int .i64 ((rd_T97 l0 x5_1).f0),.slice A142_1 ((rd_T97 l0 x5_1).f1).length c142_1],.agg #[.int .i64 ((rd_T97 l1 x5_1).f0),.slice A143_1 ((rd_T97 l1 x5_1).f1).length c143_1]] (by rfl) rfl rfl (by (try simp only [zCb,zMb,zNb]);first|done|rfl|(simp only [zLb,zDb];rfl)) ?_
        with_reducible refine (laws_eqAtom.calls k1 ((rd_T97 l0 x5_1).f0) _ _ ((rd_T97 l0 x5_1).f1) ((rd_T97 l1 x5_1).f0) _ _ ((rd_T97 l1 x5_1).f1) false _ ?side1 ?side2 ?side3 ?side4 A7.out).mono ?_
        (case side1 => repeat (first|exact (zKb HR142_1.out HB.out)|(with_reducible refine zBb ?_ _)|(with_reducible refine zAb ?_ _)|(with_reducible refine zX ?_)))
        (case side2 => exact HC142_1.out)
        (case side3 => repeat (first|exact (zKb HR143_1.out HB.out)|(with_reducible refine zBb ?_ _)|(with_reducible refine zAb ?_ _)|(with_reducible refine zX ?_)))
        (case side4 => exact HC143_1.out)
        rintro e w12 ⟨rfl,hb⟩
        refine ⟨_,rfl,?_⟩
        have n0_:=zA (zJb (zz HB) hb);clear HB;have HB:=n0_;clear n0_;(try clear hb);(try clear hb2);(try clear hk);(try clear hi)
        refine hK.out _ _ ⟨((HB.out.cell (World.block_lt_of_cell? w _ hw142_0)).trans hw142_0),((HB.out.cell (World.block_lt_of_cell? w _ hw142_1)).trans hw142_1),((HB.out.cell (World.block_lt_of_cell? w _ hw143_0)).trans hw143_0),((HB.out.cell (World.block_lt_of_cell? w _ hw143_1)).trans hw143_1)⟩ (fun hHeld => ?_)
        clear hK K
        refine norm_ (a':=?_) ?_ ?_
        rotate_left
        ·
         show Act.put _ (some 25) _ = _
         simp only [Act.put,zO,zEb,zFb,i64_w,i32_w]
         rfl
        refine pure_ (i:=9) (N:=some 26) (v:=?_) (a':=?_) #[true,true,true,true,true,true,true,true,true,true] rfl rfl (any_of HT_.out (by kernel_rfl)) (fun _ _ _ h => h) (Or.inl ⟨by rfl,?_⟩) ?_ ?_
        rotate_left
        ·
         intro w'
         go_simp
         with_reducible rfl
        rotate_left
        ·
         simp only [Act.put,zO,zEb,zFb,i64_w,i32_w]
         rfl
        refine done_ (done_of HT_.out (by kernel_rfl)) ?_
        try go_wp2
        go_ret
        exact ⟨by first|rfl|(simp [errW_none,errW_some] <;> rfl)|(simp [*,errW_none,errW_some] <;> rfl),zz HB⟩
      ·
       rw [if_neg c6] at H
       exact absurd H (by simp)
     ·
      rw [if_neg c5] at H
      exact absurd H (by simp)
    ·
     rw [if_neg c4] at H;have c4b0:=decide_eq_false c4;clear c4
     obtain rfl:=Option.some.inj H
     go_wp2
     go_ret
     exact ⟨by first|rfl|(simp [errW_none,errW_some] <;> rfl)|(simp [*,errW_none,errW_some] <;> rfl),zz HB⟩
 ·
  rw [if_neg c3] at H;have c3b0:=beq_eq_false_iff_ne.mpr c3;have c3b1:=bne_iff_ne.mpr c3
  have c3b2 : (l0.length == l1.length) = false:=by first|simpa using c3|(simp at c3 ⊢;omega)
  obtain rfl:=Option.some.inj H
  go_enter Try.func89,Try.ntmps89
  go_wp2
  go_ret
  exact ⟨by first|rfl|(simp [errW_none,errW_some] <;> rfl)|(simp [*,errW_none,errW_some] <;> rfl),zz HB⟩

/-! ### laws_eqQuery: function 34 -/
def laws_eqQuery.f (k : Nat) (l0_0 : List Int) (l0_1 : List (S97)) (l1_0 : List Int) (l1_1 : List (S97)) : Option (Bool) := (laws_eqIntS.f k l0_0 l1_0).bind fun t147 => (if t147 = true then ((laws_eqAtomS.f k l0_1 l1_1).bind fun t148 => (if t148 = true then (some true) else (some false))) else (some false))
theorem laws_eqQuery.mono : ∀ a0 a1 a2 a3 k, LeO (laws_eqQuery.f k a0 a1 a2 a3) (laws_eqQuery.f (k + 1) a0 a1 a2 a3) := by
 intro a0 a1 a2 a3 k
 unfold laws_eqQuery.f
 repeat' first
   | (with_reducible exact laws_eqAtomS.mono _ _ _)
   | (with_reducible exact laws_eqIntS.mono _ _ _)
   | (with_reducible exact LeO.refl _)
   | (with_reducible exact LeO.none _)
   | (with_reducible refine LeO.ite ?_ ?_)
   | (with_reducible refine LeO.bind ?_ (fun _ => ?_))
   | exact LeO.none _
   | refine LeO.ite ?_ ?_
   | refine LeO.bind ?_ (fun _ => ?_)
set_option maxHeartbeats 8000000 in
set_option maxRecDepth 100000 in
theorem laws_eqQuery.calls (k : Nat) (A0_0 : Option Addr) (c0_0 : Nat) (l0_0 : List Int) (A0_1 : Option Addr) (c0_1 : Nat) (l0_1 : List (S97)) (A1_0 : Option Addr) (c1_0 : Nat) (l1_0 : List Int) (A1_1 : Option Addr) (c1_1 : Nat) (l1_1 : List (S97)) (r : Bool) (w : World) (hr0_0 : Kd.C (Kd.int .i64) w A0_0 l0_0.length l0_0) (hc0_0 : l0_0.length ≤ c0_0) (hr0_1 : Kd.C k97 w A0_1 l0_1.length l0_1) (hc0_1 : l0_1.length ≤ c0_1) (hr1_0 : Kd.C (Kd.int .i64) w A1_0 l1_0.length l1_0) (hc1_0 : l1_0.length ≤ c1_0) (hr1_1 : Kd.C k97 w A1_1 l1_1.length l1_1) (hc1_1 : l1_1.length ≤ c1_1) (h : laws_eqQuery.f k l0_0 l0_1 l1_0 l1_1 = some r) :
  Calls Try.prog 34 #[.agg #[.slice A0_0 l0_0.length c0_0, .slice A0_1 l0_1.length c0_1], .agg #[.slice A1_0 l1_0.length c1_0, .slice A1_1 l1_1.length c1_1]] w fun e w' => e = .returned (.bool r) ∧ Below w.heap.size w w' := by
 have hu46:=Try.underlying46;have HR0_0:=zA hr0_0;have HC0_0:=zA hc0_0;clear hr0_0 hc0_0;have HR0_1:=zA hr0_1;have HC0_1:=zA hc0_1;clear hr0_1 hc0_1;have HR1_0:=zA hr1_0;have HC1_0:=zA hc1_0;clear hr1_0 hc1_0;have HR1_1:=zA hr1_1;have HC1_1:=zA hc1_1;clear hr1_1 hc1_1;have HB:=zA (Below.refl w.heap.size w)
 have H : ((laws_eqIntS.f k l0_0 l1_0).bind fun t147 => (if t147 = true then ((laws_eqAtomS.f k l0_1 l1_1).bind fun t148 => (if t148 = true then (some true) else (some false))) else (some false))) = some r:=h
 clear h;replace H:=Option.bind_eq_some_iff.mp H;obtain ⟨t147,A30,H⟩:=H;(try dsimp only at H);have A3:=zA A30;clear A30
 by_cases c4 : t147 = true
 ·
  subst c4
  rw [if_pos rfl] at H;replace H:=Option.bind_eq_some_iff.mp H;obtain ⟨t148,A50,H⟩:=H;(try dsimp only at H);have A5:=zA A50;clear A50
  by_cases c6 : t148 = true
  ·
   subst c6
   rw [if_pos rfl] at H
   obtain rfl:=Option.some.inj H
   go_enter Try.func34,Try.ntmps34
   go_wp2_with (first|((with_reducible refine gate_dst (N:=2) rfl ?_);refine box_event ?hg (N:=2) ?hd (cs:=#[.slice A0_0 l0_0.length c0_0,.slice A0_1 l0_1.length c0_1]) (t:=46) ?hr ?_;(case hd => rfl);(case hg => rfl);(case hr => first|(go_simp;done)|(go_simp;rfl));intro gb145 hg w7 hbox hb;have BK145:=zA (hbox);have GW145:=zA ((by rw [hg];exact (zT (zz HB)) : w.heap.size ≤ gb145));have GE145:=zA ((by rw [hg];exact (zT (zz HB)) : w.heap.size ≤ gb145));replace HB:=zA (zJb (zz HB) hb);clear hb hbox hg)|((with_reducible refine gate_dst (N:=3) rfl ?_);refine box_event ?hg (N:=3) ?hd (cs:=#[.slice A1_0 l1_0.length c1_0,.slice A1_1 l1_1.length c1_1]) (t:=46) ?hr ?_;(case hd => rfl);(case hg => rfl);(case hr => first|(go_simp;done)|(go_simp;rfl));intro gb146 hg w8 hbox hb;have BK146:=zA (hbox);have GW146:=zA ((by rw [hg];exact (zT (zz HB)) : w.heap.size ≤ gb146));have GE146:=zA ((by rw [hg];exact (zT (zz HB)) : w.heap.size ≤ gb146));replace HB:=zA (zJb (zz HB) hb);have NB145_146:=zA ((by rw [hg];exact Nat.ne_of_lt (blk_lt (g:=gb145) (o:=.cells #[.slice A0_0 l0_0.length c0_0,.slice A0_1 l0_1.length c0_1] 46 (0,0)) (zx BK145)) : gb145 ≠ gb146));have NB146_145:=zA ((by rw [hg];exact Nat.ne_of_gt (blk_lt (g:=gb145) (o:=.cells #[.slice A0_0 l0_0.length c0_0,.slice A0_1 l0_1.length c0_1] 46 (0,0)) (zx BK145)) : gb146 ≠ gb145));replace BK145:=zA (zQ (g:=gb145) (o:=.cells #[.slice A0_0 l0_0.length c0_0,.slice A0_1 l0_1.length c0_1] 46 (0,0)) (zx BK145) hb);clear hb hbox hg;have hnb9:=NB145_146.out;have hnc9:=NB146_145.out;have hcz10_0:=zc (.slice A0_0 l0_0.length c0_0) BK145 0 rfl;have hcz10_1:=zc (.slice A0_1 l0_1.length c0_1) BK145 1 rfl;have hfz10_0:=blk_frozen BK145.out 0;have hfz10_1:=blk_frozen BK145.out 1;have hcz11_0:=zc (.slice A1_0 l1_0.length c1_0) BK146 0 rfl;have hcz11_1:=zc (.slice A1_1 l1_1.length c1_1) BK146 1 rfl;have hfz11_0:=blk_frozen BK146.out 0;have hfz11_1:=blk_frozen BK146.out 1)|((with_reducible refine gate_callee (f:=43) rfl ?_);refine goesL_ (some 9) rfl rfl Try.func43 (by kernel_rfl) rfl #[.slice A0_0 l0_0.length c0_0,.slice A1_0 l1_0.length c1_0] rfl (by (try simp only [zCb,zMb,zNb]);first|done|rfl|(simp only [zLb,zDb];rfl)) ?_;(with_reducible refine (laws_eqIntS.calls k _ _ l0_0 _ _ l1_0 true _ ?side1 ?side2 ?side3 ?side4 A3.out).mono ?_);(case side1 => repeat (first|exact (zKb HR0_0.out HB.out)|(with_reducible refine zBb ?_ _)|(with_reducible refine zAb ?_ _)|(with_reducible refine zX ?_)));(case side2 => exact HC0_0.out);(case side3 => repeat (first|exact (zKb HR1_0.out HB.out)|(with_reducible refine zBb ?_ _)|(with_reducible refine zAb ?_ _)|(with_reducible refine zX ?_)));(case side4 => exact HC1_0.out);rintro e w' ⟨rfl,⟨nd,rfl⟩⟩;refine ⟨_,rfl,?_⟩)|((with_reducible refine gate_callee (f:=89) rfl ?_);refine goesL_ (some 15) rfl rfl Try.func89 (by kernel_rfl) rfl #[.slice A0_1 l0_1.length c0_1,.slice A1_1 l1_1.length c1_1] rfl (by (try simp only [zCb,zMb,zNb]);first|done|rfl|(simp only [zLb,zDb];rfl)) ?_;(with_reducible refine (laws_eqAtomS.calls k _ _ l0_1 _ _ l1_1 true _ ?side1 ?side2 ?side3 ?side4 A5.out).mono ?_);(case side1 => repeat (first|exact (zKb HR0_1.out (zz HB))|(with_reducible refine zBb ?_ _)|(with_reducible refine zAb ?_ _)|(with_reducible refine zX ?_)));(case side2 => exact HC0_1.out);(case side3 => repeat (first|exact (zKb HR1_1.out (zz HB))|(with_reducible refine zBb ?_ _)|(with_reducible refine zAb ?_ _)|(with_reducible refine zX ?_)));(case side4 => exact HC1_1.out);rintro e w12 ⟨rfl,hb⟩;refine ⟨_,rfl,?_⟩;replace BK145:=zA (zQ (g:=gb145) (o:=.cells #[.slice A0_0 l0_0.length c0_0,.slice A0_1 l0_1.length c0_1] 46 (0,0)) (zx BK145) hb);replace BK146:=zA (zQ (g:=gb146) (o:=.cells #[.slice A1_0 l1_0.length c1_0,.slice A1_1 l1_1.length c1_1] 46 (0,0)) (zx BK146) hb);replace HB:=zA (zJb (zz HB) hb);(try clear hb);(try clear hb2);(try clear hk);(try clear hi)))
   go_ret
   exact ⟨by first|rfl|(simp [errW_none,errW_some] <;> rfl)|(simp [*,errW_none,errW_some] <;> rfl),zz HB⟩
  ·
   replace c6:=Bool.eq_false_iff.mpr c6
   subst c6
   have H1 : (some false) = some r:=by rw [if_neg (show ¬ (false = true) by decide)] at H;exact H
   clear H;have H:=H1;clear H1
   obtain rfl:=Option.some.inj H
   go_enter Try.func34,Try.ntmps34
   go_wp2_with (first|((with_reducible refine gate_dst (N:=2) rfl ?_);refine box_event ?hg (N:=2) ?hd (cs:=#[.slice A0_0 l0_0.length c0_0,.slice A0_1 l0_1.length c0_1]) (t:=46) ?hr ?_;(case hd => rfl);(case hg => rfl);(case hr => first|(go_simp;done)|(go_simp;rfl));intro gb145 hg w13 hbox hb;have BK145:=zA (hbox);have GW145:=zA ((by rw [hg];exact (zT (zz HB)) : w.heap.size ≤ gb145));have GE145:=zA ((by rw [hg];exact (zT (zz HB)) : w.heap.size ≤ gb145));replace HB:=zA (zJb (zz HB) hb);clear hb hbox hg)|((with_reducible refine gate_dst (N:=3) rfl ?_);refine box_event ?hg (N:=3) ?hd (cs:=#[.slice A1_0 l1_0.length c1_0,.slice A1_1 l1_1.length c1_1]) (t:=46) ?hr ?_;(case hd => rfl);(case hg => rfl);(case hr => first|(go_simp;done)|(go_simp;rfl));intro gb146 hg w14 hbox hb;have BK146:=zA (hbox);have GW146:=zA ((by rw [hg];exact (zT (zz HB)) : w.heap.size ≤ gb146));have GE146:=zA ((by rw [hg];exact (zT (zz HB)) : w.heap.size ≤ gb146));replace HB:=zA (zJb (zz HB) hb);have NB145_146:=zA ((by rw [hg];exact Nat.ne_of_lt (blk_lt (g:=gb145) (o:=.cells #[.slice A0_0 l0_0.length c0_0,.slice A0_1 l0_1.length c0_1] 46 (0,0)) (zx BK145)) : gb145 ≠ gb146));have NB146_145:=zA ((by rw [hg];exact Nat.ne_of_gt (blk_lt (g:=gb145) (o:=.cells #[.slice A0_0 l0_0.length c0_0,.slice A0_1 l0_1.length c0_1] 46 (0,0)) (zx BK145)) : gb146 ≠ gb145));replace BK145:=zA (zQ (g:=gb145) (o:=.cells #[.slice A0_0 l0_0.length c0_0,.slice A0_1 l0_1.length c0_1] 46 (0,0)) (zx BK145) hb);clear hb hbox hg;have hnb15:=NB145_146.out;have hnc15:=NB146_145.out;have hcz16_0:=zc (.slice A0_0 l0_0.length c0_0) BK145 0 rfl;have hcz16_1:=zc (.slice A0_1 l0_1.length c0_1) BK145 1 rfl;have hfz16_0:=blk_frozen BK145.out 0;have hfz16_1:=blk_frozen BK145.out 1;have hcz17_0:=zc (.slice A1_0 l1_0.length c1_0) BK146 0 rfl;have hcz17_1:=zc (.slice A1_1 l1_1.length c1_1) BK146 1 rfl;have hfz17_0:=blk_frozen BK146.out 0;have hfz17_1:=blk_frozen BK146.out 1)|((with_reducible refine gate_callee (f:=43) rfl ?_);refine goesL_ (some 9) rfl rfl Try.func43 (by kernel_rfl) rfl #[.slice A0_0 l0_0.length c0_0,.slice A1_0 l1_0.length c1_0] rfl (by (try simp only [zCb,zMb,zNb]);first|done|rfl|(simp only [zLb,zDb];rfl)) ?_;(with_reducible refine (laws_eqIntS.calls k _ _ l0_0 _ _ l1_0 true _ ?side1 ?side2 ?side3 ?side4 A3.out).mono ?_);(case side1 => repeat (first|exact (zKb HR0_0.out HB.out)|(with_reducible refine zBb ?_ _)|(with_reducible refine zAb ?_ _)|(with_reducible refine zX ?_)));(case side2 => exact HC0_0.out);(case side3 => repeat (first|exact (zKb HR1_0.out HB.out)|(with_reducible refine zBb ?_ _)|(with_reducible refine zAb ?_ _)|(with_reducible refine zX ?_)));(case side4 => exact HC1_0.out);rintro e w' ⟨rfl,⟨nd,rfl⟩⟩;refine ⟨_,rfl,?_⟩)|((with_reducible refine gate_callee (f:=89) rfl ?_);refine goesL_ (some 15) rfl rfl Try.func89 (by kernel_rfl) rfl #[.slice A0_1 l0_1.length c0_1,.slice A1_1 l1_1.length c1_1] rfl (by (try simp only [zCb,zMb,zNb]);first|done|rfl|(simp only [zLb,zDb];rfl)) ?_;(with_reducible refine (laws_eqAtomS.calls k _ _ l0_1 _ _ l1_1 false _ ?side1 ?side2 ?side3 ?side4 A5.out).mono ?_);(case side1 => repeat (first|exact (zKb HR0_1.out (zz HB))|(with_reducible refine zBb ?_ _)|(with_reducible refine zAb ?_ _)|(with_reducible refine zX ?_)));(case side2 => exact HC0_1.out);(case side3 => repeat (first|exact (zKb HR1_1.out (zz HB))|(with_reducible refine zBb ?_ _)|(with_reducible refine zAb ?_ _)|(with_reducible refine zX ?_)));(case side4 => exact HC1_1.out);rintro e w18 ⟨rfl,hb⟩;refine ⟨_,rfl,?_⟩;replace BK145:=zA (zQ (g:=gb145) (o:=.cells #[.slice A0_0 l0_0.length c0_0,.slice A0_1 l0_1.length c0_1] 46 (0,0)) (zx BK145) hb);replace BK146:=zA (zQ (g:=gb146) (o:=.cells #[.slice A1_0 l1_0.length c1_0,.slice A1_1 l1_1.length c1_1] 46 (0,0)) (zx BK146) hb);replace HB:=zA (zJb (zz HB) hb);(try clear hb);(try clear hb2);(try clear hk);(try clear hi)))
   go_ret
   exact ⟨by first|rfl|(simp [errW_none,errW_some] <;> rfl)|(simp [*,errW_none,errW_some] <;> rfl),zz HB⟩
 ·
  replace c4:=Bool.eq_false_iff.mpr c4
  subst c4
  have H1 : (some false) = some r:=by rw [if_neg (show ¬ (false = true) by decide)] at H;exact H
  clear H;have H:=H1;clear H1
  obtain rfl:=Option.some.inj H
  go_enter Try.func34,Try.ntmps34
  go_wp2_with (first|((with_reducible refine gate_dst (N:=2) rfl ?_);refine box_event ?hg (N:=2) ?hd (cs:=#[.slice A0_0 l0_0.length c0_0,.slice A0_1 l0_1.length c0_1]) (t:=46) ?hr ?_;(case hd => rfl);(case hg => rfl);(case hr => first|(go_simp;done)|(go_simp;rfl));intro gb145 hg w19 hbox hb;have BK145:=zA (hbox);have GW145:=zA ((by rw [hg];exact (zT (zz HB)) : w.heap.size ≤ gb145));have GE145:=zA ((by rw [hg];exact (zT (zz HB)) : w.heap.size ≤ gb145));replace HB:=zA (zJb (zz HB) hb);clear hb hbox hg)|((with_reducible refine gate_dst (N:=3) rfl ?_);refine box_event ?hg (N:=3) ?hd (cs:=#[.slice A1_0 l1_0.length c1_0,.slice A1_1 l1_1.length c1_1]) (t:=46) ?hr ?_;(case hd => rfl);(case hg => rfl);(case hr => first|(go_simp;done)|(go_simp;rfl));intro gb146 hg w20 hbox hb;have BK146:=zA (hbox);have GW146:=zA ((by rw [hg];exact (zT (zz HB)) : w.heap.size ≤ gb146));have GE146:=zA ((by rw [hg];exact (zT (zz HB)) : w.heap.size ≤ gb146));replace HB:=zA (zJb (zz HB) hb);have NB145_146:=zA ((by rw [hg];exact Nat.ne_of_lt (blk_lt (g:=gb145) (o:=.cells #[.slice A0_0 l0_0.length c0_0,.slice A0_1 l0_1.length c0_1] 46 (0,0)) (zx BK145)) : gb145 ≠ gb146));have NB146_145:=zA ((by rw [hg];exact Nat.ne_of_gt (blk_lt (g:=gb145) (o:=.cells #[.slice A0_0 l0_0.length c0_0,.slice A0_1 l0_1.length c0_1] 46 (0,0)) (zx BK145)) : gb146 ≠ gb145));replace BK145:=zA (zQ (g:=gb145) (o:=.cells #[.slice A0_0 l0_0.length c0_0,.slice A0_1 l0_1.length c0_1] 46 (0,0)) (zx BK145) hb);clear hb hbox hg;have hnb21:=NB145_146.out;have hnc21:=NB146_145.out;have hcz22_0:=zc (.slice A0_0 l0_0.length c0_0) BK145 0 rfl;have hcz22_1:=zc (.slice A0_1 l0_1.length c0_1) BK145 1 rfl;have hfz22_0:=blk_frozen BK145.out 0;have hfz22_1:=blk_frozen BK145.out 1;have hcz23_0:=zc (.slice A1_0 l1_0.length c1_0) BK146 0 rfl;have hcz23_1:=zc (.slice A1_1 l1_1.length c1_1) BK146 1 rfl;have hfz23_0:=blk_frozen BK146.out 0;have hfz23_1:=blk_frozen BK146.out 1)|((with_reducible refine gate_callee (f:=43) rfl ?_);refine goesL_ (some 9) rfl rfl Try.func43 (by kernel_rfl) rfl #[.slice A0_0 l0_0.length c0_0,.slice A1_0 l1_0.length c1_0] rfl (by (try simp only [zCb,zMb,zNb]);first|done|rfl|(simp only [zLb,zDb];rfl)) ?_;(with_reducible refine (laws_eqIntS.calls k _ _ l0_0 _ _ l1_0 false _ ?side1 ?side2 ?side3 ?side4 A3.out).mono ?_);(case side1 => repeat (first|exact (zKb HR0_0.out HB.out)|(with_reducible refine zBb ?_ _)|(with_reducible refine zAb ?_ _)|(with_reducible refine zX ?_)));(case side2 => exact HC0_0.out);(case side3 => repeat (first|exact (zKb HR1_0.out HB.out)|(with_reducible refine zBb ?_ _)|(with_reducible refine zAb ?_ _)|(with_reducible refine zX ?_)));(case side4 => exact HC1_0.out);rintro e w' ⟨rfl,⟨nd,rfl⟩⟩;refine ⟨_,rfl,?_⟩))
  go_ret
  exact ⟨by first|rfl|(simp [errW_none,errW_some] <;> rfl)|(simp [*,errW_none,errW_some] <;> rfl),zz HB⟩

/-! ### laws_markIntS: function 45 -/
def laws_markIntS.l0 : Nat → List Int → Int → Int → Option (Int × List Int)
 | 0, _, _, _ => none
 | k + 1, x0, x1, x5 => if x5 < (x0.length : Int) then (if 0 ≤ x5 then (laws_markIntS.l0 k (x0.set (x5 : Int).toNat x1) (wrap64 (x1 + 1)) (wrap64 (x5 + 1))) else (none)) else (some (x1, x0))
def laws_markIntS.f (k : Nat) (l0 : List Int) (a1 : Int) : Option (Int × List Int) := laws_markIntS.l0 k l0 a1 0
theorem laws_markIntS.mono_l : ∀ k, (∀ y0 y1 y2, LeO (laws_markIntS.l0 k y0 y1 y2) (laws_markIntS.l0 (k + 1) y0 y1 y2))
 | 0 => fun _ _ _ r h => by simp [laws_markIntS.l0] at h
 | k + 1 => by
  have ih0:=laws_markIntS.mono_l k
  ·
   intro y0 y1 y2
   unfold laws_markIntS.l0
   repeat' first
   | (with_reducible exact ih0 _ _ _)
   | (with_reducible exact LeO.refl _)
   | (with_reducible exact LeO.none _)
   | (with_reducible refine LeO.ite ?_ ?_)
   | (with_reducible refine LeO.bind ?_ (fun _ => ?_))
   | exact ih0 _ _ _
   | exact LeO.none _
   | refine LeO.ite ?_ ?_
   | refine LeO.bind ?_ (fun _ => ?_)
theorem laws_markIntS.mono : ∀ a0 a1 k, LeO (laws_markIntS.f k a0 a1) (laws_markIntS.f (k + 1) a0 a1) := by
 intro a0 a1 k
 have ih0:=laws_markIntS.mono_l k
 unfold laws_markIntS.f
 repeat' first
   | (with_reducible exact ih0 _ _ _)
   | (with_reducible exact LeO.refl _)
   | (with_reducible exact LeO.none _)
   | (with_reducible refine LeO.ite ?_ ?_)
   | (with_reducible refine LeO.bind ?_ (fun _ => ?_))
   | exact ih0 _ _ _
   | exact LeO.none _
   | refine LeO.ite ?_ ?_
   | refine LeO.bind ?_ (fun _ => ?_)
set_option maxHeartbeats 8000000 in
set_option maxRecDepth 100000 in
theorem laws_markIntS.calls (k : Nat) (P0_ : Nat → Prop) (u9000_ : Value) (l0 : List Int) (a1 : Int) (r1 : Int) (r2 : List Int) (w0 w : World) (hB : Below w0.heap.size w0 w) (ho0 : Kd.R (Kd.int .i64) 3 w w0.heap.size P0_ u9000_ l0) (h : laws_markIntS.f k l0 a1 = some (r1, r2)) :
  Calls Try.prog 45 #[u9000_, .int .i64 a1] w fun e w' => e = .returned (.int .i64 r1) ∧ Kd.R (Kd.int .i64) 3 w' w0.heap.size (fun k_ => (P0_ k_ ∨ w.heap.size ≤ k_)) u9000_ r2 ∧ Below w0.heap.size w0 w' ∧ Kept w w' (fun k_ => P0_ k_) := by
 have HO0:=zA (show Kd.R (Kd.int .i64) 3 w w0.heap.size (fun k_ => (P0_ k_ ∨ w.heap.size ≤ k_)) u9000_ l0 from zGb ho0 (fun k_ hk => (.inl hk)));have HK:=zA (Kept.refl w (fun k_ => P0_ k_));have HW0:=zA hB.size;have HB:=zA hB;clear hB
 have H : (laws_markIntS.l0 k l0 a1 0) = some (r1,r2):=h
 clear h
 have H':=zA H
 clear H
 go_enter Try.func45,Try.ntmps45
 go_wp2
 go_loopg [1,5] k (fun kq v1 v5 w' => ∃ (x0_1 : List Int) (x1_1 : Int) (x5_1 : Int),v1 = .int .i64 x1_1 ∧ v5 = .int .i64 x5_1 ∧ Aside0 (laws_markIntS.l0 kq x0_1 x1_1 x5_1 = some (r1,r2)) ∧ Aside0 (kq ≤ k) ∧ Aside0 (Kd.R (Kd.int .i64) 3 w' w0.heap.size (fun k_ => (P0_ k_ ∨ w.heap.size ≤ k_)) u9000_ x0_1) ∧ Aside0 (Kept w w' (fun k_ => P0_ k_)) ∧ Aside0 (Below w0.heap.size w0 w'))
 case atStart => exact ⟨(l0),(a1),(0),za,za,H',⟨Nat.le_refl _⟩,⟨zq HO0⟩,⟨by repeat (first|(with_reducible first|exact HK.out|apply Kept.alloc|apply Kept.drewN|apply Kept.drew)|exact HK.out)⟩,⟨zz HB⟩⟩
 case round =>
  clear H';(try clear p2);obtain ⟨x0_1,x1_1,x5_1,rfl,rfl,HA,HK1,HO_0,HK,HB⟩:=hrel
  cases gk with
  | zero => exact absurd HA.out (by simp [laws_markIntS.l0])
  | succ k1 =>
   have H:=HA.out;clear HA;simp only [laws_markIntS.l0] at H
   by_cases c3 : x5_1 < (x0_1.length : Int)
   ·
    rw [if_pos c3] at H;have c3b0:=decide_eq_true c3;clear c3
    by_cases c4 : 0 ≤ x5_1
    ·
     rw [if_pos c4] at H;have c4b0:=decide_eq_true c4;clear c4;obtain ⟨y149,hy149⟩ : ∃ y_ : List Int,y_ = (x0_1.set (x5_1 : Int).toNat x1_1):=⟨_,rfl⟩
     replace H : (laws_markIntS.l0 k1 y149 (wrap64 (x1_1 + 1)) (wrap64 (x5_1 + 1))) = some (r1,r2):=by first|(rw [hy149];with_reducible exact H)|(have H2_:=(Option.bind_some _ _).symm.trans H;rw [hy149];with_reducible exact H2_)|(have H2_:=(Option.bind_some _ _).symm.trans H;with_reducible exact H2_)|with_reducible exact H|(rw [hy149];exact H)|exact H
     have Ny149:=zA hy149;clear hy149
     have H':=zA H
     clear H;obtain ⟨Ao6,co6,eo6⟩:=Kd.R_slice HO_0.out
     subst eo6
     have p5 : 0 ≤ (x5_1 : Int):=zXb ze;have q5 : (x5_1 : Int) < ((x0_1.length : Int) : Int):=zXb ze;obtain ⟨go5,co5,eo5,gb5,gl5,cl5,HG5⟩:=Kd.R_form HO_0.out (by omega)
     (first|cases eo5|(injection eo5 with ea_ en_ ec_;(first|subst ea_|(injection ea_ with ea_;subst ea_));subst ec_;clear en_))
     have GB5:=zA gb5;have GG5:=zA HG5;clear gb5 gl5 HG5;have HMgo5:=zA (show (P0_ go5 ∨ w.heap.size ≤ go5) from (HO_0.out.1 _ rfl));obtain ⟨hx5_0,hf5_0⟩:=Kd.R_celln 0 HO_0.out (x5_1 : Int) p5 q5;replace p5:=eq_true p5;replace q5:=eq_true q5;have HP7:=Kd.R_putg HO_0.out (x5_1 : Int) x1_1
     go_wp2_with (first|((with_reducible refine gate_store (t:=3) (p:=15) rfl ?_);refine store_event (t:=3) (p:=15) (v:=?vo_w8) (w1:=(wr.setCell ⟨go5,(x5_1 : Int).toNat,none⟩ (.int .i64 x1_1))) ?hg ?ho ?hn ?hr ?_;(case ho => rfl);(case hg => rfl);(case hn => rfl);(case hr => first|(go_simp;done)|(go_simp;rfl));intro w8 hw;have hg : wr.grownBy w8 (some go5):=(by rw [hw];exact HP7.2);have hp_ : Kd.R (Kd.int .i64) 3 w8 w0.heap.size (fun k_ => (P0_ k_ ∨ w.heap.size ≤ k_)) (.slice (some ⟨go5,0,none⟩) x0_1.length co6) y149:=(by rw [hw,Ny149.out];exact HP7.1);clear HP7;replace HB:=zA ((by rw [hw];exact zB (HB.out) GB5.out : Below w0.heap.size w0 w8));replace HK:=zA (Kept.of_grown (S:=(fun k_ => P0_ k_)) hg (by repeat (first|(with_reducible first|exact HK.out|apply Kept.alloc|apply Kept.drewN|apply Kept.drew)|exact HK.out)) (fun k_ e_ => (HO_0.out.1 k_ e_)));replace HO_0:=zA (hp_);clear hg hw hp_))
     go_roundg k1
     case measure => have:=HK1.out;omega
     case rel => exact ⟨(y149),(wrap64 (x1_1 + 1)),(wrap64 (x5_1 + 1)),za,za,H',⟨by have:=HK1.out;omega⟩,⟨zq HO_0⟩,⟨by repeat (first|(with_reducible first|exact HK.out|apply Kept.alloc|apply Kept.drewN|apply Kept.drew)|exact HK.out)⟩,⟨zz HB⟩⟩
    ·
     rw [if_neg c4] at H
     exact absurd H (by simp)
   ·
    rw [if_neg c3] at H;have c3b0:=decide_eq_false c3;clear c3;simp only [Option.some.injEq,Prod.mk.injEq] at H;obtain ⟨rfl,rfl⟩:=H;obtain ⟨Ao9,co9,eo9⟩:=Kd.R_slice HO_0.out
    subst eo9
    go_wp2
    go_ret
    exact ⟨by first|rfl|(simp [errW_none,errW_some] <;> rfl)|(simp [*,errW_none,errW_some] <;> rfl),zq HO_0,zz HB,by repeat (first|(with_reducible first|exact HK.out|apply Kept.alloc|apply Kept.drewN|apply Kept.drew)|exact HK.out)⟩

-- NOT PRINTED: function 99 (laws_markAtomS)

-- NOT PRINTED: function 44 (laws_markQuery)

/-! ### laws_szSchema: function 47 -/
def laws_szSchema.f (l0_0 : List Int) (a1 : Int) : Option (Int) := (laws_szIntS.f l0_0 a1).bind fun t154 => (if t154 < 0 then (some (-1)) else (some t154))
set_option maxHeartbeats 8000000 in
set_option maxRecDepth 100000 in
theorem laws_szSchema.calls (A0_0 : Option Addr) (c0_0 : Nat) (l0_0 : List Int) (a1 : Int) (r : Int) (w : World) (hr0_0 : Kd.C (Kd.int .i64) w A0_0 l0_0.length l0_0) (hc0_0 : l0_0.length ≤ c0_0) (h : laws_szSchema.f l0_0 a1 = some r) :
  Calls Try.prog 47 #[.agg #[.slice A0_0 l0_0.length c0_0], .int .i64 a1] w fun e w' => e = .returned (.int .i64 r) ∧ Below w.heap.size w w' := by
 have hu62:=Try.underlying62;have HR0_0:=zA hr0_0;have HC0_0:=zA hc0_0;clear hr0_0 hc0_0;have HB:=zA (Below.refl w.heap.size w)
 have H : ((laws_szIntS.f l0_0 a1).bind fun t154 => (if t154 < 0 then (some (-1)) else (some t154))) = some r:=h
 clear h;replace H:=Option.bind_eq_some_iff.mp H;obtain ⟨t154,A30,H⟩:=H;(try dsimp only at H);have A3:=zA A30;clear A30
 by_cases c4 : t154 < 0
 ·
  rw [if_pos c4] at H;have c4b0:=decide_eq_true c4;clear c4
  obtain rfl:=Option.some.inj H
  go_enter Try.func47,Try.ntmps47
  go_wp2_with (first|((with_reducible refine gate_dst (N:=2) rfl ?_);refine box_event ?hg (N:=2) ?hd (cs:=#[.slice A0_0 l0_0.length c0_0]) (t:=62) ?hr ?_;(case hd => rfl);(case hg => rfl);(case hr => first|(go_simp;done)|(go_simp;rfl));intro gb153 hg w5 hbox hb;have BK153:=zA (hbox);have GW153:=zA ((by rw [hg];exact (zT (zz HB)) : w.heap.size ≤ gb153));have GE153:=zA ((by rw [hg];exact (zT (zz HB)) : w.heap.size ≤ gb153));replace HB:=zA (zJb (zz HB) hb);clear hb hbox hg;have hcz6_0:=zc (.slice A0_0 l0_0.length c0_0) BK153 0 rfl;have hfz6_0:=blk_frozen BK153.out 0)|((with_reducible refine gate_callee (f:=81) rfl ?_);refine goesL_ (some 8) rfl rfl Try.func81 (by kernel_rfl) rfl #[.slice A0_0 l0_0.length c0_0,.int .i64 a1] rfl (by (try simp only [zCb,zMb,zNb]);first|done|rfl|(simp only [zLb,zDb];rfl)) ?_;(with_reducible refine (laws_szIntS.calls _ _ l0_0 a1 t154 _ ?side1 ?side2 A3.out).mono ?_);(case side1 => repeat (first|exact (zKb HR0_0.out HB.out)|(with_reducible refine zBb ?_ _)|(with_reducible refine zAb ?_ _)|(with_reducible refine zX ?_)));(case side2 => exact HC0_0.out);rintro e w' ⟨rfl,⟨nd,rfl⟩⟩;refine ⟨_,rfl,?_⟩))
  go_ret
  exact ⟨by first|rfl|(simp [errW_none,errW_some] <;> rfl)|(simp [*,errW_none,errW_some] <;> rfl),zz HB⟩
 ·
  rw [if_neg c4] at H;have c4b0:=decide_eq_false c4;clear c4
  obtain rfl:=Option.some.inj H
  go_enter Try.func47,Try.ntmps47
  go_wp2_with (first|((with_reducible refine gate_dst (N:=2) rfl ?_);refine box_event ?hg (N:=2) ?hd (cs:=#[.slice A0_0 l0_0.length c0_0]) (t:=62) ?hr ?_;(case hd => rfl);(case hg => rfl);(case hr => first|(go_simp;done)|(go_simp;rfl));intro gb153 hg w7 hbox hb;have BK153:=zA (hbox);have GW153:=zA ((by rw [hg];exact (zT (zz HB)) : w.heap.size ≤ gb153));have GE153:=zA ((by rw [hg];exact (zT (zz HB)) : w.heap.size ≤ gb153));replace HB:=zA (zJb (zz HB) hb);clear hb hbox hg;have hcz8_0:=zc (.slice A0_0 l0_0.length c0_0) BK153 0 rfl;have hfz8_0:=blk_frozen BK153.out 0)|((with_reducible refine gate_callee (f:=81) rfl ?_);refine goesL_ (some 8) rfl rfl Try.func81 (by kernel_rfl) rfl #[.slice A0_0 l0_0.length c0_0,.int .i64 a1] rfl (by (try simp only [zCb,zMb,zNb]);first|done|rfl|(simp only [zLb,zDb];rfl)) ?_;(with_reducible refine (laws_szIntS.calls _ _ l0_0 a1 t154 _ ?side1 ?side2 A3.out).mono ?_);(case side1 => repeat (first|exact (zKb HR0_0.out HB.out)|(with_reducible refine zBb ?_ _)|(with_reducible refine zAb ?_ _)|(with_reducible refine zX ?_)));(case side2 => exact HC0_0.out);rintro e w' ⟨rfl,⟨nd,rfl⟩⟩;refine ⟨_,rfl,?_⟩))
  go_ret
  exact ⟨by first|rfl|(simp [errW_none,errW_some] <;> rfl)|(simp [*,errW_none,errW_some] <;> rfl),zz HB⟩

/-! ### laws_toSchema: function 49 -/
def laws_toSchema.f (k : Nat) (l0_0 : List Int) : Option (List Int) := (laws_toIntS.f k l0_0).bind fun t158 => (some t158)
theorem laws_toSchema.mono : ∀ a0 k, LeO (laws_toSchema.f k a0) (laws_toSchema.f (k + 1) a0) := by
 intro a0 k
 unfold laws_toSchema.f
 repeat' first
   | (with_reducible exact laws_toIntS.mono _ _)
   | (with_reducible exact LeO.refl _)
   | (with_reducible exact LeO.none _)
   | (with_reducible refine LeO.ite ?_ ?_)
   | (with_reducible refine LeO.bind ?_ (fun _ => ?_))
   | exact LeO.none _
   | refine LeO.ite ?_ ?_
   | refine LeO.bind ?_ (fun _ => ?_)
set_option maxHeartbeats 8000000 in
set_option maxRecDepth 100000 in
theorem laws_toSchema.calls (k : Nat) (A0_0 : Option Addr) (c0_0 : Nat) (l0_0 : List Int) (r : List Int) (w : World) (hr0_0 : Kd.C (Kd.int .i64) w A0_0 l0_0.length l0_0) (hc0_0 : l0_0.length ≤ c0_0) (h : laws_toSchema.f k l0_0 = some r) :
  Calls Try.prog 49 #[.agg #[.slice A0_0 l0_0.length c0_0]] w fun e w' => ∃ v0_ : Value, e = .returned (.agg #[v0_]) ∧ Kd.R (Kd.int .i64) 3 w' w.heap.size (fun _ => True) v0_ r ∧ Below w.heap.size w w' := by
 have hu62:=Try.underlying62;have hu65:=Try.underlying65;have HR0_0:=zA hr0_0;have HC0_0:=zA hc0_0;clear hr0_0 hc0_0;have HB:=zA (Below.refl w.heap.size w)
 have H : ((laws_toIntS.f k l0_0).bind fun t158 => (some t158)) = some r:=h
 clear h;replace H:=Option.bind_eq_some_iff.mp H;obtain ⟨t158,A20,H⟩:=H;(try dsimp only at H);have A2:=zA A20;clear A20
 obtain rfl:=Option.some.inj H
 go_enter Try.func49,Try.ntmps49
 go_wp2_with (first|((with_reducible refine gate_dst (N:=1) rfl ?_);refine box_event ?hg (N:=1) ?hd (cs:=#[.slice A0_0 l0_0.length c0_0]) (t:=62) ?hr ?_;(case hd => rfl);(case hg => rfl);(case hr => first|(go_simp;done)|(go_simp;rfl));intro gb155 hg w3 hbox hb;have BK155:=zA (hbox);have GW155:=zA ((by rw [hg];exact (zT (zz HB)) : w.heap.size ≤ gb155));have GE155:=zA ((by rw [hg];exact (zT (zz HB)) : w.heap.size ≤ gb155));replace HB:=zA (zJb (zz HB) hb);clear hb hbox hg)|((with_reducible refine gate_dst (N:=2) rfl ?_);refine box_event ?hg (N:=2) ?hd (cs:=#[.slice none 0 0]) (t:=65) ?hr ?_;(case hd => rfl);(case hg => rfl);(case hr => first|(go_simp;done)|(go_simp;rfl));intro gb156 hg w4 hbox hb;have BK156:=zA (hbox);have GW156:=zA ((by rw [hg];exact (zT (zz HB)) : w.heap.size ≤ gb156));have GE156:=zA ((by rw [hg];exact (zT (zz HB)) : w.heap.size ≤ gb156));replace HB:=zA (zJb (zz HB) hb);have NB155_156:=zA ((by rw [hg];exact Nat.ne_of_lt (blk_lt (g:=gb155) (o:=.cells #[.slice A0_0 l0_0.length c0_0] 62 (0,0)) (zx BK155)) : gb155 ≠ gb156));have NB156_155:=zA ((by rw [hg];exact Nat.ne_of_gt (blk_lt (g:=gb155) (o:=.cells #[.slice A0_0 l0_0.length c0_0] 62 (0,0)) (zx BK155)) : gb156 ≠ gb155));replace BK155:=zA (zQ (g:=gb155) (o:=.cells #[.slice A0_0 l0_0.length c0_0] 62 (0,0)) (zx BK155) hb);clear hb hbox hg)|((with_reducible refine gate_dst (N:=3) rfl ?_);refine box_event ?hg (N:=3) ?hd (cs:=#[.slice none 0 0]) (t:=65) ?hr ?_;(case hd => rfl);(case hg => rfl);(case hr => first|(go_simp;done)|(go_simp;rfl));intro gb157 hg w5 hbox hb;have BK157:=zA (hbox);have GW157:=zA ((by rw [hg];exact (zT (zz HB)) : w.heap.size ≤ gb157));have GE157:=zA ((by rw [hg];exact (zT (zz HB)) : w.heap.size ≤ gb157));replace HB:=zA (zJb (zz HB) hb);have NB155_157:=zA ((by rw [hg];exact Nat.ne_of_lt (blk_lt (g:=gb155) (o:=.cells #[.slice A0_0 l0_0.length c0_0] 62 (0,0)) (zx BK155)) : gb155 ≠ gb157));have NB157_155:=zA ((by rw [hg];exact Nat.ne_of_gt (blk_lt (g:=gb155) (o:=.cells #[.slice A0_0 l0_0.length c0_0] 62 (0,0)) (zx BK155)) : gb157 ≠ gb155));replace BK155:=zA (zQ (g:=gb155) (o:=.cells #[.slice A0_0 l0_0.length c0_0] 62 (0,0)) (zx BK155) hb);have NB156_157:=zA ((by rw [hg];exact Nat.ne_of_lt (blk_lt (g:=gb156) (o:=.cells #[.slice none 0 0] 65 (0,0)) (zx BK156)) : gb156 ≠ gb157));have NB157_156:=zA ((by rw [hg];exact Nat.ne_of_gt (blk_lt (g:=gb156) (o:=.cells #[.slice none 0 0] 65 (0,0)) (zx BK156)) : gb157 ≠ gb156));replace BK156:=zA (zQ (g:=gb156) (o:=.cells #[.slice none 0 0] 65 (0,0)) (zx BK156) hb);clear hb hbox hg;have hnb6:=NB155_156.out;have hnc6:=NB156_155.out;have hnb7:=NB155_157.out;have hnc7:=NB157_155.out;have hcz8_0:=zc (.slice A0_0 l0_0.length c0_0) BK155 0 rfl;have hfz8_0:=blk_frozen BK155.out 0)|((with_reducible refine gate_callee (f:=41) rfl ?_);refine goesL_ (some 6) rfl rfl Try.func41 (by kernel_rfl) rfl #[.slice A0_0 l0_0.length c0_0] rfl (by (try simp only [zCb,zMb,zNb]);first|done|rfl|(simp only [zLb,zDb];rfl)) ?_;(with_reducible refine (laws_toIntS.calls k _ _ l0_0 t158 _ ?side1 ?side2 A2.out).mono ?_);(case side1 => repeat (first|exact (zKb HR0_0.out HB.out)|(with_reducible refine zBb ?_ _)|(with_reducible refine zAb ?_ _)|(with_reducible refine zX ?_)));(case side2 => exact HC0_0.out);rintro e w9 ⟨v159,rfl,ho0,hb⟩;refine ⟨_,rfl,?_⟩;have HO160:=zA (zHb ho0 (zT (zz HB)));replace BK155:=zA (zQ (g:=gb155) (o:=.cells #[.slice A0_0 l0_0.length c0_0] 62 (0,0)) (zx BK155) hb);replace BK156:=zA (zQ (g:=gb156) (o:=.cells #[.slice none 0 0] 65 (0,0)) (zx BK156) hb);replace BK157:=zA (zQ (g:=gb157) (o:=.cells #[.slice none 0 0] 65 (0,0)) (zx BK157) hb);replace HB:=zA (zJb (zz HB) hb);(try clear hb);(try clear hb2);(try clear hk);(try clear hi);(try clear ho0);obtain ⟨Ao10,co10,eo10⟩:=Kd.R_slice HO160.out;subst eo10;have hnb11:=NB157_156.out;have hnc11:=NB156_157.out;have hcz12_0:=zc (.slice none 0 0) BK157 0 rfl;have hfz12_0:=blk_frozen BK157.out 0;have hcz13_0:=zc (.slice none 0 0) BK156 0 rfl;have hfz13_0:=blk_frozen BK156.out 0))
 refine bodyPost_ret (results_cell_row rfl _ _ gb156 65 #[.slice Ao10 t158.length co10] (0,0) _ rfl (by (with_reducible repeat (first|refine zF ?_ _|refine zI ?_|refine zG ?_ _));refine blk_put (cs:=#[.slice none 0 0]) ?_ 0 _ rfl;(with_reducible repeat (first|refine zF ?_ _|refine zI ?_|refine zG ?_ _));refine zUb ?_ NB156_157.out _;(with_reducible repeat (first|refine zF ?_ _|refine zI ?_|refine zG ?_ _));exact BK156.out) Try.underlying65 rfl (by kernel_rfl)) rfl ?_
 exact ⟨_,by first|rfl|(simp [errW_none,errW_some] <;> rfl)|(simp [*,errW_none,errW_some] <;> rfl),by (with_reducible repeat (first|apply zE|apply zD|apply zH));exact zGb (zR (p:=⟨gb156,0,none⟩) (zR (p:=⟨gb157,0,none⟩) (Kd.R_types (Kd.R_types HO160.out BK157.out (by decide)) BK156.out (by decide)) (fun _ hk => hk.1.2) (.slice Ao10 t158.length co10)) (fun _ hk => hk.2) (.slice Ao10 t158.length co10)) (fun _ hk => trivial),zz HB⟩

/-! ### laws_eqSchema: function 51 -/
def laws_eqSchema.f (k : Nat) (l0_0 : List Int) (l1_0 : List Int) : Option (Bool) := (laws_eqIntS.f k l0_0 l1_0).bind fun t163 => (if t163 = true then (some true) else (some false))
theorem laws_eqSchema.mono : ∀ a0 a1 k, LeO (laws_eqSchema.f k a0 a1) (laws_eqSchema.f (k + 1) a0 a1) := by
 intro a0 a1 k
 unfold laws_eqSchema.f
 repeat' first
   | (with_reducible exact laws_eqIntS.mono _ _ _)
   | (with_reducible exact LeO.refl _)
   | (with_reducible exact LeO.none _)
   | (with_reducible refine LeO.ite ?_ ?_)
   | (with_reducible refine LeO.bind ?_ (fun _ => ?_))
   | exact LeO.none _
   | refine LeO.ite ?_ ?_
   | refine LeO.bind ?_ (fun _ => ?_)
set_option maxHeartbeats 8000000 in
set_option maxRecDepth 100000 in
theorem laws_eqSchema.calls (k : Nat) (A0_0 : Option Addr) (c0_0 : Nat) (l0_0 : List Int) (A1_0 : Option Addr) (c1_0 : Nat) (l1_0 : List Int) (r : Bool) (w : World) (hr0_0 : Kd.C (Kd.int .i64) w A0_0 l0_0.length l0_0) (hc0_0 : l0_0.length ≤ c0_0) (hr1_0 : Kd.C (Kd.int .i64) w A1_0 l1_0.length l1_0) (hc1_0 : l1_0.length ≤ c1_0) (h : laws_eqSchema.f k l0_0 l1_0 = some r) :
  Calls Try.prog 51 #[.agg #[.slice A0_0 l0_0.length c0_0], .agg #[.slice A1_0 l1_0.length c1_0]] w fun e w' => e = .returned (.bool r) ∧ Below w.heap.size w w' := by
 have hu65:=Try.underlying65;have HR0_0:=zA hr0_0;have HC0_0:=zA hc0_0;clear hr0_0 hc0_0;have HR1_0:=zA hr1_0;have HC1_0:=zA hc1_0;clear hr1_0 hc1_0;have HB:=zA (Below.refl w.heap.size w)
 have H : ((laws_eqIntS.f k l0_0 l1_0).bind fun t163 => (if t163 = true then (some true) else (some false))) = some r:=h
 clear h;replace H:=Option.bind_eq_some_iff.mp H;obtain ⟨t163,A30,H⟩:=H;(try dsimp only at H);have A3:=zA A30;clear A30
 by_cases c4 : t163 = true
 ·
  subst c4
  rw [if_pos rfl] at H
  obtain rfl:=Option.some.inj H
  go_enter Try.func51,Try.ntmps51
  go_wp2_with (first|((with_reducible refine gate_dst (N:=2) rfl ?_);refine box_event ?hg (N:=2) ?hd (cs:=#[.slice A0_0 l0_0.length c0_0]) (t:=65) ?hr ?_;(case hd => rfl);(case hg => rfl);(case hr => first|(go_simp;done)|(go_simp;rfl));intro gb161 hg w5 hbox hb;have BK161:=zA (hbox);have GW161:=zA ((by rw [hg];exact (zT (zz HB)) : w.heap.size ≤ gb161));have GE161:=zA ((by rw [hg];exact (zT (zz HB)) : w.heap.size ≤ gb161));replace HB:=zA (zJb (zz HB) hb);clear hb hbox hg)|((with_reducible refine gate_dst (N:=3) rfl ?_);refine box_event ?hg (N:=3) ?hd (cs:=#[.slice A1_0 l1_0.length c1_0]) (t:=65) ?hr ?_;(case hd => rfl);(case hg => rfl);(case hr => first|(go_simp;done)|(go_simp;rfl));intro gb162 hg w6 hbox hb;have BK162:=zA (hbox);have GW162:=zA ((by rw [hg];exact (zT (zz HB)) : w.heap.size ≤ gb162));have GE162:=zA ((by rw [hg];exact (zT (zz HB)) : w.heap.size ≤ gb162));replace HB:=zA (zJb (zz HB) hb);have NB161_162:=zA ((by rw [hg];exact Nat.ne_of_lt (blk_lt (g:=gb161) (o:=.cells #[.slice A0_0 l0_0.length c0_0] 65 (0,0)) (zx BK161)) : gb161 ≠ gb162));have NB162_161:=zA ((by rw [hg];exact Nat.ne_of_gt (blk_lt (g:=gb161) (o:=.cells #[.slice A0_0 l0_0.length c0_0] 65 (0,0)) (zx BK161)) : gb162 ≠ gb161));replace BK161:=zA (zQ (g:=gb161) (o:=.cells #[.slice A0_0 l0_0.length c0_0] 65 (0,0)) (zx BK161) hb);clear hb hbox hg;have hnb7:=NB161_162.out;have hnc7:=NB162_161.out;have hcz8_0:=zc (.slice A0_0 l0_0.length c0_0) BK161 0 rfl;have hfz8_0:=blk_frozen BK161.out 0;have hcz9_0:=zc (.slice A1_0 l1_0.length c1_0) BK162 0 rfl;have hfz9_0:=blk_frozen BK162.out 0)|((with_reducible refine gate_callee (f:=43) rfl ?_);refine goesL_ (some 9) rfl rfl Try.func43 (by kernel_rfl) rfl #[.slice A0_0 l0_0.length c0_0,.slice A1_0 l1_0.length c1_0] rfl (by (try simp only [zCb,zMb,zNb]);first|done|rfl|(simp only [zLb,zDb];rfl)) ?_;(with_reducible refine (laws_eqIntS.calls k _ _ l0_0 _ _ l1_0 true _ ?side1 ?side2 ?side3 ?side4 A3.out).mono ?_);(case side1 => repeat (first|exact (zKb HR0_0.out HB.out)|(with_reducible refine zBb ?_ _)|(with_reducible refine zAb ?_ _)|(with_reducible refine zX ?_)));(case side2 => exact HC0_0.out);(case side3 => repeat (first|exact (zKb HR1_0.out HB.out)|(with_reducible refine zBb ?_ _)|(with_reducible refine zAb ?_ _)|(with_reducible refine zX ?_)));(case side4 => exact HC1_0.out);rintro e w' ⟨rfl,⟨nd,rfl⟩⟩;refine ⟨_,rfl,?_⟩))
  go_ret
  exact ⟨by first|rfl|(simp [errW_none,errW_some] <;> rfl)|(simp [*,errW_none,errW_some] <;> rfl),zz HB⟩
 ·
  replace c4:=Bool.eq_false_iff.mpr c4
  subst c4
  have H1 : (some false) = some r:=by rw [if_neg (show ¬ (false = true) by decide)] at H;exact H
  clear H;have H:=H1;clear H1
  obtain rfl:=Option.some.inj H
  go_enter Try.func51,Try.ntmps51
  go_wp2_with (first|((with_reducible refine gate_dst (N:=2) rfl ?_);refine box_event ?hg (N:=2) ?hd (cs:=#[.slice A0_0 l0_0.length c0_0]) (t:=65) ?hr ?_;(case hd => rfl);(case hg => rfl);(case hr => first|(go_simp;done)|(go_simp;rfl));intro gb161 hg w10 hbox hb;have BK161:=zA (hbox);have GW161:=zA ((by rw [hg];exact (zT (zz HB)) : w.heap.size ≤ gb161));have GE161:=zA ((by rw [hg];exact (zT (zz HB)) : w.heap.size ≤ gb161));replace HB:=zA (zJb (zz HB) hb);clear hb hbox hg)|((with_reducible refine gate_dst (N:=3) rfl ?_);refine box_event ?hg (N:=3) ?hd (cs:=#[.slice A1_0 l1_0.length c1_0]) (t:=65) ?hr ?_;(case hd => rfl);(case hg => rfl);(case hr => first|(go_simp;done)|(go_simp;rfl));intro gb162 hg w11 hbox hb;have BK162:=zA (hbox);have GW162:=zA ((by rw [hg];exact (zT (zz HB)) : w.heap.size ≤ gb162));have GE162:=zA ((by rw [hg];exact (zT (zz HB)) : w.heap.size ≤ gb162));replace HB:=zA (zJb (zz HB) hb);have NB161_162:=zA ((by rw [hg];exact Nat.ne_of_lt (blk_lt (g:=gb161) (o:=.cells #[.slice A0_0 l0_0.length c0_0] 65 (0,0)) (zx BK161)) : gb161 ≠ gb162));have NB162_161:=zA ((by rw [hg];exact Nat.ne_of_gt (blk_lt (g:=gb161) (o:=.cells #[.slice A0_0 l0_0.length c0_0] 65 (0,0)) (zx BK161)) : gb162 ≠ gb161));replace BK161:=zA (zQ (g:=gb161) (o:=.cells #[.slice A0_0 l0_0.length c0_0] 65 (0,0)) (zx BK161) hb);clear hb hbox hg;have hnb12:=NB161_162.out;have hnc12:=NB162_161.out;have hcz13_0:=zc (.slice A0_0 l0_0.length c0_0) BK161 0 rfl;have hfz13_0:=blk_frozen BK161.out 0;have hcz14_0:=zc (.slice A1_0 l1_0.length c1_0) BK162 0 rfl;have hfz14_0:=blk_frozen BK162.out 0)|((with_reducible refine gate_callee (f:=43) rfl ?_);refine goesL_ (some 9) rfl rfl Try.func43 (by kernel_rfl) rfl #[.slice A0_0 l0_0.length c0_0,.slice A1_0 l1_0.length c1_0] rfl (by (try simp only [zCb,zMb,zNb]);first|done|rfl|(simp only [zLb,zDb];rfl)) ?_;(with_reducible refine (laws_eqIntS.calls k _ _ l0_0 _ _ l1_0 false _ ?side1 ?side2 ?side3 ?side4 A3.out).mono ?_);(case side1 => repeat (first|exact (zKb HR0_0.out HB.out)|(with_reducible refine zBb ?_ _)|(with_reducible refine zAb ?_ _)|(with_reducible refine zX ?_)));(case side2 => exact HC0_0.out);(case side3 => repeat (first|exact (zKb HR1_0.out HB.out)|(with_reducible refine zBb ?_ _)|(with_reducible refine zAb ?_ _)|(with_reducible refine zX ?_)));(case side4 => exact HC1_0.out);rintro e w' ⟨rfl,⟨nd,rfl⟩⟩;refine ⟨_,rfl,?_⟩))
  go_ret
  exact ⟨by first|rfl|(simp [errW_none,errW_some] <;> rfl)|(simp [*,errW_none,errW_some] <;> rfl),zz HB⟩

/-! ### spec_l1In: function 80 -/
def spec_l1In.f (a0 : Int) (a1 : Int) (a2 : Int) : Option (Bool) := if a0 ≥ a1 then (some (decide (a0 ≤ a2))) else (some false)
set_option maxHeartbeats 8000000 in
set_option maxRecDepth 100000 in
theorem spec_l1In.calls (a0 : Int) (a1 : Int) (a2 : Int) (r : Bool) (w : World) (h : spec_l1In.f a0 a1 a2 = some r) :
  Calls Try.prog 80 #[.int .i64 a0, .int .i64 a1, .int .i64 a2] w fun e w' => e = .returned (.bool r) ∧ Drawn0 w w' := by
 have H : (if a0 ≥ a1 then (some (decide (a0 ≤ a2))) else (some false)) = some r:=h
 clear h
 by_cases c4 : a0 ≥ a1
 ·
  rw [if_pos c4] at H
  have c4b0 : decide (a1 ≤ a0) = true:=decide_eq_true c4
  clear c4
  obtain rfl:=Option.some.inj H
  go_enter Try.func80,Try.ntmps80
  go_wp2
  go_ret
  exact ⟨by first|rfl|(simp;done)|(simp [*];done),by repeat (first|exact Drawn0.refl _|apply Drawn0.step)⟩
 ·
  rw [if_neg c4] at H
  have c4b0 : decide (a1 ≤ a0) = false:=decide_eq_false c4
  clear c4
  obtain rfl:=Option.some.inj H
  go_enter Try.func80,Try.ntmps80
  go_wp2
  go_ret
  exact ⟨by first|rfl|(simp;done)|(simp [*];done),by repeat (first|exact Drawn0.refl _|apply Drawn0.step)⟩

/-! ### spec_IsVar: function 117 -/
def spec_IsVar.f (a0 : Int) : Option (Bool) := (spec_l1In.f a0 0 19).bind fun t164 => (some t164)
set_option maxHeartbeats 8000000 in
set_option maxRecDepth 100000 in
theorem spec_IsVar.calls (a0 : Int) (r : Bool) (w : World) (h : spec_IsVar.f a0 = some r) :
  Calls Try.prog 117 #[.int .i64 a0] w fun e w' => e = .returned (.bool r) ∧ Drawn0 w w' := by
 have H : ((spec_l1In.f a0 0 19).bind fun t164 => (some t164)) = some r:=h
 clear h;replace H:=Option.bind_eq_some_iff.mp H;obtain ⟨t164,A20,H⟩:=H;(try dsimp only at H);have A2:=zA A20;clear A20
 obtain rfl:=Option.some.inj H
 go_enter Try.func117,Try.ntmps117
 go_wp2_with (first|((with_reducible refine gate_callee (f:=80) rfl ?_);refine goesL_ (some 4) rfl rfl Try.func80 (by kernel_rfl) rfl #[.int .i64 a0,.int .i64 0,.int .i64 19] rfl (by (try simp only [zCb,zMb,zNb]);first|done|rfl|(simp only [zLb,zDb];rfl)) ?_;(with_reducible refine (spec_l1In.calls a0 0 19 t164 _ A2.out).mono ?_);rintro e w' ⟨rfl,⟨nd,rfl⟩⟩;refine ⟨_,rfl,?_⟩))
 go_ret
 exact ⟨by first|rfl|(simp;done)|(simp [*];done),by repeat (first|exact Drawn0.refl _|apply Drawn0.step)⟩

/-! ### spec_IsSchema: function 148 -/
def spec_IsSchema.l0 : Nat → Int → List Int → Option (Bool)
 | 0, _, _ => none
 | k + 1, x3, x166000 => if x3 < (x166000.length : Int) then (if 0 ≤ x3 then ((spec_l1In.f (rd x166000 x3) 1 3).bind fun t167 => (if t167 = true then (spec_IsSchema.l0 k (wrap64 (x3 + 1)) x166000) else (some false))) else (none)) else ((spec_l1In.f (x166000.length : Int) 1 4).bind fun t168 => (some t168))
def spec_IsSchema.f (k : Nat) (l0_0 : List Int) : Option (Bool) := spec_IsSchema.l0 k 0 l0_0
theorem spec_IsSchema.mono_l : ∀ k, (∀ y0 y1, LeO (spec_IsSchema.l0 k y0 y1) (spec_IsSchema.l0 (k + 1) y0 y1))
 | 0 => fun _ _ r h => by simp [spec_IsSchema.l0] at h
 | k + 1 => by
  have ih0:=spec_IsSchema.mono_l k
  ·
   intro y0 y1
   unfold spec_IsSchema.l0
   repeat' first
   | (with_reducible exact ih0 _ _)
   | (with_reducible exact LeO.refl _)
   | (with_reducible exact LeO.none _)
   | (with_reducible refine LeO.ite ?_ ?_)
   | (with_reducible refine LeO.bind ?_ (fun _ => ?_))
   | exact ih0 _ _
   | exact LeO.none _
   | refine LeO.ite ?_ ?_
   | refine LeO.bind ?_ (fun _ => ?_)
theorem spec_IsSchema.mono : ∀ a0 k, LeO (spec_IsSchema.f k a0) (spec_IsSchema.f (k + 1) a0) := by
 intro a0 k
 have ih0:=spec_IsSchema.mono_l k
 unfold spec_IsSchema.f
 repeat' first
   | (with_reducible exact ih0 _ _)
   | (with_reducible exact LeO.refl _)
   | (with_reducible exact LeO.none _)
   | (with_reducible refine LeO.ite ?_ ?_)
   | (with_reducible refine LeO.bind ?_ (fun _ => ?_))
   | exact ih0 _ _
   | exact LeO.none _
   | refine LeO.ite ?_ ?_
   | refine LeO.bind ?_ (fun _ => ?_)
set_option maxHeartbeats 8000000 in
set_option maxRecDepth 100000 in
theorem spec_IsSchema.calls (k : Nat) (A0_0 : Option Addr) (c0_0 : Nat) (l0_0 : List Int) (r : Bool) (w : World) (hr0_0 : Kd.C (Kd.int .i64) w A0_0 l0_0.length l0_0) (hc0_0 : l0_0.length ≤ c0_0) (h : spec_IsSchema.f k l0_0 = some r) :
  Calls Try.prog 148 #[.agg #[.slice A0_0 l0_0.length c0_0]] w fun e w' => e = .returned (.bool r) ∧ Below w.heap.size w w' := by
 have hu65:=Try.underlying65;have HR0_0:=zA hr0_0;have HC0_0:=zA hc0_0;clear hr0_0 hc0_0;have HB:=zA (Below.refl w.heap.size w)
 have H : (spec_IsSchema.l0 k 0 l0_0) = some r:=h
 clear h
 have H':=zA H
 clear H
 go_enter Try.func148,Try.ntmps148
 go_wp2_with (first|((with_reducible refine gate_dst (N:=1) rfl ?_);refine box_event ?hg (N:=1) ?hd (cs:=#[.slice A0_0 l0_0.length c0_0]) (t:=65) ?hr ?_;(case hd => rfl);(case hg => rfl);(case hr => first|(go_simp;done)|(go_simp;rfl));intro gb165 hg w2 hbox hb;have BK165:=zA (hbox);have GW165:=zA ((by rw [hg];exact (zT (zz HB)) : w.heap.size ≤ gb165));have GE165:=zA ((by rw [hg];exact (zT (zz HB)) : w.heap.size ≤ gb165));replace HB:=zA (zJb (zz HB) hb);clear hb hbox hg))
 go_loopg [3] k (fun kq v3 w' => ∃ (x3_1 : Int),v3 = .int .i64 x3_1 ∧ Aside0 (spec_IsSchema.l0 kq x3_1 l0_0 = some r) ∧ Aside0 (kq ≤ k) ∧ Aside0 (w'.heap[gb165]? = some (.cells #[(.slice A0_0 l0_0.length c0_0)] 65 (0,0))) ∧ Aside0 (Below w.heap.size w w'))
 case atStart => exact ⟨(0),za,H',⟨Nat.le_refl _⟩,⟨zx BK165⟩,⟨zz HB⟩⟩
 case round =>
  clear H';(try clear c1);(try clear p2);obtain ⟨x3_1,rfl,HA,HK1,BK165,HB⟩:=hrel
  cases gk with
  | zero => exact absurd HA.out (by simp [spec_IsSchema.l0])
  | succ k1 =>
   have H:=HA.out;clear HA;simp only [spec_IsSchema.l0] at H
   by_cases c3 : x3_1 < (l0_0.length : Int)
   ·
    rw [if_pos c3] at H;have c3b0:=decide_eq_true c3;clear c3
    by_cases c4 : 0 ≤ x3_1
    ·
     rw [if_pos c4] at H;have c4b0:=decide_eq_true c4;clear c4;replace H:=Option.bind_eq_some_iff.mp H;obtain ⟨t167,A50,H⟩:=H;(try dsimp only at H);have A5:=zA A50;clear A50
     by_cases c6 : t167 = true
     ·
      subst c6
      rw [if_pos rfl] at H
      have H':=zA H
      clear H;have hcz7_0:=zc (.slice A0_0 l0_0.length c0_0) BK165 0 rfl;have hfz7_0:=blk_frozen BK165.out 0;have p166 : 0 ≤ (x3_1 : Int):=zXb ze;have q166 : x3_1 < (l0_0.length : Int):=zXb ze;obtain ⟨ad166,e166,hx166_0⟩:=Kd.at_int HR0_0.out x3_1 p166 q166
      cases e166
      replace hx166_0:=(HB.out.cell (World.block_lt_of_cell? w _ hx166_0)).trans hx166_0;replace p166:=eq_true p166;replace q166:=eq_true q166
      go_wp2_with (first|((with_reducible refine gate_callee (f:=80) rfl ?_);refine goesL_ (some 16) rfl rfl Try.func80 (by kernel_rfl) rfl #[.int .i64 (rd l0_0 x3_1),.int .i64 1,.int .i64 3] rfl (by (try simp only [zCb,zMb,zNb]);first|done|rfl|(simp only [zLb,zDb];rfl)) ?_;(with_reducible refine (spec_l1In.calls (rd l0_0 x3_1) 1 3 true _ A5.out).mono ?_);rintro e w' ⟨rfl,⟨nd,rfl⟩⟩;refine ⟨_,rfl,?_⟩))
      go_roundg k1
      case measure => have:=HK1.out;omega
      case rel => exact ⟨(wrap64 (x3_1 + 1)),za,H',⟨by have:=HK1.out;omega⟩,⟨zx BK165⟩,⟨zz HB⟩⟩
     ·
      replace c6:=Bool.eq_false_iff.mpr c6
      subst c6
      have H1 : (some false) = some r:=by rw [if_neg (show ¬ (false = true) by decide)] at H;exact H
      clear H;have H:=H1;clear H1
      obtain rfl:=Option.some.inj H
      have hcz8_0:=zc (.slice A0_0 l0_0.length c0_0) BK165 0 rfl;have hfz8_0:=blk_frozen BK165.out 0;have p166 : 0 ≤ (x3_1 : Int):=zXb ze;have q166 : x3_1 < (l0_0.length : Int):=zXb ze;obtain ⟨ad166,e166,hx166_0⟩:=Kd.at_int HR0_0.out x3_1 p166 q166
      cases e166
      replace hx166_0:=(HB.out.cell (World.block_lt_of_cell? w _ hx166_0)).trans hx166_0;replace p166:=eq_true p166;replace q166:=eq_true q166
      go_wp2_with (first|((with_reducible refine gate_callee (f:=80) rfl ?_);refine goesL_ (some 16) rfl rfl Try.func80 (by kernel_rfl) rfl #[.int .i64 (rd l0_0 x3_1),.int .i64 1,.int .i64 3] rfl (by (try simp only [zCb,zMb,zNb]);first|done|rfl|(simp only [zLb,zDb];rfl)) ?_;(with_reducible refine (spec_l1In.calls (rd l0_0 x3_1) 1 3 false _ A5.out).mono ?_);rintro e w' ⟨rfl,⟨nd,rfl⟩⟩;refine ⟨_,rfl,?_⟩))
      go_ret
      exact ⟨by first|rfl|(simp [errW_none,errW_some] <;> rfl)|(simp [*,errW_none,errW_some] <;> rfl),zz HB⟩
    ·
     rw [if_neg c4] at H
     exact absurd H (by simp)
   ·
    rw [if_neg c3] at H;have c3b0:=decide_eq_false c3;clear c3;replace H:=Option.bind_eq_some_iff.mp H;obtain ⟨t168,A90,H⟩:=H;(try dsimp only at H);have A9:=zA A90;clear A90
    obtain rfl:=Option.some.inj H
    have hcz10_0:=zc (.slice A0_0 l0_0.length c0_0) BK165 0 rfl;have hfz10_0:=blk_frozen BK165.out 0
    go_wp2_with (first|((with_reducible refine gate_callee (f:=80) rfl ?_);refine goesL_ (some 21) rfl rfl Try.func80 (by kernel_rfl) rfl #[.int .i64 (l0_0.length : Int),.int .i64 1,.int .i64 4] rfl (by (try simp only [zCb,zMb,zNb]);first|done|rfl|(simp only [zLb,zDb];rfl)) ?_;(with_reducible refine (spec_l1In.calls (l0_0.length : Int) 1 4 t168 _ A9.out).mono ?_);rintro e w' ⟨rfl,⟨nd,rfl⟩⟩;refine ⟨_,rfl,?_⟩))
    go_ret
    exact ⟨by first|rfl|(simp [errW_none,errW_some] <;> rfl)|(simp [*,errW_none,errW_some] <;> rfl),zz HB⟩

end Go.Proofs.Ytanbgnjfllpkgaa.QFnExactFindMapping
