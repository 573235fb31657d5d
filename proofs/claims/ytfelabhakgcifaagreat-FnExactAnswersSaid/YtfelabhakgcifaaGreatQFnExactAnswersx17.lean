/- Walks through the Go functions that FnExactAnswers reaches: each call returns what the Lean function beside it says, within the bounds that the theorem names. -/
import Derived.Test.YtfelabhakgcifaaGreatQFnExactAnswersx0
import Derived.Test.YtfelabhakgcifaaGreatQFnExactAnswersx16
namespace Go.Proofs.YtfelabhakgcifaaGreat.QFnExactAnswers
open Go.RowKit Go.Proofs.YtfelabhakgcifaaGreatW.PrintWords Go.Proofs.YtfelabhakgcifaaGreatW.PrintLast Go.Proofs.YtfelabhakgcifaaGreatW.PrintMore
attribute [local go_sem] max2_int min2_int max_two min_two max_three min_three max_four min_four   -- for this text's walks alone
set_option linter.unusedVariables false
set_option linter.unusedSimpArgs false


/-! ### laws_eqAtomS: function 41 -/
def laws_eqAtomS.l0 : Nat → List (S81) → List (S81) → Int → Option (Bool)
 | 0, _, _, _ => none
 | k + 1, x0, x1, x5 => if x5 < (x0.length : Int) then (if 0 ≤ x5 then (if x5 < (x1.length : Int) then ((laws_eqAtom.f k ((rd_T81 x0 x5).f0) ((rd_T81 x0 x5).f1) ((rd_T81 x1 x5).f0) ((rd_T81 x1 x5).f1)).bind fun t405 => (if t405 = true then (laws_eqAtomS.l0 k x0 x1 (wrap64 (x5 + 1))) else (some false))) else (none)) else (none)) else (some true)
def laws_eqAtomS.f (k : Nat) (l0 : List (S81)) (l1 : List (S81)) : Option (Bool) := if (l0.length : Int) = (l1.length : Int) then (laws_eqAtomS.l0 k l0 l1 0) else (some false)
def laws_eqAtomS.T6 : Bool × List (List Nat × List Nat) := (true, [([], []), ([], []), ([0, 1], [0, 1]), ([2], [2]), ([], []), ([], []), ([4, 5], [4, 5]), ([6], [6]), ([3, 7], [3, 7]), ([8], [8])])
def laws_eqAtomS.B6 : List Nat := [0, 0, 3, 7, 0, 0, 48, 112, 255, 511]
theorem laws_eqAtomS.tab6 : rtab .any (opsOf Tryz.f41 6) = laws_eqAtomS.T6 := by kernel_rfl
theorem laws_eqAtomS.bits6 : waitsOk laws_eqAtomS.T6.2 laws_eqAtomS.B6 = true := by kernel_rfl
set_option maxHeartbeats 8000000 in
set_option maxRecDepth 100000 in
theorem laws_eqAtomS.calls (k : Nat) (A0 : Option Addr) (c0 : Nat) (l0 : List (S81)) (A1 : Option Addr) (c1 : Nat) (l1 : List (S81)) (r : Bool) (w : World) (hr0 : Kd.C k81 w A0 l0.length l0) (hc0 : l0.length ≤ c0) (hr1 : Kd.C k81 w A1 l1.length l1) (hc1 : l1.length ≤ c1) (h : laws_eqAtomS.f k l0 l1 = some r) :
  Calls Tryz.prog 41 #[.slice A0 l0.length c0, .slice A1 l1.length c1] w fun e w' => e = .returned (.bool r) ∧ Below w.heap.size w w' := by
 have hu81:=Tryz.underlying81;have HR0:=zA hr0;have HC0:=zA hc0;clear hr0 hc0;have HR1:=zA hr1;have HC1:=zA hc1;clear hr1 hc1;have HB:=zA (Below.refl w.heap.size w)
 have H : (if (l0.length : Int) = (l1.length : Int) then (laws_eqAtomS.l0 k l0 l1 0) else (some false)) = some r:=h
 clear h
 by_cases c3 : (l0.length : Int) = (l1.length : Int)
 ·
  rw [if_pos c3] at H;have c3b0:=beq_iff_eq.mpr c3;have c3b1:=bne_eq_false_iff_eq.mpr c3
  have c3b2 : (l0.length == l1.length) = true:=by first|simpa using c3|(simp at c3 ⊢;omega)
  clear c3
  have H':=zA H
  clear H
  go_enter Tryz.func41,Tryz.ntmps41
  go_wp2
  go_loopg [5] k (fun kq v5 w' => ∃ (x5_1 : Int),v5 = .int .i64 x5_1 ∧ Aside0 (laws_eqAtomS.l0 kq l0 l1 x5_1 = some r) ∧ Aside0 (kq ≤ k) ∧ Aside0 (Below w.heap.size w w'))
  case atStart => exact ⟨(0),za,H',⟨Nat.le_refl _⟩,⟨zz HB⟩⟩
  case round =>
   clear H';(try clear c1);(try clear p2);(try clear c3);(try clear c3b0);(try clear c3b1);(try clear c3b2);obtain ⟨x5_1,rfl,HA,HK1,HB⟩:=hrel
   cases gk with
   | zero => exact absurd HA.out (by simp [laws_eqAtomS.l0])
   | succ k1 =>
    have H:=HA.out;clear HA;simp only [laws_eqAtomS.l0] at H
    by_cases c4 : x5_1 < (l0.length : Int)
    ·
     rw [if_pos c4] at H;have c4b0:=decide_eq_true c4;clear c4
     by_cases c5 : 0 ≤ x5_1
     ·
      rw [if_pos c5] at H;have c5b0:=decide_eq_true c5;clear c5
      by_cases c6 : x5_1 < (l1.length : Int)
      ·
       rw [if_pos c6] at H;have c6b0:=decide_eq_true c6;clear c6;replace H:=Option.bind_eq_some_iff.mp H;obtain ⟨t405,A70,H⟩:=H;(try dsimp only at H);have A7:=zA A70;clear A70
       by_cases c8 : t405 = true
       ·
        subst c8
        rw [if_pos rfl] at H
        have H':=zA H
        clear H
        try go_wp2
        have n0_:=zA (zJ HB.out);clear HB;have HB:=n0_;clear n0_;have p403 : 0 ≤ (x5_1 : Int):=zXb ze;have q403 : x5_1 < (l0.length : Int):=zXb ze;obtain ⟨ad403,A403_1,c403_1,e403,hx403_0,hx403_1,hl403_1,hi403_1⟩:=at_T81 HR0.out x5_1 p403 q403;have hw403_1:=hx403_1;have hw403_0:=hx403_0
        cases e403
        replace hx403_0:=(HB.out.cell (World.block_lt_of_cell? w _ hx403_0)).trans hx403_0;replace hx403_1:=(HB.out.cell (World.block_lt_of_cell? w _ hx403_1)).trans hx403_1;have HR403_1:=zA hi403_1;have HC403_1:=zA hl403_1;clear hi403_1 hl403_1;replace p403:=eq_true p403;replace q403:=eq_true q403;have p404 : 0 ≤ (x5_1 : Int):=zXb ze;have q404 : x5_1 < (l1.length : Int):=zXb ze;obtain ⟨ad404,A404_1,c404_1,e404,hx404_0,hx404_1,hl404_1,hi404_1⟩:=at_T81 HR1.out x5_1 p404 q404;have hw404_1:=hx404_1;have hw404_0:=hx404_0
        cases e404
        replace hx404_0:=(HB.out.cell (World.block_lt_of_cell? w _ hx404_0)).trans hx404_0;replace hx404_1:=(HB.out.cell (World.block_lt_of_cell? w _ hx404_1)).trans hx404_1;have HR404_1:=zA hi404_1;have HC404_1:=zA hl404_1;clear hi404_1 hl404_1;replace p404:=eq_true p404;replace q404:=eq_true q404
        refine start_ (n:=10) (S:=fun w' => w'.cell? (ad403.add ((x5_1).toNat * 2)) = some (.int .i64 ((rd_T81 l0 x5_1).f0)) ∧ w'.cell? ⟨(ad403.add ((x5_1).toNat * 2)).block,(ad403.add ((x5_1).toNat * 2)).off + 1,none⟩ = some (.slice A403_1 ((rd_T81 l0 x5_1).f1).length c403_1) ∧ w'.cell? (ad404.add ((x5_1).toNat * 2)) = some (.int .i64 ((rd_T81 l1 x5_1).f0)) ∧ w'.cell? ⟨(ad404.add ((x5_1).toNat * 2)).block,(ad404.add ((x5_1).toNat * 2)).off + 1,none⟩ = some (.slice A404_1 ((rd_T81 l1 x5_1).f1).length c404_1)) (ds:=[]) #[false,false,false,false,false,false,false,false,false,false] (by kernel_rfl) rfl rfl ⟨((HB.out.cell (World.block_lt_of_cell? w _ hw403_0)).trans hw403_0),((HB.out.cell (World.block_lt_of_cell? w _ hw403_1)).trans hw403_1),((HB.out.cell (World.block_lt_of_cell? w _ hw404_0)).trans hw404_0),((HB.out.cell (World.block_lt_of_cell? w _ hw404_1)).trans hw404_1)⟩ (fun hHeld => ?_);refine with_tabW laws_eqAtomS.tab6 laws_eqAtomS.bits6 (fun HT_ HW_ => ?_)
        generalize wr.drew = w9 at HB HR403_1 HR404_1 hx403_0 hx403_1 hx404_0 hx404_1 hHeld ⊢
        refine zut 0 17 HT_ ?_;refine zut 1 18 HT_ ?_;refine zut 2 19 HT_ ?_;refine zut 4 21 HT_ ?_;refine zut 5 22 HT_ ?_;refine zut 6 23 HT_ ?_;refine zwt 3 20 HT_ HW_ hHeld ?_;refine zwt 7 24 HT_ HW_ hHeld ?_
        refine one_ (i:=8) (N:=some 25) #[true,true,true,true,true,true,true,true,true,false] rfl rfl (one_of HT_.out (by kernel_rfl)) (by decide) (fun K hK => ?_)
        refine goes_ Tryz.func70 (by kernel_rfl) rfl #[.agg #[.int .i64 ((rd_T81 l0 x5_1).f0),.slice A403_1 ((rd_T81 l0 x5_1).f1).length c403_1],.agg #[.int .i64 ((rd_T81 l1 x5_1).f0),.slice A404_1 ((rd_T81 l1 x5_1).f1).length c404_1]] (by rfl) rfl rfl (by (try simp only [zCb,zMb,zNb]);first|done|rfl|(simp only [zLb,zDb];rfl)) ?_
        with_reducible refine (laws_eqAtom.calls k1 ((rd_T81 l0 x5_1).f0) _ _ ((rd_T81 l0 x5_1).f1) ((rd_T81 l1 x5_1).f0) _ _ ((rd_T81 l1 x5_1).f1) true _ ?side1 ?side2 ?side3 ?side4 A7.out).mono ?_
        (case side1 => exact zsd HR403_1 HB)
        (case side2 => exact HC403_1.out)
        (case side3 => exact zsd HR404_1 HB)
        (case side4 => exact HC404_1.out)
        rintro e w10 ⟨rfl,hb⟩
        refine ⟨_,rfl,?_⟩
        have n0_:=zA (zJb (zz HB) hb);clear HB;have HB:=n0_;clear n0_;(try clear hb);(try clear hb2);(try clear hk);(try clear hi)
        refine hK.out _ _ ⟨((HB.out.cell (World.block_lt_of_cell? w _ hw403_0)).trans hw403_0),((HB.out.cell (World.block_lt_of_cell? w _ hw403_1)).trans hw403_1),((HB.out.cell (World.block_lt_of_cell? w _ hw404_0)).trans hw404_0),((HB.out.cell (World.block_lt_of_cell? w _ hw404_1)).trans hw404_1)⟩ (fun hHeld => ?_)
        clear hK K
        refine norm_ (a':=?_) ?_ ?_
        rotate_left
        ·
         show Act.put _ (some 25) _ = _
         simp only [Act.put,zO,zEb,zFb,i64_w,i32_w]
         rfl
        refine zut 9 26 HT_ ?_
        refine done_ (done_of HT_.out (by kernel_rfl)) ?_
        try go_wp2
        go_roundg k1
        case measure => have:=HK1.out;omega
        case rel => exact ⟨(wrap64 (x5_1 + 1)),za,H',⟨by have:=HK1.out;omega⟩,⟨zz HB⟩⟩
       ·
        replace c8:=Bool.eq_false_iff.mpr c8
        subst c8
        have H1 : (some false) = some r:=by rw [if_neg (show ¬ (false = true) by decide)] at H;exact H
        clear H;have H:=H1;clear H1
        obtain rfl:=Option.some.inj H
        try go_wp2
        have n0_:=zA (zJ HB.out);clear HB;have HB:=n0_;clear n0_;have p403 : 0 ≤ (x5_1 : Int):=zXb ze;have q403 : x5_1 < (l0.length : Int):=zXb ze;obtain ⟨ad403,A403_1,c403_1,e403,hx403_0,hx403_1,hl403_1,hi403_1⟩:=at_T81 HR0.out x5_1 p403 q403;have hw403_1:=hx403_1;have hw403_0:=hx403_0
        cases e403
        replace hx403_0:=(HB.out.cell (World.block_lt_of_cell? w _ hx403_0)).trans hx403_0;replace hx403_1:=(HB.out.cell (World.block_lt_of_cell? w _ hx403_1)).trans hx403_1;have HR403_1:=zA hi403_1;have HC403_1:=zA hl403_1;clear hi403_1 hl403_1;replace p403:=eq_true p403;replace q403:=eq_true q403;have p404 : 0 ≤ (x5_1 : Int):=zXb ze;have q404 : x5_1 < (l1.length : Int):=zXb ze;obtain ⟨ad404,A404_1,c404_1,e404,hx404_0,hx404_1,hl404_1,hi404_1⟩:=at_T81 HR1.out x5_1 p404 q404;have hw404_1:=hx404_1;have hw404_0:=hx404_0
        cases e404
        replace hx404_0:=(HB.out.cell (World.block_lt_of_cell? w _ hx404_0)).trans hx404_0;replace hx404_1:=(HB.out.cell (World.block_lt_of_cell? w _ hx404_1)).trans hx404_1;have HR404_1:=zA hi404_1;have HC404_1:=zA hl404_1;clear hi404_1 hl404_1;replace p404:=eq_true p404;replace q404:=eq_true q404
        refine start_ (n:=10) (S:=fun w' => w'.cell? (ad403.add ((x5_1).toNat * 2)) = some (.int .i64 ((rd_T81 l0 x5_1).f0)) ∧ w'.cell? ⟨(ad403.add ((x5_1).toNat * 2)).block,(ad403.add ((x5_1).toNat * 2)).off + 1,none⟩ = some (.slice A403_1 ((rd_T81 l0 x5_1).f1).length c403_1) ∧ w'.cell? (ad404.add ((x5_1).toNat * 2)) = some (.int .i64 ((rd_T81 l1 x5_1).f0)) ∧ w'.cell? ⟨(ad404.add ((x5_1).toNat * 2)).block,(ad404.add ((x5_1).toNat * 2)).off + 1,none⟩ = some (.slice A404_1 ((rd_T81 l1 x5_1).f1).length c404_1)) (ds:=[]) #[false,false,false,false,false,false,false,false,false,false] (by kernel_rfl) rfl rfl ⟨((HB.out.cell (World.block_lt_of_cell? w _ hw403_0)).trans hw403_0),((HB.out.cell (World.block_lt_of_cell? w _ hw403_1)).trans hw403_1),((HB.out.cell (World.block_lt_of_cell? w _ hw404_0)).trans hw404_0),((HB.out.cell (World.block_lt_of_cell? w _ hw404_1)).trans hw404_1)⟩ (fun hHeld => ?_);refine with_tabW laws_eqAtomS.tab6 laws_eqAtomS.bits6 (fun HT_ HW_ => ?_)
        generalize wr.drew = w11 at HB HR403_1 HR404_1 hx403_0 hx403_1 hx404_0 hx404_1 hHeld ⊢
        refine zut 0 17 HT_ ?_;refine zut 1 18 HT_ ?_;refine zut 2 19 HT_ ?_;refine zut 4 21 HT_ ?_;refine zut 5 22 HT_ ?_;refine zut 6 23 HT_ ?_;refine zwt 3 20 HT_ HW_ hHeld ?_;refine zwt 7 24 HT_ HW_ hHeld ?_
        refine one_ (i:=8) (N:=some 25) #[true,true,true,true,true,true,true,true,true,false] rfl rfl (one_of HT_.out (by kernel_rfl)) (by decide) (fun K hK => ?_)
        refine goes_ Tryz.func70 (by kernel_rfl) rfl #[.agg #[.int .i64 ((rd_T81 l0 x5_1).f0),.slice A403_1 ((rd_T81 l0 x5_1).f1).length c403_1],.agg #[.int .i64 ((rd_T81 l1 x5_1).f0),.slice A404_1 ((rd_T81 l1 x5_1).f1).length c404_1]] (by rfl) rfl rfl (by (try simp only [zCb,zMb,zNb]);first|done|rfl|(simp only [zLb,zDb];rfl)) ?_
        with_reducible refine (laws_eqAtom.calls k1 ((rd_T81 l0 x5_1).f0) _ _ ((rd_T81 l0 x5_1).f1) ((rd_T81 l1 x5_1).f0) _ _ ((rd_T81 l1 x5_1).f1) false _ ?side1 ?side2 ?side3 ?side4 A7.out).mono ?_
        (case side1 => exact zsd HR403_1 HB)
        (case side2 => exact HC403_1.out)
        (case side3 => exact zsd HR404_1 HB)
        (case side4 => exact HC404_1.out)
        rintro e w12 ⟨rfl,hb⟩
        refine ⟨_,rfl,?_⟩
        have n0_:=zA (zJb (zz HB) hb);clear HB;have HB:=n0_;clear n0_;(try clear hb);(try clear hb2);(try clear hk);(try clear hi)
        refine hK.out _ _ ⟨((HB.out.cell (World.block_lt_of_cell? w _ hw403_0)).trans hw403_0),((HB.out.cell (World.block_lt_of_cell? w _ hw403_1)).trans hw403_1),((HB.out.cell (World.block_lt_of_cell? w _ hw404_0)).trans hw404_0),((HB.out.cell (World.block_lt_of_cell? w _ hw404_1)).trans hw404_1)⟩ (fun hHeld => ?_)
        clear hK K
        refine norm_ (a':=?_) ?_ ?_
        rotate_left
        ·
         show Act.put _ (some 25) _ = _
         simp only [Act.put,zO,zEb,zFb,i64_w,i32_w]
         rfl
        refine zut 9 26 HT_ ?_
        refine done_ (done_of HT_.out (by kernel_rfl)) ?_
        try go_wp2
        go_ret
        exact ⟨by first|rfl|(simp [errW_none,errW_some] <;> rfl)|(simp [*,errW_none,errW_some] <;> rfl),zz HB⟩
      ·
       rw [if_neg c6] at H
       exact absurd H (by simp)
     ·
      rw [if_neg c5] at H
      exact absurd H (by simp)
    ·
     rw [if_neg c4] at H;have c4b0:=decide_eq_false c4;clear c4
     obtain rfl:=Option.some.inj H
     go_wp2
     go_ret
     exact ⟨by first|rfl|(simp [errW_none,errW_some] <;> rfl)|(simp [*,errW_none,errW_some] <;> rfl),zz HB⟩
 ·
  rw [if_neg c3] at H;have c3b0:=beq_eq_false_iff_ne.mpr c3;have c3b1:=bne_iff_ne.mpr c3
  have c3b2 : (l0.length == l1.length) = false:=by first|simpa using c3|(simp at c3 ⊢;omega)
  obtain rfl:=Option.some.inj H
  go_enter Tryz.func41,Tryz.ntmps41
  go_wp2
  go_ret
  exact ⟨by first|rfl|(simp [errW_none,errW_some] <;> rfl)|(simp [*,errW_none,errW_some] <;> rfl),zz HB⟩

/-! ### laws_eqQuery: function 15 -/
def laws_eqQuery.f (k : Nat) (l0_0 : List Int) (l0_1 : List (S81)) (l1_0 : List Int) (l1_1 : List (S81)) : Option (Bool) := (laws_eqIntS.f k l0_0 l1_0).bind fun t408 => (if t408 = true then ((laws_eqAtomS.f k l0_1 l1_1).bind fun t409 => (if t409 = true then (some true) else (some false))) else (some false))
set_option maxHeartbeats 8000000 in
set_option maxRecDepth 100000 in
theorem laws_eqQuery.calls (k : Nat) (A0_0 : Option Addr) (c0_0 : Nat) (l0_0 : List Int) (A0_1 : Option Addr) (c0_1 : Nat) (l0_1 : List (S81)) (A1_0 : Option Addr) (c1_0 : Nat) (l1_0 : List Int) (A1_1 : Option Addr) (c1_1 : Nat) (l1_1 : List (S81)) (r : Bool) (w : World) (hr0_0 : Kd.C (Kd.int .i64) w A0_0 l0_0.length l0_0) (hc0_0 : l0_0.length ≤ c0_0) (hr0_1 : Kd.C k81 w A0_1 l0_1.length l0_1) (hc0_1 : l0_1.length ≤ c0_1) (hr1_0 : Kd.C (Kd.int .i64) w A1_0 l1_0.length l1_0) (hc1_0 : l1_0.length ≤ c1_0) (hr1_1 : Kd.C k81 w A1_1 l1_1.length l1_1) (hc1_1 : l1_1.length ≤ c1_1) (h : laws_eqQuery.f k l0_0 l0_1 l1_0 l1_1 = some r) :
  Calls Tryz.prog 15 #[.agg #[.slice A0_0 l0_0.length c0_0, .slice A0_1 l0_1.length c0_1], .agg #[.slice A1_0 l1_0.length c1_0, .slice A1_1 l1_1.length c1_1]] w fun e w' => e = .returned (.bool r) ∧ Below w.heap.size w w' := by
 have hu38:=Tryz.underlying38;have HR0_0:=zA hr0_0;have HC0_0:=zA hc0_0;clear hr0_0 hc0_0;have HR0_1:=zA hr0_1;have HC0_1:=zA hc0_1;clear hr0_1 hc0_1;have HR1_0:=zA hr1_0;have HC1_0:=zA hc1_0;clear hr1_0 hc1_0;have HR1_1:=zA hr1_1;have HC1_1:=zA hc1_1;clear hr1_1 hc1_1;have HB:=zA (Below.refl w.heap.size w)
 have H : ((laws_eqIntS.f k l0_0 l1_0).bind fun t408 => (if t408 = true then ((laws_eqAtomS.f k l0_1 l1_1).bind fun t409 => (if t409 = true then (some true) else (some false))) else (some false))) = some r:=h
 clear h;replace H:=Option.bind_eq_some_iff.mp H;obtain ⟨t408,A30,H⟩:=H;(try dsimp only at H);have A3:=zA A30;clear A30
 by_cases c4 : t408 = true
 ·
  subst c4
  rw [if_pos rfl] at H;replace H:=Option.bind_eq_some_iff.mp H;obtain ⟨t409,A50,H⟩:=H;(try dsimp only at H);have A5:=zA A50;clear A50
  by_cases c6 : t409 = true
  ·
   subst c6
   rw [if_pos rfl] at H
   obtain rfl:=Option.some.inj H
   go_enter Tryz.func15,Tryz.ntmps15
   go_wp2_with (first|((with_reducible refine gate_dst (N:=2) rfl ?_);refine box_event ?hg (N:=2) ?hd (cs:=#[.slice A0_0 l0_0.length c0_0,.slice A0_1 l0_1.length c0_1]) (t:=38) ?hr ?_;(case hd => rfl);(case hg => rfl);(case hr => first|(go_simp;done)|(go_simp;rfl));intro gb406 hg w7 hbox hb;have BK406:=zA (hbox);have GW406:=zA ((by rw [hg];exact (zT (zz HB)) : w.heap.size ≤ gb406));have GE406:=zA ((by rw [hg];exact (zT (zz HB)) : w.heap.size ≤ gb406));replace HB:=zA (zJb (zz HB) hb);clear hb hbox hg)|((with_reducible refine gate_dst (N:=3) rfl ?_);refine box_event ?hg (N:=3) ?hd (cs:=#[.slice A1_0 l1_0.length c1_0,.slice A1_1 l1_1.length c1_1]) (t:=38) ?hr ?_;(case hd => rfl);(case hg => rfl);(case hr => first|(go_simp;done)|(go_simp;rfl));intro gb407 hg w8 hbox hb;have BK407:=zA (hbox);have GW407:=zA ((by rw [hg];exact (zT (zz HB)) : w.heap.size ≤ gb407));have GE407:=zA ((by rw [hg];exact (zT (zz HB)) : w.heap.size ≤ gb407));replace HB:=zA (zJb (zz HB) hb);have NB406_407:=zA ((by rw [hg];exact Nat.ne_of_lt (blk_lt (g:=gb406) (o:=.cells #[.slice A0_0 l0_0.length c0_0,.slice A0_1 l0_1.length c0_1] 38 (0,0)) (zx BK406)) : gb406 ≠ gb407));have NB407_406:=zA ((by rw [hg];exact Nat.ne_of_gt (blk_lt (g:=gb406) (o:=.cells #[.slice A0_0 l0_0.length c0_0,.slice A0_1 l0_1.length c0_1] 38 (0,0)) (zx BK406)) : gb407 ≠ gb406));replace BK406:=zA (zQ (g:=gb406) (o:=.cells #[.slice A0_0 l0_0.length c0_0,.slice A0_1 l0_1.length c0_1] 38 (0,0)) (zx BK406) hb);clear hb hbox hg;have hnb9:=NB406_407.out;have hnc9:=NB407_406.out;have hcz10_0:=zc (.slice A0_0 l0_0.length c0_0) BK406 0 rfl;have hcz10_1:=zc (.slice A0_1 l0_1.length c0_1) BK406 1 rfl;have hfz10_0:=blk_frozen BK406.out 0;have hfz10_1:=blk_frozen BK406.out 1;have hcz11_0:=zc (.slice A1_0 l1_0.length c1_0) BK407 0 rfl;have hcz11_1:=zc (.slice A1_1 l1_1.length c1_1) BK407 1 rfl;have hfz11_0:=blk_frozen BK407.out 0;have hfz11_1:=blk_frozen BK407.out 1)|((with_reducible refine gate_callee (f:=40) rfl ?_);refine goesL_ (some 9) rfl rfl Tryz.func40 (by kernel_rfl) rfl #[.slice A0_0 l0_0.length c0_0,.slice A1_0 l1_0.length c1_0] rfl (by (try simp only [zCb,zMb,zNb]);first|done|rfl|(simp only [zLb,zDb];rfl)) ?_;(with_reducible refine (laws_eqIntS.calls k _ _ l0_0 _ _ l1_0 true _ ?side1 ?side2 ?side3 ?side4 A3.out).mono ?_);(case side1 => exact zsd HR0_0 HB);(case side2 => exact HC0_0.out);(case side3 => exact zsd HR1_0 HB);(case side4 => exact HC1_0.out);rintro e w' ⟨rfl,⟨nd,rfl⟩⟩;refine ⟨_,rfl,?_⟩)|((with_reducible refine gate_callee (f:=41) rfl ?_);refine goesL_ (some 15) rfl rfl Tryz.func41 (by kernel_rfl) rfl #[.slice A0_1 l0_1.length c0_1,.slice A1_1 l1_1.length c1_1] rfl (by (try simp only [zCb,zMb,zNb]);first|done|rfl|(simp only [zLb,zDb];rfl)) ?_;(with_reducible refine (laws_eqAtomS.calls k _ _ l0_1 _ _ l1_1 true _ ?side1 ?side2 ?side3 ?side4 A5.out).mono ?_);(case side1 => repeat (first|exact (zKb HR0_1.out (zz HB))|(with_reducible refine zBb ?_ _)|(with_reducible refine zAb ?_ _)|(with_reducible refine zX ?_)));(case side2 => exact HC0_1.out);(case side3 => repeat (first|exact (zKb HR1_1.out (zz HB))|(with_reducible refine zBb ?_ _)|(with_reducible refine zAb ?_ _)|(with_reducible refine zX ?_)));(case side4 => exact HC1_1.out);rintro e w12 ⟨rfl,hb⟩;refine ⟨_,rfl,?_⟩;replace BK406:=zA (zQ (g:=gb406) (o:=.cells #[.slice A0_0 l0_0.length c0_0,.slice A0_1 l0_1.length c0_1] 38 (0,0)) (zx BK406) hb);replace BK407:=zA (zQ (g:=gb407) (o:=.cells #[.slice A1_0 l1_0.length c1_0,.slice A1_1 l1_1.length c1_1] 38 (0,0)) (zx BK407) hb);replace HB:=zA (zJb (zz HB) hb);(try clear hb);(try clear hb2);(try clear hk);(try clear hi)))
   go_ret
   exact ⟨by first|rfl|(simp [errW_none,errW_some] <;> rfl)|(simp [*,errW_none,errW_some] <;> rfl),zz HB⟩
  ·
   replace c6:=Bool.eq_false_iff.mpr c6
   subst c6
   have H1 : (some false) = some r:=by rw [if_neg (show ¬ (false = true) by decide)] at H;exact H
   clear H;have H:=H1;clear H1
   obtain rfl:=Option.some.inj H
   go_enter Tryz.func15,Tryz.ntmps15
   go_wp2_with (first|((with_reducible refine gate_dst (N:=2) rfl ?_);refine box_event ?hg (N:=2) ?hd (cs:=#[.slice A0_0 l0_0.length c0_0,.slice A0_1 l0_1.length c0_1]) (t:=38) ?hr ?_;(case hd => rfl);(case hg => rfl);(case hr => first|(go_simp;done)|(go_simp;rfl));intro gb406 hg w13 hbox hb;have BK406:=zA (hbox);have GW406:=zA ((by rw [hg];exact (zT (zz HB)) : w.heap.size ≤ gb406));have GE406:=zA ((by rw [hg];exact (zT (zz HB)) : w.heap.size ≤ gb406));replace HB:=zA (zJb (zz HB) hb);clear hb hbox hg)|((with_reducible refine gate_dst (N:=3) rfl ?_);refine box_event ?hg (N:=3) ?hd (cs:=#[.slice A1_0 l1_0.length c1_0,.slice A1_1 l1_1.length c1_1]) (t:=38) ?hr ?_;(case hd => rfl);(case hg => rfl);(case hr => first|(go_simp;done)|(go_simp;rfl));intro gb407 hg w14 hbox hb;have BK407:=zA (hbox);have GW407:=zA ((by rw [hg];exact (zT (zz HB)) : w.heap.size ≤ gb407));have GE407:=zA ((by rw [hg];exact (zT (zz HB)) : w.heap.size ≤ gb407));replace HB:=zA (zJb (zz HB) hb);have NB406_407:=zA ((by rw [hg];exact Nat.ne_of_lt (blk_lt (g:=gb406) (o:=.cells #[.slice A0_0 l0_0.length c0_0,.slice A0_1 l0_1.length c0_1] 38 (0,0)) (zx BK406)) : gb406 ≠ gb407));have NB407_406:=zA ((by rw [hg];exact Nat.ne_of_gt (blk_lt (g:=gb406) (o:=.cells #[.slice A0_0 l0_0.length c0_0,.slice A0_1 l0_1.length c0_1] 38 (0,0)) (zx BK406)) : gb407 ≠ gb406));replace BK406:=zA (zQ (g:=gb406) (o:=.cells #[.slice A0_0 l0_0.length c0_0,.slice A0_1 l0_1.length c0_1] 38 (0,0)) (zx BK406) hb);clear hb hbox hg;have hnb15:=NB406_407.out;have hnc15:=NB407_406.out;have hcz16_0:=zc (.slice A0_0 l0_0.length c0_0) BK406 0 rfl;have hcz16_1:=zc (.slice A0_1 l0_1.length c0_1) BK406 1 rfl;have hfz16_0:=blk_frozen BK406.out 0;have hfz16_1:=blk_frozen BK406.out 1;have hcz17_0:=zc (.slice A1_0 l1_0.length c1_0) BK407 0 rfl;have hcz17_1:=zc (.slice A1_1 l1_1.length c1_1) BK407 1 rfl;have hfz17_0:=blk_frozen BK407.out 0;have hfz17_1:=blk_frozen BK407.out 1)|((with_reducible refine gate_callee (f:=40) rfl ?_);refine goesL_ (some 9) rfl rfl Tryz.func40 (by kernel_rfl) rfl #[.slice A0_0 l0_0.length c0_0,.slice A1_0 l1_0.length c1_0] rfl (by (try simp only [zCb,zMb,zNb]);first|done|rfl|(simp only [zLb,zDb];rfl)) ?_;(with_reducible refine (laws_eqIntS.calls k _ _ l0_0 _ _ l1_0 true _ ?side1 ?side2 ?side3 ?side4 A3.out).mono ?_);(case side1 => exact zsd HR0_0 HB);(case side2 => exact HC0_0.out);(case side3 => exact zsd HR1_0 HB);(case side4 => exact HC1_0.out);rintro e w' ⟨rfl,⟨nd,rfl⟩⟩;refine ⟨_,rfl,?_⟩)|((with_reducible refine gate_callee (f:=41) rfl ?_);refine goesL_ (some 15) rfl rfl Tryz.func41 (by kernel_rfl) rfl #[.slice A0_1 l0_1.length c0_1,.slice A1_1 l1_1.length c1_1] rfl (by (try simp only [zCb,zMb,zNb]);first|done|rfl|(simp only [zLb,zDb];rfl)) ?_;(with_reducible refine (laws_eqAtomS.calls k _ _ l0_1 _ _ l1_1 false _ ?side1 ?side2 ?side3 ?side4 A5.out).mono ?_);(case side1 => repeat (first|exact (zKb HR0_1.out (zz HB))|(with_reducible refine zBb ?_ _)|(with_reducible refine zAb ?_ _)|(with_reducible refine zX ?_)));(case side2 => exact HC0_1.out);(case side3 => repeat (first|exact (zKb HR1_1.out (zz HB))|(with_reducible refine zBb ?_ _)|(with_reducible refine zAb ?_ _)|(with_reducible refine zX ?_)));(case side4 => exact HC1_1.out);rintro e w18 ⟨rfl,hb⟩;refine ⟨_,rfl,?_⟩;replace BK406:=zA (zQ (g:=gb406) (o:=.cells #[.slice A0_0 l0_0.length c0_0,.slice A0_1 l0_1.length c0_1] 38 (0,0)) (zx BK406) hb);replace BK407:=zA (zQ (g:=gb407) (o:=.cells #[.slice A1_0 l1_0.length c1_0,.slice A1_1 l1_1.length c1_1] 38 (0,0)) (zx BK407) hb);replace HB:=zA (zJb (zz HB) hb);(try clear hb);(try clear hb2);(try clear hk);(try clear hi)))
   go_ret
   exact ⟨by first|rfl|(simp [errW_none,errW_some] <;> rfl)|(simp [*,errW_none,errW_some] <;> rfl),zz HB⟩
 ·
  replace c4:=Bool.eq_false_iff.mpr c4
  subst c4
  have H1 : (some false) = some r:=by rw [if_neg (show ¬ (false = true) by decide)] at H;exact H
  clear H;have H:=H1;clear H1
  obtain rfl:=Option.some.inj H
  go_enter Tryz.func15,Tryz.ntmps15
  go_wp2_with (first|((with_reducible refine gate_dst (N:=2) rfl ?_);refine box_event ?hg (N:=2) ?hd (cs:=#[.slice A0_0 l0_0.length c0_0,.slice A0_1 l0_1.length c0_1]) (t:=38) ?hr ?_;(case hd => rfl);(case hg => rfl);(case hr => first|(go_simp;done)|(go_simp;rfl));intro gb406 hg w19 hbox hb;have BK406:=zA (hbox);have GW406:=zA ((by rw [hg];exact (zT (zz HB)) : w.heap.size ≤ gb406));have GE406:=zA ((by rw [hg];exact (zT (zz HB)) : w.heap.size ≤ gb406));replace HB:=zA (zJb (zz HB) hb);clear hb hbox hg)|((with_reducible refine gate_dst (N:=3) rfl ?_);refine box_event ?hg (N:=3) ?hd (cs:=#[.slice A1_0 l1_0.length c1_0,.slice A1_1 l1_1.length c1_1]) (t:=38) ?hr ?_;(case hd => rfl);(case hg => rfl);(case hr => first|(go_simp;done)|(go_simp;rfl));intro gb407 hg w20 hbox hb;have BK407:=zA (hbox);have GW407:=zA ((by rw [hg];exact (zT (zz HB)) : w.heap.size ≤ gb407));have GE407:=zA ((by rw [hg];exact (zT (zz HB)) : w.heap.size ≤ gb407));replace HB:=zA (zJb (zz HB) hb);have NB406_407:=zA ((by rw [hg];exact Nat.ne_of_lt (blk_lt (g:=gb406) (o:=.cells #[.slice A0_0 l0_0.length c0_0,.slice A0_1 l0_1.length c0_1] 38 (0,0)) (zx BK406)) : gb406 ≠ gb407));have NB407_406:=zA ((by rw [hg];exact Nat.ne_of_gt (blk_lt (g:=gb406) (o:=.cells #[.slice A0_0 l0_0.length c0_0,.slice A0_1 l0_1.length c0_1] 38 (0,0)) (zx BK406)) : gb407 ≠ gb406));replace BK406:=zA (zQ (g:=gb406) (o:=.cells #[.slice A0_0 l0_0.length c0_0,.slice A0_1 l0_1.length c0_1] 38 (0,0)) (zx BK406) hb);clear hb hbox hg;have hnb21:=NB406_407.out;have hnc21:=NB407_406.out;have hcz22_0:=zc (.slice A0_0 l0_0.length c0_0) BK406 0 rfl;have hcz22_1:=zc (.slice A0_1 l0_1.length c0_1) BK406 1 rfl;have hfz22_0:=blk_frozen BK406.out 0;have hfz22_1:=blk_frozen BK406.out 1;have hcz23_0:=zc (.slice A1_0 l1_0.length c1_0) BK407 0 rfl;have hcz23_1:=zc (.slice A1_1 l1_1.length c1_1) BK407 1 rfl;have hfz23_0:=blk_frozen BK407.out 0;have hfz23_1:=blk_frozen BK407.out 1)|((with_reducible refine gate_callee (f:=40) rfl ?_);refine goesL_ (some 9) rfl rfl Tryz.func40 (by kernel_rfl) rfl #[.slice A0_0 l0_0.length c0_0,.slice A1_0 l1_0.length c1_0] rfl (by (try simp only [zCb,zMb,zNb]);first|done|rfl|(simp only [zLb,zDb];rfl)) ?_;(with_reducible refine (laws_eqIntS.calls k _ _ l0_0 _ _ l1_0 false _ ?side1 ?side2 ?side3 ?side4 A3.out).mono ?_);(case side1 => exact zsd HR0_0 HB);(case side2 => exact HC0_0.out);(case side3 => exact zsd HR1_0 HB);(case side4 => exact HC1_0.out);rintro e w' ⟨rfl,⟨nd,rfl⟩⟩;refine ⟨_,rfl,?_⟩))
  go_ret
  exact ⟨by first|rfl|(simp [errW_none,errW_some] <;> rfl)|(simp [*,errW_none,errW_some] <;> rfl),zz HB⟩

/-! ### laws_eqFact: function 42 -/
def laws_eqFact.f (k : Nat) (a0_0 : Int) (l0_1 : List Int) (a1_0 : Int) (l1_1 : List Int) : Option (Bool) := if a0_0 = a1_0 then ((laws_eqIntS.f k l0_1 l1_1).bind fun t412 => (if t412 = true then (some true) else (some false))) else (some false)
set_option maxHeartbeats 8000000 in
set_option maxRecDepth 100000 in
theorem laws_eqFact.calls (k : Nat) (a0_0 : Int) (A0_1 : Option Addr) (c0_1 : Nat) (l0_1 : List Int) (a1_0 : Int) (A1_1 : Option Addr) (c1_1 : Nat) (l1_1 : List Int) (r : Bool) (w : World) (hr0_1 : Kd.C (Kd.int .i64) w A0_1 l0_1.length l0_1) (hc0_1 : l0_1.length ≤ c0_1) (hr1_1 : Kd.C (Kd.int .i64) w A1_1 l1_1.length l1_1) (hc1_1 : l1_1.length ≤ c1_1) (h : laws_eqFact.f k a0_0 l0_1 a1_0 l1_1 = some r) :
  Calls Tryz.prog 42 #[.agg #[.int .i64 a0_0, .slice A0_1 l0_1.length c0_1], .agg #[.int .i64 a1_0, .slice A1_1 l1_1.length c1_1]] w fun e w' => e = .returned (.bool r) ∧ Below w.heap.size w w' := by
 have hu64:=Tryz.underlying64;have HR0_1:=zA hr0_1;have HC0_1:=zA hc0_1;clear hr0_1 hc0_1;have HR1_1:=zA hr1_1;have HC1_1:=zA hc1_1;clear hr1_1 hc1_1;have HB:=zA (Below.refl w.heap.size w)
 have H : (if a0_0 = a1_0 then ((laws_eqIntS.f k l0_1 l1_1).bind fun t412 => (if t412 = true then (some true) else (some false))) else (some false)) = some r:=h
 clear h
 by_cases c3 : a0_0 = a1_0
 ·
  rw [if_pos c3] at H;have c3b0:=beq_iff_eq.mpr c3;have c3b1:=bne_eq_false_iff_eq.mpr c3;clear c3;replace H:=Option.bind_eq_some_iff.mp H;obtain ⟨t412,A40,H⟩:=H;(try dsimp only at H);have A4:=zA A40;clear A40
  by_cases c5 : t412 = true
  ·
   subst c5
   rw [if_pos rfl] at H
   obtain rfl:=Option.some.inj H
   go_enter Tryz.func42,Tryz.ntmps42
   go_wp2_with (first|((with_reducible refine gate_dst (N:=2) rfl ?_);refine box_event ?hg (N:=2) ?hd (cs:=#[.int .i64 a0_0,.slice A0_1 l0_1.length c0_1]) (t:=64) ?hr ?_;(case hd => rfl);(case hg => rfl);(case hr => first|(go_simp;done)|(go_simp;rfl));intro gb410 hg w6 hbox hb;have BK410:=zA (hbox);have GW410:=zA ((by rw [hg];exact (zT (zz HB)) : w.heap.size ≤ gb410));have GE410:=zA ((by rw [hg];exact (zT (zz HB)) : w.heap.size ≤ gb410));replace HB:=zA (zJb (zz HB) hb);clear hb hbox hg)|((with_reducible refine gate_dst (N:=3) rfl ?_);refine box_event ?hg (N:=3) ?hd (cs:=#[.int .i64 a1_0,.slice A1_1 l1_1.length c1_1]) (t:=64) ?hr ?_;(case hd => rfl);(case hg => rfl);(case hr => first|(go_simp;done)|(go_simp;rfl));intro gb411 hg w7 hbox hb;have BK411:=zA (hbox);have GW411:=zA ((by rw [hg];exact (zT (zz HB)) : w.heap.size ≤ gb411));have GE411:=zA ((by rw [hg];exact (zT (zz HB)) : w.heap.size ≤ gb411));replace HB:=zA (zJb (zz HB) hb);have NB410_411:=zA ((by rw [hg];exact Nat.ne_of_lt (blk_lt (g:=gb410) (o:=.cells #[.int .i64 a0_0,.slice A0_1 l0_1.length c0_1] 64 (0,0)) (zx BK410)) : gb410 ≠ gb411));have NB411_410:=zA ((by rw [hg];exact Nat.ne_of_gt (blk_lt (g:=gb410) (o:=.cells #[.int .i64 a0_0,.slice A0_1 l0_1.length c0_1] 64 (0,0)) (zx BK410)) : gb411 ≠ gb410));replace BK410:=zA (zQ (g:=gb410) (o:=.cells #[.int .i64 a0_0,.slice A0_1 l0_1.length c0_1] 64 (0,0)) (zx BK410) hb);clear hb hbox hg;have hnb8:=NB410_411.out;have hnc8:=NB411_410.out;have hcz9_0:=zc (.int .i64 a0_0) BK410 0 rfl;have hcz9_1:=zc (.slice A0_1 l0_1.length c0_1) BK410 1 rfl;have hfz9_0:=blk_frozen BK410.out 0;have hfz9_1:=blk_frozen BK410.out 1;have hcz10_0:=zc (.int .i64 a1_0) BK411 0 rfl;have hcz10_1:=zc (.slice A1_1 l1_1.length c1_1) BK411 1 rfl;have hfz10_0:=blk_frozen BK411.out 0;have hfz10_1:=blk_frozen BK411.out 1)|((with_reducible refine gate_callee (f:=40) rfl ?_);refine goesL_ (some 14) rfl rfl Tryz.func40 (by kernel_rfl) rfl #[.slice A0_1 l0_1.length c0_1,.slice A1_1 l1_1.length c1_1] rfl (by (try simp only [zCb,zMb,zNb]);first|done|rfl|(simp only [zLb,zDb];rfl)) ?_;(with_reducible refine (laws_eqIntS.calls k _ _ l0_1 _ _ l1_1 true _ ?side1 ?side2 ?side3 ?side4 A4.out).mono ?_);(case side1 => exact zsd HR0_1 HB);(case side2 => exact HC0_1.out);(case side3 => exact zsd HR1_1 HB);(case side4 => exact HC1_1.out);rintro e w' ⟨rfl,⟨nd,rfl⟩⟩;refine ⟨_,rfl,?_⟩))
   go_ret
   exact ⟨by first|rfl|(simp [errW_none,errW_some] <;> rfl)|(simp [*,errW_none,errW_some] <;> rfl),zz HB⟩
  ·
   replace c5:=Bool.eq_false_iff.mpr c5
   subst c5
   have H1 : (some false) = some r:=by rw [if_neg (show ¬ (false = true) by decide)] at H;exact H
   clear H;have H:=H1;clear H1
   obtain rfl:=Option.some.inj H
   go_enter Tryz.func42,Tryz.ntmps42
   go_wp2_with (first|((with_reducible refine gate_dst (N:=2) rfl ?_);refine box_event ?hg (N:=2) ?hd (cs:=#[.int .i64 a0_0,.slice A0_1 l0_1.length c0_1]) (t:=64) ?hr ?_;(case hd => rfl);(case hg => rfl);(case hr => first|(go_simp;done)|(go_simp;rfl));intro gb410 hg w11 hbox hb;have BK410:=zA (hbox);have GW410:=zA ((by rw [hg];exact (zT (zz HB)) : w.heap.size ≤ gb410));have GE410:=zA ((by rw [hg];exact (zT (zz HB)) : w.heap.size ≤ gb410));replace HB:=zA (zJb (zz HB) hb);clear hb hbox hg)|((with_reducible refine gate_dst (N:=3) rfl ?_);refine box_event ?hg (N:=3) ?hd (cs:=#[.int .i64 a1_0,.slice A1_1 l1_1.length c1_1]) (t:=64) ?hr ?_;(case hd => rfl);(case hg => rfl);(case hr => first|(go_simp;done)|(go_simp;rfl));intro gb411 hg w12 hbox hb;have BK411:=zA (hbox);have GW411:=zA ((by rw [hg];exact (zT (zz HB)) : w.heap.size ≤ gb411));have GE411:=zA ((by rw [hg];exact (zT (zz HB)) : w.heap.size ≤ gb411));replace HB:=zA (zJb (zz HB) hb);have NB410_411:=zA ((by rw [hg];exact Nat.ne_of_lt (blk_lt (g:=gb410) (o:=.cells #[.int .i64 a0_0,.slice A0_1 l0_1.length c0_1] 64 (0,0)) (zx BK410)) : gb410 ≠ gb411));have NB411_410:=zA ((by rw [hg];exact Nat.ne_of_gt (blk_lt (g:=gb410) (o:=.cells #[.int .i64 a0_0,.slice A0_1 l0_1.length c0_1] 64 (0,0)) (zx BK410)) : gb411 ≠ gb410));replace BK410:=zA (zQ (g:=gb410) (o:=.cells #[.int .i64 a0_0,.slice A0_1 l0_1.length c0_1] 64 (0,0)) (zx BK410) hb);clear hb hbox hg;have hnb13:=NB410_411.out;have hnc13:=NB411_410.out;have hcz14_0:=zc (.int .i64 a0_0) BK410 0 rfl;have hcz14_1:=zc (.slice A0_1 l0_1.length c0_1) BK410 1 rfl;have hfz14_0:=blk_frozen BK410.out 0;have hfz14_1:=blk_frozen BK410.out 1;have hcz15_0:=zc (.int .i64 a1_0) BK411 0 rfl;have hcz15_1:=zc (.slice A1_1 l1_1.length c1_1) BK411 1 rfl;have hfz15_0:=blk_frozen BK411.out 0;have hfz15_1:=blk_frozen BK411.out 1)|((with_reducible refine gate_callee (f:=40) rfl ?_);refine goesL_ (some 14) rfl rfl Tryz.func40 (by kernel_rfl) rfl #[.slice A0_1 l0_1.length c0_1,.slice A1_1 l1_1.length c1_1] rfl (by (try simp only [zCb,zMb,zNb]);first|done|rfl|(simp only [zLb,zDb];rfl)) ?_;(with_reducible refine (laws_eqIntS.calls k _ _ l0_1 _ _ l1_1 false _ ?side1 ?side2 ?side3 ?side4 A4.out).mono ?_);(case side1 => exact zsd HR0_1 HB);(case side2 => exact HC0_1.out);(case side3 => exact zsd HR1_1 HB);(case side4 => exact HC1_1.out);rintro e w' ⟨rfl,⟨nd,rfl⟩⟩;refine ⟨_,rfl,?_⟩))
   go_ret
   exact ⟨by first|rfl|(simp [errW_none,errW_some] <;> rfl)|(simp [*,errW_none,errW_some] <;> rfl),zz HB⟩
 ·
  rw [if_neg c3] at H;have c3b0:=beq_eq_false_iff_ne.mpr c3;have c3b1:=bne_iff_ne.mpr c3
  obtain rfl:=Option.some.inj H
  go_enter Tryz.func42,Tryz.ntmps42
  go_wp2_with (first|((with_reducible refine gate_dst (N:=2) rfl ?_);refine box_event ?hg (N:=2) ?hd (cs:=#[.int .i64 a0_0,.slice A0_1 l0_1.length c0_1]) (t:=64) ?hr ?_;(case hd => rfl);(case hg => rfl);(case hr => first|(go_simp;done)|(go_simp;rfl));intro gb410 hg w16 hbox hb;have BK410:=zA (hbox);have GW410:=zA ((by rw [hg];exact (zT (zz HB)) : w.heap.size ≤ gb410));have GE410:=zA ((by rw [hg];exact (zT (zz HB)) : w.heap.size ≤ gb410));replace HB:=zA (zJb (zz HB) hb);clear hb hbox hg)|((with_reducible refine gate_dst (N:=3) rfl ?_);refine box_event ?hg (N:=3) ?hd (cs:=#[.int .i64 a1_0,.slice A1_1 l1_1.length c1_1]) (t:=64) ?hr ?_;(case hd => rfl);(case hg => rfl);(case hr => first|(go_simp;done)|(go_simp;rfl));intro gb411 hg w17 hbox hb;have BK411:=zA (hbox);have GW411:=zA ((by rw [hg];exact (zT (zz HB)) : w.heap.size ≤ gb411));have GE411:=zA ((by rw [hg];exact (zT (zz HB)) : w.heap.size ≤ gb411));replace HB:=zA (zJb (zz HB) hb);have NB410_411:=zA ((by rw [hg];exact Nat.ne_of_lt (blk_lt (g:=gb410) (o:=.cells #[.int .i64 a0_0,.slice A0_1 l0_1.length c0_1] 64 (0,0)) (zx BK410)) : gb410 ≠ gb411));have NB411_410:=zA ((by rw [hg];exact Nat.ne_of_gt (blk_lt (g:=gb410) (o:=.cells #[.int .i64 a0_0,.slice A0_1 l0_1.length c0_1] 64 (0,0)) (zx BK410)) : gb411 ≠ gb410));replace BK410:=zA (zQ (g:=gb410) (o:=.cells #[.int .i64 a0_0,.slice A0_1 l0_1.length c0_1] 64 (0,0)) (zx BK410) hb);clear hb hbox hg;have hnb18:=NB410_411.out;have hnc18:=NB411_410.out;have hcz19_0:=zc (.int .i64 a0_0) BK410 0 rfl;have hcz19_1:=zc (.slice A0_1 l0_1.length c0_1) BK410 1 rfl;have hfz19_0:=blk_frozen BK410.out 0;have hfz19_1:=blk_frozen BK410.out 1;have hcz20_0:=zc (.int .i64 a1_0) BK411 0 rfl;have hcz20_1:=zc (.slice A1_1 l1_1.length c1_1) BK411 1 rfl;have hfz20_0:=blk_frozen BK411.out 0;have hfz20_1:=blk_frozen BK411.out 1))
  go_ret
  exact ⟨by first|rfl|(simp [errW_none,errW_some] <;> rfl)|(simp [*,errW_none,errW_some] <;> rfl),zz HB⟩

end Go.Proofs.YtfelabhakgcifaaGreat.QFnExactAnswers
