/- Walks through the Go functions that FnExactIsAnswer reaches: each call returns what the Lean function beside it says, within the bounds that the theorem names. -/
import Derived.Test.YtfelabhakgcifaaQFnExactIsAnswerx0
import Derived.Test.YtfelabhakgcifaaQFnExactIsAnswerx1
namespace Go.Proofs.Ytfelabhakgcifaa.QFnExactIsAnswer
open Go.RowKit Go.Proofs.YtfelabhakgcifaaW.PrintWords Go.Proofs.YtfelabhakgcifaaW.PrintLast Go.Proofs.YtfelabhakgcifaaW.PrintMore
attribute [local go_sem] max2_int min2_int max_two min_two max_three min_three max_four min_four   -- for this text's walks alone
set_option linter.unusedVariables false
set_option linter.unusedSimpArgs false


/-! ### laws_eqFactS: function 15 -/
def laws_eqFactS.l0 : Nat → List (S37) → List (S37) → Int → Option (Bool)
 | 0, _, _, _ => none
 | k + 1, x0, x1, x5 => if x5 < (x0.length : Int) then (if 0 ≤ x5 then (if x5 < (x1.length : Int) then ((laws_eqFact.f k ((rd_T37 x0 x5).f0) ((rd_T37 x0 x5).f1) ((rd_T37 x1 x5).f0) ((rd_T37 x1 x5).f1)).bind fun t140 => (if t140 = true then (laws_eqFactS.l0 k x0 x1 (wrap64 (x5 + 1))) else (some false))) else (none)) else (none)) else (some true)
def laws_eqFactS.f (k : Nat) (l0 : List (S37)) (l1 : List (S37)) : Option (Bool) := if (l0.length : Int) = (l1.length : Int) then (laws_eqFactS.l0 k l0 l1 0) else (some false)
theorem laws_eqFactS.mono_l : ∀ k, (∀ y0 y1 y2, LeO (laws_eqFactS.l0 k y0 y1 y2) (laws_eqFactS.l0 (k + 1) y0 y1 y2))
 | 0 => fun _ _ _ r h => by simp [laws_eqFactS.l0] at h
 | k + 1 => by
  have ih0:=laws_eqFactS.mono_l k
  ·
   intro y0 y1 y2
   unfold laws_eqFactS.l0
   repeat' first
   | (with_reducible exact ih0 _ _ _)
   | (with_reducible exact laws_eqFact.mono _ _ _ _ _)
   | (with_reducible exact LeO.refl _)
   | (with_reducible exact LeO.none _)
   | (with_reducible refine LeO.ite ?_ ?_)
   | (with_reducible refine LeO.bind ?_ (fun _ => ?_))
   | exact ih0 _ _ _
   | exact LeO.none _
   | refine LeO.ite ?_ ?_
   | refine LeO.bind ?_ (fun _ => ?_)
theorem laws_eqFactS.mono : ∀ a0 a1 k, LeO (laws_eqFactS.f k a0 a1) (laws_eqFactS.f (k + 1) a0 a1) := by
 intro a0 a1 k
 have ih0:=laws_eqFactS.mono_l k
 unfold laws_eqFactS.f
 repeat' first
   | (with_reducible exact ih0 _ _ _)
   | (with_reducible exact laws_eqFact.mono _ _ _ _ _)
   | (with_reducible exact LeO.refl _)
   | (with_reducible exact LeO.none _)
   | (with_reducible refine LeO.ite ?_ ?_)
   | (with_reducible refine LeO.bind ?_ (fun _ => ?_))
   | exact ih0 _ _ _
   | exact LeO.none _
   | refine LeO.ite ?_ ?_
   | refine LeO.bind ?_ (fun _ => ?_)
def laws_eqFactS.T6 : Bool × List (List Nat × List Nat) := (true, [([], []), ([], []), ([0, 1], [0, 1]), ([2], [2]), ([], []), ([], []), ([4, 5], [4, 5]), ([6], [6]), ([3, 7], [3, 7]), ([8], [8])])
def laws_eqFactS.B6 : List Nat := [0, 0, 3, 7, 0, 0, 48, 112, 255, 511]
theorem laws_eqFactS.tab6 : rtab .any (opsOf Try.f15 6) = laws_eqFactS.T6 := by kernel_rfl
theorem laws_eqFactS.bits6 : waitsOk laws_eqFactS.T6.2 laws_eqFactS.B6 = true := by kernel_rfl
set_option maxHeartbeats 8000000 in
set_option maxRecDepth 100000 in
theorem laws_eqFactS.calls (k : Nat) (A0 : Option Addr) (c0 : Nat) (l0 : List (S37)) (A1 : Option Addr) (c1 : Nat) (l1 : List (S37)) (r : Bool) (w : World) (hr0 : Kd.C k37 w A0 l0.length l0) (hc0 : l0.length ≤ c0) (hr1 : Kd.C k37 w A1 l1.length l1) (hc1 : l1.length ≤ c1) (h : laws_eqFactS.f k l0 l1 = some r) :
  Calls Try.prog 15 #[.slice A0 l0.length c0, .slice A1 l1.length c1] w fun e w' => e = .returned (.bool r) ∧ Below w.heap.size w w' := by
 have hu37:=Try.underlying37;have HR0:=zA hr0;have HC0:=zA hc0;clear hr0 hc0;have HR1:=zA hr1;have HC1:=zA hc1;clear hr1 hc1;have HB:=zA (Below.refl w.heap.size w)
 have H : (if (l0.length : Int) = (l1.length : Int) then (laws_eqFactS.l0 k l0 l1 0) else (some false)) = some r:=h
 clear h
 by_cases c3 : (l0.length : Int) = (l1.length : Int)
 ·
  rw [if_pos c3] at H;have c3b0:=beq_iff_eq.mpr c3;have c3b1:=bne_eq_false_iff_eq.mpr c3
  have c3b2 : (l0.length == l1.length) = true:=by first|simpa using c3|(simp at c3 ⊢;omega)
  clear c3
  have H':=zA H
  clear H
  go_enter Try.func15,Try.ntmps15
  go_wp2
  go_loopg [5] k (fun kq v5 w' => ∃ (x5_1 : Int),v5 = .int .i64 x5_1 ∧ Aside0 (laws_eqFactS.l0 kq l0 l1 x5_1 = some r) ∧ Aside0 (kq ≤ k) ∧ Aside0 (Below w.heap.size w w'))
  case atStart => exact ⟨(0),za,H',⟨Nat.le_refl _⟩,⟨zz HB⟩⟩
  case round =>
   clear H';(try clear c1);(try clear p2);(try clear c3);(try clear c3b0);(try clear c3b1);(try clear c3b2);obtain ⟨x5_1,rfl,HA,HK1,HB⟩:=hrel
   cases gk with
   | zero => exact absurd HA.out (by simp [laws_eqFactS.l0])
   | succ k1 =>
    have H:=HA.out;clear HA;simp only [laws_eqFactS.l0] at H
    by_cases c4 : x5_1 < (l0.length : Int)
    ·
     rw [if_pos c4] at H;have c4b0:=decide_eq_true c4;clear c4
     by_cases c5 : 0 ≤ x5_1
     ·
      rw [if_pos c5] at H;have c5b0:=decide_eq_true c5;clear c5
      by_cases c6 : x5_1 < (l1.length : Int)
      ·
       rw [if_pos c6] at H;have c6b0:=decide_eq_true c6;clear c6;replace H:=Option.bind_eq_some_iff.mp H;obtain ⟨t140,A70,H⟩:=H;(try dsimp only at H);have A7:=zA A70;clear A70
       by_cases c8 : t140 = true
       ·
        subst c8
        rw [if_pos rfl] at H
        have H':=zA H
        clear H
        try go_wp2
        have n0_:=zA (zJ HB.out);clear HB;have HB:=n0_;clear n0_;have p138 : 0 ≤ (x5_1 : Int):=zXb ze;have q138 : x5_1 < (l0.length : Int):=zXb ze;obtain ⟨ad138,A138_1,c138_1,e138,hx138_0,hx138_1,hl138_1,hi138_1⟩:=at_T37 HR0.out x5_1 p138 q138;have hw138_1:=hx138_1;have hw138_0:=hx138_0
        cases e138
        replace hx138_0:=(HB.out.cell (World.block_lt_of_cell? w _ hx138_0)).trans hx138_0;replace hx138_1:=(HB.out.cell (World.block_lt_of_cell? w _ hx138_1)).trans hx138_1;have HR138_1:=zA hi138_1;have HC138_1:=zA hl138_1;clear hi138_1 hl138_1;replace p138:=eq_true p138;replace q138:=eq_true q138;have p139 : 0 ≤ (x5_1 : Int):=zXb ze;have q139 : x5_1 < (l1.length : Int):=zXb ze;obtain ⟨ad139,A139_1,c139_1,e139,hx139_0,hx139_1,hl139_1,hi139_1⟩:=at_T37 HR1.out x5_1 p139 q139;have hw139_1:=hx139_1;have hw139_0:=hx139_0
        cases e139
        replace hx139_0:=(HB.out.cell (World.block_lt_of_cell? w _ hx139_0)).trans hx139_0;replace hx139_1:=(HB.out.cell (World.block_lt_of_cell? w _ hx139_1)).trans hx139_1;have HR139_1:=zA hi139_1;have HC139_1:=zA hl139_1;clear hi139_1 hl139_1;replace p139:=eq_true p139;replace q139:=eq_true q139
        refine start_ (n:=10) (S:=fun w' => w'.cell? (ad138.add ((x5_1).toNat * 2)) = some (.int .i64 ((rd_T37 l0 x5_1).f0)) ∧ w'.cell? ⟨(ad138.add ((x5_1).toNat * 2)).block,(ad138.add ((x5_1).toNat * 2)).off + 1,none⟩ = some (.slice A138_1 ((rd_T37 l0 x5_1).f1).length c138_1) ∧ w'.cell? (ad139.add ((x5_1).toNat * 2)) = some (.int .i64 ((rd_T37 l1 x5_1).f0)) ∧ w'.cell? ⟨(ad139.add ((x5_1).toNat * 2)).block,(ad139.add ((x5_1).toNat * 2)).off + 1,none⟩ = some (.slice A139_1 ((rd_T37 l1 x5_1).f1).length c139_1)) (ds:=[]) #[false,false,false,false,false,false,false,false,false,false] (by kernel_rfl) rfl rfl ⟨((HB.out.cell (World.block_lt_of_cell? w _ hw138_0)).trans hw138_0),((HB.out.cell (World.block_lt_of_cell? w _ hw138_1)).trans hw138_1),((HB.out.cell (World.block_lt_of_cell? w _ hw139_0)).trans hw139_0),((HB.out.cell (World.block_lt_of_cell? w _ hw139_1)).trans hw139_1)⟩ (fun hHeld => ?_);refine with_tabW laws_eqFactS.tab6 laws_eqFactS.bits6 (fun HT_ HW_ => ?_)
        generalize wr.drew = w9 at HB HR138_1 HR139_1 hx138_0 hx138_1 hx139_0 hx139_1 hHeld ⊢
        refine zut 0 17 HT_ ?_;refine zut 1 18 HT_ ?_;refine zut 2 19 HT_ ?_;refine zut 4 21 HT_ ?_;refine zut 5 22 HT_ ?_;refine zut 6 23 HT_ ?_;refine zwt 3 20 HT_ HW_ hHeld ?_;refine zwt 7 24 HT_ HW_ hHeld ?_
        refine one_ (i:=8) (N:=some 25) #[true,true,true,true,true,true,true,true,true,false] rfl rfl (one_of HT_.out (by kernel_rfl)) (by decide) (fun K hK => ?_)
        refine goes_ Try.func17 (by kernel_rfl) rfl #[.agg #[.int .i64 ((rd_T37 l0 x5_1).f0),.slice A138_1 ((rd_T37 l0 x5_1).f1).length c138_1],.agg #[.int .i64 ((rd_T37 l1 x5_1).f0),.slice A139_1 ((rd_T37 l1 x5_1).f1).length c139_1]] (by rfl) rfl rfl (by (try simp only [zCb,zMb,zNb]);first|done|rfl|(simp only [zLb,zDb];rfl)) ?_
        with_reducible refine (laws_eqFact.calls k1 ((rd_T37 l0 x5_1).f0) _ _ ((rd_T37 l0 x5_1).f1) ((rd_T37 l1 x5_1).f0) _ _ ((rd_T37 l1 x5_1).f1) true _ ?side1 ?side2 ?side3 ?side4 A7.out).mono ?_
        (case side1 => exact zsd HR138_1 HB)
        (case side2 => exact HC138_1.out)
        (case side3 => exact zsd HR139_1 HB)
        (case side4 => exact HC139_1.out)
        rintro e w10 ⟨rfl,hb⟩
        refine ⟨_,rfl,?_⟩
        have n0_:=zA (zJb (zz HB) hb);clear HB;have HB:=n0_;clear n0_;(try clear hb);(try clear hb2);(try clear hk);(try clear hi)
        refine hK.out _ _ ⟨((HB.out.cell (World.block_lt_of_cell? w _ hw138_0)).trans hw138_0),((HB.out.cell (World.block_lt_of_cell? w _ hw138_1)).trans hw138_1),((HB.out.cell (World.block_lt_of_cell? w _ hw139_0)).trans hw139_0),((HB.out.cell (World.block_lt_of_cell? w _ hw139_1)).trans hw139_1)⟩ (fun hHeld => ?_)
        clear hK K
        refine norm_ (a':=?_) ?_ ?_
        rotate_left
        ·
         show Act.put _ (some 25) _ = _
         simp only [Act.put,zO,zEb,zFb,i64_w,i32_w]
         rfl
        refine zut 9 26 HT_ ?_
        refine done_ (done_of HT_.out (by kernel_rfl)) ?_
        try go_wp2
        go_roundg k1
        case measure => have:=HK1.out;omega
        case rel => exact ⟨(wrap64 (x5_1 + 1)),za,H',⟨by have:=HK1.out;omega⟩,⟨zz HB⟩⟩
       ·
        replace c8:=Bool.eq_false_iff.mpr c8
        subst c8
        have H1 : (some false) = some r:=by rw [if_neg (show ¬ (false = true) by decide)] at H;exact H
        clear H;have H:=H1;clear H1
        obtain rfl:=Option.some.inj H
        try go_wp2
        have n0_:=zA (zJ HB.out);clear HB;have HB:=n0_;clear n0_;have p138 : 0 ≤ (x5_1 : Int):=zXb ze;have q138 : x5_1 < (l0.length : Int):=zXb ze;obtain ⟨ad138,A138_1,c138_1,e138,hx138_0,hx138_1,hl138_1,hi138_1⟩:=at_T37 HR0.out x5_1 p138 q138;have hw138_1:=hx138_1;have hw138_0:=hx138_0
        cases e138
        replace hx138_0:=(HB.out.cell (World.block_lt_of_cell? w _ hx138_0)).trans hx138_0;replace hx138_1:=(HB.out.cell (World.block_lt_of_cell? w _ hx138_1)).trans hx138_1;have HR138_1:=zA hi138_1;have HC138_1:=zA hl138_1;clear hi138_1 hl138_1;replace p138:=eq_true p138;replace q138:=eq_true q138;have p139 : 0 ≤ (x5_1 : Int):=zXb ze;have q139 : x5_1 < (l1.length : Int):=zXb ze;obtain ⟨ad139,A139_1,c139_1,e139,hx139_0,hx139_1,hl139_1,hi139_1⟩:=at_T37 HR1.out x5_1 p139 q139;have hw139_1:=hx139_1;have hw139_0:=hx139_0
        cases e139
        replace hx139_0:=(HB.out.cell (World.block_lt_of_cell? w _ hx139_0)).trans hx139_0;replace hx139_1:=(HB.out.cell (World.block_lt_of_cell? w _ hx139_1)).trans hx139_1;have HR139_1:=zA hi139_1;have HC139_1:=zA hl139_1;clear hi139_1 hl139_1;replace p139:=eq_true p139;replace q139:=eq_true q139
        refine start_ (n:=10) (S:=fun w' => w'.cell? (ad138.add ((x5_1).toNat * 2)) = some (.int .i64 ((rd_T37 l0 x5_1).f0)) ∧ w'.cell? ⟨(ad138.add ((x5_1).toNat * 2)).block,(ad138.add ((x5_1).toNat * 2)).off + 1,none⟩ = some (.slice A138_1 ((rd_T37 l0 x5_1).f1).length c138_1) ∧ w'.cell? (ad139.add ((x5_1).toNat * 2)) = some (.int .i64 ((rd_T37 l1 x5_1).f0)) ∧ w'.cell? ⟨(ad139.add ((x5_1).toNat * 2)).block,(ad139.add ((x5_1).toNat * 2)).off + 1,none⟩ = some (.slice A139_1 ((rd_T37 l1 x5_1).f1).length c139_1)) (ds:=[]) #[false,false,false,false,false,false,false,false,false,false] (by kernel_rfl) rfl rfl ⟨((HB.out.cell (World.block_lt_of_cell? w _ hw138_0)).trans hw138_0),((HB.out.cell (World.block_lt_of_cell? w _ hw138_1)).trans hw138_1),((HB.out.cell (World.block_lt_of_cell? w _ hw139_0)).trans hw139_0),((HB.out.cell (World.block_lt_of_cell? w _ hw139_1)).trans hw139_1)⟩ (fun hHeld => ?_);refine with_tabW laws_eqFactS.tab6 laws_eqFactS.bits6 (fun HT_ HW_ => ?_)
        generalize wr.drew = w11 at HB HR138_1 HR139_1 hx138_0 hx138_1 hx139_0 hx139_1 hHeld ⊢
        refine zut 0 17 HT_ ?_;refine zut 1 18 HT_ ?_;refine zut 2 19 HT_ ?_;refine zut 4 21 HT_ ?_;refine zut 5 22 HT_ ?_;refine zut 6 23 HT_ ?_;refine zwt 3 20 HT_ HW_ hHeld ?_;refine zwt 7 24 HT_ HW_ hHeld ?_
        refine one_ (i:=8) (N:=some 25) #[true,true,true,true,true,true,true,true,true,false] rfl rfl (one_of HT_.out (by kernel_rfl)) (by decide) (fun K hK => ?_)
        refine goes_ Try.func17 (by kernel_rfl) rfl #[.agg #[.int .i64 ((rd_T37 l0 x5_1).f0),.slice A138_1 ((rd_T37 l0 x5_1).f1).length c138_1],.agg #[.int .i64 ((rd_T37 l1 x5_1).f0),.slice A139_1 ((rd_T37 l1 x5_1).f1).length c139_1]] (by rfl) rfl rfl (by (try simp only [zCb,zMb,zNb]);first|done|rfl|(simp only [zLb,zDb];rfl)) ?_
        with_reducible refine (laws_eqFact.calls k1 ((rd_T37 l0 x5_1).f0) _ _ ((rd_T37 l0 x5_1).f1) ((rd_T37 l1 x5_1).f0) _ _ ((rd_T37 l1 x5_1).f1) false _ ?side1 ?side2 ?side3 ?side4 A7.out).mono ?_
        (case side1 => exact zsd HR138_1 HB)
        (case side2 => exact HC138_1.out)
        (case side3 => exact zsd HR139_1 HB)
        (case side4 => exact HC139_1.out)
        rintro e w12 ⟨rfl,hb⟩
        refine ⟨_,rfl,?_⟩
        have n0_:=zA (zJb (zz HB) hb);clear HB;have HB:=n0_;clear n0_;(try clear hb);(try clear hb2);(try clear hk);(try clear hi)
        refine hK.out _ _ ⟨((HB.out.cell (World.block_lt_of_cell? w _ hw138_0)).trans hw138_0),((HB.out.cell (World.block_lt_of_cell? w _ hw138_1)).trans hw138_1),((HB.out.cell (World.block_lt_of_cell? w _ hw139_0)).trans hw139_0),((HB.out.cell (World.block_lt_of_cell? w _ hw139_1)).trans hw139_1)⟩ (fun hHeld => ?_)
        clear hK K
        refine norm_ (a':=?_) ?_ ?_
        rotate_left
        ·
         show Act.put _ (some 25) _ = _
         simp only [Act.put,zO,zEb,zFb,i64_w,i32_w]
         rfl
        refine zut 9 26 HT_ ?_
        refine done_ (done_of HT_.out (by kernel_rfl)) ?_
        try go_wp2
        go_ret
        exact ⟨by first|rfl|(simp [errW_none,errW_some] <;> rfl)|(simp [*,errW_none,errW_some] <;> rfl),zz HB⟩
      ·
       rw [if_neg c6] at H
       exact absurd H (by simp)
     ·
      rw [if_neg c5] at H
      exact absurd H (by simp)
    ·
     rw [if_neg c4] at H;have c4b0:=decide_eq_false c4;clear c4
     obtain rfl:=Option.some.inj H
     go_wp2
     go_ret
     exact ⟨by first|rfl|(simp [errW_none,errW_some] <;> rfl)|(simp [*,errW_none,errW_some] <;> rfl),zz HB⟩
 ·
  rw [if_neg c3] at H;have c3b0:=beq_eq_false_iff_ne.mpr c3;have c3b1:=bne_iff_ne.mpr c3
  have c3b2 : (l0.length == l1.length) = false:=by first|simpa using c3|(simp at c3 ⊢;omega)
  obtain rfl:=Option.some.inj H
  go_enter Try.func15,Try.ntmps15
  go_wp2
  go_ret
  exact ⟨by first|rfl|(simp [errW_none,errW_some] <;> rfl)|(simp [*,errW_none,errW_some] <;> rfl),zz HB⟩

/-! ### laws_eqSchema: function 16 -/
def laws_eqSchema.f (k : Nat) (l0_0 : List Int) (l1_0 : List Int) : Option (Bool) := (laws_eqIntS.f k l0_0 l1_0).bind fun t143 => (if t143 = true then (some true) else (some false))
theorem laws_eqSchema.mono : ∀ a0 a1 k, LeO (laws_eqSchema.f k a0 a1) (laws_eqSchema.f (k + 1) a0 a1) := by
 intro a0 a1 k
 unfold laws_eqSchema.f
 repeat' first
   | (with_reducible exact laws_eqIntS.mono _ _ _)
   | (with_reducible exact LeO.refl _)
   | (with_reducible exact LeO.none _)
   | (with_reducible refine LeO.ite ?_ ?_)
   | (with_reducible refine LeO.bind ?_ (fun _ => ?_))
   | exact LeO.none _
   | refine LeO.ite ?_ ?_
   | refine LeO.bind ?_ (fun _ => ?_)
set_option maxHeartbeats 8000000 in
set_option maxRecDepth 100000 in
theorem laws_eqSchema.calls (k : Nat) (A0_0 : Option Addr) (c0_0 : Nat) (l0_0 : List Int) (A1_0 : Option Addr) (c1_0 : Nat) (l1_0 : List Int) (r : Bool) (w : World) (hr0_0 : Kd.C (Kd.int .i64) w A0_0 l0_0.length l0_0) (hc0_0 : l0_0.length ≤ c0_0) (hr1_0 : Kd.C (Kd.int .i64) w A1_0 l1_0.length l1_0) (hc1_0 : l1_0.length ≤ c1_0) (h : laws_eqSchema.f k l0_0 l1_0 = some r) :
  Calls Try.prog 16 #[.agg #[.slice A0_0 l0_0.length c0_0], .agg #[.slice A1_0 l1_0.length c1_0]] w fun e w' => e = .returned (.bool r) ∧ Below w.heap.size w w' := by
 have hu34:=Try.underlying34;have HR0_0:=zA hr0_0;have HC0_0:=zA hc0_0;clear hr0_0 hc0_0;have HR1_0:=zA hr1_0;have HC1_0:=zA hc1_0;clear hr1_0 hc1_0;have HB:=zA (Below.refl w.heap.size w)
 have H : ((laws_eqIntS.f k l0_0 l1_0).bind fun t143 => (if t143 = true then (some true) else (some false))) = some r:=h
 clear h;replace H:=Option.bind_eq_some_iff.mp H;obtain ⟨t143,A30,H⟩:=H;(try dsimp only at H);have A3:=zA A30;clear A30
 by_cases c4 : t143 = true
 ·
  subst c4
  rw [if_pos rfl] at H
  obtain rfl:=Option.some.inj H
  go_enter Try.func16,Try.ntmps16
  go_wp2_with (first|((with_reducible refine gate_dst (N:=2) rfl ?_);refine box_event ?hg (N:=2) ?hd (cs:=#[.slice A0_0 l0_0.length c0_0]) (t:=34) ?hr ?_;(case hd => rfl);(case hg => rfl);(case hr => first|(go_simp;done)|(go_simp;rfl));intro gb141 hg w5 hbox hb;have BK141:=zA (hbox);have GW141:=zA ((by rw [hg];exact (zT (zz HB)) : w.heap.size ≤ gb141));have GE141:=zA ((by rw [hg];exact (zT (zz HB)) : w.heap.size ≤ gb141));replace HB:=zA (zJb (zz HB) hb);clear hb hbox hg)|((with_reducible refine gate_dst (N:=3) rfl ?_);refine box_event ?hg (N:=3) ?hd (cs:=#[.slice A1_0 l1_0.length c1_0]) (t:=34) ?hr ?_;(case hd => rfl);(case hg => rfl);(case hr => first|(go_simp;done)|(go_simp;rfl));intro gb142 hg w6 hbox hb;have BK142:=zA (hbox);have GW142:=zA ((by rw [hg];exact (zT (zz HB)) : w.heap.size ≤ gb142));have GE142:=zA ((by rw [hg];exact (zT (zz HB)) : w.heap.size ≤ gb142));replace HB:=zA (zJb (zz HB) hb);have NB141_142:=zA ((by rw [hg];exact Nat.ne_of_lt (blk_lt (g:=gb141) (o:=.cells #[.slice A0_0 l0_0.length c0_0] 34 (0,0)) (zx BK141)) : gb141 ≠ gb142));have NB142_141:=zA ((by rw [hg];exact Nat.ne_of_gt (blk_lt (g:=gb141) (o:=.cells #[.slice A0_0 l0_0.length c0_0] 34 (0,0)) (zx BK141)) : gb142 ≠ gb141));replace BK141:=zA (zQ (g:=gb141) (o:=.cells #[.slice A0_0 l0_0.length c0_0] 34 (0,0)) (zx BK141) hb);clear hb hbox hg;have hnb7:=NB141_142.out;have hnc7:=NB142_141.out;have hcz8_0:=zc (.slice A0_0 l0_0.length c0_0) BK141 0 rfl;have hfz8_0:=blk_frozen BK141.out 0;have hcz9_0:=zc (.slice A1_0 l1_0.length c1_0) BK142 0 rfl;have hfz9_0:=blk_frozen BK142.out 0)|((with_reducible refine gate_callee (f:=46) rfl ?_);refine goesL_ (some 9) rfl rfl Try.func46 (by kernel_rfl) rfl #[.slice A0_0 l0_0.length c0_0,.slice A1_0 l1_0.length c1_0] rfl (by (try simp only [zCb,zMb,zNb]);first|done|rfl|(simp only [zLb,zDb];rfl)) ?_;(with_reducible refine (laws_eqIntS.calls k _ _ l0_0 _ _ l1_0 true _ ?side1 ?side2 ?side3 ?side4 A3.out).mono ?_);(case side1 => exact zsd HR0_0 HB);(case side2 => exact HC0_0.out);(case side3 => exact zsd HR1_0 HB);(case side4 => exact HC1_0.out);rintro e w' ⟨rfl,⟨nd,rfl⟩⟩;refine ⟨_,rfl,?_⟩))
  go_ret
  exact ⟨by first|rfl|(simp [errW_none,errW_some] <;> rfl)|(simp [*,errW_none,errW_some] <;> rfl),zz HB⟩
 ·
  replace c4:=Bool.eq_false_iff.mpr c4
  subst c4
  have H1 : (some false) = some r:=by rw [if_neg (show ¬ (false = true) by decide)] at H;exact H
  clear H;have H:=H1;clear H1
  obtain rfl:=Option.some.inj H
  go_enter Try.func16,Try.ntmps16
  go_wp2_with (first|((with_reducible refine gate_dst (N:=2) rfl ?_);refine box_event ?hg (N:=2) ?hd (cs:=#[.slice A0_0 l0_0.length c0_0]) (t:=34) ?hr ?_;(case hd => rfl);(case hg => rfl);(case hr => first|(go_simp;done)|(go_simp;rfl));intro gb141 hg w10 hbox hb;have BK141:=zA (hbox);have GW141:=zA ((by rw [hg];exact (zT (zz HB)) : w.heap.size ≤ gb141));have GE141:=zA ((by rw [hg];exact (zT (zz HB)) : w.heap.size ≤ gb141));replace HB:=zA (zJb (zz HB) hb);clear hb hbox hg)|((with_reducible refine gate_dst (N:=3) rfl ?_);refine box_event ?hg (N:=3) ?hd (cs:=#[.slice A1_0 l1_0.length c1_0]) (t:=34) ?hr ?_;(case hd => rfl);(case hg => rfl);(case hr => first|(go_simp;done)|(go_simp;rfl));intro gb142 hg w11 hbox hb;have BK142:=zA (hbox);have GW142:=zA ((by rw [hg];exact (zT (zz HB)) : w.heap.size ≤ gb142));have GE142:=zA ((by rw [hg];exact (zT (zz HB)) : w.heap.size ≤ gb142));replace HB:=zA (zJb (zz HB) hb);have NB141_142:=zA ((by rw [hg];exact Nat.ne_of_lt (blk_lt (g:=gb141) (o:=.cells #[.slice A0_0 l0_0.length c0_0] 34 (0,0)) (zx BK141)) : gb141 ≠ gb142));have NB142_141:=zA ((by rw [hg];exact Nat.ne_of_gt (blk_lt (g:=gb141) (o:=.cells #[.slice A0_0 l0_0.length c0_0] 34 (0,0)) (zx BK141)) : gb142 ≠ gb141));replace BK141:=zA (zQ (g:=gb141) (o:=.cells #[.slice A0_0 l0_0.length c0_0] 34 (0,0)) (zx BK141) hb);clear hb hbox hg;have hnb12:=NB141_142.out;have hnc12:=NB142_141.out;have hcz13_0:=zc (.slice A0_0 l0_0.length c0_0) BK141 0 rfl;have hfz13_0:=blk_frozen BK141.out 0;have hcz14_0:=zc (.slice A1_0 l1_0.length c1_0) BK142 0 rfl;have hfz14_0:=blk_frozen BK142.out 0)|((with_reducible refine gate_callee (f:=46) rfl ?_);refine goesL_ (some 9) rfl rfl Try.func46 (by kernel_rfl) rfl #[.slice A0_0 l0_0.length c0_0,.slice A1_0 l1_0.length c1_0] rfl (by (try simp only [zCb,zMb,zNb]);first|done|rfl|(simp only [zLb,zDb];rfl)) ?_;(with_reducible refine (laws_eqIntS.calls k _ _ l0_0 _ _ l1_0 false _ ?side1 ?side2 ?side3 ?side4 A3.out).mono ?_);(case side1 => exact zsd HR0_0 HB);(case side2 => exact HC0_0.out);(case side3 => exact zsd HR1_0 HB);(case side4 => exact HC1_0.out);rintro e w' ⟨rfl,⟨nd,rfl⟩⟩;refine ⟨_,rfl,?_⟩))
  go_ret
  exact ⟨by first|rfl|(simp [errW_none,errW_some] <;> rfl)|(simp [*,errW_none,errW_some] <;> rfl),zz HB⟩

/-! ### laws_szAtom: function 95 -/
def laws_szAtom.f (a0_0 : Int) (l0_1 : List Int) (a1 : Int) : Option (Int) := (laws_szIntS.f l0_1 a1).bind fun t145 => (if t145 < 0 then (some (-1)) else (some t145))
set_option maxHeartbeats 8000000 in
set_option maxRecDepth 100000 in
theorem laws_szAtom.calls (a0_0 : Int) (A0_1 : Option Addr) (c0_1 : Nat) (l0_1 : List Int) (a1 : Int) (r : Int) (w : World) (hr0_1 : Kd.C (Kd.int .i64) w A0_1 l0_1.length l0_1) (hc0_1 : l0_1.length ≤ c0_1) (h : laws_szAtom.f a0_0 l0_1 a1 = some r) :
  Calls Try.prog 95 #[.agg #[.int .i64 a0_0, .slice A0_1 l0_1.length c0_1], .int .i64 a1] w fun e w' => e = .returned (.int .i64 r) ∧ Below w.heap.size w w' := by
 have hu109:=Try.underlying109;have HR0_1:=zA hr0_1;have HC0_1:=zA hc0_1;clear hr0_1 hc0_1;have HB:=zA (Below.refl w.heap.size w)
 have H : ((laws_szIntS.f l0_1 a1).bind fun t145 => (if t145 < 0 then (some (-1)) else (some t145))) = some r:=h
 clear h;replace H:=Option.bind_eq_some_iff.mp H;obtain ⟨t145,A30,H⟩:=H;(try dsimp only at H);have A3:=zA A30;clear A30
 by_cases c4 : t145 < 0
 ·
  rw [if_pos c4] at H;have c4b0:=decide_eq_true c4;clear c4
  obtain rfl:=Option.some.inj H
  go_enter Try.func95,Try.ntmps95
  go_wp2_with (first|((with_reducible refine gate_dst (N:=2) rfl ?_);refine box_event ?hg (N:=2) ?hd (cs:=#[.int .i64 a0_0,.slice A0_1 l0_1.length c0_1]) (t:=109) ?hr ?_;(case hd => rfl);(case hg => rfl);(case hr => first|(go_simp;done)|(go_simp;rfl));intro gb144 hg w5 hbox hb;have BK144:=zA (hbox);have GW144:=zA ((by rw [hg];exact (zT (zz HB)) : w.heap.size ≤ gb144));have GE144:=zA ((by rw [hg];exact (zT (zz HB)) : w.heap.size ≤ gb144));replace HB:=zA (zJb (zz HB) hb);clear hb hbox hg;have hcz6_0:=zc (.int .i64 a0_0) BK144 0 rfl;have hcz6_1:=zc (.slice A0_1 l0_1.length c0_1) BK144 1 rfl;have hfz6_0:=blk_frozen BK144.out 0;have hfz6_1:=blk_frozen BK144.out 1)|((with_reducible refine gate_callee (f:=47) rfl ?_);refine goesL_ (some 8) rfl rfl Try.func47 (by kernel_rfl) rfl #[.slice A0_1 l0_1.length c0_1,.int .i64 a1] rfl (by (try simp only [zCb,zMb,zNb]);first|done|rfl|(simp only [zLb,zDb];rfl)) ?_;(with_reducible refine (laws_szIntS.calls _ _ l0_1 a1 t145 _ ?side1 ?side2 A3.out).mono ?_);(case side1 => exact zsd HR0_1 HB);(case side2 => exact HC0_1.out);rintro e w' ⟨rfl,⟨nd,rfl⟩⟩;refine ⟨_,rfl,?_⟩))
  go_ret
  exact ⟨by first|rfl|(simp [errW_none,errW_some] <;> rfl)|(simp [*,errW_none,errW_some] <;> rfl),zz HB⟩
 ·
  rw [if_neg c4] at H;have c4b0:=decide_eq_false c4;clear c4
  obtain rfl:=Option.some.inj H
  go_enter Try.func95,Try.ntmps95
  go_wp2_with (first|((with_reducible refine gate_dst (N:=2) rfl ?_);refine box_event ?hg (N:=2) ?hd (cs:=#[.int .i64 a0_0,.slice A0_1 l0_1.length c0_1]) (t:=109) ?hr ?_;(case hd => rfl);(case hg => rfl);(case hr => first|(go_simp;done)|(go_simp;rfl));intro gb144 hg w7 hbox hb;have BK144:=zA (hbox);have GW144:=zA ((by rw [hg];exact (zT (zz HB)) : w.heap.size ≤ gb144));have GE144:=zA ((by rw [hg];exact (zT (zz HB)) : w.heap.size ≤ gb144));replace HB:=zA (zJb (zz HB) hb);clear hb hbox hg;have hcz8_0:=zc (.int .i64 a0_0) BK144 0 rfl;have hcz8_1:=zc (.slice A0_1 l0_1.length c0_1) BK144 1 rfl;have hfz8_0:=blk_frozen BK144.out 0;have hfz8_1:=blk_frozen BK144.out 1)|((with_reducible refine gate_callee (f:=47) rfl ?_);refine goesL_ (some 8) rfl rfl Try.func47 (by kernel_rfl) rfl #[.slice A0_1 l0_1.length c0_1,.int .i64 a1] rfl (by (try simp only [zCb,zMb,zNb]);first|done|rfl|(simp only [zLb,zDb];rfl)) ?_;(with_reducible refine (laws_szIntS.calls _ _ l0_1 a1 t145 _ ?side1 ?side2 A3.out).mono ?_);(case side1 => exact zsd HR0_1 HB);(case side2 => exact HC0_1.out);rintro e w' ⟨rfl,⟨nd,rfl⟩⟩;refine ⟨_,rfl,?_⟩))
  go_ret
  exact ⟨by first|rfl|(simp [errW_none,errW_some] <;> rfl)|(simp [*,errW_none,errW_some] <;> rfl),zz HB⟩

/-! ### laws_szAtomS: function 68 -/
def laws_szAtomS.l0 : Nat → List (S109) → Int → Int → Option (Int)
 | 0, _, _, _ => none
 | k + 1, x0, x1, x5 => if x5 < (x0.length : Int) then (if 0 ≤ x5 then ((laws_szAtom.f ((rd_T109 x0 x5).f0) ((rd_T109 x0 x5).f1) x1).bind fun t147 => (if t147 < 0 then (some (-1)) else (laws_szAtomS.l0 k x0 t147 (wrap64 (x5 + 1))))) else (none)) else (some x1)
def laws_szAtomS.f (k : Nat) (l0 : List (S109)) (a1 : Int) : Option (Int) := if (wrap64 (a1 - (l0.length : Int))) < 0 then (some (-1)) else (laws_szAtomS.l0 k l0 (wrap64 (a1 - (l0.length : Int))) 0)
theorem laws_szAtomS.mono_l : ∀ k, (∀ y0 y1 y2, LeO (laws_szAtomS.l0 k y0 y1 y2) (laws_szAtomS.l0 (k + 1) y0 y1 y2))
 | 0 => fun _ _ _ r h => by simp [laws_szAtomS.l0] at h
 | k + 1 => by
  have ih0:=laws_szAtomS.mono_l k
  ·
   intro y0 y1 y2
   unfold laws_szAtomS.l0
   repeat' first
   | (with_reducible exact ih0 _ _ _)
   | (with_reducible exact LeO.refl _)
   | (with_reducible exact LeO.none _)
   | (with_reducible refine LeO.ite ?_ ?_)
   | (with_reducible refine LeO.bind ?_ (fun _ => ?_))
   | exact ih0 _ _ _
   | exact LeO.none _
   | refine LeO.ite ?_ ?_
   | refine LeO.bind ?_ (fun _ => ?_)
theorem laws_szAtomS.mono : ∀ a0 a1 k, LeO (laws_szAtomS.f k a0 a1) (laws_szAtomS.f (k + 1) a0 a1) := by
 intro a0 a1 k
 have ih0:=laws_szAtomS.mono_l k
 unfold laws_szAtomS.f
 repeat' first
   | (with_reducible exact ih0 _ _ _)
   | (with_reducible exact LeO.refl _)
   | (with_reducible exact LeO.none _)
   | (with_reducible refine LeO.ite ?_ ?_)
   | (with_reducible refine LeO.bind ?_ (fun _ => ?_))
   | exact ih0 _ _ _
   | exact LeO.none _
   | refine LeO.ite ?_ ?_
   | refine LeO.bind ?_ (fun _ => ?_)
set_option maxHeartbeats 8000000 in
set_option maxRecDepth 100000 in
theorem laws_szAtomS.calls (k : Nat) (A0 : Option Addr) (c0 : Nat) (l0 : List (S109)) (a1 : Int) (r : Int) (w : World) (hr0 : Kd.C k109 w A0 l0.length l0) (hc0 : l0.length ≤ c0) (h : laws_szAtomS.f k l0 a1 = some r) :
  Calls Try.prog 68 #[.slice A0 l0.length c0, .int .i64 a1] w fun e w' => e = .returned (.int .i64 r) ∧ Below w.heap.size w w' := by
 have hu109:=Try.underlying109;have HR0:=zA hr0;have HC0:=zA hc0;clear hr0 hc0;have HB:=zA (Below.refl w.heap.size w)
 have H : (if (wrap64 (a1 - (l0.length : Int))) < 0 then (some (-1)) else (laws_szAtomS.l0 k l0 (wrap64 (a1 - (l0.length : Int))) 0)) = some r:=h
 clear h
 by_cases c3 : (wrap64 (a1 - (l0.length : Int))) < 0
 ·
  rw [if_pos c3] at H;have c3b0:=decide_eq_true c3;clear c3
  obtain rfl:=Option.some.inj H
  go_enter Try.func68,Try.ntmps68
  go_wp2
  go_ret
  exact ⟨by first|rfl|(simp [errW_none,errW_some] <;> rfl)|(simp [*,errW_none,errW_some] <;> rfl),zz HB⟩
 ·
  rw [if_neg c3] at H;have c3b0:=decide_eq_false c3;clear c3
  have H':=zA H
  clear H
  go_enter Try.func68,Try.ntmps68
  go_wp2
  go_loopg [1,5] k (fun kq v1 v5 w' => ∃ (x1_1 : Int) (x5_1 : Int),v1 = .int .i64 x1_1 ∧ v5 = .int .i64 x5_1 ∧ Aside0 (laws_szAtomS.l0 kq l0 x1_1 x5_1 = some r) ∧ Aside0 (kq ≤ k) ∧ Aside0 (Below w.heap.size w w'))
  case atStart => exact ⟨(wrap64 (a1 - (l0.length : Int))),(0),za,za,H',⟨Nat.le_refl _⟩,⟨zz HB⟩⟩
  case round =>
   clear H';(try clear p2);(try clear c3);(try clear c3b0);obtain ⟨x1_1,x5_1,rfl,rfl,HA,HK1,HB⟩:=hrel
   cases gk with
   | zero => exact absurd HA.out (by simp [laws_szAtomS.l0])
   | succ k1 =>
    have H:=HA.out;clear HA;simp only [laws_szAtomS.l0] at H
    by_cases c4 : x5_1 < (l0.length : Int)
    ·
     rw [if_pos c4] at H;have c4b0:=decide_eq_true c4;clear c4
     by_cases c5 : 0 ≤ x5_1
     ·
      rw [if_pos c5] at H;have c5b0:=decide_eq_true c5;clear c5;replace H:=Option.bind_eq_some_iff.mp H;obtain ⟨t147,A60,H⟩:=H;(try dsimp only at H);have A6:=zA A60;clear A60
      by_cases c7 : t147 < 0
      ·
       rw [if_pos c7] at H;have c7b0:=decide_eq_true c7;clear c7
       obtain rfl:=Option.some.inj H
       have p146 : 0 ≤ (x5_1 : Int):=zXb ze;have q146 : x5_1 < (l0.length : Int):=zXb ze;obtain ⟨ad146,A146_1,c146_1,e146,hx146_0,hx146_1,hl146_1,hi146_1⟩:=at_T109 HR0.out x5_1 p146 q146
       cases e146
       replace hx146_0:=(HB.out.cell (World.block_lt_of_cell? w _ hx146_0)).trans hx146_0;replace hx146_1:=(HB.out.cell (World.block_lt_of_cell? w _ hx146_1)).trans hx146_1;have HR146_1:=zA hi146_1;have HC146_1:=zA hl146_1;clear hi146_1 hl146_1;replace p146:=eq_true p146;replace q146:=eq_true q146
       go_wp2_with (first|((with_reducible refine gate_callee (f:=95) rfl ?_);refine goesL_ (some 23) rfl rfl Try.func95 (by kernel_rfl) rfl #[.agg #[.int .i64 ((rd_T109 l0 x5_1).f0),.slice A146_1 ((rd_T109 l0 x5_1).f1).length c146_1],.int .i64 x1_1] rfl (by (try simp only [zCb,zMb,zNb]);first|done|rfl|(simp only [zLb,zDb];rfl)) ?_;(with_reducible refine (laws_szAtom.calls ((rd_T109 l0 x5_1).f0) _ _ ((rd_T109 l0 x5_1).f1) x1_1 t147 _ ?side1 ?side2 A6.out).mono ?_);(case side1 => exact zsd HR146_1 HB);(case side2 => exact HC146_1.out);rintro e w8 ⟨rfl,hb⟩;refine ⟨_,rfl,?_⟩;replace HB:=zA (zJb (zz HB) hb);(try clear hb);(try clear hb2);(try clear hk);(try clear hi)))
       go_ret
       exact ⟨by first|rfl|(simp [errW_none,errW_some] <;> rfl)|(simp [*,errW_none,errW_some] <;> rfl),zz HB⟩
      ·
       rw [if_neg c7] at H;have c7b0:=decide_eq_false c7;clear c7
       have H':=zA H
       clear H;have p146 : 0 ≤ (x5_1 : Int):=zXb ze;have q146 : x5_1 < (l0.length : Int):=zXb ze;obtain ⟨ad146,A146_1,c146_1,e146,hx146_0,hx146_1,hl146_1,hi146_1⟩:=at_T109 HR0.out x5_1 p146 q146
       cases e146
       replace hx146_0:=(HB.out.cell (World.block_lt_of_cell? w _ hx146_0)).trans hx146_0;replace hx146_1:=(HB.out.cell (World.block_lt_of_cell? w _ hx146_1)).trans hx146_1;have HR146_1:=zA hi146_1;have HC146_1:=zA hl146_1;clear hi146_1 hl146_1;replace p146:=eq_true p146;replace q146:=eq_true q146
       go_wp2_with (first|((with_reducible refine gate_callee (f:=95) rfl ?_);refine goesL_ (some 23) rfl rfl Try.func95 (by kernel_rfl) rfl #[.agg #[.int .i64 ((rd_T109 l0 x5_1).f0),.slice A146_1 ((rd_T109 l0 x5_1).f1).length c146_1],.int .i64 x1_1] rfl (by (try simp only [zCb,zMb,zNb]);first|done|rfl|(simp only [zLb,zDb];rfl)) ?_;(with_reducible refine (laws_szAtom.calls ((rd_T109 l0 x5_1).f0) _ _ ((rd_T109 l0 x5_1).f1) x1_1 t147 _ ?side1 ?side2 A6.out).mono ?_);(case side1 => exact zsd HR146_1 HB);(case side2 => exact HC146_1.out);rintro e w9 ⟨rfl,hb⟩;refine ⟨_,rfl,?_⟩;replace HB:=zA (zJb (zz HB) hb);(try clear hb);(try clear hb2);(try clear hk);(try clear hi)))
       go_roundg k1
       case measure => have:=HK1.out;omega
       case rel => exact ⟨(t147),(wrap64 (x5_1 + 1)),za,za,H',⟨by have:=HK1.out;omega⟩,⟨zz HB⟩⟩
     ·
      rw [if_neg c5] at H
      exact absurd H (by simp)
    ·
     rw [if_neg c4] at H;have c4b0:=decide_eq_false c4;clear c4
     obtain rfl:=Option.some.inj H
     go_wp2
     go_ret
     exact ⟨by first|rfl|(simp [errW_none,errW_some] <;> rfl)|(simp [*,errW_none,errW_some] <;> rfl),zz HB⟩

/-! ### laws_szQuery: function 34 -/
def laws_szQuery.f (k : Nat) (l0_0 : List Int) (l0_1 : List (S109)) (a1 : Int) : Option (Int) := (laws_szIntS.f l0_0 a1).bind fun t149 => (if t149 < 0 then (some (-1)) else ((laws_szAtomS.f k l0_1 t149).bind fun t150 => (if t150 < 0 then (some (-1)) else (some t150))))
theorem laws_szQuery.mono : ∀ a0 a1 a2 k, LeO (laws_szQuery.f k a0 a1 a2) (laws_szQuery.f (k + 1) a0 a1 a2) := by
 intro a0 a1 a2 k
 unfold laws_szQuery.f
 repeat' first
   | (with_reducible exact laws_szAtomS.mono _ _ _)
   | (with_reducible exact LeO.refl _)
   | (with_reducible exact LeO.none _)
   | (with_reducible refine LeO.ite ?_ ?_)
   | (with_reducible refine LeO.bind ?_ (fun _ => ?_))
   | exact LeO.none _
   | refine LeO.ite ?_ ?_
   | refine LeO.bind ?_ (fun _ => ?_)
set_option maxHeartbeats 8000000 in
set_option maxRecDepth 100000 in
theorem laws_szQuery.calls (k : Nat) (A0_0 : Option Addr) (c0_0 : Nat) (l0_0 : List Int) (A0_1 : Option Addr) (c0_1 : Nat) (l0_1 : List (S109)) (a1 : Int) (r : Int) (w : World) (hr0_0 : Kd.C (Kd.int .i64) w A0_0 l0_0.length l0_0) (hc0_0 : l0_0.length ≤ c0_0) (hr0_1 : Kd.C k109 w A0_1 l0_1.length l0_1) (hc0_1 : l0_1.length ≤ c0_1) (h : laws_szQuery.f k l0_0 l0_1 a1 = some r) :
  Calls Try.prog 34 #[.agg #[.slice A0_0 l0_0.length c0_0, .slice A0_1 l0_1.length c0_1], .int .i64 a1] w fun e w' => e = .returned (.int .i64 r) ∧ Below w.heap.size w w' := by
 have hu55:=Try.underlying55;have HR0_0:=zA hr0_0;have HC0_0:=zA hc0_0;clear hr0_0 hc0_0;have HR0_1:=zA hr0_1;have HC0_1:=zA hc0_1;clear hr0_1 hc0_1;have HB:=zA (Below.refl w.heap.size w)
 have H : ((laws_szIntS.f l0_0 a1).bind fun t149 => (if t149 < 0 then (some (-1)) else ((laws_szAtomS.f k l0_1 t149).bind fun t150 => (if t150 < 0 then (some (-1)) else (some t150))))) = some r:=h
 clear h;replace H:=Option.bind_eq_some_iff.mp H;obtain ⟨t149,A30,H⟩:=H;(try dsimp only at H);have A3:=zA A30;clear A30
 by_cases c4 : t149 < 0
 ·
  rw [if_pos c4] at H;have c4b0:=decide_eq_true c4;clear c4
  obtain rfl:=Option.some.inj H
  go_enter Try.func34,Try.ntmps34
  go_wp2_with (first|((with_reducible refine gate_dst (N:=2) rfl ?_);refine box_event ?hg (N:=2) ?hd (cs:=#[.slice A0_0 l0_0.length c0_0,.slice A0_1 l0_1.length c0_1]) (t:=55) ?hr ?_;(case hd => rfl);(case hg => rfl);(case hr => first|(go_simp;done)|(go_simp;rfl));intro gb148 hg w5 hbox hb;have BK148:=zA (hbox);have GW148:=zA ((by rw [hg];exact (zT (zz HB)) : w.heap.size ≤ gb148));have GE148:=zA ((by rw [hg];exact (zT (zz HB)) : w.heap.size ≤ gb148));replace HB:=zA (zJb (zz HB) hb);clear hb hbox hg;have hcz6_0:=zc (.slice A0_0 l0_0.length c0_0) BK148 0 rfl;have hcz6_1:=zc (.slice A0_1 l0_1.length c0_1) BK148 1 rfl;have hfz6_0:=blk_frozen BK148.out 0;have hfz6_1:=blk_frozen BK148.out 1)|((with_reducible refine gate_callee (f:=47) rfl ?_);refine goesL_ (some 8) rfl rfl Try.func47 (by kernel_rfl) rfl #[.slice A0_0 l0_0.length c0_0,.int .i64 a1] rfl (by (try simp only [zCb,zMb,zNb]);first|done|rfl|(simp only [zLb,zDb];rfl)) ?_;(with_reducible refine (laws_szIntS.calls _ _ l0_0 a1 t149 _ ?side1 ?side2 A3.out).mono ?_);(case side1 => exact zsd HR0_0 HB);(case side2 => exact HC0_0.out);rintro e w' ⟨rfl,⟨nd,rfl⟩⟩;refine ⟨_,rfl,?_⟩))
  go_ret
  exact ⟨by first|rfl|(simp [errW_none,errW_some] <;> rfl)|(simp [*,errW_none,errW_some] <;> rfl),zz HB⟩
 ·
  rw [if_neg c4] at H;have c4b0:=decide_eq_false c4;clear c4;replace H:=Option.bind_eq_some_iff.mp H;obtain ⟨t150,A70,H⟩:=H;(try dsimp only at H);have A7:=zA A70;clear A70
  by_cases c8 : t150 < 0
  ·
   rw [if_pos c8] at H;have c8b0:=decide_eq_true c8;clear c8
   obtain rfl:=Option.some.inj H
   go_enter Try.func34,Try.ntmps34
   go_wp2_with (first|((with_reducible refine gate_dst (N:=2) rfl ?_);refine box_event ?hg (N:=2) ?hd (cs:=#[.slice A0_0 l0_0.length c0_0,.slice A0_1 l0_1.length c0_1]) (t:=55) ?hr ?_;(case hd => rfl);(case hg => rfl);(case hr => first|(go_simp;done)|(go_simp;rfl));intro gb148 hg w9 hbox hb;have BK148:=zA (hbox);have GW148:=zA ((by rw [hg];exact (zT (zz HB)) : w.heap.size ≤ gb148));have GE148:=zA ((by rw [hg];exact (zT (zz HB)) : w.heap.size ≤ gb148));replace HB:=zA (zJb (zz HB) hb);clear hb hbox hg;have hcz10_0:=zc (.slice A0_0 l0_0.length c0_0) BK148 0 rfl;have hcz10_1:=zc (.slice A0_1 l0_1.length c0_1) BK148 1 rfl;have hfz10_0:=blk_frozen BK148.out 0;have hfz10_1:=blk_frozen BK148.out 1)|((with_reducible refine gate_callee (f:=47) rfl ?_);refine goesL_ (some 8) rfl rfl Try.func47 (by kernel_rfl) rfl #[.slice A0_0 l0_0.length c0_0,.int .i64 a1] rfl (by (try simp only [zCb,zMb,zNb]);first|done|rfl|(simp only [zLb,zDb];rfl)) ?_;(with_reducible refine (laws_szIntS.calls _ _ l0_0 a1 t149 _ ?side1 ?side2 A3.out).mono ?_);(case side1 => exact zsd HR0_0 HB);(case side2 => exact HC0_0.out);rintro e w' ⟨rfl,⟨nd,rfl⟩⟩;refine ⟨_,rfl,?_⟩)|((with_reducible refine gate_callee (f:=68) rfl ?_);refine goesL_ (some 14) rfl rfl Try.func68 (by kernel_rfl) rfl #[.slice A0_1 l0_1.length c0_1,.int .i64 t149] rfl (by (try simp only [zCb,zMb,zNb]);first|done|rfl|(simp only [zLb,zDb];rfl)) ?_;(with_reducible refine (laws_szAtomS.calls k _ _ l0_1 t149 t150 _ ?side1 ?side2 A7.out).mono ?_);(case side1 => repeat (first|exact (zKb HR0_1.out (zz HB))|(with_reducible refine zBb ?_ _)|(with_reducible refine zAb ?_ _)|(with_reducible refine zX ?_)));(case side2 => exact HC0_1.out);rintro e w11 ⟨rfl,hb⟩;refine ⟨_,rfl,?_⟩;replace BK148:=zA (zQ (g:=gb148) (o:=.cells #[.slice A0_0 l0_0.length c0_0,.slice A0_1 l0_1.length c0_1] 55 (0,0)) (zx BK148) hb);replace HB:=zA (zJb (zz HB) hb);(try clear hb);(try clear hb2);(try clear hk);(try clear hi)))
   go_ret
   exact ⟨by first|rfl|(simp [errW_none,errW_some] <;> rfl)|(simp [*,errW_none,errW_some] <;> rfl),zz HB⟩
  ·
   rw [if_neg c8] at H;have c8b0:=decide_eq_false c8;clear c8
   obtain rfl:=Option.some.inj H
   go_enter Try.func34,Try.ntmps34
   go_wp2_with (first|((with_reducible refine gate_dst (N:=2) rfl ?_);refine box_event ?hg (N:=2) ?hd (cs:=#[.slice A0_0 l0_0.length c0_0,.slice A0_1 l0_1.length c0_1]) (t:=55) ?hr ?_;(case hd => rfl);(case hg => rfl);(case hr => first|(go_simp;done)|(go_simp;rfl));intro gb148 hg w12 hbox hb;have BK148:=zA (hbox);have GW148:=zA ((by rw [hg];exact (zT (zz HB)) : w.heap.size ≤ gb148));have GE148:=zA ((by rw [hg];exact (zT (zz HB)) : w.heap.size ≤ gb148));replace HB:=zA (zJb (zz HB) hb);clear hb hbox hg;have hcz13_0:=zc (.slice A0_0 l0_0.length c0_0) BK148 0 rfl;have hcz13_1:=zc (.slice A0_1 l0_1.length c0_1) BK148 1 rfl;have hfz13_0:=blk_frozen BK148.out 0;have hfz13_1:=blk_frozen BK148.out 1)|((with_reducible refine gate_callee (f:=47) rfl ?_);refine goesL_ (some 8) rfl rfl Try.func47 (by kernel_rfl) rfl #[.slice A0_0 l0_0.length c0_0,.int .i64 a1] rfl (by (try simp only [zCb,zMb,zNb]);first|done|rfl|(simp only [zLb,zDb];rfl)) ?_;(with_reducible refine (laws_szIntS.calls _ _ l0_0 a1 t149 _ ?side1 ?side2 A3.out).mono ?_);(case side1 => exact zsd HR0_0 HB);(case side2 => exact HC0_0.out);rintro e w' ⟨rfl,⟨nd,rfl⟩⟩;refine ⟨_,rfl,?_⟩)|((with_reducible refine gate_callee (f:=68) rfl ?_);refine goesL_ (some 14) rfl rfl Try.func68 (by kernel_rfl) rfl #[.slice A0_1 l0_1.length c0_1,.int .i64 t149] rfl (by (try simp only [zCb,zMb,zNb]);first|done|rfl|(simp only [zLb,zDb];rfl)) ?_;(with_reducible refine (laws_szAtomS.calls k _ _ l0_1 t149 t150 _ ?side1 ?side2 A7.out).mono ?_);(case side1 => repeat (first|exact (zKb HR0_1.out (zz HB))|(with_reducible refine zBb ?_ _)|(with_reducible refine zAb ?_ _)|(with_reducible refine zX ?_)));(case side2 => exact HC0_1.out);rintro e w14 ⟨rfl,hb⟩;refine ⟨_,rfl,?_⟩;replace BK148:=zA (zQ (g:=gb148) (o:=.cells #[.slice A0_0 l0_0.length c0_0,.slice A0_1 l0_1.length c0_1] 55 (0,0)) (zx BK148) hb);replace HB:=zA (zJb (zz HB) hb);(try clear hb);(try clear hb2);(try clear hk);(try clear hi)))
   go_ret
   exact ⟨by first|rfl|(simp [errW_none,errW_some] <;> rfl)|(simp [*,errW_none,errW_some] <;> rfl),zz HB⟩

/-! ### laws_toAtom: function 100 -/
def laws_toAtom.f (k : Nat) (a0_0 : Int) (l0_1 : List Int) : Option (Int × List Int) := (laws_toIntS.f k l0_1).bind fun t154 => (some (a0_0, t154))
theorem laws_toAtom.mono : ∀ a0 a1 k, LeO (laws_toAtom.f k a0 a1) (laws_toAtom.f (k + 1) a0 a1) := by
 intro a0 a1 k
 unfold laws_toAtom.f
 repeat' first
   | (with_reducible exact laws_toIntS.mono _ _)
   | (with_reducible exact LeO.refl _)
   | (with_reducible exact LeO.none _)
   | (with_reducible refine LeO.ite ?_ ?_)
   | (with_reducible refine LeO.bind ?_ (fun _ => ?_))
   | exact LeO.none _
   | refine LeO.ite ?_ ?_
   | refine LeO.bind ?_ (fun _ => ?_)
set_option maxHeartbeats 8000000 in
set_option maxRecDepth 100000 in
theorem laws_toAtom.calls (k : Nat) (a0_0 : Int) (A0_1 : Option Addr) (c0_1 : Nat) (l0_1 : List Int) (r1 : Int) (r2 : List Int) (w : World) (hr0_1 : Kd.C (Kd.int .i64) w A0_1 l0_1.length l0_1) (hc0_1 : l0_1.length ≤ c0_1) (h : laws_toAtom.f k a0_0 l0_1 = some (r1, r2)) :
  Calls Try.prog 100 #[.agg #[.int .i64 a0_0, .slice A0_1 l0_1.length c0_1]] w fun e w' => ∃ v1_ : Value, e = .returned (.agg #[.int .i64 r1, v1_]) ∧ Kd.R (Kd.int .i64) 3 w' w.heap.size (fun _ => True) v1_ r2 ∧ Below w.heap.size w w' := by
 have hu109:=Try.underlying109;have hu115:=Try.underlying115;have HR0_1:=zA hr0_1;have HC0_1:=zA hc0_1;clear hr0_1 hc0_1;have HB:=zA (Below.refl w.heap.size w)
 have H : ((laws_toIntS.f k l0_1).bind fun t154 => (some (a0_0,t154))) = some (r1,r2):=h
 clear h;replace H:=Option.bind_eq_some_iff.mp H;obtain ⟨t154,A20,H⟩:=H;(try dsimp only at H);have A2:=zA A20;clear A20;simp only [Option.some.injEq,Prod.mk.injEq] at H;obtain ⟨rfl,rfl⟩:=H
 go_enter Try.func100,Try.ntmps100
 go_wp2_with (first|((with_reducible refine gate_dst (N:=1) rfl ?_);refine box_event ?hg (N:=1) ?hd (cs:=#[.int .i64 a0_0,.slice A0_1 l0_1.length c0_1]) (t:=109) ?hr ?_;(case hd => rfl);(case hg => rfl);(case hr => first|(go_simp;done)|(go_simp;rfl));intro gb151 hg w3 hbox hb;have BK151:=zA (hbox);have GW151:=zA ((by rw [hg];exact (zT (zz HB)) : w.heap.size ≤ gb151));have GE151:=zA ((by rw [hg];exact (zT (zz HB)) : w.heap.size ≤ gb151));replace HB:=zA (zJb (zz HB) hb);clear hb hbox hg)|((with_reducible refine gate_dst (N:=2) rfl ?_);refine box_event ?hg (N:=2) ?hd (cs:=#[.int .i64 0,.slice none 0 0]) (t:=115) ?hr ?_;(case hd => rfl);(case hg => rfl);(case hr => first|(go_simp;done)|(go_simp;rfl));intro gb152 hg w4 hbox hb;have BK152:=zA (hbox);have GW152:=zA ((by rw [hg];exact (zT (zz HB)) : w.heap.size ≤ gb152));have GE152:=zA ((by rw [hg];exact (zT (zz HB)) : w.heap.size ≤ gb152));replace HB:=zA (zJb (zz HB) hb);have NB151_152:=zA ((by rw [hg];exact Nat.ne_of_lt (blk_lt (g:=gb151) (o:=.cells #[.int .i64 a0_0,.slice A0_1 l0_1.length c0_1] 109 (0,0)) (zx BK151)) : gb151 ≠ gb152));have NB152_151:=zA ((by rw [hg];exact Nat.ne_of_gt (blk_lt (g:=gb151) (o:=.cells #[.int .i64 a0_0,.slice A0_1 l0_1.length c0_1] 109 (0,0)) (zx BK151)) : gb152 ≠ gb151));replace BK151:=zA (zQ (g:=gb151) (o:=.cells #[.int .i64 a0_0,.slice A0_1 l0_1.length c0_1] 109 (0,0)) (zx BK151) hb);clear hb hbox hg)|((with_reducible refine gate_dst (N:=3) rfl ?_);refine box_event ?hg (N:=3) ?hd (cs:=#[.int .i64 0,.slice none 0 0]) (t:=115) ?hr ?_;(case hd => rfl);(case hg => rfl);(case hr => first|(go_simp;done)|(go_simp;rfl));intro gb153 hg w5 hbox hb;have BK153:=zA (hbox);have GW153:=zA ((by rw [hg];exact (zT (zz HB)) : w.heap.size ≤ gb153));have GE153:=zA ((by rw [hg];exact (zT (zz HB)) : w.heap.size ≤ gb153));replace HB:=zA (zJb (zz HB) hb);have NB151_153:=zA ((by rw [hg];exact Nat.ne_of_lt (blk_lt (g:=gb151) (o:=.cells #[.int .i64 a0_0,.slice A0_1 l0_1.length c0_1] 109 (0,0)) (zx BK151)) : gb151 ≠ gb153));have NB153_151:=zA ((by rw [hg];exact Nat.ne_of_gt (blk_lt (g:=gb151) (o:=.cells #[.int .i64 a0_0,.slice A0_1 l0_1.length c0_1] 109 (0,0)) (zx BK151)) : gb153 ≠ gb151));replace BK151:=zA (zQ (g:=gb151) (o:=.cells #[.int .i64 a0_0,.slice A0_1 l0_1.length c0_1] 109 (0,0)) (zx BK151) hb);have NB152_153:=zA ((by rw [hg];exact Nat.ne_of_lt (blk_lt (g:=gb152) (o:=.cells #[.int .i64 0,.slice none 0 0] 115 (0,0)) (zx BK152)) : gb152 ≠ gb153));have NB153_152:=zA ((by rw [hg];exact Nat.ne_of_gt (blk_lt (g:=gb152) (o:=.cells #[.int .i64 0,.slice none 0 0] 115 (0,0)) (zx BK152)) : gb153 ≠ gb152));replace BK152:=zA (zQ (g:=gb152) (o:=.cells #[.int .i64 0,.slice none 0 0] 115 (0,0)) (zx BK152) hb);clear hb hbox hg;have hnb6:=NB151_152.out;have hnc6:=NB152_151.out;have hnb7:=NB151_153.out;have hnc7:=NB153_151.out;have hcz8_0:=zc (.int .i64 a0_0) BK151 0 rfl;have hcz8_1:=zc (.slice A0_1 l0_1.length c0_1) BK151 1 rfl;have hfz8_0:=blk_frozen BK151.out 0;have hfz8_1:=blk_frozen BK151.out 1;have hnb9:=NB153_152.out;have hnc9:=NB152_153.out;have hcz10_0:=zc (.int .i64 0) BK153 0 rfl;have hcz10_1:=zc (.slice none 0 0) BK153 1 rfl;have hfz10_0:=blk_frozen BK153.out 0;have hfz10_1:=blk_frozen BK153.out 1)|((with_reducible refine gate_callee (f:=44) rfl ?_);refine goesL_ (some 9) rfl rfl Try.func44 (by kernel_rfl) rfl #[.slice A0_1 l0_1.length c0_1] rfl (by (try simp only [zCb,zMb,zNb]);first|done|rfl|(simp only [zLb,zDb];rfl)) ?_;(with_reducible refine (laws_toIntS.calls k _ _ l0_1 t154 _ ?side1 ?side2 A2.out).mono ?_);(case side1 => exact zKb HR0_1.out (zz HB));(case side2 => exact HC0_1.out);rintro e w11 ⟨v155,rfl,ho0,hb⟩;refine ⟨_,rfl,?_⟩;have HO156:=zA (zHb ho0 (zT (zz HB)));replace BK151:=zA (zQ (g:=gb151) (o:=.cells #[.int .i64 a0_0,.slice A0_1 l0_1.length c0_1] 109 (0,0)) (by (with_reducible repeat (first|refine zF ?_ _|refine zI ?_|refine zG ?_ _));refine zUb ?_ NB151_153.out _;(with_reducible repeat (first|refine zF ?_ _|refine zI ?_|refine zG ?_ _));exact BK151.out) hb);replace BK152:=zA (zQ (g:=gb152) (o:=.cells #[.int .i64 0,.slice none 0 0] 115 (0,0)) (by (with_reducible repeat (first|refine zF ?_ _|refine zI ?_|refine zG ?_ _));refine zUb ?_ NB152_153.out _;(with_reducible repeat (first|refine zF ?_ _|refine zI ?_|refine zG ?_ _));exact BK152.out) hb);replace BK153:=zA (zQ (g:=gb153) (o:=.cells #[.int .i64 a0_0,.slice none 0 0] 115 (0,0)) (by (with_reducible repeat (first|refine zF ?_ _|refine zI ?_|refine zG ?_ _));refine blk_put (cs:=#[.int .i64 0,.slice none 0 0]) ?_ 0 _ rfl;(with_reducible repeat (first|refine zF ?_ _|refine zI ?_|refine zG ?_ _));exact BK153.out) hb);replace HB:=zA (zJb (zz HB) hb);(try clear hb);(try clear hb2);(try clear hk);(try clear hi);(try clear ho0);obtain ⟨Ao12,co12,eo12⟩:=Kd.R_slice HO156.out;subst eo12;have hcz13_0:=zc (.int .i64 a0_0) BK153 0 rfl;have hcz13_1:=zc (.slice none 0 0) BK153 1 rfl;have hfz13_0:=blk_frozen BK153.out 0;have hfz13_1:=blk_frozen BK153.out 1;have hcz14_0:=zc (.int .i64 0) BK152 0 rfl;have hcz14_1:=zc (.slice none 0 0) BK152 1 rfl;have hfz14_0:=blk_frozen BK152.out 0;have hfz14_1:=blk_frozen BK152.out 1))
 refine bodyPost_ret (results_cell_row rfl _ _ gb152 115 #[.int .i64 a0_0,.slice Ao12 t154.length co12] (0,0) _ rfl (by (with_reducible repeat (first|refine zF ?_ _|refine zI ?_|refine zG ?_ _));refine blk_put (cs:=#[.int .i64 a0_0,.slice none 0 0]) ?_ 1 _ rfl;(with_reducible repeat (first|refine zF ?_ _|refine zI ?_|refine zG ?_ _));refine blk_put (cs:=#[.int .i64 0,.slice none 0 0]) ?_ 0 _ rfl;(with_reducible repeat (first|refine zF ?_ _|refine zI ?_|refine zG ?_ _));refine zUb ?_ NB152_153.out _;(with_reducible repeat (first|refine zF ?_ _|refine zI ?_|refine zG ?_ _));exact BK152.out) Try.underlying115 rfl (by kernel_rfl)) rfl ?_
 exact ⟨_,by first|rfl|(simp [errW_none,errW_some] <;> rfl)|(simp [*,errW_none,errW_some] <;> rfl),by (with_reducible repeat (first|apply zE|apply zD|apply zH));exact zGb (zR (p:=⟨gb152,1,none⟩) (zR (p:=⟨gb152,0,none⟩) (zR (p:=⟨gb153,1,none⟩) (Kd.R_types (Kd.R_types HO156.out BK153.out (by decide)) BK152.out (by decide)) (fun _ hk => hk.1.2) (.slice Ao12 t154.length co12)) (fun _ hk => hk.2) (.int .i64 a0_0)) (fun _ hk => hk.2) (.slice Ao12 t154.length co12)) (fun _ hk => trivial),zz HB⟩

/-! ### laws_toAtomS: function 71 -/
def laws_toAtomS.l0 : Nat → List (S109) → List (S115) → Int → Option ((List (S115)))
 | 0, _, _, _ => none
 | k + 1, x0, x3, x4 => if x4 < (x0.length : Int) then (if 0 ≤ x4 then ((laws_toAtom.f k ((rd_T109 x0 x4).f0) ((rd_T109 x0 x4).f1)).bind fun bt161 => (if x4 < (x3.length : Int) then (laws_toAtomS.l0 k x0 (x3.set (x4 : Int).toNat (⟨bt161.1, bt161.2⟩ : S115)) (wrap64 (x4 + 1))) else (none))) else (none)) else (some x3)
def laws_toAtomS.f (k : Nat) (l0 : List (S109)) : Option ((List (S115))) := if 0 ≤ (l0.length : Int) then (if ((l0.length : Int) : Int).toNat ≤ 8796093022208 then (laws_toAtomS.l0 k l0 (List.replicate ((l0.length : Int) : Int).toNat z115) 0) else (none)) else (none)
theorem laws_toAtomS.mono_l : ∀ k, (∀ y0 y1 y2, LeO (laws_toAtomS.l0 k y0 y1 y2) (laws_toAtomS.l0 (k + 1) y0 y1 y2))
 | 0 => fun _ _ _ r h => by simp [laws_toAtomS.l0] at h
 | k + 1 => by
  have ih0:=laws_toAtomS.mono_l k
  ·
   intro y0 y1 y2
   unfold laws_toAtomS.l0
   repeat' first
   | (with_reducible exact ih0 _ _ _)
   | (with_reducible exact laws_toAtom.mono _ _ _)
   | (with_reducible exact LeO.refl _)
   | (with_reducible exact LeO.none _)
   | (with_reducible refine LeO.ite ?_ ?_)
   | (with_reducible refine LeO.bind ?_ (fun _ => ?_))
   | exact ih0 _ _ _
   | exact LeO.none _
   | refine LeO.ite ?_ ?_
   | refine LeO.bind ?_ (fun _ => ?_)
theorem laws_toAtomS.mono : ∀ a0 k, LeO (laws_toAtomS.f k a0) (laws_toAtomS.f (k + 1) a0) := by
 intro a0 k
 have ih0:=laws_toAtomS.mono_l k
 unfold laws_toAtomS.f
 repeat' first
   | (with_reducible exact ih0 _ _ _)
   | (with_reducible exact laws_toAtom.mono _ _ _)
   | (with_reducible exact LeO.refl _)
   | (with_reducible exact LeO.none _)
   | (with_reducible refine LeO.ite ?_ ?_)
   | (with_reducible refine LeO.bind ?_ (fun _ => ?_))
   | exact ih0 _ _ _
   | exact LeO.none _
   | refine LeO.ite ?_ ?_
   | refine LeO.bind ?_ (fun _ => ?_)
set_option maxHeartbeats 8000000 in
set_option maxRecDepth 100000 in
theorem laws_toAtomS.calls (k : Nat) (A0 : Option Addr) (c0 : Nat) (l0 : List (S109)) (r : List (S115)) (w : World) (hr0 : Kd.C k109 w A0 l0.length l0) (hc0 : l0.length ≤ c0) (h : laws_toAtomS.f k l0 = some r) :
  Calls Try.prog 71 #[.slice A0 l0.length c0] w fun e w' => ∃ v0_ : Value, e = .returned (v0_) ∧ Kd.S k115 115 w' w.heap.size (fun _ => True) v0_ r ∧ Below w.heap.size w w' := by
 have hu109:=Try.underlying109;have hu115:=Try.underlying115;have HR0:=zA hr0;have HC0:=zA hc0;clear hr0 hc0;have HB:=zA (Below.refl w.heap.size w)
 have H : (if 0 ≤ (l0.length : Int) then (if ((l0.length : Int) : Int).toNat ≤ 8796093022208 then (laws_toAtomS.l0 k l0 (List.replicate ((l0.length : Int) : Int).toNat z115) 0) else (none)) else (none)) = some r:=h
 clear h
 by_cases c2 : 0 ≤ (l0.length : Int)
 ·
  rw [if_pos c2] at H;have c2b0:=eq_true c2;have c2b1:=decide_eq_true c2;clear c2
  by_cases c3 : ((l0.length : Int) : Int).toNat ≤ 8796093022208
  ·
   rw [if_pos c3] at H;have c3b0:=eq_true c3;have c3b1:=decide_eq_true c3;clear c3;obtain ⟨y157,hy157⟩ : ∃ y_ : List (S115),y_ = (List.replicate ((l0.length : Int) : Int).toNat z115):=⟨_,rfl⟩
   replace H : (laws_toAtomS.l0 k l0 y157 0) = some r:=by first|(rw [hy157];with_reducible exact H)|(have H2_:=(Option.bind_some _ _).symm.trans H;rw [hy157];with_reducible exact H2_)|(have H2_:=(Option.bind_some _ _).symm.trans H;with_reducible exact H2_)|with_reducible exact H|(rw [hy157];exact H)|exact H
   have Ny157:=zA hy157;clear hy157
   have H':=zA H
   clear H
   go_enter Try.func71,Try.ntmps71
   go_wp2_with (first|((with_reducible refine gate_dst (N:=7) rfl ?_);refine Kd.S_make k115 _ 115 rfl (N:=7) rfl 59 _ _ rfl (l0.length : Int) rfl rfl Try.underlying59 (.agg #[(.int .i64 0),(.slice none 0 0)]) 32 info115 rfl (by decide) (by omega) z115 (ok:=fun _ => True) (okp:=fun _ => True) (k115_mkM _ _ _ z115 (Kd.R_nil _ _ _ _ _)) (fun _ hk => hk) trivial (zXb ze) (Nat.le_trans (Nat.mul_le_mul_right _ (zXb ze : (l0.length : Int).toNat ≤ 8796093022208)) (by omega)) (Below.refl _ _) (Nat.le_refl _) ?_;intro v158 w4 ho5 hb hg_ hnew_;clear hg_ hnew_;(first|rw [← Ny157.out] at ho5|(simp only [Int.reduceToNat] at ho5;rw [← Ny157.out] at ho5));have HO159:=zA (zIb ho5 (zT (zz HB)));replace HB:=zA (zJb (zz HB) hb);clear hb ho5))
   go_loopg [4] k (fun kq v4 w' => ∃ (x3_1 : List (S115)) (x4_1 : Int),v4 = .int .i64 x4_1 ∧ Aside0 (laws_toAtomS.l0 kq l0 x3_1 x4_1 = some r) ∧ Aside0 (kq ≤ k) ∧ Aside0 (Kd.S k115 115 w' w.heap.size (fun _ => True) v158 x3_1) ∧ Aside0 (Below w.heap.size w w'))
   case atStart => exact ⟨(y157),(0),za,H',⟨Nat.le_refl _⟩,⟨zy HO159⟩,⟨zz HB⟩⟩
   case round =>
    clear H';(try clear c2);(try clear c2b0);(try clear c2b1);(try clear p2);(try clear c3);(try clear c3b0);(try clear c3b1);obtain ⟨x3_1,x4_1,rfl,HA,HK1,HO_3,HB⟩:=hrel
    cases gk with
    | zero => exact absurd HA.out (by simp [laws_toAtomS.l0])
    | succ k1 =>
     have H:=HA.out;clear HA;simp only [laws_toAtomS.l0] at H
     by_cases c6 : x4_1 < (l0.length : Int)
     ·
      rw [if_pos c6] at H;have c6b0:=decide_eq_true c6;clear c6
      by_cases c7 : 0 ≤ x4_1
      ·
       rw [if_pos c7] at H;have c7b0:=decide_eq_true c7;clear c7;replace H:=Option.bind_eq_some_iff.mp H;obtain ⟨⟨t161,t162⟩,A80,H⟩:=H;(try dsimp only at H);have A8:=zA A80;clear A80
       by_cases c9 : x4_1 < (x3_1.length : Int)
       ·
        rw [if_pos c9] at H;have c9b0:=decide_eq_true c9;clear c9;obtain ⟨y165,hy165⟩ : ∃ y_ : List (S115),y_ = (x3_1.set (x4_1 : Int).toNat (⟨t161,t162⟩ : S115)):=⟨_,rfl⟩
        replace H : (laws_toAtomS.l0 k1 l0 y165 (wrap64 (x4_1 + 1))) = some r:=by first|(rw [hy165];with_reducible exact H)|(have H2_:=(Option.bind_some _ _).symm.trans H;rw [hy165];with_reducible exact H2_)|(have H2_:=(Option.bind_some _ _).symm.trans H;with_reducible exact H2_)|with_reducible exact H|(rw [hy165];exact H)|exact H
        have Ny165:=zA hy165;clear hy165
        have H':=zA H
        clear H;have p160 : 0 ≤ (x4_1 : Int):=zXb ze;have q160 : x4_1 < (l0.length : Int):=zXb ze;obtain ⟨ad160,A160_1,c160_1,e160,hx160_0,hx160_1,hl160_1,hi160_1⟩:=at_T109 HR0.out x4_1 p160 q160
        cases e160
        replace hx160_0:=(HB.out.cell (World.block_lt_of_cell? w _ hx160_0)).trans hx160_0;replace hx160_1:=(HB.out.cell (World.block_lt_of_cell? w _ hx160_1)).trans hx160_1;have HR160_1:=zA hi160_1;have HC160_1:=zA hl160_1;clear hi160_1 hl160_1;replace p160:=eq_true p160;replace q160:=eq_true q160
        go_wp2_with (first|((with_reducible refine gate_callee (f:=100) rfl ?_);refine goesL_ (some 20) rfl rfl Try.func100 (by kernel_rfl) rfl #[.agg #[.int .i64 ((rd_T109 l0 x4_1).f0),.slice A160_1 ((rd_T109 l0 x4_1).f1).length c160_1]] rfl (by (try simp only [zCb,zMb,zNb]);first|done|rfl|(simp only [zLb,zDb];rfl)) ?_;(with_reducible refine (laws_toAtom.calls k1 ((rd_T109 l0 x4_1).f0) _ _ ((rd_T109 l0 x4_1).f1) t161 t162 _ ?side1 ?side2 A8.out).mono ?_);(case side1 => exact zsd HR160_1 HB);(case side2 => exact HC160_1.out);rintro e w11 ⟨v163,rfl,ho0,hb⟩;refine ⟨_,rfl,?_⟩;replace HO_3:=zA (zSb (zy HO_3) (zW ho0) hb);have HO164:=zA (zHb ho0 (zT (zz HB)));replace HB:=zA (zJb (zz HB) hb);(try clear hb);(try clear hb2);(try clear hk);(try clear hi);(try clear ho0);have p10 : 0 ≤ (x4_1 : Int):=zXb ze;have q10 : (x4_1 : Int) < ((x3_1.length : Int) : Int):=zXb ze;obtain ⟨go10,co10,eo10,gb10,gl10,cl10,HG10⟩:=Kd.S_form HO_3.out (by omega);(first|cases eo10|(injection eo10 with ea_ en_ ec_;(first|subst ea_|(injection ea_ with ea_;subst ea_));subst ec_;clear en_));have GB10:=zA gb10;have GG10:=zA HG10;clear gb10 gl10 HG10;obtain ⟨_,ce10,hcl10,hM10,hcc10,hfr10,_,_⟩:=Kd.S_elem HO_3.out z115 (x4_1 : Int) p10 q10;obtain ⟨ve10_1,rfl,ge10_1⟩:=k115_openM hM10;have hx10_0 : w11.cell? ⟨go10,(x4_1 : Int).toNat * 2,none⟩ = some (.int .i64 ((rd_T115 x3_1 x4_1).f0)):=hcc10 0 _ rfl;have hx10_1 : w11.cell? ⟨go10,(x4_1 : Int).toNat * 2 + 1,none⟩ = some (ve10_1):=hcc10 1 _ rfl;have hf10_0 : w11.frozen? ⟨go10,(x4_1 : Int).toNat * 2,none⟩ = false:=hfr10 0;have hf10_1 : w11.frozen? ⟨go10,(x4_1 : Int).toNat * 2 + 1,none⟩ = false:=hfr10 1;clear hcl10 hcc10 hfr10 hM10;replace p10:=eq_true p10;replace q10:=eq_true q10;obtain ⟨Ao12,co12,eo12⟩:=Kd.R_slice HO164.out;subst eo12;have n_:=zA (zS (ok':=(fun k_ => some k_ ≠ (.slice Ao12 t162.length co12 : Value).ownBlock)) HO_3.out (fun k_ hk => hk.2));clear HO_3;have HO_3:=n_;clear n_;have HX13:=zA (show Kd.S k115 115 w11 w.heap.size (fun k_ => ((fun _ => True)) k_ ∧ ¬ ((fun k_ => some k_ = (.slice Ao12 t162.length co12 : Value).ownBlock)) k_) (.slice (some ⟨go10,0,none⟩) x3_1.length co10) x3_1 from (by (with_reducible repeat (first|apply zM|apply zL|apply zN));exact zS HO_3.out (fun k_ hk => ⟨trivial,fun e_ => hk e_⟩)));obtain ⟨oki13,ce13,hcl13,hM13,hcc13,hfr13,hoki13,hH13⟩:=Kd.S_elem HX13.out z115 (x4_1 : Int) (zXb ze) (by have h_ : (x4_1 : Int) < ((x3_1.length : Int) : Int):=zXb ze;first|exact h_|(have e_:=(Kd.S_reads' HO_3.out).1;omega)|simpa using h_);obtain ⟨ve13_1,rfl,ge13_1⟩:=k115_openM hM13;have HP13:=Kd.S_seg hH13 (zXb ze) (by have h_ : (x4_1 : Int) < ((x3_1.length : Int) : Int):=zXb ze;first|exact h_|(have e_:=(Kd.S_reads' HO_3.out).1;omega)|simpa using h_) (seg:=[.int .i64 t161,.slice Ao12 t162.length co12]) (j:=0) (show 2 ≤ 2 from by decide) (x':=(⟨t161,t162⟩ : S115)) (k115_mkM _ _ _ (⟨t161,t162⟩ : S115) (zGb (Kd.R_tight rfl (zGb (ok':=fun k_ => ((fun _ => True)) k_ ∧ k_ ≠ go10) (Kd.R_apart' (HO164.out) (Kd.S_typed HO_3.out) (by decide)) (fun k_ hk => ⟨trivial,fun e_ => (hk.2) (by rw [e_];rfl)⟩))) (fun _ h_ => Or.inr (h_)))) (fun _ hk => hk) (fun k_ hk_ => ((zGb (ok':=fun k_ => ((fun _ => True)) k_ ∧ k_ ≠ go10) (Kd.R_apart' (HO164.out) (Kd.S_typed HO_3.out) (by decide)) (fun k_ hk => ⟨trivial,fun e_ => (hk.2) (by rw [e_];rfl)⟩))).1 k_ hk_.symm);have hx13_0:=hcc13 0 _ rfl;(try simp only [show (k115).sz = 2 from rfl,Nat.mul_one,Nat.add_zero] at hx13_0);have hf13_0:=hfr13 0;(try simp only [show (k115).sz = 2 from rfl,Nat.mul_one,Nat.add_zero] at hf13_0);have hx13_1:=hcc13 1 _ rfl;(try simp only [show (k115).sz = 2 from rfl,Nat.mul_one,Nat.add_zero] at hx13_1);have hf13_1:=hfr13 1;(try simp only [show (k115).sz = 2 from rfl,Nat.mul_one,Nat.add_zero] at hf13_1);clear hcl13 hcc13 hfr13 hM13 hoki13 hH13)|((with_reducible refine gate_store (t:=115) (p:=21) rfl ?_);refine store_event (t:=115) (p:=21) (v:=?vo_w14) (w1:=((w11.setCell ⟨go10,(x4_1 : Int).toNat * 2,none⟩ (.int .i64 t161)).setCell ⟨go10,(x4_1 : Int).toNat * 2 + 1,none⟩ (.slice Ao12 t162.length co12))) ?hg ?ho ?hn ?hr ?_;(case ho => rfl);(case hg => rfl);(case hn => rfl);(case hr => first|(go_simp;done)|(go_simp;rfl));intro w14 hw;have hg : w11.grownBy w14 (some go10):=(by rw [hw];exact HP13.2);have hp_ : Kd.S k115 115 w14 w.heap.size (fun _ => True) (.slice (some ⟨go10,0,none⟩) x3_1.length co10) y165:=(by rw [hw,Ny165.out];exact HP13.1);clear HP13;replace HO_3:=zA (hp_);replace HB:=zA ((by rw [hw];exact zB (zB (HB.out) GB10.out) GB10.out : Below w.heap.size w w14));clear HO164;clear hg hw hp_))
        go_roundg k1
        case measure => have:=HK1.out;omega
        case rel => exact ⟨(y165),(wrap64 (x4_1 + 1)),za,H',⟨by have:=HK1.out;omega⟩,⟨zy HO_3⟩,⟨zz HB⟩⟩
       ·
        rw [if_neg c9] at H
        exact absurd H (by simp)
      ·
       rw [if_neg c7] at H
       exact absurd H (by simp)
     ·
      rw [if_neg c6] at H;have c6b0:=decide_eq_false c6;clear c6
      obtain rfl:=Option.some.inj H
      go_wp2
      go_ret
      exact ⟨_,by first|rfl|(simp [errW_none,errW_some] <;> rfl)|(simp [*,errW_none,errW_some] <;> rfl),zy HO_3,zz HB⟩
  ·
   rw [if_neg c3] at H
   exact absurd H (by simp)
 ·
  rw [if_neg c2] at H
  exact absurd H (by simp)

end Go.Proofs.Ytfelabhakgcifaa.QFnExactIsAnswer
