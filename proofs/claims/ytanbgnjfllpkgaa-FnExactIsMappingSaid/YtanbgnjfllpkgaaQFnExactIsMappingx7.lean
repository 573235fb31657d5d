/- Walks through the Go functions that FnExactIsMapping reaches: each call returns what the Lean function beside it says, within the bounds that the theorem names. -/
import Derived.Test.YtanbgnjfllpkgaaQFnExactIsMappingx0
import Derived.Test.YtanbgnjfllpkgaaQFnExactIsMappingx6
namespace Go.Proofs.Ytanbgnjfllpkgaa.QFnExactIsMapping
open Go.RowKit Go.Proofs.YtanbgnjfllpkgaaW.PrintWords Go.Proofs.YtanbgnjfllpkgaaW.PrintLast Go.Proofs.YtanbgnjfllpkgaaW.PrintMore
attribute [local go_sem] max2_int min2_int max_two min_two max_three min_three max_four min_four   -- for this text's walks alone
set_option linter.unusedVariables false
set_option linter.unusedSimpArgs false


/-! ### spec_l7Is: function 102 -/
mutual
def spec_l7Is.j0 : Nat → List Int → Bool → List Int → List (S97) → List Int → List (S97) → Option (Bool)
 | 0, _, _, _, _, _, _ => none
 | k + 1, x2, x23, x213000, x213001, x214000, x214001 => if x23 = true then (some false) else (spec_l7Is.l0 k x2 0 x213000 x213001 x214000 x214001)
def spec_l7Is.l0 : Nat → List Int → Int → List Int → List (S97) → List Int → List (S97) → Option (Bool)
 | 0, _, _, _, _, _, _ => none
 | k + 1, x2, x7, x213000, x213001, x214000, x214001 => if x7 < (x213001.length : Int) then (if 0 ≤ x7 then ((spec_l7List.f k x2 ((rd_T97 x213001 x7).f1)).bind fun t220 => (spec_l7Is.l1 k x2 x7 false 0 x213000 x213001 x214000 x214001 ((rd_T97 x213001 x7).f0) t220)) else (none)) else (some true)
def spec_l7Is.l1 : Nat → List Int → Int → Bool → Int → List Int → List (S97) → List Int → List (S97) → Int → List Int → Option (Bool)
 | 0, _, _, _, _, _, _, _, _, _, _ => none
 | k + 1, x2, x7, x9, x10, x213000, x213001, x214000, x214001, x224000, x224001 => if x10 < (x214001.length : Int) then (if x9 = true then (spec_l7Is.l1 k x2 x7 true (wrap64 (x10 + 1)) x213000 x213001 x214000 x214001 x224000 x224001) else (if 0 ≤ x10 then ((spec_EqualAtoms.f k x224000 x224001 ((rd_T97 x214001 x10).f0) ((rd_T97 x214001 x10).f1)).bind fun t225 => (spec_l7Is.l1 k x2 x7 t225 (wrap64 (x10 + 1)) x213000 x213001 x214000 x214001 x224000 x224001)) else (none))) else (if x9 = true then (spec_l7Is.l0 k x2 (wrap64 (x7 + 1)) x213000 x213001 x214000 x214001) else (some false))
end
def spec_l7Is.f (k : Nat) (l0_0 : List Int) (l0_1 : List (S97)) (l1_0 : List Int) (l1_1 : List (S97)) (l2 : List Int) : Option (Bool) := if (l2.length : Int) = 20 then ((spec_l7List.f k l2 l0_0).bind fun t214 => ((spec_l2Ints.f k t214 l1_0).bind fun t217 => (spec_l7Is.j0 k l2 (!t217) l0_0 l0_1 l1_0 l1_1))) else (spec_l7Is.j0 k l2 true l0_0 l0_1 l1_0 l1_1)
theorem spec_l7Is.mono_l : ∀ k, (∀ y0 y1 y2 y3 y4 y5, LeO (spec_l7Is.j0 k y0 y1 y2 y3 y4 y5) (spec_l7Is.j0 (k + 1) y0 y1 y2 y3 y4 y5)) ∧ (∀ y0 y1 y2 y3 y4 y5, LeO (spec_l7Is.l0 k y0 y1 y2 y3 y4 y5) (spec_l7Is.l0 (k + 1) y0 y1 y2 y3 y4 y5)) ∧ (∀ y0 y1 y2 y3 y4 y5 y6 y7 y8 y9, LeO (spec_l7Is.l1 k y0 y1 y2 y3 y4 y5 y6 y7 y8 y9) (spec_l7Is.l1 (k + 1) y0 y1 y2 y3 y4 y5 y6 y7 y8 y9))
 | 0 => ⟨fun _ _ _ _ _ _ r h => by simp [spec_l7Is.j0] at h, fun _ _ _ _ _ _ r h => by simp [spec_l7Is.l0] at h, fun _ _ _ _ _ _ _ _ _ _ r h => by simp [spec_l7Is.l1] at h⟩
 | k + 1 => by
  obtain ⟨ih0,ih1,ih2⟩:=spec_l7Is.mono_l k
  refine ⟨?_,?_,?_⟩
  (intros;unfold spec_l7Is.j0;rotate_left)
  (intros;unfold spec_l7Is.l0;rotate_left)
  (intros;unfold spec_l7Is.l1;rotate_left)
  all_goals repeat' first
  | (with_reducible exact ih0 _ _ _ _ _ _)
  | (with_reducible exact ih1 _ _ _ _ _ _)
  | (with_reducible exact ih2 _ _ _ _ _ _ _ _ _ _)
  | (with_reducible exact spec_EqualAtoms.mono _ _ _ _ _)
  | (with_reducible exact spec_l2Ints.mono _ _ _)
  | (with_reducible exact spec_l7List.mono _ _ _)
  | (with_reducible exact LeO.refl _)
  | (with_reducible exact LeO.none _)
  | (with_reducible refine LeO.ite ?_ ?_)
  | (with_reducible refine LeO.bind ?_ (fun _ => ?_))
  | exact ih0 _ _ _ _ _ _
  | exact ih1 _ _ _ _ _ _
  | exact ih2 _ _ _ _ _ _ _ _ _ _
  | exact LeO.none _
  | refine LeO.ite ?_ ?_
  | refine LeO.bind ?_ (fun _ => ?_)
theorem spec_l7Is.mono : ∀ a0 a1 a2 a3 a4 k, LeO (spec_l7Is.f k a0 a1 a2 a3 a4) (spec_l7Is.f (k + 1) a0 a1 a2 a3 a4) := by
 intro a0 a1 a2 a3 a4 k
 obtain ⟨ih0,ih1,ih2⟩:=spec_l7Is.mono_l k
 unfold spec_l7Is.f
 repeat' first
   | (with_reducible exact ih0 _ _ _ _ _ _)
   | (with_reducible exact ih1 _ _ _ _ _ _)
   | (with_reducible exact ih2 _ _ _ _ _ _ _ _ _ _)
   | (with_reducible exact spec_EqualAtoms.mono _ _ _ _ _)
   | (with_reducible exact spec_l2Ints.mono _ _ _)
   | (with_reducible exact spec_l7List.mono _ _ _)
   | (with_reducible exact LeO.refl _)
   | (with_reducible exact LeO.none _)
   | (with_reducible refine LeO.ite ?_ ?_)
   | (with_reducible refine LeO.bind ?_ (fun _ => ?_))
   | exact ih0 _ _ _ _ _ _
   | exact ih1 _ _ _ _ _ _
   | exact ih2 _ _ _ _ _ _ _ _ _ _
   | exact LeO.none _
   | refine LeO.ite ?_ ?_
   | refine LeO.bind ?_ (fun _ => ?_)
def spec_l7Is.T1 : Bool × List (List Nat × List Nat) := (true, [([], []), ([0], [0]), ([1], [1]), ([2], [2]), ([3], [3]), ([3], [3]), ([5, 3], [3, 5]), ([4, 6, 3, 3], [3, 4, 6]), ([3], [3]), ([8, 3], [3, 8]), ([7, 9, 7, 3], [3, 7, 9]), ([10, 3], [3, 10]), ([3, 11], [3, 11])])
def spec_l7Is.B1 : List Nat := [0, 1, 3, 7, 15, 15, 47, 127, 15, 271, 1023, 2047, 4095]
theorem spec_l7Is.tab1 : rtab .any (opsOf Try.f102 1) = spec_l7Is.T1 := by kernel_rfl
theorem spec_l7Is.bits1 : waitsOk spec_l7Is.T1.2 spec_l7Is.B1 = true := by kernel_rfl
def spec_l7Is.T6 : Bool × List (List Nat × List Nat) := (true, [([], []), ([0], [0]), ([], []), ([1, 2], [1, 2]), ([3], [3]), ([4], [4]), ([], []), ([], []), ([7], [7]), ([], []), ([8, 9], [8, 9]), ([10], [10]), ([11], [11]), ([6, 12], [6, 12]), ([5, 13], [5, 13]), ([], []), ([15, 14, 13, 0, 1, 2, 3, 4, 5, 6, 7, 8, 9, 10, 11, 12, 13, 14, 15], [14, 15])])
def spec_l7Is.B6 : List Nat := [0, 1, 0, 7, 15, 31, 0, 0, 128, 0, 896, 1920, 3968, 8128, 16383, 0, 65535]
theorem spec_l7Is.tab6 : rtab .any (opsOf Try.f102 6) = spec_l7Is.T6 := by kernel_rfl
theorem spec_l7Is.bits6 : waitsOk spec_l7Is.T6.2 spec_l7Is.B6 = true := by kernel_rfl
def spec_l7Is.T11 : Bool × List (List Nat × List Nat) := (true, [([], []), ([0], [0]), ([1], [1]), ([1], [1]), ([3, 1], [1, 3]), ([1], [1]), ([4, 5, 1], [1, 4, 5]), ([6, 1], [1, 6]), ([2, 7, 1, 1], [1, 2, 7]), ([1, 8], [1, 8]), ([9, 8, 0, 1, 2, 3, 4, 5, 6, 7, 8, 9], [0, 9])])
def spec_l7Is.B11 : List Nat := [0, 1, 3, 3, 11, 3, 59, 123, 255, 511, 1023]
theorem spec_l7Is.tab11 : rtab .any (opsOf Try.f102 11) = spec_l7Is.T11 := by kernel_rfl
theorem spec_l7Is.bits11 : waitsOk spec_l7Is.T11.2 spec_l7Is.B11 = true := by kernel_rfl
set_option maxHeartbeats 8000000 in
set_option maxRecDepth 100000 in
theorem spec_l7Is.calls (k : Nat) (A0_0 : Option Addr) (c0_0 : Nat) (l0_0 : List Int) (A0_1 : Option Addr) (c0_1 : Nat) (l0_1 : List (S97)) (A1_0 : Option Addr) (c1_0 : Nat) (l1_0 : List Int) (A1_1 : Option Addr) (c1_1 : Nat) (l1_1 : List (S97)) (A2 : Option Addr) (c2 : Nat) (l2 : List Int) (r : Bool) (w : World) (hr0_0 : Kd.C (Kd.int .i64) w A0_0 l0_0.length l0_0) (hc0_0 : l0_0.length ≤ c0_0) (hr0_1 : Kd.C k97 w A0_1 l0_1.length l0_1) (hc0_1 : l0_1.length ≤ c0_1) (hr1_0 : Kd.C (Kd.int .i64) w A1_0 l1_0.length l1_0) (hc1_0 : l1_0.length ≤ c1_0) (hr1_1 : Kd.C k97 w A1_1 l1_1.length l1_1) (hc1_1 : l1_1.length ≤ c1_1) (hr2 : Kd.C (Kd.int .i64) w A2 l2.length l2) (hc2 : l2.length ≤ c2) (h : spec_l7Is.f k l0_0 l0_1 l1_0 l1_1 l2 = some r) :
  Calls Try.prog 102 #[.agg #[.slice A0_0 l0_0.length c0_0, .slice A0_1 l0_1.length c0_1], .agg #[.slice A1_0 l1_0.length c1_0, .slice A1_1 l1_1.length c1_1], .slice A2 l2.length c2] w fun e w' => e = .returned (.bool r) ∧ Below w.heap.size w w' := by
 have hu46:=Try.underlying46;have hu97:=Try.underlying97;have HR0_0:=zA hr0_0;have HC0_0:=zA hc0_0;clear hr0_0 hc0_0;have HR0_1:=zA hr0_1;have HC0_1:=zA hc0_1;clear hr0_1 hc0_1;have HR1_0:=zA hr1_0;have HC1_0:=zA hc1_0;clear hr1_0 hc1_0;have HR1_1:=zA hr1_1;have HC1_1:=zA hc1_1;clear hr1_1 hc1_1;have HR2:=zA hr2;have HC2:=zA hc2;clear hr2 hc2;have HB:=zA (Below.refl w.heap.size w)
 have H : (if (l2.length : Int) = 20 then ((spec_l7List.f k l2 l0_0).bind fun t214 => ((spec_l2Ints.f k t214 l1_0).bind fun t217 => (spec_l7Is.j0 k l2 (!t217) l0_0 l0_1 l1_0 l1_1))) else (spec_l7Is.j0 k l2 true l0_0 l0_1 l1_0 l1_1)) = some r:=h
 clear h;have HC4:=zA H;clear H
 go_enter Try.func102,Try.ntmps102
 go_upto_region 1 with (first|((with_reducible refine gate_dst (N:=3) rfl ?_);refine box_event ?hg (N:=3) ?hd (cs:=#[.slice A0_0 l0_0.length c0_0,.slice A0_1 l0_1.length c0_1]) (t:=46) ?hr ?_;(case hd => rfl);(case hg => rfl);(case hr => first|(go_simp;done)|(go_simp;rfl));intro gb212 hg w5 hbox hb;have BK212:=zA (hbox);have GW212:=zA ((by rw [hg];exact (zT (zz HB)) : w.heap.size ≤ gb212));have GE212:=zA ((by rw [hg];exact (zT (zz HB)) : w.heap.size ≤ gb212));replace HB:=zA (zJb (zz HB) hb);clear hb hbox hg)|((with_reducible refine gate_dst (N:=4) rfl ?_);refine box_event ?hg (N:=4) ?hd (cs:=#[.slice A1_0 l1_0.length c1_0,.slice A1_1 l1_1.length c1_1]) (t:=46) ?hr ?_;(case hd => rfl);(case hg => rfl);(case hr => first|(go_simp;done)|(go_simp;rfl));intro gb213 hg w6 hbox hb;have BK213:=zA (hbox);have GW213:=zA ((by rw [hg];exact (zT (zz HB)) : w.heap.size ≤ gb213));have GE213:=zA ((by rw [hg];exact (zT (zz HB)) : w.heap.size ≤ gb213));replace HB:=zA (zJb (zz HB) hb);have NB212_213:=zA ((by rw [hg];exact Nat.ne_of_lt (blk_lt (g:=gb212) (o:=.cells #[.slice A0_0 l0_0.length c0_0,.slice A0_1 l0_1.length c0_1] 46 (0,0)) (zx BK212)) : gb212 ≠ gb213));have NB213_212:=zA ((by rw [hg];exact Nat.ne_of_gt (blk_lt (g:=gb212) (o:=.cells #[.slice A0_0 l0_0.length c0_0,.slice A0_1 l0_1.length c0_1] 46 (0,0)) (zx BK212)) : gb213 ≠ gb212));replace BK212:=zA (zQ (g:=gb212) (o:=.cells #[.slice A0_0 l0_0.length c0_0,.slice A0_1 l0_1.length c0_1] 46 (0,0)) (zx BK212) hb);clear hb hbox hg))
 (try simp only [Act.put,zO,zEb,zFb])
 go_cut [23] (fun v23 wc => ∃ (kq : Nat) (x23_3 : Bool),v23 = .bool x23_3 ∧ Aside0 (spec_l7Is.j0 kq l2 x23_3 l0_0 l0_1 l1_0 l1_1 = some r) ∧ Aside0 (kq ≤ k) ∧ Aside0 (wc.heap[gb212]? = some (.cells #[(.slice A0_0 l0_0.length c0_0),(.slice A0_1 l0_1.length c0_1)] 46 (0,0))) ∧ Aside0 (wc.heap[gb213]? = some (.cells #[(.slice A1_0 l1_0.length c1_0),(.slice A1_1 l1_1.length c1_1)] 46 (0,0))) ∧ Aside0 (Below w.heap.size w wc))
 case first =>
  have H:=HC4.out;clear HC4
  by_cases c7 : (l2.length : Int) = 20
  ·
   rw [if_pos c7] at H;have c7b0:=beq_iff_eq.mpr c7;have c7b1:=bne_eq_false_iff_eq.mpr c7;clear c7
   (first|rw [c7b0]|(simp only [i64_w,i32_w];rw [c7b0])|skip)
   replace H:=Option.bind_eq_some_iff.mp H;obtain ⟨t214,A80,H⟩:=H;(try dsimp only at H);have A8:=zA A80;clear A80;replace H:=Option.bind_eq_some_iff.mp H;obtain ⟨t217,A90,H⟩:=H;(try dsimp only at H);have A9:=zA A90;clear A90
   have H':=zA H
   clear H
   try go_wp2
   have n0_:=zA (zI BK212.out);have n1_:=zA (zI BK213.out);have n2_:=zA (zJ HB.out);clear BK212;clear BK213;clear HB;have BK212:=n0_;have BK213:=n1_;have HB:=n2_;clear n0_ n1_ n2_
   refine start_ (n:=13) (S:=fun w' => w'.cell? ⟨gb212,0,none⟩ = some (.slice A0_0 l0_0.length c0_0) ∧ w'.cell? ⟨gb212,1,none⟩ = some (.slice A0_1 l0_1.length c0_1) ∧ w'.cell? ⟨gb213,0,none⟩ = some (.slice A1_0 l1_0.length c1_0) ∧ w'.cell? ⟨gb213,1,none⟩ = some (.slice A1_1 l1_1.length c1_1)) (ds:=[]) #[false,false,false,false,false,false,false,false,false,false,false,false,false] (by kernel_rfl) rfl rfl ⟨(zP BK212.out 0).trans rfl,(zP BK212.out 1).trans rfl,(zP BK213.out 0).trans rfl,(zP BK213.out 1).trans rfl⟩ (fun hHeld => ?_);refine with_tabW spec_l7Is.tab1 spec_l7Is.bits1 (fun HT_ HW_ => ?_)
   generalize w6.drew = w10 at BK212 BK213 HB hHeld ⊢
   refine pure_ (i:=0) (N:=some 11) (v:=?_) (a':=?_) #[true,false,false,false,false,false,false,false,false,false,false,false,false] rfl rfl (any_of HT_.out (by kernel_rfl)) (fun _ _ _ h => h) (Or.inl ⟨by rfl,?_⟩) ?_ ?_
   rotate_left
   ·
    intro w'
    go_simp
    with_reducible rfl
   rotate_left
   ·
    simp only [Act.put,zO,zEb,zFb,i64_w,i32_w]
    rfl
   refine pure_ (i:=1) (N:=some 12) (v:=?_) (a':=?_) #[true,true,false,false,false,false,false,false,false,false,false,false,false] rfl rfl (any_of HT_.out (by kernel_rfl)) (fun _ _ _ h => h) (Or.inl ⟨by rfl,?_⟩) ?_ ?_
   rotate_left
   ·
    intro w'
    go_simp
    with_reducible rfl
   rotate_left
   ·
    simp only [Act.put,zO,zEb,zFb,i64_w,i32_w]
    rfl
   refine pure_ (i:=2) (N:=some 13) (v:=?_) (a':=?_) #[true,true,true,false,false,false,false,false,false,false,false,false,false] rfl rfl (any_of HT_.out (by kernel_rfl)) (fun _ _ _ h => h) (Or.inl ⟨by rfl,?_⟩) ?_ ?_
   rotate_left
   ·
    intro w'
    go_simp
    with_reducible rfl
   rotate_left
   ·
    simp only [Act.put,zO,zEb,zFb,i64_w,i32_w]
    rfl
   refine pure_ (i:=3) (N:=some 14) (v:=?_) (a':=?_) #[true,true,true,true,false,false,false,false,false,false,false,false,false] rfl rfl (any_of HT_.out (by kernel_rfl)) (fun _ _ _ h => h) (Or.inl ⟨by rfl,?_⟩) ?_ ?_
   rotate_left
   ·
    intro w'
    go_simp
    with_reducible rfl
   rotate_left
   ·
    simp only [Act.put,zO,zEb,zFb,i64_w,i32_w]
    rfl
   refine pure_ (i:=4) (N:=some 15) (v:=?_) (a':=?_) #[true,true,true,true,true,false,false,false,false,false,false,false,false] rfl rfl (any_of HT_.out (by kernel_rfl)) (fun _ _ _ h => h) (Or.inl ⟨by rfl,?_⟩) ?_ ?_
   rotate_left
   ·
    intro w'
    go_simp
    with_reducible rfl
   rotate_left
   ·
    simp only [Act.put,zO,zEb,zFb,i64_w,i32_w]
    rfl
   refine pure_ (i:=5) (N:=some 16) (v:=?_) (a':=?_) #[true,true,true,true,true,true,false,false,false,false,false,false,false] rfl rfl (any_of HT_.out (by kernel_rfl)) (fun _ _ _ h => h) (Or.inl ⟨by rfl,?_⟩) ?_ ?_
   rotate_left
   ·
    intro w'
    go_simp
    with_reducible rfl
   rotate_left
   ·
    simp only [Act.put,zO,zEb,zFb,i64_w,i32_w]
    rfl
   refine pure_ (i:=8) (N:=some 19) (v:=?_) (a':=?_) #[true,true,true,true,true,true,false,false,true,false,false,false,false] rfl rfl (any_of HT_.out (by kernel_rfl)) (fun _ _ _ h => h) (Or.inl ⟨by rfl,?_⟩) ?_ ?_
   rotate_left
   ·
    intro w'
    go_simp
    with_reducible rfl
   rotate_left
   ·
    simp only [Act.put,zO,zEb,zFb,i64_w,i32_w]
    rfl
   refine take_ (i:=6) (N:=some 17) (v:=?_) (a':=?_) #[true,true,true,true,true,true,true,false,true,false,false,false,false] rfl rfl (take_ofW HT_.out HW_.out (by kernel_rfl)) (fun _ _ _ h => h) (Or.inl ⟨by rfl,?_⟩) hHeld ?_ ?_
   rotate_left
   ·
    rintro w' ⟨s0,s1,s2,s3⟩
    go_simp
    with_reducible rfl
   rotate_left
   ·
    simp only [Act.put,zO,zEb,zFb,i64_w,i32_w]
    rfl
   refine take_ (i:=9) (N:=some 20) (v:=?_) (a':=?_) #[true,true,true,true,true,true,true,false,true,true,false,false,false] rfl rfl (take_ofW HT_.out HW_.out (by kernel_rfl)) (fun _ _ _ h => h) (Or.inl ⟨by rfl,?_⟩) hHeld ?_ ?_
   rotate_left
   ·
    rintro w' ⟨s0,s1,s2,s3⟩
    go_simp
    with_reducible rfl
   rotate_left
   ·
    simp only [Act.put,zO,zEb,zFb,i64_w,i32_w]
    rfl
   refine one_ (i:=7) (N:=some 18) #[true,true,true,true,true,true,true,true,true,true,false,false,false] rfl rfl (one_of HT_.out (by kernel_rfl)) (by decide) (fun K hK => ?_)
   refine goes_ Try.func127 (by kernel_rfl) rfl #[.slice A2 l2.length c2,.slice A0_0 l0_0.length c0_0] (by rfl) rfl rfl (by (try simp only [zCb,zMb,zNb]);first|done|rfl|(simp only [zLb,zDb];rfl)) ?_
   with_reducible refine (spec_l7List.calls k _ _ l2 _ _ l0_0 t214 _ ?side1 ?side2 ?side3 ?side4 A8.out).mono ?_
   (case side1 => repeat (first|exact (zKb HR2.out HB.out)|(with_reducible refine zBb ?_ _)|(with_reducible refine zAb ?_ _)|(with_reducible refine zX ?_)))
   (case side2 => exact HC2.out)
   (case side3 => repeat (first|exact (zKb HR0_0.out HB.out)|(with_reducible refine zBb ?_ _)|(with_reducible refine zAb ?_ _)|(with_reducible refine zX ?_)))
   (case side4 => exact HC0_0.out)
   rintro e w11 ⟨v215,rfl,ho0,hb⟩
   refine ⟨_,rfl,?_⟩
   have n0_:=zA (zHb ho0 (zT (zz HB)));have n1_:=zA (zQ (g:=gb212) (o:=.cells #[.slice A0_0 l0_0.length c0_0,.slice A0_1 l0_1.length c0_1] 46 (0,0)) (zx BK212) hb);have n2_:=zA (zQ (g:=gb213) (o:=.cells #[.slice A1_0 l1_0.length c1_0,.slice A1_1 l1_1.length c1_1] 46 (0,0)) (zx BK213) hb);have n3_:=zA (zJb (zz HB) hb);clear BK212;clear BK213;clear HB;have HO216:=n0_;have BK212:=n1_;have BK213:=n2_;have HB:=n3_;clear n0_ n1_ n2_ n3_;(try clear hb);(try clear hb2);(try clear hk);(try clear hi);(try clear ho0);obtain ⟨Ao12,co12,eo12⟩:=Kd.R_slice HO216.out
   (first|subst eo12|(injection eo12 with f1_ f2_ f3_;have f4_:=f1_.symm;have f5_:=f3_.symm;clear f1_ f2_ f3_;subst f4_;subst f5_))
   refine hK.out _ _ ⟨(zP BK212.out 0).trans rfl,(zP BK212.out 1).trans rfl,(zP BK213.out 0).trans rfl,(zP BK213.out 1).trans rfl⟩ (fun hHeld => ?_)
   clear hK K
   refine norm_ (a':=?_) ?_ ?_
   rotate_left
   ·
    show Act.put _ (some 18) _ = _
    simp only [Act.put,zO,zEb,zFb,i64_w,i32_w]
    rfl
   refine one_ (i:=10) (N:=some 21) #[true,true,true,true,true,true,true,true,true,true,true,false,false] rfl rfl (one_of HT_.out (by kernel_rfl)) (by decide) (fun K hK => ?_)
   refine goes_ Try.func83 (by kernel_rfl) rfl #[.slice Ao12 t214.length co12,.slice A1_0 l1_0.length c1_0] (by rfl) rfl rfl (by (try simp only [zCb,zMb,zNb]);first|done|rfl|(simp only [zLb,zDb];rfl)) ?_
   with_reducible refine (spec_l2Ints.calls k _ _ t214 _ _ l1_0 t217 _ ?side1 ?side2 ?side3 ?side4 A9.out).mono ?_
   (case side1 => repeat (first|exact (Kd.R_reads' HO216.out).2.2|(with_reducible refine zBb ?_ _)|(with_reducible refine zAb ?_ _)|(with_reducible refine zX ?_)))
   (case side2 => exact (Kd.R_reads' HO216.out).2.1)
   (case side3 => repeat (first|exact (zKb HR1_0.out HB.out)|(with_reducible refine zBb ?_ _)|(with_reducible refine zAb ?_ _)|(with_reducible refine zX ?_)))
   (case side4 => exact HC1_0.out)
   rintro e w' ⟨rfl,⟨nd,rfl⟩⟩
   refine ⟨_,rfl,?_⟩
   refine hK.out _ _ ⟨(zP BK212.out 0).trans rfl,(zP BK212.out 1).trans rfl,(zP BK213.out 0).trans rfl,(zP BK213.out 1).trans rfl⟩ (fun hHeld => ?_)
   clear hK K
   refine norm_ (a':=?_) ?_ ?_
   rotate_left
   ·
    show Act.put _ (some 21) _ = _
    simp only [Act.put,zO,zEb,zFb,i64_w,i32_w]
    rfl
   refine pure_ (i:=11) (N:=some 22) (v:=?_) (a':=?_) #[true,true,true,true,true,true,true,true,true,true,true,true,false] rfl rfl (any_of HT_.out (by kernel_rfl)) (fun _ _ _ h => h) (Or.inl ⟨by rfl,?_⟩) ?_ ?_
   rotate_left
   ·
    intro w'
    go_simp
    with_reducible rfl
   rotate_left
   ·
    simp only [Act.put,zO,zEb,zFb,i64_w,i32_w]
    rfl
   refine pure_ (i:=12) (N:=some 23) (v:=?_) (a':=?_) #[true,true,true,true,true,true,true,true,true,true,true,true,true] rfl rfl (any_of HT_.out (by kernel_rfl)) (fun _ _ _ h => h) (Or.inl ⟨by rfl,?_⟩) ?_ ?_
   rotate_left
   ·
    intro w'
    go_simp
    with_reducible rfl
   rotate_left
   ·
    simp only [Act.put,zO,zEb,zFb,i64_w,i32_w]
    rfl
   refine done_ (done_of HT_.out (by kernel_rfl)) ?_
   try go_wp2
   go_meet
   case rel => exact ⟨_,(!t217),za,H',⟨by first|omega|exact Nat.le_refl _⟩,⟨zx BK212⟩,⟨zx BK213⟩,⟨zz HB⟩⟩
  ·
   rw [if_neg c7] at H;have c7b0:=beq_eq_false_iff_ne.mpr c7;have c7b1:=bne_iff_ne.mpr c7
   (first|rw [c7b0]|(simp only [i64_w,i32_w];rw [c7b0])|skip)
   have H':=zA H
   clear H
   try go_wp2
   have n0_:=zA (zI BK212.out);have n1_:=zA (zI BK213.out);have n2_:=zA (zJ HB.out);clear BK212;clear BK213;clear HB;have BK212:=n0_;have BK213:=n1_;have HB:=n2_;clear n0_ n1_ n2_
   refine start_ (n:=13) (S:=fun w' => True) (ds:=[]) #[false,false,false,false,false,false,false,false,false,false,false,false,false] (by kernel_rfl) rfl rfl trivial (fun hHeld => ?_);refine with_tabW spec_l7Is.tab1 spec_l7Is.bits1 (fun HT_ HW_ => ?_)
   generalize w6.drew = w13 at BK212 BK213 HB hHeld ⊢
   refine pure_ (i:=0) (N:=some 11) (v:=?_) (a':=?_) #[true,false,false,false,false,false,false,false,false,false,false,false,false] rfl rfl (any_of HT_.out (by kernel_rfl)) (fun _ _ _ h => h) (Or.inl ⟨by rfl,?_⟩) ?_ ?_
   rotate_left
   ·
    intro w'
    go_simp
    with_reducible rfl
   rotate_left
   ·
    simp only [Act.put,zO,zEb,zFb,i64_w,i32_w]
    rfl
   refine pure_ (i:=1) (N:=some 12) (v:=?_) (a':=?_) #[true,true,false,false,false,false,false,false,false,false,false,false,false] rfl rfl (any_of HT_.out (by kernel_rfl)) (fun _ _ _ h => h) (Or.inl ⟨by rfl,?_⟩) ?_ ?_
   rotate_left
   ·
    intro w'
    go_simp
    with_reducible rfl
   rotate_left
   ·
    simp only [Act.put,zO,zEb,zFb,i64_w,i32_w]
    rfl
   refine pure_ (i:=2) (N:=some 13) (v:=?_) (a':=?_) #[true,true,true,false,false,false,false,false,false,false,false,false,false] rfl rfl (any_of HT_.out (by kernel_rfl)) (fun _ _ _ h => h) (Or.inl ⟨by rfl,?_⟩) ?_ ?_
   rotate_left
   ·
    intro w'
    go_simp
    with_reducible rfl
   rotate_left
   ·
    simp only [Act.put,zO,zEb,zFb,i64_w,i32_w]
    rfl
   refine pure_ (i:=3) (N:=some 14) (v:=?_) (a':=?_) #[true,true,true,true,false,false,false,false,false,false,false,false,false] rfl rfl (any_of HT_.out (by kernel_rfl)) (fun _ _ _ h => h) (Or.inl ⟨by rfl,?_⟩) ?_ ?_
   rotate_left
   ·
    intro w'
    go_simp
    with_reducible rfl
   rotate_left
   ·
    simp only [Act.put,zO,zEb,zFb,i64_w,i32_w]
    rfl
   refine pure_ (i:=4) (N:=some 15) (v:=undef) (a':=?_) #[true,true,true,true,true,false,false,false,false,false,false,false,false] rfl rfl (any_of HT_.out (by kernel_rfl)) (fun _ _ _ h => h) (Or.inr ⟨by rfl,rfl⟩) ?_ ?_
   rotate_left
   ·
    simp only [Act.put,zO,zEb,zFb,i64_w,i32_w]
    rfl
   refine pure_ (i:=5) (N:=some 16) (v:=undef) (a':=?_) #[true,true,true,true,true,true,false,false,false,false,false,false,false] rfl rfl (any_of HT_.out (by kernel_rfl)) (fun _ _ _ h => h) (Or.inr ⟨by rfl,rfl⟩) ?_ ?_
   rotate_left
   ·
    simp only [Act.put,zO,zEb,zFb,i64_w,i32_w]
    rfl
   refine pure_ (i:=6) (N:=some 17) (v:=undef) (a':=?_) #[true,true,true,true,true,true,true,false,false,false,false,false,false] rfl rfl (any_of HT_.out (by kernel_rfl)) (fun _ _ _ h => h) (Or.inr ⟨by rfl,rfl⟩) ?_ ?_
   rotate_left
   ·
    simp only [Act.put,zO,zEb,zFb,i64_w,i32_w]
    rfl
   refine pure_ (i:=7) (N:=some 18) (v:=undef) (a':=?_) #[true,true,true,true,true,true,true,true,false,false,false,false,false] rfl rfl (any_of HT_.out (by kernel_rfl)) (fun _ _ _ h => h) (Or.inr ⟨by rfl,rfl⟩) ?_ ?_
   rotate_left
   ·
    simp only [Act.put,zO,zEb,zFb,i64_w,i32_w]
    rfl
   refine pure_ (i:=8) (N:=some 19) (v:=undef) (a':=?_) #[true,true,true,true,true,true,true,true,true,false,false,false,false] rfl rfl (any_of HT_.out (by kernel_rfl)) (fun _ _ _ h => h) (Or.inr ⟨by rfl,rfl⟩) ?_ ?_
   rotate_left
   ·
    simp only [Act.put,zO,zEb,zFb,i64_w,i32_w]
    rfl
   refine pure_ (i:=9) (N:=some 20) (v:=undef) (a':=?_) #[true,true,true,true,true,true,true,true,true,true,false,false,false] rfl rfl (any_of HT_.out (by kernel_rfl)) (fun _ _ _ h => h) (Or.inr ⟨by rfl,rfl⟩) ?_ ?_
   rotate_left
   ·
    simp only [Act.put,zO,zEb,zFb,i64_w,i32_w]
    rfl
   refine pure_ (i:=10) (N:=some 21) (v:=undef) (a':=?_) #[true,true,true,true,true,true,true,true,true,true,true,false,false] rfl rfl (any_of HT_.out (by kernel_rfl)) (fun _ _ _ h => h) (Or.inr ⟨by rfl,rfl⟩) ?_ ?_
   rotate_left
   ·
    simp only [Act.put,zO,zEb,zFb,i64_w,i32_w]
    rfl
   refine pure_ (i:=11) (N:=some 22) (v:=undef) (a':=?_) #[true,true,true,true,true,true,true,true,true,true,true,true,false] rfl rfl (any_of HT_.out (by kernel_rfl)) (fun _ _ _ h => h) (Or.inr ⟨by rfl,rfl⟩) ?_ ?_
   rotate_left
   ·
    simp only [Act.put,zO,zEb,zFb,i64_w,i32_w]
    rfl
   refine pure_ (i:=12) (N:=some 23) (v:=?_) (a':=?_) #[true,true,true,true,true,true,true,true,true,true,true,true,true] rfl rfl (any_of HT_.out (by kernel_rfl)) (fun _ _ _ h => h) (Or.inl ⟨by rfl,?_⟩) ?_ ?_
   rotate_left
   ·
    intro w'
    go_simp
    with_reducible rfl
   rotate_left
   ·
    simp only [Act.put,zO,zEb,zFb,i64_w,i32_w]
    rfl
   refine done_ (done_of HT_.out (by kernel_rfl)) ?_
   try go_wp2
   go_meet
   case rel => exact ⟨_,(true),za,H',⟨by first|omega|exact Nat.le_refl _⟩,⟨zx BK212⟩,⟨zx BK213⟩,⟨zz HB⟩⟩
 case rest =>
  clear HC4;(try clear c1);(try clear c2);(try clear p2);(try clear c7);(try clear c7b0);(try clear c7b1);(try clear c8);(try clear c10);(try clear c12);obtain ⟨kq,x23_3,rfl,HA,HJ3,BK212,BK213,HB⟩:=hcut
  cases kq with
  | zero => exact absurd HA.out (by simp [spec_l7Is.j0])
  | succ kj3 =>
   have H:=HA.out;clear HA;simp only [spec_l7Is.j0] at H
   by_cases c14 : x23_3 = true
   ·
    subst c14
    rw [if_pos rfl] at H
    obtain rfl:=Option.some.inj H
    go_wp2
    go_ret
    exact ⟨by first|rfl|(simp [errW_none,errW_some] <;> rfl)|(simp [*,errW_none,errW_some] <;> rfl),zz HB⟩
   ·
    replace c14:=Bool.eq_false_iff.mpr c14
    subst c14
    have H1 : (spec_l7Is.l0 kj3 l2 0 l0_0 l0_1 l1_0 l1_1) = some r:=by rw [if_neg (show ¬ (false = true) by decide)] at H;exact H
    clear H;have H:=H1;clear H1
    have H':=zA H
    clear H
    go_wp2
    go_loopg [7] kj3 (fun kq v7 w' => ∃ (x7_2 : Int),v7 = .int .i64 x7_2 ∧ Aside0 (spec_l7Is.l0 kq l2 x7_2 l0_0 l0_1 l1_0 l1_1 = some r) ∧ Aside0 (kq ≤ kj3) ∧ Aside0 (w'.heap[gb212]? = some (.cells #[(.slice A0_0 l0_0.length c0_0),(.slice A0_1 l0_1.length c0_1)] 46 (0,0))) ∧ Aside0 (w'.heap[gb213]? = some (.cells #[(.slice A1_0 l1_0.length c1_0),(.slice A1_1 l1_1.length c1_1)] 46 (0,0))) ∧ Aside0 (Below w.heap.size w w'))
    case atStart => exact ⟨(0),za,H',⟨Nat.le_refl _⟩,⟨zx BK212⟩,⟨zx BK213⟩,⟨zz HB⟩⟩
    case round =>
     clear H';(try clear c1);(try clear c2);(try clear p2);(try clear c7);(try clear c7b0);(try clear c7b1);(try clear c8);(try clear c10);(try clear c12);(try clear c14);(try clear p2);obtain ⟨x7_2,rfl,HA,HK2,BK212,BK213,HB⟩:=hrel
     cases gk with
     | zero => exact absurd HA.out (by simp [spec_l7Is.l0])
     | succ k2 =>
      have H:=HA.out;clear HA;simp only [spec_l7Is.l0] at H
      by_cases c15 : x7_2 < (l0_1.length : Int)
      ·
       rw [if_pos c15] at H;have c15b0:=decide_eq_true c15;clear c15
       by_cases c16 : 0 ≤ x7_2
       ·
        rw [if_pos c16] at H;have c16b0:=decide_eq_true c16;clear c16;replace H:=Option.bind_eq_some_iff.mp H;obtain ⟨t220,A170,H⟩:=H;(try dsimp only at H);have A17:=zA A170;clear A170
        have H':=zA H
        clear H;have hnb18:=NB212_213.out;have hnc18:=NB213_212.out;have hcz19_0:=zc (.slice A0_0 l0_0.length c0_0) BK212 0 rfl;have hcz19_1:=zc (.slice A0_1 l0_1.length c0_1) BK212 1 rfl;have hfz19_0:=blk_frozen BK212.out 0;have hfz19_1:=blk_frozen BK212.out 1
        try go_wp2
        have n0_:=zA (zI BK212.out);have n1_:=zA (zI BK213.out);have n2_:=zA (zJ HB.out);clear BK212;clear BK213;clear HB;have BK212:=n0_;have BK213:=n1_;have HB:=n2_;clear n0_ n1_ n2_;have p218 : 0 ≤ (x7_2 : Int):=zXb ze;have q218 : x7_2 < (l0_1.length : Int):=zXb ze;obtain ⟨ad218,A218_1,c218_1,e218,hx218_0,hx218_1,hl218_1,hi218_1⟩:=at_T97 HR0_1.out x7_2 p218 q218;have hw218_1:=hx218_1;have hw218_0:=hx218_0
        cases e218
        replace hx218_0:=(HB.out.cell (World.block_lt_of_cell? w _ hx218_0)).trans hx218_0;replace hx218_1:=(HB.out.cell (World.block_lt_of_cell? w _ hx218_1)).trans hx218_1;have HR218_1:=zA hi218_1;have HC218_1:=zA hl218_1;clear hi218_1 hl218_1;replace p218:=eq_true p218;replace q218:=eq_true q218;have p219 : 0 ≤ (x7_2 : Int):=zXb ze;have q219 : x7_2 < (l0_1.length : Int):=zXb ze;obtain ⟨ad219,A219_1,c219_1,e219,hx219_0,hx219_1,hl219_1,hi219_1⟩:=at_T97 HR0_1.out x7_2 p219 q219;have hw219_1:=hx219_1;have hw219_0:=hx219_0
        obtain rfl : ad218 = ad219:=(by injection e219)
        replace hx219_0:=(HB.out.cell (World.block_lt_of_cell? w _ hx219_0)).trans hx219_0;replace hx219_1:=(HB.out.cell (World.block_lt_of_cell? w _ hx219_1)).trans hx219_1;have HR219_1:=zA hi219_1;have HC219_1:=zA hl219_1;clear hi219_1 hl219_1;replace p219:=eq_true p219;replace q219:=eq_true q219;have ea_:=Option.some.inj (hx218_1.symm.trans hx219_1)
        injection ea_ with ea_ en_ ec_
        subst ea_
        subst ec_
        clear en_
        refine start_ (n:=17) (S:=fun w' => w'.cell? ⟨gb212,0,none⟩ = some (.slice A0_0 l0_0.length c0_0) ∧ w'.cell? ⟨gb212,1,none⟩ = some (.slice (some ad218) l0_1.length c0_1) ∧ w'.cell? (ad218.add ((x7_2).toNat * 2)) = some (.int .i64 ((rd_T97 l0_1 x7_2).f0)) ∧ w'.cell? ⟨(ad218.add ((x7_2).toNat * 2)).block,(ad218.add ((x7_2).toNat * 2)).off + 1,none⟩ = some (.slice A218_1 ((rd_T97 l0_1 x7_2).f1).length c218_1) ∧ w'.cell? (ad218.add ((x7_2).toNat * 2)) = some (.int .i64 ((rd_T97 l0_1 x7_2).f0)) ∧ w'.cell? ⟨(ad218.add ((x7_2).toNat * 2)).block,(ad218.add ((x7_2).toNat * 2)).off + 1,none⟩ = some (.slice A218_1 ((rd_T97 l0_1 x7_2).f1).length c218_1)) (ds:=[]) #[false,false,false,false,false,false,false,false,false,false,false,false,false,false,false,false,false] (by kernel_rfl) rfl rfl ⟨(zP BK212.out 0).trans rfl,(zP BK212.out 1).trans rfl,((HB.out.cell (World.block_lt_of_cell? w _ hw218_0)).trans hw218_0),((HB.out.cell (World.block_lt_of_cell? w _ hw218_1)).trans hw218_1),((HB.out.cell (World.block_lt_of_cell? w _ hw219_0)).trans hw219_0),((HB.out.cell (World.block_lt_of_cell? w _ hw219_1)).trans hw219_1)⟩ (fun hHeld => ?_);refine with_tabW spec_l7Is.tab6 spec_l7Is.bits6 (fun HT_ HW_ => ?_)
        generalize wr.drew = w20 at BK212 BK213 HB HR218_1 HR219_1 hx218_0 hx218_1 hx219_0 hx219_1 hHeld ⊢
        refine pure_ (i:=0) (N:=some 31) (v:=?_) (a':=?_) #[true,false,false,false,false,false,false,false,false,false,false,false,false,false,false,false,false] rfl rfl (any_of HT_.out (by kernel_rfl)) (fun _ _ _ h => h) (Or.inl ⟨by rfl,?_⟩) ?_ ?_
        rotate_left
        ·
         intro w'
         go_simp
         with_reducible rfl
        rotate_left
        ·
         simp only [Act.put,zO,zEb,zFb,i64_w,i32_w]
         rfl
        refine pure_ (i:=2) (N:=some 33) (v:=?_) (a':=?_) #[true,false,true,false,false,false,false,false,false,false,false,false,false,false,false,false,false] rfl rfl (any_of HT_.out (by kernel_rfl)) (fun _ _ _ h => h) (Or.inl ⟨by rfl,?_⟩) ?_ ?_
        rotate_left
        ·
         intro w'
         go_simp
         with_reducible rfl
        rotate_left
        ·
         simp only [Act.put,zO,zEb,zFb,i64_w,i32_w]
         rfl
        refine pure_ (i:=6) (N:=some 37) (v:=?_) (a':=?_) #[true,false,true,false,false,false,true,false,false,false,false,false,false,false,false,false,false] rfl rfl (any_of HT_.out (by kernel_rfl)) (fun _ _ _ h => h) (Or.inl ⟨by rfl,?_⟩) ?_ ?_
        rotate_left
        ·
         intro w'
         go_simp
         with_reducible rfl
        rotate_left
        ·
         simp only [Act.put,zO,zEb,zFb,i64_w,i32_w]
         rfl
        refine pure_ (i:=7) (N:=some 38) (v:=?_) (a':=?_) #[true,false,true,false,false,false,true,true,false,false,false,false,false,false,false,false,false] rfl rfl (any_of HT_.out (by kernel_rfl)) (fun _ _ _ h => h) (Or.inl ⟨by rfl,?_⟩) ?_ ?_
        rotate_left
        ·
         intro w'
         go_simp
         with_reducible rfl
        rotate_left
        ·
         simp only [Act.put,zO,zEb,zFb,i64_w,i32_w]
         rfl
        refine pure_ (i:=9) (N:=some 40) (v:=?_) (a':=?_) #[true,false,true,false,false,false,true,true,false,true,false,false,false,false,false,false,false] rfl rfl (any_of HT_.out (by kernel_rfl)) (fun _ _ _ h => h) (Or.inl ⟨by rfl,?_⟩) ?_ ?_
        rotate_left
        ·
         intro w'
         go_simp
         with_reducible rfl
        rotate_left
        ·
         simp only [Act.put,zO,zEb,zFb,i64_w,i32_w]
         rfl
        refine take_ (i:=1) (N:=some 32) (v:=?_) (a':=?_) #[true,true,true,false,false,false,true,true,false,true,false,false,false,false,false,false,false] rfl rfl (take_ofW HT_.out HW_.out (by kernel_rfl)) (fun _ _ _ h => h) (Or.inl ⟨by rfl,?_⟩) hHeld ?_ ?_
        rotate_left
        ·
         rintro w' ⟨s0,s1,s2,s3,s4,s5⟩
         go_simp
         with_reducible rfl
        rotate_left
        ·
         simp only [Act.put,zO,zEb,zFb,i64_w,i32_w]
         rfl
        refine pure_ (i:=3) (N:=some 34) (v:=?_) (a':=?_) #[true,true,true,true,false,false,true,true,false,true,false,false,false,false,false,false,false] rfl rfl (any_of HT_.out (by kernel_rfl)) (fun _ _ _ h => h) (Or.inl ⟨by rfl,?_⟩) ?_ ?_
        rotate_left
        ·
         intro w'
         go_simp
         with_reducible rfl
        rotate_left
        ·
         simp only [Act.put,zO,zEb,zFb,i64_w,i32_w]
         rfl
        refine pure_ (i:=4) (N:=some 35) (v:=?_) (a':=?_) #[true,true,true,true,true,false,true,true,false,true,false,false,false,false,false,false,false] rfl rfl (any_of HT_.out (by kernel_rfl)) (fun _ _ _ h => h) (Or.inl ⟨by rfl,?_⟩) ?_ ?_
        rotate_left
        ·
         intro w'
         go_simp
         with_reducible rfl
        rotate_left
        ·
         simp only [Act.put,zO,zEb,zFb,i64_w,i32_w]
         rfl
        refine take_ (i:=5) (N:=some 36) (v:=?_) (a':=?_) #[true,true,true,true,true,true,true,true,false,true,false,false,false,false,false,false,false] rfl rfl (take_ofW HT_.out HW_.out (by kernel_rfl)) (fun _ _ _ h => h) (Or.inl ⟨by rfl,?_⟩) hHeld ?_ ?_
        rotate_left
        ·
         rintro w' ⟨s0,s1,s2,s3,s4,s5⟩
         go_simp
         with_reducible rfl
        rotate_left
        ·
         simp only [Act.put,zO,zEb,zFb,i64_w,i32_w]
         rfl
        refine take_ (i:=8) (N:=some 39) (v:=?_) (a':=?_) #[true,true,true,true,true,true,true,true,true,true,false,false,false,false,false,false,false] rfl rfl (take_ofW HT_.out HW_.out (by kernel_rfl)) (fun _ _ _ h => h) (Or.inl ⟨by rfl,?_⟩) hHeld ?_ ?_
        rotate_left
        ·
         rintro w' ⟨s0,s1,s2,s3,s4,s5⟩
         go_simp
         with_reducible rfl
        rotate_left
        ·
         simp only [Act.put,zO,zEb,zFb,i64_w,i32_w]
         rfl
        refine pure_ (i:=10) (N:=some 41) (v:=?_) (a':=?_) #[true,true,true,true,true,true,true,true,true,true,true,false,false,false,false,false,false] rfl rfl (any_of HT_.out (by kernel_rfl)) (fun _ _ _ h => h) (Or.inl ⟨by rfl,?_⟩) ?_ ?_
        rotate_left
        ·
         intro w'
         go_simp
         with_reducible rfl
        rotate_left
        ·
         simp only [Act.put,zO,zEb,zFb,i64_w,i32_w]
         rfl
        refine pure_ (i:=11) (N:=some 42) (v:=?_) (a':=?_) #[true,true,true,true,true,true,true,true,true,true,true,true,false,false,false,false,false] rfl rfl (any_of HT_.out (by kernel_rfl)) (fun _ _ _ h => h) (Or.inl ⟨by rfl,?_⟩) ?_ ?_
        rotate_left
        ·
         intro w'
         go_simp
         with_reducible rfl
        rotate_left
        ·
         simp only [Act.put,zO,zEb,zFb,i64_w,i32_w]
         rfl
        refine take_ (i:=12) (N:=some 43) (v:=?_) (a':=?_) #[true,true,true,true,true,true,true,true,true,true,true,true,true,false,false,false,false] rfl rfl (take_ofW HT_.out HW_.out (by kernel_rfl)) (fun _ _ _ h => h) (Or.inl ⟨by rfl,?_⟩) hHeld ?_ ?_
        rotate_left
        ·
         rintro w' ⟨s0,s1,s2,s3,s4,s5⟩
         go_simp
         with_reducible rfl
        rotate_left
        ·
         simp only [Act.put,zO,zEb,zFb,i64_w,i32_w]
         rfl
        refine join_ (σ:=Value × Nat) 1 #[true,true,true,true,true,true,true,true,true,true,true,true,true,true,true,true,false] (fun s_ => [(44,s_.1),(8,.pointer (some ⟨s_.2,0,none⟩)),(45,.agg #[.int .i64 ((rd_T97 l0_1 x7_2).f0),s_.1])]) (fun s_ w' => (w'.cell? ⟨gb212,0,none⟩ = some (.slice A0_0 l0_0.length c0_0) ∧ w'.cell? ⟨gb212,1,none⟩ = some (.slice (some ad218) l0_1.length c0_1) ∧ w'.cell? (ad218.add ((x7_2).toNat * 2)) = some (.int .i64 ((rd_T97 l0_1 x7_2).f0)) ∧ w'.cell? ⟨(ad218.add ((x7_2).toNat * 2)).block,(ad218.add ((x7_2).toNat * 2)).off + 1,none⟩ = some (.slice A218_1 ((rd_T97 l0_1 x7_2).f1).length c218_1) ∧ w'.cell? (ad218.add ((x7_2).toNat * 2)) = some (.int .i64 ((rd_T97 l0_1 x7_2).f0)) ∧ w'.cell? ⟨(ad218.add ((x7_2).toNat * 2)).block,(ad218.add ((x7_2).toNat * 2)).off + 1,none⟩ = some (.slice A218_1 ((rd_T97 l0_1 x7_2).f1).length c218_1)) ∧ (Kd.R (Kd.int .i64) 3 w' w.heap.size (fun _ => True) s_.1 t220) ∧ (w'.heap[gb212]? = some (.cells #[.slice A0_0 l0_0.length c0_0,.slice (some ad218) l0_1.length c0_1] 46 (0,0))) ∧ (w'.heap[gb213]? = some (.cells #[.slice A1_0 l1_0.length c1_0,.slice A1_1 l1_1.length c1_1] 46 (0,0))) ∧ (w'.heap[s_.2]? = some (.cells #[.int .i64 0,.slice none 0 0] 97 (0,0))) ∧ (w.heap.size ≤ s_.2) ∧ (w.heap.size ≤ s_.2) ∧ (gb212 ≠ s_.2) ∧ (s_.2 ≠ gb212) ∧ (gb213 ≠ s_.2) ∧ (s_.2 ≠ gb213) ∧ (Below w.heap.size w w')) ?_ ?_
        rotate_left
        ·
         intro hCont
         refine two_ (i:=13) (j:=15) (Ni:=some 44) (Nj:=some 8) #[true,true,true,true,true,true,true,true,true,true,true,true,true,true,false,false,false] #[true,true,true,true,true,true,true,true,true,true,true,true,true,false,false,true,false] rfl rfl rfl rfl (two_of HT_.out (by kernel_rfl)) (by decide) (by decide) (fun K hK => ?_) (fun K hK => ?_)
         ·
          skip
          refine goes_ Try.func127 (by kernel_rfl) rfl #[.slice A2 l2.length c2,.slice A218_1 ((rd_T97 l0_1 x7_2).f1).length c218_1] (by rfl) rfl rfl (by (try simp only [zCb,zMb,zNb]);first|done|rfl|(simp only [zLb,zDb];rfl)) ?_
          with_reducible refine (spec_l7List.calls k2 _ _ l2 _ _ ((rd_T97 l0_1 x7_2).f1) t220 _ ?side1 ?side2 ?side3 ?side4 A17.out).mono ?_
          (case side1 => repeat (first|exact (zKb HR2.out HB.out)|(with_reducible refine zBb ?_ _)|(with_reducible refine zAb ?_ _)|(with_reducible refine zX ?_)))
          (case side2 => exact HC2.out)
          (case side3 => repeat (first|exact (zKb HR219_1.out HB.out)|(with_reducible refine zBb ?_ _)|(with_reducible refine zAb ?_ _)|(with_reducible refine zX ?_)))
          (case side4 => exact HC219_1.out)
          rintro e w21 ⟨v221,rfl,ho0,hb⟩
          refine ⟨_,rfl,?_⟩
          have n0_:=zA (zHb ho0 (zT (zz HB)));have n1_:=zA (zQ (g:=gb212) (o:=.cells #[.slice A0_0 l0_0.length c0_0,.slice (some ad218) l0_1.length c0_1] 46 (0,0)) (zx BK212) hb);have n2_:=zA (zQ (g:=gb213) (o:=.cells #[.slice A1_0 l1_0.length c1_0,.slice A1_1 l1_1.length c1_1] 46 (0,0)) (zx BK213) hb);have n3_:=zA (zJb (zz HB) hb);clear BK212;clear BK213;clear HB;have HO222:=n0_;have BK212:=n1_;have BK213:=n2_;have HB:=n3_;clear n0_ n1_ n2_ n3_;(try clear hb);(try clear hb2);(try clear hk);(try clear hi);(try clear ho0);obtain ⟨Ao22,co22,eo22⟩:=Kd.R_slice HO222.out
          (first|subst eo22|(injection eo22 with f1_ f2_ f3_;have f4_:=f1_.symm;have f5_:=f3_.symm;clear f1_ f2_ f3_;subst f4_;subst f5_))
          refine hK.out _ _ ⟨(zP BK212.out 0).trans rfl,(zP BK212.out 1).trans rfl,((HB.out.cell (World.block_lt_of_cell? w _ hw218_0)).trans hw218_0),((HB.out.cell (World.block_lt_of_cell? w _ hw218_1)).trans hw218_1),((HB.out.cell (World.block_lt_of_cell? w _ hw219_0)).trans hw219_0),((HB.out.cell (World.block_lt_of_cell? w _ hw219_1)).trans hw219_1)⟩ (fun hHeld => ?_)
          clear hK K
          refine norm_ (a':=?_) ?_ ?_
          rotate_left
          ·
           show Act.put _ (some 44) _ = _
           simp only [Act.put,zO,zEb,zFb,i64_w,i32_w]
           rfl
          refine pure_ (i:=14) (N:=some 45) (v:=?_) (a':=?_) #[true,true,true,true,true,true,true,true,true,true,true,true,true,true,true,false,false] rfl rfl (any_of HT_.out (by kernel_rfl)) (fun _ _ _ h => h) (Or.inl ⟨by rfl,?_⟩) ?_ ?_
          rotate_left
          ·
           intro w'
           go_simp
           with_reducible rfl
          rotate_left
          ·
           simp only [Act.put,zO,zEb,zFb,i64_w,i32_w]
           rfl
          refine one_ (i:=15) (N:=some 8) #[true,true,true,true,true,true,true,true,true,true,true,true,true,true,true,true,false] rfl rfl (one_of HT_.out (by kernel_rfl)) (by decide) (fun K hK => ?_)
          refine box_step ?hg (N:=8) ?hd (cs:=#[.int .i64 0,.slice none 0 0]) (t:=97) ?hr ?_;(case hd => rfl);(case hg => rfl);(case hr => first|(go_simp;done)|(go_simp;rfl))
          intro gb223 hg w23 hbox hb
          have n0_:=zA (zZ (zq HO222) hb);have n1_:=zA (zQ (g:=gb212) (o:=.cells #[.slice A0_0 l0_0.length c0_0,.slice (some ad218) l0_1.length c0_1] 46 (0,0)) (zx BK212) hb);have n2_:=zA (zQ (g:=gb213) (o:=.cells #[.slice A1_0 l1_0.length c1_0,.slice A1_1 l1_1.length c1_1] 46 (0,0)) (zx BK213) hb);have n3_:=zA (zJb (zz HB) hb);have n4_:=zA (hbox);have n5_:=zA ((by rw [hg];exact (zT (zz HB)) : w.heap.size ≤ gb223));have n6_:=zA ((by rw [hg];exact (zT (zz HB)) : w.heap.size ≤ gb223));have n7_:=zA ((by rw [hg];exact Nat.ne_of_lt (blk_lt (g:=gb212) (o:=.cells #[.slice A0_0 l0_0.length c0_0,.slice (some ad218) l0_1.length c0_1] 46 (0,0)) (zx BK212)) : gb212 ≠ gb223));have n8_:=zA ((by rw [hg];exact Nat.ne_of_gt (blk_lt (g:=gb212) (o:=.cells #[.slice A0_0 l0_0.length c0_0,.slice (some ad218) l0_1.length c0_1] 46 (0,0)) (zx BK212)) : gb223 ≠ gb212));have n9_:=zA ((by rw [hg];exact Nat.ne_of_lt (blk_lt (g:=gb213) (o:=.cells #[.slice A1_0 l1_0.length c1_0,.slice A1_1 l1_1.length c1_1] 46 (0,0)) (zx BK213)) : gb213 ≠ gb223));have n10_:=zA ((by rw [hg];exact Nat.ne_of_gt (blk_lt (g:=gb213) (o:=.cells #[.slice A1_0 l1_0.length c1_0,.slice A1_1 l1_1.length c1_1] 46 (0,0)) (zx BK213)) : gb223 ≠ gb213));clear HO222;clear BK212;clear BK213;clear HB;have HO222:=n0_;have BK212:=n1_;have BK213:=n2_;have HB:=n3_;have BK223:=n4_;have GW223:=n5_;have GE223:=n6_;have NB212_223:=n7_;have NB223_212:=n8_;have NB213_223:=n9_;have NB223_213:=n10_;clear n0_ n1_ n2_ n3_ n4_ n5_ n6_ n7_ n8_ n9_ n10_;clear hb hbox hg
          refine hK.out _ _ ⟨(zP BK212.out 0).trans rfl,(zP BK212.out 1).trans rfl,((HB.out.cell (World.block_lt_of_cell? w _ hw218_0)).trans hw218_0),((HB.out.cell (World.block_lt_of_cell? w _ hw218_1)).trans hw218_1),((HB.out.cell (World.block_lt_of_cell? w _ hw219_0)).trans hw219_0),((HB.out.cell (World.block_lt_of_cell? w _ hw219_1)).trans hw219_1)⟩ (fun hHeld => ?_)
          clear hK K
          refine norm_ (a':=?_) ?_ ?_
          rotate_left
          ·
           show Act.put _ (some 8) _ = _
           simp only [Act.put,zO,zEb,zFb,i64_w,i32_w]
           rfl
          exact norm_ (by simp only [putAll,Act.put,zO,zEb,zFb]) (hCont (.slice Ao22 t220.length co22,gb223) _ ⟨hHeld,(zq HO222),(zx BK212),(zx BK213),(zx BK223),GW223.out,GE223.out,NB212_223.out,NB223_212.out,NB213_223.out,NB223_213.out,(zz HB)⟩)
         ·
          skip
          refine box_step ?hg (N:=8) ?hd (cs:=#[.int .i64 0,.slice none 0 0]) (t:=97) ?hr ?_;(case hd => rfl);(case hg => rfl);(case hr => first|(go_simp;done)|(go_simp;rfl))
          intro gb223 hg w21 hbox hb
          have n0_:=zA (zQ (g:=gb212) (o:=.cells #[.slice A0_0 l0_0.length c0_0,.slice (some ad218) l0_1.length c0_1] 46 (0,0)) (zx BK212) hb);have n1_:=zA (zQ (g:=gb213) (o:=.cells #[.slice A1_0 l1_0.length c1_0,.slice A1_1 l1_1.length c1_1] 46 (0,0)) (zx BK213) hb);have n2_:=zA (zJb (zz HB) hb);have n3_:=zA (hbox);have n4_:=zA ((by rw [hg];exact (zT (zz HB)) : w.heap.size ≤ gb223));have n5_:=zA ((by rw [hg];exact (zT (zz HB)) : w.heap.size ≤ gb223));have n6_:=zA ((by rw [hg];exact Nat.ne_of_lt (blk_lt (g:=gb212) (o:=.cells #[.slice A0_0 l0_0.length c0_0,.slice (some ad218) l0_1.length c0_1] 46 (0,0)) (zx BK212)) : gb212 ≠ gb223));have n7_:=zA ((by rw [hg];exact Nat.ne_of_gt (blk_lt (g:=gb212) (o:=.cells #[.slice A0_0 l0_0.length c0_0,.slice (some ad218) l0_1.length c0_1] 46 (0,0)) (zx BK212)) : gb223 ≠ gb212));have n8_:=zA ((by rw [hg];exact Nat.ne_of_lt (blk_lt (g:=gb213) (o:=.cells #[.slice A1_0 l1_0.length c1_0,.slice A1_1 l1_1.length c1_1] 46 (0,0)) (zx BK213)) : gb213 ≠ gb223));have n9_:=zA ((by rw [hg];exact Nat.ne_of_gt (blk_lt (g:=gb213) (o:=.cells #[.slice A1_0 l1_0.length c1_0,.slice A1_1 l1_1.length c1_1] 46 (0,0)) (zx BK213)) : gb223 ≠ gb213));clear BK212;clear BK213;clear HB;have BK212:=n0_;have BK213:=n1_;have HB:=n2_;have BK223:=n3_;have GW223:=n4_;have GE223:=n5_;have NB212_223:=n6_;have NB223_212:=n7_;have NB213_223:=n8_;have NB223_213:=n9_;clear n0_ n1_ n2_ n3_ n4_ n5_ n6_ n7_ n8_ n9_;clear hb hbox hg
          refine hK.out _ _ ⟨(zP BK212.out 0).trans rfl,(zP BK212.out 1).trans rfl,((HB.out.cell (World.block_lt_of_cell? w _ hw218_0)).trans hw218_0),((HB.out.cell (World.block_lt_of_cell? w _ hw218_1)).trans hw218_1),((HB.out.cell (World.block_lt_of_cell? w _ hw219_0)).trans hw219_0),((HB.out.cell (World.block_lt_of_cell? w _ hw219_1)).trans hw219_1)⟩ (fun hHeld => ?_)
          clear hK K
          refine norm_ (a':=?_) ?_ ?_
          rotate_left
          ·
           show Act.put _ (some 8) _ = _
           simp only [Act.put,zO,zEb,zFb,i64_w,i32_w]
           rfl
          refine one_ (i:=13) (N:=some 44) #[true,true,true,true,true,true,true,true,true,true,true,true,true,true,false,true,false] rfl rfl (one_of HT_.out (by kernel_rfl)) (by decide) (fun K hK => ?_)
          refine goes_ Try.func127 (by kernel_rfl) rfl #[.slice A2 l2.length c2,.slice A218_1 ((rd_T97 l0_1 x7_2).f1).length c218_1] (by rfl) rfl rfl (by (try simp only [zCb,zMb,zNb]);first|done|rfl|(simp only [zLb,zDb];rfl)) ?_
          with_reducible refine (spec_l7List.calls k2 _ _ l2 _ _ ((rd_T97 l0_1 x7_2).f1) t220 _ ?side1 ?side2 ?side3 ?side4 A17.out).mono ?_
          (case side1 => repeat (first|exact (zKb HR2.out HB.out)|(with_reducible refine zBb ?_ _)|(with_reducible refine zAb ?_ _)|(with_reducible refine zX ?_)))
          (case side2 => exact HC2.out)
          (case side3 => repeat (first|exact (zKb HR219_1.out HB.out)|(with_reducible refine zBb ?_ _)|(with_reducible refine zAb ?_ _)|(with_reducible refine zX ?_)))
          (case side4 => exact HC219_1.out)
          rintro e w22 ⟨v221,rfl,ho0,hb⟩
          refine ⟨_,rfl,?_⟩
          have n0_:=zA (zHb ho0 (zT (zz HB)));have n1_:=zA (zQ (g:=gb212) (o:=.cells #[.slice A0_0 l0_0.length c0_0,.slice (some ad218) l0_1.length c0_1] 46 (0,0)) (zx BK212) hb);have n2_:=zA (zQ (g:=gb213) (o:=.cells #[.slice A1_0 l1_0.length c1_0,.slice A1_1 l1_1.length c1_1] 46 (0,0)) (zx BK213) hb);have n3_:=zA (zQ (g:=gb223) (o:=.cells #[.int .i64 0,.slice none 0 0] 97 (0,0)) (zx BK223) hb);have n4_:=zA (zJb (zz HB) hb);clear BK212;clear BK213;clear BK223;clear HB;have HO222:=n0_;have BK212:=n1_;have BK213:=n2_;have BK223:=n3_;have HB:=n4_;clear n0_ n1_ n2_ n3_ n4_;(try clear hb);(try clear hb2);(try clear hk);(try clear hi);(try clear ho0);obtain ⟨Ao23,co23,eo23⟩:=Kd.R_slice HO222.out
          (first|subst eo23|(injection eo23 with f1_ f2_ f3_;have f4_:=f1_.symm;have f5_:=f3_.symm;clear f1_ f2_ f3_;subst f4_;subst f5_))
          refine hK.out _ _ ⟨(zP BK212.out 0).trans rfl,(zP BK212.out 1).trans rfl,((HB.out.cell (World.block_lt_of_cell? w _ hw218_0)).trans hw218_0),((HB.out.cell (World.block_lt_of_cell? w _ hw218_1)).trans hw218_1),((HB.out.cell (World.block_lt_of_cell? w _ hw219_0)).trans hw219_0),((HB.out.cell (World.block_lt_of_cell? w _ hw219_1)).trans hw219_1)⟩ (fun hHeld => ?_)
          clear hK K
          refine norm_ (a':=?_) ?_ ?_
          rotate_left
          ·
           show Act.put _ (some 44) _ = _
           simp only [Act.put,zO,zEb,zFb,i64_w,i32_w]
           rfl
          refine pure_ (i:=14) (N:=some 45) (v:=?_) (a':=?_) #[true,true,true,true,true,true,true,true,true,true,true,true,true,true,true,true,false] rfl rfl (any_of HT_.out (by kernel_rfl)) (fun _ _ _ h => h) (Or.inl ⟨by rfl,?_⟩) ?_ ?_
          rotate_left
          ·
           intro w'
           go_simp
           with_reducible rfl
          rotate_left
          ·
           simp only [Act.put,zO,zEb,zFb,i64_w,i32_w]
           rfl
          exact norm_ (by simp only [putAll,Act.put,zO,zEb,zFb]) (hCont (.slice Ao23 t220.length co23,gb223) _ ⟨hHeld,(zq HO222),(zx BK212),(zx BK213),(zx BK223),GW223.out,GE223.out,NB212_223.out,NB223_212.out,NB213_223.out,NB223_213.out,(zz HB)⟩)
        rintro ⟨v221,gb223⟩ w24 ⟨hS_,h0_,h1_,h2_,h3_,h4_,h5_,h6_,h7_,h8_,h9_,h10_⟩
        have n0_ : Aside0 (Kd.R (Kd.int .i64) 3 w24 w.heap.size (fun _ => True) v221 t220):=⟨h0_⟩
        have n1_ : Aside0 (w24.heap[gb212]? = some (.cells #[.slice A0_0 l0_0.length c0_0,.slice (some ad218) l0_1.length c0_1] 46 (0,0))):=⟨h1_⟩
        have n2_ : Aside0 (w24.heap[gb213]? = some (.cells #[.slice A1_0 l1_0.length c1_0,.slice A1_1 l1_1.length c1_1] 46 (0,0))):=⟨h2_⟩
        have n3_ : Aside0 (w24.heap[gb223]? = some (.cells #[.int .i64 0,.slice none 0 0] 97 (0,0))):=⟨h3_⟩
        have n4_ : Aside0 (w.heap.size ≤ gb223):=⟨h4_⟩;have n5_ : Aside0 (w.heap.size ≤ gb223):=⟨h5_⟩;have n6_ : Aside0 (gb212 ≠ gb223):=⟨h6_⟩;have n7_ : Aside0 (gb223 ≠ gb212):=⟨h7_⟩;have n8_ : Aside0 (gb213 ≠ gb223):=⟨h8_⟩;have n9_ : Aside0 (gb223 ≠ gb213):=⟨h9_⟩;have n10_ : Aside0 (Below w.heap.size w w24):=⟨h10_⟩;clear BK212;clear BK213;clear HB;clear h0_ h1_ h2_ h3_ h4_ h5_ h6_ h7_ h8_ h9_ h10_;have HO222:=n0_;have BK212:=n1_;have BK213:=n2_;have BK223:=n3_;have GW223:=n4_;have GE223:=n5_;have NB212_223:=n6_;have NB223_212:=n7_;have NB213_223:=n8_;have NB223_213:=n9_;have HB:=n10_;clear n0_ n1_ n2_ n3_ n4_ n5_ n6_ n7_ n8_ n9_ n10_
        have hHeld : w24.cell? ⟨gb212,0,none⟩ = some (.slice A0_0 l0_0.length c0_0) ∧ w24.cell? ⟨gb212,1,none⟩ = some (.slice (some ad218) l0_1.length c0_1) ∧ w24.cell? (ad218.add ((x7_2).toNat * 2)) = some (.int .i64 ((rd_T97 l0_1 x7_2).f0)) ∧ w24.cell? ⟨(ad218.add ((x7_2).toNat * 2)).block,(ad218.add ((x7_2).toNat * 2)).off + 1,none⟩ = some (.slice A218_1 ((rd_T97 l0_1 x7_2).f1).length c218_1) ∧ w24.cell? (ad218.add ((x7_2).toNat * 2)) = some (.int .i64 ((rd_T97 l0_1 x7_2).f0)) ∧ w24.cell? ⟨(ad218.add ((x7_2).toNat * 2)).block,(ad218.add ((x7_2).toNat * 2)).off + 1,none⟩ = some (.slice A218_1 ((rd_T97 l0_1 x7_2).f1).length c218_1):=hS_
        obtain ⟨Ao25,co25,eo25⟩:=Kd.R_slice HO222.out
        (first|subst eo25|(injection eo25 with f1_ f2_ f3_;have f4_:=f1_.symm;have f5_:=f3_.symm;clear f1_ f2_ f3_;subst f4_;subst f5_))
        refine norm_ (a':=?_) ?_ ?_
        rotate_left
        ·
         simp only [putAll,Act.put,zO,zEb,zFb]
         rfl
        refine one_ (i:=16) (N:=none) #[true,true,true,true,true,true,true,true,true,true,true,true,true,true,true,true,true] rfl rfl (one_of HT_.out (by kernel_rfl)) (by decide) (fun K hK => ?_)
        have hs26 : w24.cell? ⟨gb223,0,none⟩ = some (.int .i64 0):=(zP BK223.out 0).trans rfl
        have hfs26:=blk_frozen BK223.out 0;have hns26_0:=NB212_223.out;have hns26_1:=NB213_223.out;have hms26_0:=NB223_212.out;have hms26_1:=NB223_213.out
        have hs27 : w24.cell? ⟨gb223,1,none⟩ = some (.slice none 0 0):=(zP BK223.out 1).trans rfl
        have hfs27:=blk_frozen BK223.out 1;have hns27_0:=NB212_223.out;have hns27_1:=NB213_223.out;have hms27_0:=NB223_212.out;have hms27_1:=NB223_213.out
        refine skip_ (w1:=?_) (by rfl) rfl ?_ ?_
        rotate_left
        ·
         go_simp
         rfl
        refine hK.out _ _ ⟨((zWb (p:=⟨gb223,_,none⟩) NB212_223.out _).trans (((zWb (p:=⟨gb223,_,none⟩) NB212_223.out _).trans (hHeld.1)))),((zWb (p:=⟨gb223,_,none⟩) NB212_223.out _).trans (((zWb (p:=⟨gb223,_,none⟩) NB212_223.out _).trans (hHeld.2.1)))),((zWb (p:=⟨gb223,_,none⟩) (by first|exact Nat.ne_of_lt (Nat.lt_of_lt_of_le (by have:=World.block_lt_of_cell? _ _ hw218_0;first|rwa [add_block] at this|exact this) GW223.out)|(rw [add_block];exact Nat.ne_of_lt (Nat.lt_of_lt_of_le (by have:=World.block_lt_of_cell? _ _ hw218_0;first|rwa [add_block] at this|exact this) GW223.out))|(show (Addr.add _ _).block ≠ _;rw [add_block];exact Nat.ne_of_lt (Nat.lt_of_lt_of_le (by have:=World.block_lt_of_cell? _ _ hw218_0;first|rwa [add_block] at this|exact this) GW223.out))|(dsimp only;exact Nat.ne_of_lt (Nat.lt_of_lt_of_le (by have:=World.block_lt_of_cell? _ _ hw218_0;first|rwa [add_block] at this|exact this) GW223.out))) _).trans (((zWb (p:=⟨gb223,_,none⟩) (by first|exact Nat.ne_of_lt (Nat.lt_of_lt_of_le (by have:=World.block_lt_of_cell? _ _ hw218_0;first|rwa [add_block] at this|exact this) GW223.out)|(rw [add_block];exact Nat.ne_of_lt (Nat.lt_of_lt_of_le (by have:=World.block_lt_of_cell? _ _ hw218_0;first|rwa [add_block] at this|exact this) GW223.out))|(show (Addr.add _ _).block ≠ _;rw [add_block];exact Nat.ne_of_lt (Nat.lt_of_lt_of_le (by have:=World.block_lt_of_cell? _ _ hw218_0;first|rwa [add_block] at this|exact this) GW223.out))|(dsimp only;exact Nat.ne_of_lt (Nat.lt_of_lt_of_le (by have:=World.block_lt_of_cell? _ _ hw218_0;first|rwa [add_block] at this|exact this) GW223.out))) _).trans (hHeld.2.2.1)))),((zWb (p:=⟨gb223,_,none⟩) (by first|exact Nat.ne_of_lt (Nat.lt_of_lt_of_le (by have:=World.block_lt_of_cell? _ _ hw218_1;first|rwa [add_block] at this|exact this) GW223.out)|(rw [add_block];exact Nat.ne_of_lt (Nat.lt_of_lt_of_le (by have:=World.block_lt_of_cell? _ _ hw218_1;first|rwa [add_block] at this|exact this) GW223.out))|(show (Addr.add _ _).block ≠ _;rw [add_block];exact Nat.ne_of_lt (Nat.lt_of_lt_of_le (by have:=World.block_lt_of_cell? _ _ hw218_1;first|rwa [add_block] at this|exact this) GW223.out))|(dsimp only;exact Nat.ne_of_lt (Nat.lt_of_lt_of_le (by have:=World.block_lt_of_cell? _ _ hw218_1;first|rwa [add_block] at this|exact this) GW223.out))) _).trans (((zWb (p:=⟨gb223,_,none⟩) (by first|exact Nat.ne_of_lt (Nat.lt_of_lt_of_le (by have:=World.block_lt_of_cell? _ _ hw218_1;first|rwa [add_block] at this|exact this) GW223.out)|(rw [add_block];exact Nat.ne_of_lt (Nat.lt_of_lt_of_le (by have:=World.block_lt_of_cell? _ _ hw218_1;first|rwa [add_block] at this|exact this) GW223.out))|(show (Addr.add _ _).block ≠ _;rw [add_block];exact Nat.ne_of_lt (Nat.lt_of_lt_of_le (by have:=World.block_lt_of_cell? _ _ hw218_1;first|rwa [add_block] at this|exact this) GW223.out))|(dsimp only;exact Nat.ne_of_lt (Nat.lt_of_lt_of_le (by have:=World.block_lt_of_cell? _ _ hw218_1;first|rwa [add_block] at this|exact this) GW223.out))) _).trans (hHeld.2.2.2.1)))),((zWb (p:=⟨gb223,_,none⟩) (by first|exact Nat.ne_of_lt (Nat.lt_of_lt_of_le (by have:=World.block_lt_of_cell? _ _ hw219_0;first|rwa [add_block] at this|exact this) GW223.out)|(rw [add_block];exact Nat.ne_of_lt (Nat.lt_of_lt_of_le (by have:=World.block_lt_of_cell? _ _ hw219_0;first|rwa [add_block] at this|exact this) GW223.out))|(show (Addr.add _ _).block ≠ _;rw [add_block];exact Nat.ne_of_lt (Nat.lt_of_lt_of_le (by have:=World.block_lt_of_cell? _ _ hw219_0;first|rwa [add_block] at this|exact this) GW223.out))|(dsimp only;exact Nat.ne_of_lt (Nat.lt_of_lt_of_le (by have:=World.block_lt_of_cell? _ _ hw219_0;first|rwa [add_block] at this|exact this) GW223.out))) _).trans (((zWb (p:=⟨gb223,_,none⟩) (by first|exact Nat.ne_of_lt (Nat.lt_of_lt_of_le (by have:=World.block_lt_of_cell? _ _ hw219_0;first|rwa [add_block] at this|exact this) GW223.out)|(rw [add_block];exact Nat.ne_of_lt (Nat.lt_of_lt_of_le (by have:=World.block_lt_of_cell? _ _ hw219_0;first|rwa [add_block] at this|exact this) GW223.out))|(show (Addr.add _ _).block ≠ _;rw [add_block];exact Nat.ne_of_lt (Nat.lt_of_lt_of_le (by have:=World.block_lt_of_cell? _ _ hw219_0;first|rwa [add_block] at this|exact this) GW223.out))|(dsimp only;exact Nat.ne_of_lt (Nat.lt_of_lt_of_le (by have:=World.block_lt_of_cell? _ _ hw219_0;first|rwa [add_block] at this|exact this) GW223.out))) _).trans (hHeld.2.2.2.2.1)))),((zWb (p:=⟨gb223,_,none⟩) (by first|exact Nat.ne_of_lt (Nat.lt_of_lt_of_le (by have:=World.block_lt_of_cell? _ _ hw219_1;first|rwa [add_block] at this|exact this) GW223.out)|(rw [add_block];exact Nat.ne_of_lt (Nat.lt_of_lt_of_le (by have:=World.block_lt_of_cell? _ _ hw219_1;first|rwa [add_block] at this|exact this) GW223.out))|(show (Addr.add _ _).block ≠ _;rw [add_block];exact Nat.ne_of_lt (Nat.lt_of_lt_of_le (by have:=World.block_lt_of_cell? _ _ hw219_1;first|rwa [add_block] at this|exact this) GW223.out))|(dsimp only;exact Nat.ne_of_lt (Nat.lt_of_lt_of_le (by have:=World.block_lt_of_cell? _ _ hw219_1;first|rwa [add_block] at this|exact this) GW223.out))) _).trans (((zWb (p:=⟨gb223,_,none⟩) (by first|exact Nat.ne_of_lt (Nat.lt_of_lt_of_le (by have:=World.block_lt_of_cell? _ _ hw219_1;first|rwa [add_block] at this|exact this) GW223.out)|(rw [add_block];exact Nat.ne_of_lt (Nat.lt_of_lt_of_le (by have:=World.block_lt_of_cell? _ _ hw219_1;first|rwa [add_block] at this|exact this) GW223.out))|(show (Addr.add _ _).block ≠ _;rw [add_block];exact Nat.ne_of_lt (Nat.lt_of_lt_of_le (by have:=World.block_lt_of_cell? _ _ hw219_1;first|rwa [add_block] at this|exact this) GW223.out))|(dsimp only;exact Nat.ne_of_lt (Nat.lt_of_lt_of_le (by have:=World.block_lt_of_cell? _ _ hw219_1;first|rwa [add_block] at this|exact this) GW223.out))) _).trans (hHeld.2.2.2.2.2))))⟩ (fun hHeld => ?_)
        clear hK K
        refine done_ (done_of HT_.out (by kernel_rfl)) ?_
        try go_wp2
        go_loopg [9,10] k2 (fun kq v9 v10 w' => ∃ (x9_3 : Bool) (x10_3 : Int),v9 = .bool x9_3 ∧ v10 = .int .i64 x10_3 ∧ Aside0 (spec_l7Is.l1 kq l2 x7_2 x9_3 x10_3 l0_0 l0_1 l1_0 l1_1 ((rd_T97 l0_1 x7_2).f0) t220 = some r) ∧ Aside0 (kq ≤ k2) ∧ Aside0 (Kd.R (Kd.int .i64) 3 w' w.heap.size (fun _ => True) (.slice Ao25 t220.length co25) t220) ∧ Aside0 (w'.heap[gb212]? = some (.cells #[(.slice A0_0 l0_0.length c0_0),(.slice (some ad218) l0_1.length c0_1)] 46 (0,0))) ∧ Aside0 (w'.heap[gb213]? = some (.cells #[(.slice A1_0 l1_0.length c1_0),(.slice A1_1 l1_1.length c1_1)] 46 (0,0))) ∧ Aside0 (w'.heap[gb223]? = some (.cells #[.int .i64 ((rd_T97 l0_1 x7_2).f0),(.slice Ao25 t220.length co25)] 97 (0,0))) ∧ Aside0 (Below w.heap.size w w'))
        case atStart => exact ⟨(false),(0),za,za,H',⟨Nat.le_refl _⟩,⟨by (with_reducible repeat (first|apply zE|apply zD|apply zH));exact zGb (zR (p:=⟨gb223,1,none⟩) (zR (p:=⟨gb223,0,none⟩) (Kd.R_types HO222.out BK223.out (by decide)) (fun _ hk => hk.2) (.int .i64 ((rd_T97 l0_1 x7_2).f0))) (fun _ hk => hk.2) (.slice Ao25 t220.length co25)) (fun _ hk => trivial)⟩,⟨by (with_reducible repeat (first|refine zF ?_ _|refine zI ?_|refine zG ?_ _));refine zUb ?_ NB212_223.out _;(with_reducible repeat (first|refine zF ?_ _|refine zI ?_|refine zG ?_ _));refine zUb ?_ NB212_223.out _;(with_reducible repeat (first|refine zF ?_ _|refine zI ?_|refine zG ?_ _));exact BK212.out⟩,⟨by (with_reducible repeat (first|refine zF ?_ _|refine zI ?_|refine zG ?_ _));refine zUb ?_ NB213_223.out _;(with_reducible repeat (first|refine zF ?_ _|refine zI ?_|refine zG ?_ _));refine zUb ?_ NB213_223.out _;(with_reducible repeat (first|refine zF ?_ _|refine zI ?_|refine zG ?_ _));exact BK213.out⟩,⟨by (with_reducible repeat (first|refine zF ?_ _|refine zI ?_|refine zG ?_ _));refine blk_put (cs:=#[.int .i64 ((rd_T97 l0_1 x7_2).f0),.slice none 0 0]) ?_ 1 _ rfl;(with_reducible repeat (first|refine zF ?_ _|refine zI ?_|refine zG ?_ _));refine blk_put (cs:=#[.int .i64 0,.slice none 0 0]) ?_ 0 _ rfl;(with_reducible repeat (first|refine zF ?_ _|refine zI ?_|refine zG ?_ _));exact BK223.out⟩,⟨zz HB⟩⟩
        case round =>
         clear H';(try clear c1);(try clear c2);(try clear p2);(try clear q2);(try clear hx2);(try clear c7);(try clear c7b0);(try clear c7b1);(try clear c8);(try clear c10);(try clear c12);(try clear c14);(try clear c15);(try clear c15b0);(try clear c16);(try clear c16b0);(try clear c18);(try clear c21);(try clear p21);(try clear q21);(try clear hx21);(try clear hcz19_0);(try clear hcz19_1);(try clear hfz19_0);(try clear hfz19_1);(try clear hx218_0);(try clear hx218_1);(try clear hx219_0);(try clear hx219_1);(try clear p2);(try clear p218);(try clear p219);(try clear q218);(try clear q219);obtain ⟨x9_3,x10_3,rfl,rfl,HA,HK3,HO_224001,BK212,BK213,BK223,HB⟩:=hrel
         cases gk with
         | zero => exact absurd HA.out (by simp [spec_l7Is.l1])
         | succ k3 =>
          have H:=HA.out;clear HA;simp only [spec_l7Is.l1] at H
          by_cases c28 : x10_3 < (l1_1.length : Int)
          ·
           rw [if_pos c28] at H;have c28b0:=decide_eq_true c28;clear c28
           by_cases c29 : x9_3 = true
           ·
            subst c29
            rw [if_pos rfl] at H
            have H':=zA H
            clear H;have hnb30:=NB213_212.out;have hnc30:=NB212_213.out;have hnb31:=NB213_223.out;have hnc31:=NB223_213.out;have hcz32_0:=zc (.slice A1_0 l1_0.length c1_0) BK213 0 rfl;have hcz32_1:=zc (.slice A1_1 l1_1.length c1_1) BK213 1 rfl;have hfz32_0:=blk_frozen BK213.out 0;have hfz32_1:=blk_frozen BK213.out 1
            try go_wp2
            have n0_:=zA (zH HO_224001.out);have n1_:=zA (zI BK212.out);have n2_:=zA (zI BK213.out);have n3_:=zA (zI BK223.out);have n4_:=zA (zJ HB.out);clear HO_224001;clear BK212;clear BK213;clear BK223;clear HB;have HO_224001:=n0_;have BK212:=n1_;have BK213:=n2_;have BK223:=n3_;have HB:=n4_;clear n0_ n1_ n2_ n3_ n4_
            refine start_ (n:=11) (S:=fun w' => True) (ds:=[]) #[false,false,false,false,false,false,false,false,false,false,false] (by kernel_rfl) rfl rfl trivial (fun hHeld => ?_);refine with_tabW spec_l7Is.tab11 spec_l7Is.bits11 (fun HT_ HW_ => ?_)
            generalize wr.drew = w33 at HO_224001 BK212 BK213 BK223 HB hHeld ⊢
            refine pure_ (i:=0) (N:=some 53) (v:=?_) (a':=?_) #[true,false,false,false,false,false,false,false,false,false,false] rfl rfl (any_of HT_.out (by kernel_rfl)) (fun _ _ _ h => h) (Or.inl ⟨by rfl,?_⟩) ?_ ?_
            rotate_left
            ·
             intro w'
             go_simp
             with_reducible rfl
            rotate_left
            ·
             simp only [Act.put,zO,zEb,zFb,i64_w,i32_w]
             rfl
            refine pure_ (i:=1) (N:=some 54) (v:=?_) (a':=?_) #[true,true,false,false,false,false,false,false,false,false,false] rfl rfl (any_of HT_.out (by kernel_rfl)) (fun _ _ _ h => h) (Or.inl ⟨by rfl,?_⟩) ?_ ?_
            rotate_left
            ·
             intro w'
             go_simp
             with_reducible rfl
            rotate_left
            ·
             simp only [Act.put,zO,zEb,zFb,i64_w,i32_w]
             rfl
            refine pure_ (i:=2) (N:=some 55) (v:=undef) (a':=?_) #[true,true,true,false,false,false,false,false,false,false,false] rfl rfl (any_of HT_.out (by kernel_rfl)) (fun _ _ _ h => h) (Or.inr ⟨by rfl,rfl⟩) ?_ ?_
            rotate_left
            ·
             simp only [Act.put,zO,zEb,zFb,i64_w,i32_w]
             rfl
            refine pure_ (i:=3) (N:=some 56) (v:=undef) (a':=?_) #[true,true,true,true,false,false,false,false,false,false,false] rfl rfl (any_of HT_.out (by kernel_rfl)) (fun _ _ _ h => h) (Or.inr ⟨by rfl,rfl⟩) ?_ ?_
            rotate_left
            ·
             simp only [Act.put,zO,zEb,zFb,i64_w,i32_w]
             rfl
            refine pure_ (i:=4) (N:=some 57) (v:=undef) (a':=?_) #[true,true,true,true,true,false,false,false,false,false,false] rfl rfl (any_of HT_.out (by kernel_rfl)) (fun _ _ _ h => h) (Or.inr ⟨by rfl,rfl⟩) ?_ ?_
            rotate_left
            ·
             simp only [Act.put,zO,zEb,zFb,i64_w,i32_w]
             rfl
            refine pure_ (i:=5) (N:=some 58) (v:=undef) (a':=?_) #[true,true,true,true,true,true,false,false,false,false,false] rfl rfl (any_of HT_.out (by kernel_rfl)) (fun _ _ _ h => h) (Or.inr ⟨by rfl,rfl⟩) ?_ ?_
            rotate_left
            ·
             simp only [Act.put,zO,zEb,zFb,i64_w,i32_w]
             rfl
            refine pure_ (i:=6) (N:=some 59) (v:=undef) (a':=?_) #[true,true,true,true,true,true,true,false,false,false,false] rfl rfl (any_of HT_.out (by kernel_rfl)) (fun _ _ _ h => h) (Or.inr ⟨by rfl,rfl⟩) ?_ ?_
            rotate_left
            ·
             simp only [Act.put,zO,zEb,zFb,i64_w,i32_w]
             rfl
            refine pure_ (i:=7) (N:=some 60) (v:=undef) (a':=?_) #[true,true,true,true,true,true,true,true,false,false,false] rfl rfl (any_of HT_.out (by kernel_rfl)) (fun _ _ _ h => h) (Or.inr ⟨by rfl,rfl⟩) ?_ ?_
            rotate_left
            ·
             simp only [Act.put,zO,zEb,zFb,i64_w,i32_w]
             rfl
            refine pure_ (i:=8) (N:=some 61) (v:=undef) (a':=?_) #[true,true,true,true,true,true,true,true,true,false,false] rfl rfl (any_of HT_.out (by kernel_rfl)) (fun _ _ _ h => h) (Or.inr ⟨by rfl,rfl⟩) ?_ ?_
            rotate_left
            ·
             simp only [Act.put,zO,zEb,zFb,i64_w,i32_w]
             rfl
            refine pure_ (i:=9) (N:=some 62) (v:=?_) (a':=?_) #[true,true,true,true,true,true,true,true,true,true,false] rfl rfl (any_of HT_.out (by kernel_rfl)) (fun _ _ _ h => h) (Or.inl ⟨by rfl,?_⟩) ?_ ?_
            rotate_left
            ·
             intro w'
             go_simp
             with_reducible rfl
            rotate_left
            ·
             simp only [Act.put,zO,zEb,zFb,i64_w,i32_w]
             rfl
            refine pure_ (i:=10) (N:=some 9) (v:=?_) (a':=?_) #[true,true,true,true,true,true,true,true,true,true,true] rfl rfl (any_of HT_.out (by kernel_rfl)) (fun _ _ _ h => h) (Or.inl ⟨by rfl,?_⟩) ?_ ?_
            rotate_left
            ·
             intro w'
             go_simp
             with_reducible rfl
            rotate_left
            ·
             simp only [Act.put,zO,zEb,zFb,i64_w,i32_w]
             rfl
            refine done_ (done_of HT_.out (by kernel_rfl)) ?_
            try go_wp2
            go_roundg k3
            case measure => have:=HJ3.out;have:=HK2.out;have:=HK3.out;omega
            case rel => exact ⟨(true),(wrap64 (x10_3 + 1)),za,za,H',⟨by have:=HJ3.out;have:=HK2.out;have:=HK3.out;omega⟩,⟨zq HO_224001⟩,⟨zx BK212⟩,⟨zx BK213⟩,⟨zx BK223⟩,⟨zz HB⟩⟩
           ·
            replace c29:=Bool.eq_false_iff.mpr c29
            subst c29
            have H1 : (if 0 ≤ x10_3 then ((spec_EqualAtoms.f k3 ((rd_T97 l0_1 x7_2).f0) t220 ((rd_T97 l1_1 x10_3).f0) ((rd_T97 l1_1 x10_3).f1)).bind fun t225 => (spec_l7Is.l1 k3 l2 x7_2 t225 (wrap64 (x10_3 + 1)) l0_0 l0_1 l1_0 l1_1 ((rd_T97 l0_1 x7_2).f0) t220)) else (none)) = some r:=by rw [if_neg (show ¬ (false = true) by decide)] at H;exact H
            clear H;have H:=H1;clear H1
            by_cases c34 : 0 ≤ x10_3
            ·
             rw [if_pos c34] at H;have c34b0:=decide_eq_true c34;clear c34;replace H:=Option.bind_eq_some_iff.mp H;obtain ⟨t225,A350,H⟩:=H;(try dsimp only at H);have A35:=zA A350;clear A350
             have H':=zA H
             clear H;have hnb36:=NB213_212.out;have hnc36:=NB212_213.out;have hnb37:=NB213_223.out;have hnc37:=NB223_213.out;have hcz38_0:=zc (.slice A1_0 l1_0.length c1_0) BK213 0 rfl;have hcz38_1:=zc (.slice A1_1 l1_1.length c1_1) BK213 1 rfl;have hfz38_0:=blk_frozen BK213.out 0;have hfz38_1:=blk_frozen BK213.out 1
             try go_wp2
             have n0_:=zA (zH HO_224001.out);have n1_:=zA (zI BK212.out);have n2_:=zA (zI BK213.out);have n3_:=zA (zI BK223.out);have n4_:=zA (zJ HB.out);clear HO_224001;clear BK212;clear BK213;clear BK223;clear HB;have HO_224001:=n0_;have BK212:=n1_;have BK213:=n2_;have BK223:=n3_;have HB:=n4_;clear n0_ n1_ n2_ n3_ n4_;have p224 : 0 ≤ (x10_3 : Int):=zXb ze;have q224 : x10_3 < (l1_1.length : Int):=zXb ze;obtain ⟨ad224,A224_1,c224_1,e224,hx224_0,hx224_1,hl224_1,hi224_1⟩:=at_T97 HR1_1.out x10_3 p224 q224;have hw224_1:=hx224_1;have hw224_0:=hx224_0
             cases e224
             replace hx224_0:=(HB.out.cell (World.block_lt_of_cell? w _ hx224_0)).trans hx224_0;replace hx224_1:=(HB.out.cell (World.block_lt_of_cell? w _ hx224_1)).trans hx224_1;have HR224_1:=zA hi224_1;have HC224_1:=zA hl224_1;clear hi224_1 hl224_1;replace p224:=eq_true p224;replace q224:=eq_true q224
             refine start_ (n:=11) (S:=fun w' => w'.cell? ⟨gb223,0,none⟩ = some (.int .i64 ((rd_T97 l0_1 x7_2).f0)) ∧ w'.cell? ⟨gb223,1,none⟩ = some (.slice Ao25 t220.length co25) ∧ w'.cell? ⟨gb213,0,none⟩ = some (.slice A1_0 l1_0.length c1_0) ∧ w'.cell? ⟨gb213,1,none⟩ = some (.slice (some ad224) l1_1.length c1_1) ∧ w'.cell? (ad224.add ((x10_3).toNat * 2)) = some (.int .i64 ((rd_T97 l1_1 x10_3).f0)) ∧ w'.cell? ⟨(ad224.add ((x10_3).toNat * 2)).block,(ad224.add ((x10_3).toNat * 2)).off + 1,none⟩ = some (.slice A224_1 ((rd_T97 l1_1 x10_3).f1).length c224_1)) (ds:=[]) #[false,false,false,false,false,false,false,false,false,false,false] (by kernel_rfl) rfl rfl ⟨(zP BK223.out 0).trans rfl,(zP BK223.out 1).trans rfl,(zP BK213.out 0).trans rfl,(zP BK213.out 1).trans rfl,((HB.out.cell (World.block_lt_of_cell? w _ hw224_0)).trans hw224_0),((HB.out.cell (World.block_lt_of_cell? w _ hw224_1)).trans hw224_1)⟩ (fun hHeld => ?_);refine with_tabW spec_l7Is.tab11 spec_l7Is.bits11 (fun HT_ HW_ => ?_)
             generalize wr.drew = w39 at HO_224001 BK212 BK213 BK223 HB HR224_1 hx224_0 hx224_1 hHeld ⊢
             refine pure_ (i:=0) (N:=some 53) (v:=?_) (a':=?_) #[true,false,false,false,false,false,false,false,false,false,false] rfl rfl (any_of HT_.out (by kernel_rfl)) (fun _ _ _ h => h) (Or.inl ⟨by rfl,?_⟩) ?_ ?_
             rotate_left
             ·
              intro w'
              go_simp
              with_reducible rfl
             rotate_left
             ·
              simp only [Act.put,zO,zEb,zFb,i64_w,i32_w]
              rfl
             refine pure_ (i:=1) (N:=some 54) (v:=?_) (a':=?_) #[true,true,false,false,false,false,false,false,false,false,false] rfl rfl (any_of HT_.out (by kernel_rfl)) (fun _ _ _ h => h) (Or.inl ⟨by rfl,?_⟩) ?_ ?_
             rotate_left
             ·
              intro w'
              go_simp
              with_reducible rfl
             rotate_left
             ·
              simp only [Act.put,zO,zEb,zFb,i64_w,i32_w]
              rfl
             refine pure_ (i:=3) (N:=some 56) (v:=?_) (a':=?_) #[true,true,false,true,false,false,false,false,false,false,false] rfl rfl (any_of HT_.out (by kernel_rfl)) (fun _ _ _ h => h) (Or.inl ⟨by rfl,?_⟩) ?_ ?_
             rotate_left
             ·
              intro w'
              go_simp
              with_reducible rfl
             rotate_left
             ·
              simp only [Act.put,zO,zEb,zFb,i64_w,i32_w]
              rfl
             refine pure_ (i:=5) (N:=some 58) (v:=?_) (a':=?_) #[true,true,false,true,false,true,false,false,false,false,false] rfl rfl (any_of HT_.out (by kernel_rfl)) (fun _ _ _ h => h) (Or.inl ⟨by rfl,?_⟩) ?_ ?_
             rotate_left
             ·
              intro w'
              go_simp
              with_reducible rfl
             rotate_left
             ·
              simp only [Act.put,zO,zEb,zFb,i64_w,i32_w]
              rfl
             refine take_ (i:=2) (N:=some 55) (v:=?_) (a':=?_) #[true,true,true,true,false,true,false,false,false,false,false] rfl rfl (take_ofW HT_.out HW_.out (by kernel_rfl)) (fun _ _ _ h => h) (Or.inl ⟨by rfl,?_⟩) hHeld ?_ ?_
             rotate_left
             ·
              rintro w' ⟨s0,s1,s2,s3,s4,s5⟩
              go_simp
              with_reducible rfl
             rotate_left
             ·
              simp only [Act.put,zO,zEb,zFb,i64_w,i32_w]
              rfl
             refine take_ (i:=4) (N:=some 57) (v:=?_) (a':=?_) #[true,true,true,true,true,true,false,false,false,false,false] rfl rfl (take_ofW HT_.out HW_.out (by kernel_rfl)) (fun _ _ _ h => h) (Or.inl ⟨by rfl,?_⟩) hHeld ?_ ?_
             rotate_left
             ·
              rintro w' ⟨s0,s1,s2,s3,s4,s5⟩
              go_simp
              with_reducible rfl
             rotate_left
             ·
              simp only [Act.put,zO,zEb,zFb,i64_w,i32_w]
              rfl
             refine pure_ (i:=6) (N:=some 59) (v:=?_) (a':=?_) #[true,true,true,true,true,true,true,false,false,false,false] rfl rfl (any_of HT_.out (by kernel_rfl)) (fun _ _ _ h => h) (Or.inl ⟨by rfl,?_⟩) ?_ ?_
             rotate_left
             ·
              intro w'
              go_simp
              with_reducible rfl
             rotate_left
             ·
              simp only [Act.put,zO,zEb,zFb,i64_w,i32_w]
              rfl
             refine take_ (i:=7) (N:=some 60) (v:=?_) (a':=?_) #[true,true,true,true,true,true,true,true,false,false,false] rfl rfl (take_ofW HT_.out HW_.out (by kernel_rfl)) (fun _ _ _ h => h) (Or.inl ⟨by rfl,?_⟩) hHeld ?_ ?_
             rotate_left
             ·
              rintro w' ⟨s0,s1,s2,s3,s4,s5⟩
              go_simp
              with_reducible rfl
             rotate_left
             ·
              simp only [Act.put,zO,zEb,zFb,i64_w,i32_w]
              rfl
             refine one_ (i:=8) (N:=some 61) #[true,true,true,true,true,true,true,true,true,false,false] rfl rfl (one_of HT_.out (by kernel_rfl)) (by decide) (fun K hK => ?_)
             refine goes_ Try.func84 (by kernel_rfl) rfl #[.agg #[.int .i64 ((rd_T97 l0_1 x7_2).f0),.slice Ao25 t220.length co25],.agg #[.int .i64 ((rd_T97 l1_1 x10_3).f0),.slice A224_1 ((rd_T97 l1_1 x10_3).f1).length c224_1]] (by rfl) rfl rfl (by (try simp only [zCb,zMb,zNb]);first|done|rfl|(simp only [zLb,zDb];rfl)) ?_
             with_reducible refine (spec_EqualAtoms.calls k3 ((rd_T97 l0_1 x7_2).f0) _ _ t220 ((rd_T97 l1_1 x10_3).f0) _ _ ((rd_T97 l1_1 x10_3).f1) t225 _ ?side1 ?side2 ?side3 ?side4 A35.out).mono ?_
             (case side1 => repeat (first|exact (Kd.R_reads' HO_224001.out).2.2|(with_reducible refine zBb ?_ _)|(with_reducible refine zAb ?_ _)|(with_reducible refine zX ?_)))
             (case side2 => exact (Kd.R_reads' HO_224001.out).2.1)
             (case side3 => repeat (first|exact (zKb HR224_1.out HB.out)|(with_reducible refine zBb ?_ _)|(with_reducible refine zAb ?_ _)|(with_reducible refine zX ?_)))
             (case side4 => exact HC224_1.out)
             rintro e w40 ⟨rfl,hb⟩
             refine ⟨_,rfl,?_⟩
             have n0_:=zA (zZ (zq HO_224001) hb);have n1_:=zA (zQ (g:=gb212) (o:=.cells #[.slice A0_0 l0_0.length c0_0,.slice (some ad218) l0_1.length c0_1] 46 (0,0)) (zx BK212) hb);have n2_:=zA (zQ (g:=gb213) (o:=.cells #[.slice A1_0 l1_0.length c1_0,.slice (some ad224) l1_1.length c1_1] 46 (0,0)) (zx BK213) hb);have n3_:=zA (zQ (g:=gb223) (o:=.cells #[.int .i64 ((rd_T97 l0_1 x7_2).f0),.slice Ao25 t220.length co25] 97 (0,0)) (zx BK223) hb);have n4_:=zA (zJb (zz HB) hb);clear HO_224001;clear BK212;clear BK213;clear BK223;clear HB;have HO_224001:=n0_;have BK212:=n1_;have BK213:=n2_;have BK223:=n3_;have HB:=n4_;clear n0_ n1_ n2_ n3_ n4_;(try clear hb);(try clear hb2);(try clear hk);(try clear hi)
             refine hK.out _ _ ⟨(zP BK223.out 0).trans rfl,(zP BK223.out 1).trans rfl,(zP BK213.out 0).trans rfl,(zP BK213.out 1).trans rfl,((HB.out.cell (World.block_lt_of_cell? w _ hw224_0)).trans hw224_0),((HB.out.cell (World.block_lt_of_cell? w _ hw224_1)).trans hw224_1)⟩ (fun hHeld => ?_)
             clear hK K
             refine norm_ (a':=?_) ?_ ?_
             rotate_left
             ·
              show Act.put _ (some 61) _ = _
              simp only [Act.put,zO,zEb,zFb,i64_w,i32_w]
              rfl
             refine pure_ (i:=9) (N:=some 62) (v:=?_) (a':=?_) #[true,true,true,true,true,true,true,true,true,true,false] rfl rfl (any_of HT_.out (by kernel_rfl)) (fun _ _ _ h => h) (Or.inl ⟨by rfl,?_⟩) ?_ ?_
             rotate_left
             ·
              intro w'
              go_simp
              with_reducible rfl
             rotate_left
             ·
              simp only [Act.put,zO,zEb,zFb,i64_w,i32_w]
              rfl
             refine pure_ (i:=10) (N:=some 9) (v:=?_) (a':=?_) #[true,true,true,true,true,true,true,true,true,true,true] rfl rfl (any_of HT_.out (by kernel_rfl)) (fun _ _ _ h => h) (Or.inl ⟨by rfl,?_⟩) ?_ ?_
             rotate_left
             ·
              intro w'
              go_simp
              with_reducible rfl
             rotate_left
             ·
              simp only [Act.put,zO,zEb,zFb,i64_w,i32_w]
              rfl
             refine done_ (done_of HT_.out (by kernel_rfl)) ?_
             try go_wp2
             go_roundg k3
             case measure => have:=HJ3.out;have:=HK2.out;have:=HK3.out;omega
             case rel => exact ⟨(t225),(wrap64 (x10_3 + 1)),za,za,H',⟨by have:=HJ3.out;have:=HK2.out;have:=HK3.out;omega⟩,⟨zq HO_224001⟩,⟨zx BK212⟩,⟨zx BK213⟩,⟨zx BK223⟩,⟨zz HB⟩⟩
            ·
             rw [if_neg c34] at H
             exact absurd H (by simp)
          ·
           rw [if_neg c28] at H;have c28b0:=decide_eq_false c28;clear c28
           by_cases c41 : x9_3 = true
           ·
            subst c41
            rw [if_pos rfl] at H
            have H':=zA H
            clear H;have hnb42:=NB213_212.out;have hnc42:=NB212_213.out;have hnb43:=NB213_223.out;have hnc43:=NB223_213.out;have hcz44_0:=zc (.slice A1_0 l1_0.length c1_0) BK213 0 rfl;have hcz44_1:=zc (.slice A1_1 l1_1.length c1_1) BK213 1 rfl;have hfz44_0:=blk_frozen BK213.out 0;have hfz44_1:=blk_frozen BK213.out 1
            go_wp2
            go_roundg k3
            case measure => have:=HJ3.out;have:=HK2.out;have:=HK3.out;omega
            case rel => exact ⟨(wrap64 (x7_2 + 1)),za,H',⟨by have:=HJ3.out;have:=HK2.out;have:=HK3.out;omega⟩,⟨zx BK212⟩,⟨zx BK213⟩,⟨zz HB⟩⟩
           ·
            replace c41:=Bool.eq_false_iff.mpr c41
            subst c41
            have H1 : (some false) = some r:=by rw [if_neg (show ¬ (false = true) by decide)] at H;exact H
            clear H;have H:=H1;clear H1
            obtain rfl:=Option.some.inj H
            have hnb45:=NB213_212.out;have hnc45:=NB212_213.out;have hnb46:=NB213_223.out;have hnc46:=NB223_213.out;have hcz47_0:=zc (.slice A1_0 l1_0.length c1_0) BK213 0 rfl;have hcz47_1:=zc (.slice A1_1 l1_1.length c1_1) BK213 1 rfl;have hfz47_0:=blk_frozen BK213.out 0;have hfz47_1:=blk_frozen BK213.out 1
            go_wp2
            go_ret
            exact ⟨by first|rfl|(simp [errW_none,errW_some] <;> rfl)|(simp [*,errW_none,errW_some] <;> rfl),zz HB⟩
       ·
        rw [if_neg c16] at H
        exact absurd H (by simp)
      ·
       rw [if_neg c15] at H;have c15b0:=decide_eq_false c15;clear c15
       obtain rfl:=Option.some.inj H
       have hnb48:=NB212_213.out;have hnc48:=NB213_212.out;have hcz49_0:=zc (.slice A0_0 l0_0.length c0_0) BK212 0 rfl;have hcz49_1:=zc (.slice A0_1 l0_1.length c0_1) BK212 1 rfl;have hfz49_0:=blk_frozen BK212.out 0;have hfz49_1:=blk_frozen BK212.out 1
       go_wp2
       go_ret
       exact ⟨by first|rfl|(simp [errW_none,errW_some] <;> rfl)|(simp [*,errW_none,errW_some] <;> rfl),zz HB⟩

end Go.Proofs.Ytanbgnjfllpkgaa.QFnExactIsMapping
