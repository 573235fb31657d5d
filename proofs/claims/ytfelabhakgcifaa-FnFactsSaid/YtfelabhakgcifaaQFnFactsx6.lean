/- Walks through the Go functions that FnFacts reaches: each call returns what the Lean function beside it says, within the bounds that the theorem names. -/
import Derived.Test.YtfelabhakgcifaaQFnFactsx0
import Derived.Test.YtfelabhakgcifaaQFnFactsx3
import Derived.Test.YtfelabhakgcifaaQFnFactsx5
namespace Go.Proofs.Ytfelabhakgcifaa.QFnFacts
open Go.RowKit Go.Proofs.YtfelabhakgcifaaW.PrintWords Go.Proofs.YtfelabhakgcifaaW.PrintLast Go.Proofs.YtfelabhakgcifaaW.PrintMore
attribute [local go_sem] max2_int min2_int max_two min_two max_three min_three max_four min_four   -- for this text's walks alone
set_option linter.unusedVariables false
set_option linter.unusedSimpArgs false


/-! ### spec_l5Put: function 50 -/
mutual
def spec_l5Put.l0 : Nat → List (S37) → List (S37) → Bool → Int → Int → List Int → Option ((List (S37)))
 | 0, _, _, _, _, _, _ => none
 | k + 1, x0, x5, x6, x7, x155000, x155001 => if x7 < (x0.length : Int) then (if x6 = true then (spec_l5Put.j1 k x0 x5 x6 x7 false x155000 x155001) else (if 0 ≤ x7 then ((spec_l5Less.f k ((rd_T37 x0 x7).f0) ((rd_T37 x0 x7).f1) x155000 x155001).bind fun t166 => (spec_l5Put.j1 k x0 x5 x6 x7 (!t166) x155000 x155001)) else (none))) else (if x6 = true then (some x5) else ((spec_l5Copy.f x155000 x155001).bind fun bt158 => (if x5.length < 4398046511104 then (some (x5 ++ [(⟨bt158.1, bt158.2⟩ : S37)])) else (none))))
def spec_l5Put.j1 : Nat → List (S37) → List (S37) → Bool → Int → Bool → Int → List Int → Option ((List (S37)))
 | 0, _, _, _, _, _, _, _ => none
 | k + 1, x0, x5, x6, x7, x25, x155000, x155001 => if x25 = true then (if 0 ≤ x7 then (if x7 < (x0.length : Int) then ((spec_l5Same.f k ((rd_T37 x0 x7).f0) ((rd_T37 x0 x7).f1) x155000 x155001).bind fun t168 => (if t168 = true then ((spec_l5Copy.f ((rd_T37 x0 x7).f0) ((rd_T37 x0 x7).f1)).bind fun bt170 => (if x5.length < 4398046511104 then (spec_l5Put.l0 k x0 (x5 ++ [(⟨bt170.1, bt170.2⟩ : S37)]) true (wrap64 (x7 + 1)) x155000 x155001) else (none))) else ((spec_l5Copy.f x155000 x155001).bind fun bt177 => (if x5.length < 4398046511104 then ((some (x5 ++ [(⟨bt177.1, bt177.2⟩ : S37)] : List (S37))).bind fun y181 => ((spec_l5Copy.f ((rd_T37 x0 x7).f0) ((rd_T37 x0 x7).f1)).bind fun bt185 => (if y181.length < 4398046511104 then (spec_l5Put.l0 k x0 (y181 ++ [(⟨bt185.1, bt185.2⟩ : S37)]) true (wrap64 (x7 + 1)) x155000 x155001) else (none)))) else (none))))) else (none)) else (none)) else (if 0 ≤ x7 then (if x7 < (x0.length : Int) then ((spec_l5Copy.f ((rd_T37 x0 x7).f0) ((rd_T37 x0 x7).f1)).bind fun bt193 => (if x5.length < 4398046511104 then (spec_l5Put.l0 k x0 (x5 ++ [(⟨bt193.1, bt193.2⟩ : S37)]) x6 (wrap64 (x7 + 1)) x155000 x155001) else (none))) else (none)) else (none))
end
def spec_l5Put.f (k : Nat) (l0 : List (S37)) (a1_0 : Int) (l1_1 : List Int) : Option ((List (S37))) := spec_l5Put.l0 k l0 (([] : List (S37))) false 0 a1_0 l1_1
theorem spec_l5Put.mono_l : ∀ k, (∀ y0 y1 y2 y3 y4 y5, LeO (spec_l5Put.l0 k y0 y1 y2 y3 y4 y5) (spec_l5Put.l0 (k + 1) y0 y1 y2 y3 y4 y5)) ∧ (∀ y0 y1 y2 y3 y4 y5 y6, LeO (spec_l5Put.j1 k y0 y1 y2 y3 y4 y5 y6) (spec_l5Put.j1 (k + 1) y0 y1 y2 y3 y4 y5 y6))
 | 0 => ⟨fun _ _ _ _ _ _ r h => by simp [spec_l5Put.l0] at h, fun _ _ _ _ _ _ _ r h => by simp [spec_l5Put.j1] at h⟩
 | k + 1 => by
  obtain ⟨ih0,ih1⟩:=spec_l5Put.mono_l k
  refine ⟨?_,?_⟩
  (intros;unfold spec_l5Put.l0;rotate_left)
  (intros;unfold spec_l5Put.j1;rotate_left)
  all_goals repeat' first
  | (with_reducible exact ih0 _ _ _ _ _ _)
  | (with_reducible exact ih1 _ _ _ _ _ _ _)
  | (with_reducible exact spec_l5Less.mono _ _ _ _ _)
  | (with_reducible exact spec_l5Same.mono _ _ _ _ _)
  | (with_reducible exact LeO.refl _)
  | (with_reducible exact LeO.none _)
  | (with_reducible refine LeO.ite ?_ ?_)
  | (with_reducible refine LeO.bind ?_ (fun _ => ?_))
  | exact ih0 _ _ _ _ _ _
  | exact ih1 _ _ _ _ _ _ _
  | exact LeO.none _
  | refine LeO.ite ?_ ?_
  | refine LeO.bind ?_ (fun _ => ?_)
theorem spec_l5Put.mono : ∀ a0 a1 a2 k, LeO (spec_l5Put.f k a0 a1 a2) (spec_l5Put.f (k + 1) a0 a1 a2) := by
 intro a0 a1 a2 k
 obtain ⟨ih0,ih1⟩:=spec_l5Put.mono_l k
 unfold spec_l5Put.f
 repeat' first
   | (with_reducible exact ih0 _ _ _ _ _ _)
   | (with_reducible exact ih1 _ _ _ _ _ _ _)
   | (with_reducible exact spec_l5Less.mono _ _ _ _ _)
   | (with_reducible exact spec_l5Same.mono _ _ _ _ _)
   | (with_reducible exact LeO.refl _)
   | (with_reducible exact LeO.none _)
   | (with_reducible refine LeO.ite ?_ ?_)
   | (with_reducible refine LeO.bind ?_ (fun _ => ?_))
   | exact ih0 _ _ _ _ _ _
   | exact ih1 _ _ _ _ _ _ _
   | exact LeO.none _
   | refine LeO.ite ?_ ?_
   | refine LeO.bind ?_ (fun _ => ?_)
def spec_l5Put.T6 : Bool × List (List Nat × List Nat) := (true, [([], []), ([0], [0]), ([1], [1]), ([2], [2]), ([2], [2]), ([3, 4, 2], [2, 3, 4]), ([5, 2], [2, 5]), ([2], [2]), ([6, 7, 2, 2], [2, 6, 7]), ([8, 2], [2, 8]), ([2, 9], [2, 9])])
def spec_l5Put.B6 : List Nat := [0, 1, 3, 7, 7, 31, 63, 7, 255, 511, 1023]
theorem spec_l5Put.tab6 : rtab .any (opsOf Try.f50 6) = spec_l5Put.T6 := by kernel_rfl
theorem spec_l5Put.bits6 : waitsOk spec_l5Put.T6.2 spec_l5Put.B6 = true := by kernel_rfl
set_option maxHeartbeats 8000000 in
set_option maxRecDepth 100000 in
theorem spec_l5Put.calls (k : Nat) (A0 : Option Addr) (c0 : Nat) (l0 : List (S37)) (a1_0 : Int) (A1_1 : Option Addr) (c1_1 : Nat) (l1_1 : List Int) (r : List (S37)) (w : World) (hr0 : Kd.C k37 w A0 l0.length l0) (hc0 : l0.length ≤ c0) (hr1_1 : Kd.C (Kd.int .i64) w A1_1 l1_1.length l1_1) (hc1_1 : l1_1.length ≤ c1_1) (h : spec_l5Put.f k l0 a1_0 l1_1 = some r) :
  Calls Try.prog 50 #[.slice A0 l0.length c0, .agg #[.int .i64 a1_0, .slice A1_1 l1_1.length c1_1]] w fun e w' => ∃ v0_ : Value, e = .returned (v0_) ∧ Kd.S k37 37 w' w.heap.size (fun _ => True) v0_ r ∧ Below w.heap.size w w' := by
 have hu37:=Try.underlying37;have HR0:=zA hr0;have HC0:=zA hc0;clear hr0 hc0;have HR1_1:=zA hr1_1;have HC1_1:=zA hc1_1;clear hr1_1 hc1_1;have HB:=zA (Below.refl w.heap.size w)
 have H : (spec_l5Put.l0 k l0 (([] : List (S37))) false 0 a1_0 l1_1) = some r:=h
 clear h;obtain ⟨y155,hy155⟩ : ∃ y_ : List (S37),y_ = (([] : List (S37))):=⟨_,rfl⟩
 replace H : (spec_l5Put.l0 k l0 y155 false 0 a1_0 l1_1) = some r:=by first|(rw [hy155];with_reducible exact H)|(have H2_:=(Option.bind_some _ _).symm.trans H;rw [hy155];with_reducible exact H2_)|(have H2_:=(Option.bind_some _ _).symm.trans H;with_reducible exact H2_)|with_reducible exact H|(rw [hy155];exact H)|exact H
 have Ny155:=zA hy155;clear hy155
 have H':=zA H
 clear H
 go_enter Try.func50,Try.ntmps50
 go_wp2_with (first|((with_reducible refine gate_dst (N:=3) rfl ?_);refine box_event ?hg (N:=3) ?hd (cs:=#[.int .i64 a1_0,.slice A1_1 l1_1.length c1_1]) (t:=37) ?hr ?_;(case hd => rfl);(case hg => rfl);(case hr => first|(go_simp;done)|(go_simp;rfl));intro gb154 hg w3 hbox hb;have BK154:=zA (hbox);have GW154:=zA ((by rw [hg];exact (zT (zz HB)) : w.heap.size ≤ gb154));have GE154:=zA ((by rw [hg];exact (zT (zz HB)) : w.heap.size ≤ gb154));replace HB:=zA (zJb (zz HB) hb);clear hb hbox hg)|((with_reducible refine gate_dst (N:=8) rfl ?_);refine Kd.S_lit k37 _ 37 ?hg (N:=8) ?hd (xs:=([] : List (S37))) (inner:=[]) (ok:=fun _ => True) (okp:=fun _ => True) ?hr ?hp (fun _ hk => hk) trivial (Below.refl _ _) (Nat.le_refl _) (by simp) ?_;(case hd => rfl);(case hg => rfl);(case hr => first|(go_simp;done)|(go_simp;rfl));(case hp => exact (Reps.none _ _));intro v156 w4 ho5 hb hg_ hnew_;clear hg_ hnew_;(first|rw [← Ny155.out] at ho5|(simp only [Int.reduceToNat] at ho5;rw [← Ny155.out] at ho5));have HO157:=zA (zIb (Kd.S_newB ho5 (g:=gb154) (o:=.cells #[.int .i64 a1_0,.slice A1_1 l1_1.length c1_1] 37 (0,0)) (zx BK154)) (zT (zz HB)));replace BK154:=zA (zQ (g:=gb154) (o:=.cells #[.int .i64 a1_0,.slice A1_1 l1_1.length c1_1] 37 (0,0)) (zx BK154) hb);replace HB:=zA (zJb (zz HB) hb);clear hb ho5))
 go_loopg [5,6,7] k (fun kq v5 v6 v7 w' => ∃ (x5_1 : List (S37)) (x6_1 : Bool) (x7_1 : Int),v6 = .bool x6_1 ∧ v7 = .int .i64 x7_1 ∧ Aside0 (spec_l5Put.l0 kq l0 x5_1 x6_1 x7_1 a1_0 l1_1 = some r) ∧ Aside0 (kq ≤ k) ∧ Aside0 (Kd.S k37 37 w' w.heap.size (fun k_ => k_ ≠ gb154) v5 x5_1) ∧ Aside0 (w'.heap[gb154]? = some (.cells #[.int .i64 a1_0,(.slice A1_1 l1_1.length c1_1)] 37 (0,0))) ∧ Aside0 (Below w.heap.size w w'))
 case atStart => exact ⟨(y155),(false),(0),za,za,H',⟨Nat.le_refl _⟩,⟨by (with_reducible repeat (first|apply zM|apply zL|apply zN));exact zS HO157.out (fun _ hk => hk.2)⟩,⟨zx BK154⟩,⟨zz HB⟩⟩
 case round =>
  clear H';(try clear c1);(try clear p2);(try clear c5);obtain ⟨x5_1,x6_1,x7_1,rfl,rfl,HA,HK1,HO_5,BK154,HB⟩:=hrel
  cases gk with
  | zero => exact absurd HA.out (by simp [spec_l5Put.l0])
  | succ k1 =>
   have H:=HA.out;clear HA;simp only [spec_l5Put.l0] at H
   by_cases c6 : x7_1 < (l0.length : Int)
   ·
    rw [if_pos c6] at H;have c6b0:=decide_eq_true c6;clear c6;have HC7:=zA H;clear H
    go_upto_region 6 with (fail)
    go_cut [25] (fun v25 wc => ∃ (kq : Nat) (x25_6 : Bool),v25 = .bool x25_6 ∧ Aside0 (spec_l5Put.j1 kq l0 x5_1 x6_1 x7_1 x25_6 a1_0 l1_1 = some r) ∧ Aside0 (kq ≤ k1) ∧ Aside0 (Kd.S k37 37 wc w.heap.size (fun k_ => k_ ≠ gb154) u5 x5_1) ∧ Aside0 (wc.heap[gb154]? = some (.cells #[.int .i64 a1_0,(.slice A1_1 l1_1.length c1_1)] 37 (0,0))) ∧ Aside0 (Below w.heap.size w wc))
    case first =>
     have H:=HC7.out;clear HC7
     by_cases c8 : x6_1 = true
     ·
      subst c8
      rw [if_pos rfl] at H
      have H':=zA H
      clear H
      try go_wp2
      have n0_:=zA (zN HO_5.out);have n1_:=zA (zI BK154.out);have n2_:=zA (zJ HB.out);clear HO_5;clear BK154;clear HB;have HO_5:=n0_;have BK154:=n1_;have HB:=n2_;clear n0_ n1_ n2_
      refine start_ (n:=11) (S:=fun w' => True) (ds:=[]) #[false,false,false,false,false,false,false,false,false,false,false] (by kernel_rfl) rfl rfl trivial (fun hHeld => ?_);refine with_tabW spec_l5Put.tab6 spec_l5Put.bits6 (fun HT_ HW_ => ?_)
      generalize wr.drew = w9 at HO_5 BK154 HB hHeld ⊢
      refine pure_ (i:=0) (N:=some 15) (v:=?_) (a':=?_) #[true,false,false,false,false,false,false,false,false,false,false] rfl rfl (any_of HT_.out (by kernel_rfl)) (fun _ _ _ h => h) (Or.inl ⟨by rfl,?_⟩) ?_ ?_
      rotate_left
      ·
       intro w'
       go_simp
       with_reducible rfl
      rotate_left
      ·
       simp only [Act.put,zO,zEb,zFb,i64_w,i32_w]
       rfl
      refine pure_ (i:=1) (N:=some 16) (v:=?_) (a':=?_) #[true,true,false,false,false,false,false,false,false,false,false] rfl rfl (any_of HT_.out (by kernel_rfl)) (fun _ _ _ h => h) (Or.inl ⟨by rfl,?_⟩) ?_ ?_
      rotate_left
      ·
       intro w'
       go_simp
       with_reducible rfl
      rotate_left
      ·
       simp only [Act.put,zO,zEb,zFb,i64_w,i32_w]
       rfl
      refine pure_ (i:=2) (N:=some 17) (v:=?_) (a':=?_) #[true,true,true,false,false,false,false,false,false,false,false] rfl rfl (any_of HT_.out (by kernel_rfl)) (fun _ _ _ h => h) (Or.inl ⟨by rfl,?_⟩) ?_ ?_
      rotate_left
      ·
       intro w'
       go_simp
       with_reducible rfl
      rotate_left
      ·
       simp only [Act.put,zO,zEb,zFb,i64_w,i32_w]
       rfl
      refine pure_ (i:=3) (N:=some 18) (v:=undef) (a':=?_) #[true,true,true,true,false,false,false,false,false,false,false] rfl rfl (any_of HT_.out (by kernel_rfl)) (fun _ _ _ h => h) (Or.inr ⟨by rfl,rfl⟩) ?_ ?_
      rotate_left
      ·
       simp only [Act.put,zO,zEb,zFb,i64_w,i32_w]
       rfl
      refine pure_ (i:=4) (N:=some 19) (v:=undef) (a':=?_) #[true,true,true,true,true,false,false,false,false,false,false] rfl rfl (any_of HT_.out (by kernel_rfl)) (fun _ _ _ h => h) (Or.inr ⟨by rfl,rfl⟩) ?_ ?_
      rotate_left
      ·
       simp only [Act.put,zO,zEb,zFb,i64_w,i32_w]
       rfl
      refine pure_ (i:=5) (N:=some 20) (v:=undef) (a':=?_) #[true,true,true,true,true,true,false,false,false,false,false] rfl rfl (any_of HT_.out (by kernel_rfl)) (fun _ _ _ h => h) (Or.inr ⟨by rfl,rfl⟩) ?_ ?_
      rotate_left
      ·
       simp only [Act.put,zO,zEb,zFb,i64_w,i32_w]
       rfl
      refine pure_ (i:=6) (N:=some 21) (v:=undef) (a':=?_) #[true,true,true,true,true,true,true,false,false,false,false] rfl rfl (any_of HT_.out (by kernel_rfl)) (fun _ _ _ h => h) (Or.inr ⟨by rfl,rfl⟩) ?_ ?_
      rotate_left
      ·
       simp only [Act.put,zO,zEb,zFb,i64_w,i32_w]
       rfl
      refine pure_ (i:=7) (N:=some 22) (v:=undef) (a':=?_) #[true,true,true,true,true,true,true,true,false,false,false] rfl rfl (any_of HT_.out (by kernel_rfl)) (fun _ _ _ h => h) (Or.inr ⟨by rfl,rfl⟩) ?_ ?_
      rotate_left
      ·
       simp only [Act.put,zO,zEb,zFb,i64_w,i32_w]
       rfl
      refine pure_ (i:=8) (N:=some 23) (v:=undef) (a':=?_) #[true,true,true,true,true,true,true,true,true,false,false] rfl rfl (any_of HT_.out (by kernel_rfl)) (fun _ _ _ h => h) (Or.inr ⟨by rfl,rfl⟩) ?_ ?_
      rotate_left
      ·
       simp only [Act.put,zO,zEb,zFb,i64_w,i32_w]
       rfl
      refine pure_ (i:=9) (N:=some 24) (v:=undef) (a':=?_) #[true,true,true,true,true,true,true,true,true,true,false] rfl rfl (any_of HT_.out (by kernel_rfl)) (fun _ _ _ h => h) (Or.inr ⟨by rfl,rfl⟩) ?_ ?_
      rotate_left
      ·
       simp only [Act.put,zO,zEb,zFb,i64_w,i32_w]
       rfl
      refine pure_ (i:=10) (N:=some 25) (v:=?_) (a':=?_) #[true,true,true,true,true,true,true,true,true,true,true] rfl rfl (any_of HT_.out (by kernel_rfl)) (fun _ _ _ h => h) (Or.inl ⟨by rfl,?_⟩) ?_ ?_
      rotate_left
      ·
       intro w'
       go_simp
       with_reducible rfl
      rotate_left
      ·
       simp only [Act.put,zO,zEb,zFb,i64_w,i32_w]
       rfl
      refine done_ (done_of HT_.out (by kernel_rfl)) ?_
      try go_wp2
      go_meet
      case rel => exact ⟨_,(false),za,H',⟨by have:=HK1.out;first|omega|exact Nat.le_refl _⟩,⟨zy HO_5⟩,⟨zx BK154⟩,⟨zz HB⟩⟩
     ·
      replace c8:=Bool.eq_false_iff.mpr c8
      subst c8
      have H1 : (if 0 ≤ x7_1 then ((spec_l5Less.f k1 ((rd_T37 l0 x7_1).f0) ((rd_T37 l0 x7_1).f1) a1_0 l1_1).bind fun t166 => (spec_l5Put.j1 k1 l0 x5_1 false x7_1 (!t166) a1_0 l1_1)) else (none)) = some r:=by rw [if_neg (show ¬ (false = true) by decide)] at H;exact H
      clear H;have H:=H1;clear H1
      by_cases c10 : 0 ≤ x7_1
      ·
       rw [if_pos c10] at H;have c10b0:=decide_eq_true c10;clear c10
       (first|rw [c10b0]|(simp only [i64_w,i32_w];rw [c10b0])|skip)
       replace H:=Option.bind_eq_some_iff.mp H;obtain ⟨t166,A110,H⟩:=H;(try dsimp only at H);have A11:=zA A110;clear A110
       have H':=zA H
       clear H
       try go_wp2
       have n0_:=zA (zN HO_5.out);have n1_:=zA (zI BK154.out);have n2_:=zA (zJ HB.out);clear HO_5;clear BK154;clear HB;have HO_5:=n0_;have BK154:=n1_;have HB:=n2_;clear n0_ n1_ n2_;have p165 : 0 ≤ (x7_1 : Int):=zXb ze;have q165 : x7_1 < (l0.length : Int):=zXb ze;obtain ⟨ad165,A165_1,c165_1,e165,hx165_0,hx165_1,hl165_1,hi165_1⟩:=at_T37 HR0.out x7_1 p165 q165;have hw165_1:=hx165_1;have hw165_0:=hx165_0
       cases e165
       replace hx165_0:=(HB.out.cell (World.block_lt_of_cell? w _ hx165_0)).trans hx165_0;replace hx165_1:=(HB.out.cell (World.block_lt_of_cell? w _ hx165_1)).trans hx165_1;have HR165_1:=zA hi165_1;have HC165_1:=zA hl165_1;clear hi165_1 hl165_1;replace p165:=eq_true p165;replace q165:=eq_true q165
       refine start_ (n:=11) (S:=fun w' => w'.cell? ⟨gb154,0,none⟩ = some (.int .i64 a1_0) ∧ w'.cell? ⟨gb154,1,none⟩ = some (.slice A1_1 l1_1.length c1_1) ∧ w'.cell? (ad165.add ((x7_1).toNat * 2)) = some (.int .i64 ((rd_T37 l0 x7_1).f0)) ∧ w'.cell? ⟨(ad165.add ((x7_1).toNat * 2)).block,(ad165.add ((x7_1).toNat * 2)).off + 1,none⟩ = some (.slice A165_1 ((rd_T37 l0 x7_1).f1).length c165_1)) (ds:=[]) #[false,false,false,false,false,false,false,false,false,false,false] (by kernel_rfl) rfl rfl ⟨(zP BK154.out 0).trans rfl,(zP BK154.out 1).trans rfl,((HB.out.cell (World.block_lt_of_cell? w _ hw165_0)).trans hw165_0),((HB.out.cell (World.block_lt_of_cell? w _ hw165_1)).trans hw165_1)⟩ (fun hHeld => ?_);refine with_tabW spec_l5Put.tab6 spec_l5Put.bits6 (fun HT_ HW_ => ?_)
       generalize wr.drew = w12 at HO_5 BK154 HB HR165_1 hx165_0 hx165_1 hHeld ⊢
       refine pure_ (i:=0) (N:=some 15) (v:=?_) (a':=?_) #[true,false,false,false,false,false,false,false,false,false,false] rfl rfl (any_of HT_.out (by kernel_rfl)) (fun _ _ _ h => h) (Or.inl ⟨by rfl,?_⟩) ?_ ?_
       rotate_left
       ·
        intro w'
        go_simp
        with_reducible rfl
       rotate_left
       ·
        simp only [Act.put,zO,zEb,zFb,i64_w,i32_w]
        rfl
       refine pure_ (i:=1) (N:=some 16) (v:=?_) (a':=?_) #[true,true,false,false,false,false,false,false,false,false,false] rfl rfl (any_of HT_.out (by kernel_rfl)) (fun _ _ _ h => h) (Or.inl ⟨by rfl,?_⟩) ?_ ?_
       rotate_left
       ·
        intro w'
        go_simp
        with_reducible rfl
       rotate_left
       ·
        simp only [Act.put,zO,zEb,zFb,i64_w,i32_w]
        rfl
       refine pure_ (i:=2) (N:=some 17) (v:=?_) (a':=?_) #[true,true,true,false,false,false,false,false,false,false,false] rfl rfl (any_of HT_.out (by kernel_rfl)) (fun _ _ _ h => h) (Or.inl ⟨by rfl,?_⟩) ?_ ?_
       rotate_left
       ·
        intro w'
        go_simp
        with_reducible rfl
       rotate_left
       ·
        simp only [Act.put,zO,zEb,zFb,i64_w,i32_w]
        rfl
       refine pure_ (i:=3) (N:=some 18) (v:=?_) (a':=?_) #[true,true,true,true,false,false,false,false,false,false,false] rfl rfl (any_of HT_.out (by kernel_rfl)) (fun _ _ _ h => h) (Or.inl ⟨by rfl,?_⟩) ?_ ?_
       rotate_left
       ·
        intro w'
        go_simp
        with_reducible rfl
       rotate_left
       ·
        simp only [Act.put,zO,zEb,zFb,i64_w,i32_w]
        rfl
       refine pure_ (i:=4) (N:=some 19) (v:=?_) (a':=?_) #[true,true,true,true,true,false,false,false,false,false,false] rfl rfl (any_of HT_.out (by kernel_rfl)) (fun _ _ _ h => h) (Or.inl ⟨by rfl,?_⟩) ?_ ?_
       rotate_left
       ·
        intro w'
        go_simp
        with_reducible rfl
       rotate_left
       ·
        simp only [Act.put,zO,zEb,zFb,i64_w,i32_w]
        rfl
       refine pure_ (i:=5) (N:=some 20) (v:=?_) (a':=?_) #[true,true,true,true,true,true,false,false,false,false,false] rfl rfl (any_of HT_.out (by kernel_rfl)) (fun _ _ _ h => h) (Or.inl ⟨by rfl,?_⟩) ?_ ?_
       rotate_left
       ·
        intro w'
        go_simp
        with_reducible rfl
       rotate_left
       ·
        simp only [Act.put,zO,zEb,zFb,i64_w,i32_w]
        rfl
       refine take_ (i:=6) (N:=some 21) (v:=?_) (a':=?_) #[true,true,true,true,true,true,true,false,false,false,false] rfl rfl (take_ofW HT_.out HW_.out (by kernel_rfl)) (fun _ _ _ h => h) (Or.inl ⟨by rfl,?_⟩) hHeld ?_ ?_
       rotate_left
       ·
        rintro w' ⟨s0,s1,s2,s3⟩
        go_simp
        with_reducible rfl
       rotate_left
       ·
        simp only [Act.put,zO,zEb,zFb,i64_w,i32_w]
        rfl
       refine take_ (i:=7) (N:=some 22) (v:=?_) (a':=?_) #[true,true,true,true,true,true,true,true,false,false,false] rfl rfl (take_ofW HT_.out HW_.out (by kernel_rfl)) (fun _ _ _ h => h) (Or.inl ⟨by rfl,?_⟩) hHeld ?_ ?_
       rotate_left
       ·
        rintro w' ⟨s0,s1,s2,s3⟩
        go_simp
        with_reducible rfl
       rotate_left
       ·
        simp only [Act.put,zO,zEb,zFb,i64_w,i32_w]
        rfl
       refine one_ (i:=8) (N:=some 23) #[true,true,true,true,true,true,true,true,true,false,false] rfl rfl (one_of HT_.out (by kernel_rfl)) (by decide) (fun K hK => ?_)
       refine goes_ Try.func60 (by kernel_rfl) rfl #[.agg #[.int .i64 ((rd_T37 l0 x7_1).f0),.slice A165_1 ((rd_T37 l0 x7_1).f1).length c165_1],.agg #[.int .i64 a1_0,.slice A1_1 l1_1.length c1_1]] (by rfl) rfl rfl (by (try simp only [zCb,zMb,zNb]);first|done|rfl|(simp only [zLb,zDb];rfl)) ?_
       with_reducible refine (spec_l5Less.calls k1 ((rd_T37 l0 x7_1).f0) _ _ ((rd_T37 l0 x7_1).f1) a1_0 _ _ l1_1 t166 _ ?side1 ?side2 ?side3 ?side4 A11.out).mono ?_
       (case side1 => repeat (first|exact (zKb HR165_1.out HB.out)|(with_reducible refine zBb ?_ _)|(with_reducible refine zAb ?_ _)|(with_reducible refine zX ?_)))
       (case side2 => exact HC165_1.out)
       (case side3 => repeat (first|exact (zKb HR1_1.out HB.out)|(with_reducible refine zBb ?_ _)|(with_reducible refine zAb ?_ _)|(with_reducible refine zX ?_)))
       (case side4 => exact HC1_1.out)
       rintro e w13 ⟨rfl,hb⟩
       refine ⟨_,rfl,?_⟩
       have n0_:=zA (zY (zy HO_5) hb);have n1_:=zA (zQ (g:=gb154) (o:=.cells #[.int .i64 a1_0,.slice A1_1 l1_1.length c1_1] 37 (0,0)) (zx BK154) hb);have n2_:=zA (zJb (zz HB) hb);clear HO_5;clear BK154;clear HB;have HO_5:=n0_;have BK154:=n1_;have HB:=n2_;clear n0_ n1_ n2_;(try clear hb);(try clear hb2);(try clear hk);(try clear hi)
       refine hK.out _ _ ⟨(zP BK154.out 0).trans rfl,(zP BK154.out 1).trans rfl,((HB.out.cell (World.block_lt_of_cell? w _ hw165_0)).trans hw165_0),((HB.out.cell (World.block_lt_of_cell? w _ hw165_1)).trans hw165_1)⟩ (fun hHeld => ?_)
       clear hK K
       refine norm_ (a':=?_) ?_ ?_
       rotate_left
       ·
        show Act.put _ (some 23) _ = _
        simp only [Act.put,zO,zEb,zFb,i64_w,i32_w]
        rfl
       refine pure_ (i:=9) (N:=some 24) (v:=?_) (a':=?_) #[true,true,true,true,true,true,true,true,true,true,false] rfl rfl (any_of HT_.out (by kernel_rfl)) (fun _ _ _ h => h) (Or.inl ⟨by rfl,?_⟩) ?_ ?_
       rotate_left
       ·
        intro w'
        go_simp
        with_reducible rfl
       rotate_left
       ·
        simp only [Act.put,zO,zEb,zFb,i64_w,i32_w]
        rfl
       refine pure_ (i:=10) (N:=some 25) (v:=?_) (a':=?_) #[true,true,true,true,true,true,true,true,true,true,true] rfl rfl (any_of HT_.out (by kernel_rfl)) (fun _ _ _ h => h) (Or.inl ⟨by rfl,?_⟩) ?_ ?_
       rotate_left
       ·
        intro w'
        go_simp
        with_reducible rfl
       rotate_left
       ·
        simp only [Act.put,zO,zEb,zFb,i64_w,i32_w]
        rfl
       refine done_ (done_of HT_.out (by kernel_rfl)) ?_
       try go_wp2
       go_meet
       case rel => exact ⟨_,(!t166),za,H',⟨by have:=HK1.out;first|omega|exact Nat.le_refl _⟩,⟨zy HO_5⟩,⟨zx BK154⟩,⟨zz HB⟩⟩
      ·
       rw [if_neg c10] at H
       exact absurd H (by simp)
    case rest =>
     clear HC7;(try clear c1);(try clear p1);(try clear q1);(try clear hx1);(try clear p2);(try clear c5);(try clear c6);(try clear c6b0);(try clear c8);(try clear c10);(try clear c10b0);(try clear hx165_0);(try clear hx165_1);(try clear p165);(try clear p2);(try clear q165);obtain ⟨kq,x25_6,rfl,HA,HJ6,HO_5,BK154,HB⟩:=hcut
     cases kq with
     | zero => exact absurd HA.out (by simp [spec_l5Put.j1])
     | succ kj6 =>
      have H:=HA.out;clear HA;simp only [spec_l5Put.j1] at H
      by_cases c14 : x25_6 = true
      ·
       subst c14
       rw [if_pos rfl] at H
       by_cases c15 : 0 ≤ x7_1
       ·
        rw [if_pos c15] at H;have c15b0:=decide_eq_true c15;clear c15
        by_cases c16 : x7_1 < (l0.length : Int)
        ·
         rw [if_pos c16] at H;have c16b0:=decide_eq_true c16;clear c16;replace H:=Option.bind_eq_some_iff.mp H;obtain ⟨t168,A170,H⟩:=H;(try dsimp only at H);have A17:=zA A170;clear A170
         by_cases c18 : t168 = true
         ·
          subst c18
          rw [if_pos rfl] at H;replace H:=Option.bind_eq_some_iff.mp H;obtain ⟨⟨t170,t171⟩,A190,H⟩:=H;(try dsimp only at H);have A19:=zA A190;clear A190
          by_cases c20 : x5_1.length < 4398046511104
          ·
           rw [if_pos c20] at H;have LMc20:=zA c20;clear c20;obtain ⟨y174,hy174⟩ : ∃ y_ : List (S37),y_ = (x5_1 ++ [(⟨t170,t171⟩ : S37)]):=⟨_,rfl⟩
           replace H : (spec_l5Put.l0 kj6 l0 y174 true (wrap64 (x7_1 + 1)) a1_0 l1_1) = some r:=by first|(rw [hy174];with_reducible exact H)|(have H2_:=(Option.bind_some _ _).symm.trans H;rw [hy174];with_reducible exact H2_)|(have H2_:=(Option.bind_some _ _).symm.trans H;with_reducible exact H2_)|with_reducible exact H|(rw [hy174];exact H)|exact H
           have Ny174:=zA hy174;clear hy174
           have H':=zA H
           clear H
           try go_wp2
           have n0_:=zA (zN HO_5.out);have n1_:=zA (zI BK154.out);have n2_:=zA (zJ HB.out);clear HO_5;clear BK154;clear HB;have HO_5:=n0_;have BK154:=n1_;have HB:=n2_;clear n0_ n1_ n2_;have p167 : 0 ≤ (x7_1 : Int):=zXb ze;have q167 : x7_1 < (l0.length : Int):=zXb ze;obtain ⟨ad167,A167_1,c167_1,e167,hx167_0,hx167_1,hl167_1,hi167_1⟩:=at_T37 HR0.out x7_1 p167 q167;have hw167_1:=hx167_1;have hw167_0:=hx167_0
           cases e167
           replace hx167_0:=(HB.out.cell (World.block_lt_of_cell? w _ hx167_0)).trans hx167_0;replace hx167_1:=(HB.out.cell (World.block_lt_of_cell? w _ hx167_1)).trans hx167_1;have HR167_1:=zA hi167_1;have HC167_1:=zA hl167_1;clear hi167_1 hl167_1;replace p167:=eq_true p167;replace q167:=eq_true q167
           refine start_ (n:=7) (S:=fun w' => w'.cell? ⟨gb154,0,none⟩ = some (.int .i64 a1_0) ∧ w'.cell? ⟨gb154,1,none⟩ = some (.slice A1_1 l1_1.length c1_1) ∧ w'.cell? (ad167.add ((x7_1).toNat * 2)) = some (.int .i64 ((rd_T37 l0 x7_1).f0)) ∧ w'.cell? ⟨(ad167.add ((x7_1).toNat * 2)).block,(ad167.add ((x7_1).toNat * 2)).off + 1,none⟩ = some (.slice A167_1 ((rd_T37 l0 x7_1).f1).length c167_1)) (ds:=[]) #[false,false,false,false,false,false,false] (by kernel_rfl) rfl rfl ⟨(zP BK154.out 0).trans rfl,(zP BK154.out 1).trans rfl,((HB.out.cell (World.block_lt_of_cell? w _ hw167_0)).trans hw167_0),((HB.out.cell (World.block_lt_of_cell? w _ hw167_1)).trans hw167_1)⟩ (fun hHeld => ?_)
           generalize wc.drew = w21 at HO_5 BK154 HB HR167_1 hx167_0 hx167_1 hHeld ⊢
           refine pure_ (i:=0) (N:=some 26) (v:=?_) (a':=?_) #[true,false,false,false,false,false,false] rfl rfl (by kernel_rfl) (fun _ _ _ h => h) (Or.inl ⟨by rfl,?_⟩) ?_ ?_
           rotate_left
           ·
            intro w'
            go_simp
            with_reducible rfl
           rotate_left
           ·
            simp only [Act.put,zO,zEb,zFb,i64_w,i32_w]
            rfl
           refine pure_ (i:=1) (N:=some 27) (v:=?_) (a':=?_) #[true,true,false,false,false,false,false] rfl rfl (by kernel_rfl) (fun _ _ _ h => h) (Or.inl ⟨by rfl,?_⟩) ?_ ?_
           rotate_left
           ·
            intro w'
            go_simp
            with_reducible rfl
           rotate_left
           ·
            simp only [Act.put,zO,zEb,zFb,i64_w,i32_w]
            rfl
           refine pure_ (i:=2) (N:=some 28) (v:=?_) (a':=?_) #[true,true,true,false,false,false,false] rfl rfl (by kernel_rfl) (fun _ _ _ h => h) (Or.inl ⟨by rfl,?_⟩) ?_ ?_
           rotate_left
           ·
            intro w'
            go_simp
            with_reducible rfl
           rotate_left
           ·
            simp only [Act.put,zO,zEb,zFb,i64_w,i32_w]
            rfl
           refine take_ (i:=3) (N:=some 29) (v:=?_) (a':=?_) #[true,true,true,true,false,false,false] rfl rfl (by kernel_rfl) (fun _ _ _ h => h) (Or.inl ⟨by rfl,?_⟩) hHeld ?_ ?_
           rotate_left
           ·
            rintro w' ⟨s0,s1,s2,s3⟩
            go_simp
            with_reducible rfl
           rotate_left
           ·
            simp only [Act.put,zO,zEb,zFb,i64_w,i32_w]
            rfl
           refine take_ (i:=4) (N:=some 30) (v:=?_) (a':=?_) #[true,true,true,true,true,false,false] rfl rfl (by kernel_rfl) (fun _ _ _ h => h) (Or.inl ⟨by rfl,?_⟩) hHeld ?_ ?_
           rotate_left
           ·
            rintro w' ⟨s0,s1,s2,s3⟩
            go_simp
            with_reducible rfl
           rotate_left
           ·
            simp only [Act.put,zO,zEb,zFb,i64_w,i32_w]
            rfl
           refine one_ (i:=5) (N:=some 31) #[true,true,true,true,true,true,false] rfl rfl (by kernel_rfl) (by decide) (fun K hK => ?_)
           refine goes_ Try.func58 (by kernel_rfl) rfl #[.agg #[.int .i64 ((rd_T37 l0 x7_1).f0),.slice A167_1 ((rd_T37 l0 x7_1).f1).length c167_1],.agg #[.int .i64 a1_0,.slice A1_1 l1_1.length c1_1]] (by rfl) rfl rfl (by (try simp only [zCb,zMb,zNb]);first|done|rfl|(simp only [zLb,zDb];rfl)) ?_
           with_reducible refine (spec_l5Same.calls kj6 ((rd_T37 l0 x7_1).f0) _ _ ((rd_T37 l0 x7_1).f1) a1_0 _ _ l1_1 true _ ?side1 ?side2 ?side3 ?side4 A17.out).mono ?_
           (case side1 => repeat (first|exact (zKb HR167_1.out HB.out)|(with_reducible refine zBb ?_ _)|(with_reducible refine zAb ?_ _)|(with_reducible refine zX ?_)))
           (case side2 => exact HC167_1.out)
           (case side3 => repeat (first|exact (zKb HR1_1.out HB.out)|(with_reducible refine zBb ?_ _)|(with_reducible refine zAb ?_ _)|(with_reducible refine zX ?_)))
           (case side4 => exact HC1_1.out)
           rintro e w22 ⟨rfl,hb⟩
           refine ⟨_,rfl,?_⟩
           have n0_:=zA (zY (zy HO_5) hb);have n1_:=zA (zQ (g:=gb154) (o:=.cells #[.int .i64 a1_0,.slice A1_1 l1_1.length c1_1] 37 (0,0)) (zx BK154) hb);have n2_:=zA (zJb (zz HB) hb);clear HO_5;clear BK154;clear HB;have HO_5:=n0_;have BK154:=n1_;have HB:=n2_;clear n0_ n1_ n2_;(try clear hb);(try clear hb2);(try clear hk);(try clear hi)
           refine hK.out _ _ ⟨(zP BK154.out 0).trans rfl,(zP BK154.out 1).trans rfl,((HB.out.cell (World.block_lt_of_cell? w _ hw167_0)).trans hw167_0),((HB.out.cell (World.block_lt_of_cell? w _ hw167_1)).trans hw167_1)⟩ (fun hHeld => ?_)
           clear hK K
           refine norm_ (a':=?_) ?_ ?_
           rotate_left
           ·
            show Act.put _ (some 31) _ = _
            simp only [Act.put,zO,zEb,zFb,i64_w,i32_w]
            rfl
           refine pure_ (i:=6) (N:=some 32) (v:=?_) (a':=?_) #[true,true,true,true,true,true,true] rfl rfl (by kernel_rfl) (fun _ _ _ h => h) (Or.inl ⟨by rfl,?_⟩) ?_ ?_
           rotate_left
           ·
            intro w'
            go_simp
            with_reducible rfl
           rotate_left
           ·
            simp only [Act.put,zO,zEb,zFb,i64_w,i32_w]
            rfl
           refine done_ (by kernel_rfl) ?_
           have p169 : 0 ≤ (x7_1 : Int):=zXb ze;have q169 : x7_1 < (l0.length : Int):=zXb ze;obtain ⟨ad169,A169_1,c169_1,e169,hx169_0,hx169_1,hl169_1,hi169_1⟩:=at_T37 HR0.out x7_1 p169 q169
           obtain rfl : ad167 = ad169:=(by injection e169)
           obtain ⟨rfl,rfl⟩ : A167_1 = A169_1 ∧ c167_1 = c169_1:=by
            have h_:=Option.some.inj (hw167_1.symm.trans hx169_1)
            injection h_ with h1_ h2_ h3_
            exact ⟨h1_,h3_⟩
           replace hx169_0:=(HB.out.cell (World.block_lt_of_cell? w _ hx169_0)).trans hx169_0;replace hx169_1:=(HB.out.cell (World.block_lt_of_cell? w _ hx169_1)).trans hx169_1;have HR169_1:=zA hi169_1;have HC169_1:=zA hl169_1;clear hi169_1 hl169_1;replace p169:=eq_true p169;replace q169:=eq_true q169
           try go_wp2_with (first|((with_reducible refine gate_callee (f:=64) rfl ?_);refine goesL_ (some 43) rfl rfl Try.func64 (by kernel_rfl) rfl #[.agg #[.int .i64 ((rd_T37 l0 x7_1).f0),.slice A167_1 ((rd_T37 l0 x7_1).f1).length c167_1]] rfl (by (try simp only [zCb,zMb,zNb]);first|done|rfl|(simp only [zLb,zDb];rfl)) ?_;(with_reducible refine (spec_l5Copy.calls ((rd_T37 l0 x7_1).f0) _ _ ((rd_T37 l0 x7_1).f1) t170 t171 _ ?side1 ?side2 A19.out).mono ?_);(case side1 => repeat (first|exact (zKb HR169_1.out HB.out)|(with_reducible refine zBb ?_ _)|(with_reducible refine zAb ?_ _)|(with_reducible refine zX ?_)));(case side2 => exact HC169_1.out);rintro e w23 ⟨v172,rfl,ho0,hb⟩;refine ⟨_,rfl,?_⟩;replace HO_5:=zA (zSb (zy HO_5) (zW ho0) hb);have HO173:=zA (zHb ho0 (zT (zz HB)));replace BK154:=zA (zQ (g:=gb154) (o:=.cells #[.int .i64 a1_0,.slice A1_1 l1_1.length c1_1] 37 (0,0)) (zx BK154) hb);replace HB:=zA (zJb (zz HB) hb);(try clear hb);(try clear hb2);(try clear hk);(try clear hi);(try clear ho0);obtain ⟨Ao25,co25,eo25⟩:=Kd.R_slice HO173.out;subst eo25)|((with_reducible refine gate_builtin (b:=.append) (xs:=#[.tmp 38,.tmp 44]) rfl ?_);at_builtin;refine Kd.S_append k37 (w0:=w) w.heap.size rfl (.tmp 38) (.tmp 44) 31 37 (.agg #[(.int .i64 0),(.slice none 0 0)]) 32 rfl Try.underlying31 info37 rfl (by decide) (by omega) u5 x5_1 (⟨t170,t171⟩ : S37) [.int .i64 t170,.slice Ao25 t171.length co25] (fun k_ => k_ ≠ gb154) (fun k_ => some k_ = (.slice Ao25 t171.length co25 : Value).ownBlock) rfl rfl ?aP (fun k_ hk_ => ((zGb (ok':=fun k_ => ((fun k_ => k_ ≠ gb154)) k_ ∧ some k_ ≠ (u5 : Value).ownBlock) (Kd.R_types (Kd.R_apart' (HO173.out) (Kd.S_typed HO_5.out) (by decide)) BK154.out (by decide)) (fun k_ hk => ⟨hk.2,hk.1.2⟩))).1 k_ hk_.symm) ?aF ?aO ?aB ?aS ?aL ?_;(case aP => exact k37_mkM _ _ _ (⟨t170,t171⟩ : S37) (zGb (Kd.R_tight rfl (zGb (ok':=fun k_ => ((fun k_ => k_ ≠ gb154)) k_ ∧ some k_ ≠ (u5 : Value).ownBlock) (Kd.R_types (Kd.R_apart' (HO173.out) (Kd.S_typed HO_5.out) (by decide)) BK154.out (by decide)) (fun k_ hk => ⟨hk.2,hk.1.2⟩))) (fun _ h_ => h_)));(case aB => exact (zz HB));(case aF => exact (fun k_ hk => Kd.freshB (g:=gb154) (o:=.cells #[.int .i64 a1_0,.slice A1_1 l1_1.length c1_1] 37 (0,0)) (zx BK154) k_ hk));(case aO => exact (by (with_reducible repeat (first|apply zM|apply zL|apply zN));exact zS HO_5.out (fun k_ hk => ⟨hk.1,fun e_ => hk.2 e_⟩)));(case aS => exact (zT (zz HB)));(case aL => have:=LMc20.out;omega);intro v175 w24 ho hb hg hat;rw [← Ny174.out] at ho;replace BK154:=zA (blk_grown (g:=gb154) (o:=.cells #[.int .i64 a1_0,.slice A1_1 l1_1.length c1_1] 37 (0,0)) (zx BK154) hg (Kd.S_away HO_5.out (fun _ hk => hk.1)));replace HB:=zA (hb);have HO176:=zA (ho);clear HO_5 HO173;clear ho hb hg hat))
           go_roundg kj6
           case measure => have:=HK1.out;have:=HJ6.out;omega
           case rel => exact ⟨(y174),(true),(wrap64 (x7_1 + 1)),za,za,H',⟨by have:=HK1.out;have:=HJ6.out;omega⟩,⟨zy HO176⟩,⟨zx BK154⟩,⟨zz HB⟩⟩
          ·
           rw [if_neg c20] at H
           exact absurd H (by simp)
         ·
          replace c18:=Bool.eq_false_iff.mpr c18
          subst c18
          have H1 : ((spec_l5Copy.f a1_0 l1_1).bind fun bt177 => (if x5_1.length < 4398046511104 then ((some (x5_1 ++ [(⟨bt177.1,bt177.2⟩ : S37)] : List (S37))).bind fun y181 => ((spec_l5Copy.f ((rd_T37 l0 x7_1).f0) ((rd_T37 l0 x7_1).f1)).bind fun bt185 => (if y181.length < 4398046511104 then (spec_l5Put.l0 kj6 l0 (y181 ++ [(⟨bt185.1,bt185.2⟩ : S37)]) true (wrap64 (x7_1 + 1)) a1_0 l1_1) else (none)))) else (none))) = some r:=by rw [if_neg (show ¬ (false = true) by decide)] at H;exact H
          clear H;have H:=H1;clear H1;replace H:=Option.bind_eq_some_iff.mp H;obtain ⟨⟨t177,t178⟩,A260,H⟩:=H;(try dsimp only at H);have A26:=zA A260;clear A260
          by_cases c27 : x5_1.length < 4398046511104
          ·
           rw [if_pos c27] at H;have LMc27:=zA c27;clear c27;obtain ⟨y181,hy181⟩ : ∃ y_ : List (S37),y_ = (x5_1 ++ [(⟨t177,t178⟩ : S37)]):=⟨_,rfl⟩
           replace H : ((spec_l5Copy.f ((rd_T37 l0 x7_1).f0) ((rd_T37 l0 x7_1).f1)).bind fun bt185 => (if y181.length < 4398046511104 then (spec_l5Put.l0 kj6 l0 (y181 ++ [(⟨bt185.1,bt185.2⟩ : S37)]) true (wrap64 (x7_1 + 1)) a1_0 l1_1) else (none))) = some r:=by first|(rw [hy181];with_reducible exact H)|(have H2_:=(Option.bind_some _ _).symm.trans H;rw [hy181];with_reducible exact H2_)|(have H2_:=(Option.bind_some _ _).symm.trans H;with_reducible exact H2_)|with_reducible exact H|(rw [hy181];exact H)|exact H
           have Ny181:=zA hy181;clear hy181;replace H:=Option.bind_eq_some_iff.mp H;obtain ⟨⟨t185,t186⟩,A280,H⟩:=H;(try dsimp only at H);have A28:=zA A280;clear A280
           by_cases c29 : y181.length < 4398046511104
           ·
            rw [if_pos c29] at H;have LMc29:=zA c29;clear c29;obtain ⟨y189,hy189⟩ : ∃ y_ : List (S37),y_ = (y181 ++ [(⟨t185,t186⟩ : S37)]):=⟨_,rfl⟩
            replace H : (spec_l5Put.l0 kj6 l0 y189 true (wrap64 (x7_1 + 1)) a1_0 l1_1) = some r:=by first|(rw [hy189];with_reducible exact H)|(have H2_:=(Option.bind_some _ _).symm.trans H;rw [hy189];with_reducible exact H2_)|(have H2_:=(Option.bind_some _ _).symm.trans H;with_reducible exact H2_)|with_reducible exact H|(rw [hy189];exact H)|exact H
            have Ny189:=zA hy189;clear hy189
            have H':=zA H
            clear H
            try go_wp2
            have n0_:=zA (zN HO_5.out);have n1_:=zA (zI BK154.out);have n2_:=zA (zJ HB.out);clear HO_5;clear BK154;clear HB;have HO_5:=n0_;have BK154:=n1_;have HB:=n2_;clear n0_ n1_ n2_;have p167 : 0 ≤ (x7_1 : Int):=zXb ze;have q167 : x7_1 < (l0.length : Int):=zXb ze;obtain ⟨ad167,A167_1,c167_1,e167,hx167_0,hx167_1,hl167_1,hi167_1⟩:=at_T37 HR0.out x7_1 p167 q167;have hw167_1:=hx167_1;have hw167_0:=hx167_0
            cases e167
            replace hx167_0:=(HB.out.cell (World.block_lt_of_cell? w _ hx167_0)).trans hx167_0;replace hx167_1:=(HB.out.cell (World.block_lt_of_cell? w _ hx167_1)).trans hx167_1;have HR167_1:=zA hi167_1;have HC167_1:=zA hl167_1;clear hi167_1 hl167_1;replace p167:=eq_true p167;replace q167:=eq_true q167
            refine start_ (n:=7) (S:=fun w' => w'.cell? ⟨gb154,0,none⟩ = some (.int .i64 a1_0) ∧ w'.cell? ⟨gb154,1,none⟩ = some (.slice A1_1 l1_1.length c1_1) ∧ w'.cell? (ad167.add ((x7_1).toNat * 2)) = some (.int .i64 ((rd_T37 l0 x7_1).f0)) ∧ w'.cell? ⟨(ad167.add ((x7_1).toNat * 2)).block,(ad167.add ((x7_1).toNat * 2)).off + 1,none⟩ = some (.slice A167_1 ((rd_T37 l0 x7_1).f1).length c167_1)) (ds:=[]) #[false,false,false,false,false,false,false] (by kernel_rfl) rfl rfl ⟨(zP BK154.out 0).trans rfl,(zP BK154.out 1).trans rfl,((HB.out.cell (World.block_lt_of_cell? w _ hw167_0)).trans hw167_0),((HB.out.cell (World.block_lt_of_cell? w _ hw167_1)).trans hw167_1)⟩ (fun hHeld => ?_)
            generalize wc.drew = w30 at HO_5 BK154 HB HR167_1 hx167_0 hx167_1 hHeld ⊢
            refine pure_ (i:=0) (N:=some 26) (v:=?_) (a':=?_) #[true,false,false,false,false,false,false] rfl rfl (by kernel_rfl) (fun _ _ _ h => h) (Or.inl ⟨by rfl,?_⟩) ?_ ?_
            rotate_left
            ·
             intro w'
             go_simp
             with_reducible rfl
            rotate_left
            ·
             simp only [Act.put,zO,zEb,zFb,i64_w,i32_w]
             rfl
            refine pure_ (i:=1) (N:=some 27) (v:=?_) (a':=?_) #[true,true,false,false,false,false,false] rfl rfl (by kernel_rfl) (fun _ _ _ h => h) (Or.inl ⟨by rfl,?_⟩) ?_ ?_
            rotate_left
            ·
             intro w'
             go_simp
             with_reducible rfl
            rotate_left
            ·
             simp only [Act.put,zO,zEb,zFb,i64_w,i32_w]
             rfl
            refine pure_ (i:=2) (N:=some 28) (v:=?_) (a':=?_) #[true,true,true,false,false,false,false] rfl rfl (by kernel_rfl) (fun _ _ _ h => h) (Or.inl ⟨by rfl,?_⟩) ?_ ?_
            rotate_left
            ·
             intro w'
             go_simp
             with_reducible rfl
            rotate_left
            ·
             simp only [Act.put,zO,zEb,zFb,i64_w,i32_w]
             rfl
            refine take_ (i:=3) (N:=some 29) (v:=?_) (a':=?_) #[true,true,true,true,false,false,false] rfl rfl (by kernel_rfl) (fun _ _ _ h => h) (Or.inl ⟨by rfl,?_⟩) hHeld ?_ ?_
            rotate_left
            ·
             rintro w' ⟨s0,s1,s2,s3⟩
             go_simp
             with_reducible rfl
            rotate_left
            ·
             simp only [Act.put,zO,zEb,zFb,i64_w,i32_w]
             rfl
            refine take_ (i:=4) (N:=some 30) (v:=?_) (a':=?_) #[true,true,true,true,true,false,false] rfl rfl (by kernel_rfl) (fun _ _ _ h => h) (Or.inl ⟨by rfl,?_⟩) hHeld ?_ ?_
            rotate_left
            ·
             rintro w' ⟨s0,s1,s2,s3⟩
             go_simp
             with_reducible rfl
            rotate_left
            ·
             simp only [Act.put,zO,zEb,zFb,i64_w,i32_w]
             rfl
            refine one_ (i:=5) (N:=some 31) #[true,true,true,true,true,true,false] rfl rfl (by kernel_rfl) (by decide) (fun K hK => ?_)
            refine goes_ Try.func58 (by kernel_rfl) rfl #[.agg #[.int .i64 ((rd_T37 l0 x7_1).f0),.slice A167_1 ((rd_T37 l0 x7_1).f1).length c167_1],.agg #[.int .i64 a1_0,.slice A1_1 l1_1.length c1_1]] (by rfl) rfl rfl (by (try simp only [zCb,zMb,zNb]);first|done|rfl|(simp only [zLb,zDb];rfl)) ?_
            with_reducible refine (spec_l5Same.calls kj6 ((rd_T37 l0 x7_1).f0) _ _ ((rd_T37 l0 x7_1).f1) a1_0 _ _ l1_1 false _ ?side1 ?side2 ?side3 ?side4 A17.out).mono ?_
            (case side1 => repeat (first|exact (zKb HR167_1.out HB.out)|(with_reducible refine zBb ?_ _)|(with_reducible refine zAb ?_ _)|(with_reducible refine zX ?_)))
            (case side2 => exact HC167_1.out)
            (case side3 => repeat (first|exact (zKb HR1_1.out HB.out)|(with_reducible refine zBb ?_ _)|(with_reducible refine zAb ?_ _)|(with_reducible refine zX ?_)))
            (case side4 => exact HC1_1.out)
            rintro e w31 ⟨rfl,hb⟩
            refine ⟨_,rfl,?_⟩
            have n0_:=zA (zY (zy HO_5) hb);have n1_:=zA (zQ (g:=gb154) (o:=.cells #[.int .i64 a1_0,.slice A1_1 l1_1.length c1_1] 37 (0,0)) (zx BK154) hb);have n2_:=zA (zJb (zz HB) hb);clear HO_5;clear BK154;clear HB;have HO_5:=n0_;have BK154:=n1_;have HB:=n2_;clear n0_ n1_ n2_;(try clear hb);(try clear hb2);(try clear hk);(try clear hi)
            refine hK.out _ _ ⟨(zP BK154.out 0).trans rfl,(zP BK154.out 1).trans rfl,((HB.out.cell (World.block_lt_of_cell? w _ hw167_0)).trans hw167_0),((HB.out.cell (World.block_lt_of_cell? w _ hw167_1)).trans hw167_1)⟩ (fun hHeld => ?_)
            clear hK K
            refine norm_ (a':=?_) ?_ ?_
            rotate_left
            ·
             show Act.put _ (some 31) _ = _
             simp only [Act.put,zO,zEb,zFb,i64_w,i32_w]
             rfl
            refine pure_ (i:=6) (N:=some 32) (v:=?_) (a':=?_) #[true,true,true,true,true,true,true] rfl rfl (by kernel_rfl) (fun _ _ _ h => h) (Or.inl ⟨by rfl,?_⟩) ?_ ?_
            rotate_left
            ·
             intro w'
             go_simp
             with_reducible rfl
            rotate_left
            ·
             simp only [Act.put,zO,zEb,zFb,i64_w,i32_w]
             rfl
            refine done_ (by kernel_rfl) ?_
            have hcz32_0:=zc (.int .i64 a1_0) BK154 0 rfl;have hcz32_1:=zc (.slice A1_1 l1_1.length c1_1) BK154 1 rfl;have hfz32_0:=blk_frozen BK154.out 0;have hfz32_1:=blk_frozen BK154.out 1
            try go_wp2_with (first|((with_reducible refine gate_callee (f:=64) rfl ?_);refine goesL_ (some 35) rfl rfl Try.func64 (by kernel_rfl) rfl #[.agg #[.int .i64 a1_0,.slice A1_1 l1_1.length c1_1]] rfl (by (try simp only [zCb,zMb,zNb]);first|done|rfl|(simp only [zLb,zDb];rfl)) ?_;(with_reducible refine (spec_l5Copy.calls a1_0 _ _ l1_1 t177 t178 _ ?side1 ?side2 A26.out).mono ?_);(case side1 => repeat (first|exact (zKb HR1_1.out HB.out)|(with_reducible refine zBb ?_ _)|(with_reducible refine zAb ?_ _)|(with_reducible refine zX ?_)));(case side2 => exact HC1_1.out);rintro e w33 ⟨v179,rfl,ho0,hb⟩;refine ⟨_,rfl,?_⟩;replace HO_5:=zA (zSb (zy HO_5) (zW ho0) hb);have HO180:=zA (zHb ho0 (zT (zz HB)));replace BK154:=zA (zQ (g:=gb154) (o:=.cells #[.int .i64 a1_0,.slice A1_1 l1_1.length c1_1] 37 (0,0)) (zx BK154) hb);replace HB:=zA (zJb (zz HB) hb);(try clear hb);(try clear hb2);(try clear hk);(try clear hi);(try clear ho0);obtain ⟨Ao35,co35,eo35⟩:=Kd.R_slice HO180.out;subst eo35)|((with_reducible refine gate_builtin (b:=.append) (xs:=#[.tmp 33,.tmp 36]) rfl ?_);at_builtin;refine Kd.S_append k37 (w0:=w) w.heap.size rfl (.tmp 33) (.tmp 36) 31 37 (.agg #[(.int .i64 0),(.slice none 0 0)]) 32 rfl Try.underlying31 info37 rfl (by decide) (by omega) u5 x5_1 (⟨t177,t178⟩ : S37) [.int .i64 t177,.slice Ao35 t178.length co35] (fun k_ => k_ ≠ gb154) (fun k_ => some k_ = (.slice Ao35 t178.length co35 : Value).ownBlock) rfl rfl ?aP (fun k_ hk_ => ((zGb (ok':=fun k_ => ((fun k_ => k_ ≠ gb154)) k_ ∧ some k_ ≠ (u5 : Value).ownBlock) (Kd.R_types (Kd.R_apart' (HO180.out) (Kd.S_typed HO_5.out) (by decide)) BK154.out (by decide)) (fun k_ hk => ⟨hk.2,hk.1.2⟩))).1 k_ hk_.symm) ?aF ?aO ?aB ?aS ?aL ?_;(case aP => exact k37_mkM _ _ _ (⟨t177,t178⟩ : S37) (zGb (Kd.R_tight rfl (zGb (ok':=fun k_ => ((fun k_ => k_ ≠ gb154)) k_ ∧ some k_ ≠ (u5 : Value).ownBlock) (Kd.R_types (Kd.R_apart' (HO180.out) (Kd.S_typed HO_5.out) (by decide)) BK154.out (by decide)) (fun k_ hk => ⟨hk.2,hk.1.2⟩))) (fun _ h_ => h_)));(case aB => exact (zz HB));(case aF => exact (fun k_ hk => Kd.freshB (g:=gb154) (o:=.cells #[.int .i64 a1_0,.slice A1_1 l1_1.length c1_1] 37 (0,0)) (zx BK154) k_ hk));(case aO => exact (by (with_reducible repeat (first|apply zM|apply zL|apply zN));exact zS HO_5.out (fun k_ hk => ⟨hk.1,fun e_ => hk.2 e_⟩)));(case aS => exact (zT (zz HB)));(case aL => have:=LMc27.out;omega);intro v182 w34 ho hb hg hat;rw [← Ny181.out] at ho;replace BK154:=zA (blk_grown (g:=gb154) (o:=.cells #[.int .i64 a1_0,.slice A1_1 l1_1.length c1_1] 37 (0,0)) (zx BK154) hg (Kd.S_away HO_5.out (fun _ hk => hk.1)));replace HB:=zA (hb);have HO183:=zA (ho);clear HO_5 HO180;clear ho hb hg hat;have p184 : 0 ≤ (x7_1 : Int):=zXb ze;have q184 : x7_1 < (l0.length : Int):=zXb ze;obtain ⟨ad184,A184_1,c184_1,e184,hx184_0,hx184_1,hl184_1,hi184_1⟩:=at_T37 HR0.out x7_1 p184 q184;obtain rfl : ad167 = ad184:=(by injection e184);replace hx184_0:=(HB.out.cell (World.block_lt_of_cell? w _ hx184_0)).trans hx184_0;replace hx184_1:=(HB.out.cell (World.block_lt_of_cell? w _ hx184_1)).trans hx184_1;have HR184_1:=zA hi184_1;have HC184_1:=zA hl184_1;clear hi184_1 hl184_1;replace p184:=eq_true p184;replace q184:=eq_true q184)|((with_reducible refine gate_callee (f:=64) rfl ?_);refine goesL_ (some 43) rfl rfl Try.func64 (by kernel_rfl) rfl #[.agg #[.int .i64 ((rd_T37 l0 x7_1).f0),.slice A184_1 ((rd_T37 l0 x7_1).f1).length c184_1]] rfl (by (try simp only [zCb,zMb,zNb]);first|done|rfl|(simp only [zLb,zDb];rfl)) ?_;(with_reducible refine (spec_l5Copy.calls ((rd_T37 l0 x7_1).f0) _ _ ((rd_T37 l0 x7_1).f1) t185 t186 _ ?side1 ?side2 A28.out).mono ?_);(case side1 => repeat (first|exact (zKb HR184_1.out HB.out)|(with_reducible refine zBb ?_ _)|(with_reducible refine zAb ?_ _)|(with_reducible refine zX ?_)));(case side2 => exact HC184_1.out);rintro e w36 ⟨v187,rfl,ho0,hb⟩;refine ⟨_,rfl,?_⟩;replace HO183:=zA (zSb (zy HO183) (zW ho0) hb);have HO188:=zA (zHb ho0 (zT (zz HB)));replace BK154:=zA (zQ (g:=gb154) (o:=.cells #[.int .i64 a1_0,.slice A1_1 l1_1.length c1_1] 37 (0,0)) (zx BK154) hb);replace HB:=zA (zJb (zz HB) hb);(try clear hb);(try clear hb2);(try clear hk);(try clear hi);(try clear ho0);obtain ⟨Ao38,co38,eo38⟩:=Kd.R_slice HO188.out;subst eo38)|((with_reducible refine gate_builtin (b:=.append) (xs:=#[.tmp 38,.tmp 44]) rfl ?_);at_builtin;refine Kd.S_append k37 (w0:=w) w.heap.size rfl (.tmp 38) (.tmp 44) 31 37 (.agg #[(.int .i64 0),(.slice none 0 0)]) 32 rfl Try.underlying31 info37 rfl (by decide) (by omega) v182 y181 (⟨t185,t186⟩ : S37) [.int .i64 t185,.slice Ao38 t186.length co38] (fun k_ => k_ ≠ gb154) (fun k_ => some k_ = (.slice Ao38 t186.length co38 : Value).ownBlock) rfl rfl ?aP (fun k_ hk_ => ((zGb (ok':=fun k_ => ((fun k_ => k_ ≠ gb154)) k_ ∧ some k_ ≠ (v182 : Value).ownBlock) (Kd.R_types (Kd.R_apart' (HO188.out) (Kd.S_typed HO183.out) (by decide)) BK154.out (by decide)) (fun k_ hk => ⟨hk.2,hk.1.2⟩))).1 k_ hk_.symm) ?aF ?aO ?aB ?aS ?aL ?_;(case aP => exact k37_mkM _ _ _ (⟨t185,t186⟩ : S37) (zGb (Kd.R_tight rfl (zGb (ok':=fun k_ => ((fun k_ => k_ ≠ gb154)) k_ ∧ some k_ ≠ (v182 : Value).ownBlock) (Kd.R_types (Kd.R_apart' (HO188.out) (Kd.S_typed HO183.out) (by decide)) BK154.out (by decide)) (fun k_ hk => ⟨hk.2,hk.1.2⟩))) (fun _ h_ => h_)));(case aB => exact (zz HB));(case aF => exact (fun k_ hk => Kd.freshB (g:=gb154) (o:=.cells #[.int .i64 a1_0,.slice A1_1 l1_1.length c1_1] 37 (0,0)) (zx BK154) k_ hk));(case aO => exact (by (with_reducible repeat (first|apply zM|apply zL|apply zN));exact zS HO183.out (fun k_ hk => ⟨hk.1,fun e_ => hk.2 e_⟩)));(case aS => exact (zT (zz HB)));(case aL => have:=LMc29.out;omega);intro v190 w37 ho hb hg hat;rw [← Ny189.out] at ho;replace BK154:=zA (blk_grown (g:=gb154) (o:=.cells #[.int .i64 a1_0,.slice A1_1 l1_1.length c1_1] 37 (0,0)) (zx BK154) hg (Kd.S_away HO183.out (fun _ hk => hk.1)));replace HB:=zA (hb);have HO191:=zA (ho);clear HO183 HO188;clear ho hb hg hat))
            go_roundg kj6
            case measure => have:=HK1.out;have:=HJ6.out;omega
            case rel => exact ⟨(y189),(true),(wrap64 (x7_1 + 1)),za,za,H',⟨by have:=HK1.out;have:=HJ6.out;omega⟩,⟨zy HO191⟩,⟨zx BK154⟩,⟨zz HB⟩⟩
           ·
            rw [if_neg c29] at H
            exact absurd H (by simp)
          ·
           rw [if_neg c27] at H
           exact absurd H (by simp)
        ·
         rw [if_neg c16] at H
         exact absurd H (by simp)
       ·
        rw [if_neg c15] at H
        exact absurd H (by simp)
      ·
       replace c14:=Bool.eq_false_iff.mpr c14
       subst c14
       have H1 : (if 0 ≤ x7_1 then (if x7_1 < (l0.length : Int) then ((spec_l5Copy.f ((rd_T37 l0 x7_1).f0) ((rd_T37 l0 x7_1).f1)).bind fun bt193 => (if x5_1.length < 4398046511104 then (spec_l5Put.l0 kj6 l0 (x5_1 ++ [(⟨bt193.1,bt193.2⟩ : S37)]) x6_1 (wrap64 (x7_1 + 1)) a1_0 l1_1) else (none))) else (none)) else (none)) = some r:=by rw [if_neg (show ¬ (false = true) by decide)] at H;exact H
       clear H;have H:=H1;clear H1
       by_cases c39 : 0 ≤ x7_1
       ·
        rw [if_pos c39] at H;have c39b0:=decide_eq_true c39;clear c39
        by_cases c40 : x7_1 < (l0.length : Int)
        ·
         rw [if_pos c40] at H;have c40b0:=decide_eq_true c40;clear c40;replace H:=Option.bind_eq_some_iff.mp H;obtain ⟨⟨t193,t194⟩,A410,H⟩:=H;(try dsimp only at H);have A41:=zA A410;clear A410
         by_cases c42 : x5_1.length < 4398046511104
         ·
          rw [if_pos c42] at H;have LMc42:=zA c42;clear c42;obtain ⟨y197,hy197⟩ : ∃ y_ : List (S37),y_ = (x5_1 ++ [(⟨t193,t194⟩ : S37)]):=⟨_,rfl⟩
          replace H : (spec_l5Put.l0 kj6 l0 y197 x6_1 (wrap64 (x7_1 + 1)) a1_0 l1_1) = some r:=by first|(rw [hy197];with_reducible exact H)|(have H2_:=(Option.bind_some _ _).symm.trans H;rw [hy197];with_reducible exact H2_)|(have H2_:=(Option.bind_some _ _).symm.trans H;with_reducible exact H2_)|with_reducible exact H|(rw [hy197];exact H)|exact H
          have Ny197:=zA hy197;clear hy197
          have H':=zA H
          clear H;have p192 : 0 ≤ (x7_1 : Int):=zXb ze;have q192 : x7_1 < (l0.length : Int):=zXb ze;obtain ⟨ad192,A192_1,c192_1,e192,hx192_0,hx192_1,hl192_1,hi192_1⟩:=at_T37 HR0.out x7_1 p192 q192
          cases e192
          replace hx192_0:=(HB.out.cell (World.block_lt_of_cell? w _ hx192_0)).trans hx192_0;replace hx192_1:=(HB.out.cell (World.block_lt_of_cell? w _ hx192_1)).trans hx192_1;have HR192_1:=zA hi192_1;have HC192_1:=zA hl192_1;clear hi192_1 hl192_1;replace p192:=eq_true p192;replace q192:=eq_true q192
          go_wp2_with (first|((with_reducible refine gate_callee (f:=64) rfl ?_);refine goesL_ (some 43) rfl rfl Try.func64 (by kernel_rfl) rfl #[.agg #[.int .i64 ((rd_T37 l0 x7_1).f0),.slice A192_1 ((rd_T37 l0 x7_1).f1).length c192_1]] rfl (by (try simp only [zCb,zMb,zNb]);first|done|rfl|(simp only [zLb,zDb];rfl)) ?_;(with_reducible refine (spec_l5Copy.calls ((rd_T37 l0 x7_1).f0) _ _ ((rd_T37 l0 x7_1).f1) t193 t194 _ ?side1 ?side2 A41.out).mono ?_);(case side1 => repeat (first|exact (zKb HR192_1.out HB.out)|(with_reducible refine zBb ?_ _)|(with_reducible refine zAb ?_ _)|(with_reducible refine zX ?_)));(case side2 => exact HC192_1.out);rintro e w43 ⟨v195,rfl,ho0,hb⟩;refine ⟨_,rfl,?_⟩;replace HO_5:=zA (zSb (zy HO_5) (zW ho0) hb);have HO196:=zA (zHb ho0 (zT (zz HB)));replace BK154:=zA (zQ (g:=gb154) (o:=.cells #[.int .i64 a1_0,.slice A1_1 l1_1.length c1_1] 37 (0,0)) (zx BK154) hb);replace HB:=zA (zJb (zz HB) hb);(try clear hb);(try clear hb2);(try clear hk);(try clear hi);(try clear ho0);obtain ⟨Ao45,co45,eo45⟩:=Kd.R_slice HO196.out;subst eo45)|((with_reducible refine gate_builtin (b:=.append) (xs:=#[.tmp 38,.tmp 44]) rfl ?_);at_builtin;refine Kd.S_append k37 (w0:=w) w.heap.size rfl (.tmp 38) (.tmp 44) 31 37 (.agg #[(.int .i64 0),(.slice none 0 0)]) 32 rfl Try.underlying31 info37 rfl (by decide) (by omega) u5 x5_1 (⟨t193,t194⟩ : S37) [.int .i64 t193,.slice Ao45 t194.length co45] (fun k_ => k_ ≠ gb154) (fun k_ => some k_ = (.slice Ao45 t194.length co45 : Value).ownBlock) rfl rfl ?aP (fun k_ hk_ => ((zGb (ok':=fun k_ => ((fun k_ => k_ ≠ gb154)) k_ ∧ some k_ ≠ (u5 : Value).ownBlock) (Kd.R_types (Kd.R_apart' (HO196.out) (Kd.S_typed HO_5.out) (by decide)) BK154.out (by decide)) (fun k_ hk => ⟨hk.2,hk.1.2⟩))).1 k_ hk_.symm) ?aF ?aO ?aB ?aS ?aL ?_;(case aP => exact k37_mkM _ _ _ (⟨t193,t194⟩ : S37) (zGb (Kd.R_tight rfl (zGb (ok':=fun k_ => ((fun k_ => k_ ≠ gb154)) k_ ∧ some k_ ≠ (u5 : Value).ownBlock) (Kd.R_types (Kd.R_apart' (HO196.out) (Kd.S_typed HO_5.out) (by decide)) BK154.out (by decide)) (fun k_ hk => ⟨hk.2,hk.1.2⟩))) (fun _ h_ => h_)));(case aB => exact (zz HB));(case aF => exact (fun k_ hk => Kd.freshB (g:=gb154) (o:=.cells #[.int .i64 a1_0,.slice A1_1 l1_1.length c1_1] 37 (0,0)) (zx BK154) k_ hk));(case aO => exact (by (with_reducible repeat (first|apply zM|apply zL|apply zN));exact zS HO_5.out (fun k_ hk => ⟨hk.1,fun e_ => hk.2 e_⟩)));(case aS => exact (zT (zz HB)));(case aL => have:=LMc42.out;omega);intro v198 w44 ho hb hg hat;rw [← Ny197.out] at ho;replace BK154:=zA (blk_grown (g:=gb154) (o:=.cells #[.int .i64 a1_0,.slice A1_1 l1_1.length c1_1] 37 (0,0)) (zx BK154) hg (Kd.S_away HO_5.out (fun _ hk => hk.1)));replace HB:=zA (hb);have HO199:=zA (ho);clear HO_5 HO196;clear ho hb hg hat))
          go_roundg kj6
          case measure => have:=HK1.out;have:=HJ6.out;omega
          case rel => exact ⟨(y197),(x6_1),(wrap64 (x7_1 + 1)),za,za,H',⟨by have:=HK1.out;have:=HJ6.out;omega⟩,⟨zy HO199⟩,⟨zx BK154⟩,⟨zz HB⟩⟩
         ·
          rw [if_neg c42] at H
          exact absurd H (by simp)
        ·
         rw [if_neg c40] at H
         exact absurd H (by simp)
       ·
        rw [if_neg c39] at H
        exact absurd H (by simp)
   ·
    rw [if_neg c6] at H;have c6b0:=decide_eq_false c6;clear c6
    by_cases c46 : x6_1 = true
    ·
     subst c46
     rw [if_pos rfl] at H
     obtain rfl:=Option.some.inj H
     go_wp2
     go_ret
     exact ⟨_,by first|rfl|(simp [errW_none,errW_some] <;> rfl)|(simp [*,errW_none,errW_some] <;> rfl),by (with_reducible repeat (first|apply zM|apply zL|apply zN));exact zS HO_5.out (fun _ hk => trivial),zz HB⟩
    ·
     replace c46:=Bool.eq_false_iff.mpr c46
     subst c46
     have H1 : ((spec_l5Copy.f a1_0 l1_1).bind fun bt158 => (if x5_1.length < 4398046511104 then (some (x5_1 ++ [(⟨bt158.1,bt158.2⟩ : S37)])) else (none))) = some r:=by rw [if_neg (show ¬ (false = true) by decide)] at H;exact H
     clear H;have H:=H1;clear H1;replace H:=Option.bind_eq_some_iff.mp H;obtain ⟨⟨t158,t159⟩,A470,H⟩:=H;(try dsimp only at H);have A47:=zA A470;clear A470
     by_cases c48 : x5_1.length < 4398046511104
     ·
      rw [if_pos c48] at H;have LMc48:=zA c48;clear c48;obtain ⟨y162,hy162⟩ : ∃ y_ : List (S37),y_ = (x5_1 ++ [(⟨t158,t159⟩ : S37)]):=⟨_,rfl⟩
      replace H : (some y162) = some r:=by first|(rw [hy162];with_reducible exact H)|(have H2_:=(Option.bind_some _ _).symm.trans H;rw [hy162];with_reducible exact H2_)|(have H2_:=(Option.bind_some _ _).symm.trans H;with_reducible exact H2_)|with_reducible exact H|(rw [hy162];exact H)|exact H
      have Ny162:=zA hy162;clear hy162
      obtain rfl:=Option.some.inj H
      have hcz49_0:=zc (.int .i64 a1_0) BK154 0 rfl;have hcz49_1:=zc (.slice A1_1 l1_1.length c1_1) BK154 1 rfl;have hfz49_0:=blk_frozen BK154.out 0;have hfz49_1:=blk_frozen BK154.out 1
      go_wp2_with (first|((with_reducible refine gate_callee (f:=64) rfl ?_);refine goesL_ (some 50) rfl rfl Try.func64 (by kernel_rfl) rfl #[.agg #[.int .i64 a1_0,.slice A1_1 l1_1.length c1_1]] rfl (by (try simp only [zCb,zMb,zNb]);first|done|rfl|(simp only [zLb,zDb];rfl)) ?_;(with_reducible refine (spec_l5Copy.calls a1_0 _ _ l1_1 t158 t159 _ ?side1 ?side2 A47.out).mono ?_);(case side1 => repeat (first|exact (zKb HR1_1.out HB.out)|(with_reducible refine zBb ?_ _)|(with_reducible refine zAb ?_ _)|(with_reducible refine zX ?_)));(case side2 => exact HC1_1.out);rintro e w50 ⟨v160,rfl,ho0,hb⟩;refine ⟨_,rfl,?_⟩;replace HO_5:=zA (zSb (zy HO_5) (zW ho0) hb);have HO161:=zA (zHb ho0 (zT (zz HB)));replace BK154:=zA (zQ (g:=gb154) (o:=.cells #[.int .i64 a1_0,.slice A1_1 l1_1.length c1_1] 37 (0,0)) (zx BK154) hb);replace HB:=zA (zJb (zz HB) hb);(try clear hb);(try clear hb2);(try clear hk);(try clear hi);(try clear ho0);obtain ⟨Ao52,co52,eo52⟩:=Kd.R_slice HO161.out;subst eo52)|((with_reducible refine gate_builtin (b:=.append) (xs:=#[.tmp 48,.tmp 51]) rfl ?_);at_builtin;refine Kd.S_append k37 (w0:=w) w.heap.size rfl (.tmp 48) (.tmp 51) 31 37 (.agg #[(.int .i64 0),(.slice none 0 0)]) 32 rfl Try.underlying31 info37 rfl (by decide) (by omega) u5 x5_1 (⟨t158,t159⟩ : S37) [.int .i64 t158,.slice Ao52 t159.length co52] (fun k_ => k_ ≠ gb154) (fun k_ => some k_ = (.slice Ao52 t159.length co52 : Value).ownBlock) rfl rfl ?aP (fun k_ hk_ => ((zGb (ok':=fun k_ => ((fun k_ => k_ ≠ gb154)) k_ ∧ some k_ ≠ (u5 : Value).ownBlock) (Kd.R_types (Kd.R_apart' (HO161.out) (Kd.S_typed HO_5.out) (by decide)) BK154.out (by decide)) (fun k_ hk => ⟨hk.2,hk.1.2⟩))).1 k_ hk_.symm) ?aF ?aO ?aB ?aS ?aL ?_;(case aP => exact k37_mkM _ _ _ (⟨t158,t159⟩ : S37) (zGb (Kd.R_tight rfl (zGb (ok':=fun k_ => ((fun k_ => k_ ≠ gb154)) k_ ∧ some k_ ≠ (u5 : Value).ownBlock) (Kd.R_types (Kd.R_apart' (HO161.out) (Kd.S_typed HO_5.out) (by decide)) BK154.out (by decide)) (fun k_ hk => ⟨hk.2,hk.1.2⟩))) (fun _ h_ => h_)));(case aB => exact (zz HB));(case aF => exact (fun k_ hk => Kd.freshB (g:=gb154) (o:=.cells #[.int .i64 a1_0,.slice A1_1 l1_1.length c1_1] 37 (0,0)) (zx BK154) k_ hk));(case aO => exact (by (with_reducible repeat (first|apply zM|apply zL|apply zN));exact zS HO_5.out (fun k_ hk => ⟨hk.1,fun e_ => hk.2 e_⟩)));(case aS => exact (zT (zz HB)));(case aL => have:=LMc48.out;omega);intro v163 w51 ho hb hg hat;rw [← Ny162.out] at ho;replace BK154:=zA (blk_grown (g:=gb154) (o:=.cells #[.int .i64 a1_0,.slice A1_1 l1_1.length c1_1] 37 (0,0)) (zx BK154) hg (Kd.S_away HO_5.out (fun _ hk => hk.1)));replace HB:=zA (hb);have HO164:=zA (ho);clear HO_5 HO161;clear ho hb hg hat))
      go_ret
      exact ⟨_,by first|rfl|(simp [errW_none,errW_some] <;> rfl)|(simp [*,errW_none,errW_some] <;> rfl),by (with_reducible repeat (first|apply zM|apply zL|apply zN));exact zS HO164.out (fun _ hk => trivial),zz HB⟩
     ·
      rw [if_neg c48] at H
      exact absurd H (by simp)

end Go.Proofs.Ytfelabhakgcifaa.QFnFacts
