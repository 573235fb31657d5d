/- Walks through Go functions that FnExactVarsOf reaches, by hand: each call returns what is said beside it, within the bounds that the theorem names. -/
import Derived.Test.YtpfpappamlgnoaaQFnExactVarsOfx0
import Derived.Test.YtpfpappamlgnoaaQFnExactVarsOfx1
import Derived.Test.YtpfpappamlgnoaaQFnExactVarsOfx2
import Derived.Test.YtpfpappamlgnoaaQFnExactVarsOfx3
import Derived.Test.YtpfpappamlgnoaaQFnExactVarsOfx4
import Derived.Test.YtpfpappamlgnoaaMine
import Derived.Test.YtpfpappamlgnoaaPureFnExactVarsOf
set_option linter.unusedVariables false
set_option linter.unusedSimpArgs false
namespace Go.Proofs.Ytpfpappamlgnoaa.Hand
open Go.RowKit Go.Proofs.Ytpfpappamlgnoaa.QFnExactVarsOf Go.Proofs.YtpfpappamlgnoaaW.PrintWords Go.Proofs.YtpfpappamlgnoaaW.PrintLast Go.Proofs.YtpfpappamlgnoaaW.PrintMore Go.Proofs.Ytpfpappamlgnoaa.Mine Go.Proofs.Ytpfpappamlgnoaa.Open Go.Proofs.Ytpfpappamlgnoaa.Pure
attribute [local go_sem] max2_int min2_int max_two min_two max_three min_three max_four min_four

/-- A goal that the walk leaves alone. -/
def Hold (p : Prop) : Prop := p
theorem hold {p : Prop} (h : Hold p) : p := h
theorem newR {α : Type} {d : Kd α} {e B : Nat} {W w1 : World} {ok : Nat → Prop} {v : Value} {xs : List α} (h : d.R e w1 W.heap.size ok v xs) (hB : B ≤ W.heap.size) : d.R e w1 B (fun k => (W.heap.size ≤ k ∧ k < w1.heap.size) ∧ ok k) v xs :=
  Kd.R_lower (Kd.R_mono (Kd.R_bound h) (fun _ hk => ⟨⟨hk.2.1, hk.2.2.1⟩, hk.1⟩)) hB
theorem newS {α : Type} {d : Kd α} {e B : Nat} {W w1 : World} {ok : Nat → Prop} {v : Value} {xs : List α} (h : Kd.S d e w1 W.heap.size ok v xs) (hB : B ≤ W.heap.size) : Kd.S d e w1 B (fun k => (W.heap.size ≤ k ∧ k < w1.heap.size) ∧ ok k) v xs :=
  Kd.S_lower (Kd.S_mono (Kd.S_bound h) (fun _ hk => ⟨⟨hk.2.1, hk.2.2.1⟩, hk.1⟩)) hB
/-- A box stored into. -/
theorem kept_two {w : World} {g : Nat} (a b : Value) : Kept w ((w.setCell ⟨g, 0, none⟩ a).setCell ⟨g, 1, none⟩ b) (fun k => k = g) :=
  ((Kept.refl w (fun k => k = g)).setCell (.inl rfl) a).setCell (.inl rfl) b
theorem kept_one {w : World} {g : Nat} (a : Value) : Kept w (w.setCell ⟨g, 0, none⟩ a) (fun k => k = g) := (Kept.refl w (fun k => k = g)).setCell (.inl rfl) a

/-- What marking a list leaves, and the next mark. -/
def mkA : List S38 → Int → List S38 × Int
  | [], m => ([], m)
  | x :: xs, m => (⟨m, mMarks (m + 1) x.f1.length⟩ :: (mkA xs (m + 1 + (x.f1.length : Int))).1, (mkA xs (m + 1 + (x.f1.length : Int))).2)
def szA : List S38 → Nat
  | [] => 0
  | x :: xs => x.f1.length + 1 + szA xs
theorem mkA_len : ∀ (l : List S38) (m : Int), (mkA l m).1.length = l.length
  | [], _ => rfl
  | x :: xs, m => by simp [mkA, mkA_len xs]
theorem mkA_end : ∀ (l : List S38) (m : Int), (mkA l m).2 = m + (szA l : Int)
  | [], m => by simp [mkA, szA]
  | x :: xs, m => by simp [mkA, szA, mkA_end xs]; omega
/-- Where the i-th round stands. -/
structure AtA (l xs : List S38) (m q : Int) (i : Nat) : Prop where
  len : xs.length = l.length
  le : i ≤ l.length
  lo : 0 ≤ q
  hi : q + (szA (xs.drop i) : Int) ≤ 4611686018427387904
  fst : xs.take i ++ (mkA (xs.drop i) q).1 = (mkA l m).1
  snd : (mkA (xs.drop i) q).2 = (mkA l m).2
theorem AtA.start {l : List S38} {m : Int} (h0 : 0 ≤ m) (h1 : m + (szA l : Int) ≤ 4611686018427387904) : AtA l l m m 0 := ⟨rfl, Nat.zero_le _, h0, by simpa using h1, by simp, by simp⟩
theorem AtA.drop {l xs : List S38} {m q : Int} {i : Nat} (h : AtA l xs m q i) (hi : i < l.length) : xs.drop i = xs.getD i z38 :: xs.drop (i + 1) := by
  have hx : i < xs.length := by rw [h.len]; exact hi
  rw [List.drop_eq_getElem_cons hx, List.getD_eq_getElem?_getD, List.getElem?_eq_getElem hx]; rfl
theorem AtA.more {l xs : List S38} {m q : Int} {i : Nat} (h : AtA l xs m q i) (hi : i < l.length) : q + 1 + ((xs.getD i z38).f1.length : Int) ≤ 4611686018427387904 := by
  have := h.hi; rw [h.drop hi] at this; simp only [szA] at this; omega
theorem AtA.step {l xs : List S38} {m q : Int} {i : Nat} (h : AtA l xs m q i) (hi : i < l.length) :
    AtA l ((xs.set i ⟨q, (xs.getD i z38).f1⟩).set i ⟨q, mMarks (q + 1) (xs.getD i z38).f1.length⟩) m (q + 1 + ((xs.getD i z38).f1.length : Int)) (i + 1) := by
  have hx : i < xs.length := by rw [h.len]; exact hi
  have hd : (((xs.set i ⟨q, (xs.getD i z38).f1⟩).set i ⟨q, mMarks (q + 1) (xs.getD i z38).f1.length⟩)).drop (i + 1) = xs.drop (i + 1) := by
    rw [List.drop_set_of_lt (by omega), List.drop_set_of_lt (by omega)]
  have hb := h.hi
  have hf := h.fst
  have hs := h.snd
  rw [h.drop hi] at hb hf hs
  simp only [szA, mkA] at hb hf hs
  refine ⟨by simp [h.len], by omega, by have := h.lo; omega, by rw [hd]; omega, ?_, by rw [hd]; exact hs⟩
  rw [hd, ← hf]
  rw [List.take_succ_eq_append_getElem (by simpa using hx), List.take_set_of_le (Nat.le_refl _), List.take_set_of_le (Nat.le_refl _)]
  simp
theorem AtA.done {l xs : List S38} {m q : Int} {i : Nat} (h : AtA l xs m q i) (hi : ¬ i < l.length) : xs = (mkA l m).1 ∧ q = (mkA l m).2 := by
  have he : xs.drop i = [] := List.drop_eq_nil_of_le (by rw [h.len]; omega)
  have hf := h.fst
  have hs := h.snd
  rw [he] at hf hs
  simp only [mkA, List.append_nil] at hf hs
  rw [List.take_of_length_le (by rw [h.len]; omega)] at hf
  exact ⟨hf, hs⟩
set_option maxHeartbeats 8000000 in
set_option maxRecDepth 100000 in
theorem markAtomS_walk (P : Nat → Prop) (u : Value) (l : List S38) (m : Int) (w0 w : World) (hB : Below w0.heap.size w0 w) (ho : Kd.S k38 38 w w0.heap.size P u l) (h0 : 0 ≤ m) (h1 : m + (szA l : Int) ≤ 4611686018427387904) (hl : l.length ≤ 17592186044416) (hla : ∀ x ∈ l, x.f1.length ≤ 17592186044416) :
    Calls Try.prog 98 #[u, .int .i64 m] w fun e w' => e = .returned (.int .i64 (mkA l m).2) ∧ Kd.S k38 38 w' w0.heap.size P u (mkA l m).1 ∧ Below w0.heap.size w0 w' ∧ Kept w w' P := by
  have hu38 := Try.underlying38
  obtain ⟨A, c, rfl⟩ := Kd.S_slice ho
  have HO := Aside0.mk ho
  have HB := Aside0.mk hB
  have HK := Aside0.mk (Kept.refl w P)
  have HI := Aside0.mk (AtA.start h0 h1)
  have HL := Aside0.mk hl
  have HF := Aside0.mk hla
  clear ho hB h0 h1 hl hla
  go_enter Try.func98, Try.ntmps98
  go_wp2
  go_loopg [1, 5] l.length (fun kq v1 v5 w' => ∃ (xs : List S38) (q x : Int), v1 = .int .i64 q ∧ v5 = .int .i64 x ∧ Aside0 (0 ≤ x ∧ kq + x.toNat = l.length) ∧ Aside0 (AtA l xs m q x.toNat) ∧ Aside0 (xs.length = l.length ∧ ∀ x ∈ xs, x.f1.length ≤ 17592186044416) ∧ Aside0 (Kd.S k38 38 w' w0.heap.size P (.slice A l.length c) xs) ∧ Aside0 (Kept w w' P) ∧ Aside0 (Below w0.heap.size w0 w'))
  case atStart => exact ⟨l, m, 0, rfl, rfl, ⟨⟨Int.le_refl _, rfl⟩⟩, HI, ⟨⟨rfl, HF.out⟩⟩, HO, HK, HB⟩
  case round =>
    clear HI HF HO HK HB
    obtain ⟨xs, q, x, rfl, rfl, HG, HI, HF, HO, HK, HB⟩ := hrel
    by_cases c6 : x < (l.length : Int)
    · have c6b0 : decide (x < (l.length : Int)) = true := decide_eq_true c6
      have p5 : 0 ≤ x := HG.out.1
      have hlt : x.toNat < l.length := by omega
      have HT := Aside0.mk hlt
      have hxl := HF.out.1
      have hb0 := HI.out.more hlt
      have hb1 := HI.out.lo
      have hfl : (xs.getD x.toNat z38).f1.length ≤ 17592186044416 := by
        rw [List.getD_eq_getElem?_getD, List.getElem?_eq_getElem (by omega)]
        exact HF.out.2 _ (List.getElem_mem _)
      obtain ⟨km, hkm⟩ := (markIntS_ev (xs.getD x.toNat z38).f1 (q + 1) (by omega) (by omega) hfl).rounds
      have HM := Aside0.mk hkm
      have e1 : wrap64 (q + 1) = q + 1 := by unfold wrap64; omega
      have e2 : wrap64 (x + 1) = x + 1 := by have := HL.out; unfold wrap64; omega
      have E1 := Aside0.mk e1
      have E2 := Aside0.mk e2
      obtain ⟨go, co, eo, gb, gl, cl, hgo⟩ := Kd.S_form HO.out (by omega)
      injection eo with ea en ec
      subst ea; subst ec
      clear en
      obtain ⟨oki, ce, hcl, hM, hcc, hfr, hoki, hH⟩ := Kd.S_elem HO.out z38 x p5 c6
      obtain ⟨ve, rfl, ge⟩ := k38_openM hM
      have hx0 : wr.cell? ⟨go, x.toNat * 2, none⟩ = some (.int .i64 (xs.getD x.toNat z38).f0) := hcc 0 _ rfl
      have hf0 : wr.frozen? ⟨go, x.toNat * 2, none⟩ = false := hfr 0
      have HH := Aside0.mk hH
      have GE := Aside0.mk ge
      have PG := Aside0.mk (show P go from (Kd.S_R HO.out).1 go rfl)
      have HW := Aside0.mk (fun k hk => (hoki k hk).1)
      clear hcl hM hcc hfr hoki hH ge e1 e2 hkm hgo gb gl cl hb0 hb1 hfl hxl hlt HO
      go_wp2_with (first | ((with_reducible refine gate_store (t := 3) (p := 16) rfl ?_); refine hold ?_))
      unfold Hold
      refine Kd.H_store k38 w0.heap.size rfl rfl 3 _ _ rfl 38 x 0 xs (⟨q, (xs.getD x.toNat z38).f1⟩ : S38) (.int .i64 q) [.int .i64 q] _ P oki oki rfl rfl rfl rfl rfl (by simp [Value.oneCell']) HH.out p5 c6 (show 1 ≤ 2 from by decide) (k38_mkM _ _ _ (⟨q, (xs.getD x.toNat z38).f1⟩ : S38) GE.out) (fun _ h_ => h_) HB.out ?_
      intro w1 hs hb hg
      have HB1 := Aside0.mk hb
      have HK1 := Aside0.mk (Kept.of_grown hg HK.out (fun k he => .inl (by injection he with he; subst he; exact PG.out)))
      have hlt := HT.out
      have hg0 : (xs.set x.toNat (⟨q, (xs.getD x.toNat z38).f1⟩ : S38)).getD x.toNat z38 = ⟨q, (xs.getD x.toNat z38).f1⟩ := by
        rw [List.getD_eq_getElem?_getD, List.getElem?_set_self (by rw [HF.out.1]; exact hlt)]; rfl
      obtain ⟨okj, cj, hclj, hMj, hccj, hokj, hHj⟩ := Kd.S_lend hs z38 x p5 c6
      rw [hg0] at hMj
      obtain ⟨vj, rfl, gj⟩ := k38_openM hMj
      have hx1 : w1.cell? ⟨go, x.toNat * 2 + 1, none⟩ = some vj := hccj 1 _ rfl
      have GJ := Aside0.mk (show Kd.R (Kd.int .i64) 3 w1 w0.heap.size okj vj (xs.getD x.toNat z38).f1 from gj)
      have HHJ := Aside0.mk hHj
      have HWJ := Aside0.mk (fun k hk => (hokj k hk).1)
      clear HB HK hs hb hg HH GE HW hclj hMj hccj hokj hHj gj hlt hx0 hf0 hg0
      go_wp2_with (first | (go_at_call 37; refine hold ?_))
      unfold Hold
      refine (laws_markIntS.calls km (fun k => some k = vj.ownBlock) vj (xs.getD x.toNat z38).f1 _ _ _ w0 _ HB1.out (Kd.R_tight rfl GJ.out) (by rw [E1.out]; exact HM.out)).mono ?_
      rintro e w2 ⟨rfl, hr, hb2, hk2⟩
      have HB2 := Aside0.mk hb2
      have HK2 := Aside0.mk (HK1.out.then_ hk2 (fun k hk => .inl (HWJ.out k (GJ.out.1 k hk.symm))))
      have hM2 := k38_mkM w2 w0.heap.size okj (⟨q, mMarks (q + 1) (xs.getD x.toNat z38).f1.length⟩ : S38) (Kd.R_mono (Kd.R_tight rfl hr) (fun k hk => GJ.out.1 k hk.symm))
      have hs2 := Kd.H_back (Kd.H_kept HHJ.out hk2 (fun k hk hn h2 => hn (GJ.out.1 k h2.symm))) hM2 (fun _ hk => hk)
      have HO2 := Aside0.mk hs2
      have HI2 := Aside0.mk (HI.out.step HT.out)
      have HF2 : Aside0 (((xs.set x.toNat (⟨q, (xs.getD x.toNat z38).f1⟩ : S38)).set x.toNat ⟨q, mMarks (q + 1) (xs.getD x.toNat z38).f1.length⟩).length = l.length ∧ ∀ y ∈ ((xs.set x.toNat (⟨q, (xs.getD x.toNat z38).f1⟩ : S38)).set x.toNat ⟨q, mMarks (q + 1) (xs.getD x.toNat z38).f1.length⟩), y.f1.length ≤ 17592186044416) := by
        have hlt := HT.out
        have hfl : (xs.getD x.toNat z38).f1.length ≤ 17592186044416 := by
          rw [List.getD_eq_getElem?_getD, List.getElem?_eq_getElem (by rw [HF.out.1]; exact hlt)]
          exact HF.out.2 _ (List.getElem_mem _)
        refine ⟨⟨by simp [HF.out.1], fun y hy => ?_⟩⟩
        rcases List.mem_or_eq_of_mem_set hy with h | h
        · rcases List.mem_or_eq_of_mem_set h with h | h
          · exact HF.out.2 y h
          · rw [h]; exact hfl
        · rw [h]; show (mMarks _ _).length ≤ _; rw [mMarks_length]; exact hfl
      clear HB1 HK1 HHJ GJ hr hb2 hk2 hM2 hs2 hx1 HWJ
      go_wp2
      go_roundg (gk - 1)
      case measure => have := HG.out; have := HT.out; omega
      case rel => exact ⟨_, _, (wrap64 (x + 1)), rfl, rfl, ⟨by have := HG.out; have := HT.out; rw [E2.out]; omega⟩, ⟨by rw [E2.out, show (x + 1).toNat = x.toNat + 1 by have := HG.out; omega]; exact HI2.out⟩, HF2, HO2, HK2, HB2⟩
    · have c6b0 : decide (x < (l.length : Int)) = false := decide_eq_false c6
      have hd := HI.out.done (by omega)
      have HD := Aside0.mk hd
      clear hd c6
      go_wp2
      go_ret
      exact ⟨by rw [← HD.out.2]; rfl, by rw [← HD.out.1]; exact HO.out, HB.out, HK.out⟩
theorem markAtomS_calls (P0_ : Nat → Prop) (u9000_ : Value) (l0 : List S38) (a1 : Int) (r1 : Int) (r2 : List S38) (w0 w : World) (hB : Below w0.heap.size w0 w) (ho0 : Kd.S k38 38 w w0.heap.size P0_ u9000_ l0) (hz0 : (0 ≤ a1 ∧ a1 + (szA l0 : Int) ≤ 4611686018427387904) ∧ l0.length ≤ 17592186044416 ∧ ∀ x ∈ l0, x.f1.length ≤ 17592186044416) (h : mkA l0 a1 = (r2, r1)) :
    Calls Try.prog 98 #[u9000_, .int .i64 a1] w fun e w' => e = .returned (.int .i64 r1) ∧ Kd.S k38 38 w' w0.heap.size (fun k_ => P0_ k_) u9000_ r2 ∧ Below w0.heap.size w0 w' ∧ Kept w w' (fun k_ => P0_ k_) := by
  have e := markAtomS_walk P0_ u9000_ l0 a1 w0 w hB ho0 hz0.1.1 hz0.1.2 hz0.2.1 hz0.2.2
  rw [h] at e
  exact e

/-- What marking a query leaves. -/
def mkQ (h : List Int) (d : List S38) (m : Int) : Int × List Int × List S38 := ((mkA d (m + (h.length : Int))).2, mMarks m h.length, (mkA d (m + (h.length : Int))).1)
set_option maxHeartbeats 8000000 in
set_option maxRecDepth 100000 in
theorem markQuery_calls (P0_0_ : Nat → Prop) (u9000_ u9001_ : Value) (l0_0 : List Int) (l0_1 : List S38) (a1 : Int) (r1 : Int) (r2 : List Int) (r3 : List S38) (w0 w : World) (hB : Below w0.heap.size w0 w) (ho0_0 : Kd.R (Kd.int .i64) 3 w w0.heap.size P0_0_ u9000_ l0_0) (ho0_1 : Kd.S k38 38 w w0.heap.size (fun k_ => P0_0_ k_ ∧ some k_ ≠ (u9000_ : Value).ownBlock) u9001_ l0_1) (hz0 : (0 ≤ a1 ∧ a1 + (l0_0.length : Int) + (szA l0_1 : Int) ≤ 4611686018427387904) ∧ l0_0.length ≤ 17592186044416 ∧ l0_1.length ≤ 17592186044416 ∧ ∀ x ∈ l0_1, x.f1.length ≤ 17592186044416) (h : mkQ l0_0 l0_1 a1 = (r1, r2, r3)) :
    Calls Try.prog 36 #[.agg #[u9000_, u9001_], .int .i64 a1] w fun e w' => e = .returned (.int .i64 r1) ∧ Kd.R (Kd.int .i64) 3 w' w0.heap.size (fun k_ => P0_0_ k_) u9000_ r2 ∧ Kd.S k38 38 w' w0.heap.size (fun k_ => P0_0_ k_ ∧ some k_ ≠ (u9000_ : Value).ownBlock) u9001_ r3 ∧ Below w0.heap.size w0 w' ∧ Kept w w' (fun k_ => P0_0_ k_) := by
  injection h with h1 h2
  injection h2 with h2 h3
  subst h1; subst h2; subst h3
  obtain ⟨A0, c0, rfl⟩ := Kd.R_slice ho0_0
  obtain ⟨A1, c1, rfl⟩ := Kd.S_slice ho0_1
  obtain ⟨km, hkm⟩ := (markIntS_ev l0_0 a1 hz0.1.1 (by have := hz0.1.2; omega) hz0.2.1).rounds
  have HM := Aside0.mk hkm
  have HA := Aside0.mk ho0_0
  have HS := Aside0.mk ho0_1
  have HZ := Aside0.mk hz0
  have HB := Aside0.mk hB
  clear hkm ho0_0 ho0_1 hz0 hB
  have hu := Try.underlying49
  go_enter Try.func36, Try.ntmps36
  go_wp2_with (first | ((with_reducible refine gate_dst (N := 2) rfl ?_); refine hold ?_))
  unfold Hold
  refine box_event ?hg (N := 2) ?hd (cs := #[.slice A0 l0_0.length c0, .slice A1 l0_1.length c1]) (t := 49) ?hr ?_
  case hd => rfl
  case hg => rfl
  case hr => first | (go_simp; done) | (go_simp; rfl)
  intro g hg w1 hbox hb
  have BX := Aside0.mk hbox
  have HK := Aside0.mk (Kept.of_below hb (fun k_ => P0_0_ k_))
  have GG := Aside0.mk (show w.heap.size ≤ g from by rw [hg]; exact Nat.le_refl _)
  have n1 := Aside0.mk (Kd.R_bound (Kd.R_below HA.out hb))
  have n2 := Aside0.mk (Kd.S_below HS.out hb)
  have n3 := Aside0.mk (below_step HB.out hb)
  have LT_ := Aside0.mk (Kd.R_lt HA.out)
  clear HA HS HB hbox hb hg
  have hx0 : w1.cell? ⟨g, 0, none⟩ = some (.slice A0 l0_0.length c0) := (blk_cell BX.out 0).trans rfl
  have hx1 : w1.cell? ⟨g, 1, none⟩ = some (.slice A1 l0_1.length c1) := (blk_cell BX.out 1).trans rfl
  go_wp2_with (first | (go_at_call 37; refine hold ?_))
  unfold Hold
  refine (laws_markIntS.calls km (fun k => some k = (Value.slice A0 l0_0.length c0).ownBlock) _ l0_0 a1 _ _ w0 _ n3.out (Kd.R_tight rfl (Kd.R_mono n1.out (fun _ h => h.1))) HM.out).mono ?_
  rintro e w2 ⟨rfl, hr, hb2, hk2⟩
  have GA := Aside0.mk (show ∀ k, some k = (Value.slice A0 l0_0.length c0).ownBlock → P0_0_ k from fun k hk => (n1.out.1 k hk.symm).1)
  have GL := Aside0.mk (show ∀ k, some k = (Value.slice A0 l0_0.length c0).ownBlock → k < w.heap.size from fun k hk => LT_.out k hk.symm)
  have m1 := Aside0.mk (Kd.R_tight rfl hr)
  have m2 := Aside0.mk (Kd.S_kept n2.out hk2 (fun k h1 h2 => h1.2 h2))
  have m3 := Aside0.mk hb2
  have m4 := Aside0.mk (HK.out.then_ hk2 (fun k h => .inl (GA.out k h)))
  have m5 := Aside0.mk (blk_kept BX.out hk2 (fun h => by have h1 := GL.out _ h; have h2 := GG.out; omega))
  clear n1 n2 n3 HK BX hr hb2 hk2 hx0 hx1 LT_
  have hx0 : w2.cell? ⟨g, 0, none⟩ = some (.slice A0 l0_0.length c0) := (blk_cell m5.out 0).trans rfl
  have hx1 : w2.cell? ⟨g, 1, none⟩ = some (.slice A1 l0_1.length c1) := (blk_cell m5.out 1).trans rfl
  go_wp2_with (first | (go_at_call 98; refine hold ?_))
  unfold Hold
  refine (markAtomS_walk (fun k_ => P0_0_ k_ ∧ some k_ ≠ (Value.slice A0 l0_0.length c0).ownBlock) _ l0_1 (a1 + (l0_0.length : Int)) w0 _ m3.out m2.out (by have := HZ.out.1; omega) (by have := HZ.out.1.2; omega) HZ.out.2.2.1 HZ.out.2.2.2).mono ?_
  rintro e w3 ⟨rfl, hs3, hb3, hk3⟩
  have q1 := Aside0.mk (Kd.R_mono (Kd.R_kept m1.out hk3 (fun k h1 h2 => h2.2 h1)) (fun k hk => GA.out k hk))
  have q2 := Aside0.mk hs3
  have q3 := Aside0.mk hb3
  have q4 := Aside0.mk (m4.out.then_ hk3 (fun k h => .inl h.1))
  clear m1 m2 m3 m4 m5 hs3 hb3 hk3 hx0 hx1
  go_wp2
  go_ret
  exact ⟨rfl, q1.out, q2.out, q3.out, q4.out⟩

theorem szA_le {B : Nat} : ∀ (l : List S38), (∀ x ∈ l, x.f1.length ≤ B) → szA l ≤ l.length * (B + 1)
  | [], _ => by simp [szA]
  | x :: xs, h => by
    have h1 := szA_le xs (fun y hy => h y (List.mem_cons_of_mem _ hy))
    have h2 := h x List.mem_cons_self
    simp only [szA, List.length_cons, Nat.add_mul]
    omega
theorem szA_small (l : List S38) (hl : l.length ≤ 1048576) (hs : ∀ x ∈ l, x.f1.length ≤ 1048576) : szA l ≤ 1099512676352 := by
  have h := szA_le l hs
  have h2 : l.length * (1048576 + 1) ≤ 1048576 * (1048576 + 1) := Nat.mul_le_mul_right _ hl
  omega
/-- A query may be marked from m on; the mark behind it. -/
theorem markQ_ok (h : List Int) (d : List S38) (m : Int) (hh : h.length ≤ 1048576) (hl : d.length ≤ 1048576) (hs : ∀ x ∈ d, x.f1.length ≤ 1048576) (h0 : 0 ≤ m) (h1 : m ≤ 4000000000000000) :
    ((0 ≤ m ∧ m + (h.length : Int) + (szA d : Int) ≤ 4611686018427387904) ∧ h.length ≤ 17592186044416 ∧ d.length ≤ 17592186044416 ∧ ∀ x ∈ d, x.f1.length ≤ 17592186044416) ∧ m ≤ (mkQ h d m).1 ∧ (mkQ h d m).1 ≤ m + 1099513724928 := by
  have hz := szA_small d hl hs
  have he : (mkQ h d m).1 = m + (h.length : Int) + (szA d : Int) := by show (mkA d _).2 = _; rw [mkA_end]
  exact ⟨⟨⟨h0, by omega⟩, by omega, by omega, fun x hx => by have := hs x hx; omega⟩, by rw [he]; omega, by rw [he]; omega⟩

set_option maxHeartbeats 8000000 in
set_option maxRecDepth 100000 in
theorem laws_FnExactVarsOf_out0 (A0_0 : Option Addr) (c0_0 : Nat) (l0_0 : List Int) (A0_1 : Option Addr) (c0_1 : Nat) (l0_1 : List S35) (w : World) (hr0_0 : Kd.C (Kd.int .i64) w A0_0 l0_0.length l0_0) (hc0_0 : l0_0.length ≤ c0_0) (hr0_1 : Kd.C k35 w A0_1 l0_1.length l0_1) (hc0_1 : l0_1.length ≤ c0_1) (r0_0 : Int)
    (e0 : ∃ k, laws_szQuery.f k l0_0 l0_1 1048576 = some r0_0)
    (c0 : r0_0 < 0) :
    Calls Try.prog 7 #[.agg #[.slice A0_0 l0_0.length c0_0, .slice A0_1 l0_1.length c0_1]] w fun e w' => e = .returned (.bool true) ∧ Below w.heap.size w w' := by
  have H0_0 := Aside0.mk hr0_0
  have HC0_0 := Aside0.mk hc0_0
  clear hr0_0 hc0_0
  have H0_1 := Aside0.mk hr0_1
  have HC0_1 := Aside0.mk hc0_1
  clear hr0_1 hc0_1
  obtain ⟨ke0, q_⟩ := e0; have Ee0 := Aside0.mk q_; clear q_
  have c0b := decide_eq_true (show r0_0 < 0 from c0)
  clear c0
  have HB := Aside0.mk (Below.refl w.heap.size w)
  have hu44 := Try.underlying44
  go_enter Try.func7, Try.ntmps7
  go_wp2_with (first | ((with_reducible refine gate_dst (N := 1) rfl ?_); refine hold ?_))
  unfold Hold
  refine box_event ?hg (N := 1) ?hd (cs := #[.slice A0_0 l0_0.length c0_0, .slice A0_1 l0_1.length c0_1]) (t := 44) ?hr ?_
  case hd => rfl
  case hg => rfl
  case hr => first | (go_simp; done) | (go_simp; rfl)
  intro g1 hg w1_ hbox hb
  have Bg1 := Aside0.mk hbox
  have Gg1 := Aside0.mk (show w.heap.size ≤ g1 ∧ g1 < w1_.heap.size from ⟨by rw [hg]; exact Nat.le_refl _, blk_lt hbox⟩)
  clear hbox hg
  have Z1_ := Aside0.mk (show w.heap.size ≤ w1_.heap.size from hb.size)
  have n_ := Aside0.mk (below_step HB.out hb); clear HB; have HB := n_; clear n_
  have hxg1_0 : w1_.cell? ⟨g1, 0, none⟩ = some (.slice A0_0 l0_0.length c0_0) := (blk_cell Bg1.out 0).trans rfl
  have hxg1_1 : w1_.cell? ⟨g1, 1, none⟩ = some (.slice A0_1 l0_1.length c0_1) := (blk_cell Bg1.out 1).trans rfl
  have hfg1_0 := blk_frozen Bg1.out 0
  have hfg1_1 := blk_frozen Bg1.out 1
  clear hb
  go_wp2_with (first | (go_at_call 31; refine hold ?_))
  unfold Hold
  refine (laws_szQuery.calls ke0 _ _ l0_0 _ _ l0_1 1048576 r0_0 _ (Kd.C_below H0_0.out HB.out) HC0_0.out (Kd.C_below H0_1.out HB.out) HC0_1.out Ee0.out).mono ?_
  rintro e w2_ ⟨rfl, hb⟩
  have Z2_ := Aside0.mk (show w1_.heap.size ≤ w2_.heap.size from hb.size)
  have n_ := Aside0.mk (blk_below Bg1.out hb); clear Bg1; have Bg1 := n_; clear n_
  have n_ := Aside0.mk (below_step HB.out hb); clear HB; have HB := n_; clear n_
  clear hxg1_0
  clear hxg1_1
  clear hfg1_0
  clear hfg1_1
  have hxg1_0 : w2_.cell? ⟨g1, 0, none⟩ = some (.slice A0_0 l0_0.length c0_0) := (blk_cell Bg1.out 0).trans rfl
  have hxg1_1 : w2_.cell? ⟨g1, 1, none⟩ = some (.slice A0_1 l0_1.length c0_1) := (blk_cell Bg1.out 1).trans rfl
  have hfg1_0 := blk_frozen Bg1.out 0
  have hfg1_1 := blk_frozen Bg1.out 1
  clear hb
  go_wp2
  go_ret
  exact ⟨rfl, HB.out⟩
set_option maxHeartbeats 8000000 in
set_option maxRecDepth 100000 in
theorem laws_FnExactVarsOf_walk (A0_0 : Option Addr) (c0_0 : Nat) (l0_0 : List Int) (A0_1 : Option Addr) (c0_1 : Nat) (l0_1 : List S35) (w : World) (hr0_0 : Kd.C (Kd.int .i64) w A0_0 l0_0.length l0_0) (hc0_0 : l0_0.length ≤ c0_0) (hr0_1 : Kd.C k35 w A0_1 l0_1.length l0_1) (hc0_1 : l0_1.length ≤ c0_1) (r0_0 : Int) (r2_0 : List Int) (r2_1 : List (S38)) (r3_0 : List Int) (r7_0 : Int) (r7_1 : List Int) (r7_2 : List S38) (r9_0 : Int) (r9_1 : List Int)
    (e0 : ∃ k, laws_szQuery.f k l0_0 l0_1 1048576 = some r0_0)
    (c0 : ¬ r0_0 < 0)
    (e2 : ∃ k, laws_toQuery.f k l0_0 l0_1 = some (r2_0, r2_1))
    (e3 : ∃ k, spec_VarsOf.f k r2_0 r2_1 = some r3_0)
    (e4 : ∃ k, impl_VarsOf.f k r2_0 r2_1 = some r3_0)
    (e5 : ∃ k, laws_eqIntS.f k r3_0 r3_0 = some true)
    (e6 : ∃ k, laws_eqQuery.f k r2_0 r2_1 r2_0 r2_1 = some true)
    (e7 : mkQ r2_0 r2_1 1 = (r7_0, r7_1, r7_2))
    (e7_hz0_ : (0 ≤ (1 : Int) ∧ (1 : Int) + (r2_0.length : Int) + (szA r2_1 : Int) ≤ 4611686018427387904) ∧ r2_0.length ≤ 17592186044416 ∧ r2_1.length ≤ 17592186044416 ∧ ∀ x ∈ r2_1, x.f1.length ≤ 17592186044416)
    (c1 : ¬ r7_0 < 0)
    (e9 : ∃ k, laws_markIntS.f k r3_0 1 = some (r9_0, r9_1))
    (e10 : ∃ k, laws_heldIntS.f k r9_1 1 = some r9_0)
    (c2 : ¬ r9_0 < 0) :
    Calls Try.prog 7 #[.agg #[.slice A0_0 l0_0.length c0_0, .slice A0_1 l0_1.length c0_1]] w fun e w' => e = .returned (.bool true) ∧ Below w.heap.size w w' := by
  have H0_0 := Aside0.mk hr0_0
  have HC0_0 := Aside0.mk hc0_0
  clear hr0_0 hc0_0
  have H0_1 := Aside0.mk hr0_1
  have HC0_1 := Aside0.mk hc0_1
  clear hr0_1 hc0_1
  obtain ⟨ke0, q_⟩ := e0; have Ee0 := Aside0.mk q_; clear q_
  have c0b := decide_eq_false (show ¬ r0_0 < 0 from c0)
  clear c0
  obtain ⟨ke2, q_⟩ := e2; have Ee2 := Aside0.mk q_; clear q_
  obtain ⟨ke3, q_⟩ := e3; have Ee3 := Aside0.mk q_; clear q_
  obtain ⟨ke4, q_⟩ := e4; have Ee4 := Aside0.mk q_; clear q_
  obtain ⟨ke5, q_⟩ := e5; have Ee5 := Aside0.mk q_; clear q_
  obtain ⟨ke6, q_⟩ := e6; have Ee6 := Aside0.mk q_; clear q_
  have e7_hz0 := Aside0.mk e7_hz0_; clear e7_hz0_
  have Ee7 := Aside0.mk e7; clear e7
  have c1b := decide_eq_false (show ¬ r7_0 < 0 from c1)
  clear c1
  obtain ⟨ke9, q_⟩ := e9; have Ee9 := Aside0.mk q_; clear q_
  obtain ⟨ke10, q_⟩ := e10; have Ee10 := Aside0.mk q_; clear q_
  have c2b := decide_eq_false (show ¬ r9_0 < 0 from c2)
  clear c2
  have HB := Aside0.mk (Below.refl w.heap.size w)
  have hu49 := Try.underlying49
  have hu44 := Try.underlying44
  go_enter Try.func7, Try.ntmps7
  go_wp2_with (first | ((with_reducible refine gate_dst (N := 1) rfl ?_); refine hold ?_))
  unfold Hold
  refine box_event ?hg (N := 1) ?hd (cs := #[.slice A0_0 l0_0.length c0_0, .slice A0_1 l0_1.length c0_1]) (t := 44) ?hr ?_
  case hd => rfl
  case hg => rfl
  case hr => first | (go_simp; done) | (go_simp; rfl)
  intro g1 hg w1_ hbox hb
  have Bg1 := Aside0.mk hbox
  have Gg1 := Aside0.mk (show w.heap.size ≤ g1 ∧ g1 < w1_.heap.size from ⟨by rw [hg]; exact Nat.le_refl _, blk_lt hbox⟩)
  clear hbox hg
  have Z1_ := Aside0.mk (show w.heap.size ≤ w1_.heap.size from hb.size)
  have n_ := Aside0.mk (below_step HB.out hb); clear HB; have HB := n_; clear n_
  have hxg1_0 : w1_.cell? ⟨g1, 0, none⟩ = some (.slice A0_0 l0_0.length c0_0) := (blk_cell Bg1.out 0).trans rfl
  have hxg1_1 : w1_.cell? ⟨g1, 1, none⟩ = some (.slice A0_1 l0_1.length c0_1) := (blk_cell Bg1.out 1).trans rfl
  have hfg1_0 := blk_frozen Bg1.out 0
  have hfg1_1 := blk_frozen Bg1.out 1
  clear hb
  go_wp2_with (first | (go_at_call 31; refine hold ?_))
  unfold Hold
  refine (laws_szQuery.calls ke0 _ _ l0_0 _ _ l0_1 1048576 r0_0 _ (Kd.C_below H0_0.out HB.out) HC0_0.out (Kd.C_below H0_1.out HB.out) HC0_1.out Ee0.out).mono ?_
  rintro e w2_ ⟨rfl, hb⟩
  have Z2_ := Aside0.mk (show w1_.heap.size ≤ w2_.heap.size from hb.size)
  have n_ := Aside0.mk (blk_below Bg1.out hb); clear Bg1; have Bg1 := n_; clear n_
  have n_ := Aside0.mk (below_step HB.out hb); clear HB; have HB := n_; clear n_
  clear hxg1_0
  clear hxg1_1
  clear hfg1_0
  clear hfg1_1
  have hxg1_0 : w2_.cell? ⟨g1, 0, none⟩ = some (.slice A0_0 l0_0.length c0_0) := (blk_cell Bg1.out 0).trans rfl
  have hxg1_1 : w2_.cell? ⟨g1, 1, none⟩ = some (.slice A0_1 l0_1.length c0_1) := (blk_cell Bg1.out 1).trans rfl
  have hfg1_0 := blk_frozen Bg1.out 0
  have hfg1_1 := blk_frozen Bg1.out 1
  clear hb
  go_wp2_with (first | (go_at_call 33; refine hold ?_))
  unfold Hold
  refine (laws_toQuery.calls ke2 _ _ l0_0 _ _ l0_1 r2_0 r2_1 _ (Kd.C_below H0_0.out HB.out) HC0_0.out (Kd.C_below H0_1.out HB.out) HC0_1.out Ee2.out).mono ?_
  rintro e w3_ ⟨v3_0_, v3_1_, rfl, ho0, ho1, hb⟩
  have O3_0 := Aside0.mk (newR ho0 HB.out.size)
  have O3_1 := Aside0.mk (newS ho1 HB.out.size)
  have Z3_ := Aside0.mk (show w2_.heap.size ≤ w3_.heap.size from hb.size)
  have n_ := Aside0.mk (blk_below Bg1.out hb); clear Bg1; have Bg1 := n_; clear n_
  have n_ := Aside0.mk (below_step HB.out hb); clear HB; have HB := n_; clear n_
  clear hxg1_0
  clear hxg1_1
  clear hfg1_0
  clear hfg1_1
  have hxg1_0 : w3_.cell? ⟨g1, 0, none⟩ = some (.slice A0_0 l0_0.length c0_0) := (blk_cell Bg1.out 0).trans rfl
  have hxg1_1 : w3_.cell? ⟨g1, 1, none⟩ = some (.slice A0_1 l0_1.length c0_1) := (blk_cell Bg1.out 1).trans rfl
  have hfg1_0 := blk_frozen Bg1.out 0
  have hfg1_1 := blk_frozen Bg1.out 1
  clear hb ho0 ho1
  obtain ⟨A3_0_, c3_0_, eq_⟩ := Kd.R_slice O3_0.out
  subst eq_
  obtain ⟨A3_1_, c3_1_, eq_⟩ := Kd.S_slice O3_1.out
  subst eq_
  go_wp2_with (first | (go_at_call 32; refine hold ?_))
  unfold Hold
  refine (spec_VarsOf.calls ke3 _ _ r2_0 _ _ r2_1 r3_0 _ (Kd.R_reads' O3_0.out).2.2 (Kd.R_reads' O3_0.out).2.1 (Kd.S_reads' O3_1.out).2.2 (Kd.S_reads' O3_1.out).2.1 Ee3.out).mono ?_
  rintro e w4_ ⟨v4_0_, rfl, ho0, hb⟩
  have O4_0 := Aside0.mk (newR ho0 HB.out.size)
  have Z4_ := Aside0.mk (show w3_.heap.size ≤ w4_.heap.size from hb.size)
  have n_ := Aside0.mk (Kd.R_below O3_0.out hb); clear O3_0; have O3_0 := n_; clear n_
  have n_ := Aside0.mk (Kd.S_below O3_1.out hb); clear O3_1; have O3_1 := n_; clear n_
  have n_ := Aside0.mk (blk_below Bg1.out hb); clear Bg1; have Bg1 := n_; clear n_
  have n_ := Aside0.mk (below_step HB.out hb); clear HB; have HB := n_; clear n_
  clear hxg1_0
  clear hxg1_1
  clear hfg1_0
  clear hfg1_1
  have hxg1_0 : w4_.cell? ⟨g1, 0, none⟩ = some (.slice A0_0 l0_0.length c0_0) := (blk_cell Bg1.out 0).trans rfl
  have hxg1_1 : w4_.cell? ⟨g1, 1, none⟩ = some (.slice A0_1 l0_1.length c0_1) := (blk_cell Bg1.out 1).trans rfl
  have hfg1_0 := blk_frozen Bg1.out 0
  have hfg1_1 := blk_frozen Bg1.out 1
  clear hb ho0
  obtain ⟨A4_0_, c4_0_, eq_⟩ := Kd.R_slice O4_0.out
  subst eq_
  go_wp2_with (first | (go_at_call 33; refine hold ?_))
  unfold Hold
  refine (laws_toQuery.calls ke2 _ _ l0_0 _ _ l0_1 r2_0 r2_1 _ (Kd.C_below H0_0.out HB.out) HC0_0.out (Kd.C_below H0_1.out HB.out) HC0_1.out Ee2.out).mono ?_
  rintro e w5_ ⟨v5_0_, v5_1_, rfl, ho0, ho1, hb⟩
  have O5_0 := Aside0.mk (newR ho0 HB.out.size)
  have O5_1 := Aside0.mk (newS ho1 HB.out.size)
  have Z5_ := Aside0.mk (show w4_.heap.size ≤ w5_.heap.size from hb.size)
  have n_ := Aside0.mk (Kd.R_below O3_0.out hb); clear O3_0; have O3_0 := n_; clear n_
  have n_ := Aside0.mk (Kd.S_below O3_1.out hb); clear O3_1; have O3_1 := n_; clear n_
  have n_ := Aside0.mk (Kd.R_below O4_0.out hb); clear O4_0; have O4_0 := n_; clear n_
  have n_ := Aside0.mk (blk_below Bg1.out hb); clear Bg1; have Bg1 := n_; clear n_
  have n_ := Aside0.mk (below_step HB.out hb); clear HB; have HB := n_; clear n_
  clear hxg1_0
  clear hxg1_1
  clear hfg1_0
  clear hfg1_1
  have hxg1_0 : w5_.cell? ⟨g1, 0, none⟩ = some (.slice A0_0 l0_0.length c0_0) := (blk_cell Bg1.out 0).trans rfl
  have hxg1_1 : w5_.cell? ⟨g1, 1, none⟩ = some (.slice A0_1 l0_1.length c0_1) := (blk_cell Bg1.out 1).trans rfl
  have hfg1_0 := blk_frozen Bg1.out 0
  have hfg1_1 := blk_frozen Bg1.out 1
  clear hb ho0 ho1
  obtain ⟨A5_0_, c5_0_, eq_⟩ := Kd.R_slice O5_0.out
  subst eq_
  obtain ⟨A5_1_, c5_1_, eq_⟩ := Kd.S_slice O5_1.out
  subst eq_
  go_wp2_with (first | ((with_reducible refine gate_dst (N := 5) rfl ?_); refine hold ?_))
  unfold Hold
  refine box_event ?hg (N := 5) ?hd (cs := #[.slice none 0 0, .slice none 0 0]) (t := 49) ?hr ?_
  case hd => rfl
  case hg => rfl
  case hr => first | (go_simp; done) | (go_simp; rfl)
  intro g5 hg w6_ hbox hb
  have Bg5 := Aside0.mk hbox
  have Gg5 := Aside0.mk (show w5_.heap.size ≤ g5 ∧ g5 < w6_.heap.size from ⟨by rw [hg]; exact Nat.le_refl _, blk_lt hbox⟩)
  clear hbox hg
  have Z6_ := Aside0.mk (show w5_.heap.size ≤ w6_.heap.size from hb.size)
  have n_ := Aside0.mk (Kd.R_below O3_0.out hb); clear O3_0; have O3_0 := n_; clear n_
  have n_ := Aside0.mk (Kd.S_below O3_1.out hb); clear O3_1; have O3_1 := n_; clear n_
  have n_ := Aside0.mk (Kd.R_below O4_0.out hb); clear O4_0; have O4_0 := n_; clear n_
  have n_ := Aside0.mk (Kd.R_below O5_0.out hb); clear O5_0; have O5_0 := n_; clear n_
  have n_ := Aside0.mk (Kd.S_below O5_1.out hb); clear O5_1; have O5_1 := n_; clear n_
  have n_ := Aside0.mk (blk_below Bg1.out hb); clear Bg1; have Bg1 := n_; clear n_
  have n_ := Aside0.mk (below_step HB.out hb); clear HB; have HB := n_; clear n_
  clear hxg1_0
  clear hxg1_1
  clear hfg1_0
  clear hfg1_1
  have hxg1_0 : w6_.cell? ⟨g1, 0, none⟩ = some (.slice A0_0 l0_0.length c0_0) := (blk_cell Bg1.out 0).trans rfl
  have hxg1_1 : w6_.cell? ⟨g1, 1, none⟩ = some (.slice A0_1 l0_1.length c0_1) := (blk_cell Bg1.out 1).trans rfl
  have hfg1_0 := blk_frozen Bg1.out 0
  have hfg1_1 := blk_frozen Bg1.out 1
  have hxg5_0 : w6_.cell? ⟨g5, 0, none⟩ = some (.slice none 0 0) := (blk_cell Bg5.out 0).trans rfl
  have hxg5_1 : w6_.cell? ⟨g5, 1, none⟩ = some (.slice none 0 0) := (blk_cell Bg5.out 1).trans rfl
  have hfg5_0 := blk_frozen Bg5.out 0
  have hfg5_1 := blk_frozen Bg5.out 1
  clear hb
  go_wp2_with (first | ((with_reducible refine gate_store (t := 49) (p := 5) rfl ?_); refine hold ?_))
  unfold Hold
  refine store_event (t := 49) (p := 5) (v := ?vo) (w1 := ((w6_.setCell ⟨g5, 0, none⟩ (.slice A5_0_ r2_0.length c5_0_)).setCell ⟨g5, 1, none⟩ (.slice A5_1_ r2_1.length c5_1_))) ?hg ?ho ?hn ?hr ?_
  case ho => rfl
  case hg => rfl
  case hn => rfl
  case hr => first | (go_simp; done) | (go_simp; rfl)
  intro w7_ hw
  have hk : Kept w6_ w7_ (fun k => k = g5) := by rw [hw]; exact kept_two _ _
  have hb0 : Below w.heap.size w w7_ := by rw [hw]; exact (below_set (below_set HB.out (Nat.le_trans (by have z1_ := Z1_.out; have z2_ := Z2_.out; have z3_ := Z3_.out; have z4_ := Z4_.out; have z5_ := Z5_.out; omega) Gg5.out.1)) (Nat.le_trans (by have z1_ := Z1_.out; have z2_ := Z2_.out; have z3_ := Z3_.out; have z4_ := Z4_.out; have z5_ := Z5_.out; omega) Gg5.out.1))
  have n_ := Aside0.mk (show w7_.heap[g5]? = some (.cells #[.slice A5_0_ r2_0.length c5_0_, .slice A5_1_ r2_1.length c5_1_] 49 (0, 0)) by rw [hw]; exact (blk_put (cs := #[.slice A5_0_ r2_0.length c5_0_, .slice none 0 0]) (cs' := #[.slice A5_0_ r2_0.length c5_0_, .slice A5_1_ r2_1.length c5_1_]) (blk_put (cs := #[.slice none 0 0, .slice none 0 0]) (cs' := #[.slice A5_0_ r2_0.length c5_0_, .slice none 0 0]) Bg5.out 0 _ rfl) 1 _ rfl))
  clear Bg5; have Bg5 := n_; clear n_ hw
  have Z7_ := Aside0.mk (show w6_.heap.size ≤ w7_.heap.size from hk.1)
  have n_ := Aside0.mk (Kd.R_kept O3_0.out hk (fun k_ hk1 hk2 => by obtain ⟨a1_, a2_⟩ := hk1.1; have e_ : k_ = g5 := hk2; obtain ⟨b1_, b2_⟩ := Gg5.out; have z4_ := Z4_.out; have z5_ := Z5_.out; omega)); clear O3_0; have O3_0 := n_; clear n_
  have n_ := Aside0.mk (Kd.S_kept O3_1.out hk (fun k_ hk1 hk2 => by obtain ⟨a1_, a2_⟩ := hk1.1; have e_ : k_ = g5 := hk2; obtain ⟨b1_, b2_⟩ := Gg5.out; have z4_ := Z4_.out; have z5_ := Z5_.out; omega)); clear O3_1; have O3_1 := n_; clear n_
  have n_ := Aside0.mk (Kd.R_kept O4_0.out hk (fun k_ hk1 hk2 => by obtain ⟨a1_, a2_⟩ := hk1.1; have e_ : k_ = g5 := hk2; obtain ⟨b1_, b2_⟩ := Gg5.out; have z5_ := Z5_.out; omega)); clear O4_0; have O4_0 := n_; clear n_
  have n_ := Aside0.mk (Kd.R_kept O5_0.out hk (fun k_ hk1 hk2 => by obtain ⟨a1_, a2_⟩ := hk1.1; have e_ : k_ = g5 := hk2; obtain ⟨b1_, b2_⟩ := Gg5.out; omega)); clear O5_0; have O5_0 := n_; clear n_
  have n_ := Aside0.mk (Kd.S_kept O5_1.out hk (fun k_ hk1 hk2 => by obtain ⟨a1_, a2_⟩ := hk1.1; have e_ : k_ = g5 := hk2; obtain ⟨b1_, b2_⟩ := Gg5.out; omega)); clear O5_1; have O5_1 := n_; clear n_
  have n_ := Aside0.mk (blk_kept Bg1.out hk (fun hk2 => by obtain ⟨a1_, a2_⟩ := Gg1.out; have e_ : g1 = g5 := hk2; obtain ⟨b1_, b2_⟩ := Gg5.out; have z2_ := Z2_.out; have z3_ := Z3_.out; have z4_ := Z4_.out; have z5_ := Z5_.out; omega)); clear Bg1; have Bg1 := n_; clear n_
  clear HB; have HB := Aside0.mk hb0
  clear hxg1_0
  clear hxg1_1
  clear hfg1_0
  clear hfg1_1
  clear hxg5_0
  clear hxg5_1
  clear hfg5_0
  clear hfg5_1
  have hxg1_0 : w7_.cell? ⟨g1, 0, none⟩ = some (.slice A0_0 l0_0.length c0_0) := (blk_cell Bg1.out 0).trans rfl
  have hxg1_1 : w7_.cell? ⟨g1, 1, none⟩ = some (.slice A0_1 l0_1.length c0_1) := (blk_cell Bg1.out 1).trans rfl
  have hfg1_0 := blk_frozen Bg1.out 0
  have hfg1_1 := blk_frozen Bg1.out 1
  have hxg5_0 : w7_.cell? ⟨g5, 0, none⟩ = some (.slice A5_0_ r2_0.length c5_0_) := (blk_cell Bg5.out 0).trans rfl
  have hxg5_1 : w7_.cell? ⟨g5, 1, none⟩ = some (.slice A5_1_ r2_1.length c5_1_) := (blk_cell Bg5.out 1).trans rfl
  have hfg5_0 := blk_frozen Bg5.out 0
  have hfg5_1 := blk_frozen Bg5.out 1
  clear hk hb0
  go_wp2_with (first | (go_at_call 34; refine hold ?_))
  unfold Hold
  refine (impl_VarsOf.calls ke4 _ _ r2_0 _ _ r2_1 r3_0 _ (Kd.R_reads' O5_0.out).2.2 (Kd.R_reads' O5_0.out).2.1 (Kd.S_reads' O5_1.out).2.2 (Kd.S_reads' O5_1.out).2.1 Ee4.out).mono ?_
  rintro e w8_ ⟨v8_0_, rfl, ho0, hb⟩
  have O8_0 := Aside0.mk (newR ho0 HB.out.size)
  have Z8_ := Aside0.mk (show w7_.heap.size ≤ w8_.heap.size from hb.size)
  have n_ := Aside0.mk (Kd.R_below O3_0.out hb); clear O3_0; have O3_0 := n_; clear n_
  have n_ := Aside0.mk (Kd.S_below O3_1.out hb); clear O3_1; have O3_1 := n_; clear n_
  have n_ := Aside0.mk (Kd.R_below O4_0.out hb); clear O4_0; have O4_0 := n_; clear n_
  have n_ := Aside0.mk (Kd.R_below O5_0.out hb); clear O5_0; have O5_0 := n_; clear n_
  have n_ := Aside0.mk (Kd.S_below O5_1.out hb); clear O5_1; have O5_1 := n_; clear n_
  have n_ := Aside0.mk (blk_below Bg1.out hb); clear Bg1; have Bg1 := n_; clear n_
  have n_ := Aside0.mk (blk_below Bg5.out hb); clear Bg5; have Bg5 := n_; clear n_
  have n_ := Aside0.mk (below_step HB.out hb); clear HB; have HB := n_; clear n_
  clear hxg1_0
  clear hxg1_1
  clear hfg1_0
  clear hfg1_1
  clear hxg5_0
  clear hxg5_1
  clear hfg5_0
  clear hfg5_1
  have hxg1_0 : w8_.cell? ⟨g1, 0, none⟩ = some (.slice A0_0 l0_0.length c0_0) := (blk_cell Bg1.out 0).trans rfl
  have hxg1_1 : w8_.cell? ⟨g1, 1, none⟩ = some (.slice A0_1 l0_1.length c0_1) := (blk_cell Bg1.out 1).trans rfl
  have hfg1_0 := blk_frozen Bg1.out 0
  have hfg1_1 := blk_frozen Bg1.out 1
  have hxg5_0 : w8_.cell? ⟨g5, 0, none⟩ = some (.slice A5_0_ r2_0.length c5_0_) := (blk_cell Bg5.out 0).trans rfl
  have hxg5_1 : w8_.cell? ⟨g5, 1, none⟩ = some (.slice A5_1_ r2_1.length c5_1_) := (blk_cell Bg5.out 1).trans rfl
  have hfg5_0 := blk_frozen Bg5.out 0
  have hfg5_1 := blk_frozen Bg5.out 1
  clear hb ho0
  obtain ⟨A8_0_, c8_0_, eq_⟩ := Kd.R_slice O8_0.out
  subst eq_
  go_wp2_with (first | (go_at_call 18; refine hold ?_))
  unfold Hold
  refine (laws_eqIntS.calls ke5 _ _ r3_0 _ _ r3_0 true _ (Kd.R_reads' O8_0.out).2.2 (Kd.R_reads' O8_0.out).2.1 (Kd.R_reads' O4_0.out).2.2 (Kd.R_reads' O4_0.out).2.1 Ee5.out).mono ?_
  rintro e w9_ ⟨rfl, hd⟩
  have hb := hd.below; clear hd
  have Z9_ := Aside0.mk (show w8_.heap.size ≤ w9_.heap.size from hb.size)
  have n_ := Aside0.mk (Kd.R_below O3_0.out hb); clear O3_0; have O3_0 := n_; clear n_
  have n_ := Aside0.mk (Kd.S_below O3_1.out hb); clear O3_1; have O3_1 := n_; clear n_
  have n_ := Aside0.mk (Kd.R_below O4_0.out hb); clear O4_0; have O4_0 := n_; clear n_
  have n_ := Aside0.mk (Kd.R_below O5_0.out hb); clear O5_0; have O5_0 := n_; clear n_
  have n_ := Aside0.mk (Kd.S_below O5_1.out hb); clear O5_1; have O5_1 := n_; clear n_
  have n_ := Aside0.mk (Kd.R_below O8_0.out hb); clear O8_0; have O8_0 := n_; clear n_
  have n_ := Aside0.mk (blk_below Bg1.out hb); clear Bg1; have Bg1 := n_; clear n_
  have n_ := Aside0.mk (blk_below Bg5.out hb); clear Bg5; have Bg5 := n_; clear n_
  have n_ := Aside0.mk (below_step HB.out hb); clear HB; have HB := n_; clear n_
  clear hxg1_0
  clear hxg1_1
  clear hfg1_0
  clear hfg1_1
  clear hxg5_0
  clear hxg5_1
  clear hfg5_0
  clear hfg5_1
  have hxg1_0 : w9_.cell? ⟨g1, 0, none⟩ = some (.slice A0_0 l0_0.length c0_0) := (blk_cell Bg1.out 0).trans rfl
  have hxg1_1 : w9_.cell? ⟨g1, 1, none⟩ = some (.slice A0_1 l0_1.length c0_1) := (blk_cell Bg1.out 1).trans rfl
  have hfg1_0 := blk_frozen Bg1.out 0
  have hfg1_1 := blk_frozen Bg1.out 1
  have hxg5_0 : w9_.cell? ⟨g5, 0, none⟩ = some (.slice A5_0_ r2_0.length c5_0_) := (blk_cell Bg5.out 0).trans rfl
  have hxg5_1 : w9_.cell? ⟨g5, 1, none⟩ = some (.slice A5_1_ r2_1.length c5_1_) := (blk_cell Bg5.out 1).trans rfl
  have hfg5_0 := blk_frozen Bg5.out 0
  have hfg5_1 := blk_frozen Bg5.out 1
  clear hb
  try go_wp2_with fail
  have n_ := Aside0.mk (Kd.R_drew O3_0.out); clear O3_0; have O3_0 := n_; clear n_
  have n_ := Aside0.mk (Kd.S_drew O3_1.out); clear O3_1; have O3_1 := n_; clear n_
  have n_ := Aside0.mk (Kd.R_drew O4_0.out); clear O4_0; have O4_0 := n_; clear n_
  have n_ := Aside0.mk (Kd.R_drew O5_0.out); clear O5_0; have O5_0 := n_; clear n_
  have n_ := Aside0.mk (Kd.S_drew O5_1.out); clear O5_1; have O5_1 := n_; clear n_
  have n_ := Aside0.mk (Kd.R_drew O8_0.out); clear O8_0; have O8_0 := n_; clear n_
  have n_ := Aside0.mk (blk_drew Bg1.out); clear Bg1; have Bg1 := n_; clear n_
  have n_ := Aside0.mk (blk_drew Bg5.out); clear Bg5; have Bg5 := n_; clear n_
  have n_ := Aside0.mk (below_drew1 HB.out); clear HB; have HB := n_; clear n_
  clear hxg1_0
  clear hxg1_1
  clear hfg1_0
  clear hfg1_1
  clear hxg5_0
  clear hxg5_1
  clear hfg5_0
  clear hfg5_1
  have hz := Aside0.mk (show w9_.heap.size ≤ w9_.drew.heap.size from Nat.le_refl _)
  refine start_ (n := 5) (S := fun w' => w'.cell? ⟨g5, 0, none⟩ = some (.slice A5_0_ r2_0.length c5_0_) ∧ w'.cell? ⟨g5, 1, none⟩ = some (.slice A5_1_ r2_1.length c5_1_) ∧ w'.cell? ⟨g1, 0, none⟩ = some (.slice A0_0 l0_0.length c0_0) ∧ w'.cell? ⟨g1, 1, none⟩ = some (.slice A0_1 l0_1.length c0_1)) (ds := []) #[false,false,false,false,false] (by kernel_rfl) rfl rfl ⟨(blk_cell Bg5.out 0).trans rfl, (blk_cell Bg5.out 1).trans rfl, (blk_cell Bg1.out 0).trans rfl, (blk_cell Bg1.out 1).trans rfl⟩ (fun hHeld => ?_)
  generalize w9_.drew = w10_ at O3_0 O3_1 O4_0 O5_0 O5_1 O8_0 Bg1 Bg5 HB hz hHeld ⊢
  have Z10_ := hz; clear hz
  refine take_ (i := 0) (N := some 27) (v := ?_) (a' := ?_) #[true,false,false,false,false] rfl rfl (by kernel_rfl) (fun _ _ _ h => h) (Or.inl ⟨by rfl, ?_⟩) hHeld ?_ ?_
  rotate_left
  · rintro w' ⟨s0, s1, s2, s3⟩; go_simp; with_reducible rfl
  rotate_left
  · simp only [Act.put, List.setIfInBounds_toArray, List.set_cons_zero, List.set_cons_succ, i64_w, i32_w]; rfl
  refine take_ (i := 1) (N := some 28) (v := ?_) (a' := ?_) #[true,true,false,false,false] rfl rfl (by kernel_rfl) (fun _ _ _ h => h) (Or.inl ⟨by rfl, ?_⟩) hHeld ?_ ?_
  rotate_left
  · rintro w' ⟨s0, s1, s2, s3⟩; go_simp; with_reducible rfl
  rotate_left
  · simp only [Act.put, List.setIfInBounds_toArray, List.set_cons_zero, List.set_cons_succ, i64_w, i32_w]; rfl
  refine one_ (i := 2) (N := some 29) #[true,true,true,false,false] rfl rfl (by kernel_rfl) (by decide) (fun K hK => ?_)
  refine goes_ Try.func33 (by kernel_rfl) rfl #[.agg #[.slice A0_0 l0_0.length c0_0, .slice A0_1 l0_1.length c0_1]] (by rfl) rfl rfl (by (try simp only [List.map_toArray, List.map_cons, List.map_nil]); first | done | rfl) ?_
  with_reducible refine (laws_toQuery.calls ke2 _ _ l0_0 _ _ l0_1 r2_0 r2_1 _ (Kd.C_below H0_0.out HB.out) HC0_0.out (Kd.C_below H0_1.out HB.out) HC0_1.out Ee2.out).mono ?_
  rintro e w11_ ⟨v11_0_, v11_1_, rfl, ho0, ho1, hb⟩
  refine ⟨_, rfl, ?_⟩
  have O11_0 := Aside0.mk (newR ho0 HB.out.size)
  have O11_1 := Aside0.mk (newS ho1 HB.out.size)
  have Z11_ := Aside0.mk (show w10_.heap.size ≤ w11_.heap.size from hb.size)
  have n_ := Aside0.mk (Kd.R_below O3_0.out hb); clear O3_0; have O3_0 := n_; clear n_
  have n_ := Aside0.mk (Kd.S_below O3_1.out hb); clear O3_1; have O3_1 := n_; clear n_
  have n_ := Aside0.mk (Kd.R_below O4_0.out hb); clear O4_0; have O4_0 := n_; clear n_
  have n_ := Aside0.mk (Kd.R_below O5_0.out hb); clear O5_0; have O5_0 := n_; clear n_
  have n_ := Aside0.mk (Kd.S_below O5_1.out hb); clear O5_1; have O5_1 := n_; clear n_
  have n_ := Aside0.mk (Kd.R_below O8_0.out hb); clear O8_0; have O8_0 := n_; clear n_
  have n_ := Aside0.mk (blk_below Bg1.out hb); clear Bg1; have Bg1 := n_; clear n_
  have n_ := Aside0.mk (blk_below Bg5.out hb); clear Bg5; have Bg5 := n_; clear n_
  have n_ := Aside0.mk (below_step HB.out hb); clear HB; have HB := n_; clear n_
  have hxg1_0 : w11_.cell? ⟨g1, 0, none⟩ = some (.slice A0_0 l0_0.length c0_0) := (blk_cell Bg1.out 0).trans rfl
  have hxg1_1 : w11_.cell? ⟨g1, 1, none⟩ = some (.slice A0_1 l0_1.length c0_1) := (blk_cell Bg1.out 1).trans rfl
  have hfg1_0 := blk_frozen Bg1.out 0
  have hfg1_1 := blk_frozen Bg1.out 1
  have hxg5_0 : w11_.cell? ⟨g5, 0, none⟩ = some (.slice A5_0_ r2_0.length c5_0_) := (blk_cell Bg5.out 0).trans rfl
  have hxg5_1 : w11_.cell? ⟨g5, 1, none⟩ = some (.slice A5_1_ r2_1.length c5_1_) := (blk_cell Bg5.out 1).trans rfl
  have hfg5_0 := blk_frozen Bg5.out 0
  have hfg5_1 := blk_frozen Bg5.out 1
  clear hb ho0 ho1
  obtain ⟨A11_0_, c11_0_, eq_⟩ := Kd.R_slice O11_0.out
  subst eq_
  obtain ⟨A11_1_, c11_1_, eq_⟩ := Kd.S_slice O11_1.out
  subst eq_
  clear hxg1_0
  clear hxg1_1
  clear hfg1_0
  clear hfg1_1
  clear hxg5_0
  clear hxg5_1
  clear hfg5_0
  clear hfg5_1
  refine hK.out _ _ ⟨(blk_cell Bg5.out 0).trans rfl, (blk_cell Bg5.out 1).trans rfl, (blk_cell Bg1.out 0).trans rfl, (blk_cell Bg1.out 1).trans rfl⟩ (fun hHeld => ?_)
  clear hK K
  refine norm_ (a' := ?_) ?_ ?_
  rotate_left
  · show Act.put _ (some 29) _ = _; simp only [Act.put, List.setIfInBounds_toArray, List.set_cons_zero, List.set_cons_succ, i64_w, i32_w]; rfl
  refine one_ (i := 3) (N := some 30) #[true,true,true,true,false] rfl rfl (by kernel_rfl) (by decide) (fun K hK => ?_)
  refine goes_ Try.func35 (by kernel_rfl) rfl #[.agg #[.slice A5_0_ r2_0.length c5_0_, .slice A5_1_ r2_1.length c5_1_], .agg #[.slice A11_0_ r2_0.length c11_0_, .slice A11_1_ r2_1.length c11_1_]] (by rfl) rfl rfl (by (try simp only [List.map_toArray, List.map_cons, List.map_nil]); first | done | rfl) ?_
  with_reducible refine (laws_eqQuery.calls ke6 _ _ r2_0 _ _ r2_1 _ _ r2_0 _ _ r2_1 true _ (Kd.R_reads' O5_0.out).2.2 (Kd.R_reads' O5_0.out).2.1 (Kd.S_reads' O5_1.out).2.2 (Kd.S_reads' O5_1.out).2.1 (Kd.R_reads' O11_0.out).2.2 (Kd.R_reads' O11_0.out).2.1 (Kd.S_reads' O11_1.out).2.2 (Kd.S_reads' O11_1.out).2.1 Ee6.out).mono ?_
  rintro e w12_ ⟨rfl, hb⟩
  refine ⟨_, rfl, ?_⟩
  have Z12_ := Aside0.mk (show w11_.heap.size ≤ w12_.heap.size from hb.size)
  have n_ := Aside0.mk (Kd.R_below O3_0.out hb); clear O3_0; have O3_0 := n_; clear n_
  have n_ := Aside0.mk (Kd.S_below O3_1.out hb); clear O3_1; have O3_1 := n_; clear n_
  have n_ := Aside0.mk (Kd.R_below O4_0.out hb); clear O4_0; have O4_0 := n_; clear n_
  have n_ := Aside0.mk (Kd.R_below O5_0.out hb); clear O5_0; have O5_0 := n_; clear n_
  have n_ := Aside0.mk (Kd.S_below O5_1.out hb); clear O5_1; have O5_1 := n_; clear n_
  have n_ := Aside0.mk (Kd.R_below O8_0.out hb); clear O8_0; have O8_0 := n_; clear n_
  have n_ := Aside0.mk (Kd.R_below O11_0.out hb); clear O11_0; have O11_0 := n_; clear n_
  have n_ := Aside0.mk (Kd.S_below O11_1.out hb); clear O11_1; have O11_1 := n_; clear n_
  have n_ := Aside0.mk (blk_below Bg1.out hb); clear Bg1; have Bg1 := n_; clear n_
  have n_ := Aside0.mk (blk_below Bg5.out hb); clear Bg5; have Bg5 := n_; clear n_
  have n_ := Aside0.mk (below_step HB.out hb); clear HB; have HB := n_; clear n_
  have hxg1_0 : w12_.cell? ⟨g1, 0, none⟩ = some (.slice A0_0 l0_0.length c0_0) := (blk_cell Bg1.out 0).trans rfl
  have hxg1_1 : w12_.cell? ⟨g1, 1, none⟩ = some (.slice A0_1 l0_1.length c0_1) := (blk_cell Bg1.out 1).trans rfl
  have hfg1_0 := blk_frozen Bg1.out 0
  have hfg1_1 := blk_frozen Bg1.out 1
  have hxg5_0 : w12_.cell? ⟨g5, 0, none⟩ = some (.slice A5_0_ r2_0.length c5_0_) := (blk_cell Bg5.out 0).trans rfl
  have hxg5_1 : w12_.cell? ⟨g5, 1, none⟩ = some (.slice A5_1_ r2_1.length c5_1_) := (blk_cell Bg5.out 1).trans rfl
  have hfg5_0 := blk_frozen Bg5.out 0
  have hfg5_1 := blk_frozen Bg5.out 1
  clear hb
  clear hxg1_0
  clear hxg1_1
  clear hfg1_0
  clear hfg1_1
  clear hxg5_0
  clear hxg5_1
  clear hfg5_0
  clear hfg5_1
  refine hK.out _ _ ⟨(blk_cell Bg5.out 0).trans rfl, (blk_cell Bg5.out 1).trans rfl, (blk_cell Bg1.out 0).trans rfl, (blk_cell Bg1.out 1).trans rfl⟩ (fun hHeld => ?_)
  clear hK K
  refine norm_ (a' := ?_) ?_ ?_
  rotate_left
  · show Act.put _ (some 30) _ = _; simp only [Act.put, List.setIfInBounds_toArray, List.set_cons_zero, List.set_cons_succ, i64_w, i32_w]; rfl
  refine pure_ (i := 4) (N := some 31) (v := ?_) (a' := ?_) #[true,true,true,true,true] rfl rfl (by kernel_rfl) (fun _ _ _ h => h) (Or.inl ⟨by rfl, ?_⟩) ?_ ?_
  rotate_left
  · intro w'; go_simp; with_reducible rfl
  rotate_left
  · simp only [Act.put, List.setIfInBounds_toArray, List.set_cons_zero, List.set_cons_succ, i64_w, i32_w]; rfl
  refine done_ (by kernel_rfl) ?_
  have hxg1_0 : w12_.cell? ⟨g1, 0, none⟩ = some (.slice A0_0 l0_0.length c0_0) := (blk_cell Bg1.out 0).trans rfl
  have hxg1_1 : w12_.cell? ⟨g1, 1, none⟩ = some (.slice A0_1 l0_1.length c0_1) := (blk_cell Bg1.out 1).trans rfl
  have hfg1_0 := blk_frozen Bg1.out 0
  have hfg1_1 := blk_frozen Bg1.out 1
  have hxg5_0 : w12_.cell? ⟨g5, 0, none⟩ = some (.slice A5_0_ r2_0.length c5_0_) := (blk_cell Bg5.out 0).trans rfl
  have hxg5_1 : w12_.cell? ⟨g5, 1, none⟩ = some (.slice A5_1_ r2_1.length c5_1_) := (blk_cell Bg5.out 1).trans rfl
  have hfg5_0 := blk_frozen Bg5.out 0
  have hfg5_1 := blk_frozen Bg5.out 1
  go_wp2_with (first | (go_at_call 36; refine hold ?_))
  unfold Hold
  refine (markQuery_calls (fun k_ => w4_.heap.size ≤ k_ ∧ k_ < w5_.heap.size) (.slice A5_0_ r2_0.length c5_0_) (.slice A5_1_ r2_1.length c5_1_) r2_0 r2_1 1 r7_0 r7_1 r7_2 w _ HB.out (Kd.R_mono O5_0.out (fun _ h_ => h_.1)) (Kd.S_mono O5_1.out (fun _ h_ => ⟨h_.1, h_.2⟩)) e7_hz0.out Ee7.out).mono ?_
  rintro e w13_ ⟨rfl, ho0, ho1, hb0, hk⟩
  have n_ := Aside0.mk (show Kd.R (Kd.int .i64) 3 w13_ w.heap.size (fun k_ => (w4_.heap.size ≤ k_ ∧ k_ < w5_.heap.size) ∧ True) (.slice A5_0_ r2_0.length c5_0_) r7_1 from Kd.R_mono (Kd.R_tight2 rfl ho0) (fun k_ hk_ => ⟨(O5_0.out.1 k_ hk_.1.symm).1, trivial⟩)); clear O5_0; have O5_0 := n_; clear n_
  have n_ := Aside0.mk (show Kd.S k38 38 w13_ w.heap.size (fun k_ => (w4_.heap.size ≤ k_ ∧ k_ < w5_.heap.size) ∧ some k_ ≠ (.slice A5_0_ r2_0.length c5_0_ : Value).ownBlock) (.slice A5_1_ r2_1.length c5_1_) r7_2 from Kd.S_mono ho1 (fun _ hk_ => ⟨hk_.1, hk_.2⟩)); clear O5_1; have O5_1 := n_; clear n_
  clear ho0
  clear ho1
  have Z13_ := Aside0.mk (show w12_.heap.size ≤ w13_.heap.size from hk.1)
  have n_ := Aside0.mk (Kd.R_kept O3_0.out hk (fun k_ hk1 hk2 => by obtain ⟨a1_, a2_⟩ := hk1.1; obtain ⟨b1_, b2_⟩ := hk2; have z4_ := Z4_.out; omega)); clear O3_0; have O3_0 := n_; clear n_
  have n_ := Aside0.mk (Kd.S_kept O3_1.out hk (fun k_ hk1 hk2 => by obtain ⟨a1_, a2_⟩ := hk1.1; obtain ⟨b1_, b2_⟩ := hk2; have z4_ := Z4_.out; omega)); clear O3_1; have O3_1 := n_; clear n_
  have n_ := Aside0.mk (Kd.R_kept O4_0.out hk (fun k_ hk1 hk2 => by obtain ⟨a1_, a2_⟩ := hk1.1; obtain ⟨b1_, b2_⟩ := hk2; omega)); clear O4_0; have O4_0 := n_; clear n_
  have n_ := Aside0.mk (Kd.R_kept O8_0.out hk (fun k_ hk1 hk2 => by obtain ⟨a1_, a2_⟩ := hk1.1; obtain ⟨b1_, b2_⟩ := hk2; have z6_ := Z6_.out; have z7_ := Z7_.out; omega)); clear O8_0; have O8_0 := n_; clear n_
  have n_ := Aside0.mk (Kd.R_kept O11_0.out hk (fun k_ hk1 hk2 => by obtain ⟨a1_, a2_⟩ := hk1.1; obtain ⟨b1_, b2_⟩ := hk2; have z6_ := Z6_.out; have z7_ := Z7_.out; have z8_ := Z8_.out; have z9_ := Z9_.out; have z10_ := Z10_.out; omega)); clear O11_0; have O11_0 := n_; clear n_
  have n_ := Aside0.mk (Kd.S_kept O11_1.out hk (fun k_ hk1 hk2 => by obtain ⟨a1_, a2_⟩ := hk1.1; obtain ⟨b1_, b2_⟩ := hk2; have z6_ := Z6_.out; have z7_ := Z7_.out; have z8_ := Z8_.out; have z9_ := Z9_.out; have z10_ := Z10_.out; omega)); clear O11_1; have O11_1 := n_; clear n_
  have n_ := Aside0.mk (blk_kept Bg1.out hk (fun hk2 => by obtain ⟨a1_, a2_⟩ := Gg1.out; obtain ⟨b1_, b2_⟩ := hk2; have z2_ := Z2_.out; have z3_ := Z3_.out; have z4_ := Z4_.out; omega)); clear Bg1; have Bg1 := n_; clear n_
  have n_ := Aside0.mk (blk_kept Bg5.out hk (fun hk2 => by obtain ⟨a1_, a2_⟩ := Gg5.out; obtain ⟨b1_, b2_⟩ := hk2; omega)); clear Bg5; have Bg5 := n_; clear n_
  clear HB; have HB := Aside0.mk hb0
  clear hxg1_0
  clear hxg1_1
  clear hfg1_0
  clear hfg1_1
  clear hxg5_0
  clear hxg5_1
  clear hfg5_0
  clear hfg5_1
  have hxg1_0 : w13_.cell? ⟨g1, 0, none⟩ = some (.slice A0_0 l0_0.length c0_0) := (blk_cell Bg1.out 0).trans rfl
  have hxg1_1 : w13_.cell? ⟨g1, 1, none⟩ = some (.slice A0_1 l0_1.length c0_1) := (blk_cell Bg1.out 1).trans rfl
  have hfg1_0 := blk_frozen Bg1.out 0
  have hfg1_1 := blk_frozen Bg1.out 1
  have hxg5_0 : w13_.cell? ⟨g5, 0, none⟩ = some (.slice A5_0_ r2_0.length c5_0_) := (blk_cell Bg5.out 0).trans rfl
  have hxg5_1 : w13_.cell? ⟨g5, 1, none⟩ = some (.slice A5_1_ r2_1.length c5_1_) := (blk_cell Bg5.out 1).trans rfl
  have hfg5_0 := blk_frozen Bg5.out 0
  have hfg5_1 := blk_frozen Bg5.out 1
  clear hk hb0
  go_wp2_with (first | (go_at_call 18; refine hold ?_))
  unfold Hold
  refine (laws_eqIntS.calls ke5 _ _ r3_0 _ _ r3_0 true _ (Kd.R_reads' O8_0.out).2.2 (Kd.R_reads' O8_0.out).2.1 (Kd.R_reads' O4_0.out).2.2 (Kd.R_reads' O4_0.out).2.1 Ee5.out).mono ?_
  rintro e w14_ ⟨rfl, hd⟩
  have hb := hd.below; clear hd
  have Z14_ := Aside0.mk (show w13_.heap.size ≤ w14_.heap.size from hb.size)
  have n_ := Aside0.mk (Kd.R_below O3_0.out hb); clear O3_0; have O3_0 := n_; clear n_
  have n_ := Aside0.mk (Kd.S_below O3_1.out hb); clear O3_1; have O3_1 := n_; clear n_
  have n_ := Aside0.mk (Kd.R_below O4_0.out hb); clear O4_0; have O4_0 := n_; clear n_
  have n_ := Aside0.mk (Kd.R_below O5_0.out hb); clear O5_0; have O5_0 := n_; clear n_
  have n_ := Aside0.mk (Kd.S_below O5_1.out hb); clear O5_1; have O5_1 := n_; clear n_
  have n_ := Aside0.mk (Kd.R_below O8_0.out hb); clear O8_0; have O8_0 := n_; clear n_
  have n_ := Aside0.mk (Kd.R_below O11_0.out hb); clear O11_0; have O11_0 := n_; clear n_
  have n_ := Aside0.mk (Kd.S_below O11_1.out hb); clear O11_1; have O11_1 := n_; clear n_
  have n_ := Aside0.mk (blk_below Bg1.out hb); clear Bg1; have Bg1 := n_; clear n_
  have n_ := Aside0.mk (blk_below Bg5.out hb); clear Bg5; have Bg5 := n_; clear n_
  have n_ := Aside0.mk (below_step HB.out hb); clear HB; have HB := n_; clear n_
  clear hxg1_0
  clear hxg1_1
  clear hfg1_0
  clear hfg1_1
  clear hxg5_0
  clear hxg5_1
  clear hfg5_0
  clear hfg5_1
  have hxg1_0 : w14_.cell? ⟨g1, 0, none⟩ = some (.slice A0_0 l0_0.length c0_0) := (blk_cell Bg1.out 0).trans rfl
  have hxg1_1 : w14_.cell? ⟨g1, 1, none⟩ = some (.slice A0_1 l0_1.length c0_1) := (blk_cell Bg1.out 1).trans rfl
  have hfg1_0 := blk_frozen Bg1.out 0
  have hfg1_1 := blk_frozen Bg1.out 1
  have hxg5_0 : w14_.cell? ⟨g5, 0, none⟩ = some (.slice A5_0_ r2_0.length c5_0_) := (blk_cell Bg5.out 0).trans rfl
  have hxg5_1 : w14_.cell? ⟨g5, 1, none⟩ = some (.slice A5_1_ r2_1.length c5_1_) := (blk_cell Bg5.out 1).trans rfl
  have hfg5_0 := blk_frozen Bg5.out 0
  have hfg5_1 := blk_frozen Bg5.out 1
  clear hb
  go_wp2_with (first | (go_at_call 37; refine hold ?_))
  unfold Hold
  refine (laws_markIntS.calls ke9 (fun k_ => w7_.heap.size ≤ k_ ∧ k_ < w8_.heap.size) (.slice A8_0_ r3_0.length c8_0_) r3_0 1 r9_0 r9_1 w _ HB.out (Kd.R_mono O8_0.out (fun _ h_ => h_.1)) Ee9.out).mono ?_
  rintro e w15_ ⟨rfl, ho0, hb0, hk⟩
  have n_ := Aside0.mk (show Kd.R (Kd.int .i64) 3 w15_ w.heap.size (fun k_ => (w7_.heap.size ≤ k_ ∧ k_ < w8_.heap.size) ∧ True) (.slice A8_0_ r3_0.length c8_0_) r9_1 from Kd.R_mono (Kd.R_tight2 rfl ho0) (fun k_ hk_ => ⟨(O8_0.out.1 k_ hk_.1.symm).1, trivial⟩)); clear O8_0; have O8_0 := n_; clear n_
  clear ho0
  have Z15_ := Aside0.mk (show w14_.heap.size ≤ w15_.heap.size from hk.1)
  have n_ := Aside0.mk (Kd.R_kept O3_0.out hk (fun k_ hk1 hk2 => by obtain ⟨a1_, a2_⟩ := hk1.1; obtain ⟨b1_, b2_⟩ := hk2; have z4_ := Z4_.out; have z5_ := Z5_.out; have z6_ := Z6_.out; have z7_ := Z7_.out; omega)); clear O3_0; have O3_0 := n_; clear n_
  have n_ := Aside0.mk (Kd.S_kept O3_1.out hk (fun k_ hk1 hk2 => by obtain ⟨a1_, a2_⟩ := hk1.1; obtain ⟨b1_, b2_⟩ := hk2; have z4_ := Z4_.out; have z5_ := Z5_.out; have z6_ := Z6_.out; have z7_ := Z7_.out; omega)); clear O3_1; have O3_1 := n_; clear n_
  have n_ := Aside0.mk (Kd.R_kept O4_0.out hk (fun k_ hk1 hk2 => by obtain ⟨a1_, a2_⟩ := hk1.1; obtain ⟨b1_, b2_⟩ := hk2; have z5_ := Z5_.out; have z6_ := Z6_.out; have z7_ := Z7_.out; omega)); clear O4_0; have O4_0 := n_; clear n_
  have n_ := Aside0.mk (Kd.R_kept O5_0.out hk (fun k_ hk1 hk2 => by obtain ⟨a1_, a2_⟩ := hk1.1; obtain ⟨b1_, b2_⟩ := hk2; have z6_ := Z6_.out; have z7_ := Z7_.out; omega)); clear O5_0; have O5_0 := n_; clear n_
  have n_ := Aside0.mk (Kd.S_kept O5_1.out hk (fun k_ hk1 hk2 => by obtain ⟨a1_, a2_⟩ := hk1.1; obtain ⟨b1_, b2_⟩ := hk2; have z6_ := Z6_.out; have z7_ := Z7_.out; omega)); clear O5_1; have O5_1 := n_; clear n_
  have n_ := Aside0.mk (Kd.R_kept O11_0.out hk (fun k_ hk1 hk2 => by obtain ⟨a1_, a2_⟩ := hk1.1; obtain ⟨b1_, b2_⟩ := hk2; have z9_ := Z9_.out; have z10_ := Z10_.out; omega)); clear O11_0; have O11_0 := n_; clear n_
  have n_ := Aside0.mk (Kd.S_kept O11_1.out hk (fun k_ hk1 hk2 => by obtain ⟨a1_, a2_⟩ := hk1.1; obtain ⟨b1_, b2_⟩ := hk2; have z9_ := Z9_.out; have z10_ := Z10_.out; omega)); clear O11_1; have O11_1 := n_; clear n_
  have n_ := Aside0.mk (blk_kept Bg1.out hk (fun hk2 => by obtain ⟨a1_, a2_⟩ := Gg1.out; obtain ⟨b1_, b2_⟩ := hk2; have z2_ := Z2_.out; have z3_ := Z3_.out; have z4_ := Z4_.out; have z5_ := Z5_.out; have z6_ := Z6_.out; have z7_ := Z7_.out; omega)); clear Bg1; have Bg1 := n_; clear n_
  have n_ := Aside0.mk (blk_kept Bg5.out hk (fun hk2 => by obtain ⟨a1_, a2_⟩ := Gg5.out; obtain ⟨b1_, b2_⟩ := hk2; have z7_ := Z7_.out; omega)); clear Bg5; have Bg5 := n_; clear n_
  clear HB; have HB := Aside0.mk hb0
  clear hxg1_0
  clear hxg1_1
  clear hfg1_0
  clear hfg1_1
  clear hxg5_0
  clear hxg5_1
  clear hfg5_0
  clear hfg5_1
  have hxg1_0 : w15_.cell? ⟨g1, 0, none⟩ = some (.slice A0_0 l0_0.length c0_0) := (blk_cell Bg1.out 0).trans rfl
  have hxg1_1 : w15_.cell? ⟨g1, 1, none⟩ = some (.slice A0_1 l0_1.length c0_1) := (blk_cell Bg1.out 1).trans rfl
  have hfg1_0 := blk_frozen Bg1.out 0
  have hfg1_1 := blk_frozen Bg1.out 1
  have hxg5_0 : w15_.cell? ⟨g5, 0, none⟩ = some (.slice A5_0_ r2_0.length c5_0_) := (blk_cell Bg5.out 0).trans rfl
  have hxg5_1 : w15_.cell? ⟨g5, 1, none⟩ = some (.slice A5_1_ r2_1.length c5_1_) := (blk_cell Bg5.out 1).trans rfl
  have hfg5_0 := blk_frozen Bg5.out 0
  have hfg5_1 := blk_frozen Bg5.out 1
  clear hk hb0
  go_wp2_with (first | (go_at_call 38; refine hold ?_))
  unfold Hold
  refine calls_of_args (args' := #[.slice A8_0_ r9_1.length c8_0_, .int .i64 1]) (by rw [show r3_0.length = r9_1.length from (Kd.R_reads' O8_0.out).1]) ?_
  refine (laws_heldIntS.calls ke10 _ _ r9_1 1 r9_0 _ (Kd.R_reads' O8_0.out).2.2 (Nat.le_trans (Nat.le_of_eq (Kd.R_reads' O8_0.out).1.symm) (Kd.R_reads' O8_0.out).2.1) Ee10.out).mono ?_
  rintro e w16_ ⟨rfl, hd⟩
  have hb := hd.below; clear hd
  have Z16_ := Aside0.mk (show w15_.heap.size ≤ w16_.heap.size from hb.size)
  have n_ := Aside0.mk (Kd.R_below O3_0.out hb); clear O3_0; have O3_0 := n_; clear n_
  have n_ := Aside0.mk (Kd.S_below O3_1.out hb); clear O3_1; have O3_1 := n_; clear n_
  have n_ := Aside0.mk (Kd.R_below O4_0.out hb); clear O4_0; have O4_0 := n_; clear n_
  have n_ := Aside0.mk (Kd.R_below O5_0.out hb); clear O5_0; have O5_0 := n_; clear n_
  have n_ := Aside0.mk (Kd.S_below O5_1.out hb); clear O5_1; have O5_1 := n_; clear n_
  have n_ := Aside0.mk (Kd.R_below O8_0.out hb); clear O8_0; have O8_0 := n_; clear n_
  have n_ := Aside0.mk (Kd.R_below O11_0.out hb); clear O11_0; have O11_0 := n_; clear n_
  have n_ := Aside0.mk (Kd.S_below O11_1.out hb); clear O11_1; have O11_1 := n_; clear n_
  have n_ := Aside0.mk (blk_below Bg1.out hb); clear Bg1; have Bg1 := n_; clear n_
  have n_ := Aside0.mk (blk_below Bg5.out hb); clear Bg5; have Bg5 := n_; clear n_
  have n_ := Aside0.mk (below_step HB.out hb); clear HB; have HB := n_; clear n_
  clear hxg1_0
  clear hxg1_1
  clear hfg1_0
  clear hfg1_1
  clear hxg5_0
  clear hxg5_1
  clear hfg5_0
  clear hfg5_1
  have hxg1_0 : w16_.cell? ⟨g1, 0, none⟩ = some (.slice A0_0 l0_0.length c0_0) := (blk_cell Bg1.out 0).trans rfl
  have hxg1_1 : w16_.cell? ⟨g1, 1, none⟩ = some (.slice A0_1 l0_1.length c0_1) := (blk_cell Bg1.out 1).trans rfl
  have hfg1_0 := blk_frozen Bg1.out 0
  have hfg1_1 := blk_frozen Bg1.out 1
  have hxg5_0 : w16_.cell? ⟨g5, 0, none⟩ = some (.slice A5_0_ r2_0.length c5_0_) := (blk_cell Bg5.out 0).trans rfl
  have hxg5_1 : w16_.cell? ⟨g5, 1, none⟩ = some (.slice A5_1_ r2_1.length c5_1_) := (blk_cell Bg5.out 1).trans rfl
  have hfg5_0 := blk_frozen Bg5.out 0
  have hfg5_1 := blk_frozen Bg5.out 1
  clear hb
  go_wp2_with (first | (go_at_call 33; refine hold ?_))
  unfold Hold
  refine (laws_toQuery.calls ke2 _ _ l0_0 _ _ l0_1 r2_0 r2_1 _ (Kd.C_below H0_0.out HB.out) HC0_0.out (Kd.C_below H0_1.out HB.out) HC0_1.out Ee2.out).mono ?_
  rintro e w17_ ⟨v17_0_, v17_1_, rfl, ho0, ho1, hb⟩
  have O17_0 := Aside0.mk (newR ho0 HB.out.size)
  have O17_1 := Aside0.mk (newS ho1 HB.out.size)
  have Z17_ := Aside0.mk (show w16_.heap.size ≤ w17_.heap.size from hb.size)
  have n_ := Aside0.mk (Kd.R_below O3_0.out hb); clear O3_0; have O3_0 := n_; clear n_
  have n_ := Aside0.mk (Kd.S_below O3_1.out hb); clear O3_1; have O3_1 := n_; clear n_
  have n_ := Aside0.mk (Kd.R_below O4_0.out hb); clear O4_0; have O4_0 := n_; clear n_
  have n_ := Aside0.mk (Kd.R_below O5_0.out hb); clear O5_0; have O5_0 := n_; clear n_
  have n_ := Aside0.mk (Kd.S_below O5_1.out hb); clear O5_1; have O5_1 := n_; clear n_
  have n_ := Aside0.mk (Kd.R_below O8_0.out hb); clear O8_0; have O8_0 := n_; clear n_
  have n_ := Aside0.mk (Kd.R_below O11_0.out hb); clear O11_0; have O11_0 := n_; clear n_
  have n_ := Aside0.mk (Kd.S_below O11_1.out hb); clear O11_1; have O11_1 := n_; clear n_
  have n_ := Aside0.mk (blk_below Bg1.out hb); clear Bg1; have Bg1 := n_; clear n_
  have n_ := Aside0.mk (blk_below Bg5.out hb); clear Bg5; have Bg5 := n_; clear n_
  have n_ := Aside0.mk (below_step HB.out hb); clear HB; have HB := n_; clear n_
  clear hxg1_0
  clear hxg1_1
  clear hfg1_0
  clear hfg1_1
  clear hxg5_0
  clear hxg5_1
  clear hfg5_0
  clear hfg5_1
  have hxg1_0 : w17_.cell? ⟨g1, 0, none⟩ = some (.slice A0_0 l0_0.length c0_0) := (blk_cell Bg1.out 0).trans rfl
  have hxg1_1 : w17_.cell? ⟨g1, 1, none⟩ = some (.slice A0_1 l0_1.length c0_1) := (blk_cell Bg1.out 1).trans rfl
  have hfg1_0 := blk_frozen Bg1.out 0
  have hfg1_1 := blk_frozen Bg1.out 1
  have hxg5_0 : w17_.cell? ⟨g5, 0, none⟩ = some (.slice A5_0_ r2_0.length c5_0_) := (blk_cell Bg5.out 0).trans rfl
  have hxg5_1 : w17_.cell? ⟨g5, 1, none⟩ = some (.slice A5_1_ r2_1.length c5_1_) := (blk_cell Bg5.out 1).trans rfl
  have hfg5_0 := blk_frozen Bg5.out 0
  have hfg5_1 := blk_frozen Bg5.out 1
  clear hb ho0 ho1
  obtain ⟨A17_0_, c17_0_, eq_⟩ := Kd.R_slice O17_0.out
  subst eq_
  obtain ⟨A17_1_, c17_1_, eq_⟩ := Kd.S_slice O17_1.out
  subst eq_
  go_wp2_with (first | (go_at_call 34; refine hold ?_))
  unfold Hold
  refine (impl_VarsOf.calls ke4 _ _ r2_0 _ _ r2_1 r3_0 _ (Kd.R_reads' O17_0.out).2.2 (Kd.R_reads' O17_0.out).2.1 (Kd.S_reads' O17_1.out).2.2 (Kd.S_reads' O17_1.out).2.1 Ee4.out).mono ?_
  rintro e w18_ ⟨v18_0_, rfl, ho0, hb⟩
  have O18_0 := Aside0.mk (newR ho0 HB.out.size)
  have Z18_ := Aside0.mk (show w17_.heap.size ≤ w18_.heap.size from hb.size)
  have n_ := Aside0.mk (Kd.R_below O3_0.out hb); clear O3_0; have O3_0 := n_; clear n_
  have n_ := Aside0.mk (Kd.S_below O3_1.out hb); clear O3_1; have O3_1 := n_; clear n_
  have n_ := Aside0.mk (Kd.R_below O4_0.out hb); clear O4_0; have O4_0 := n_; clear n_
  have n_ := Aside0.mk (Kd.R_below O5_0.out hb); clear O5_0; have O5_0 := n_; clear n_
  have n_ := Aside0.mk (Kd.S_below O5_1.out hb); clear O5_1; have O5_1 := n_; clear n_
  have n_ := Aside0.mk (Kd.R_below O8_0.out hb); clear O8_0; have O8_0 := n_; clear n_
  have n_ := Aside0.mk (Kd.R_below O11_0.out hb); clear O11_0; have O11_0 := n_; clear n_
  have n_ := Aside0.mk (Kd.S_below O11_1.out hb); clear O11_1; have O11_1 := n_; clear n_
  have n_ := Aside0.mk (Kd.R_below O17_0.out hb); clear O17_0; have O17_0 := n_; clear n_
  have n_ := Aside0.mk (Kd.S_below O17_1.out hb); clear O17_1; have O17_1 := n_; clear n_
  have n_ := Aside0.mk (blk_below Bg1.out hb); clear Bg1; have Bg1 := n_; clear n_
  have n_ := Aside0.mk (blk_below Bg5.out hb); clear Bg5; have Bg5 := n_; clear n_
  have n_ := Aside0.mk (below_step HB.out hb); clear HB; have HB := n_; clear n_
  clear hxg1_0
  clear hxg1_1
  clear hfg1_0
  clear hfg1_1
  clear hxg5_0
  clear hxg5_1
  clear hfg5_0
  clear hfg5_1
  have hxg1_0 : w18_.cell? ⟨g1, 0, none⟩ = some (.slice A0_0 l0_0.length c0_0) := (blk_cell Bg1.out 0).trans rfl
  have hxg1_1 : w18_.cell? ⟨g1, 1, none⟩ = some (.slice A0_1 l0_1.length c0_1) := (blk_cell Bg1.out 1).trans rfl
  have hfg1_0 := blk_frozen Bg1.out 0
  have hfg1_1 := blk_frozen Bg1.out 1
  have hxg5_0 : w18_.cell? ⟨g5, 0, none⟩ = some (.slice A5_0_ r2_0.length c5_0_) := (blk_cell Bg5.out 0).trans rfl
  have hxg5_1 : w18_.cell? ⟨g5, 1, none⟩ = some (.slice A5_1_ r2_1.length c5_1_) := (blk_cell Bg5.out 1).trans rfl
  have hfg5_0 := blk_frozen Bg5.out 0
  have hfg5_1 := blk_frozen Bg5.out 1
  clear hb ho0
  obtain ⟨A18_0_, c18_0_, eq_⟩ := Kd.R_slice O18_0.out
  subst eq_
  go_wp2_with (first | (go_at_call 18; refine hold ?_))
  unfold Hold
  refine (laws_eqIntS.calls ke5 _ _ r3_0 _ _ r3_0 true _ (Kd.R_reads' O18_0.out).2.2 (Kd.R_reads' O18_0.out).2.1 (Kd.R_reads' O4_0.out).2.2 (Kd.R_reads' O4_0.out).2.1 Ee5.out).mono ?_
  rintro e w19_ ⟨rfl, hd⟩
  have hb := hd.below; clear hd
  have Z19_ := Aside0.mk (show w18_.heap.size ≤ w19_.heap.size from hb.size)
  have n_ := Aside0.mk (Kd.R_below O3_0.out hb); clear O3_0; have O3_0 := n_; clear n_
  have n_ := Aside0.mk (Kd.S_below O3_1.out hb); clear O3_1; have O3_1 := n_; clear n_
  have n_ := Aside0.mk (Kd.R_below O4_0.out hb); clear O4_0; have O4_0 := n_; clear n_
  have n_ := Aside0.mk (Kd.R_below O5_0.out hb); clear O5_0; have O5_0 := n_; clear n_
  have n_ := Aside0.mk (Kd.S_below O5_1.out hb); clear O5_1; have O5_1 := n_; clear n_
  have n_ := Aside0.mk (Kd.R_below O8_0.out hb); clear O8_0; have O8_0 := n_; clear n_
  have n_ := Aside0.mk (Kd.R_below O11_0.out hb); clear O11_0; have O11_0 := n_; clear n_
  have n_ := Aside0.mk (Kd.S_below O11_1.out hb); clear O11_1; have O11_1 := n_; clear n_
  have n_ := Aside0.mk (Kd.R_below O17_0.out hb); clear O17_0; have O17_0 := n_; clear n_
  have n_ := Aside0.mk (Kd.S_below O17_1.out hb); clear O17_1; have O17_1 := n_; clear n_
  have n_ := Aside0.mk (Kd.R_below O18_0.out hb); clear O18_0; have O18_0 := n_; clear n_
  have n_ := Aside0.mk (blk_below Bg1.out hb); clear Bg1; have Bg1 := n_; clear n_
  have n_ := Aside0.mk (blk_below Bg5.out hb); clear Bg5; have Bg5 := n_; clear n_
  have n_ := Aside0.mk (below_step HB.out hb); clear HB; have HB := n_; clear n_
  clear hxg1_0
  clear hxg1_1
  clear hfg1_0
  clear hfg1_1
  clear hxg5_0
  clear hxg5_1
  clear hfg5_0
  clear hfg5_1
  have hxg1_0 : w19_.cell? ⟨g1, 0, none⟩ = some (.slice A0_0 l0_0.length c0_0) := (blk_cell Bg1.out 0).trans rfl
  have hxg1_1 : w19_.cell? ⟨g1, 1, none⟩ = some (.slice A0_1 l0_1.length c0_1) := (blk_cell Bg1.out 1).trans rfl
  have hfg1_0 := blk_frozen Bg1.out 0
  have hfg1_1 := blk_frozen Bg1.out 1
  have hxg5_0 : w19_.cell? ⟨g5, 0, none⟩ = some (.slice A5_0_ r2_0.length c5_0_) := (blk_cell Bg5.out 0).trans rfl
  have hxg5_1 : w19_.cell? ⟨g5, 1, none⟩ = some (.slice A5_1_ r2_1.length c5_1_) := (blk_cell Bg5.out 1).trans rfl
  have hfg5_0 := blk_frozen Bg5.out 0
  have hfg5_1 := blk_frozen Bg5.out 1
  clear hb
  go_wp2_with (first | (go_at_call 38; refine hold ?_))
  unfold Hold
  refine calls_of_args (args' := #[.slice A8_0_ r9_1.length c8_0_, .int .i64 1]) (by rw [show r3_0.length = r9_1.length from (Kd.R_reads' O8_0.out).1]) ?_
  refine (laws_heldIntS.calls ke10 _ _ r9_1 1 r9_0 _ (Kd.R_reads' O8_0.out).2.2 (Nat.le_trans (Nat.le_of_eq (Kd.R_reads' O8_0.out).1.symm) (Kd.R_reads' O8_0.out).2.1) Ee10.out).mono ?_
  rintro e w20_ ⟨rfl, hd⟩
  have hb := hd.below; clear hd
  have Z20_ := Aside0.mk (show w19_.heap.size ≤ w20_.heap.size from hb.size)
  have n_ := Aside0.mk (Kd.R_below O3_0.out hb); clear O3_0; have O3_0 := n_; clear n_
  have n_ := Aside0.mk (Kd.S_below O3_1.out hb); clear O3_1; have O3_1 := n_; clear n_
  have n_ := Aside0.mk (Kd.R_below O4_0.out hb); clear O4_0; have O4_0 := n_; clear n_
  have n_ := Aside0.mk (Kd.R_below O5_0.out hb); clear O5_0; have O5_0 := n_; clear n_
  have n_ := Aside0.mk (Kd.S_below O5_1.out hb); clear O5_1; have O5_1 := n_; clear n_
  have n_ := Aside0.mk (Kd.R_below O8_0.out hb); clear O8_0; have O8_0 := n_; clear n_
  have n_ := Aside0.mk (Kd.R_below O11_0.out hb); clear O11_0; have O11_0 := n_; clear n_
  have n_ := Aside0.mk (Kd.S_below O11_1.out hb); clear O11_1; have O11_1 := n_; clear n_
  have n_ := Aside0.mk (Kd.R_below O17_0.out hb); clear O17_0; have O17_0 := n_; clear n_
  have n_ := Aside0.mk (Kd.S_below O17_1.out hb); clear O17_1; have O17_1 := n_; clear n_
  have n_ := Aside0.mk (Kd.R_below O18_0.out hb); clear O18_0; have O18_0 := n_; clear n_
  have n_ := Aside0.mk (blk_below Bg1.out hb); clear Bg1; have Bg1 := n_; clear n_
  have n_ := Aside0.mk (blk_below Bg5.out hb); clear Bg5; have Bg5 := n_; clear n_
  have n_ := Aside0.mk (below_step HB.out hb); clear HB; have HB := n_; clear n_
  clear hxg1_0
  clear hxg1_1
  clear hfg1_0
  clear hfg1_1
  clear hxg5_0
  clear hxg5_1
  clear hfg5_0
  clear hfg5_1
  have hxg1_0 : w20_.cell? ⟨g1, 0, none⟩ = some (.slice A0_0 l0_0.length c0_0) := (blk_cell Bg1.out 0).trans rfl
  have hxg1_1 : w20_.cell? ⟨g1, 1, none⟩ = some (.slice A0_1 l0_1.length c0_1) := (blk_cell Bg1.out 1).trans rfl
  have hfg1_0 := blk_frozen Bg1.out 0
  have hfg1_1 := blk_frozen Bg1.out 1
  have hxg5_0 : w20_.cell? ⟨g5, 0, none⟩ = some (.slice A5_0_ r2_0.length c5_0_) := (blk_cell Bg5.out 0).trans rfl
  have hxg5_1 : w20_.cell? ⟨g5, 1, none⟩ = some (.slice A5_1_ r2_1.length c5_1_) := (blk_cell Bg5.out 1).trans rfl
  have hfg5_0 := blk_frozen Bg5.out 0
  have hfg5_1 := blk_frozen Bg5.out 1
  clear hb
  go_wp2
  go_ret
  exact ⟨rfl, HB.out⟩
theorem FnExactVarsOf_calls (A0_0 : Option Addr) (c0_0 : Nat) (l0_0 : List Int) (A0_1 : Option Addr) (c0_1 : Nat) (l0_1 : List S35) (w : World) (hr0_0 : Kd.C (Kd.int .i64) w A0_0 l0_0.length l0_0) (hc0_0 : l0_0.length ≤ c0_0) (hr0_1 : Kd.C k35 w A0_1 l0_1.length l0_1) (hc0_1 : l0_1.length ≤ c0_1) (w0 : (WfL WfI) l0_0 ∧ (WfL (fun x : S35 => WfI x.f0 ∧ (WfL WfI) x.f1)) l0_1) :
    Calls Try.prog 7 #[.agg #[.slice A0_0 l0_0.length c0_0, .slice A0_1 l0_1.length c0_1]] w fun e w' => e = .returned (.bool true) ∧ Below w.heap.size w w' := by
  obtain ⟨t0, z0, c0⟩ := szQuery_ok l0_0 l0_1 1048576 w0 (by omega) (by omega)
  rcases c0 with c0 | ⟨p0, q0, hs0⟩
  · exact laws_FnExactVarsOf_out0 _ _ _ _ _ _ w hr0_0 hc0_0 hr0_1 hc0_1 _ z0.rounds c0
  have hd : (l0_1.map cvA).length ≤ 1048576 := by simpa using hs0.2.1
  have hs := cvA_small hs0.2.2
  obtain ⟨m0, m1, m2⟩ := markQ_ok l0_0 (l0_1.map cvA) 1 hs0.1 hd hs (by omega) (by omega)
  have hv := mVO_len l0_0 (l0_1.map cvA) 20
  exact laws_FnExactVarsOf_walk _ _ _ _ _ _ w hr0_0 hc0_0 hr0_1 hc0_1 _ _ _ _ _ _ _ _ _ z0.rounds (by omega) (toQuery_ev l0_0 l0_1 hs0.1 hs0.2.1 hs0.2.2).rounds
    (specVarsOf_ev _ _ hs0.1 hd hs).rounds (implVarsOf_ev _ _ hs0.1 hd hs).rounds (by have e := eqIntS_ev (mVO l0_0 (l0_1.map cvA) 20) (mVO l0_0 (l0_1.map cvA) 20) (by omega); rw [decide_eq_true rfl] at e; exact e.rounds) (eqQuery_ev _ _ hs0.1 hd hs).rounds
    rfl m0 (by show ¬ (mkQ l0_0 (l0_1.map cvA) 1).1 < 0; omega) (markIntS_ev (mVO l0_0 (l0_1.map cvA) 20) 1 (by omega) (by omega) (by omega)).rounds (heldIntS_ev 1 _ (by omega) (by omega) (by omega)).rounds (by omega)


end Go.Proofs.Ytpfpappamlgnoaa.Hand
