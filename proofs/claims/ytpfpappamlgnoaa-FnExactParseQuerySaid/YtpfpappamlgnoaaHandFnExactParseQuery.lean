/- Walks through Go functions that FnExactParseQuery reaches, by hand: each call returns what is said beside it, within the bounds that the theorem names. -/
import Derived.Test.YtpfpappamlgnoaaQFnExactParseQueryx0
import Derived.Test.YtpfpappamlgnoaaQFnExactParseQueryx1
import Derived.Test.YtpfpappamlgnoaaQFnExactParseQueryx2
import Derived.Test.YtpfpappamlgnoaaQFnExactParseQueryx3
import Derived.Test.YtpfpappamlgnoaaQFnExactParseQueryx4
import Derived.Test.YtpfpappamlgnoaaQFnExactParseQueryx5
import Derived.Test.YtpfpappamlgnoaaQFnExactParseQueryx6
import Derived.Test.YtpfpappamlgnoaaQFnExactParseQueryx7
import Derived.Test.YtpfpappamlgnoaaQFnExactParseQueryx8
import Derived.Test.YtpfpappamlgnoaaQFnExactParseQueryx9
import Derived.Test.YtpfpappamlgnoaaQFnExactParseQueryx10
import Derived.Test.YtpfpappamlgnoaaQFnExactParseQueryx11
import Derived.Test.YtpfpappamlgnoaaQFnExactParseQueryx12
import Derived.Test.YtpfpappamlgnoaaQFnExactParseQueryx13
import Derived.Test.YtpfpappamlgnoaaQFnExactParseQueryx14
import Derived.Test.YtpfpappamlgnoaaQFnExactParseQueryx15
import Derived.Test.YtpfpappamlgnoaaQFnExactParseQueryx16
import Derived.Test.YtpfpappamlgnoaaQFnExactParseQueryx17
import Derived.Test.YtpfpappamlgnoaaVFnExactParseQueryMine
import Derived.Test.YtpfpappamlgnoaaPureFnExactParseQuery
set_option linter.unusedVariables false
set_option linter.unusedSimpArgs false
namespace Go.Proofs.Ytpfpappamlgnoaa.Hand
open Go.RowKit Go.Proofs.Ytpfpappamlgnoaa.QFnExactParseQuery Go.Proofs.YtpfpappamlgnoaaW.PrintWords Go.Proofs.YtpfpappamlgnoaaW.PrintLast Go.Proofs.YtpfpappamlgnoaaW.PrintMore Go.Proofs.Ytpfpappamlgnoaa.Mine Go.Proofs.Ytpfpappamlgnoaa.Open Go.Proofs.Ytpfpappamlgnoaa.Pure
attribute [local go_sem] max2_int min2_int max_two min_two max_three min_three max_four min_four

/-- A goal that the walk leaves alone. -/
def Hold (p : Prop) : Prop := p
theorem hold {p : Prop} (h : Hold p) : p := h
theorem newR {α : Type} {d : Kd α} {e B : Nat} {W w1 : World} {ok : Nat → Prop} {v : Value} {xs : List α} (h : d.R e w1 W.heap.size ok v xs) (hB : B ≤ W.heap.size) : d.R e w1 B (fun k => (W.heap.size ≤ k ∧ k < w1.heap.size) ∧ ok k) v xs :=
  Kd.R_lower (Kd.R_mono (Kd.R_bound h) (fun _ hk => ⟨⟨hk.2.1, hk.2.2.1⟩, hk.1⟩)) hB
theorem newS {α : Type} {d : Kd α} {e B : Nat} {W w1 : World} {ok : Nat → Prop} {v : Value} {xs : List α} (h : Kd.S d e w1 W.heap.size ok v xs) (hB : B ≤ W.heap.size) : Kd.S d e w1 B (fun k => (W.heap.size ≤ k ∧ k < w1.heap.size) ∧ ok k) v xs :=
  Kd.S_lower (Kd.S_mono (Kd.S_bound h) (fun _ hk => ⟨⟨hk.2.1, hk.2.2.1⟩, hk.1⟩)) hB
/-- A box stored into. -/
theorem kept_two {w : World} {g : Nat} (a b : Value) : Kept w ((w.setCell ⟨g, 0, none⟩ a).setCell ⟨g, 1, none⟩ b) (fun k => k = g) :=
  ((Kept.refl w (fun k => k = g)).setCell (.inl rfl) a).setCell (.inl rfl) b
theorem kept_one {w : World} {g : Nat} (a : Value) : Kept w (w.setCell ⟨g, 0, none⟩ a) (fun k => k = g) := (Kept.refl w (fun k => k = g)).setCell (.inl rfl) a

/-- What marking a list leaves, and the next mark. -/
def mkA : List S38 → Int → List S38 × Int
  | [], m => ([], m)
  | x :: xs, m => (⟨m, mMarks (m + 1) x.f1.length⟩ :: (mkA xs (m + 1 + (x.f1.length : Int))).1, (mkA xs (m + 1 + (x.f1.length : Int))).2)
def szA : List S38 → Nat
  | [] => 0
  | x :: xs => x.f1.length + 1 + szA xs
theorem mkA_len : ∀ (l : List S38) (m : Int), (mkA l m).1.length = l.length
  | [], _ => rfl
  | x :: xs, m => by simp [mkA, mkA_len xs]
theorem mkA_end : ∀ (l : List S38) (m : Int), (mkA l m).2 = m + (szA l : Int)
  | [], m => by simp [mkA, szA]
  | x :: xs, m => by simp [mkA, szA, mkA_end xs]; omega
/-- Where the i-th round stands. -/
structure AtA (l xs : List S38) (m q : Int) (i : Nat) : Prop where
  len : xs.length = l.length
  le : i ≤ l.length
  lo : 0 ≤ q
  hi : q + (szA (xs.drop i) : Int) ≤ 4611686018427387904
  fst : xs.take i ++ (mkA (xs.drop i) q).1 = (mkA l m).1
  snd : (mkA (xs.drop i) q).2 = (mkA l m).2
theorem AtA.start {l : List S38} {m : Int} (h0 : 0 ≤ m) (h1 : m + (szA l : Int) ≤ 4611686018427387904) : AtA l l m m 0 := ⟨rfl, Nat.zero_le _, h0, by simpa using h1, by simp, by simp⟩
theorem AtA.drop {l xs : List S38} {m q : Int} {i : Nat} (h : AtA l xs m q i) (hi : i < l.length) : xs.drop i = xs.getD i z38 :: xs.drop (i + 1) := by
  have hx : i < xs.length := by rw [h.len]; exact hi
  rw [List.drop_eq_getElem_cons hx, List.getD_eq_getElem?_getD, List.getElem?_eq_getElem hx]; rfl
theorem AtA.more {l xs : List S38} {m q : Int} {i : Nat} (h : AtA l xs m q i) (hi : i < l.length) : q + 1 + ((xs.getD i z38).f1.length : Int) ≤ 4611686018427387904 := by
  have := h.hi; rw [h.drop hi] at this; simp only [szA] at this; omega
theorem AtA.step {l xs : List S38} {m q : Int} {i : Nat} (h : AtA l xs m q i) (hi : i < l.length) :
    AtA l ((xs.set i ⟨q, (xs.getD i z38).f1⟩).set i ⟨q, mMarks (q + 1) (xs.getD i z38).f1.length⟩) m (q + 1 + ((xs.getD i z38).f1.length : Int)) (i + 1) := by
  have hx : i < xs.length := by rw [h.len]; exact hi
  have hd : (((xs.set i ⟨q, (xs.getD i z38).f1⟩).set i ⟨q, mMarks (q + 1) (xs.getD i z38).f1.length⟩)).drop (i + 1) = xs.drop (i + 1) := by
    rw [List.drop_set_of_lt (by omega), List.drop_set_of_lt (by omega)]
  have hb := h.hi
  have hf := h.fst
  have hs := h.snd
  rw [h.drop hi] at hb hf hs
  simp only [szA, mkA] at hb hf hs
  refine ⟨by simp [h.len], by omega, by have := h.lo; omega, by rw [hd]; omega, ?_, by rw [hd]; exact hs⟩
  rw [hd, ← hf]
  rw [List.take_succ_eq_append_getElem (by simpa using hx), List.take_set_of_le (Nat.le_refl _), List.take_set_of_le (Nat.le_refl _)]
  simp
theorem AtA.done {l xs : List S38} {m q : Int} {i : Nat} (h : AtA l xs m q i) (hi : ¬ i < l.length) : xs = (mkA l m).1 ∧ q = (mkA l m).2 := by
  have he : xs.drop i = [] := List.drop_eq_nil_of_le (by rw [h.len]; omega)
  have hf := h.fst
  have hs := h.snd
  rw [he] at hf hs
  simp only [mkA, List.append_nil] at hf hs
  rw [List.take_of_length_le (by rw [h.len]; omega)] at hf
  exact ⟨hf, hs⟩
set_option maxHeartbeats 8000000 in
set_option maxRecDepth 100000 in
theorem markAtomS_walk (P : Nat → Prop) (u : Value) (l : List S38) (m : Int) (w0 w : World) (hB : Below w0.heap.size w0 w) (ho : Kd.S k38 38 w w0.heap.size P u l) (h0 : 0 ≤ m) (h1 : m + (szA l : Int) ≤ 4611686018427387904) (hl : l.length ≤ 17592186044416) (hla : ∀ x ∈ l, x.f1.length ≤ 17592186044416) :
    Calls Try.prog 98 #[u, .int .i64 m] w fun e w' => e = .returned (.int .i64 (mkA l m).2) ∧ Kd.S k38 38 w' w0.heap.size P u (mkA l m).1 ∧ Below w0.heap.size w0 w' ∧ Kept w w' P := by
  have hu38 := Try.underlying38
  obtain ⟨A, c, rfl⟩ := Kd.S_slice ho
  have HO := Aside0.mk ho
  have HB := Aside0.mk hB
  have HK := Aside0.mk (Kept.refl w P)
  have HI := Aside0.mk (AtA.start h0 h1)
  have HL := Aside0.mk hl
  have HF := Aside0.mk hla
  clear ho hB h0 h1 hl hla
  go_enter Try.func98, Try.ntmps98
  go_wp2
  go_loopg [1, 5] l.length (fun kq v1 v5 w' => ∃ (xs : List S38) (q x : Int), v1 = .int .i64 q ∧ v5 = .int .i64 x ∧ Aside0 (0 ≤ x ∧ kq + x.toNat = l.length) ∧ Aside0 (AtA l xs m q x.toNat) ∧ Aside0 (xs.length = l.length ∧ ∀ x ∈ xs, x.f1.length ≤ 17592186044416) ∧ Aside0 (Kd.S k38 38 w' w0.heap.size P (.slice A l.length c) xs) ∧ Aside0 (Kept w w' P) ∧ Aside0 (Below w0.heap.size w0 w'))
  case atStart => exact ⟨l, m, 0, rfl, rfl, ⟨⟨Int.le_refl _, rfl⟩⟩, HI, ⟨⟨rfl, HF.out⟩⟩, HO, HK, HB⟩
  case round =>
    clear HI HF HO HK HB
    obtain ⟨xs, q, x, rfl, rfl, HG, HI, HF, HO, HK, HB⟩ := hrel
    by_cases c6 : x < (l.length : Int)
    · have c6b0 : decide (x < (l.length : Int)) = true := decide_eq_true c6
      have p5 : 0 ≤ x := HG.out.1
      have hlt : x.toNat < l.length := by omega
      have HT := Aside0.mk hlt
      have hxl := HF.out.1
      have hb0 := HI.out.more hlt
      have hb1 := HI.out.lo
      have hfl : (xs.getD x.toNat z38).f1.length ≤ 17592186044416 := by
        rw [List.getD_eq_getElem?_getD, List.getElem?_eq_getElem (by omega)]
        exact HF.out.2 _ (List.getElem_mem _)
      obtain ⟨km, hkm⟩ := (markIntS_ev (xs.getD x.toNat z38).f1 (q + 1) (by omega) (by omega) hfl).rounds
      have HM := Aside0.mk hkm
      have e1 : wrap64 (q + 1) = q + 1 := by unfold wrap64; omega
      have e2 : wrap64 (x + 1) = x + 1 := by have := HL.out; unfold wrap64; omega
      have E1 := Aside0.mk e1
      have E2 := Aside0.mk e2
      obtain ⟨go, co, eo, gb, gl, cl, hgo⟩ := Kd.S_form HO.out (by omega)
      injection eo with ea en ec
      subst ea; subst ec
      clear en
      obtain ⟨oki, ce, hcl, hM, hcc, hfr, hoki, hH⟩ := Kd.S_elem HO.out z38 x p5 c6
      obtain ⟨ve, rfl, ge⟩ := k38_openM hM
      have hx0 : wr.cell? ⟨go, x.toNat * 2, none⟩ = some (.int .i64 (xs.getD x.toNat z38).f0) := hcc 0 _ rfl
      have hf0 : wr.frozen? ⟨go, x.toNat * 2, none⟩ = false := hfr 0
      have HH := Aside0.mk hH
      have GE := Aside0.mk ge
      have PG := Aside0.mk (show P go from (Kd.S_R HO.out).1 go rfl)
      have HW := Aside0.mk (fun k hk => (hoki k hk).1)
      clear hcl hM hcc hfr hoki hH ge e1 e2 hkm hgo gb gl cl hb0 hb1 hfl hxl hlt HO
      go_wp2_with (first | ((with_reducible refine gate_store (t := 3) (p := 16) rfl ?_); refine hold ?_))
      unfold Hold
      refine Kd.H_store k38 w0.heap.size rfl rfl 3 _ _ rfl 38 x 0 xs (⟨q, (xs.getD x.toNat z38).f1⟩ : S38) (.int .i64 q) [.int .i64 q] _ P oki oki rfl rfl rfl rfl rfl (by simp [Value.oneCell']) HH.out p5 c6 (show 1 ≤ 2 from by decide) (k38_mkM _ _ _ (⟨q, (xs.getD x.toNat z38).f1⟩ : S38) GE.out) (fun _ h_ => h_) HB.out ?_
      intro w1 hs hb hg
      have HB1 := Aside0.mk hb
      have HK1 := Aside0.mk (Kept.of_grown hg HK.out (fun k he => .inl (by injection he with he; subst he; exact PG.out)))
      have hlt := HT.out
      have hg0 : (xs.set x.toNat (⟨q, (xs.getD x.toNat z38).f1⟩ : S38)).getD x.toNat z38 = ⟨q, (xs.getD x.toNat z38).f1⟩ := by
        rw [List.getD_eq_getElem?_getD, List.getElem?_set_self (by rw [HF.out.1]; exact hlt)]; rfl
      obtain ⟨okj, cj, hclj, hMj, hccj, hokj, hHj⟩ := Kd.S_lend hs z38 x p5 c6
      rw [hg0] at hMj
      obtain ⟨vj, rfl, gj⟩ := k38_openM hMj
      have hx1 : w1.cell? ⟨go, x.toNat * 2 + 1, none⟩ = some vj := hccj 1 _ rfl
      have GJ := Aside0.mk (show Kd.R (Kd.int .i64) 3 w1 w0.heap.size okj vj (xs.getD x.toNat z38).f1 from gj)
      have HHJ := Aside0.mk hHj
      have HWJ := Aside0.mk (fun k hk => (hokj k hk).1)
      clear HB HK hs hb hg HH GE HW hclj hMj hccj hokj hHj gj hlt hx0 hf0 hg0
      go_wp2_with (first | (go_at_call 37; refine hold ?_))
      unfold Hold
      refine (laws_markIntS.calls km (fun k => some k = vj.ownBlock) vj (xs.getD x.toNat z38).f1 _ _ _ w0 _ HB1.out (Kd.R_tight rfl GJ.out) (by rw [E1.out]; exact HM.out)).mono ?_
      rintro e w2 ⟨rfl, hr, hb2, hk2⟩
      have HB2 := Aside0.mk hb2
      have HK2 := Aside0.mk (HK1.out.then_ hk2 (fun k hk => .inl (HWJ.out k (GJ.out.1 k hk.symm))))
      have hM2 := k38_mkM w2 w0.heap.size okj (⟨q, mMarks (q + 1) (xs.getD x.toNat z38).f1.length⟩ : S38) (Kd.R_mono (Kd.R_tight rfl hr) (fun k hk => GJ.out.1 k hk.symm))
      have hs2 := Kd.H_back (Kd.H_kept HHJ.out hk2 (fun k hk hn h2 => hn (GJ.out.1 k h2.symm))) hM2 (fun _ hk => hk)
      have HO2 := Aside0.mk hs2
      have HI2 := Aside0.mk (HI.out.step HT.out)
      have HF2 : Aside0 (((xs.set x.toNat (⟨q, (xs.getD x.toNat z38).f1⟩ : S38)).set x.toNat ⟨q, mMarks (q + 1) (xs.getD x.toNat z38).f1.length⟩).length = l.length ∧ ∀ y ∈ ((xs.set x.toNat (⟨q, (xs.getD x.toNat z38).f1⟩ : S38)).set x.toNat ⟨q, mMarks (q + 1) (xs.getD x.toNat z38).f1.length⟩), y.f1.length ≤ 17592186044416) := by
        have hlt := HT.out
        have hfl : (xs.getD x.toNat z38).f1.length ≤ 17592186044416 := by
          rw [List.getD_eq_getElem?_getD, List.getElem?_eq_getElem (by rw [HF.out.1]; exact hlt)]
          exact HF.out.2 _ (List.getElem_mem _)
        refine ⟨⟨by simp [HF.out.1], fun y hy => ?_⟩⟩
        rcases List.mem_or_eq_of_mem_set hy with h | h
        · rcases List.mem_or_eq_of_mem_set h with h | h
          · exact HF.out.2 y h
          · rw [h]; exact hfl
        · rw [h]; show (mMarks _ _).length ≤ _; rw [mMarks_length]; exact hfl
      clear HB1 HK1 HHJ GJ hr hb2 hk2 hM2 hs2 hx1 HWJ
      go_wp2
      go_roundg (gk - 1)
      case measure => have := HG.out; have := HT.out; omega
      case rel => exact ⟨_, _, (wrap64 (x + 1)), rfl, rfl, ⟨by have := HG.out; have := HT.out; rw [E2.out]; omega⟩, ⟨by rw [E2.out, show (x + 1).toNat = x.toNat + 1 by have := HG.out; omega]; exact HI2.out⟩, HF2, HO2, HK2, HB2⟩
    · have c6b0 : decide (x < (l.length : Int)) = false := decide_eq_false c6
      have hd := HI.out.done (by omega)
      have HD := Aside0.mk hd
      clear hd c6
      go_wp2
      go_ret
      exact ⟨by rw [← HD.out.2]; rfl, by rw [← HD.out.1]; exact HO.out, HB.out, HK.out⟩
theorem markAtomS_calls (P0_ : Nat → Prop) (u9000_ : Value) (l0 : List S38) (a1 : Int) (r1 : Int) (r2 : List S38) (w0 w : World) (hB : Below w0.heap.size w0 w) (ho0 : Kd.S k38 38 w w0.heap.size P0_ u9000_ l0) (hz0 : (0 ≤ a1 ∧ a1 + (szA l0 : Int) ≤ 4611686018427387904) ∧ l0.length ≤ 17592186044416 ∧ ∀ x ∈ l0, x.f1.length ≤ 17592186044416) (h : mkA l0 a1 = (r2, r1)) :
    Calls Try.prog 98 #[u9000_, .int .i64 a1] w fun e w' => e = .returned (.int .i64 r1) ∧ Kd.S k38 38 w' w0.heap.size (fun k_ => P0_ k_) u9000_ r2 ∧ Below w0.heap.size w0 w' ∧ Kept w w' (fun k_ => P0_ k_) := by
  have e := markAtomS_walk P0_ u9000_ l0 a1 w0 w hB ho0 hz0.1.1 hz0.1.2 hz0.2.1 hz0.2.2
  rw [h] at e
  exact e

/-- What marking a query leaves. -/
def mkQ (h : List Int) (d : List S38) (m : Int) : Int × List Int × List S38 := ((mkA d (m + (h.length : Int))).2, mMarks m h.length, (mkA d (m + (h.length : Int))).1)
set_option maxHeartbeats 8000000 in
set_option maxRecDepth 100000 in
theorem markQuery_calls (P0_0_ : Nat → Prop) (u9000_ u9001_ : Value) (l0_0 : List Int) (l0_1 : List S38) (a1 : Int) (r1 : Int) (r2 : List Int) (r3 : List S38) (w0 w : World) (hB : Below w0.heap.size w0 w) (ho0_0 : Kd.R (Kd.int .i64) 3 w w0.heap.size P0_0_ u9000_ l0_0) (ho0_1 : Kd.S k38 38 w w0.heap.size (fun k_ => P0_0_ k_ ∧ some k_ ≠ (u9000_ : Value).ownBlock) u9001_ l0_1) (hz0 : (0 ≤ a1 ∧ a1 + (l0_0.length : Int) + (szA l0_1 : Int) ≤ 4611686018427387904) ∧ l0_0.length ≤ 17592186044416 ∧ l0_1.length ≤ 17592186044416 ∧ ∀ x ∈ l0_1, x.f1.length ≤ 17592186044416) (h : mkQ l0_0 l0_1 a1 = (r1, r2, r3)) :
    Calls Try.prog 36 #[.agg #[u9000_, u9001_], .int .i64 a1] w fun e w' => e = .returned (.int .i64 r1) ∧ Kd.R (Kd.int .i64) 3 w' w0.heap.size (fun k_ => P0_0_ k_) u9000_ r2 ∧ Kd.S k38 38 w' w0.heap.size (fun k_ => P0_0_ k_ ∧ some k_ ≠ (u9000_ : Value).ownBlock) u9001_ r3 ∧ Below w0.heap.size w0 w' ∧ Kept w w' (fun k_ => P0_0_ k_) := by
  injection h with h1 h2
  injection h2 with h2 h3
  subst h1; subst h2; subst h3
  obtain ⟨A0, c0, rfl⟩ := Kd.R_slice ho0_0
  obtain ⟨A1, c1, rfl⟩ := Kd.S_slice ho0_1
  obtain ⟨km, hkm⟩ := (markIntS_ev l0_0 a1 hz0.1.1 (by have := hz0.1.2; omega) hz0.2.1).rounds
  have HM := Aside0.mk hkm
  have HA := Aside0.mk ho0_0
  have HS := Aside0.mk ho0_1
  have HZ := Aside0.mk hz0
  have HB := Aside0.mk hB
  clear hkm ho0_0 ho0_1 hz0 hB
  have hu := Try.underlying49
  go_enter Try.func36, Try.ntmps36
  go_wp2_with (first | ((with_reducible refine gate_dst (N := 2) rfl ?_); refine hold ?_))
  unfold Hold
  refine box_event ?hg (N := 2) ?hd (cs := #[.slice A0 l0_0.length c0, .slice A1 l0_1.length c1]) (t := 49) ?hr ?_
  case hd => rfl
  case hg => rfl
  case hr => first | (go_simp; done) | (go_simp; rfl)
  intro g hg w1 hbox hb
  have BX := Aside0.mk hbox
  have HK := Aside0.mk (Kept.of_below hb (fun k_ => P0_0_ k_))
  have GG := Aside0.mk (show w.heap.size ≤ g from by rw [hg]; exact Nat.le_refl _)
  have n1 := Aside0.mk (Kd.R_bound (Kd.R_below HA.out hb))
  have n2 := Aside0.mk (Kd.S_below HS.out hb)
  have n3 := Aside0.mk (below_step HB.out hb)
  have LT_ := Aside0.mk (Kd.R_lt HA.out)
  clear HA HS HB hbox hb hg
  have hx0 : w1.cell? ⟨g, 0, none⟩ = some (.slice A0 l0_0.length c0) := (blk_cell BX.out 0).trans rfl
  have hx1 : w1.cell? ⟨g, 1, none⟩ = some (.slice A1 l0_1.length c1) := (blk_cell BX.out 1).trans rfl
  go_wp2_with (first | (go_at_call 37; refine hold ?_))
  unfold Hold
  refine (laws_markIntS.calls km (fun k => some k = (Value.slice A0 l0_0.length c0).ownBlock) _ l0_0 a1 _ _ w0 _ n3.out (Kd.R_tight rfl (Kd.R_mono n1.out (fun _ h => h.1))) HM.out).mono ?_
  rintro e w2 ⟨rfl, hr, hb2, hk2⟩
  have GA := Aside0.mk (show ∀ k, some k = (Value.slice A0 l0_0.length c0).ownBlock → P0_0_ k from fun k hk => (n1.out.1 k hk.symm).1)
  have GL := Aside0.mk (show ∀ k, some k = (Value.slice A0 l0_0.length c0).ownBlock → k < w.heap.size from fun k hk => LT_.out k hk.symm)
  have m1 := Aside0.mk (Kd.R_tight rfl hr)
  have m2 := Aside0.mk (Kd.S_kept n2.out hk2 (fun k h1 h2 => h1.2 h2))
  have m3 := Aside0.mk hb2
  have m4 := Aside0.mk (HK.out.then_ hk2 (fun k h => .inl (GA.out k h)))
  have m5 := Aside0.mk (blk_kept BX.out hk2 (fun h => by have h1 := GL.out _ h; have h2 := GG.out; omega))
  clear n1 n2 n3 HK BX hr hb2 hk2 hx0 hx1 LT_
  have hx0 : w2.cell? ⟨g, 0, none⟩ = some (.slice A0 l0_0.length c0) := (blk_cell m5.out 0).trans rfl
  have hx1 : w2.cell? ⟨g, 1, none⟩ = some (.slice A1 l0_1.length c1) := (blk_cell m5.out 1).trans rfl
  go_wp2_with (first | (go_at_call 98; refine hold ?_))
  unfold Hold
  refine (markAtomS_walk (fun k_ => P0_0_ k_ ∧ some k_ ≠ (Value.slice A0 l0_0.length c0).ownBlock) _ l0_1 (a1 + (l0_0.length : Int)) w0 _ m3.out m2.out (by have := HZ.out.1; omega) (by have := HZ.out.1.2; omega) HZ.out.2.2.1 HZ.out.2.2.2).mono ?_
  rintro e w3 ⟨rfl, hs3, hb3, hk3⟩
  have q1 := Aside0.mk (Kd.R_mono (Kd.R_kept m1.out hk3 (fun k h1 h2 => h2.2 h1)) (fun k hk => GA.out k hk))
  have q2 := Aside0.mk hs3
  have q3 := Aside0.mk hb3
  have q4 := Aside0.mk (m4.out.then_ hk3 (fun k h => .inl h.1))
  clear m1 m2 m3 m4 m5 hs3 hb3 hk3 hx0 hx1
  go_wp2
  go_ret
  exact ⟨rfl, q1.out, q2.out, q3.out, q4.out⟩

theorem szA_le {B : Nat} : ∀ (l : List S38), (∀ x ∈ l, x.f1.length ≤ B) → szA l ≤ l.length * (B + 1)
  | [], _ => by simp [szA]
  | x :: xs, h => by
    have h1 := szA_le xs (fun y hy => h y (List.mem_cons_of_mem _ hy))
    have h2 := h x List.mem_cons_self
    simp only [szA, List.length_cons, Nat.add_mul]
    omega
theorem szA_small (l : List S38) (hl : l.length ≤ 1048576) (hs : ∀ x ∈ l, x.f1.length ≤ 1048576) : szA l ≤ 1099512676352 := by
  have h := szA_le l hs
  have h2 : l.length * (1048576 + 1) ≤ 1048576 * (1048576 + 1) := Nat.mul_le_mul_right _ hl
  omega
/-- A query may be marked from m on; the mark behind it. -/
theorem markQ_ok (h : List Int) (d : List S38) (m : Int) (hh : h.length ≤ 1048576) (hl : d.length ≤ 1048576) (hs : ∀ x ∈ d, x.f1.length ≤ 1048576) (h0 : 0 ≤ m) (h1 : m ≤ 4000000000000000) :
    ((0 ≤ m ∧ m + (h.length : Int) + (szA d : Int) ≤ 4611686018427387904) ∧ h.length ≤ 17592186044416 ∧ d.length ≤ 17592186044416 ∧ ∀ x ∈ d, x.f1.length ≤ 17592186044416) ∧ m ≤ (mkQ h d m).1 ∧ (mkQ h d m).1 ≤ m + 1099513724928 := by
  have hz := szA_small d hl hs
  have he : (mkQ h d m).1 = m + (h.length : Int) + (szA d : Int) := by show (mkA d _).2 = _; rw [mkA_end]
  exact ⟨⟨⟨h0, by omega⟩, by omega, by omega, fun x hx => by have := hs x hx; omega⟩, by rw [he]; omega, by rw [he]; omega⟩

theorem heldAtomS_l0 : ∀ (l pre : List S38) (m : Int), 0 ≤ m → m + (szA l : Int) ≤ 4611686018427387904 → pre.length + l.length ≤ 17592186044416 → (∀ x ∈ l, x.f1.length ≤ 17592186044416) →
    Ev (fun k => laws_heldAtomS.l0 k (pre ++ (mkA l m).1) m (pre.length : Int)) (mkA l m).2
  | [], pre, m, h0, h1, h, hs => by
    refine evn fun k => ?_
    simp only [laws_heldAtomS.l0, mkA, List.append_nil]
    rw [if_neg (end_not _)]
  | x :: xs, pre, m, h0, h1, h, hs => by
    have hx := hs x List.mem_cons_self
    simp only [szA] at h1
    simp only [List.length_cons] at h
    have r := heldAtomS_l0 xs (pre ++ [⟨m, mMarks (m + 1) x.f1.length⟩]) (m + 1 + (x.f1.length : Int)) (by omega) (by omega) (by simp; omega) (fun y hy => hs y (List.mem_cons_of_mem _ hy))
    simp only [mkA]
    have e1 : wrap64 (m + 1) = m + 1 := w64 (by omega) (by omega)
    have e2 : wrap64 ((pre.length : Int) + 1) = ((pre ++ [(⟨m, mMarks (m + 1) x.f1.length⟩ : S38)]).length : Int) := iw (by omega)
    have e3 : rd_T38 (pre ++ (⟨m, mMarks (m + 1) x.f1.length⟩ : S38) :: (mkA xs (m + 1 + (x.f1.length : Int))).1) (pre.length : Int) = ⟨m, mMarks (m + 1) x.f1.length⟩ := by simp [rd_T38]
    refine Ev.step (fun k => laws_heldAtomS.l0.eq_2 ..) ?_
    simp only [if_pos (mid_lt _ _ _), if_pos (len_nonneg _), e3, if_true, e1, e2]
    refine evb (heldIntS_ev (m + 1) x.f1.length (by omega) (by omega) hx) ?_
    have hn : ¬ (m + 1 + (x.f1.length : Int) < 0) := by omega
    simp only [if_neg hn]
    rw [app1]
    exact r
theorem heldAtomS_ev (l : List S38) (m : Int) (hl : l.length ≤ 1048576) (hs : ∀ x ∈ l, x.f1.length ≤ 1048576) (h0 : 0 ≤ m) (h1 : m ≤ 4000000000000000) : Ev (fun k => laws_heldAtomS.f k (mkA l m).1 m) (mkA l m).2 := by
  have hz := szA_small l hl hs
  exact heldAtomS_l0 l [] m h0 (by omega) (by simp; omega) (fun x hx => by have := hs x hx; omega)
theorem heldQuery_ev (h : List Int) (d : List S38) (m : Int) (hh : h.length ≤ 1048576) (hl : d.length ≤ 1048576) (hs : ∀ x ∈ d, x.f1.length ≤ 1048576) (h0 : 0 ≤ m) (h1 : m ≤ 3000000000000000) : Ev (fun k => laws_heldQuery.f k (mkQ h d m).2.1 (mkQ h d m).2.2 m) (mkQ h d m).1 := by
  unfold laws_heldQuery.f
  show Ev (fun k => (laws_heldIntS.f k (mMarks m h.length) m).bind _) _
  refine evb (heldIntS_ev m h.length h0 (by omega) (by omega)) ?_
  have hn : ¬ (m + (h.length : Int) < 0) := by omega
  have hz := szA_small d hl hs
  have he := mkA_end d (m + (h.length : Int))
  have hn2 : ¬ ((mkA d (m + (h.length : Int))).2 < 0) := by rw [he]; omega
  simp only [if_neg hn]
  refine evb (heldAtomS_ev d (m + (h.length : Int)) hl hs (by omega) (by omega)) ?_
  simp only [if_neg hn2]
  exact evc fun k => rfl

theorem markSchema_ev (l : List Int) (m : Int) (h0 : 0 ≤ m) (h1 : m ≤ 4611686018427387904) (h : l.length ≤ 17592186044416) : Ev (fun k => laws_markSchema.f k l m) (m + (l.length : Int), mMarks m l.length) := by
  unfold laws_markSchema.f
  exact evb (markIntS_ev l m h0 h1 h) (evc fun k => rfl)

set_option maxHeartbeats 8000000 in
set_option maxRecDepth 100000 in
theorem laws_FnExactParseQuery_out0 (A0_0 : Option Addr) (c0_0 : Nat) (l0_0 : List Int) (a1 : ByteArray) (w : World) (hr0_0 : Kd.C (Kd.int .i64) w A0_0 l0_0.length l0_0) (hc0_0 : l0_0.length ≤ c0_0) 
    (ct0 : (a1.size : Int) > 1048576) :
    Calls Try.prog 14 #[.agg #[.slice A0_0 l0_0.length c0_0], .string a1] w fun e w' => e = .returned (.bool true) ∧ Below w.heap.size w w' := by
  have H0_0 := Aside0.mk hr0_0
  have HC0_0 := Aside0.mk hc0_0
  clear hr0_0 hc0_0
  have ct0b := decide_eq_true (show 1048576 < (a1.size : Int) from ct0)
  have ct0n : decide (1048576 < a1.size) = true := decide_eq_true (by omega)
  clear ct0
  have HB := Aside0.mk (Below.refl w.heap.size w)
  have hu56 := Try.underlying56
  go_enter Try.func14, Try.ntmps14
  go_wp2_with (first | ((with_reducible refine gate_dst (N := 2) rfl ?_); refine hold ?_))
  unfold Hold
  refine box_event ?hg (N := 2) ?hd (cs := #[.slice A0_0 l0_0.length c0_0]) (t := 56) ?hr ?_
  case hd => rfl
  case hg => rfl
  case hr => first | (go_simp; done) | (go_simp; rfl)
  intro g1 hg w1_ hbox hb
  have Bg1 := Aside0.mk hbox
  have Gg1 := Aside0.mk (show w.heap.size ≤ g1 ∧ g1 < w1_.heap.size from ⟨by rw [hg]; exact Nat.le_refl _, blk_lt hbox⟩)
  clear hbox hg
  have Z1_ := Aside0.mk (show w.heap.size ≤ w1_.heap.size from hb.size)
  have n_ := Aside0.mk (below_step HB.out hb); clear HB; have HB := n_; clear n_
  have hxg1_0 : w1_.cell? ⟨g1, 0, none⟩ = some (.slice A0_0 l0_0.length c0_0) := (blk_cell Bg1.out 0).trans rfl
  have hfg1_0 := blk_frozen Bg1.out 0
  clear hb
  go_wp2
  go_ret
  exact ⟨rfl, HB.out⟩
set_option maxHeartbeats 8000000 in
set_option maxRecDepth 100000 in
theorem laws_FnExactParseQuery_out1 (A0_0 : Option Addr) (c0_0 : Nat) (l0_0 : List Int) (a1 : ByteArray) (w : World) (hr0_0 : Kd.C (Kd.int .i64) w A0_0 l0_0.length l0_0) (hc0_0 : l0_0.length ≤ c0_0) (r1_0 : Int)
    (ct0 : ¬ (a1.size : Int) > 1048576)
 (e1 : laws_szSchema.f l0_0 1048576 = some r1_0)
 (ct1 : r1_0 < 0) :
    Calls Try.prog 14 #[.agg #[.slice A0_0 l0_0.length c0_0], .string a1] w fun e w' => e = .returned (.bool true) ∧ Below w.heap.size w w' := by
  have H0_0 := Aside0.mk hr0_0
  have HC0_0 := Aside0.mk hc0_0
  clear hr0_0 hc0_0
  have ct0b := decide_eq_false (show ¬ 1048576 < (a1.size : Int) from ct0)
  have ct0n : decide (1048576 < a1.size) = false := decide_eq_false (by omega)
  clear ct0
  have Ee1 := Aside0.mk e1; clear e1
  have ct1b := decide_eq_true (show r1_0 < 0 from ct1)
  clear ct1
  have HB := Aside0.mk (Below.refl w.heap.size w)
  have hu56 := Try.underlying56
  go_enter Try.func14, Try.ntmps14
  go_wp2_with (first | ((with_reducible refine gate_dst (N := 2) rfl ?_); refine hold ?_))
  unfold Hold
  refine box_event ?hg (N := 2) ?hd (cs := #[.slice A0_0 l0_0.length c0_0]) (t := 56) ?hr ?_
  case hd => rfl
  case hg => rfl
  case hr => first | (go_simp; done) | (go_simp; rfl)
  intro g1 hg w1_ hbox hb
  have Bg1 := Aside0.mk hbox
  have Gg1 := Aside0.mk (show w.heap.size ≤ g1 ∧ g1 < w1_.heap.size from ⟨by rw [hg]; exact Nat.le_refl _, blk_lt hbox⟩)
  clear hbox hg
  have Z1_ := Aside0.mk (show w.heap.size ≤ w1_.heap.size from hb.size)
  have n_ := Aside0.mk (below_step HB.out hb); clear HB; have HB := n_; clear n_
  have hxg1_0 : w1_.cell? ⟨g1, 0, none⟩ = some (.slice A0_0 l0_0.length c0_0) := (blk_cell Bg1.out 0).trans rfl
  have hfg1_0 := blk_frozen Bg1.out 0
  clear hb
  go_wp2_with (first | (go_at_call 39; refine hold ?_))
  unfold Hold
  refine (laws_szSchema.calls _ _ l0_0 1048576 r1_0 _ (Kd.C_below H0_0.out HB.out) HC0_0.out Ee1.out).mono ?_
  rintro e w2_ ⟨rfl, hb⟩
  have Z2_ := Aside0.mk (show w1_.heap.size ≤ w2_.heap.size from hb.size)
  have n_ := Aside0.mk (blk_below Bg1.out hb); clear Bg1; have Bg1 := n_; clear n_
  have n_ := Aside0.mk (below_step HB.out hb); clear HB; have HB := n_; clear n_
  clear hxg1_0
  clear hfg1_0
  have hxg1_0 : w2_.cell? ⟨g1, 0, none⟩ = some (.slice A0_0 l0_0.length c0_0) := (blk_cell Bg1.out 0).trans rfl
  have hfg1_0 := blk_frozen Bg1.out 0
  clear hb
  go_wp2
  go_ret
  exact ⟨rfl, HB.out⟩
set_option maxHeartbeats 8000000 in
set_option maxRecDepth 100000 in
theorem laws_FnExactParseQuery_walk (A0_0 : Option Addr) (c0_0 : Nat) (l0_0 : List Int) (a1 : ByteArray) (w : World) (hr0_0 : Kd.C (Kd.int .i64) w A0_0 l0_0.length l0_0) (hc0_0 : l0_0.length ≤ c0_0) (r1_0 : Int) (r3_0 : List Int) (r4_0 : List Int) (r4_1 : List (S38)) (r4_2 : Bool) (r8_0 : Int) (r8_1 : List Int) (r10_0 : Int) (r10_1 : List Int) (r10_2 : List S38)
    (ct0 : ¬ (a1.size : Int) > 1048576)
 (e1 : laws_szSchema.f l0_0 1048576 = some r1_0)
 (ct1 : ¬ r1_0 < 0)
 (e3 : ∃ k, laws_toSchema.f k l0_0 = some r3_0)
 (e4 : ∃ k, spec_ParseQuery.f k r3_0 a1 = some (r4_0, r4_1, r4_2))
 (e5 : ∃ k, impl_ParseQuery.f k r3_0 a1 = some (r4_0, r4_1, r4_2))
 (e6 : ∃ k, laws_eqQuery.f k r4_0 r4_1 r4_0 r4_1 = some true)
 (e7 : ∃ k, laws_eqSchema.f k r3_0 r3_0 = some true)
 (e8 : ∃ k, laws_markSchema.f k r3_0 1 = some (r8_0, r8_1))
 (ct2 : ¬ r8_0 < 0)
 (e10 : mkQ r4_0 r4_1 1 = (r10_0, r10_1, r10_2))
 (e10_hz0_ : (0 ≤ (1 : Int) ∧ (1 : Int) + (r4_0.length : Int) + (szA r4_1 : Int) ≤ 4611686018427387904) ∧ r4_0.length ≤ 17592186044416 ∧ r4_1.length ≤ 17592186044416 ∧ ∀ x ∈ r4_1, x.f1.length ≤ 17592186044416)
 (e11 : ∃ k, laws_heldQuery.f k r10_1 r10_2 1 = some r10_0)
 (ct3 : ¬ r10_0 < 0) :
    Calls Try.prog 14 #[.agg #[.slice A0_0 l0_0.length c0_0], .string a1] w fun e w' => e = .returned (.bool true) ∧ Below w.heap.size w w' := by
  have H0_0 := Aside0.mk hr0_0
  have HC0_0 := Aside0.mk hc0_0
  clear hr0_0 hc0_0
  have ct0b := decide_eq_false (show ¬ 1048576 < (a1.size : Int) from ct0)
  have ct0n : decide (1048576 < a1.size) = false := decide_eq_false (by omega)
  clear ct0
  have Ee1 := Aside0.mk e1; clear e1
  have ct1b := decide_eq_false (show ¬ r1_0 < 0 from ct1)
  clear ct1
  obtain ⟨ke3, q_⟩ := e3; have Ee3 := Aside0.mk q_; clear q_
  obtain ⟨ke4, q_⟩ := e4; have Ee4 := Aside0.mk q_; clear q_
  obtain ⟨ke5, q_⟩ := e5; have Ee5 := Aside0.mk q_; clear q_
  obtain ⟨ke6, q_⟩ := e6; have Ee6 := Aside0.mk q_; clear q_
  obtain ⟨ke7, q_⟩ := e7; have Ee7 := Aside0.mk q_; clear q_
  obtain ⟨ke8, q_⟩ := e8; have Ee8 := Aside0.mk q_; clear q_
  have ct2b := decide_eq_false (show ¬ r8_0 < 0 from ct2)
  clear ct2
  have e10_hz0 := Aside0.mk e10_hz0_; clear e10_hz0_
  have Ee10 := Aside0.mk e10; clear e10
  obtain ⟨ke11, q_⟩ := e11; have Ee11 := Aside0.mk q_; clear q_
  have ct3b := decide_eq_false (show ¬ r10_0 < 0 from ct3)
  clear ct3
  have HB := Aside0.mk (Below.refl w.heap.size w)
  have hu56 := Try.underlying56
  have hu49 := Try.underlying49
  have hu61 := Try.underlying61
  go_enter Try.func14, Try.ntmps14
  go_wp2_with (first | ((with_reducible refine gate_dst (N := 2) rfl ?_); refine hold ?_))
  unfold Hold
  refine box_event ?hg (N := 2) ?hd (cs := #[.slice A0_0 l0_0.length c0_0]) (t := 56) ?hr ?_
  case hd => rfl
  case hg => rfl
  case hr => first | (go_simp; done) | (go_simp; rfl)
  intro g1 hg w1_ hbox hb
  have Bg1 := Aside0.mk hbox
  have Gg1 := Aside0.mk (show w.heap.size ≤ g1 ∧ g1 < w1_.heap.size from ⟨by rw [hg]; exact Nat.le_refl _, blk_lt hbox⟩)
  clear hbox hg
  have Z1_ := Aside0.mk (show w.heap.size ≤ w1_.heap.size from hb.size)
  have n_ := Aside0.mk (below_step HB.out hb); clear HB; have HB := n_; clear n_
  have hxg1_0 : w1_.cell? ⟨g1, 0, none⟩ = some (.slice A0_0 l0_0.length c0_0) := (blk_cell Bg1.out 0).trans rfl
  have hfg1_0 := blk_frozen Bg1.out 0
  clear hb
  go_wp2_with (first | (go_at_call 39; refine hold ?_))
  unfold Hold
  refine (laws_szSchema.calls _ _ l0_0 1048576 r1_0 _ (Kd.C_below H0_0.out HB.out) HC0_0.out Ee1.out).mono ?_
  rintro e w2_ ⟨rfl, hb⟩
  have Z2_ := Aside0.mk (show w1_.heap.size ≤ w2_.heap.size from hb.size)
  have n_ := Aside0.mk (blk_below Bg1.out hb); clear Bg1; have Bg1 := n_; clear n_
  have n_ := Aside0.mk (below_step HB.out hb); clear HB; have HB := n_; clear n_
  clear hxg1_0
  clear hfg1_0
  have hxg1_0 : w2_.cell? ⟨g1, 0, none⟩ = some (.slice A0_0 l0_0.length c0_0) := (blk_cell Bg1.out 0).trans rfl
  have hfg1_0 := blk_frozen Bg1.out 0
  clear hb
  go_wp2_with (first | (go_at_call 42; refine hold ?_))
  unfold Hold
  refine (laws_toSchema.calls ke3 _ _ l0_0 r3_0 _ (Kd.C_below H0_0.out HB.out) HC0_0.out Ee3.out).mono ?_
  rintro e w3_ ⟨v3_0_, rfl, ho0, hb⟩
  have O3_0 := Aside0.mk (newR ho0 HB.out.size)
  have Z3_ := Aside0.mk (show w2_.heap.size ≤ w3_.heap.size from hb.size)
  have n_ := Aside0.mk (blk_below Bg1.out hb); clear Bg1; have Bg1 := n_; clear n_
  have n_ := Aside0.mk (below_step HB.out hb); clear HB; have HB := n_; clear n_
  clear hxg1_0
  clear hfg1_0
  have hxg1_0 : w3_.cell? ⟨g1, 0, none⟩ = some (.slice A0_0 l0_0.length c0_0) := (blk_cell Bg1.out 0).trans rfl
  have hfg1_0 := blk_frozen Bg1.out 0
  clear hb ho0
  obtain ⟨A3_0_, c3_0_, eq_⟩ := Kd.R_slice O3_0.out
  subst eq_
  go_wp2_with (first | (go_at_call 67; refine hold ?_))
  unfold Hold
  refine (spec_ParseQuery.calls ke4 _ _ r3_0 a1 r4_0 r4_1 r4_2 _ (Kd.R_reads' O3_0.out).2.2 (Kd.R_reads' O3_0.out).2.1 Ee4.out).mono ?_
  rintro e w4_ ⟨v4_0_, v4_1_, rfl, ho0, ho1, hb⟩
  have O4_0 := Aside0.mk (newR ho0 HB.out.size)
  have O4_1 := Aside0.mk (newS ho1 HB.out.size)
  have Z4_ := Aside0.mk (show w3_.heap.size ≤ w4_.heap.size from hb.size)
  have n_ := Aside0.mk (Kd.R_below O3_0.out hb); clear O3_0; have O3_0 := n_; clear n_
  have n_ := Aside0.mk (blk_below Bg1.out hb); clear Bg1; have Bg1 := n_; clear n_
  have n_ := Aside0.mk (below_step HB.out hb); clear HB; have HB := n_; clear n_
  clear hxg1_0
  clear hfg1_0
  have hxg1_0 : w4_.cell? ⟨g1, 0, none⟩ = some (.slice A0_0 l0_0.length c0_0) := (blk_cell Bg1.out 0).trans rfl
  have hfg1_0 := blk_frozen Bg1.out 0
  clear hb ho0 ho1
  obtain ⟨A4_0_, c4_0_, eq_⟩ := Kd.R_slice O4_0.out
  subst eq_
  obtain ⟨A4_1_, c4_1_, eq_⟩ := Kd.S_slice O4_1.out
  subst eq_
  go_wp2_with (first | ((with_reducible refine gate_dst (N := 6) rfl ?_); refine hold ?_))
  unfold Hold
  refine box_event ?hg (N := 6) ?hd (cs := #[.slice none 0 0, .slice none 0 0]) (t := 49) ?hr ?_
  case hd => rfl
  case hg => rfl
  case hr => first | (go_simp; done) | (go_simp; rfl)
  intro g5 hg w5_ hbox hb
  have Bg5 := Aside0.mk hbox
  have Gg5 := Aside0.mk (show w4_.heap.size ≤ g5 ∧ g5 < w5_.heap.size from ⟨by rw [hg]; exact Nat.le_refl _, blk_lt hbox⟩)
  clear hbox hg
  have Z5_ := Aside0.mk (show w4_.heap.size ≤ w5_.heap.size from hb.size)
  have n_ := Aside0.mk (Kd.R_below O3_0.out hb); clear O3_0; have O3_0 := n_; clear n_
  have n_ := Aside0.mk (Kd.R_below O4_0.out hb); clear O4_0; have O4_0 := n_; clear n_
  have n_ := Aside0.mk (Kd.S_below O4_1.out hb); clear O4_1; have O4_1 := n_; clear n_
  have n_ := Aside0.mk (blk_below Bg1.out hb); clear Bg1; have Bg1 := n_; clear n_
  have n_ := Aside0.mk (below_step HB.out hb); clear HB; have HB := n_; clear n_
  clear hxg1_0
  clear hfg1_0
  have hxg1_0 : w5_.cell? ⟨g1, 0, none⟩ = some (.slice A0_0 l0_0.length c0_0) := (blk_cell Bg1.out 0).trans rfl
  have hfg1_0 := blk_frozen Bg1.out 0
  have hxg5_0 : w5_.cell? ⟨g5, 0, none⟩ = some (.slice none 0 0) := (blk_cell Bg5.out 0).trans rfl
  have hxg5_1 : w5_.cell? ⟨g5, 1, none⟩ = some (.slice none 0 0) := (blk_cell Bg5.out 1).trans rfl
  have hfg5_0 := blk_frozen Bg5.out 0
  have hfg5_1 := blk_frozen Bg5.out 1
  clear hb
  go_wp2_with (first | ((with_reducible refine gate_store (t := 49) (p := 6) rfl ?_); refine hold ?_))
  unfold Hold
  refine store_event (t := 49) (p := 6) (v := ?vo5) (w1 := ((w5_.setCell ⟨g5, 0, none⟩ (.slice A4_0_ r4_0.length c4_0_)).setCell ⟨g5, 1, none⟩ (.slice A4_1_ r4_1.length c4_1_))) ?hg ?ho ?hn ?hr ?_
  case ho => rfl
  case hg => rfl
  case hn => rfl
  case hr => first | (go_simp; done) | (go_simp; rfl)
  intro w6_ hw
  have hk : Kept w5_ w6_ (fun k => k = g5) := by rw [hw]; exact kept_two _ _
  have hb0 : Below w.heap.size w w6_ := by rw [hw]; exact (below_set (below_set HB.out (Nat.le_trans (by have z1_ := Z1_.out; have z2_ := Z2_.out; have z3_ := Z3_.out; have z4_ := Z4_.out; omega) Gg5.out.1)) (Nat.le_trans (by have z1_ := Z1_.out; have z2_ := Z2_.out; have z3_ := Z3_.out; have z4_ := Z4_.out; omega) Gg5.out.1))
  have n_ := Aside0.mk (show w6_.heap[g5]? = some (.cells #[.slice A4_0_ r4_0.length c4_0_, .slice A4_1_ r4_1.length c4_1_] 49 (0, 0)) by rw [hw]; exact (blk_put (cs := #[.slice A4_0_ r4_0.length c4_0_, .slice none 0 0]) (cs' := #[.slice A4_0_ r4_0.length c4_0_, .slice A4_1_ r4_1.length c4_1_]) (blk_put (cs := #[.slice none 0 0, .slice none 0 0]) (cs' := #[.slice A4_0_ r4_0.length c4_0_, .slice none 0 0]) Bg5.out 0 _ rfl) 1 _ rfl))
  clear Bg5; have Bg5 := n_; clear n_ hw
  have Z6_ := Aside0.mk (show w5_.heap.size ≤ w6_.heap.size from hk.1)
  have n_ := Aside0.mk (Kd.R_kept O3_0.out hk (fun k_ hk1 hk2 => by obtain ⟨a1_, a2_⟩ := hk1.1; have e_ : k_ = g5 := hk2; obtain ⟨b1_, b2_⟩ := Gg5.out; have z4_ := Z4_.out; omega)); clear O3_0; have O3_0 := n_; clear n_
  have n_ := Aside0.mk (Kd.R_kept O4_0.out hk (fun k_ hk1 hk2 => by obtain ⟨a1_, a2_⟩ := hk1.1; have e_ : k_ = g5 := hk2; obtain ⟨b1_, b2_⟩ := Gg5.out; omega)); clear O4_0; have O4_0 := n_; clear n_
  have n_ := Aside0.mk (Kd.S_kept O4_1.out hk (fun k_ hk1 hk2 => by obtain ⟨a1_, a2_⟩ := hk1.1; have e_ : k_ = g5 := hk2; obtain ⟨b1_, b2_⟩ := Gg5.out; omega)); clear O4_1; have O4_1 := n_; clear n_
  have n_ := Aside0.mk (blk_kept Bg1.out hk (fun hk2 => by obtain ⟨a1_, a2_⟩ := Gg1.out; have e_ : g1 = g5 := hk2; obtain ⟨b1_, b2_⟩ := Gg5.out; have z2_ := Z2_.out; have z3_ := Z3_.out; have z4_ := Z4_.out; omega)); clear Bg1; have Bg1 := n_; clear n_
  clear HB; have HB := Aside0.mk hb0
  clear hxg1_0
  clear hfg1_0
  clear hxg5_0
  clear hxg5_1
  clear hfg5_0
  clear hfg5_1
  have hxg1_0 : w6_.cell? ⟨g1, 0, none⟩ = some (.slice A0_0 l0_0.length c0_0) := (blk_cell Bg1.out 0).trans rfl
  have hfg1_0 := blk_frozen Bg1.out 0
  have hxg5_0 : w6_.cell? ⟨g5, 0, none⟩ = some (.slice A4_0_ r4_0.length c4_0_) := (blk_cell Bg5.out 0).trans rfl
  have hxg5_1 : w6_.cell? ⟨g5, 1, none⟩ = some (.slice A4_1_ r4_1.length c4_1_) := (blk_cell Bg5.out 1).trans rfl
  have hfg5_0 := blk_frozen Bg5.out 0
  have hfg5_1 := blk_frozen Bg5.out 1
  clear hk hb0
  go_wp2_with (first | (go_at_call 42; refine hold ?_))
  unfold Hold
  refine (laws_toSchema.calls ke3 _ _ l0_0 r3_0 _ (Kd.C_below H0_0.out HB.out) HC0_0.out Ee3.out).mono ?_
  rintro e w7_ ⟨v7_0_, rfl, ho0, hb⟩
  have O7_0 := Aside0.mk (newR ho0 HB.out.size)
  have Z7_ := Aside0.mk (show w6_.heap.size ≤ w7_.heap.size from hb.size)
  have n_ := Aside0.mk (Kd.R_below O3_0.out hb); clear O3_0; have O3_0 := n_; clear n_
  have n_ := Aside0.mk (Kd.R_below O4_0.out hb); clear O4_0; have O4_0 := n_; clear n_
  have n_ := Aside0.mk (Kd.S_below O4_1.out hb); clear O4_1; have O4_1 := n_; clear n_
  have n_ := Aside0.mk (blk_below Bg1.out hb); clear Bg1; have Bg1 := n_; clear n_
  have n_ := Aside0.mk (blk_below Bg5.out hb); clear Bg5; have Bg5 := n_; clear n_
  have n_ := Aside0.mk (below_step HB.out hb); clear HB; have HB := n_; clear n_
  clear hxg1_0
  clear hfg1_0
  clear hxg5_0
  clear hxg5_1
  clear hfg5_0
  clear hfg5_1
  have hxg1_0 : w7_.cell? ⟨g1, 0, none⟩ = some (.slice A0_0 l0_0.length c0_0) := (blk_cell Bg1.out 0).trans rfl
  have hfg1_0 := blk_frozen Bg1.out 0
  have hxg5_0 : w7_.cell? ⟨g5, 0, none⟩ = some (.slice A4_0_ r4_0.length c4_0_) := (blk_cell Bg5.out 0).trans rfl
  have hxg5_1 : w7_.cell? ⟨g5, 1, none⟩ = some (.slice A4_1_ r4_1.length c4_1_) := (blk_cell Bg5.out 1).trans rfl
  have hfg5_0 := blk_frozen Bg5.out 0
  have hfg5_1 := blk_frozen Bg5.out 1
  clear hb ho0
  obtain ⟨A7_0_, c7_0_, eq_⟩ := Kd.R_slice O7_0.out
  subst eq_
  go_wp2_with (first | ((with_reducible refine gate_dst (N := 8) rfl ?_); refine hold ?_))
  unfold Hold
  refine box_event ?hg (N := 8) ?hd (cs := #[.slice none 0 0]) (t := 61) ?hr ?_
  case hd => rfl
  case hg => rfl
  case hr => first | (go_simp; done) | (go_simp; rfl)
  intro g6 hg w8_ hbox hb
  have Bg6 := Aside0.mk hbox
  have Gg6 := Aside0.mk (show w7_.heap.size ≤ g6 ∧ g6 < w8_.heap.size from ⟨by rw [hg]; exact Nat.le_refl _, blk_lt hbox⟩)
  clear hbox hg
  have Z8_ := Aside0.mk (show w7_.heap.size ≤ w8_.heap.size from hb.size)
  have n_ := Aside0.mk (Kd.R_below O3_0.out hb); clear O3_0; have O3_0 := n_; clear n_
  have n_ := Aside0.mk (Kd.R_below O4_0.out hb); clear O4_0; have O4_0 := n_; clear n_
  have n_ := Aside0.mk (Kd.S_below O4_1.out hb); clear O4_1; have O4_1 := n_; clear n_
  have n_ := Aside0.mk (Kd.R_below O7_0.out hb); clear O7_0; have O7_0 := n_; clear n_
  have n_ := Aside0.mk (blk_below Bg1.out hb); clear Bg1; have Bg1 := n_; clear n_
  have n_ := Aside0.mk (blk_below Bg5.out hb); clear Bg5; have Bg5 := n_; clear n_
  have n_ := Aside0.mk (below_step HB.out hb); clear HB; have HB := n_; clear n_
  clear hxg1_0
  clear hfg1_0
  clear hxg5_0
  clear hxg5_1
  clear hfg5_0
  clear hfg5_1
  have hxg1_0 : w8_.cell? ⟨g1, 0, none⟩ = some (.slice A0_0 l0_0.length c0_0) := (blk_cell Bg1.out 0).trans rfl
  have hfg1_0 := blk_frozen Bg1.out 0
  have hxg5_0 : w8_.cell? ⟨g5, 0, none⟩ = some (.slice A4_0_ r4_0.length c4_0_) := (blk_cell Bg5.out 0).trans rfl
  have hxg5_1 : w8_.cell? ⟨g5, 1, none⟩ = some (.slice A4_1_ r4_1.length c4_1_) := (blk_cell Bg5.out 1).trans rfl
  have hfg5_0 := blk_frozen Bg5.out 0
  have hfg5_1 := blk_frozen Bg5.out 1
  have hxg6_0 : w8_.cell? ⟨g6, 0, none⟩ = some (.slice none 0 0) := (blk_cell Bg6.out 0).trans rfl
  have hfg6_0 := blk_frozen Bg6.out 0
  clear hb
  go_wp2_with (first | ((with_reducible refine gate_store (t := 61) (p := 8) rfl ?_); refine hold ?_))
  unfold Hold
  refine store_event (t := 61) (p := 8) (v := ?vo8) (w1 := (w8_.setCell ⟨g6, 0, none⟩ (.slice A7_0_ r3_0.length c7_0_))) ?hg ?ho ?hn ?hr ?_
  case ho => rfl
  case hg => rfl
  case hn => rfl
  case hr => first | (go_simp; done) | (go_simp; rfl)
  intro w9_ hw
  have hk : Kept w8_ w9_ (fun k => k = g6) := by rw [hw]; exact kept_one _
  have hb0 : Below w.heap.size w w9_ := by rw [hw]; exact (below_set HB.out (Nat.le_trans (by have z1_ := Z1_.out; have z2_ := Z2_.out; have z3_ := Z3_.out; have z4_ := Z4_.out; have z5_ := Z5_.out; have z6_ := Z6_.out; have z7_ := Z7_.out; omega) Gg6.out.1))
  have n_ := Aside0.mk (show w9_.heap[g6]? = some (.cells #[.slice A7_0_ r3_0.length c7_0_] 61 (0, 0)) by rw [hw]; exact (blk_put (cs := #[.slice none 0 0]) (cs' := #[.slice A7_0_ r3_0.length c7_0_]) Bg6.out 0 _ rfl))
  clear Bg6; have Bg6 := n_; clear n_ hw
  have Z9_ := Aside0.mk (show w8_.heap.size ≤ w9_.heap.size from hk.1)
  have n_ := Aside0.mk (Kd.R_kept O3_0.out hk (fun k_ hk1 hk2 => by obtain ⟨a1_, a2_⟩ := hk1.1; have e_ : k_ = g6 := hk2; obtain ⟨b1_, b2_⟩ := Gg6.out; have z4_ := Z4_.out; have z5_ := Z5_.out; have z6_ := Z6_.out; have z7_ := Z7_.out; omega)); clear O3_0; have O3_0 := n_; clear n_
  have n_ := Aside0.mk (Kd.R_kept O4_0.out hk (fun k_ hk1 hk2 => by obtain ⟨a1_, a2_⟩ := hk1.1; have e_ : k_ = g6 := hk2; obtain ⟨b1_, b2_⟩ := Gg6.out; have z5_ := Z5_.out; have z6_ := Z6_.out; have z7_ := Z7_.out; omega)); clear O4_0; have O4_0 := n_; clear n_
  have n_ := Aside0.mk (Kd.S_kept O4_1.out hk (fun k_ hk1 hk2 => by obtain ⟨a1_, a2_⟩ := hk1.1; have e_ : k_ = g6 := hk2; obtain ⟨b1_, b2_⟩ := Gg6.out; have z5_ := Z5_.out; have z6_ := Z6_.out; have z7_ := Z7_.out; omega)); clear O4_1; have O4_1 := n_; clear n_
  have n_ := Aside0.mk (Kd.R_kept O7_0.out hk (fun k_ hk1 hk2 => by obtain ⟨a1_, a2_⟩ := hk1.1; have e_ : k_ = g6 := hk2; obtain ⟨b1_, b2_⟩ := Gg6.out; omega)); clear O7_0; have O7_0 := n_; clear n_
  have n_ := Aside0.mk (blk_kept Bg1.out hk (fun hk2 => by obtain ⟨a1_, a2_⟩ := Gg1.out; have e_ : g1 = g6 := hk2; obtain ⟨b1_, b2_⟩ := Gg6.out; have z2_ := Z2_.out; have z3_ := Z3_.out; have z4_ := Z4_.out; have z5_ := Z5_.out; have z6_ := Z6_.out; have z7_ := Z7_.out; omega)); clear Bg1; have Bg1 := n_; clear n_
  have n_ := Aside0.mk (blk_kept Bg5.out hk (fun hk2 => by obtain ⟨a1_, a2_⟩ := Gg5.out; have e_ : g5 = g6 := hk2; obtain ⟨b1_, b2_⟩ := Gg6.out; have z6_ := Z6_.out; have z7_ := Z7_.out; omega)); clear Bg5; have Bg5 := n_; clear n_
  clear HB; have HB := Aside0.mk hb0
  clear hxg1_0
  clear hfg1_0
  clear hxg5_0
  clear hxg5_1
  clear hfg5_0
  clear hfg5_1
  clear hxg6_0
  clear hfg6_0
  have hxg1_0 : w9_.cell? ⟨g1, 0, none⟩ = some (.slice A0_0 l0_0.length c0_0) := (blk_cell Bg1.out 0).trans rfl
  have hfg1_0 := blk_frozen Bg1.out 0
  have hxg5_0 : w9_.cell? ⟨g5, 0, none⟩ = some (.slice A4_0_ r4_0.length c4_0_) := (blk_cell Bg5.out 0).trans rfl
  have hxg5_1 : w9_.cell? ⟨g5, 1, none⟩ = some (.slice A4_1_ r4_1.length c4_1_) := (blk_cell Bg5.out 1).trans rfl
  have hfg5_0 := blk_frozen Bg5.out 0
  have hfg5_1 := blk_frozen Bg5.out 1
  have hxg6_0 : w9_.cell? ⟨g6, 0, none⟩ = some (.slice A7_0_ r3_0.length c7_0_) := (blk_cell Bg6.out 0).trans rfl
  have hfg6_0 := blk_frozen Bg6.out 0
  clear hk hb0
  go_wp2_with (first | (go_at_call 68; refine hold ?_))
  unfold Hold
  refine (impl_ParseQuery.calls ke5 _ _ r3_0 a1 r4_0 r4_1 r4_2 _ (Kd.R_reads' O7_0.out).2.2 (Kd.R_reads' O7_0.out).2.1 Ee5.out).mono ?_
  rintro e w10_ ⟨v10_0_, v10_1_, rfl, ho0, ho1, hb⟩
  have O10_0 := Aside0.mk (newR ho0 HB.out.size)
  have O10_1 := Aside0.mk (newS ho1 HB.out.size)
  have Z10_ := Aside0.mk (show w9_.heap.size ≤ w10_.heap.size from hb.size)
  have n_ := Aside0.mk (Kd.R_below O3_0.out hb); clear O3_0; have O3_0 := n_; clear n_
  have n_ := Aside0.mk (Kd.R_below O4_0.out hb); clear O4_0; have O4_0 := n_; clear n_
  have n_ := Aside0.mk (Kd.S_below O4_1.out hb); clear O4_1; have O4_1 := n_; clear n_
  have n_ := Aside0.mk (Kd.R_below O7_0.out hb); clear O7_0; have O7_0 := n_; clear n_
  have n_ := Aside0.mk (blk_below Bg1.out hb); clear Bg1; have Bg1 := n_; clear n_
  have n_ := Aside0.mk (blk_below Bg5.out hb); clear Bg5; have Bg5 := n_; clear n_
  have n_ := Aside0.mk (blk_below Bg6.out hb); clear Bg6; have Bg6 := n_; clear n_
  have n_ := Aside0.mk (below_step HB.out hb); clear HB; have HB := n_; clear n_
  clear hxg1_0
  clear hfg1_0
  clear hxg5_0
  clear hxg5_1
  clear hfg5_0
  clear hfg5_1
  clear hxg6_0
  clear hfg6_0
  have hxg1_0 : w10_.cell? ⟨g1, 0, none⟩ = some (.slice A0_0 l0_0.length c0_0) := (blk_cell Bg1.out 0).trans rfl
  have hfg1_0 := blk_frozen Bg1.out 0
  have hxg5_0 : w10_.cell? ⟨g5, 0, none⟩ = some (.slice A4_0_ r4_0.length c4_0_) := (blk_cell Bg5.out 0).trans rfl
  have hxg5_1 : w10_.cell? ⟨g5, 1, none⟩ = some (.slice A4_1_ r4_1.length c4_1_) := (blk_cell Bg5.out 1).trans rfl
  have hfg5_0 := blk_frozen Bg5.out 0
  have hfg5_1 := blk_frozen Bg5.out 1
  have hxg6_0 : w10_.cell? ⟨g6, 0, none⟩ = some (.slice A7_0_ r3_0.length c7_0_) := (blk_cell Bg6.out 0).trans rfl
  have hfg6_0 := blk_frozen Bg6.out 0
  clear hb ho0 ho1
  obtain ⟨A10_0_, c10_0_, eq_⟩ := Kd.R_slice O10_0.out
  subst eq_
  obtain ⟨A10_1_, c10_1_, eq_⟩ := Kd.S_slice O10_1.out
  subst eq_
  go_wp2_with (first | ((with_reducible refine gate_dst (N := 9) rfl ?_); refine hold ?_))
  unfold Hold
  refine box_event ?hg (N := 9) ?hd (cs := #[.slice none 0 0, .slice none 0 0]) (t := 49) ?hr ?_
  case hd => rfl
  case hg => rfl
  case hr => first | (go_simp; done) | (go_simp; rfl)
  intro g8 hg w11_ hbox hb
  have Bg8 := Aside0.mk hbox
  have Gg8 := Aside0.mk (show w10_.heap.size ≤ g8 ∧ g8 < w11_.heap.size from ⟨by rw [hg]; exact Nat.le_refl _, blk_lt hbox⟩)
  clear hbox hg
  have Z11_ := Aside0.mk (show w10_.heap.size ≤ w11_.heap.size from hb.size)
  have n_ := Aside0.mk (Kd.R_below O3_0.out hb); clear O3_0; have O3_0 := n_; clear n_
  have n_ := Aside0.mk (Kd.R_below O4_0.out hb); clear O4_0; have O4_0 := n_; clear n_
  have n_ := Aside0.mk (Kd.S_below O4_1.out hb); clear O4_1; have O4_1 := n_; clear n_
  have n_ := Aside0.mk (Kd.R_below O7_0.out hb); clear O7_0; have O7_0 := n_; clear n_
  have n_ := Aside0.mk (Kd.R_below O10_0.out hb); clear O10_0; have O10_0 := n_; clear n_
  have n_ := Aside0.mk (Kd.S_below O10_1.out hb); clear O10_1; have O10_1 := n_; clear n_
  have n_ := Aside0.mk (blk_below Bg1.out hb); clear Bg1; have Bg1 := n_; clear n_
  have n_ := Aside0.mk (blk_below Bg5.out hb); clear Bg5; have Bg5 := n_; clear n_
  have n_ := Aside0.mk (blk_below Bg6.out hb); clear Bg6; have Bg6 := n_; clear n_
  have n_ := Aside0.mk (below_step HB.out hb); clear HB; have HB := n_; clear n_
  clear hxg1_0
  clear hfg1_0
  clear hxg5_0
  clear hxg5_1
  clear hfg5_0
  clear hfg5_1
  clear hxg6_0
  clear hfg6_0
  have hxg1_0 : w11_.cell? ⟨g1, 0, none⟩ = some (.slice A0_0 l0_0.length c0_0) := (blk_cell Bg1.out 0).trans rfl
  have hfg1_0 := blk_frozen Bg1.out 0
  have hxg5_0 : w11_.cell? ⟨g5, 0, none⟩ = some (.slice A4_0_ r4_0.length c4_0_) := (blk_cell Bg5.out 0).trans rfl
  have hxg5_1 : w11_.cell? ⟨g5, 1, none⟩ = some (.slice A4_1_ r4_1.length c4_1_) := (blk_cell Bg5.out 1).trans rfl
  have hfg5_0 := blk_frozen Bg5.out 0
  have hfg5_1 := blk_frozen Bg5.out 1
  have hxg6_0 : w11_.cell? ⟨g6, 0, none⟩ = some (.slice A7_0_ r3_0.length c7_0_) := (blk_cell Bg6.out 0).trans rfl
  have hfg6_0 := blk_frozen Bg6.out 0
  have hxg8_0 : w11_.cell? ⟨g8, 0, none⟩ = some (.slice none 0 0) := (blk_cell Bg8.out 0).trans rfl
  have hxg8_1 : w11_.cell? ⟨g8, 1, none⟩ = some (.slice none 0 0) := (blk_cell Bg8.out 1).trans rfl
  have hfg8_0 := blk_frozen Bg8.out 0
  have hfg8_1 := blk_frozen Bg8.out 1
  clear hb
  go_wp2_with (first | ((with_reducible refine gate_store (t := 49) (p := 9) rfl ?_); refine hold ?_))
  unfold Hold
  refine store_event (t := 49) (p := 9) (v := ?vo11) (w1 := ((w11_.setCell ⟨g8, 0, none⟩ (.slice A10_0_ r4_0.length c10_0_)).setCell ⟨g8, 1, none⟩ (.slice A10_1_ r4_1.length c10_1_))) ?hg ?ho ?hn ?hr ?_
  case ho => rfl
  case hg => rfl
  case hn => rfl
  case hr => first | (go_simp; done) | (go_simp; rfl)
  intro w12_ hw
  have hk : Kept w11_ w12_ (fun k => k = g8) := by rw [hw]; exact kept_two _ _
  have hb0 : Below w.heap.size w w12_ := by rw [hw]; exact (below_set (below_set HB.out (Nat.le_trans (by have z1_ := Z1_.out; have z2_ := Z2_.out; have z3_ := Z3_.out; have z4_ := Z4_.out; have z5_ := Z5_.out; have z6_ := Z6_.out; have z7_ := Z7_.out; have z8_ := Z8_.out; have z9_ := Z9_.out; have z10_ := Z10_.out; omega) Gg8.out.1)) (Nat.le_trans (by have z1_ := Z1_.out; have z2_ := Z2_.out; have z3_ := Z3_.out; have z4_ := Z4_.out; have z5_ := Z5_.out; have z6_ := Z6_.out; have z7_ := Z7_.out; have z8_ := Z8_.out; have z9_ := Z9_.out; have z10_ := Z10_.out; omega) Gg8.out.1))
  have n_ := Aside0.mk (show w12_.heap[g8]? = some (.cells #[.slice A10_0_ r4_0.length c10_0_, .slice A10_1_ r4_1.length c10_1_] 49 (0, 0)) by rw [hw]; exact (blk_put (cs := #[.slice A10_0_ r4_0.length c10_0_, .slice none 0 0]) (cs' := #[.slice A10_0_ r4_0.length c10_0_, .slice A10_1_ r4_1.length c10_1_]) (blk_put (cs := #[.slice none 0 0, .slice none 0 0]) (cs' := #[.slice A10_0_ r4_0.length c10_0_, .slice none 0 0]) Bg8.out 0 _ rfl) 1 _ rfl))
  clear Bg8; have Bg8 := n_; clear n_ hw
  have Z12_ := Aside0.mk (show w11_.heap.size ≤ w12_.heap.size from hk.1)
  have n_ := Aside0.mk (Kd.R_kept O3_0.out hk (fun k_ hk1 hk2 => by obtain ⟨a1_, a2_⟩ := hk1.1; have e_ : k_ = g8 := hk2; obtain ⟨b1_, b2_⟩ := Gg8.out; have z4_ := Z4_.out; have z5_ := Z5_.out; have z6_ := Z6_.out; have z7_ := Z7_.out; have z8_ := Z8_.out; have z9_ := Z9_.out; have z10_ := Z10_.out; omega)); clear O3_0; have O3_0 := n_; clear n_
  have n_ := Aside0.mk (Kd.R_kept O4_0.out hk (fun k_ hk1 hk2 => by obtain ⟨a1_, a2_⟩ := hk1.1; have e_ : k_ = g8 := hk2; obtain ⟨b1_, b2_⟩ := Gg8.out; have z5_ := Z5_.out; have z6_ := Z6_.out; have z7_ := Z7_.out; have z8_ := Z8_.out; have z9_ := Z9_.out; have z10_ := Z10_.out; omega)); clear O4_0; have O4_0 := n_; clear n_
  have n_ := Aside0.mk (Kd.S_kept O4_1.out hk (fun k_ hk1 hk2 => by obtain ⟨a1_, a2_⟩ := hk1.1; have e_ : k_ = g8 := hk2; obtain ⟨b1_, b2_⟩ := Gg8.out; have z5_ := Z5_.out; have z6_ := Z6_.out; have z7_ := Z7_.out; have z8_ := Z8_.out; have z9_ := Z9_.out; have z10_ := Z10_.out; omega)); clear O4_1; have O4_1 := n_; clear n_
  have n_ := Aside0.mk (Kd.R_kept O7_0.out hk (fun k_ hk1 hk2 => by obtain ⟨a1_, a2_⟩ := hk1.1; have e_ : k_ = g8 := hk2; obtain ⟨b1_, b2_⟩ := Gg8.out; have z8_ := Z8_.out; have z9_ := Z9_.out; have z10_ := Z10_.out; omega)); clear O7_0; have O7_0 := n_; clear n_
  have n_ := Aside0.mk (Kd.R_kept O10_0.out hk (fun k_ hk1 hk2 => by obtain ⟨a1_, a2_⟩ := hk1.1; have e_ : k_ = g8 := hk2; obtain ⟨b1_, b2_⟩ := Gg8.out; omega)); clear O10_0; have O10_0 := n_; clear n_
  have n_ := Aside0.mk (Kd.S_kept O10_1.out hk (fun k_ hk1 hk2 => by obtain ⟨a1_, a2_⟩ := hk1.1; have e_ : k_ = g8 := hk2; obtain ⟨b1_, b2_⟩ := Gg8.out; omega)); clear O10_1; have O10_1 := n_; clear n_
  have n_ := Aside0.mk (blk_kept Bg1.out hk (fun hk2 => by obtain ⟨a1_, a2_⟩ := Gg1.out; have e_ : g1 = g8 := hk2; obtain ⟨b1_, b2_⟩ := Gg8.out; have z2_ := Z2_.out; have z3_ := Z3_.out; have z4_ := Z4_.out; have z5_ := Z5_.out; have z6_ := Z6_.out; have z7_ := Z7_.out; have z8_ := Z8_.out; have z9_ := Z9_.out; have z10_ := Z10_.out; omega)); clear Bg1; have Bg1 := n_; clear n_
  have n_ := Aside0.mk (blk_kept Bg5.out hk (fun hk2 => by obtain ⟨a1_, a2_⟩ := Gg5.out; have e_ : g5 = g8 := hk2; obtain ⟨b1_, b2_⟩ := Gg8.out; have z6_ := Z6_.out; have z7_ := Z7_.out; have z8_ := Z8_.out; have z9_ := Z9_.out; have z10_ := Z10_.out; omega)); clear Bg5; have Bg5 := n_; clear n_
  have n_ := Aside0.mk (blk_kept Bg6.out hk (fun hk2 => by obtain ⟨a1_, a2_⟩ := Gg6.out; have e_ : g6 = g8 := hk2; obtain ⟨b1_, b2_⟩ := Gg8.out; have z9_ := Z9_.out; have z10_ := Z10_.out; omega)); clear Bg6; have Bg6 := n_; clear n_
  clear HB; have HB := Aside0.mk hb0
  clear hxg1_0
  clear hfg1_0
  clear hxg5_0
  clear hxg5_1
  clear hfg5_0
  clear hfg5_1
  clear hxg6_0
  clear hfg6_0
  clear hxg8_0
  clear hxg8_1
  clear hfg8_0
  clear hfg8_1
  have hxg1_0 : w12_.cell? ⟨g1, 0, none⟩ = some (.slice A0_0 l0_0.length c0_0) := (blk_cell Bg1.out 0).trans rfl
  have hfg1_0 := blk_frozen Bg1.out 0
  have hxg5_0 : w12_.cell? ⟨g5, 0, none⟩ = some (.slice A4_0_ r4_0.length c4_0_) := (blk_cell Bg5.out 0).trans rfl
  have hxg5_1 : w12_.cell? ⟨g5, 1, none⟩ = some (.slice A4_1_ r4_1.length c4_1_) := (blk_cell Bg5.out 1).trans rfl
  have hfg5_0 := blk_frozen Bg5.out 0
  have hfg5_1 := blk_frozen Bg5.out 1
  have hxg6_0 : w12_.cell? ⟨g6, 0, none⟩ = some (.slice A7_0_ r3_0.length c7_0_) := (blk_cell Bg6.out 0).trans rfl
  have hfg6_0 := blk_frozen Bg6.out 0
  have hxg8_0 : w12_.cell? ⟨g8, 0, none⟩ = some (.slice A10_0_ r4_0.length c10_0_) := (blk_cell Bg8.out 0).trans rfl
  have hxg8_1 : w12_.cell? ⟨g8, 1, none⟩ = some (.slice A10_1_ r4_1.length c10_1_) := (blk_cell Bg8.out 1).trans rfl
  have hfg8_0 := blk_frozen Bg8.out 0
  have hfg8_1 := blk_frozen Bg8.out 1
  clear hk hb0
  go_wp2_with (first | (go_at_call 35; refine hold ?_))
  unfold Hold
  refine (laws_eqQuery.calls ke6 _ _ r4_0 _ _ r4_1 _ _ r4_0 _ _ r4_1 true _ (Kd.R_reads' O10_0.out).2.2 (Kd.R_reads' O10_0.out).2.1 (Kd.S_reads' O10_1.out).2.2 (Kd.S_reads' O10_1.out).2.1 (Kd.R_reads' O4_0.out).2.2 (Kd.R_reads' O4_0.out).2.1 (Kd.S_reads' O4_1.out).2.2 (Kd.S_reads' O4_1.out).2.1 Ee6.out).mono ?_
  rintro e w13_ ⟨rfl, hb⟩
  have Z13_ := Aside0.mk (show w12_.heap.size ≤ w13_.heap.size from hb.size)
  have n_ := Aside0.mk (Kd.R_below O3_0.out hb); clear O3_0; have O3_0 := n_; clear n_
  have n_ := Aside0.mk (Kd.R_below O4_0.out hb); clear O4_0; have O4_0 := n_; clear n_
  have n_ := Aside0.mk (Kd.S_below O4_1.out hb); clear O4_1; have O4_1 := n_; clear n_
  have n_ := Aside0.mk (Kd.R_below O7_0.out hb); clear O7_0; have O7_0 := n_; clear n_
  have n_ := Aside0.mk (Kd.R_below O10_0.out hb); clear O10_0; have O10_0 := n_; clear n_
  have n_ := Aside0.mk (Kd.S_below O10_1.out hb); clear O10_1; have O10_1 := n_; clear n_
  have n_ := Aside0.mk (blk_below Bg1.out hb); clear Bg1; have Bg1 := n_; clear n_
  have n_ := Aside0.mk (blk_below Bg5.out hb); clear Bg5; have Bg5 := n_; clear n_
  have n_ := Aside0.mk (blk_below Bg6.out hb); clear Bg6; have Bg6 := n_; clear n_
  have n_ := Aside0.mk (blk_below Bg8.out hb); clear Bg8; have Bg8 := n_; clear n_
  have n_ := Aside0.mk (below_step HB.out hb); clear HB; have HB := n_; clear n_
  clear hxg1_0
  clear hfg1_0
  clear hxg5_0
  clear hxg5_1
  clear hfg5_0
  clear hfg5_1
  clear hxg6_0
  clear hfg6_0
  clear hxg8_0
  clear hxg8_1
  clear hfg8_0
  clear hfg8_1
  have hxg1_0 : w13_.cell? ⟨g1, 0, none⟩ = some (.slice A0_0 l0_0.length c0_0) := (blk_cell Bg1.out 0).trans rfl
  have hfg1_0 := blk_frozen Bg1.out 0
  have hxg5_0 : w13_.cell? ⟨g5, 0, none⟩ = some (.slice A4_0_ r4_0.length c4_0_) := (blk_cell Bg5.out 0).trans rfl
  have hxg5_1 : w13_.cell? ⟨g5, 1, none⟩ = some (.slice A4_1_ r4_1.length c4_1_) := (blk_cell Bg5.out 1).trans rfl
  have hfg5_0 := blk_frozen Bg5.out 0
  have hfg5_1 := blk_frozen Bg5.out 1
  have hxg6_0 : w13_.cell? ⟨g6, 0, none⟩ = some (.slice A7_0_ r3_0.length c7_0_) := (blk_cell Bg6.out 0).trans rfl
  have hfg6_0 := blk_frozen Bg6.out 0
  have hxg8_0 : w13_.cell? ⟨g8, 0, none⟩ = some (.slice A10_0_ r4_0.length c10_0_) := (blk_cell Bg8.out 0).trans rfl
  have hxg8_1 : w13_.cell? ⟨g8, 1, none⟩ = some (.slice A10_1_ r4_1.length c10_1_) := (blk_cell Bg8.out 1).trans rfl
  have hfg8_0 := blk_frozen Bg8.out 0
  have hfg8_1 := blk_frozen Bg8.out 1
  clear hb
  try go_wp2_with fail
  have n_ := Aside0.mk (Kd.R_drew O3_0.out); clear O3_0; have O3_0 := n_; clear n_
  have n_ := Aside0.mk (Kd.R_drew O4_0.out); clear O4_0; have O4_0 := n_; clear n_
  have n_ := Aside0.mk (Kd.S_drew O4_1.out); clear O4_1; have O4_1 := n_; clear n_
  have n_ := Aside0.mk (Kd.R_drew O7_0.out); clear O7_0; have O7_0 := n_; clear n_
  have n_ := Aside0.mk (Kd.R_drew O10_0.out); clear O10_0; have O10_0 := n_; clear n_
  have n_ := Aside0.mk (Kd.S_drew O10_1.out); clear O10_1; have O10_1 := n_; clear n_
  have n_ := Aside0.mk (blk_drew Bg1.out); clear Bg1; have Bg1 := n_; clear n_
  have n_ := Aside0.mk (blk_drew Bg5.out); clear Bg5; have Bg5 := n_; clear n_
  have n_ := Aside0.mk (blk_drew Bg6.out); clear Bg6; have Bg6 := n_; clear n_
  have n_ := Aside0.mk (blk_drew Bg8.out); clear Bg8; have Bg8 := n_; clear n_
  have n_ := Aside0.mk (below_drew1 HB.out); clear HB; have HB := n_; clear n_
  clear hxg1_0
  clear hfg1_0
  clear hxg5_0
  clear hxg5_1
  clear hfg5_0
  clear hfg5_1
  clear hxg6_0
  clear hfg6_0
  clear hxg8_0
  clear hxg8_1
  clear hfg8_0
  clear hfg8_1
  have hz := Aside0.mk (show w13_.heap.size ≤ w13_.drew.heap.size from Nat.le_refl _)
  refine start_ (n := 5) (S := fun w' => w'.cell? ⟨g6, 0, none⟩ = some (.slice A7_0_ r3_0.length c7_0_) ∧ w'.cell? ⟨g1, 0, none⟩ = some (.slice A0_0 l0_0.length c0_0)) (ds := []) #[false,false,false,false,false] (by kernel_rfl) rfl rfl ⟨(blk_cell Bg6.out 0).trans rfl, (blk_cell Bg1.out 0).trans rfl⟩ (fun hHeld => ?_)
  generalize w13_.drew = w14_ at O3_0 O4_0 O4_1 O7_0 O10_0 O10_1 Bg1 Bg5 Bg6 Bg8 HB hz hHeld ⊢
  have Z14_ := hz; clear hz
  refine take_ (i := 0) (N := some 48) (v := ?_) (a' := ?_) #[true,false,false,false,false] rfl rfl (by kernel_rfl) (fun _ _ _ h => h) (Or.inl ⟨by rfl, ?_⟩) hHeld ?_ ?_
  rotate_left
  · rintro w' ⟨s0, s1⟩; go_simp; with_reducible rfl
  rotate_left
  · simp only [Act.put, List.setIfInBounds_toArray, List.set_cons_zero, List.set_cons_succ, i64_w, i32_w]; rfl
  refine take_ (i := 1) (N := some 49) (v := ?_) (a' := ?_) #[true,true,false,false,false] rfl rfl (by kernel_rfl) (fun _ _ _ h => h) (Or.inl ⟨by rfl, ?_⟩) hHeld ?_ ?_
  rotate_left
  · rintro w' ⟨s0, s1⟩; go_simp; with_reducible rfl
  rotate_left
  · simp only [Act.put, List.setIfInBounds_toArray, List.set_cons_zero, List.set_cons_succ, i64_w, i32_w]; rfl
  refine one_ (i := 2) (N := some 50) #[true,true,true,false,false] rfl rfl (by kernel_rfl) (by decide) (fun K hK => ?_)
  refine goes_ Try.func42 (by kernel_rfl) rfl #[.agg #[.slice A0_0 l0_0.length c0_0]] (by rfl) rfl rfl (by (try simp only [List.map_toArray, List.map_cons, List.map_nil]); first | done | rfl) ?_
  with_reducible refine (laws_toSchema.calls ke3 _ _ l0_0 r3_0 _ (Kd.C_below H0_0.out HB.out) HC0_0.out Ee3.out).mono ?_
  rintro e w15_ ⟨v15_0_, rfl, ho0, hb⟩
  refine ⟨_, rfl, ?_⟩
  have O15_0 := Aside0.mk (newR ho0 HB.out.size)
  have Z15_ := Aside0.mk (show w14_.heap.size ≤ w15_.heap.size from hb.size)
  have n_ := Aside0.mk (Kd.R_below O3_0.out hb); clear O3_0; have O3_0 := n_; clear n_
  have n_ := Aside0.mk (Kd.R_below O4_0.out hb); clear O4_0; have O4_0 := n_; clear n_
  have n_ := Aside0.mk (Kd.S_below O4_1.out hb); clear O4_1; have O4_1 := n_; clear n_
  have n_ := Aside0.mk (Kd.R_below O7_0.out hb); clear O7_0; have O7_0 := n_; clear n_
  have n_ := Aside0.mk (Kd.R_below O10_0.out hb); clear O10_0; have O10_0 := n_; clear n_
  have n_ := Aside0.mk (Kd.S_below O10_1.out hb); clear O10_1; have O10_1 := n_; clear n_
  have n_ := Aside0.mk (blk_below Bg1.out hb); clear Bg1; have Bg1 := n_; clear n_
  have n_ := Aside0.mk (blk_below Bg5.out hb); clear Bg5; have Bg5 := n_; clear n_
  have n_ := Aside0.mk (blk_below Bg6.out hb); clear Bg6; have Bg6 := n_; clear n_
  have n_ := Aside0.mk (blk_below Bg8.out hb); clear Bg8; have Bg8 := n_; clear n_
  have n_ := Aside0.mk (below_step HB.out hb); clear HB; have HB := n_; clear n_
  have hxg1_0 : w15_.cell? ⟨g1, 0, none⟩ = some (.slice A0_0 l0_0.length c0_0) := (blk_cell Bg1.out 0).trans rfl
  have hfg1_0 := blk_frozen Bg1.out 0
  have hxg5_0 : w15_.cell? ⟨g5, 0, none⟩ = some (.slice A4_0_ r4_0.length c4_0_) := (blk_cell Bg5.out 0).trans rfl
  have hxg5_1 : w15_.cell? ⟨g5, 1, none⟩ = some (.slice A4_1_ r4_1.length c4_1_) := (blk_cell Bg5.out 1).trans rfl
  have hfg5_0 := blk_frozen Bg5.out 0
  have hfg5_1 := blk_frozen Bg5.out 1
  have hxg6_0 : w15_.cell? ⟨g6, 0, none⟩ = some (.slice A7_0_ r3_0.length c7_0_) := (blk_cell Bg6.out 0).trans rfl
  have hfg6_0 := blk_frozen Bg6.out 0
  have hxg8_0 : w15_.cell? ⟨g8, 0, none⟩ = some (.slice A10_0_ r4_0.length c10_0_) := (blk_cell Bg8.out 0).trans rfl
  have hxg8_1 : w15_.cell? ⟨g8, 1, none⟩ = some (.slice A10_1_ r4_1.length c10_1_) := (blk_cell Bg8.out 1).trans rfl
  have hfg8_0 := blk_frozen Bg8.out 0
  have hfg8_1 := blk_frozen Bg8.out 1
  clear hb ho0
  obtain ⟨A15_0_, c15_0_, eq_⟩ := Kd.R_slice O15_0.out
  subst eq_
  clear hxg1_0
  clear hfg1_0
  clear hxg5_0
  clear hxg5_1
  clear hfg5_0
  clear hfg5_1
  clear hxg6_0
  clear hfg6_0
  clear hxg8_0
  clear hxg8_1
  clear hfg8_0
  clear hfg8_1
  refine hK.out _ _ ⟨(blk_cell Bg6.out 0).trans rfl, (blk_cell Bg1.out 0).trans rfl⟩ (fun hHeld => ?_)
  clear hK K
  refine norm_ (a' := ?_) ?_ ?_
  rotate_left
  · show Act.put _ (some 50) _ = _; simp only [Act.put, List.setIfInBounds_toArray, List.set_cons_zero, List.set_cons_succ, i64_w, i32_w]; rfl
  refine one_ (i := 3) (N := some 51) #[true,true,true,true,false] rfl rfl (by kernel_rfl) (by decide) (fun K hK => ?_)
  refine goes_ Try.func45 (by kernel_rfl) rfl #[.agg #[.slice A7_0_ r3_0.length c7_0_], .agg #[.slice A15_0_ r3_0.length c15_0_]] (by rfl) rfl rfl (by (try simp only [List.map_toArray, List.map_cons, List.map_nil]); first | done | rfl) ?_
  with_reducible refine (laws_eqSchema.calls ke7 _ _ r3_0 _ _ r3_0 true _ (Kd.R_reads' O7_0.out).2.2 (Kd.R_reads' O7_0.out).2.1 (Kd.R_reads' O15_0.out).2.2 (Kd.R_reads' O15_0.out).2.1 Ee7.out).mono ?_
  rintro e w16_ ⟨rfl, hb⟩
  refine ⟨_, rfl, ?_⟩
  have Z16_ := Aside0.mk (show w15_.heap.size ≤ w16_.heap.size from hb.size)
  have n_ := Aside0.mk (Kd.R_below O3_0.out hb); clear O3_0; have O3_0 := n_; clear n_
  have n_ := Aside0.mk (Kd.R_below O4_0.out hb); clear O4_0; have O4_0 := n_; clear n_
  have n_ := Aside0.mk (Kd.S_below O4_1.out hb); clear O4_1; have O4_1 := n_; clear n_
  have n_ := Aside0.mk (Kd.R_below O7_0.out hb); clear O7_0; have O7_0 := n_; clear n_
  have n_ := Aside0.mk (Kd.R_below O10_0.out hb); clear O10_0; have O10_0 := n_; clear n_
  have n_ := Aside0.mk (Kd.S_below O10_1.out hb); clear O10_1; have O10_1 := n_; clear n_
  have n_ := Aside0.mk (Kd.R_below O15_0.out hb); clear O15_0; have O15_0 := n_; clear n_
  have n_ := Aside0.mk (blk_below Bg1.out hb); clear Bg1; have Bg1 := n_; clear n_
  have n_ := Aside0.mk (blk_below Bg5.out hb); clear Bg5; have Bg5 := n_; clear n_
  have n_ := Aside0.mk (blk_below Bg6.out hb); clear Bg6; have Bg6 := n_; clear n_
  have n_ := Aside0.mk (blk_below Bg8.out hb); clear Bg8; have Bg8 := n_; clear n_
  have n_ := Aside0.mk (below_step HB.out hb); clear HB; have HB := n_; clear n_
  have hxg1_0 : w16_.cell? ⟨g1, 0, none⟩ = some (.slice A0_0 l0_0.length c0_0) := (blk_cell Bg1.out 0).trans rfl
  have hfg1_0 := blk_frozen Bg1.out 0
  have hxg5_0 : w16_.cell? ⟨g5, 0, none⟩ = some (.slice A4_0_ r4_0.length c4_0_) := (blk_cell Bg5.out 0).trans rfl
  have hxg5_1 : w16_.cell? ⟨g5, 1, none⟩ = some (.slice A4_1_ r4_1.length c4_1_) := (blk_cell Bg5.out 1).trans rfl
  have hfg5_0 := blk_frozen Bg5.out 0
  have hfg5_1 := blk_frozen Bg5.out 1
  have hxg6_0 : w16_.cell? ⟨g6, 0, none⟩ = some (.slice A7_0_ r3_0.length c7_0_) := (blk_cell Bg6.out 0).trans rfl
  have hfg6_0 := blk_frozen Bg6.out 0
  have hxg8_0 : w16_.cell? ⟨g8, 0, none⟩ = some (.slice A10_0_ r4_0.length c10_0_) := (blk_cell Bg8.out 0).trans rfl
  have hxg8_1 : w16_.cell? ⟨g8, 1, none⟩ = some (.slice A10_1_ r4_1.length c10_1_) := (blk_cell Bg8.out 1).trans rfl
  have hfg8_0 := blk_frozen Bg8.out 0
  have hfg8_1 := blk_frozen Bg8.out 1
  clear hb
  clear hxg1_0
  clear hfg1_0
  clear hxg5_0
  clear hxg5_1
  clear hfg5_0
  clear hfg5_1
  clear hxg6_0
  clear hfg6_0
  clear hxg8_0
  clear hxg8_1
  clear hfg8_0
  clear hfg8_1
  refine hK.out _ _ ⟨(blk_cell Bg6.out 0).trans rfl, (blk_cell Bg1.out 0).trans rfl⟩ (fun hHeld => ?_)
  clear hK K
  refine norm_ (a' := ?_) ?_ ?_
  rotate_left
  · show Act.put _ (some 51) _ = _; simp only [Act.put, List.setIfInBounds_toArray, List.set_cons_zero, List.set_cons_succ, i64_w, i32_w]; rfl
  refine pure_ (i := 4) (N := some 52) (v := ?_) (a' := ?_) #[true,true,true,true,true] rfl rfl (by kernel_rfl) (fun _ _ _ h => h) (Or.inl ⟨by rfl, ?_⟩) ?_ ?_
  rotate_left
  · intro w'; go_simp; with_reducible rfl
  rotate_left
  · simp only [Act.put, List.setIfInBounds_toArray, List.set_cons_zero, List.set_cons_succ, i64_w, i32_w]; rfl
  refine done_ (by kernel_rfl) ?_
  have hxg1_0 : w16_.cell? ⟨g1, 0, none⟩ = some (.slice A0_0 l0_0.length c0_0) := (blk_cell Bg1.out 0).trans rfl
  have hfg1_0 := blk_frozen Bg1.out 0
  have hxg5_0 : w16_.cell? ⟨g5, 0, none⟩ = some (.slice A4_0_ r4_0.length c4_0_) := (blk_cell Bg5.out 0).trans rfl
  have hxg5_1 : w16_.cell? ⟨g5, 1, none⟩ = some (.slice A4_1_ r4_1.length c4_1_) := (blk_cell Bg5.out 1).trans rfl
  have hfg5_0 := blk_frozen Bg5.out 0
  have hfg5_1 := blk_frozen Bg5.out 1
  have hxg6_0 : w16_.cell? ⟨g6, 0, none⟩ = some (.slice A7_0_ r3_0.length c7_0_) := (blk_cell Bg6.out 0).trans rfl
  have hfg6_0 := blk_frozen Bg6.out 0
  have hxg8_0 : w16_.cell? ⟨g8, 0, none⟩ = some (.slice A10_0_ r4_0.length c10_0_) := (blk_cell Bg8.out 0).trans rfl
  have hxg8_1 : w16_.cell? ⟨g8, 1, none⟩ = some (.slice A10_1_ r4_1.length c10_1_) := (blk_cell Bg8.out 1).trans rfl
  have hfg8_0 := blk_frozen Bg8.out 0
  have hfg8_1 := blk_frozen Bg8.out 1
  go_wp2_with (first | (go_at_call 54; refine hold ?_))
  unfold Hold
  refine (laws_markSchema.calls ke8 (fun k_ => w6_.heap.size ≤ k_ ∧ k_ < w7_.heap.size) (.slice A7_0_ r3_0.length c7_0_) r3_0 1 r8_0 r8_1 w _ HB.out (Kd.R_mono O7_0.out (fun _ h_ => h_.1)) Ee8.out).mono ?_
  rintro e w17_ ⟨rfl, ho0, hb0, hk⟩
  have n_ := Aside0.mk (show Kd.R (Kd.int .i64) 3 w17_ w.heap.size (fun k_ => (w6_.heap.size ≤ k_ ∧ k_ < w7_.heap.size) ∧ True) (.slice A7_0_ r3_0.length c7_0_) r8_1 from Kd.R_mono (Kd.R_tight2 rfl ho0) (fun k_ hk_ => ⟨(O7_0.out.1 k_ hk_.1.symm).1, trivial⟩)); clear O7_0; have O7_0 := n_; clear n_
  clear ho0
  have Z17_ := Aside0.mk (show w16_.heap.size ≤ w17_.heap.size from hk.1)
  have n_ := Aside0.mk (Kd.R_kept O3_0.out hk (fun k_ hk1 hk2 => by obtain ⟨a1_, a2_⟩ := hk1.1; obtain ⟨b1_, b2_⟩ := hk2; have z4_ := Z4_.out; have z5_ := Z5_.out; have z6_ := Z6_.out; omega)); clear O3_0; have O3_0 := n_; clear n_
  have n_ := Aside0.mk (Kd.R_kept O4_0.out hk (fun k_ hk1 hk2 => by obtain ⟨a1_, a2_⟩ := hk1.1; obtain ⟨b1_, b2_⟩ := hk2; have z5_ := Z5_.out; have z6_ := Z6_.out; omega)); clear O4_0; have O4_0 := n_; clear n_
  have n_ := Aside0.mk (Kd.S_kept O4_1.out hk (fun k_ hk1 hk2 => by obtain ⟨a1_, a2_⟩ := hk1.1; obtain ⟨b1_, b2_⟩ := hk2; have z5_ := Z5_.out; have z6_ := Z6_.out; omega)); clear O4_1; have O4_1 := n_; clear n_
  have n_ := Aside0.mk (Kd.R_kept O10_0.out hk (fun k_ hk1 hk2 => by obtain ⟨a1_, a2_⟩ := hk1.1; obtain ⟨b1_, b2_⟩ := hk2; have z8_ := Z8_.out; have z9_ := Z9_.out; omega)); clear O10_0; have O10_0 := n_; clear n_
  have n_ := Aside0.mk (Kd.S_kept O10_1.out hk (fun k_ hk1 hk2 => by obtain ⟨a1_, a2_⟩ := hk1.1; obtain ⟨b1_, b2_⟩ := hk2; have z8_ := Z8_.out; have z9_ := Z9_.out; omega)); clear O10_1; have O10_1 := n_; clear n_
  have n_ := Aside0.mk (Kd.R_kept O15_0.out hk (fun k_ hk1 hk2 => by obtain ⟨a1_, a2_⟩ := hk1.1; obtain ⟨b1_, b2_⟩ := hk2; have z8_ := Z8_.out; have z9_ := Z9_.out; have z10_ := Z10_.out; have z11_ := Z11_.out; have z12_ := Z12_.out; have z13_ := Z13_.out; have z14_ := Z14_.out; omega)); clear O15_0; have O15_0 := n_; clear n_
  have n_ := Aside0.mk (blk_kept Bg1.out hk (fun hk2 => by obtain ⟨a1_, a2_⟩ := Gg1.out; obtain ⟨b1_, b2_⟩ := hk2; have z2_ := Z2_.out; have z3_ := Z3_.out; have z4_ := Z4_.out; have z5_ := Z5_.out; have z6_ := Z6_.out; omega)); clear Bg1; have Bg1 := n_; clear n_
  have n_ := Aside0.mk (blk_kept Bg5.out hk (fun hk2 => by obtain ⟨a1_, a2_⟩ := Gg5.out; obtain ⟨b1_, b2_⟩ := hk2; have z6_ := Z6_.out; omega)); clear Bg5; have Bg5 := n_; clear n_
  have n_ := Aside0.mk (blk_kept Bg6.out hk (fun hk2 => by obtain ⟨a1_, a2_⟩ := Gg6.out; obtain ⟨b1_, b2_⟩ := hk2; omega)); clear Bg6; have Bg6 := n_; clear n_
  have n_ := Aside0.mk (blk_kept Bg8.out hk (fun hk2 => by obtain ⟨a1_, a2_⟩ := Gg8.out; obtain ⟨b1_, b2_⟩ := hk2; have z8_ := Z8_.out; have z9_ := Z9_.out; have z10_ := Z10_.out; omega)); clear Bg8; have Bg8 := n_; clear n_
  clear HB; have HB := Aside0.mk hb0
  clear hxg1_0
  clear hfg1_0
  clear hxg5_0
  clear hxg5_1
  clear hfg5_0
  clear hfg5_1
  clear hxg6_0
  clear hfg6_0
  clear hxg8_0
  clear hxg8_1
  clear hfg8_0
  clear hfg8_1
  have hxg1_0 : w17_.cell? ⟨g1, 0, none⟩ = some (.slice A0_0 l0_0.length c0_0) := (blk_cell Bg1.out 0).trans rfl
  have hfg1_0 := blk_frozen Bg1.out 0
  have hxg5_0 : w17_.cell? ⟨g5, 0, none⟩ = some (.slice A4_0_ r4_0.length c4_0_) := (blk_cell Bg5.out 0).trans rfl
  have hxg5_1 : w17_.cell? ⟨g5, 1, none⟩ = some (.slice A4_1_ r4_1.length c4_1_) := (blk_cell Bg5.out 1).trans rfl
  have hfg5_0 := blk_frozen Bg5.out 0
  have hfg5_1 := blk_frozen Bg5.out 1
  have hxg6_0 : w17_.cell? ⟨g6, 0, none⟩ = some (.slice A7_0_ r3_0.length c7_0_) := (blk_cell Bg6.out 0).trans rfl
  have hfg6_0 := blk_frozen Bg6.out 0
  have hxg8_0 : w17_.cell? ⟨g8, 0, none⟩ = some (.slice A10_0_ r4_0.length c10_0_) := (blk_cell Bg8.out 0).trans rfl
  have hxg8_1 : w17_.cell? ⟨g8, 1, none⟩ = some (.slice A10_1_ r4_1.length c10_1_) := (blk_cell Bg8.out 1).trans rfl
  have hfg8_0 := blk_frozen Bg8.out 0
  have hfg8_1 := blk_frozen Bg8.out 1
  clear hk hb0
  go_wp2_with (first | (go_at_call 35; refine hold ?_))
  unfold Hold
  refine (laws_eqQuery.calls ke6 _ _ r4_0 _ _ r4_1 _ _ r4_0 _ _ r4_1 true _ (Kd.R_reads' O10_0.out).2.2 (Kd.R_reads' O10_0.out).2.1 (Kd.S_reads' O10_1.out).2.2 (Kd.S_reads' O10_1.out).2.1 (Kd.R_reads' O4_0.out).2.2 (Kd.R_reads' O4_0.out).2.1 (Kd.S_reads' O4_1.out).2.2 (Kd.S_reads' O4_1.out).2.1 Ee6.out).mono ?_
  rintro e w18_ ⟨rfl, hb⟩
  have Z18_ := Aside0.mk (show w17_.heap.size ≤ w18_.heap.size from hb.size)
  have n_ := Aside0.mk (Kd.R_below O3_0.out hb); clear O3_0; have O3_0 := n_; clear n_
  have n_ := Aside0.mk (Kd.R_below O4_0.out hb); clear O4_0; have O4_0 := n_; clear n_
  have n_ := Aside0.mk (Kd.S_below O4_1.out hb); clear O4_1; have O4_1 := n_; clear n_
  have n_ := Aside0.mk (Kd.R_below O7_0.out hb); clear O7_0; have O7_0 := n_; clear n_
  have n_ := Aside0.mk (Kd.R_below O10_0.out hb); clear O10_0; have O10_0 := n_; clear n_
  have n_ := Aside0.mk (Kd.S_below O10_1.out hb); clear O10_1; have O10_1 := n_; clear n_
  have n_ := Aside0.mk (Kd.R_below O15_0.out hb); clear O15_0; have O15_0 := n_; clear n_
  have n_ := Aside0.mk (blk_below Bg1.out hb); clear Bg1; have Bg1 := n_; clear n_
  have n_ := Aside0.mk (blk_below Bg5.out hb); clear Bg5; have Bg5 := n_; clear n_
  have n_ := Aside0.mk (blk_below Bg6.out hb); clear Bg6; have Bg6 := n_; clear n_
  have n_ := Aside0.mk (blk_below Bg8.out hb); clear Bg8; have Bg8 := n_; clear n_
  have n_ := Aside0.mk (below_step HB.out hb); clear HB; have HB := n_; clear n_
  clear hxg1_0
  clear hfg1_0
  clear hxg5_0
  clear hxg5_1
  clear hfg5_0
  clear hfg5_1
  clear hxg6_0
  clear hfg6_0
  clear hxg8_0
  clear hxg8_1
  clear hfg8_0
  clear hfg8_1
  have hxg1_0 : w18_.cell? ⟨g1, 0, none⟩ = some (.slice A0_0 l0_0.length c0_0) := (blk_cell Bg1.out 0).trans rfl
  have hfg1_0 := blk_frozen Bg1.out 0
  have hxg5_0 : w18_.cell? ⟨g5, 0, none⟩ = some (.slice A4_0_ r4_0.length c4_0_) := (blk_cell Bg5.out 0).trans rfl
  have hxg5_1 : w18_.cell? ⟨g5, 1, none⟩ = some (.slice A4_1_ r4_1.length c4_1_) := (blk_cell Bg5.out 1).trans rfl
  have hfg5_0 := blk_frozen Bg5.out 0
  have hfg5_1 := blk_frozen Bg5.out 1
  have hxg6_0 : w18_.cell? ⟨g6, 0, none⟩ = some (.slice A7_0_ r3_0.length c7_0_) := (blk_cell Bg6.out 0).trans rfl
  have hfg6_0 := blk_frozen Bg6.out 0
  have hxg8_0 : w18_.cell? ⟨g8, 0, none⟩ = some (.slice A10_0_ r4_0.length c10_0_) := (blk_cell Bg8.out 0).trans rfl
  have hxg8_1 : w18_.cell? ⟨g8, 1, none⟩ = some (.slice A10_1_ r4_1.length c10_1_) := (blk_cell Bg8.out 1).trans rfl
  have hfg8_0 := blk_frozen Bg8.out 0
  have hfg8_1 := blk_frozen Bg8.out 1
  clear hb
  go_wp2_with (first | (go_at_call 36; refine hold ?_))
  unfold Hold
  refine (markQuery_calls (fun k_ => w9_.heap.size ≤ k_ ∧ k_ < w10_.heap.size) (.slice A10_0_ r4_0.length c10_0_) (.slice A10_1_ r4_1.length c10_1_) r4_0 r4_1 1 r10_0 r10_1 r10_2 w _ HB.out (Kd.R_mono O10_0.out (fun _ h_ => h_.1)) (Kd.S_mono O10_1.out (fun _ h_ => ⟨h_.1, h_.2⟩)) e10_hz0.out Ee10.out).mono ?_
  rintro e w19_ ⟨rfl, ho0, ho1, hb0, hk⟩
  have n_ := Aside0.mk (show Kd.R (Kd.int .i64) 3 w19_ w.heap.size (fun k_ => (w9_.heap.size ≤ k_ ∧ k_ < w10_.heap.size) ∧ True) (.slice A10_0_ r4_0.length c10_0_) r10_1 from Kd.R_mono (Kd.R_tight2 rfl ho0) (fun k_ hk_ => ⟨(O10_0.out.1 k_ hk_.1.symm).1, trivial⟩)); clear O10_0; have O10_0 := n_; clear n_
  have n_ := Aside0.mk (show Kd.S k38 38 w19_ w.heap.size (fun k_ => (w9_.heap.size ≤ k_ ∧ k_ < w10_.heap.size) ∧ some k_ ≠ (.slice A10_0_ r4_0.length c10_0_ : Value).ownBlock) (.slice A10_1_ r4_1.length c10_1_) r10_2 from Kd.S_mono ho1 (fun _ hk_ => ⟨hk_.1, hk_.2⟩)); clear O10_1; have O10_1 := n_; clear n_
  clear ho0
  clear ho1
  have Z19_ := Aside0.mk (show w18_.heap.size ≤ w19_.heap.size from hk.1)
  have n_ := Aside0.mk (Kd.R_kept O3_0.out hk (fun k_ hk1 hk2 => by obtain ⟨a1_, a2_⟩ := hk1.1; obtain ⟨b1_, b2_⟩ := hk2; have z4_ := Z4_.out; have z5_ := Z5_.out; have z6_ := Z6_.out; have z7_ := Z7_.out; have z8_ := Z8_.out; have z9_ := Z9_.out; omega)); clear O3_0; have O3_0 := n_; clear n_
  have n_ := Aside0.mk (Kd.R_kept O4_0.out hk (fun k_ hk1 hk2 => by obtain ⟨a1_, a2_⟩ := hk1.1; obtain ⟨b1_, b2_⟩ := hk2; have z5_ := Z5_.out; have z6_ := Z6_.out; have z7_ := Z7_.out; have z8_ := Z8_.out; have z9_ := Z9_.out; omega)); clear O4_0; have O4_0 := n_; clear n_
  have n_ := Aside0.mk (Kd.S_kept O4_1.out hk (fun k_ hk1 hk2 => by obtain ⟨a1_, a2_⟩ := hk1.1; obtain ⟨b1_, b2_⟩ := hk2; have z5_ := Z5_.out; have z6_ := Z6_.out; have z7_ := Z7_.out; have z8_ := Z8_.out; have z9_ := Z9_.out; omega)); clear O4_1; have O4_1 := n_; clear n_
  have n_ := Aside0.mk (Kd.R_kept O7_0.out hk (fun k_ hk1 hk2 => by obtain ⟨a1_, a2_⟩ := hk1.1; obtain ⟨b1_, b2_⟩ := hk2; have z8_ := Z8_.out; have z9_ := Z9_.out; omega)); clear O7_0; have O7_0 := n_; clear n_
  have n_ := Aside0.mk (Kd.R_kept O15_0.out hk (fun k_ hk1 hk2 => by obtain ⟨a1_, a2_⟩ := hk1.1; obtain ⟨b1_, b2_⟩ := hk2; have z11_ := Z11_.out; have z12_ := Z12_.out; have z13_ := Z13_.out; have z14_ := Z14_.out; omega)); clear O15_0; have O15_0 := n_; clear n_
  have n_ := Aside0.mk (blk_kept Bg1.out hk (fun hk2 => by obtain ⟨a1_, a2_⟩ := Gg1.out; obtain ⟨b1_, b2_⟩ := hk2; have z2_ := Z2_.out; have z3_ := Z3_.out; have z4_ := Z4_.out; have z5_ := Z5_.out; have z6_ := Z6_.out; have z7_ := Z7_.out; have z8_ := Z8_.out; have z9_ := Z9_.out; omega)); clear Bg1; have Bg1 := n_; clear n_
  have n_ := Aside0.mk (blk_kept Bg5.out hk (fun hk2 => by obtain ⟨a1_, a2_⟩ := Gg5.out; obtain ⟨b1_, b2_⟩ := hk2; have z6_ := Z6_.out; have z7_ := Z7_.out; have z8_ := Z8_.out; have z9_ := Z9_.out; omega)); clear Bg5; have Bg5 := n_; clear n_
  have n_ := Aside0.mk (blk_kept Bg6.out hk (fun hk2 => by obtain ⟨a1_, a2_⟩ := Gg6.out; obtain ⟨b1_, b2_⟩ := hk2; have z9_ := Z9_.out; omega)); clear Bg6; have Bg6 := n_; clear n_
  have n_ := Aside0.mk (blk_kept Bg8.out hk (fun hk2 => by obtain ⟨a1_, a2_⟩ := Gg8.out; obtain ⟨b1_, b2_⟩ := hk2; omega)); clear Bg8; have Bg8 := n_; clear n_
  clear HB; have HB := Aside0.mk hb0
  clear hxg1_0
  clear hfg1_0
  clear hxg5_0
  clear hxg5_1
  clear hfg5_0
  clear hfg5_1
  clear hxg6_0
  clear hfg6_0
  clear hxg8_0
  clear hxg8_1
  clear hfg8_0
  clear hfg8_1
  have hxg1_0 : w19_.cell? ⟨g1, 0, none⟩ = some (.slice A0_0 l0_0.length c0_0) := (blk_cell Bg1.out 0).trans rfl
  have hfg1_0 := blk_frozen Bg1.out 0
  have hxg5_0 : w19_.cell? ⟨g5, 0, none⟩ = some (.slice A4_0_ r4_0.length c4_0_) := (blk_cell Bg5.out 0).trans rfl
  have hxg5_1 : w19_.cell? ⟨g5, 1, none⟩ = some (.slice A4_1_ r4_1.length c4_1_) := (blk_cell Bg5.out 1).trans rfl
  have hfg5_0 := blk_frozen Bg5.out 0
  have hfg5_1 := blk_frozen Bg5.out 1
  have hxg6_0 : w19_.cell? ⟨g6, 0, none⟩ = some (.slice A7_0_ r3_0.length c7_0_) := (blk_cell Bg6.out 0).trans rfl
  have hfg6_0 := blk_frozen Bg6.out 0
  have hxg8_0 : w19_.cell? ⟨g8, 0, none⟩ = some (.slice A10_0_ r4_0.length c10_0_) := (blk_cell Bg8.out 0).trans rfl
  have hxg8_1 : w19_.cell? ⟨g8, 1, none⟩ = some (.slice A10_1_ r4_1.length c10_1_) := (blk_cell Bg8.out 1).trans rfl
  have hfg8_0 := blk_frozen Bg8.out 0
  have hfg8_1 := blk_frozen Bg8.out 1
  clear hk hb0
  go_wp2_with (first | (go_at_call 69; refine hold ?_))
  unfold Hold
  refine calls_of_args (args' := #[.agg #[.slice A10_0_ r10_1.length c10_0_, .slice A10_1_ r10_2.length c10_1_], .int .i64 1]) (by rw [show r4_0.length = r10_1.length from (Kd.R_reads' O10_0.out).1, show r4_1.length = r10_2.length from (Kd.S_reads' O10_1.out).1]) ?_
  refine (laws_heldQuery.calls ke11 _ _ r10_1 _ _ r10_2 1 r10_0 _ (Kd.R_reads' O10_0.out).2.2 (Nat.le_trans (Nat.le_of_eq (Kd.R_reads' O10_0.out).1.symm) (Kd.R_reads' O10_0.out).2.1) (Kd.S_reads' O10_1.out).2.2 (Nat.le_trans (Nat.le_of_eq (Kd.S_reads' O10_1.out).1.symm) (Kd.S_reads' O10_1.out).2.1) Ee11.out).mono ?_
  rintro e w20_ ⟨rfl, hb⟩
  have Z20_ := Aside0.mk (show w19_.heap.size ≤ w20_.heap.size from hb.size)
  have n_ := Aside0.mk (Kd.R_below O3_0.out hb); clear O3_0; have O3_0 := n_; clear n_
  have n_ := Aside0.mk (Kd.R_below O4_0.out hb); clear O4_0; have O4_0 := n_; clear n_
  have n_ := Aside0.mk (Kd.S_below O4_1.out hb); clear O4_1; have O4_1 := n_; clear n_
  have n_ := Aside0.mk (Kd.R_below O7_0.out hb); clear O7_0; have O7_0 := n_; clear n_
  have n_ := Aside0.mk (Kd.R_below O10_0.out hb); clear O10_0; have O10_0 := n_; clear n_
  have n_ := Aside0.mk (Kd.S_below O10_1.out hb); clear O10_1; have O10_1 := n_; clear n_
  have n_ := Aside0.mk (Kd.R_below O15_0.out hb); clear O15_0; have O15_0 := n_; clear n_
  have n_ := Aside0.mk (blk_below Bg1.out hb); clear Bg1; have Bg1 := n_; clear n_
  have n_ := Aside0.mk (blk_below Bg5.out hb); clear Bg5; have Bg5 := n_; clear n_
  have n_ := Aside0.mk (blk_below Bg6.out hb); clear Bg6; have Bg6 := n_; clear n_
  have n_ := Aside0.mk (blk_below Bg8.out hb); clear Bg8; have Bg8 := n_; clear n_
  have n_ := Aside0.mk (below_step HB.out hb); clear HB; have HB := n_; clear n_
  clear hxg1_0
  clear hfg1_0
  clear hxg5_0
  clear hxg5_1
  clear hfg5_0
  clear hfg5_1
  clear hxg6_0
  clear hfg6_0
  clear hxg8_0
  clear hxg8_1
  clear hfg8_0
  clear hfg8_1
  have hxg1_0 : w20_.cell? ⟨g1, 0, none⟩ = some (.slice A0_0 l0_0.length c0_0) := (blk_cell Bg1.out 0).trans rfl
  have hfg1_0 := blk_frozen Bg1.out 0
  have hxg5_0 : w20_.cell? ⟨g5, 0, none⟩ = some (.slice A4_0_ r4_0.length c4_0_) := (blk_cell Bg5.out 0).trans rfl
  have hxg5_1 : w20_.cell? ⟨g5, 1, none⟩ = some (.slice A4_1_ r4_1.length c4_1_) := (blk_cell Bg5.out 1).trans rfl
  have hfg5_0 := blk_frozen Bg5.out 0
  have hfg5_1 := blk_frozen Bg5.out 1
  have hxg6_0 : w20_.cell? ⟨g6, 0, none⟩ = some (.slice A7_0_ r3_0.length c7_0_) := (blk_cell Bg6.out 0).trans rfl
  have hfg6_0 := blk_frozen Bg6.out 0
  have hxg8_0 : w20_.cell? ⟨g8, 0, none⟩ = some (.slice A10_0_ r4_0.length c10_0_) := (blk_cell Bg8.out 0).trans rfl
  have hxg8_1 : w20_.cell? ⟨g8, 1, none⟩ = some (.slice A10_1_ r4_1.length c10_1_) := (blk_cell Bg8.out 1).trans rfl
  have hfg8_0 := blk_frozen Bg8.out 0
  have hfg8_1 := blk_frozen Bg8.out 1
  clear hb
  go_wp2_with (first | (go_at_call 42; refine hold ?_))
  unfold Hold
  refine (laws_toSchema.calls ke3 _ _ l0_0 r3_0 _ (Kd.C_below H0_0.out HB.out) HC0_0.out Ee3.out).mono ?_
  rintro e w21_ ⟨v21_0_, rfl, ho0, hb⟩
  have O21_0 := Aside0.mk (newR ho0 HB.out.size)
  have Z21_ := Aside0.mk (show w20_.heap.size ≤ w21_.heap.size from hb.size)
  have n_ := Aside0.mk (Kd.R_below O3_0.out hb); clear O3_0; have O3_0 := n_; clear n_
  have n_ := Aside0.mk (Kd.R_below O4_0.out hb); clear O4_0; have O4_0 := n_; clear n_
  have n_ := Aside0.mk (Kd.S_below O4_1.out hb); clear O4_1; have O4_1 := n_; clear n_
  have n_ := Aside0.mk (Kd.R_below O7_0.out hb); clear O7_0; have O7_0 := n_; clear n_
  have n_ := Aside0.mk (Kd.R_below O10_0.out hb); clear O10_0; have O10_0 := n_; clear n_
  have n_ := Aside0.mk (Kd.S_below O10_1.out hb); clear O10_1; have O10_1 := n_; clear n_
  have n_ := Aside0.mk (Kd.R_below O15_0.out hb); clear O15_0; have O15_0 := n_; clear n_
  have n_ := Aside0.mk (blk_below Bg1.out hb); clear Bg1; have Bg1 := n_; clear n_
  have n_ := Aside0.mk (blk_below Bg5.out hb); clear Bg5; have Bg5 := n_; clear n_
  have n_ := Aside0.mk (blk_below Bg6.out hb); clear Bg6; have Bg6 := n_; clear n_
  have n_ := Aside0.mk (blk_below Bg8.out hb); clear Bg8; have Bg8 := n_; clear n_
  have n_ := Aside0.mk (below_step HB.out hb); clear HB; have HB := n_; clear n_
  clear hxg1_0
  clear hfg1_0
  clear hxg5_0
  clear hxg5_1
  clear hfg5_0
  clear hfg5_1
  clear hxg6_0
  clear hfg6_0
  clear hxg8_0
  clear hxg8_1
  clear hfg8_0
  clear hfg8_1
  have hxg1_0 : w21_.cell? ⟨g1, 0, none⟩ = some (.slice A0_0 l0_0.length c0_0) := (blk_cell Bg1.out 0).trans rfl
  have hfg1_0 := blk_frozen Bg1.out 0
  have hxg5_0 : w21_.cell? ⟨g5, 0, none⟩ = some (.slice A4_0_ r4_0.length c4_0_) := (blk_cell Bg5.out 0).trans rfl
  have hxg5_1 : w21_.cell? ⟨g5, 1, none⟩ = some (.slice A4_1_ r4_1.length c4_1_) := (blk_cell Bg5.out 1).trans rfl
  have hfg5_0 := blk_frozen Bg5.out 0
  have hfg5_1 := blk_frozen Bg5.out 1
  have hxg6_0 : w21_.cell? ⟨g6, 0, none⟩ = some (.slice A7_0_ r3_0.length c7_0_) := (blk_cell Bg6.out 0).trans rfl
  have hfg6_0 := blk_frozen Bg6.out 0
  have hxg8_0 : w21_.cell? ⟨g8, 0, none⟩ = some (.slice A10_0_ r4_0.length c10_0_) := (blk_cell Bg8.out 0).trans rfl
  have hxg8_1 : w21_.cell? ⟨g8, 1, none⟩ = some (.slice A10_1_ r4_1.length c10_1_) := (blk_cell Bg8.out 1).trans rfl
  have hfg8_0 := blk_frozen Bg8.out 0
  have hfg8_1 := blk_frozen Bg8.out 1
  clear hb ho0
  obtain ⟨A21_0_, c21_0_, eq_⟩ := Kd.R_slice O21_0.out
  subst eq_
  go_wp2_with (first | (go_at_call 68; refine hold ?_))
  unfold Hold
  refine (impl_ParseQuery.calls ke5 _ _ r3_0 a1 r4_0 r4_1 r4_2 _ (Kd.R_reads' O21_0.out).2.2 (Kd.R_reads' O21_0.out).2.1 Ee5.out).mono ?_
  rintro e w22_ ⟨v22_0_, v22_1_, rfl, ho0, ho1, hb⟩
  have O22_0 := Aside0.mk (newR ho0 HB.out.size)
  have O22_1 := Aside0.mk (newS ho1 HB.out.size)
  have Z22_ := Aside0.mk (show w21_.heap.size ≤ w22_.heap.size from hb.size)
  have n_ := Aside0.mk (Kd.R_below O3_0.out hb); clear O3_0; have O3_0 := n_; clear n_
  have n_ := Aside0.mk (Kd.R_below O4_0.out hb); clear O4_0; have O4_0 := n_; clear n_
  have n_ := Aside0.mk (Kd.S_below O4_1.out hb); clear O4_1; have O4_1 := n_; clear n_
  have n_ := Aside0.mk (Kd.R_below O7_0.out hb); clear O7_0; have O7_0 := n_; clear n_
  have n_ := Aside0.mk (Kd.R_below O10_0.out hb); clear O10_0; have O10_0 := n_; clear n_
  have n_ := Aside0.mk (Kd.S_below O10_1.out hb); clear O10_1; have O10_1 := n_; clear n_
  have n_ := Aside0.mk (Kd.R_below O15_0.out hb); clear O15_0; have O15_0 := n_; clear n_
  have n_ := Aside0.mk (Kd.R_below O21_0.out hb); clear O21_0; have O21_0 := n_; clear n_
  have n_ := Aside0.mk (blk_below Bg1.out hb); clear Bg1; have Bg1 := n_; clear n_
  have n_ := Aside0.mk (blk_below Bg5.out hb); clear Bg5; have Bg5 := n_; clear n_
  have n_ := Aside0.mk (blk_below Bg6.out hb); clear Bg6; have Bg6 := n_; clear n_
  have n_ := Aside0.mk (blk_below Bg8.out hb); clear Bg8; have Bg8 := n_; clear n_
  have n_ := Aside0.mk (below_step HB.out hb); clear HB; have HB := n_; clear n_
  clear hxg1_0
  clear hfg1_0
  clear hxg5_0
  clear hxg5_1
  clear hfg5_0
  clear hfg5_1
  clear hxg6_0
  clear hfg6_0
  clear hxg8_0
  clear hxg8_1
  clear hfg8_0
  clear hfg8_1
  have hxg1_0 : w22_.cell? ⟨g1, 0, none⟩ = some (.slice A0_0 l0_0.length c0_0) := (blk_cell Bg1.out 0).trans rfl
  have hfg1_0 := blk_frozen Bg1.out 0
  have hxg5_0 : w22_.cell? ⟨g5, 0, none⟩ = some (.slice A4_0_ r4_0.length c4_0_) := (blk_cell Bg5.out 0).trans rfl
  have hxg5_1 : w22_.cell? ⟨g5, 1, none⟩ = some (.slice A4_1_ r4_1.length c4_1_) := (blk_cell Bg5.out 1).trans rfl
  have hfg5_0 := blk_frozen Bg5.out 0
  have hfg5_1 := blk_frozen Bg5.out 1
  have hxg6_0 : w22_.cell? ⟨g6, 0, none⟩ = some (.slice A7_0_ r3_0.length c7_0_) := (blk_cell Bg6.out 0).trans rfl
  have hfg6_0 := blk_frozen Bg6.out 0
  have hxg8_0 : w22_.cell? ⟨g8, 0, none⟩ = some (.slice A10_0_ r4_0.length c10_0_) := (blk_cell Bg8.out 0).trans rfl
  have hxg8_1 : w22_.cell? ⟨g8, 1, none⟩ = some (.slice A10_1_ r4_1.length c10_1_) := (blk_cell Bg8.out 1).trans rfl
  have hfg8_0 := blk_frozen Bg8.out 0
  have hfg8_1 := blk_frozen Bg8.out 1
  clear hb ho0 ho1
  obtain ⟨A22_0_, c22_0_, eq_⟩ := Kd.R_slice O22_0.out
  subst eq_
  obtain ⟨A22_1_, c22_1_, eq_⟩ := Kd.S_slice O22_1.out
  subst eq_
  go_wp2_with (first | ((with_reducible refine gate_dst (N := 14) rfl ?_); refine hold ?_))
  unfold Hold
  refine box_event ?hg (N := 14) ?hd (cs := #[.slice none 0 0, .slice none 0 0]) (t := 49) ?hr ?_
  case hd => rfl
  case hg => rfl
  case hr => first | (go_simp; done) | (go_simp; rfl)
  intro g14 hg w23_ hbox hb
  have Bg14 := Aside0.mk hbox
  have Gg14 := Aside0.mk (show w22_.heap.size ≤ g14 ∧ g14 < w23_.heap.size from ⟨by rw [hg]; exact Nat.le_refl _, blk_lt hbox⟩)
  clear hbox hg
  have Z23_ := Aside0.mk (show w22_.heap.size ≤ w23_.heap.size from hb.size)
  have n_ := Aside0.mk (Kd.R_below O3_0.out hb); clear O3_0; have O3_0 := n_; clear n_
  have n_ := Aside0.mk (Kd.R_below O4_0.out hb); clear O4_0; have O4_0 := n_; clear n_
  have n_ := Aside0.mk (Kd.S_below O4_1.out hb); clear O4_1; have O4_1 := n_; clear n_
  have n_ := Aside0.mk (Kd.R_below O7_0.out hb); clear O7_0; have O7_0 := n_; clear n_
  have n_ := Aside0.mk (Kd.R_below O10_0.out hb); clear O10_0; have O10_0 := n_; clear n_
  have n_ := Aside0.mk (Kd.S_below O10_1.out hb); clear O10_1; have O10_1 := n_; clear n_
  have n_ := Aside0.mk (Kd.R_below O15_0.out hb); clear O15_0; have O15_0 := n_; clear n_
  have n_ := Aside0.mk (Kd.R_below O21_0.out hb); clear O21_0; have O21_0 := n_; clear n_
  have n_ := Aside0.mk (Kd.R_below O22_0.out hb); clear O22_0; have O22_0 := n_; clear n_
  have n_ := Aside0.mk (Kd.S_below O22_1.out hb); clear O22_1; have O22_1 := n_; clear n_
  have n_ := Aside0.mk (blk_below Bg1.out hb); clear Bg1; have Bg1 := n_; clear n_
  have n_ := Aside0.mk (blk_below Bg5.out hb); clear Bg5; have Bg5 := n_; clear n_
  have n_ := Aside0.mk (blk_below Bg6.out hb); clear Bg6; have Bg6 := n_; clear n_
  have n_ := Aside0.mk (blk_below Bg8.out hb); clear Bg8; have Bg8 := n_; clear n_
  have n_ := Aside0.mk (below_step HB.out hb); clear HB; have HB := n_; clear n_
  clear hxg1_0
  clear hfg1_0
  clear hxg5_0
  clear hxg5_1
  clear hfg5_0
  clear hfg5_1
  clear hxg6_0
  clear hfg6_0
  clear hxg8_0
  clear hxg8_1
  clear hfg8_0
  clear hfg8_1
  have hxg1_0 : w23_.cell? ⟨g1, 0, none⟩ = some (.slice A0_0 l0_0.length c0_0) := (blk_cell Bg1.out 0).trans rfl
  have hfg1_0 := blk_frozen Bg1.out 0
  have hxg5_0 : w23_.cell? ⟨g5, 0, none⟩ = some (.slice A4_0_ r4_0.length c4_0_) := (blk_cell Bg5.out 0).trans rfl
  have hxg5_1 : w23_.cell? ⟨g5, 1, none⟩ = some (.slice A4_1_ r4_1.length c4_1_) := (blk_cell Bg5.out 1).trans rfl
  have hfg5_0 := blk_frozen Bg5.out 0
  have hfg5_1 := blk_frozen Bg5.out 1
  have hxg6_0 : w23_.cell? ⟨g6, 0, none⟩ = some (.slice A7_0_ r3_0.length c7_0_) := (blk_cell Bg6.out 0).trans rfl
  have hfg6_0 := blk_frozen Bg6.out 0
  have hxg8_0 : w23_.cell? ⟨g8, 0, none⟩ = some (.slice A10_0_ r4_0.length c10_0_) := (blk_cell Bg8.out 0).trans rfl
  have hxg8_1 : w23_.cell? ⟨g8, 1, none⟩ = some (.slice A10_1_ r4_1.length c10_1_) := (blk_cell Bg8.out 1).trans rfl
  have hfg8_0 := blk_frozen Bg8.out 0
  have hfg8_1 := blk_frozen Bg8.out 1
  have hxg14_0 : w23_.cell? ⟨g14, 0, none⟩ = some (.slice none 0 0) := (blk_cell Bg14.out 0).trans rfl
  have hxg14_1 : w23_.cell? ⟨g14, 1, none⟩ = some (.slice none 0 0) := (blk_cell Bg14.out 1).trans rfl
  have hfg14_0 := blk_frozen Bg14.out 0
  have hfg14_1 := blk_frozen Bg14.out 1
  clear hb
  go_wp2_with (first | ((with_reducible refine gate_store (t := 49) (p := 14) rfl ?_); refine hold ?_))
  unfold Hold
  refine store_event (t := 49) (p := 14) (v := ?vo23) (w1 := ((w23_.setCell ⟨g14, 0, none⟩ (.slice A22_0_ r4_0.length c22_0_)).setCell ⟨g14, 1, none⟩ (.slice A22_1_ r4_1.length c22_1_))) ?hg ?ho ?hn ?hr ?_
  case ho => rfl
  case hg => rfl
  case hn => rfl
  case hr => first | (go_simp; done) | (go_simp; rfl)
  intro w24_ hw
  have hk : Kept w23_ w24_ (fun k => k = g14) := by rw [hw]; exact kept_two _ _
  have hb0 : Below w.heap.size w w24_ := by rw [hw]; exact (below_set (below_set HB.out (Nat.le_trans (by have z1_ := Z1_.out; have z2_ := Z2_.out; have z3_ := Z3_.out; have z4_ := Z4_.out; have z5_ := Z5_.out; have z6_ := Z6_.out; have z7_ := Z7_.out; have z8_ := Z8_.out; have z9_ := Z9_.out; have z10_ := Z10_.out; have z11_ := Z11_.out; have z12_ := Z12_.out; have z13_ := Z13_.out; have z14_ := Z14_.out; have z15_ := Z15_.out; have z16_ := Z16_.out; have z17_ := Z17_.out; have z18_ := Z18_.out; have z19_ := Z19_.out; have z20_ := Z20_.out; have z21_ := Z21_.out; have z22_ := Z22_.out; omega) Gg14.out.1)) (Nat.le_trans (by have z1_ := Z1_.out; have z2_ := Z2_.out; have z3_ := Z3_.out; have z4_ := Z4_.out; have z5_ := Z5_.out; have z6_ := Z6_.out; have z7_ := Z7_.out; have z8_ := Z8_.out; have z9_ := Z9_.out; have z10_ := Z10_.out; have z11_ := Z11_.out; have z12_ := Z12_.out; have z13_ := Z13_.out; have z14_ := Z14_.out; have z15_ := Z15_.out; have z16_ := Z16_.out; have z17_ := Z17_.out; have z18_ := Z18_.out; have z19_ := Z19_.out; have z20_ := Z20_.out; have z21_ := Z21_.out; have z22_ := Z22_.out; omega) Gg14.out.1))
  have n_ := Aside0.mk (show w24_.heap[g14]? = some (.cells #[.slice A22_0_ r4_0.length c22_0_, .slice A22_1_ r4_1.length c22_1_] 49 (0, 0)) by rw [hw]; exact (blk_put (cs := #[.slice A22_0_ r4_0.length c22_0_, .slice none 0 0]) (cs' := #[.slice A22_0_ r4_0.length c22_0_, .slice A22_1_ r4_1.length c22_1_]) (blk_put (cs := #[.slice none 0 0, .slice none 0 0]) (cs' := #[.slice A22_0_ r4_0.length c22_0_, .slice none 0 0]) Bg14.out 0 _ rfl) 1 _ rfl))
  clear Bg14; have Bg14 := n_; clear n_ hw
  have Z24_ := Aside0.mk (show w23_.heap.size ≤ w24_.heap.size from hk.1)
  have n_ := Aside0.mk (Kd.R_kept O3_0.out hk (fun k_ hk1 hk2 => by obtain ⟨a1_, a2_⟩ := hk1.1; have e_ : k_ = g14 := hk2; obtain ⟨b1_, b2_⟩ := Gg14.out; have z4_ := Z4_.out; have z5_ := Z5_.out; have z6_ := Z6_.out; have z7_ := Z7_.out; have z8_ := Z8_.out; have z9_ := Z9_.out; have z10_ := Z10_.out; have z11_ := Z11_.out; have z12_ := Z12_.out; have z13_ := Z13_.out; have z14_ := Z14_.out; have z15_ := Z15_.out; have z16_ := Z16_.out; have z17_ := Z17_.out; have z18_ := Z18_.out; have z19_ := Z19_.out; have z20_ := Z20_.out; have z21_ := Z21_.out; have z22_ := Z22_.out; omega)); clear O3_0; have O3_0 := n_; clear n_
  have n_ := Aside0.mk (Kd.R_kept O4_0.out hk (fun k_ hk1 hk2 => by obtain ⟨a1_, a2_⟩ := hk1.1; have e_ : k_ = g14 := hk2; obtain ⟨b1_, b2_⟩ := Gg14.out; have z5_ := Z5_.out; have z6_ := Z6_.out; have z7_ := Z7_.out; have z8_ := Z8_.out; have z9_ := Z9_.out; have z10_ := Z10_.out; have z11_ := Z11_.out; have z12_ := Z12_.out; have z13_ := Z13_.out; have z14_ := Z14_.out; have z15_ := Z15_.out; have z16_ := Z16_.out; have z17_ := Z17_.out; have z18_ := Z18_.out; have z19_ := Z19_.out; have z20_ := Z20_.out; have z21_ := Z21_.out; have z22_ := Z22_.out; omega)); clear O4_0; have O4_0 := n_; clear n_
  have n_ := Aside0.mk (Kd.S_kept O4_1.out hk (fun k_ hk1 hk2 => by obtain ⟨a1_, a2_⟩ := hk1.1; have e_ : k_ = g14 := hk2; obtain ⟨b1_, b2_⟩ := Gg14.out; have z5_ := Z5_.out; have z6_ := Z6_.out; have z7_ := Z7_.out; have z8_ := Z8_.out; have z9_ := Z9_.out; have z10_ := Z10_.out; have z11_ := Z11_.out; have z12_ := Z12_.out; have z13_ := Z13_.out; have z14_ := Z14_.out; have z15_ := Z15_.out; have z16_ := Z16_.out; have z17_ := Z17_.out; have z18_ := Z18_.out; have z19_ := Z19_.out; have z20_ := Z20_.out; have z21_ := Z21_.out; have z22_ := Z22_.out; omega)); clear O4_1; have O4_1 := n_; clear n_
  have n_ := Aside0.mk (Kd.R_kept O7_0.out hk (fun k_ hk1 hk2 => by obtain ⟨a1_, a2_⟩ := hk1.1; have e_ : k_ = g14 := hk2; obtain ⟨b1_, b2_⟩ := Gg14.out; have z8_ := Z8_.out; have z9_ := Z9_.out; have z10_ := Z10_.out; have z11_ := Z11_.out; have z12_ := Z12_.out; have z13_ := Z13_.out; have z14_ := Z14_.out; have z15_ := Z15_.out; have z16_ := Z16_.out; have z17_ := Z17_.out; have z18_ := Z18_.out; have z19_ := Z19_.out; have z20_ := Z20_.out; have z21_ := Z21_.out; have z22_ := Z22_.out; omega)); clear O7_0; have O7_0 := n_; clear n_
  have n_ := Aside0.mk (Kd.R_kept O10_0.out hk (fun k_ hk1 hk2 => by obtain ⟨a1_, a2_⟩ := hk1.1; have e_ : k_ = g14 := hk2; obtain ⟨b1_, b2_⟩ := Gg14.out; have z11_ := Z11_.out; have z12_ := Z12_.out; have z13_ := Z13_.out; have z14_ := Z14_.out; have z15_ := Z15_.out; have z16_ := Z16_.out; have z17_ := Z17_.out; have z18_ := Z18_.out; have z19_ := Z19_.out; have z20_ := Z20_.out; have z21_ := Z21_.out; have z22_ := Z22_.out; omega)); clear O10_0; have O10_0 := n_; clear n_
  have n_ := Aside0.mk (Kd.S_kept O10_1.out hk (fun k_ hk1 hk2 => by obtain ⟨a1_, a2_⟩ := hk1.1; have e_ : k_ = g14 := hk2; obtain ⟨b1_, b2_⟩ := Gg14.out; have z11_ := Z11_.out; have z12_ := Z12_.out; have z13_ := Z13_.out; have z14_ := Z14_.out; have z15_ := Z15_.out; have z16_ := Z16_.out; have z17_ := Z17_.out; have z18_ := Z18_.out; have z19_ := Z19_.out; have z20_ := Z20_.out; have z21_ := Z21_.out; have z22_ := Z22_.out; omega)); clear O10_1; have O10_1 := n_; clear n_
  have n_ := Aside0.mk (Kd.R_kept O15_0.out hk (fun k_ hk1 hk2 => by obtain ⟨a1_, a2_⟩ := hk1.1; have e_ : k_ = g14 := hk2; obtain ⟨b1_, b2_⟩ := Gg14.out; have z16_ := Z16_.out; have z17_ := Z17_.out; have z18_ := Z18_.out; have z19_ := Z19_.out; have z20_ := Z20_.out; have z21_ := Z21_.out; have z22_ := Z22_.out; omega)); clear O15_0; have O15_0 := n_; clear n_
  have n_ := Aside0.mk (Kd.R_kept O21_0.out hk (fun k_ hk1 hk2 => by obtain ⟨a1_, a2_⟩ := hk1.1; have e_ : k_ = g14 := hk2; obtain ⟨b1_, b2_⟩ := Gg14.out; have z22_ := Z22_.out; omega)); clear O21_0; have O21_0 := n_; clear n_
  have n_ := Aside0.mk (Kd.R_kept O22_0.out hk (fun k_ hk1 hk2 => by obtain ⟨a1_, a2_⟩ := hk1.1; have e_ : k_ = g14 := hk2; obtain ⟨b1_, b2_⟩ := Gg14.out; omega)); clear O22_0; have O22_0 := n_; clear n_
  have n_ := Aside0.mk (Kd.S_kept O22_1.out hk (fun k_ hk1 hk2 => by obtain ⟨a1_, a2_⟩ := hk1.1; have e_ : k_ = g14 := hk2; obtain ⟨b1_, b2_⟩ := Gg14.out; omega)); clear O22_1; have O22_1 := n_; clear n_
  have n_ := Aside0.mk (blk_kept Bg1.out hk (fun hk2 => by obtain ⟨a1_, a2_⟩ := Gg1.out; have e_ : g1 = g14 := hk2; obtain ⟨b1_, b2_⟩ := Gg14.out; have z2_ := Z2_.out; have z3_ := Z3_.out; have z4_ := Z4_.out; have z5_ := Z5_.out; have z6_ := Z6_.out; have z7_ := Z7_.out; have z8_ := Z8_.out; have z9_ := Z9_.out; have z10_ := Z10_.out; have z11_ := Z11_.out; have z12_ := Z12_.out; have z13_ := Z13_.out; have z14_ := Z14_.out; have z15_ := Z15_.out; have z16_ := Z16_.out; have z17_ := Z17_.out; have z18_ := Z18_.out; have z19_ := Z19_.out; have z20_ := Z20_.out; have z21_ := Z21_.out; have z22_ := Z22_.out; omega)); clear Bg1; have Bg1 := n_; clear n_
  have n_ := Aside0.mk (blk_kept Bg5.out hk (fun hk2 => by obtain ⟨a1_, a2_⟩ := Gg5.out; have e_ : g5 = g14 := hk2; obtain ⟨b1_, b2_⟩ := Gg14.out; have z6_ := Z6_.out; have z7_ := Z7_.out; have z8_ := Z8_.out; have z9_ := Z9_.out; have z10_ := Z10_.out; have z11_ := Z11_.out; have z12_ := Z12_.out; have z13_ := Z13_.out; have z14_ := Z14_.out; have z15_ := Z15_.out; have z16_ := Z16_.out; have z17_ := Z17_.out; have z18_ := Z18_.out; have z19_ := Z19_.out; have z20_ := Z20_.out; have z21_ := Z21_.out; have z22_ := Z22_.out; omega)); clear Bg5; have Bg5 := n_; clear n_
  have n_ := Aside0.mk (blk_kept Bg6.out hk (fun hk2 => by obtain ⟨a1_, a2_⟩ := Gg6.out; have e_ : g6 = g14 := hk2; obtain ⟨b1_, b2_⟩ := Gg14.out; have z9_ := Z9_.out; have z10_ := Z10_.out; have z11_ := Z11_.out; have z12_ := Z12_.out; have z13_ := Z13_.out; have z14_ := Z14_.out; have z15_ := Z15_.out; have z16_ := Z16_.out; have z17_ := Z17_.out; have z18_ := Z18_.out; have z19_ := Z19_.out; have z20_ := Z20_.out; have z21_ := Z21_.out; have z22_ := Z22_.out; omega)); clear Bg6; have Bg6 := n_; clear n_
  have n_ := Aside0.mk (blk_kept Bg8.out hk (fun hk2 => by obtain ⟨a1_, a2_⟩ := Gg8.out; have e_ : g8 = g14 := hk2; obtain ⟨b1_, b2_⟩ := Gg14.out; have z12_ := Z12_.out; have z13_ := Z13_.out; have z14_ := Z14_.out; have z15_ := Z15_.out; have z16_ := Z16_.out; have z17_ := Z17_.out; have z18_ := Z18_.out; have z19_ := Z19_.out; have z20_ := Z20_.out; have z21_ := Z21_.out; have z22_ := Z22_.out; omega)); clear Bg8; have Bg8 := n_; clear n_
  clear HB; have HB := Aside0.mk hb0
  clear hxg1_0
  clear hfg1_0
  clear hxg5_0
  clear hxg5_1
  clear hfg5_0
  clear hfg5_1
  clear hxg6_0
  clear hfg6_0
  clear hxg8_0
  clear hxg8_1
  clear hfg8_0
  clear hfg8_1
  clear hxg14_0
  clear hxg14_1
  clear hfg14_0
  clear hfg14_1
  have hxg1_0 : w24_.cell? ⟨g1, 0, none⟩ = some (.slice A0_0 l0_0.length c0_0) := (blk_cell Bg1.out 0).trans rfl
  have hfg1_0 := blk_frozen Bg1.out 0
  have hxg5_0 : w24_.cell? ⟨g5, 0, none⟩ = some (.slice A4_0_ r4_0.length c4_0_) := (blk_cell Bg5.out 0).trans rfl
  have hxg5_1 : w24_.cell? ⟨g5, 1, none⟩ = some (.slice A4_1_ r4_1.length c4_1_) := (blk_cell Bg5.out 1).trans rfl
  have hfg5_0 := blk_frozen Bg5.out 0
  have hfg5_1 := blk_frozen Bg5.out 1
  have hxg6_0 : w24_.cell? ⟨g6, 0, none⟩ = some (.slice A7_0_ r3_0.length c7_0_) := (blk_cell Bg6.out 0).trans rfl
  have hfg6_0 := blk_frozen Bg6.out 0
  have hxg8_0 : w24_.cell? ⟨g8, 0, none⟩ = some (.slice A10_0_ r4_0.length c10_0_) := (blk_cell Bg8.out 0).trans rfl
  have hxg8_1 : w24_.cell? ⟨g8, 1, none⟩ = some (.slice A10_1_ r4_1.length c10_1_) := (blk_cell Bg8.out 1).trans rfl
  have hfg8_0 := blk_frozen Bg8.out 0
  have hfg8_1 := blk_frozen Bg8.out 1
  have hxg14_0 : w24_.cell? ⟨g14, 0, none⟩ = some (.slice A22_0_ r4_0.length c22_0_) := (blk_cell Bg14.out 0).trans rfl
  have hxg14_1 : w24_.cell? ⟨g14, 1, none⟩ = some (.slice A22_1_ r4_1.length c22_1_) := (blk_cell Bg14.out 1).trans rfl
  have hfg14_0 := blk_frozen Bg14.out 0
  have hfg14_1 := blk_frozen Bg14.out 1
  clear hk hb0
  go_wp2_with (first | (go_at_call 35; refine hold ?_))
  unfold Hold
  refine (laws_eqQuery.calls ke6 _ _ r4_0 _ _ r4_1 _ _ r4_0 _ _ r4_1 true _ (Kd.R_reads' O22_0.out).2.2 (Kd.R_reads' O22_0.out).2.1 (Kd.S_reads' O22_1.out).2.2 (Kd.S_reads' O22_1.out).2.1 (Kd.R_reads' O4_0.out).2.2 (Kd.R_reads' O4_0.out).2.1 (Kd.S_reads' O4_1.out).2.2 (Kd.S_reads' O4_1.out).2.1 Ee6.out).mono ?_
  rintro e w25_ ⟨rfl, hb⟩
  have Z25_ := Aside0.mk (show w24_.heap.size ≤ w25_.heap.size from hb.size)
  have n_ := Aside0.mk (Kd.R_below O3_0.out hb); clear O3_0; have O3_0 := n_; clear n_
  have n_ := Aside0.mk (Kd.R_below O4_0.out hb); clear O4_0; have O4_0 := n_; clear n_
  have n_ := Aside0.mk (Kd.S_below O4_1.out hb); clear O4_1; have O4_1 := n_; clear n_
  have n_ := Aside0.mk (Kd.R_below O7_0.out hb); clear O7_0; have O7_0 := n_; clear n_
  have n_ := Aside0.mk (Kd.R_below O10_0.out hb); clear O10_0; have O10_0 := n_; clear n_
  have n_ := Aside0.mk (Kd.S_below O10_1.out hb); clear O10_1; have O10_1 := n_; clear n_
  have n_ := Aside0.mk (Kd.R_below O15_0.out hb); clear O15_0; have O15_0 := n_; clear n_
  have n_ := Aside0.mk (Kd.R_below O21_0.out hb); clear O21_0; have O21_0 := n_; clear n_
  have n_ := Aside0.mk (Kd.R_below O22_0.out hb); clear O22_0; have O22_0 := n_; clear n_
  have n_ := Aside0.mk (Kd.S_below O22_1.out hb); clear O22_1; have O22_1 := n_; clear n_
  have n_ := Aside0.mk (blk_below Bg1.out hb); clear Bg1; have Bg1 := n_; clear n_
  have n_ := Aside0.mk (blk_below Bg5.out hb); clear Bg5; have Bg5 := n_; clear n_
  have n_ := Aside0.mk (blk_below Bg6.out hb); clear Bg6; have Bg6 := n_; clear n_
  have n_ := Aside0.mk (blk_below Bg8.out hb); clear Bg8; have Bg8 := n_; clear n_
  have n_ := Aside0.mk (blk_below Bg14.out hb); clear Bg14; have Bg14 := n_; clear n_
  have n_ := Aside0.mk (below_step HB.out hb); clear HB; have HB := n_; clear n_
  clear hxg1_0
  clear hfg1_0
  clear hxg5_0
  clear hxg5_1
  clear hfg5_0
  clear hfg5_1
  clear hxg6_0
  clear hfg6_0
  clear hxg8_0
  clear hxg8_1
  clear hfg8_0
  clear hfg8_1
  clear hxg14_0
  clear hxg14_1
  clear hfg14_0
  clear hfg14_1
  have hxg1_0 : w25_.cell? ⟨g1, 0, none⟩ = some (.slice A0_0 l0_0.length c0_0) := (blk_cell Bg1.out 0).trans rfl
  have hfg1_0 := blk_frozen Bg1.out 0
  have hxg5_0 : w25_.cell? ⟨g5, 0, none⟩ = some (.slice A4_0_ r4_0.length c4_0_) := (blk_cell Bg5.out 0).trans rfl
  have hxg5_1 : w25_.cell? ⟨g5, 1, none⟩ = some (.slice A4_1_ r4_1.length c4_1_) := (blk_cell Bg5.out 1).trans rfl
  have hfg5_0 := blk_frozen Bg5.out 0
  have hfg5_1 := blk_frozen Bg5.out 1
  have hxg6_0 : w25_.cell? ⟨g6, 0, none⟩ = some (.slice A7_0_ r3_0.length c7_0_) := (blk_cell Bg6.out 0).trans rfl
  have hfg6_0 := blk_frozen Bg6.out 0
  have hxg8_0 : w25_.cell? ⟨g8, 0, none⟩ = some (.slice A10_0_ r4_0.length c10_0_) := (blk_cell Bg8.out 0).trans rfl
  have hxg8_1 : w25_.cell? ⟨g8, 1, none⟩ = some (.slice A10_1_ r4_1.length c10_1_) := (blk_cell Bg8.out 1).trans rfl
  have hfg8_0 := blk_frozen Bg8.out 0
  have hfg8_1 := blk_frozen Bg8.out 1
  have hxg14_0 : w25_.cell? ⟨g14, 0, none⟩ = some (.slice A22_0_ r4_0.length c22_0_) := (blk_cell Bg14.out 0).trans rfl
  have hxg14_1 : w25_.cell? ⟨g14, 1, none⟩ = some (.slice A22_1_ r4_1.length c22_1_) := (blk_cell Bg14.out 1).trans rfl
  have hfg14_0 := blk_frozen Bg14.out 0
  have hfg14_1 := blk_frozen Bg14.out 1
  clear hb
  go_wp2_with (first | (go_at_call 69; refine hold ?_))
  unfold Hold
  refine calls_of_args (args' := #[.agg #[.slice A10_0_ r10_1.length c10_0_, .slice A10_1_ r10_2.length c10_1_], .int .i64 1]) (by rw [show r4_0.length = r10_1.length from (Kd.R_reads' O10_0.out).1, show r4_1.length = r10_2.length from (Kd.S_reads' O10_1.out).1]) ?_
  refine (laws_heldQuery.calls ke11 _ _ r10_1 _ _ r10_2 1 r10_0 _ (Kd.R_reads' O10_0.out).2.2 (Nat.le_trans (Nat.le_of_eq (Kd.R_reads' O10_0.out).1.symm) (Kd.R_reads' O10_0.out).2.1) (Kd.S_reads' O10_1.out).2.2 (Nat.le_trans (Nat.le_of_eq (Kd.S_reads' O10_1.out).1.symm) (Kd.S_reads' O10_1.out).2.1) Ee11.out).mono ?_
  rintro e w26_ ⟨rfl, hb⟩
  have Z26_ := Aside0.mk (show w25_.heap.size ≤ w26_.heap.size from hb.size)
  have n_ := Aside0.mk (Kd.R_below O3_0.out hb); clear O3_0; have O3_0 := n_; clear n_
  have n_ := Aside0.mk (Kd.R_below O4_0.out hb); clear O4_0; have O4_0 := n_; clear n_
  have n_ := Aside0.mk (Kd.S_below O4_1.out hb); clear O4_1; have O4_1 := n_; clear n_
  have n_ := Aside0.mk (Kd.R_below O7_0.out hb); clear O7_0; have O7_0 := n_; clear n_
  have n_ := Aside0.mk (Kd.R_below O10_0.out hb); clear O10_0; have O10_0 := n_; clear n_
  have n_ := Aside0.mk (Kd.S_below O10_1.out hb); clear O10_1; have O10_1 := n_; clear n_
  have n_ := Aside0.mk (Kd.R_below O15_0.out hb); clear O15_0; have O15_0 := n_; clear n_
  have n_ := Aside0.mk (Kd.R_below O21_0.out hb); clear O21_0; have O21_0 := n_; clear n_
  have n_ := Aside0.mk (Kd.R_below O22_0.out hb); clear O22_0; have O22_0 := n_; clear n_
  have n_ := Aside0.mk (Kd.S_below O22_1.out hb); clear O22_1; have O22_1 := n_; clear n_
  have n_ := Aside0.mk (blk_below Bg1.out hb); clear Bg1; have Bg1 := n_; clear n_
  have n_ := Aside0.mk (blk_below Bg5.out hb); clear Bg5; have Bg5 := n_; clear n_
  have n_ := Aside0.mk (blk_below Bg6.out hb); clear Bg6; have Bg6 := n_; clear n_
  have n_ := Aside0.mk (blk_below Bg8.out hb); clear Bg8; have Bg8 := n_; clear n_
  have n_ := Aside0.mk (blk_below Bg14.out hb); clear Bg14; have Bg14 := n_; clear n_
  have n_ := Aside0.mk (below_step HB.out hb); clear HB; have HB := n_; clear n_
  clear hxg1_0
  clear hfg1_0
  clear hxg5_0
  clear hxg5_1
  clear hfg5_0
  clear hfg5_1
  clear hxg6_0
  clear hfg6_0
  clear hxg8_0
  clear hxg8_1
  clear hfg8_0
  clear hfg8_1
  clear hxg14_0
  clear hxg14_1
  clear hfg14_0
  clear hfg14_1
  have hxg1_0 : w26_.cell? ⟨g1, 0, none⟩ = some (.slice A0_0 l0_0.length c0_0) := (blk_cell Bg1.out 0).trans rfl
  have hfg1_0 := blk_frozen Bg1.out 0
  have hxg5_0 : w26_.cell? ⟨g5, 0, none⟩ = some (.slice A4_0_ r4_0.length c4_0_) := (blk_cell Bg5.out 0).trans rfl
  have hxg5_1 : w26_.cell? ⟨g5, 1, none⟩ = some (.slice A4_1_ r4_1.length c4_1_) := (blk_cell Bg5.out 1).trans rfl
  have hfg5_0 := blk_frozen Bg5.out 0
  have hfg5_1 := blk_frozen Bg5.out 1
  have hxg6_0 : w26_.cell? ⟨g6, 0, none⟩ = some (.slice A7_0_ r3_0.length c7_0_) := (blk_cell Bg6.out 0).trans rfl
  have hfg6_0 := blk_frozen Bg6.out 0
  have hxg8_0 : w26_.cell? ⟨g8, 0, none⟩ = some (.slice A10_0_ r4_0.length c10_0_) := (blk_cell Bg8.out 0).trans rfl
  have hxg8_1 : w26_.cell? ⟨g8, 1, none⟩ = some (.slice A10_1_ r4_1.length c10_1_) := (blk_cell Bg8.out 1).trans rfl
  have hfg8_0 := blk_frozen Bg8.out 0
  have hfg8_1 := blk_frozen Bg8.out 1
  have hxg14_0 : w26_.cell? ⟨g14, 0, none⟩ = some (.slice A22_0_ r4_0.length c22_0_) := (blk_cell Bg14.out 0).trans rfl
  have hxg14_1 : w26_.cell? ⟨g14, 1, none⟩ = some (.slice A22_1_ r4_1.length c22_1_) := (blk_cell Bg14.out 1).trans rfl
  have hfg14_0 := blk_frozen Bg14.out 0
  have hfg14_1 := blk_frozen Bg14.out 1
  clear hb
  go_wp2
  go_ret
  exact ⟨rfl, HB.out⟩
theorem FnExactParseQuery_calls (A0_0 : Option Addr) (c0_0 : Nat) (l0_0 : List Int) (a1 : ByteArray) (w : World) (hr0_0 : Kd.C (Kd.int .i64) w A0_0 l0_0.length l0_0) (hc0_0 : l0_0.length ≤ c0_0) (w0 : (WfL WfI) l0_0) (w1 : a1.size ≤ 140737488351232) :
    Calls Try.prog 14 #[.agg #[.slice A0_0 l0_0.length c0_0], .string a1] w fun e w' => e = .returned (.bool true) ∧ Below w.heap.size w w' := by
  by_cases hb : (a1.size : Int) > 1048576
  · exact laws_FnExactParseQuery_out0 _ _ _ _ w hr0_0 hc0_0 hb
  obtain ⟨t0, z0, c0⟩ := szSchema_ok l0_0 1048576 w0 (by omega) (by omega)
  obtain ⟨_, z0⟩ := z0.rounds
  rcases c0 with c0 | ⟨p0, q0, hs0⟩
  · exact laws_FnExactParseQuery_out1 _ _ _ _ w hr0_0 hc0_0 _ hb z0 c0
  have im := implPQ_ev l0_0 a1 hs0 (by omega)
  have sp := specPQ_ev l0_0 a1 hs0 (by omega)
  rw [pq_same] at im
  obtain ⟨g0, g1, g2⟩ := pq_small l0_0 a1
  generalize mSpecPQ l0_0 a1 = P at im sp g0 g1 g2
  obtain ⟨h, d, b⟩ := P
  simp only [] at g0 g1 g2
  have hd : d.length ≤ 1048576 := by omega
  have hs : ∀ x ∈ d, x.f1.length ≤ 1048576 := fun x hx => by have := g2 x hx; omega
  obtain ⟨m0, m1, m2⟩ := markQ_ok h d 1 (by omega) hd hs (by omega) (by omega)
  exact laws_FnExactParseQuery_walk _ _ _ _ w hr0_0 hc0_0 _ _ h d b _ _ _ _ _ hb z0 (by omega) (toSchema_ev l0_0 (by omega)).rounds sp.rounds im.rounds (eqQuery_ev h d (by omega) hd hs).rounds
    (by have e := eqSchema_ev l0_0 l0_0 (by omega); rw [decide_eq_true rfl] at e; exact e.rounds) (markSchema_ev l0_0 1 (by omega) (by omega) (by omega)).rounds (by omega) rfl m0
    (heldQuery_ev h d 1 (by omega) hd hs (by omega) (by omega)).rounds (by show ¬ (mkQ h d 1).1 < 0; omega)


end Go.Proofs.Ytpfpappamlgnoaa.Hand
