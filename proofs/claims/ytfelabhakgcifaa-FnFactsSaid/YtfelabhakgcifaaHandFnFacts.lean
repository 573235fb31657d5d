/- Walks through Go functions that FnFacts reaches, by hand: each call returns what is said beside it, within the bounds that the theorem names. -/
import Derived.Test.YtfelabhakgcifaaQFnFactsx0
import Derived.Test.YtfelabhakgcifaaQFnFactsx1
import Derived.Test.YtfelabhakgcifaaQFnFactsx2
import Derived.Test.YtfelabhakgcifaaQFnFactsx3
import Derived.Test.YtfelabhakgcifaaQFnFactsx4
import Derived.Test.YtfelabhakgcifaaQFnFactsx5
import Derived.Test.YtfelabhakgcifaaQFnFactsx6
import Derived.Test.YtfelabhakgcifaaQFnFactsx7
import Derived.Test.YtfelabhakgcifaaQFnFactsx8
import Derived.Test.YtfelabhakgcifaaQFnFactsx9
import Derived.Test.YtfelabhakgcifaaQFnFactsx10
import Derived.Test.YtfelabhakgcifaaQFnFactsx11
import Derived.Test.YtfelabhakgcifaaQFnFactsx12
import Derived.Test.YtfelabhakgcifaaQFnFactsx13
import Derived.Test.YtfelabhakgcifaaQFnFactsx14
import Derived.Test.YtfelabhakgcifaaQFnFactsx15
import Derived.Test.YtfelabhakgcifaaVFnFactsMine
import Derived.Test.YtfelabhakgcifaaPureFnFacts
import Derived.Test.YtfelabhakgcifaaShelf
import Derived.Shelf.SlSortCmp.WholeK
set_option linter.unusedVariables false
set_option linter.unusedSimpArgs false
namespace Go.Proofs.Ytfelabhakgcifaa.Hand
open Go.RowKit Go.Proofs.Ytfelabhakgcifaa.QFnFacts Go.Proofs.YtfelabhakgcifaaW.PrintWords Go.Proofs.YtfelabhakgcifaaW.PrintLast Go.Proofs.YtfelabhakgcifaaW.PrintMore Go.Proofs.Ytfelabhakgcifaa.Mine Go.Proofs.Ytfelabhakgcifaa.Open Go.Proofs.Ytfelabhakgcifaa.Pure
abbrev yt := true
abbrev yf := false
attribute [local go_sem] max2_int min2_int max_two min_two max_three min_three max_four min_four

/-- A goal that the walk leaves alone. -/
def Hold (p : Prop) : Prop := p
theorem hold {p : Prop} (h : Hold p) : p := h
theorem newR {α : Type} {d : Kd α} {e B : Nat} {W w1 : World} {ok : Nat → Prop} {v : Value} {xs : List α} (h : d.R e w1 W.heap.size ok v xs) (hB : B ≤ W.heap.size) : d.R e w1 B (fun k => (W.heap.size ≤ k ∧ k < w1.heap.size) ∧ ok k) v xs :=
  Kd.R_lower (Kd.R_mono (Kd.R_bound h) (fun _ hk => ⟨⟨hk.2.1, hk.2.2.1⟩, hk.1⟩)) hB
theorem newS {α : Type} {d : Kd α} {e B : Nat} {W w1 : World} {ok : Nat → Prop} {v : Value} {xs : List α} (h : Kd.S d e w1 W.heap.size ok v xs) (hB : B ≤ W.heap.size) : Kd.S d e w1 B (fun k => (W.heap.size ≤ k ∧ k < w1.heap.size) ∧ ok k) v xs :=
  Kd.S_lower (Kd.S_mono (Kd.S_bound h) (fun _ hk => ⟨⟨hk.2.1, hk.2.2.1⟩, hk.1⟩)) hB
/-- A box stored into. -/
theorem kept_two {w : World} {g : Nat} (a b : Value) : Kept w ((w.setCell ⟨g, 0, none⟩ a).setCell ⟨g, 1, none⟩ b) (fun k => k = g) :=
  ((Kept.refl w (fun k => k = g)).setCell (.inl rfl) a).setCell (.inl rfl) b
theorem kept_one {w : World} {g : Nat} (a : Value) : Kept w (w.setCell ⟨g, 0, none⟩ a) (fun k => k = g) := (Kept.refl w (fun k => k = g)).setCell (.inl rfl) a
/-- A call of a closure. -/
theorem goesC_ {P : Program} {ops : Array Oper} {Q : Exit → Act → World → Prop} {oi : Oper} {N : Option Tmp} {a : Act} {w : World} {K : Act → World → Prop} {f : FuncId} {fn : Func} {p : Operand} {as_ : Array Operand} {ts : Array TypeId} (hf : P.funcs[f]? = some fn) (hname : (fn.name == "runtime.NumGoroutine") = false) (hb : fn.body.isSome = true) (first cap args : Array Value)
    (hw : Region.wanted oi (yielded ops a.tmps) = true) (hN : oi.dst = N) (hop : oi.op = .call { callee := .value p, args := as_, argTypes := ts }) (hv : a.eval p = .func (.func f) first cap) (hargs : (first ++ as_.map a.eval) ++ cap = args)
    (h : Calls P f args w fun e w' => ∃ v, e = .returned v ∧ K (a.put N v) w') : if Region.wanted oi (yielded ops a.tmps) = true then Oper.wp P oi a w K Q else K (a.put N undef) w := by
  refine call_ f args hw hN ?_ h
  have he := enters_ hf hname hb args w
  unfold execOp
  simp [hop, resolve, hv, Deferred.ofValue, invoke, hargs, he]

/-- A row whose elements have been put into another order: the cells of the row alone have changed. -/
theorem S_perm {α : Type} {d : Kd α} {e g n cap : Nat} {w w1 : World} {base : Nat} {ok : Nat → Prop} {xs : List α} (h : Kd.S d e w base ok (.slice (some ⟨g, 0, none⟩) n cap) xs) (z : α) (σ : List Nat) (hσ : σ.Perm (List.range n)) (hg : w.grownBy w1 (some g))
    (hc : ∀ cur, w.heap[g]? = some (.cells cur e (0, 0)) → n * d.sz ≤ cur.size → ∃ cur' : Array Value, w1.heap[g]? = some (.cells cur' e (0, 0)) ∧ cur'.size = cur.size ∧ ∀ j i, σ[j]? = some i → ∀ t, t < d.sz → cur'.toList[j * d.sz + t]? = cur.toList[i * d.sz + t]?) :
    Kd.S d e w1 base ok (.slice (some ⟨g, 0, none⟩) n cap) (σ.map fun i => xs.getD i z) := by
  obtain ⟨f, hR⟩ := h
  have hn := (Kd.R_reads' hR).1
  rw [List.length_zipIdx] at hn
  obtain ⟨h0, inner, ho, hr⟩ := hR
  rw [List.length_zipIdx] at ho
  obtain ⟨hil, ho⟩ := ho
  rcases ho with ⟨hv, _⟩ | ⟨g', cap', cur, hv, hbase, hheap, hnc, hcm, hcs, htk⟩
  · cases hv
  injection hv with ha _ hcap
  injection ha with ha
  injection ha with ha _ _
  subst ha
  subst hcap
  have htag : ∀ f : Nat → Nat, (Kd.tag f d).sz = d.sz := fun _ => rfl
  simp only [htag] at hil hcs htk hr
  have hσl : σ.length = n := by rw [hσ.length_eq, List.length_range]
  have hnd : σ.Nodup := hσ.nodup_iff.2 List.nodup_range
  have hmem : ∀ i ∈ σ, i < n := fun i hi => List.mem_range.1 (hσ.mem_iff.1 hi)
  have hle : n * d.sz ≤ cur.size := by rw [hcs]; exact Nat.mul_le_mul_right _ (by omega)
  obtain ⟨cur', hb', hs', hcc⟩ := hc cur hheap hle
  rw [← hn] at hil htk hnc
  have hml : (σ.map fun i => xs.getD i z).length = n := by rw [List.length_map, hσl]
  refine ⟨fun b => σ.idxOf (f b), h0, cur'.toList.take (n * d.sz), ?_, ?_, ?_⟩
  · rw [List.length_zipIdx, hml]
    show World.ownsRow w1 base e d.sz _ n _
    refine ⟨by rw [List.length_take, Array.length_toList, hs']; omega, .inr ⟨g, cap, cur', rfl, hbase, hb', hnc, hcm, by rw [hs', hcs], rfl⟩⟩
  · rw [List.length_zipIdx, hml, List.length_take, Array.length_toList, hs']
    show min (n * d.sz) cur.size = n * d.sz
    exact Nat.min_eq_left hle
  · intro j p hj
    rw [List.getElem?_zipIdx, Nat.zero_add] at hj
    obtain ⟨x, hx, rfl⟩ := Option.map_eq_some_iff.1 hj
    rw [List.getElem?_map] at hx
    obtain ⟨i, hi, rfl⟩ := Option.map_eq_some_iff.1 hx
    have hin : i < n := hmem i (List.mem_of_getElem? hi)
    have hjn : j < n := by rw [← hσl]; exact (List.getElem?_eq_some_iff.1 hi).1
    have hix : i < xs.length := by omega
    have hM := hr.2 i (xs[i], i) (Kd.zip_at (List.getElem?_eq_getElem hix))
    have hseg : ((cur'.toList.take (n * d.sz)).drop (j * d.sz)).take d.sz = (inner.drop (i * d.sz)).take d.sz := by
      rw [← htk]
      apply List.ext_getElem?
      intro t
      by_cases ht : t < d.sz
      · rw [List.getElem?_take_of_lt ht, List.getElem?_take_of_lt ht, List.getElem?_drop, List.getElem?_drop]
        have h1 : j * d.sz + t < n * d.sz := Nat.lt_of_lt_of_le (Nat.add_lt_add_left ht _) (by rw [← Nat.succ_mul]; exact Nat.mul_le_mul_right _ hjn)
        have h2 : i * d.sz + t < n * d.sz := Nat.lt_of_lt_of_le (Nat.add_lt_add_left ht _) (by rw [← Nat.succ_mul]; exact Nat.mul_le_mul_right _ hin)
        rw [List.getElem?_take_of_lt h1, List.getElem?_take_of_lt h2]
        exact hcc j i hi t ht
      · rw [List.getElem?_take_eq_none (by omega), List.getElem?_take_eq_none (by omega)]
    have hgd : xs.getD i z = xs[i] := by rw [List.getD_eq_getElem?_getD, List.getElem?_eq_getElem hix]; rfl
    show d.M w1 base _ (xs.getD i z) (((cur'.toList.take (n * d.sz)).drop (j * d.sz)).take d.sz)
    rw [hgd, hseg]
    refine d.M_mono (fun k hk => ⟨hk.1, ?_⟩) (Kd.M_step hM (fun k hk hlt => hg.block k hlt hk.1.2))
    show σ.idxOf (f k) = j
    rw [show f k = i from hk.2]
    have hjl : j < σ.length := by omega
    have hji : σ[j] = i := by
      rw [List.getElem?_eq_getElem hjl] at hi
      exact Option.some.inj hi
    rw [← hji]
    exact hnd.idxOf_getElem j hjl
section
open Go.Sort
variable {w : World} {e g n cap k : Nat} {cur : Array Value}
/-- The i-th element's cells (an index beyond the last: the last one's). -/
def segK (cur : Array Value) (n k i : Nat) : List Value := (cur.toList.drop (min i (n - 1) * k)).take k
theorem segK_le (hn : 0 < n) (hs : n * k ≤ cur.size) (i : Nat) : min i (n - 1) * k + k ≤ cur.size := by
  have : (min i (n - 1) + 1) * k ≤ n * k := Nat.mul_le_mul_right _ (by omega)
  rw [Nat.add_mul, Nat.one_mul] at this
  omega
theorem segK_len (hn : 0 < n) (hs : n * k ≤ cur.size) (i : Nat) : (segK cur n k i).length = k := by
  have := segK_le hn hs i
  unfold segK
  rw [List.length_take, List.length_drop, Array.length_toList]; omega
theorem segK_get (hn : 0 < n) (hs : n * k ≤ cur.size) (i t : Nat) (ht : t < k) : (segK cur n k i)[t]? = cur.toList[min i (n - 1) * k + t]? := by
  unfold segK
  rw [List.getElem?_take_of_lt ht, List.getElem?_drop]
theorem flat_seg (hn : 0 < n) (hk : 0 < k) (hs : n * k ≤ cur.size) (σ : Array Nat) (hσ : σ.size = n) (j i t : Nat) (hj : σ.toList[j]? = some i) (hi : i < n) (ht : t < k) :
    some ((flatK (segK cur n k) k σ)[j * k + t]!) = cur.toList[i * k + t]? ∧ j * k + t < (flatK (segK cur n k) k σ).size := by
  have hjl : j < σ.size := by
    have := (List.getElem?_eq_some_iff.1 hj).1
    rwa [Array.length_toList] at this
  have hjt : j * k + t < σ.size * k := Nat.lt_of_lt_of_le (Nat.add_lt_add_left ht _) (by rw [← Nat.succ_mul]; exact Nat.mul_le_mul_right _ hjl)
  refine ⟨?_, by rw [size_flatK]; exact hjt⟩
  rw [get_flatK _ _ _ _ hjt]
  have e1 : (j * k + t) / k = j := by rw [Nat.add_comm, Nat.add_mul_div_right _ _ hk, Nat.div_eq_of_lt ht, Nat.zero_add]
  have e2 : (j * k + t) % k = t := by rw [Nat.add_comm, Nat.add_mul_mod_self_right, Nat.mod_eq_of_lt ht]
  have e3 : σ[j]! = i := by
    rw [getElem!_pos σ j hjl]
    rw [Array.getElem?_toList, Array.getElem?_eq_getElem hjl] at hj
    exact Option.some.inj hj
  rw [e1, e2, e3]
  have hl := segK_len (k := k) hn hs i
  have hg := segK_get (k := k) hn hs i t ht
  rw [show min i (n - 1) = i by omega] at hg
  rw [← hg, List.getElem!_eq_getElem?_getD, List.getElem?_eq_getElem (by omega)]
  rfl
theorem holds_seg (hn : 0 < n) (hk : 0 < k) (hb : w.heap[g]? = some (.cells cur e (0, 0))) (hs : n * k ≤ cur.size) : HoldsK (segK cur n k) k w g 0 (Array.range n) := by
  intro q hq
  rw [size_flatK, Array.size_range] at hq
  have hj : (Array.range n).toList[q / k]? = some (q / k) := by
    rw [Array.toList_range, List.getElem?_range (Nat.div_lt_of_lt_mul (by rwa [Nat.mul_comm] at hq))]
  have hd := Nat.div_lt_of_lt_mul (show q < k * n by rwa [Nat.mul_comm] at hq)
  have hf := (flat_seg (cur := cur) hn hk hs (Array.range n) Array.size_range (q / k) (q / k) (q % k) hj hd (Nat.mod_lt _ hk)).1
  have e1 : q / k * k + q % k = q := by rw [Nat.mul_comm]; exact Nat.div_add_mod q k
  rw [e1] at hf
  refine ⟨?_, ?_⟩
  · show w.cell? ⟨g, 0 + q, none⟩ = some (id _)
    simp only [World.cell?, hb, id, Nat.zero_add]
    rw [hf, Array.getElem?_toList]; rfl
  · simp only [World.frozen?, hb]
    simp
theorem sortK_heap (enc : Nat → List Value) (m : Nat) (σ : Array Nat) (os : Array Obj) (hb : w.heap[g]? = some (.cells cur e (0, 0))) : (sortWorldK enc k w g 0 m σ os).heap[g]? = some (.cells (putCells id 0 (flatK enc k σ) cur) e (0, 0)) := by
  have hlt := blk_lt hb
  unfold sortWorldK putRowK putRow mapBlock grow
  show (w.heap.modify g _ ++ os)[g]? = _
  rw [Array.getElem?_append_left (by simpa using hlt), Array.getElem?_modify, if_pos rfl, hb]
  rfl
theorem sortK_grown (enc : Nat → List Value) (m : Nat) (σ : Array Nat) (os : Array Obj) : w.grownBy (sortWorldK enc k w g 0 m σ os) (some g) := by
  refine ⟨rfl, rfl, rfl, ?_, fun q hq hne => ?_⟩
  · unfold sortWorldK putRowK putRow mapBlock grow
    show w.heap.size ≤ (w.heap.modify g _ ++ os).size
    simp
  · unfold sortWorldK putRowK putRow mapBlock grow
    show (w.heap.modify g _ ++ os)[q]? = _
    rw [Array.getElem?_append_left (by simpa using hq), Array.getElem?_modify, if_neg (fun he => hne (by rw [he]))]
/-- What the library's sort leaves of a row: its elements in another order. -/
theorem S_sortK {α : Type} {d : Kd α} {base : Nat} {ok : Nat → Prop} {xs : List α} (h : Kd.S d e w base ok (.slice (some ⟨g, 0, none⟩) n cap) xs) (z : α) (hn : 0 < n) (hk : 0 < d.sz) (hb : w.heap[g]? = some (.cells cur e (0, 0))) (hs : n * d.sz ≤ cur.size) (m : Nat) (os : Array Obj) (σ : Array Nat) (hσ : PermIn 0 n (Array.range n) σ) :
    Kd.S d e (sortWorldK (segK cur n d.sz) d.sz w g 0 m σ os) base ok (.slice (some ⟨g, 0, none⟩) n cap) (σ.toList.map fun i => xs.getD i z) := by
  have hsz : σ.size = n := by rw [hσ.1, Array.size_range]
  have hp : σ.toList.Perm (List.range n) := by
    have := hσ.2.2
    rw [Array.extract_eq_self_of_le (by omega), Array.extract_eq_self_of_le (by simp), Array.toList_range] at this
    exact this
  refine S_perm h z σ.toList hp (sortK_grown _ m σ os) ?_
  intro cur2 hb2 hs2
  rw [hb] at hb2
  injection hb2 with hb2
  injection hb2 with hb2 _ _
  subst hb2
  refine ⟨_, sortK_heap _ m σ os hb, by simp [putCells], fun j i hj t ht => ?_⟩
  have hi : i < n := List.mem_range.1 (hp.mem_iff.1 (List.mem_of_getElem? hj))
  obtain ⟨hf, hl⟩ := flat_seg (cur := cur) hn hk hs σ hsz j i t hj hi ht
  have hlc : j * d.sz + t < cur.size := by rw [size_flatK, hsz] at hl; omega
  rw [← hf, Array.getElem?_toList]
  unfold putCells
  rw [Array.getElem?_mapIdx, Array.getElem?_eq_getElem hlc]
  show some (if _ then _ else _) = _
  rw [if_pos ⟨Nat.zero_le _, by omega⟩]
  rfl
end
theorem S_size {α : Type} {d : Kd α} {w : World} {e g n cap base : Nat} {cur : Array Value} {ok : Nat → Prop} {xs : List α} (h : Kd.S d e w base ok (.slice (some ⟨g, 0, none⟩) n cap) xs) (hb : w.heap[g]? = some (.cells cur e (0, 0))) : n * d.sz ≤ cur.size := by
  obtain ⟨f, hR⟩ := h
  have hn := (Kd.R_reads' hR).1
  obtain ⟨h0, inner, ⟨hil, ho⟩, hr⟩ := hR
  rcases ho with ⟨hv, _⟩ | ⟨g', cap', cur', hv, hbase, hheap, hnc, hcm, hcs, htk⟩
  · cases hv
  injection hv with ha _ hcap
  injection ha with ha
  injection ha with ha _ _
  subst ha
  rw [hb] at hheap
  injection hheap with hheap
  injection hheap with hheap _ _
  rw [hheap, hcs]
  exact Nat.mul_le_mul_right _ (by omega)
/-- What an element's cells say. -/
theorem S_seg {α : Type} {d : Kd α} {w : World} {e g n cap base : Nat} {cur : Array Value} {ok : Nat → Prop} {xs : List α} (h : Kd.S d e w base ok (.slice (some ⟨g, 0, none⟩) n cap) xs) (z : α) (hb : w.heap[g]? = some (.cells cur e (0, 0))) (hn : 0 < n) (i : Nat) :
    d.M w base (fun k => ok k ∧ k ≠ g) (xs.getD (min i (n - 1)) z) (segK cur n d.sz i) := by
  have hsz := S_size h hb
  obtain ⟨f, hR⟩ := h
  have hnx := (Kd.R_reads' hR).1
  rw [List.length_zipIdx] at hnx
  obtain ⟨h0, inner, ⟨hil, ho⟩, hr⟩ := hR
  rcases ho with ⟨hv, _⟩ | ⟨g', cap', cur', hv, hbase, hheap, hnc, hcm, hcs, htk⟩
  · cases hv
  injection hv with ha _ hcap
  injection ha with ha
  injection ha with ha _ _
  subst ha
  rw [hb] at hheap
  injection hheap with hheap
  injection hheap with hheap _ _
  subst hheap
  have htag : (Kd.tag f d).sz = d.sz := rfl
  rw [List.length_zipIdx] at htk
  rw [htag] at htk hr
  have hix : min i (n - 1) < xs.length := by omega
  have hM := hr.2 (min i (n - 1)) _ (Kd.zip_at (List.getElem?_eq_getElem hix))
  have hgd : xs.getD (min i (n - 1)) z = xs[min i (n - 1)] := by rw [List.getD_eq_getElem?_getD, List.getElem?_eq_getElem hix]; rfl
  have hseg : segK cur n d.sz i = (inner.drop (min i (n - 1) * d.sz)).take d.sz := by
    unfold segK
    rw [← htk]
    apply List.ext_getElem?
    intro t
    by_cases ht : t < d.sz
    · rw [List.getElem?_take_of_lt ht, List.getElem?_take_of_lt ht, List.getElem?_drop, List.getElem?_drop]
      have h2 : min i (n - 1) * d.sz + t < xs.length * d.sz := Nat.lt_of_lt_of_le (Nat.add_lt_add_left ht _) (by rw [← Nat.succ_mul]; exact Nat.mul_le_mul_right _ hix)
      rw [List.getElem?_take_of_lt h2]
    · rw [List.getElem?_take_eq_none (by omega), List.getElem?_take_eq_none (by omega)]
  rw [hgd, hseg]
  exact d.M_mono (fun k hk => ⟨hk.1.1, fun he => hk.1.2 (by rw [he]; rfl)⟩) hM

theorem drew_two (w : World) (o1 o2 : Obj) (q : Nat) : ((w.alloc o1).alloc o2).drewN q = Sort.grow (w.drewN q) #[o1, o2] := by
  rw [Sort.alloc_eq_grow, Sort.alloc_eq_grow, Sort.grow_grow]
  rfl
set_option maxHeartbeats 8000000 in
set_option maxRecDepth 100000 in
/-- The order of facts: two blocks (its arguments') are laid, nothing is turned. -/
theorem cmpF_x (a0 : Int) (A : Option Addr) (ca : Nat) (la : List Int) (b0 : Int) (B : Option Addr) (cb : Nat) (lb : List Int) (w : World) (hra : Kd.C (Kd.int .i64) w A la.length la) (hca : la.length ≤ ca) (hrb : Kd.C (Kd.int .i64) w B lb.length lb) (hcb : lb.length ≤ cb) (hl : la.length ≤ 140737488355328) :
    Calls Try.prog 54 #[.agg #[.int .i64 a0, .slice A la.length ca], .agg #[.int .i64 b0, .slice B lb.length cb]] w fun e w' => e = .returned (.int .i64 (mCmpF ⟨a0, la⟩ ⟨b0, lb⟩)) ∧ ∃ q os, w' = Sort.grow (w.drewN q) os := by
  have hu37 := Try.underlying37
  obtain ⟨k, hk⟩ := (slCompare_ev la lb hl).rounds
  have K := Aside0.mk hk
  have HA := Aside0.mk hra
  have HB := Aside0.mk hrb
  have HC := Aside0.mk (show la.length ≤ ca ∧ lb.length ≤ cb from ⟨hca, hcb⟩)
  have EM := Aside0.mk (show mCmpF ⟨a0, la⟩ ⟨b0, lb⟩ = if a0 < b0 then -1 else if a0 > b0 then 1 else mCmp la lb from rfl)
  generalize mCmpF ⟨a0, la⟩ ⟨b0, lb⟩ = r at EM ⊢
  generalize mCmp la lb = rc at K EM
  clear hra hrb hca hcb hk hl
  go_enter Try.func54, Try.ntmps54
  by_cases h1 : a0 < b0
  · have h1b := decide_eq_true h1
    have ER := Aside0.mk (show r = -1 by rw [EM.out, if_pos h1])
    clear EM
    go_wp2
    go_ret
    exact ⟨by rw [ER.out]; rfl, 0, _, drew_two _ _ _ 0⟩
  · have h1b := decide_eq_false h1
    by_cases h2 : a0 > b0
    · have h2b : decide (b0 < a0) = true := decide_eq_true h2
      have h2c : decide (a0 > b0) = true := decide_eq_true h2
      have ER := Aside0.mk (show r = 1 by rw [EM.out, if_neg h1, if_pos h2])
      clear EM
      go_wp2
      go_ret
      exact ⟨by rw [ER.out]; rfl, 0, _, drew_two _ _ _ 0⟩
    · have h2b : decide (b0 < a0) = false := decide_eq_false h2
      have h2c : decide (a0 > b0) = false := decide_eq_false h2
      have ER := Aside0.mk (show r = rc by rw [EM.out, if_neg h1, if_neg h2])
      clear EM
      go_wp2_with (first | (go_at_call 76; refine hold ?_))
      unfold Hold
      refine (slices_Compare_int_int.calls k A ca la B cb lb rc _ (Kd.C_below HA.out ?b1) HC.out.1 (Kd.C_below HB.out ?b2) HC.out.2 K.out).mono ?_
      case b1 => exact below_alloc (below_alloc (Below.refl _ _) _) _
      case b2 => exact below_alloc (below_alloc (Below.refl _ _) _) _
      rintro e w' ⟨rfl, hd⟩
      obtain ⟨q, rfl⟩ := hd.out
      go_wp2
      go_ret
      exact ⟨by rw [ER.out]; rfl, q, _, drew_two _ _ _ q⟩
theorem cmpF_lt (a b : S37) : decide (mCmpF a b < 0) = mFLess a b := by
  have h := cmpF_less a b
  cases e : mFLess a b
  · have := h.2 e; exact decide_eq_false (by omega)
  · exact decide_eq_true (Int.not_le.1 (fun h2 => by have := h.1 h2; rw [e] at this; cases this))
theorem cmpLays_F {g n cap base : Nat} {ok : Nat → Prop} {w : World} {xs : List S37} {cur : Array Value} (h : Kd.S k37 37 w base ok (.slice (some ⟨g, 0, none⟩) n cap) xs) (hb : w.heap[g]? = some (.cells cur 37 (0, 0))) (hn : 0 < n) (hs : ∀ x ∈ xs, x.f1.length ≤ 1048576) :
    CmpLays Try.prog 54 #[] (segK cur n 2) 2 (fun i j => mCmpF (xs.getD (min i (n - 1)) z37) (xs.getD (min j (n - 1)) z37)) g 0 n w := by
  intro m os dk hd x y
  have hg := sortK_grown (w := w) (g := g) (k := 2) (segK cur n 2) m dk os
  have hnx : n = xs.length := (Kd.S_reads' h).1
  obtain ⟨vx, ex, gx⟩ := k37_openM (S_seg h z37 hb hn x)
  obtain ⟨vy, ey, gy⟩ := k37_openM (S_seg h z37 hb hn y)
  have gx' := Kd.R_step gx (w1 := sortWorldK (segK cur n 2) 2 w g 0 m dk os) (fun k hk hlt => hg.block k hlt (fun he => hk.2 (Option.some.inj he)))
  have gy' := Kd.R_step gy (w1 := sortWorldK (segK cur n 2) 2 w g 0 m dk os) (fun k hk hlt => hg.block k hlt (fun he => hk.2 (Option.some.inj he)))
  obtain ⟨Ax, cx, rfl, hlx, rx⟩ := Kd.R_reads gx'
  obtain ⟨Ay, cy, rfl, hly, ry⟩ := Kd.R_reads gy'
  have ex' : segK cur n 2 x = _ := ex
  have ey' : segK cur n 2 y = _ := ey
  rw [Array.append_empty, ex', ey']
  refine cmpF_x _ Ax cx _ _ Ay cy _ _ rx hlx ry hly ?_
  have hx : min x (n - 1) < xs.length := by omega
  rw [List.getD_eq_getElem?_getD, List.getElem?_eq_getElem hx]
  exact Nat.le_trans (hs _ (List.getElem_mem _)) (by omega)
/-- The library's sort at a row of facts of the call's own. -/
theorem sortF_walk (P : Nat → Prop) (v : Value) (xs : List S37) (w0 w : World) (hB : Below w0.heap.size w0 w) (ho : Kd.S k37 37 w w0.heap.size P v xs) (hn : 0 < xs.length) (hl : xs.length ≤ 4398046511104) (hs : ∀ x ∈ xs, x.f1.length ≤ 1048576) :
    Calls Try.prog 53 #[v, .func (.func 54) #[] #[]] w fun e w' => e = .returned (.tuple #[]) ∧ ∃ ys : List S37, ys.Perm xs ∧ ys.Pairwise (fun x y => mFLess y x = false) ∧ Kd.S k37 37 w' w0.heap.size P v ys ∧ Below w0.heap.size w0 w' := by
  obtain ⟨g, cap, rfl, hge, hgl, cur, hb⟩ := Kd.S_form ho hn
  have hsz : xs.length * 2 ≤ cur.size := S_size ho hb
  have hlt : ∀ x y, ltOf (fun i j => mCmpF (xs.getD (min i (xs.length - 1)) z37) (xs.getD (min j (xs.length - 1)) z37)) x y = mFLess (xs.getD (min x (xs.length - 1)) z37) (xs.getD (min y (xs.length - 1)) z37) := fun x y => cmpF_lt _ _
  have hO : Sort.SWO (ltOf (fun i j => mCmpF (xs.getD (min i (xs.length - 1)) z37) (xs.getD (min j (xs.length - 1)) z37))) := by
    refine ⟨fun x => ?_, fun x y z h1 h2 => ?_, fun x y z h1 h2 => ?_⟩
    · rw [hlt]; exact mFLess_tot.irr _
    · rw [hlt] at *; exact mFLess_tot.tr _ _ _ h1 h2
    · rw [hlt] at *; exact mFLess_tot.nt _ _ _ h1 h2
  have eg : ∀ args w, (callFunc 54 args).run Try.prog w = .ok (.enter 54 args) w := enters_of Try.func54 (by kernel_rfl) rfl
  have hcon := AnyQ.slices_SortFunc Try.sortF 2 Try.isAgg37 Try.sizeOf37 (segK cur xs.length 2) (fun i => segK_len hn hsz i) (fun i u hu => k37.K_one (k37.K_of_M (S_seg ho z37 hb hn i)) u hu) _ hO 54 #[] g 0 cap (Array.range xs.length) w eg (by rw [Array.size_range]; exact cmpLays_F ho hb hn hs) (holds_seg hn (by decide) hb hsz) hgl (by rw [Array.size_range]; omega)
  rw [Array.size_range] at hcon
  refine hcon.mono ?_
  rintro e w' ⟨he, d', m, os, hp, hsd, rfl⟩
  have hg := sortK_grown (w := w) (g := g) (k := 2) (segK cur xs.length 2) m d' os
  have hpl : d'.toList.Perm (List.range xs.length) := by
    have h1 := hp.1
    have := hp.2.2
    rw [Array.size_range] at h1
    rw [Array.extract_eq_self_of_le (by omega), Array.extract_eq_self_of_le (by simp), Array.toList_range] at this
    exact this
  have hmem : ∀ i ∈ d'.toList, i < xs.length := fun i hi => List.mem_range.1 (hpl.mem_iff.1 hi)
  have hds : d'.size = xs.length := by rw [hp.1, Array.size_range]
  refine ⟨he, d'.toList.map fun i => xs.getD i z37, ?_, ?_, S_sortK ho z37 hn (by decide) hb hsz m os d' hp, hB.grown hg hB.size (fun k hk => by injection hk with hk; omega)⟩
  · have h2 := hpl.map (fun i => xs.getD i z37)
    have h3 : (List.range xs.length).map (fun i => xs.getD i z37) = xs := by
      apply List.ext_getElem
      · simp
      · intro i h1 h2
        rw [List.getElem_map, List.getElem_range, List.getD_eq_getElem?_getD, List.getElem?_eq_getElem h2]; rfl
    rwa [h3] at h2
  · rw [List.pairwise_map, List.pairwise_iff_getElem]
    intro i j hi hj hij
    have hi' : i < d'.size := by simpa using hi
    have hj' : j < d'.size := by simpa using hj
    have := hsd i j (Nat.zero_le _) hij (by omega)
    rw [hlt, getElem!_pos d' i hi', getElem!_pos d' j hj'] at this
    have m1 := hmem d'[i] (by simp)
    have m2 := hmem d'[j] (by simp)
    rw [show min d'[i] (xs.length - 1) = d'[i] by omega, show min d'[j] (xs.length - 1) = d'[j] by omega] at this
    simpa using this

set_option maxHeartbeats 8000000 in
set_option maxRecDepth 100000 in
theorem impl_AddFact_calls (A0_0 : Option Addr) (c0_0 : Nat) (l0_0 : List Int) (A1 : Option Addr) (c1 : Nat) (l1 : List (S37)) (a2_0 : Int) (A2_1 : Option Addr) (c2_1 : Nat) (l2_1 : List Int) (r1 : List (S37)) (r2 : Bool) (w : World) (hr0_0 : Kd.C (Kd.int .i64) w A0_0 l0_0.length l0_0) (hc0_0 : l0_0.length ≤ c0_0) (hr1 : Kd.C k37 w A1 l1.length l1) (hc1 : l1.length ≤ c1) (hr2_1 : Kd.C (Kd.int .i64) w A2_1 l2_1.length l2_1) (hc2_1 : l2_1.length ≤ c2_1) (hz0 : l0_0.length ≤ 1048576 ∧ l1.length ≤ 1048576 ∧ (∀ x ∈ l1, x.f1.length ≤ 1048576) ∧ l2_1.length ≤ 1048576) (h : mAddF l0_0 l1 ⟨a2_0, l2_1⟩ = (r1, r2)) :
    Calls Try.prog 14 #[.agg #[.slice A0_0 l0_0.length c0_0], .slice A1 l1.length c1, .agg #[.int .i64 a2_0, .slice A2_1 l2_1.length c2_1]] w fun e w' => ∃ v0_ : Value, e = .returned (.tuple #[v0_, .bool r2]) ∧ Kd.S k37 37 w' w.heap.size (fun _ => True) v0_ r1 ∧ Below w.heap.size w w' := by
  obtain ⟨z0, z1, zs, z2⟩ := hz0
  obtain ⟨k1, hk1⟩ := (implIsDb_ev l0_0 l1 z0 z1 zs).rounds
  obtain ⟨k2, hk2⟩ := (implIsFact_ev l0_0 a2_0 l2_1 (by omega) (by omega)).rounds
  obtain ⟨k3, hk3⟩ := (implHasFact_ev l1 a2_0 l2_1 z1 zs).rounds
  obtain ⟨k4, hk4⟩ := (copyFacts_ev l1 z1 zs).rounds
  have K5 := Aside0.mk (copyFact_eq a2_0 l2_1 z2)
  have huS := Try.underlying34
  have huF := Try.underlying37
  have HS := Aside0.mk (fun h_ : mIsDb l0_0 l1 = true => (⟨mPutF_sort (⟨a2_0, l2_1⟩ : S37) l1 (isDb_sorted h_), by have h2 := h_; unfold mIsDb at h2; simp only [Bool.and_eq_true, decide_eq_true_eq] at h2; exact h2.2.2⟩ : _ ∧ (l1.length : Int) ≤ 24))
  have HZ := Aside0.mk (show l1.length ≤ 1048576 ∧ ∀ x ∈ l1 ++ [(⟨a2_0, l2_1⟩ : S37)], x.f1.length ≤ 1048576 from ⟨z1, fun x hx => by rcases List.mem_append.1 hx with hx | hx; exact zs x hx; rw [List.mem_singleton.1 hx]; exact z2⟩)
  unfold mAddF mFits at h
  dsimp only at h
  generalize mIsDb l0_0 l1 = b1 at hk1 h HS
  generalize mIsFact l0_0 a2_0 l2_1 = b2 at hk2 h
  generalize mHas l1 a2_0 l2_1 = b3 at hk3 h
  have HN := Aside0.mk (fun h_ : (b1 && (b2 && (!b3 && decide ((l1.length : Int) < 24)))) = false => show r1 = l1 ∧ r2 = false by rw [h_, if_neg (by simp)] at h; injection h with h1 h2; exact ⟨h1.symm, h2.symm⟩)
  have HY := Aside0.mk (fun h_ : (b1 && (b2 && (!b3 && decide ((l1.length : Int) < 24)))) = true => show r1 = mPutF ⟨a2_0, l2_1⟩ l1 ∧ r2 = true by rw [h_, if_pos rfl] at h; injection h with h1 h2; exact ⟨h1.symm, h2.symm⟩)
  have K1 := Aside0.mk hk1
  have K2 := Aside0.mk hk2
  have K3 := Aside0.mk hk3
  have K4 := Aside0.mk hk4
  have R0 := Aside0.mk hr0_0
  have R1 := Aside0.mk hr1
  have R2 := Aside0.mk hr2_1
  have HC := Aside0.mk (show l0_0.length ≤ c0_0 ∧ l1.length ≤ c1 ∧ l2_1.length ≤ c2_1 from ⟨hc0_0, hc1, hc2_1⟩)
  have HB := Aside0.mk (Below.refl w.heap.size w)
  clear hk1 hk2 hk3 hk4 hr0_0 hr1 hr2_1 hc0_0 hc1 hc2_1 z0 z1 z2 zs h
  go_enter Try.func14, Try.ntmps14
  go_wp2_with (first | ((with_reducible refine gate_dst (N := 3) rfl ?_); refine hold ?_))
  unfold Hold
  refine box_event ?hg0 (N := 3) ?hd0 (cs := #[.slice A0_0 l0_0.length c0_0]) (t := 34) ?hr0 ?_
  case hd0 => rfl
  case hg0 => rfl
  case hr0 => first | (go_simp; done) | (go_simp; rfl)
  intro g0 hg w1 hbox hb
  have Bg0 := Aside0.mk hbox
  replace HB := Aside0.mk (below_step HB.out hb)
  clear hbox hb hg
  go_wp2_with (first | ((with_reducible refine gate_dst (N := 5) rfl ?_); refine hold ?_))
  unfold Hold
  refine box_event ?hg1 (N := 5) ?hd1 (cs := #[.int .i64 a2_0, .slice A2_1 l2_1.length c2_1]) (t := 37) ?hr1 ?_
  case hd1 => rfl
  case hg1 => rfl
  case hr1 => first | (go_simp; done) | (go_simp; rfl)
  intro g1 hg w2 hbox hb
  have Bg1 := Aside0.mk hbox
  replace Bg0 := Aside0.mk (blk_below Bg0.out hb)
  replace HB := Aside0.mk (below_step HB.out hb)
  clear hbox hb hg
  go_wp2_with (first | (go_at_call 51; refine hold ?_))
  unfold Hold
  refine (impl_copyFacts.calls k4 _ _ l1 l1 _ (Kd.C_below R1.out HB.out) HC.out.2.1 K4.out).mono ?_
  rintro e w3 ⟨v0, rfl, ho, hb⟩
  have O := Aside0.mk (Kd.S_lower ho HB.out.size)
  replace Bg0 := Aside0.mk (blk_below Bg0.out hb)
  replace Bg1 := Aside0.mk (blk_below Bg1.out hb)
  replace HB := Aside0.mk (below_step HB.out hb)
  clear hb ho
  have hx0 : w3.cell? ⟨g0, 0, none⟩ = some (.slice A0_0 l0_0.length c0_0) := (blk_cell Bg0.out 0).trans rfl
  have hx1 : w3.cell? ⟨g1, 0, none⟩ = some (.int .i64 a2_0) := (blk_cell Bg1.out 0).trans rfl
  have hx2 : w3.cell? ⟨g1, 1, none⟩ = some (.slice A2_1 l2_1.length c2_1) := (blk_cell Bg1.out 1).trans rfl
  go_wp2_with (first | (go_at_call 25; refine hold ?_))
  unfold Hold
  refine (impl_IsDatabase.calls k1 _ _ l0_0 _ _ l1 b1 _ (Kd.C_below R0.out HB.out) HC.out.1 (Kd.C_below R1.out HB.out) HC.out.2.1 K1.out).mono ?_
  rintro e w4 ⟨rfl, hb⟩
  replace O := Aside0.mk (Kd.S_below O.out hb)
  replace Bg0 := Aside0.mk (blk_below Bg0.out hb)
  replace Bg1 := Aside0.mk (blk_below Bg1.out hb)
  replace HB := Aside0.mk (below_step HB.out hb)
  clear hb hx0 hx1 hx2 K1
  cases b1
  · have EN := Aside0.mk (HN.out (by rfl))
    clear HN HY HS
    go_wp2
    go_ret2
    exact ⟨_, by rw [EN.out.2]; rfl, by rw [EN.out.1]; exact O.out, HB.out⟩
  have hx0 : w4.cell? ⟨g0, 0, none⟩ = some (.slice A0_0 l0_0.length c0_0) := (blk_cell Bg0.out 0).trans rfl
  have hx1 : w4.cell? ⟨g1, 0, none⟩ = some (.int .i64 a2_0) := (blk_cell Bg1.out 0).trans rfl
  have hx2 : w4.cell? ⟨g1, 1, none⟩ = some (.slice A2_1 l2_1.length c2_1) := (blk_cell Bg1.out 1).trans rfl
  go_wp2_with (first | (go_at_call 32; refine hold ?_))
  unfold Hold
  refine (impl_IsFact.calls k2 _ _ l0_0 _ _ _ l2_1 b2 _ (Kd.C_below R0.out HB.out) HC.out.1 (Kd.C_below R2.out HB.out) HC.out.2.2 K2.out).mono ?_
  rintro e w5 ⟨rfl, hb⟩
  replace O := Aside0.mk (Kd.S_below O.out hb)
  replace Bg0 := Aside0.mk (blk_below Bg0.out hb)
  replace Bg1 := Aside0.mk (blk_below Bg1.out hb)
  replace HB := Aside0.mk (below_step HB.out hb)
  clear hb hx0 hx1 hx2 K2
  cases b2
  · have EN := Aside0.mk (HN.out (by rfl))
    clear HN HY HS
    go_wp2
    go_ret2
    exact ⟨_, by rw [EN.out.2]; rfl, by rw [EN.out.1]; exact O.out, HB.out⟩
  have hx0 : w5.cell? ⟨g0, 0, none⟩ = some (.slice A0_0 l0_0.length c0_0) := (blk_cell Bg0.out 0).trans rfl
  have hx1 : w5.cell? ⟨g1, 0, none⟩ = some (.int .i64 a2_0) := (blk_cell Bg1.out 0).trans rfl
  have hx2 : w5.cell? ⟨g1, 1, none⟩ = some (.slice A2_1 l2_1.length c2_1) := (blk_cell Bg1.out 1).trans rfl
  go_wp2_with (first | (go_at_call 29; refine hold ?_))
  unfold Hold
  refine (impl_HasFact.calls k3 _ _ l1 _ _ _ l2_1 b3 _ (Kd.C_below R1.out HB.out) HC.out.2.1 (Kd.C_below R2.out HB.out) HC.out.2.2 K3.out).mono ?_
  rintro e w6 ⟨rfl, hb⟩
  replace O := Aside0.mk (Kd.S_below O.out hb)
  replace Bg0 := Aside0.mk (blk_below Bg0.out hb)
  replace Bg1 := Aside0.mk (blk_below Bg1.out hb)
  replace HB := Aside0.mk (below_step HB.out hb)
  clear hb hx0 hx1 hx2 K3
  cases b3
  rotate_left
  · have EN := Aside0.mk (HN.out (by rfl))
    clear HN HY HS
    go_wp2
    go_ret2
    exact ⟨_, by rw [EN.out.2]; rfl, by rw [EN.out.1]; exact O.out, HB.out⟩
  by_cases c4 : (l1.length : Int) = 24
  · have c4b : ((l1.length : Int) == 24) = true := beq_iff_eq.mpr c4
    have EN := Aside0.mk (HN.out (by rw [decide_eq_false (show ¬ (l1.length : Int) < 24 by omega)]; rfl))
    clear HN HY HS
    go_wp2
    go_ret2
    exact ⟨_, by rw [EN.out.2]; rfl, by rw [EN.out.1]; exact O.out, HB.out⟩
  have c4b : ((l1.length : Int) == 24) = false := by simpa using c4
  have HS1 := HS.out trivial
  have hlt : (l1.length : Int) < 24 := by have := HS1.2; omega
  have HS2 := Aside0.mk HS1.1
  have EN := Aside0.mk (HY.out (by rw [decide_eq_true hlt]; rfl))
  clear HN HY HS HS1 hlt c4
  have hx0 : w6.cell? ⟨g0, 0, none⟩ = some (.slice A0_0 l0_0.length c0_0) := (blk_cell Bg0.out 0).trans rfl
  have hx1 : w6.cell? ⟨g1, 0, none⟩ = some (.int .i64 a2_0) := (blk_cell Bg1.out 0).trans rfl
  have hx2 : w6.cell? ⟨g1, 1, none⟩ = some (.slice A2_1 l2_1.length c2_1) := (blk_cell Bg1.out 1).trans rfl
  go_wp2_with (first | (go_at_call 52; refine hold ?_))
  unfold Hold
  refine (impl_copyFact.calls _ _ _ l2_1 _ _ _ (Kd.C_below R2.out HB.out) HC.out.2.2 K5.out).mono ?_
  rintro e w7 ⟨v1, rfl, ho, hb⟩
  have O2 := Aside0.mk (Kd.S_elder' O.out (Kd.R_base ho) hb)
  have OF := Aside0.mk (Kd.R_lower ho HB.out.size)
  replace HB := Aside0.mk (below_step HB.out hb)
  clear hb ho hx0 hx1 hx2 O Bg0 Bg1
  obtain ⟨Af, cf, rfl⟩ := Kd.R_slice OF.out
  go_wp2_with (first | ((with_reducible refine gate_builtin (b := .append) (xs := #[.tmp 32, .tmp 35]) rfl ?_); at_builtin; refine hold ?_))
  unfold Hold
  refine Kd.S_append k37 (w0 := w) w.heap.size rfl (.tmp 32) (.tmp 35) 31 37 (.agg #[(.int .i64 0), (.slice none 0 0)]) 32 rfl Try.underlying31 info37 rfl (by decide) (by omega) v0 l1 (⟨a2_0, l2_1⟩ : S37) [.int .i64 a2_0, .slice Af l2_1.length cf] (fun _ => True) (fun k_ => some k_ = (.slice Af l2_1.length cf : Value).ownBlock) rfl rfl ?aP (fun k_ hk_ => (Kd.R_apart' OF.out (Kd.S_typed O2.out) (by decide)).1 k_ hk_.symm) ?aF ?aO ?aB ?aS ?aL ?_
  case aP => exact k37_mkM _ _ _ (⟨a2_0, l2_1⟩ : S37) (Kd.R_tight rfl OF.out)
  case aF => exact fun _ _ => trivial
  case aO => exact Kd.S_mono O2.out (fun k_ hk => ⟨trivial, fun e_ => hk.2 e_⟩)
  case aB => exact HB.out
  case aS => exact HB.out.size
  case aL => have := HZ.out.1; omega
  intro v2 w8 ho hb hg hat
  have O3 := Aside0.mk ho
  replace HB := Aside0.mk hb
  clear ho hb hg hat O2 OF
  go_wp2_with (first | (go_at_call 53; refine hold ?_))
  unfold Hold
  refine (sortF_walk (fun _ => True) v2 (l1 ++ [(⟨a2_0, l2_1⟩ : S37)]) w _ HB.out O3.out (by simp) (by have := HZ.out.1; simp; omega) HZ.out.2).mono ?_
  rintro e w9 ⟨rfl, ys, hp, hs, ho, hb⟩
  have EY : Aside0 (ys = mPutF ⟨a2_0, l2_1⟩ l1) := ⟨by rw [← HS2.out]; exact (mFLess_tot.sort hp hs).symm⟩
  have O4 := Aside0.mk ho
  replace HB := Aside0.mk hb
  clear ho hb hp hs O3
  go_wp2
  go_ret2
  exact ⟨_, by rw [EN.out.2]; rfl, by rw [EN.out.1, ← EY.out]; exact O4.out, HB.out⟩

/-- What stands while a database is drawn: the cursor, the schema's row, the database's, the result's box (g2) and the schema's (g4). -/
structure StA (w0 ws : World) (g : Nat) (c s : List Int) (v0 : Value) (g2 g4 : Nat) (v1 : Value) (d : List S37) (i h : Int) (W : World) : Prop where
  I : IsS139 w0 W g c i h
  B : Below w0.heap.size w0 W
  R : Kd.R (Kd.int .i64) 3 W w0.heap.size (fun _ => True) v0 s
  S : Kd.S k37 37 W w0.heap.size (fun k => ws.heap.size ≤ k) v1 d
  b2 : W.heap[g2]? = some (.cells #[.slice none 0 0] 34 (0, 0))
  b4 : W.heap[g4]? = some (.cells #[v0] 34 (0, 0))
  e2 : w0.heap.size ≤ g2
  e2w : ws.heap.size ≤ g2
  K : KeepBut ws W g none
theorem StA.below {w0 ws W W1 : World} {g g2 g4 : Nat} {c s : List Int} {v0 v1 : Value} {d : List S37} {i h : Int} (st : StA w0 ws g c s v0 g2 g4 v1 d i h W) (hb : Below W.heap.size W W1) : StA w0 ws g c s v0 g2 g4 v1 d i h W1 :=
  ⟨st.I.below hb, below_step st.B hb, Kd.R_below st.R hb, Kd.S_below st.S hb, blk_below st.b2 hb, blk_below st.b4 hb, st.e2, st.e2w, st.K.trans (KeepBut.of_below hb g none) (.inl rfl)⟩
theorem StA.keep {w0 ws W W1 : World} {g g2 g4 : Nat} {c s : List Int} {v0 v1 : Value} {d : List S37} {i h i' h' : Int} (st : StA w0 ws g c s v0 g2 g4 v1 d i h W) (hi : IsS139 w0 W1 g c i' h') (hb : Below w0.heap.size w0 W1) (hk : KeepBut W W1 g none) : StA w0 ws g c s v0 g2 g4 v1 d i' h' W1 :=
  ⟨hi, hb, Kd.R_mono (Kd.R_keep (st.I.apart st.R (by decide)) hk (fun _ h => h.2)) (fun _ h => h.1), Kd.S_mono (Kd.S_keep (st.I.apartS st.S (by decide)) hk (fun _ h => h.2)) (fun _ h => h.1),
    KeepBut.blk hk st.b2 (Ne.symm (st.I.ne_blk st.b2 (by decide))) (by simp), KeepBut.blk hk st.b4 (Ne.symm (st.I.ne_blk st.b4 (by decide))) (by simp), st.e2, st.e2w, st.K.trans hk (.inl rfl)⟩
theorem StA.grown {w0 ws W W1 : World} {g g2 g4 : Nat} {c s : List Int} {v0 v1 v2 : Value} {d d2 : List S37} {i h : Int} (st : StA w0 ws g c s v0 g2 g4 v1 d i h W) (ho : Kd.S k37 37 W1 w0.heap.size (fun k => ws.heap.size ≤ k) v2 d2) (hb : Below w0.heap.size w0 W1) (hg : W.grownBy W1 v1.ownBlock) : StA w0 ws g c s v0 g2 g4 v2 d2 i h W1 :=
  ⟨st.I.grown hg (st.I.own_neS st.S (by decide)), hb, Kd.R_mono (Kd.R_grown (Kd.R_apart' st.R (Kd.S_typed st.S) (by decide)) hg (fun _ h => h.2)) (fun _ h => h.1), ho, blk_grown st.b2 hg (Kd.S_ne st.S st.b2 (by decide)), blk_grown st.b4 hg (Kd.S_ne st.S st.b4 (by decide)), st.e2, st.e2w,
    st.K.trans (KeepBut.of_grown hg g) (by cases e : v1.ownBlock with | none => exact .inl rfl | some b => exact .inr ⟨b, rfl, (Kd.S_R st.S).1 b e⟩)⟩
theorem StA.row {w0 ws W : World} {g g2 g4 : Nat} {c s : List Int} {v0 v1 v2 : Value} {d d2 : List S37} {i h : Int} (st : StA w0 ws g c s v0 g2 g4 v1 d i h W) (ho : Kd.S k37 37 W w0.heap.size (fun k => ws.heap.size ≤ k) v2 d2) : StA w0 ws g c s v0 g2 g4 v2 d2 i h W :=
  ⟨st.I, st.B, st.R, ho, st.b2, st.b4, st.e2, st.e2w, st.K⟩
/-- Facts that a draw puts behind a database. -/
def fifty : Nat → List S37
  | 0 => []
  | n + 1 => fifty n ++ [⟨0, [50, (n : Int)]⟩]
theorem fifty_len : ∀ n, (fifty n).length = n
  | 0 => rfl
  | n + 1 => by simp [fifty, fifty_len n]
theorem fifty_small : ∀ n, ∀ x ∈ fifty n, x.f1.length ≤ 4
  | 0, x, h => by cases h
  | n + 1, x, h => by
    rcases List.mem_append.1 h with h | h
    · exact fifty_small n x h
    · rw [List.mem_singleton.1 h]; show ([50, (n : Int)] : List Int).length ≤ 4; simp
def l5Any_f (k : Nat) (c : List Int) (i h : Int) : Option (List Int × List S37 × Int × Int) :=
  (spec_l3Any.f k c i h).bind fun a => (spec_l4Safe.f k a.1).bind fun t => (spec_l5Db.f k c a.2.1 a.2.2 t).bind fun b => if b.1.length < 1000000 then (spec_l1Below.f c b.2.1 b.2.2 10).bind fun y =>
    if y.1 = 0 then (spec_l5AnyFact.f k c y.2.1 y.2.2 a.1).bind fun f => some (a.1, b.1 ++ [⟨f.1, f.2.1⟩], f.2.2.1, f.2.2.2)
    else if y.1 = 1 then some (a.1, b.1 ++ fifty 26, y.2.1, y.2.2) else some (a.1, b.1, y.2.1, y.2.2) else none
set_option maxHeartbeats 8000000 in
set_option maxRecDepth 100000 in
theorem l5Any_walk (k g : Nat) (c : List Int) (i h : Int) (r1 : List Int) (r2 : List S37) (r3 r4 : Int) (w0 w : World) (hI : IsS139 w0 w g c i h) (hB : Below w0.heap.size w0 w) (hh : l5Any_f k c i h = some (r1, r2, r3, r4)) :
    Calls Try.prog 87 #[.pointer (some ⟨g, 0, none⟩)] w fun e w' => ∃ v0 v1 : Value, e = .returned (.tuple #[.agg #[v0], v1]) ∧ Kd.R (Kd.int .i64) 3 w' w0.heap.size (fun _ => True) v0 r1 ∧ Kd.S k37 37 w' w0.heap.size (fun k => w.heap.size ≤ k) v1 r2 ∧ IsS139 w0 w' g c r3 r4 ∧ Below w0.heap.size w0 w' ∧ KeepBut w w' g none := by
  have huS := Try.underlying34
  have huF := Try.underlying37
  unfold l5Any_f at hh
  obtain ⟨⟨s, i1, h1⟩, a1, hh⟩ := Option.bind_eq_some_iff.1 hh
  try dsimp only at hh
  obtain ⟨t, a2, hh⟩ := Option.bind_eq_some_iff.1 hh
  try dsimp only at hh
  obtain ⟨⟨d, i2, h2⟩, a3, hh⟩ := Option.bind_eq_some_iff.1 hh
  try dsimp only at hh
  by_cases hdl : d.length < 1000000
  rotate_left
  · rw [if_neg hdl] at hh; cases hh
  rw [if_pos hdl] at hh
  obtain ⟨⟨y, i3, h3⟩, a4, hh⟩ := Option.bind_eq_some_iff.1 hh
  try dsimp only at hh
  have A1 := Aside0.mk a1
  have A2 := Aside0.mk a2
  have A3 := Aside0.mk a3
  have A4 := Aside0.mk a4
  have HH := Aside0.mk hh
  have HL := Aside0.mk hdl
  have HI := Aside0.mk hI
  have HB := Aside0.mk hB
  have HK := Aside0.mk (KeepBut.refl w g none)
  clear a1 a2 a3 a4 hh hdl hI hB
  go_enter Try.func87, Try.ntmps87
  go_wp2_with (first | ((with_reducible refine gate_dst (N := 2) rfl ?_); refine hold ?_))
  unfold Hold
  refine box_event ?hgg2 (N := 2) ?hdg2 (cs := #[.slice none 0 0]) (t := 34) ?hrg2 ?_
  case hdg2 => rfl
  case hgg2 => rfl
  case hrg2 => first | (go_simp; done) | (go_simp; rfl)
  intro g2 hg w1 hbox hb
  have Bg2 := Aside0.mk hbox
  have Eg2 := Aside0.mk (show w0.heap.size ≤ g2 ∧ w.heap.size ≤ g2 by rw [hg]; exact ⟨HB.out.size, HK.out.1⟩)
  replace HK := Aside0.mk (HK.out.trans (KeepBut.of_below hb g none) (.inl rfl))
  replace HI := Aside0.mk (IsS139.below HI.out hb)
  replace HB := Aside0.mk (below_step HB.out hb)
  clear hbox hb hg
  go_wp2_with (first | (go_at_call 121; refine hold ?_))
  unfold Hold
  refine (spec_l3Any.calls k g c i h s i1 h1 w0 _ HI.out HB.out A1.out).mono ?_
  rintro e w2 ⟨v0, rfl, ho, hi, hb, hk⟩
  have R := Aside0.mk (Kd.R_mono (Kd.R_lower ho HB.out.size) (ok' := fun _ => True) (fun _ _ => trivial))
  replace Bg2 := Aside0.mk (KeepBut.blk hk Bg2.out (Ne.symm (IsS139.ne_blk HI.out Bg2.out (by decide))) (by simp))
  replace HK := Aside0.mk (HK.out.trans hk (.inl rfl))
  replace HI := Aside0.mk hi
  replace HB := Aside0.mk hb
  clear ho hi hb hk A1
  obtain ⟨Av, cv, rfl⟩ := Kd.R_slice R.out
  go_wp2_with (first | ((with_reducible refine gate_dst (N := 4) rfl ?_); refine hold ?_))
  unfold Hold
  refine box_event ?hgg4 (N := 4) ?hdg4 (cs := #[.slice none 0 0]) (t := 34) ?hrg4 ?_
  case hdg4 => rfl
  case hgg4 => rfl
  case hrg4 => first | (go_simp; done) | (go_simp; rfl)
  intro g4 hg w3 hbox hb
  have Bg4 := Aside0.mk hbox
  have Eg4 := Aside0.mk (show w0.heap.size ≤ g4 ∧ w.heap.size ≤ g4 by rw [hg]; exact ⟨HB.out.size, HK.out.1⟩)
  replace HK := Aside0.mk (HK.out.trans (KeepBut.of_below hb g none) (.inl rfl))
  have N24 := Aside0.mk (show g2 ≠ g4 by rw [hg]; exact Nat.ne_of_lt (blk_lt Bg2.out))
  replace Bg2 := Aside0.mk (blk_below Bg2.out hb)
  replace R := Aside0.mk (Kd.R_below R.out hb)
  replace HI := Aside0.mk (IsS139.below HI.out hb)
  replace HB := Aside0.mk (below_step HB.out hb)
  clear hbox hb hg
  have N4 := Aside0.mk (IsS139.ne_blk HI.out Bg4.out (by decide))
  have hc4 : w3.cell? ⟨g4, 0, none⟩ = some (.slice none 0 0) := (blk_cell Bg4.out 0).trans rfl
  have hf4 := blk_frozen Bg4.out 0
  go_wp2_with (first | ((with_reducible refine gate_store (t := 34) (p := 4) rfl ?_); refine hold ?_))
  unfold Hold
  refine store_event (t := 34) (p := 4) (v := ?vo4) (w1 := w3.setCell ⟨g4, 0, none⟩ (.slice Av s.length cv)) ?hgs4 ?hos4 ?hns4 ?hrs4 ?_
  case hos4 => rfl
  case hgs4 => rfl
  case hns4 => rfl
  case hrs4 => first | (go_simp; done) | (go_simp; rfl)
  intro w4 hw
  have ST : Aside0 (StA w0 w g c s (.slice Av s.length cv) g2 g4 (.slice none 0 0) [] i1 h1 w4) := ⟨by rw [hw]; exact ⟨IsS139.far HI.out N4.out _, below_set HB.out Eg4.out.1, Kd.R_set R.out Bg4.out (by decide) 0 _, Kd.S_nil _ _ _ _ _, blk_far Bg2.out N24.out _, blk_put Bg4.out 0 _ rfl, Eg2.out.1, Eg2.out.2, keep_far HK.out Eg4.out.2 _⟩⟩
  clear HI HB HK R Bg2 Bg4 N4 N24 Eg2 Eg4 hc4 hf4 hw
  have hx4 : w4.cell? ⟨g4, 0, none⟩ = some (.slice Av s.length cv) := (blk_cell ST.out.b4 0).trans rfl
  go_wp2_with (first | (go_at_call 123; refine hold ?_))
  unfold Hold
  refine (spec_l4Safe.calls k (fun _ => True) (.slice Av s.length cv) s t w0 _ ST.out.B ST.out.R A2.out).mono ?_
  rintro e w5 ⟨vs, rfl, hos, hb, hkp⟩
  replace ST := Aside0.mk (ST.out.keep (IsS139.kept ST.out.I hkp (fun h_ => h_)) hb ⟨hkp.1, fun i_ hi_ _ _ => hkp.2 i_ hi_ id⟩)
  obtain ⟨As, cs, rfl⟩ := Kd.R_slice hos
  have RS := Aside0.mk hos
  clear hos hb hkp A2 hx4
  go_wp2_with (first | (go_at_call 122; refine hold ?_))
  unfold Hold
  refine (spec_l5Db.calls k g c i1 h1 As cs t d i2 h2 w0 _ ST.out.I ST.out.B (Kd.R_reads' RS.out).2.2 (Kd.R_reads' RS.out).2.1 (far_slice (IsS139.own_ne ST.out.I RS.out (by decide))) A3.out).mono ?_
  rintro e w6 ⟨v1, rfl, ho, hi, hb, hk⟩
  have OS := Kd.S_mono (Kd.S_lower (Kd.S_bound ho) ST.out.B.size) (ok' := fun k_ => w.heap.size ≤ k_) (fun _ hk_ => Nat.le_trans ST.out.K.1 hk_.2.1)
  replace ST := Aside0.mk ((ST.out.keep hi hb hk).row OS)
  clear ho hi hb hk OS RS A3
  go_wp2_with (first | (go_at_call 89; refine hold ?_))
  unfold Hold
  refine (spec_l1Below.calls g c i2 h2 10 y i3 h3 w0 _ ST.out.I ST.out.B A4.out).mono ?_
  rintro e w7 ⟨rfl, hi, hb, hk⟩
  replace ST := Aside0.mk (ST.out.keep hi hb hk)
  clear hi hb hk A4
  by_cases c0 : y = 0
  · have c0b : (y == 0) = true := beq_iff_eq.mpr c0
    have hh := HH.out
    rw [if_pos c0] at hh
    obtain ⟨⟨fr, fl, i4, h4⟩, a5, hh⟩ := Option.bind_eq_some_iff.1 hh
    try dsimp only at hh
    have A5 := Aside0.mk a5
    simp only [Option.some.injEq, Prod.mk.injEq] at hh
    obtain ⟨rfl, rfl, rfl, rfl⟩ := hh
    clear HH a5 c0
    have hx4 : w7.cell? ⟨g4, 0, none⟩ = some (.slice Av s.length cv) := (blk_cell ST.out.b4 0).trans rfl
    go_wp2_with (first | (go_at_call 90; refine hold ?_))
    unfold Hold
    refine (spec_l5AnyFact.calls k g c i3 h3 (fun _ => True) (.slice Av s.length cv) s fr fl i4 h4 w0 _ ST.out.I ST.out.B ST.out.R A5.out).mono ?_
    rintro e w8 ⟨vf, rfl, hof, hi, hb, hkp⟩
    have hk : KeepBut w7 w8 g none := ⟨hkp.1, fun i_ hi_ hg_ _ => hkp.2 i_ hi_ hg_⟩
    have OF := Aside0.mk hof
    have OFW := Aside0.mk ST.out.K.1
    have OD := Aside0.mk (Kd.S_oldK (ST.out.I.apartS ST.out.S (by decide)) hk)
    replace ST := Aside0.mk (ST.out.keep hi hb hk)
    clear hof hi hb hk hkp hx4 A5
    obtain ⟨Af, cf, rfl⟩ := Kd.R_slice OF.out
    go_wp2_with (first | ((with_reducible refine gate_builtin (b := .append) (xs := #[.tmp 17, .tmp 21]) rfl ?_); at_builtin; refine hold ?_))
    unfold Hold
    refine Kd.S_append k37 (w0 := w0) w0.heap.size rfl (.tmp 17) (.tmp 21) 31 37 (.agg #[(.int .i64 0), (.slice none 0 0)]) 32 rfl Try.underlying31 info37 rfl (by decide) (by omega) v1 d (⟨fr, fl⟩ : S37) [.int .i64 fr, .slice Af fl.length cf] (fun k_ => w.heap.size ≤ k_) (fun k_ => some k_ = (.slice Af fl.length cf : Value).ownBlock) rfl rfl ?aP (fun k_ hk_ => ⟨Nat.le_trans (OFW.out) (OF.out.1 k_ hk_.symm), (Kd.R_apart' OF.out (Kd.S_typed OD.out) (by decide)).1 k_ hk_.symm |>.2⟩) ?aF ?aO ?aB ?aS ?aL ?_
    case aP => exact k37_mkM _ _ _ (⟨fr, fl⟩ : S37) (Kd.R_lower (Kd.R_tight rfl OF.out) (Nat.le_refl _))
    case aF => exact fun _ hk_ => Nat.le_trans ST.out.K.1 hk_
    case aO => exact Kd.S_mono OD.out (fun k_ hk => ⟨hk.1, fun e_ => by have := OF.out.1 k_ e_.symm; have := hk.2; omega⟩)
    case aB => exact ST.out.B
    case aS => exact ST.out.B.size
    case aL => have := HL.out; omega
    intro v2 w9 ho hb hg hat
    replace ST := Aside0.mk (ST.out.grown ho hb hg)
    clear ho hb hg hat OD OF OFW
    have hx4 : w9.cell? ⟨g4, 0, none⟩ = some (.slice Av s.length cv) := (blk_cell ST.out.b4 0).trans rfl
    have hx2 : w9.cell? ⟨g2, 0, none⟩ = some (.slice none 0 0) := (blk_cell ST.out.b2 0).trans rfl
    have hf2 := blk_frozen ST.out.b2 0
    go_wp2_with (first | ((with_reducible refine gate_store (t := 34) (p := 2) rfl ?_); refine hold ?_))
    unfold Hold
    refine store_event (t := 34) (p := 2) (v := ?vo2) (w1 := w9.setCell ⟨g2, 0, none⟩ (.slice Av s.length cv)) ?hgs2 ?hos2 ?hns2 ?hrs2 ?_
    case hos2 => rfl
    case hgs2 => rfl
    case hns2 => rfl
    case hrs2 => first | (go_simp; done) | (go_simp; rfl)
    intro wz hw
    have Z2 : Aside0 (wz.heap[g2]? = some (.cells #[.slice Av s.length cv] 34 (0, 0))) := ⟨by rw [hw]; exact blk_put ST.out.b2 0 _ rfl⟩
    have ZR : Aside0 (Kd.R (Kd.int .i64) 3 wz w0.heap.size (fun _ => True) (.slice Av s.length cv) s) := ⟨by rw [hw]; exact Kd.R_set ST.out.R ST.out.b2 (by decide) 0 _⟩
    have ZS := Aside0.mk (Kd.S_set ST.out.S ST.out.b2 (by decide) 0 (.slice Av s.length cv))
    rw [← hw] at ZS
    have ZI := Aside0.mk (IsS139.far ST.out.I (IsS139.ne_blk ST.out.I ST.out.b2 (by decide) : g ≠ (⟨g2, 0, none⟩ : Addr).block) (.slice Av s.length cv))
    rw [← hw] at ZI
    have ZB : Aside0 (Below w0.heap.size w0 wz) := ⟨by rw [hw]; exact below_set ST.out.B ST.out.e2⟩
    have ZK : Aside0 (KeepBut w wz g none) := ⟨by rw [hw]; exact keep_far ST.out.K ST.out.e2w _⟩
    clear hw hx4 hx2 hf2 ST
    go_wp2
    refine bodyPost_ret (results_list (rs := [.cell 2 34, .tmp 3]) rfl (by simp) (.cell g2 34 #[.slice Av s.length cv] (0, 0) _ rfl Z2.out Try.underlying34 rfl (by kernel_rfl) (.tmp .nil))) rfl ?_
    exact ⟨_, _, rfl, ZR.out, ZS.out, ZI.out, ZB.out, ZK.out⟩
  have c0b : (y == 0) = false := by simpa using c0
  by_cases c1 : y = 1
  · have c1b : (y == 1) = true := beq_iff_eq.mpr c1
    have hh := HH.out
    rw [if_neg c0, if_pos c1] at hh
    simp only [Option.some.injEq, Prod.mk.injEq] at hh
    obtain ⟨rfl, rfl, rfl, rfl⟩ := hh
    clear HH c0 c1
    go_wp2
    go_loopg [5, 6] 26 (fun kq v5 v6 w' => ∃ (u5 : Value) (x : Nat), u5 = v5 ∧ v6 = .int .i64 (x : Int) ∧ Aside0 (kq + x = 26) ∧ Aside0 (StA w0 w g c s (.slice Av s.length cv) g2 g4 u5 (d ++ fifty x) i3 h3 w'))
    case atStart => exact ⟨_, 0, rfl, rfl, ⟨rfl⟩, ⟨by simpa [fifty] using ST.out⟩⟩
    case round =>
      clear ST
      obtain ⟨u5, x, rfl, rfl, HG, ST⟩ := hrel
      by_cases c6 : (x : Int) < 26
      · have c6b := decide_eq_true c6
        go_wp2_with (first | ((with_reducible refine gate_dst (N := 31) rfl ?_); refine hold ?_))
        unfold Hold
        refine Kd.R_lit (Kd.int .i64) _ 3 ?hgl (N := 31) ?hdl (xs := ([50, (x : Int)] : List Int)) (inner := [.int .i64 50, .int .i64 (x : Int)]) (ok := fun _ => True) (okp := fun _ => True) ?hrl ?hpl (fun _ hk => hk) trivial (Below.refl _ _) (Nat.le_refl _) (by simp) ?_
        case hdl => rfl
        case hgl => rfl
        case hrl => first | (go_simp; done) | (go_simp; rfl)
        case hpl => exact (Reps.one (show Kd.M (Kd.int .i64) _ _ _ 50 [.int .i64 50] from rfl) (Reps.one (show Kd.M (Kd.int .i64) _ _ _ (x : Int) [.int .i64 (x : Int)] from rfl) (Reps.none _ _)))
        intro vl wl ho hb hg_ hnew_
        clear hg_ hnew_
        have OF := Aside0.mk (Kd.R_mono (Kd.R_lower (Kd.R_bound ho) ST.out.B.size) (ok' := fun k_ => wr.heap.size ≤ k_) (fun _ hk => hk.2.1))
        have OD := Aside0.mk (Kd.S_old ST.out.S hb)
        have OFW := Aside0.mk ST.out.K.1
        replace ST := Aside0.mk (ST.out.below hb)
        clear ho hb
        obtain ⟨Af, cf, rfl⟩ := Kd.R_slice OF.out
        go_wp2_with (first | ((with_reducible refine gate_builtin (b := .append) (xs := #[.tmp 29, .tmp 33]) rfl ?_); at_builtin; refine hold ?_))
        unfold Hold
        refine Kd.S_append k37 (w0 := w0) w0.heap.size rfl (.tmp 29) (.tmp 33) 31 37 (.agg #[(.int .i64 0), (.slice none 0 0)]) 32 rfl Try.underlying31 info37 rfl (by decide) (by omega) u5 (d ++ fifty x) (⟨(0 : Int), ([50, (x : Int)] : List Int)⟩ : S37) [.int .i64 (0 : Int), .slice Af ([50, (x : Int)] : List Int).length cf] (fun k_ => w.heap.size ≤ k_) (fun k_ => some k_ = (.slice Af ([50, (x : Int)] : List Int).length cf : Value).ownBlock) rfl rfl ?aP (fun k_ hk_ => ⟨Nat.le_trans (OFW.out) (OF.out.1 k_ hk_.symm), (Kd.R_apart' OF.out (Kd.S_typed OD.out) (by decide)).1 k_ hk_.symm |>.2⟩) ?aF ?aO ?aB ?aS ?aL ?_
        case aP => exact k37_mkM _ _ _ (⟨(0 : Int), ([50, (x : Int)] : List Int)⟩ : S37) (Kd.R_lower (Kd.R_tight rfl OF.out) (Nat.le_refl _))
        case aF => exact fun _ hk_ => Nat.le_trans ST.out.K.1 hk_
        case aO => exact Kd.S_mono OD.out (fun k_ hk => ⟨hk.1, fun e_ => by have := OF.out.1 k_ e_.symm; have := hk.2; omega⟩)
        case aB => exact ST.out.B
        case aS => exact ST.out.B.size
        case aL => have := HL.out; have := HG.out; rw [List.length_append, fifty_len]; omega
        intro v2 w9 ho hb hg hat
        replace ST := Aside0.mk (ST.out.grown ho hb hg)
        clear ho hb hg hat OD OF OFW
        have E : wrap64 ((x : Int) + 1) = ((x + 1 : Nat) : Int) := by unfold wrap64; omega
        have E1 := Aside0.mk E
        clear E
        go_wp2
        go_roundg (gk - 1)
        case measure => have := HG.out; omega
        case rel => exact ⟨_, x + 1, rfl, congrArg (Value.int .i64) (by omega), ⟨by have := HG.out; omega⟩, ⟨by have h_ := ST.out; rw [List.append_assoc] at h_; exact h_⟩⟩
      · have c6b := decide_eq_false c6
        have hx : x = 26 := by have := HG.out; omega
        subst hx
        have hx4 : wr.cell? ⟨g4, 0, none⟩ = some (.slice Av s.length cv) := (blk_cell ST.out.b4 0).trans rfl
        have hx2 : wr.cell? ⟨g2, 0, none⟩ = some (.slice none 0 0) := (blk_cell ST.out.b2 0).trans rfl
        have hf2 := blk_frozen ST.out.b2 0
        go_wp2_with (first | ((with_reducible refine gate_store (t := 34) (p := 2) rfl ?_); refine hold ?_))
        unfold Hold
        refine store_event (t := 34) (p := 2) (v := ?vo2) (w1 := wr.setCell ⟨g2, 0, none⟩ (.slice Av s.length cv)) ?hgs2 ?hos2 ?hns2 ?hrs2 ?_
        case hos2 => rfl
        case hgs2 => rfl
        case hns2 => rfl
        case hrs2 => first | (go_simp; done) | (go_simp; rfl)
        intro wz hw
        have Z2 : Aside0 (wz.heap[g2]? = some (.cells #[.slice Av s.length cv] 34 (0, 0))) := ⟨by rw [hw]; exact blk_put ST.out.b2 0 _ rfl⟩
        have ZR : Aside0 (Kd.R (Kd.int .i64) 3 wz w0.heap.size (fun _ => True) (.slice Av s.length cv) s) := ⟨by rw [hw]; exact Kd.R_set ST.out.R ST.out.b2 (by decide) 0 _⟩
        have ZS := Aside0.mk (Kd.S_set ST.out.S ST.out.b2 (by decide) 0 (.slice Av s.length cv))
        rw [← hw] at ZS
        have ZI := Aside0.mk (IsS139.far ST.out.I (IsS139.ne_blk ST.out.I ST.out.b2 (by decide) : g ≠ (⟨g2, 0, none⟩ : Addr).block) (.slice Av s.length cv))
        rw [← hw] at ZI
        have ZB : Aside0 (Below w0.heap.size w0 wz) := ⟨by rw [hw]; exact below_set ST.out.B ST.out.e2⟩
        have ZK : Aside0 (KeepBut w wz g none) := ⟨by rw [hw]; exact keep_far ST.out.K ST.out.e2w _⟩
        clear hw hx4 hx2 hf2 ST
        go_wp2
        refine bodyPost_ret (results_list (rs := [.cell 2 34, .tmp 3]) rfl (by simp) (.cell g2 34 #[.slice Av s.length cv] (0, 0) _ rfl Z2.out Try.underlying34 rfl (by kernel_rfl) (.tmp .nil))) rfl ?_
        exact ⟨_, _, rfl, ZR.out, ZS.out, ZI.out, ZB.out, ZK.out⟩
  have c1b : (y == 1) = false := by simpa using c1
  have hh := HH.out
  rw [if_neg c0, if_neg c1] at hh
  simp only [Option.some.injEq, Prod.mk.injEq] at hh
  obtain ⟨rfl, rfl, rfl, rfl⟩ := hh
  clear HH c0 c1
  have hx4 : w7.cell? ⟨g4, 0, none⟩ = some (.slice Av s.length cv) := (blk_cell ST.out.b4 0).trans rfl
  have hx2 : w7.cell? ⟨g2, 0, none⟩ = some (.slice none 0 0) := (blk_cell ST.out.b2 0).trans rfl
  have hf2 := blk_frozen ST.out.b2 0
  go_wp2_with (first | ((with_reducible refine gate_store (t := 34) (p := 2) rfl ?_); refine hold ?_))
  unfold Hold
  refine store_event (t := 34) (p := 2) (v := ?vo2) (w1 := w7.setCell ⟨g2, 0, none⟩ (.slice Av s.length cv)) ?hgs2 ?hos2 ?hns2 ?hrs2 ?_
  case hos2 => rfl
  case hgs2 => rfl
  case hns2 => rfl
  case hrs2 => first | (go_simp; done) | (go_simp; rfl)
  intro wz hw
  have Z2 : Aside0 (wz.heap[g2]? = some (.cells #[.slice Av s.length cv] 34 (0, 0))) := ⟨by rw [hw]; exact blk_put ST.out.b2 0 _ rfl⟩
  have ZR : Aside0 (Kd.R (Kd.int .i64) 3 wz w0.heap.size (fun _ => True) (.slice Av s.length cv) s) := ⟨by rw [hw]; exact Kd.R_set ST.out.R ST.out.b2 (by decide) 0 _⟩
  have ZS := Aside0.mk (Kd.S_set ST.out.S ST.out.b2 (by decide) 0 (.slice Av s.length cv))
  rw [← hw] at ZS
  have ZI := Aside0.mk (IsS139.far ST.out.I (IsS139.ne_blk ST.out.I ST.out.b2 (by decide) : g ≠ (⟨g2, 0, none⟩ : Addr).block) (.slice Av s.length cv))
  rw [← hw] at ZI
  have ZB : Aside0 (Below w0.heap.size w0 wz) := ⟨by rw [hw]; exact below_set ST.out.B ST.out.e2⟩
  have ZK : Aside0 (KeepBut w wz g none) := ⟨by rw [hw]; exact keep_far ST.out.K ST.out.e2w _⟩
  clear hw hx4 hx2 hf2 ST
  go_wp2
  refine bodyPost_ret (results_list (rs := [.cell 2 34, .tmp 3]) rfl (by simp) (.cell g2 34 #[.slice Av s.length cv] (0, 0) _ rfl Z2.out Try.underlying34 rfl (by kernel_rfl) (.tmp .nil))) rfl ?_
  exact ⟨_, _, rfl, ZR.out, ZS.out, ZI.out, ZB.out, ZK.out⟩
structure StD (w0 : World) (g : Nat) (c s : List Int) (v0 : Value) (g2 g4 g6 : Nat) (v1 : Value) (d : List S37) (i h : Int) (W : World) : Prop where
  I : IsS139 w0 W g c i h
  B : Below w0.heap.size w0 W
  R : Kd.R (Kd.int .i64) 3 W w0.heap.size (fun _ => True) v0 s
  S : Kd.S k37 37 W w0.heap.size (fun k => k ≠ g4) v1 d
  b2 : W.heap[g2]? = some (.cells #[.slice none 0 0] 34 (0, 0))
  b4 : W.heap[g4]? = some (.cells #[.int .i64 0, .slice none 0 0] 37 (0, 0))
  b6 : W.heap[g6]? = some (.cells #[v0] 34 (0, 0))
  e2 : w0.heap.size ≤ g2
  e4 : w0.heap.size ≤ g4
  n26 : g2 ≠ g6
theorem StD.below {w0 W W1 : World} {g g2 g4 g6 : Nat} {c s : List Int} {v0 v1 : Value} {d : List S37} {i h : Int} (st : StD w0 g c s v0 g2 g4 g6 v1 d i h W) (hb : Below W.heap.size W W1) : StD w0 g c s v0 g2 g4 g6 v1 d i h W1 :=
  ⟨st.I.below hb, below_step st.B hb, Kd.R_below st.R hb, Kd.S_below st.S hb, blk_below st.b2 hb, blk_below st.b4 hb, blk_below st.b6 hb, st.e2, st.e4, st.n26⟩
theorem StD.keep {w0 W W1 : World} {g g2 g4 g6 : Nat} {c s : List Int} {v0 v1 : Value} {d : List S37} {i h i' h' : Int} (st : StD w0 g c s v0 g2 g4 g6 v1 d i h W) (hi : IsS139 w0 W1 g c i' h') (hb : Below w0.heap.size w0 W1) (hk : KeepBut W W1 g none) : StD w0 g c s v0 g2 g4 g6 v1 d i' h' W1 :=
  ⟨hi, hb, Kd.R_mono (Kd.R_keep (st.I.apart st.R (by decide)) hk (fun _ h => h.2)) (fun _ h => h.1), Kd.S_mono (Kd.S_keep (st.I.apartS st.S (by decide)) hk (fun _ h => h.2)) (fun _ h => h.1),
    KeepBut.blk hk st.b2 (Ne.symm (st.I.ne_blk st.b2 (by decide))) (by simp), KeepBut.blk hk st.b4 (Ne.symm (st.I.ne_blk st.b4 (by decide))) (by simp), KeepBut.blk hk st.b6 (Ne.symm (st.I.ne_blk st.b6 (by decide))) (by simp), st.e2, st.e4, st.n26⟩
def l5Draw_f (k : Nat) (l0 : List Int) : Option (List Int × List S37 × Int × List Int) :=
  (spec_l1New.f k l0).bind fun n => (l5Any_f k n.1 n.2.1 n.2.2).bind fun a =>
    if 0 < (a.2.1.length : Int) then (spec_l1Once.f n.1 a.2.2.1 a.2.2.2 2).bind fun o =>
      if o.1 = true then (spec_l1Below.f n.1 o.2.1 o.2.2 (a.2.1.length : Int)).bind fun q => if 0 ≤ q.1 ∧ q.1 < (a.2.1.length : Int) then (spec_l5Copy.f (a.2.1.getD q.1.toNat z37).f0 (a.2.1.getD q.1.toNat z37).f1).bind fun x => some (a.1, a.2.1, x.1, x.2) else none
      else (spec_l5AnyFact.f k n.1 o.2.1 o.2.2 a.1).bind fun f => some (a.1, a.2.1, f.1, f.2.1)
    else (spec_l5AnyFact.f k n.1 a.2.2.1 a.2.2.2 a.1).bind fun f => some (a.1, a.2.1, f.1, f.2.1)
set_option maxHeartbeats 8000000 in
set_option maxRecDepth 100000 in
theorem l5Draw_walk (k : Nat) (A0 : Option Addr) (c0 : Nat) (l0 : List Int) (r1 : List Int) (r2 : List S37) (r3 : Int) (r4 : List Int) (w : World) (hr0 : Kd.C (Kd.int .u8) w A0 l0.length l0) (hc0 : l0.length ≤ c0) (hh : l5Draw_f k l0 = some (r1, r2, r3, r4)) :
    Calls Try.prog 57 #[.slice A0 l0.length c0] w fun e w' => ∃ v0 v1 v2 : Value, e = .returned (.tuple #[.agg #[v0], v1, .agg #[.int .i64 r3, v2]]) ∧ Kd.R (Kd.int .i64) 3 w' w.heap.size (fun _ => True) v0 r1 ∧ Kd.S k37 37 w' w.heap.size (fun _ => True) v1 r2 ∧ Kd.R (Kd.int .i64) 3 w' w.heap.size (fun _ => True) v2 r4 ∧ Below w.heap.size w w' := by
  have huS := Try.underlying34
  have huF := Try.underlying37
  unfold l5Draw_f at hh
  obtain ⟨⟨c, i1, h1⟩, a1, hh⟩ := Option.bind_eq_some_iff.1 hh
  try dsimp only at hh
  obtain ⟨⟨s, d, i2, h2⟩, a2, hh⟩ := Option.bind_eq_some_iff.1 hh
  try dsimp only at hh
  have A1 := Aside0.mk a1
  have A2 := Aside0.mk a2
  have HH := Aside0.mk hh
  have HR := Aside0.mk hr0
  have HC := Aside0.mk hc0
  have HB := Aside0.mk (Below.refl w.heap.size w)
  clear a1 a2 hh hr0 hc0
  go_enter Try.func57, Try.ntmps57
  go_wp2_with (first | ((with_reducible refine gate_dst (N := 2) rfl ?_); refine hold ?_))
  unfold Hold
  refine box_event ?hgg2 (N := 2) ?hdg2 (cs := #[.slice none 0 0]) (t := 34) ?hrg2 ?_
  case hdg2 => rfl
  case hgg2 => rfl
  case hrg2 => first | (go_simp; done) | (go_simp; rfl)
  intro g2 hg w1 hbox hb
  have Bg2 := Aside0.mk hbox
  have Eg2 := Aside0.mk (show w.heap.size ≤ g2 by rw [hg]; exact HB.out.size)
  replace HB := Aside0.mk (below_step HB.out hb)
  clear hbox hb hg
  go_wp2_with (first | ((with_reducible refine gate_dst (N := 4) rfl ?_); refine hold ?_))
  unfold Hold
  refine box_event ?hgg4 (N := 4) ?hdg4 (cs := #[.int .i64 0, .slice none 0 0]) (t := 37) ?hrg4 ?_
  case hdg4 => rfl
  case hgg4 => rfl
  case hrg4 => first | (go_simp; done) | (go_simp; rfl)
  intro g4 hg w2 hbox hb
  have Bg4 := Aside0.mk hbox
  have Eg4 := Aside0.mk (show w.heap.size ≤ g4 by rw [hg]; exact HB.out.size)
  replace Bg2 := Aside0.mk (blk_below Bg2.out hb)
  replace HB := Aside0.mk (below_step HB.out hb)
  clear hbox hb hg
  go_wp2_with (first | (go_at_call 86; refine hold ?_))
  unfold Hold
  refine (spec_l1New.calls k A0 c0 l0 c i1 h1 w _ HB.out HR.out HC.out A1.out).mono ?_
  rintro e w3 ⟨g, rfl, hi, hb, hb2⟩
  have HI := Aside0.mk hi
  replace Bg2 := Aside0.mk (blk_below Bg2.out hb2)
  replace Bg4 := Aside0.mk (blk_below Bg4.out hb2)
  replace HB := Aside0.mk hb
  clear hi hb hb2 A1
  go_wp2_with (first | (go_at_call 87; refine hold ?_))
  unfold Hold
  refine (l5Any_walk k g c i1 h1 s d i2 h2 w w3 HI.out HB.out A2.out).mono ?_
  rintro e w4 ⟨v0, v1, rfl, hr, hs, hi, hb, hk⟩
  have N4 := Aside0.mk (blk_lt Bg4.out)
  have RT := Aside0.mk hr
  have SD := Aside0.mk (Kd.S_mono hs (ok' := fun k_ => k_ ≠ g4) (fun k_ hk_ he_ => by have := N4.out; rw [he_] at hk_; omega))
  replace Bg2 := Aside0.mk (KeepBut.blk hk Bg2.out (Ne.symm (IsS139.ne_blk HI.out Bg2.out (by decide))) (by simp))
  replace Bg4 := Aside0.mk (KeepBut.blk hk Bg4.out (Ne.symm (IsS139.ne_blk HI.out Bg4.out (by decide))) (by simp))
  replace HI := Aside0.mk hi
  replace HB := Aside0.mk hb
  clear hr hs hi hb hk A2 N4
  obtain ⟨Av, cv, rfl⟩ := Kd.R_slice RT.out
  go_wp2_with (first | ((with_reducible refine gate_dst (N := 6) rfl ?_); refine hold ?_))
  unfold Hold
  refine box_event ?hgg6 (N := 6) ?hdg6 (cs := #[.slice none 0 0]) (t := 34) ?hrg6 ?_
  case hdg6 => rfl
  case hgg6 => rfl
  case hrg6 => first | (go_simp; done) | (go_simp; rfl)
  intro g6 hg w5 hbox hb
  have Bg6 := Aside0.mk hbox
  have Eg6 := Aside0.mk (show w.heap.size ≤ g6 by rw [hg]; exact HB.out.size)
  have N26 := Aside0.mk (show g2 ≠ g6 by rw [hg]; exact Nat.ne_of_lt (blk_lt Bg2.out))
  replace Bg2 := Aside0.mk (blk_below Bg2.out hb)
  replace Bg4 := Aside0.mk (blk_below Bg4.out hb)
  have N46 := Aside0.mk (blk_ne Bg4.out Bg6.out (by decide))
  replace RT := Aside0.mk (Kd.R_below RT.out hb)
  replace SD := Aside0.mk (Kd.S_below SD.out hb)
  replace HI := Aside0.mk (IsS139.below HI.out hb)
  replace HB := Aside0.mk (below_step HB.out hb)
  clear hbox hb hg
  have N6 := Aside0.mk (IsS139.ne_blk HI.out Bg6.out (by decide))
  have hc6 : w5.cell? ⟨g6, 0, none⟩ = some (.slice none 0 0) := (blk_cell Bg6.out 0).trans rfl
  have hf6 := blk_frozen Bg6.out 0
  go_wp2_with (first | ((with_reducible refine gate_store (t := 34) (p := 6) rfl ?_); refine hold ?_))
  unfold Hold
  refine store_event (t := 34) (p := 6) (v := ?vo6) (w1 := w5.setCell ⟨g6, 0, none⟩ (.slice Av s.length cv)) ?hgs6 ?hos6 ?hns6 ?hrs6 ?_
  case hos6 => rfl
  case hgs6 => rfl
  case hns6 => rfl
  case hrs6 => first | (go_simp; done) | (go_simp; rfl)
  intro w6 hw
  have ST : Aside0 (StD w g c s (.slice Av s.length cv) g2 g4 g6 v1 d i2 h2 w6) := ⟨by rw [hw]; exact ⟨IsS139.far HI.out N6.out _, below_set HB.out Eg6.out, Kd.R_set RT.out Bg6.out (by decide) 0 _, Kd.S_set SD.out Bg6.out (by decide) 0 _, blk_far Bg2.out N26.out _, blk_far Bg4.out N46.out _, blk_put Bg6.out 0 _ rfl, Eg2.out, Eg4.out, N26.out⟩⟩
  clear HI HB RT SD Bg2 Bg4 Bg6 N6 N26 N46 Eg2 Eg4 Eg6 hc6 hf6 hw
  obtain ⟨Dv, dv, rfl⟩ := Kd.S_slice ST.out.S
  by_cases c0 : 0 < (d.length : Int)
  rotate_left
  · have c0b : decide (0 < (d.length : Int)) = false := decide_eq_false c0
    have c0n : decide ((d.length : Int) > 0) = false := decide_eq_false c0
    have HX := HH.out
    rw [if_neg c0] at HX
    obtain ⟨⟨fr, fl, i9, h9⟩, a9, hh⟩ := Option.bind_eq_some_iff.1 HX
    try dsimp only at hh
    have A9 := Aside0.mk a9
    simp only [Option.some.injEq, Prod.mk.injEq] at hh
    obtain ⟨rfl, rfl, rfl, rfl⟩ := hh
    clear HH HX a9
    try go_wp2
    have HDW := Aside0.mk (ST.out.below (below_drew (Below.refl _ _)))
    clear ST
    refine start_ (n := 8) (S := fun w' => w'.cell? ⟨g6, 0, none⟩ = some (.slice Av s.length cv)) (ds := []) #[yf,yf,yf,yf,yf,yf,yf,yf] (by kernel_rfl) rfl rfl ((blk_cell HDW.out.b6 0).trans rfl) (fun hHeld => ?_)
    generalize w6.drew = wd at HDW hHeld ⊢
    refine take_ (i := 0) (N := some 32) (v := ?_) (a' := ?_) #[yt,yf,yf,yf,yf,yf,yf,yf] rfl rfl (by kernel_rfl) (fun _ _ _ h => h) (Or.inl ⟨by rfl, ?_⟩) hHeld ?_ ?_
    rotate_left
    · rintro w' s0; go_simp; with_reducible rfl
    rotate_left
    · simp only [Act.put, zO, zEb, zFb, i64_w, i32_w]; rfl
    refine pure_ (i := 1) (N := some 33) (v := ?_) (a' := ?_) #[yt,yt,yf,yf,yf,yf,yf,yf] rfl rfl (by kernel_rfl) (fun _ _ _ h => h) (Or.inl ⟨by rfl, ?_⟩) ?_ ?_
    rotate_left
    · intro w'; go_simp; with_reducible rfl
    rotate_left
    · simp only [Act.put, zO, zEb, zFb, i64_w, i32_w]; rfl
    refine pure_ (i := 2) (N := some 34) (v := ?_) (a' := ?_) #[yt,yt,yt,yf,yf,yf,yf,yf] rfl rfl (by kernel_rfl) (fun _ _ _ h => h) (Or.inl ⟨by rfl, ?_⟩) ?_ ?_
    rotate_left
    · intro w'; go_simp; with_reducible rfl
    rotate_left
    · simp only [Act.put, zO, zEb, zFb, i64_w, i32_w]; rfl
    refine take_ (i := 3) (N := some 35) (v := ?_) (a' := ?_) #[yt,yt,yt,yt,yf,yf,yf,yf] rfl rfl (by kernel_rfl) (fun _ _ _ h => h) (Or.inl ⟨by rfl, ?_⟩) hHeld ?_ ?_
    rotate_left
    · rintro w' s0; go_simp; with_reducible rfl
    rotate_left
    · simp only [Act.put, zO, zEb, zFb, i64_w, i32_w]; rfl
    refine one_ (i := 4) (N := some 36) #[yt,yt,yt,yt,yt,yf,yf,yf] rfl rfl (by kernel_rfl) (by decide) (fun K hK => ?_)
    refine goes_ Try.func90 (by kernel_rfl) rfl #[.pointer (some ⟨g, 0, none⟩), .agg #[.slice Av s.length cv]] (by rfl) rfl rfl (by (try simp only [List.map_toArray, List.map_cons, List.map_nil]); first | done | rfl) ?_
    with_reducible refine (spec_l5AnyFact.calls k g c i2 h2 (fun _ => True) (.slice Av s.length cv) s fr fl i9 h9 w _ HDW.out.I HDW.out.B HDW.out.R A9.out).mono ?_
    rintro e we ⟨vf, rfl, hof, hi, hb, hkp⟩
    refine ⟨_, rfl, ?_⟩
    have hk : KeepBut wd we g none := ⟨hkp.1, fun i_ hi_ hg_ _ => hkp.2 i_ hi_ hg_⟩
    have OF := Aside0.mk (Kd.R_mono hof (ok' := fun _ => True) (fun _ _ => trivial))
    have ST := Aside0.mk (HDW.out.keep hi hb hk)
    clear hof hi hb hk hkp HDW
    obtain ⟨Af, cf, rfl⟩ := Kd.R_slice OF.out
    refine hK.out _ _ ((blk_cell ST.out.b6 0).trans rfl) (fun hHeld => ?_)
    clear hK K
    refine norm_ (a' := ?_) ?_ ?_
    rotate_left
    · show Act.put _ (some 36) _ = _; simp only [Act.put, zO, zEb, zFb, i64_w, i32_w]; rfl
    refine one_ (i := 5) (N := none) #[yt,yt,yt,yt,yt,yt,yf,yf] rfl rfl (by kernel_rfl) (by decide) (fun K hK => ?_)
    have hx2 : we.cell? ⟨g2, 0, none⟩ = some (.slice none 0 0) := (blk_cell ST.out.b2 0).trans rfl
    have hf2 := blk_frozen ST.out.b2 0
    refine skip_ (w1 := (we.setCell ⟨g2, 0, none⟩ (.slice Av s.length cv))) (by rfl) rfl ?_ ?_
    · go_simp; first | done | rfl
    clear hx2 hf2
    have Z2 := Aside0.mk (blk_put (cs' := #[.slice Av s.length cv]) ST.out.b2 0 (.slice Av s.length cv) rfl)
    have Z4 := Aside0.mk (blk_far ST.out.b4 (p := ⟨g2, 0, none⟩) (blk_ne ST.out.b4 ST.out.b2 (by decide)) (.slice Av s.length cv))
    have Z6 := Aside0.mk (blk_far ST.out.b6 (p := ⟨g2, 0, none⟩) (Ne.symm ST.out.n26) (.slice Av s.length cv))
    have ZR := Aside0.mk (Kd.R_set ST.out.R ST.out.b2 (by decide) 0 (.slice Av s.length cv))
    have ZS := Aside0.mk (Kd.S_set ST.out.S ST.out.b2 (by decide) 0 (.slice Av s.length cv))
    have ZF := Aside0.mk (Kd.R_set OF.out ST.out.b2 (by decide) 0 (.slice Av s.length cv))
    have ZB := Aside0.mk (below_set (j := 0) (v := .slice Av s.length cv) ST.out.B ST.out.e2)
    have ZE := Aside0.mk (show w.heap.size ≤ g4 ∧ g2 ≠ g4 from ⟨ST.out.e4, blk_ne ST.out.b2 ST.out.b4 (by decide)⟩)
    clear OF
    refine hK.out _ _ ((blk_cell Z6.out 0).trans rfl) (fun hHeld => ?_)
    clear hK K
    generalize hwz : (we.setCell ⟨g2, 0, none⟩ (.slice Av s.length cv)) = wz at Z2 Z4 Z6 ZR ZS ZF ZB  hHeld ⊢
    clear hwz ST
    refine pure_ (i := 6) (N := some 3) (v := ?_) (a' := ?_) #[yt,yt,yt,yt,yt,yt,yt,yf] rfl rfl (by kernel_rfl) (fun _ _ _ h => h) (Or.inl ⟨by rfl, ?_⟩) ?_ ?_
    rotate_left
    · intro w'; go_simp; with_reducible rfl
    rotate_left
    · simp only [Act.put, zO, zEb, zFb, i64_w, i32_w]; rfl
    refine one_ (i := 7) (N := none) #[yt,yt,yt,yt,yt,yt,yt,yt] rfl rfl (by kernel_rfl) (by decide) (fun K hK => ?_)
    have hx4 : wz.cell? ⟨g4, 0, none⟩ = some (.int .i64 0) := (blk_cell Z4.out 0).trans rfl
    have hx5 : wz.cell? ⟨g4, 1, none⟩ = some (.slice none 0 0) := (blk_cell Z4.out 1).trans rfl
    have hf4 := blk_frozen Z4.out 0
    have hf5 := blk_frozen Z4.out 1
    refine skip_ (w1 := ((wz.setCell ⟨g4, 0, none⟩ (.int .i64 fr)).setCell ⟨g4, 1, none⟩ (.slice Af fl.length cf))) (by rfl) rfl ?_ ?_
    · go_simp; first | done | rfl
    clear hx4 hx5 hf4 hf5
    have Y4a := blk_put (cs' := #[.int .i64 fr, .slice none 0 0]) Z4.out 0 (.int .i64 fr) rfl
    have Y4 := Aside0.mk (blk_put (cs' := #[.int .i64 fr, .slice Af fl.length cf]) Y4a 1 (.slice Af fl.length cf) rfl)
    have Y2 := Aside0.mk (blk_far (blk_far Z2.out (p := ⟨g4, 0, none⟩) ZE.out.2 (.int .i64 fr)) (p := ⟨g4, 1, none⟩) ZE.out.2 (.slice Af fl.length cf))
    have YR := Aside0.mk (Kd.R_set (Kd.R_set ZR.out Z4.out (by decide) 0 (.int .i64 fr)) Y4a (by decide) 1 (.slice Af fl.length cf))
    have YF := Aside0.mk (Kd.R_set (Kd.R_set ZF.out Z4.out (by decide) 0 (.int .i64 fr)) Y4a (by decide) 1 (.slice Af fl.length cf))
    have YS := Aside0.mk (Kd.S_far (Kd.S_far ZS.out (p := ⟨g4, 0, none⟩) (fun _ h_ => h_) (.int .i64 fr)) (p := ⟨g4, 1, none⟩) (fun _ h_ => h_) (.slice Af fl.length cf))
    have YB := Aside0.mk (below_set (j := 1) (v := .slice Af fl.length cf) (below_set (j := 0) (v := .int .i64 fr) ZB.out ZE.out.1) ZE.out.1)
    clear Y4a
    refine hK.out _ _ ((blk_cell (blk_far (blk_far Z6.out (p := ⟨g4, 0, none⟩) (blk_ne Z6.out Z4.out (by decide)) (.int .i64 fr)) (p := ⟨g4, 1, none⟩) (blk_ne Z6.out Z4.out (by decide)) (.slice Af fl.length cf)) 0).trans rfl) (fun hHeld => ?_)
    clear hK K
    generalize hwy : ((wz.setCell ⟨g4, 0, none⟩ (.int .i64 fr)).setCell ⟨g4, 1, none⟩ (.slice Af fl.length cf)) = wy at Y2 Y4 YR YS YF YB ⊢
    clear hwy Z2 Z4 Z6 ZR ZS ZF ZB ZE hHeld
    refine done_ (by kernel_rfl) ?_
    go_wp2
    refine bodyPost_ret (results_list (rs := [.cell 2 34, .tmp 3, .cell 4 37]) rfl (by simp) (.cell g2 34 #[.slice Av s.length cv] (0, 0) _ rfl Y2.out Try.underlying34 rfl (by kernel_rfl) (.tmp (.cell g4 37 #[.int .i64 fr, .slice Af fl.length cf] (0, 0) _ rfl Y4.out Try.underlying37 rfl (by kernel_rfl) .nil)))) rfl ?_
    exact ⟨_, _, _, rfl, YR.out, Kd.S_mono YS.out (fun _ _ => trivial), YF.out, YB.out⟩
  have c0b : decide (0 < (d.length : Int)) = true := decide_eq_true c0
  have c0n : decide ((d.length : Int) > 0) = true := decide_eq_true c0
  have hh := HH.out
  rw [if_pos c0] at hh
  obtain ⟨⟨o, i3, h3⟩, a3, hh⟩ := Option.bind_eq_some_iff.1 hh
  try dsimp only at hh
  have A3 := Aside0.mk a3
  replace HH := Aside0.mk hh
  clear a3 hh
  go_wp2_with (first | (go_at_call 88; refine hold ?_))
  unfold Hold
  refine (spec_l1Once.calls g c i2 h2 2 o i3 h3 w _ ST.out.I ST.out.B A3.out).mono ?_
  rintro e w7 ⟨rfl, hi, hb, hk⟩
  replace ST := Aside0.mk (ST.out.keep hi hb hk)
  clear hi hb hk A3
  cases o
  · skip
    have HX := HH.out
    rw [if_neg (by simp)] at HX
    obtain ⟨⟨fr, fl, i9, h9⟩, a9, hh⟩ := Option.bind_eq_some_iff.1 HX
    try dsimp only at hh
    have A9 := Aside0.mk a9
    simp only [Option.some.injEq, Prod.mk.injEq] at hh
    obtain ⟨rfl, rfl, rfl, rfl⟩ := hh
    clear HH HX a9
    try go_wp2
    have HDW := Aside0.mk (ST.out.below (below_drew (Below.refl _ _)))
    clear ST
    refine start_ (n := 8) (S := fun w' => w'.cell? ⟨g6, 0, none⟩ = some (.slice Av s.length cv)) (ds := []) #[yf,yf,yf,yf,yf,yf,yf,yf] (by kernel_rfl) rfl rfl ((blk_cell HDW.out.b6 0).trans rfl) (fun hHeld => ?_)
    generalize w7.drew = wd at HDW hHeld ⊢
    refine take_ (i := 0) (N := some 32) (v := ?_) (a' := ?_) #[yt,yf,yf,yf,yf,yf,yf,yf] rfl rfl (by kernel_rfl) (fun _ _ _ h => h) (Or.inl ⟨by rfl, ?_⟩) hHeld ?_ ?_
    rotate_left
    · rintro w' s0; go_simp; with_reducible rfl
    rotate_left
    · simp only [Act.put, zO, zEb, zFb, i64_w, i32_w]; rfl
    refine pure_ (i := 1) (N := some 33) (v := ?_) (a' := ?_) #[yt,yt,yf,yf,yf,yf,yf,yf] rfl rfl (by kernel_rfl) (fun _ _ _ h => h) (Or.inl ⟨by rfl, ?_⟩) ?_ ?_
    rotate_left
    · intro w'; go_simp; with_reducible rfl
    rotate_left
    · simp only [Act.put, zO, zEb, zFb, i64_w, i32_w]; rfl
    refine pure_ (i := 2) (N := some 34) (v := ?_) (a' := ?_) #[yt,yt,yt,yf,yf,yf,yf,yf] rfl rfl (by kernel_rfl) (fun _ _ _ h => h) (Or.inl ⟨by rfl, ?_⟩) ?_ ?_
    rotate_left
    · intro w'; go_simp; with_reducible rfl
    rotate_left
    · simp only [Act.put, zO, zEb, zFb, i64_w, i32_w]; rfl
    refine take_ (i := 3) (N := some 35) (v := ?_) (a' := ?_) #[yt,yt,yt,yt,yf,yf,yf,yf] rfl rfl (by kernel_rfl) (fun _ _ _ h => h) (Or.inl ⟨by rfl, ?_⟩) hHeld ?_ ?_
    rotate_left
    · rintro w' s0; go_simp; with_reducible rfl
    rotate_left
    · simp only [Act.put, zO, zEb, zFb, i64_w, i32_w]; rfl
    refine one_ (i := 4) (N := some 36) #[yt,yt,yt,yt,yt,yf,yf,yf] rfl rfl (by kernel_rfl) (by decide) (fun K hK => ?_)
    refine goes_ Try.func90 (by kernel_rfl) rfl #[.pointer (some ⟨g, 0, none⟩), .agg #[.slice Av s.length cv]] (by rfl) rfl rfl (by (try simp only [List.map_toArray, List.map_cons, List.map_nil]); first | done | rfl) ?_
    with_reducible refine (spec_l5AnyFact.calls k g c i3 h3 (fun _ => True) (.slice Av s.length cv) s fr fl i9 h9 w _ HDW.out.I HDW.out.B HDW.out.R A9.out).mono ?_
    rintro e we ⟨vf, rfl, hof, hi, hb, hkp⟩
    refine ⟨_, rfl, ?_⟩
    have hk : KeepBut wd we g none := ⟨hkp.1, fun i_ hi_ hg_ _ => hkp.2 i_ hi_ hg_⟩
    have OF := Aside0.mk (Kd.R_mono hof (ok' := fun _ => True) (fun _ _ => trivial))
    have ST := Aside0.mk (HDW.out.keep hi hb hk)
    clear hof hi hb hk hkp HDW
    obtain ⟨Af, cf, rfl⟩ := Kd.R_slice OF.out
    refine hK.out _ _ ((blk_cell ST.out.b6 0).trans rfl) (fun hHeld => ?_)
    clear hK K
    refine norm_ (a' := ?_) ?_ ?_
    rotate_left
    · show Act.put _ (some 36) _ = _; simp only [Act.put, zO, zEb, zFb, i64_w, i32_w]; rfl
    refine one_ (i := 5) (N := none) #[yt,yt,yt,yt,yt,yt,yf,yf] rfl rfl (by kernel_rfl) (by decide) (fun K hK => ?_)
    have hx2 : we.cell? ⟨g2, 0, none⟩ = some (.slice none 0 0) := (blk_cell ST.out.b2 0).trans rfl
    have hf2 := blk_frozen ST.out.b2 0
    refine skip_ (w1 := (we.setCell ⟨g2, 0, none⟩ (.slice Av s.length cv))) (by rfl) rfl ?_ ?_
    · go_simp; first | done | rfl
    clear hx2 hf2
    have Z2 := Aside0.mk (blk_put (cs' := #[.slice Av s.length cv]) ST.out.b2 0 (.slice Av s.length cv) rfl)
    have Z4 := Aside0.mk (blk_far ST.out.b4 (p := ⟨g2, 0, none⟩) (blk_ne ST.out.b4 ST.out.b2 (by decide)) (.slice Av s.length cv))
    have Z6 := Aside0.mk (blk_far ST.out.b6 (p := ⟨g2, 0, none⟩) (Ne.symm ST.out.n26) (.slice Av s.length cv))
    have ZR := Aside0.mk (Kd.R_set ST.out.R ST.out.b2 (by decide) 0 (.slice Av s.length cv))
    have ZS := Aside0.mk (Kd.S_set ST.out.S ST.out.b2 (by decide) 0 (.slice Av s.length cv))
    have ZF := Aside0.mk (Kd.R_set OF.out ST.out.b2 (by decide) 0 (.slice Av s.length cv))
    have ZB := Aside0.mk (below_set (j := 0) (v := .slice Av s.length cv) ST.out.B ST.out.e2)
    have ZE := Aside0.mk (show w.heap.size ≤ g4 ∧ g2 ≠ g4 from ⟨ST.out.e4, blk_ne ST.out.b2 ST.out.b4 (by decide)⟩)
    clear OF
    refine hK.out _ _ ((blk_cell Z6.out 0).trans rfl) (fun hHeld => ?_)
    clear hK K
    generalize hwz : (we.setCell ⟨g2, 0, none⟩ (.slice Av s.length cv)) = wz at Z2 Z4 Z6 ZR ZS ZF ZB  hHeld ⊢
    clear hwz ST
    refine pure_ (i := 6) (N := some 3) (v := ?_) (a' := ?_) #[yt,yt,yt,yt,yt,yt,yt,yf] rfl rfl (by kernel_rfl) (fun _ _ _ h => h) (Or.inl ⟨by rfl, ?_⟩) ?_ ?_
    rotate_left
    · intro w'; go_simp; with_reducible rfl
    rotate_left
    · simp only [Act.put, zO, zEb, zFb, i64_w, i32_w]; rfl
    refine one_ (i := 7) (N := none) #[yt,yt,yt,yt,yt,yt,yt,yt] rfl rfl (by kernel_rfl) (by decide) (fun K hK => ?_)
    have hx4 : wz.cell? ⟨g4, 0, none⟩ = some (.int .i64 0) := (blk_cell Z4.out 0).trans rfl
    have hx5 : wz.cell? ⟨g4, 1, none⟩ = some (.slice none 0 0) := (blk_cell Z4.out 1).trans rfl
    have hf4 := blk_frozen Z4.out 0
    have hf5 := blk_frozen Z4.out 1
    refine skip_ (w1 := ((wz.setCell ⟨g4, 0, none⟩ (.int .i64 fr)).setCell ⟨g4, 1, none⟩ (.slice Af fl.length cf))) (by rfl) rfl ?_ ?_
    · go_simp; first | done | rfl
    clear hx4 hx5 hf4 hf5
    have Y4a := blk_put (cs' := #[.int .i64 fr, .slice none 0 0]) Z4.out 0 (.int .i64 fr) rfl
    have Y4 := Aside0.mk (blk_put (cs' := #[.int .i64 fr, .slice Af fl.length cf]) Y4a 1 (.slice Af fl.length cf) rfl)
    have Y2 := Aside0.mk (blk_far (blk_far Z2.out (p := ⟨g4, 0, none⟩) ZE.out.2 (.int .i64 fr)) (p := ⟨g4, 1, none⟩) ZE.out.2 (.slice Af fl.length cf))
    have YR := Aside0.mk (Kd.R_set (Kd.R_set ZR.out Z4.out (by decide) 0 (.int .i64 fr)) Y4a (by decide) 1 (.slice Af fl.length cf))
    have YF := Aside0.mk (Kd.R_set (Kd.R_set ZF.out Z4.out (by decide) 0 (.int .i64 fr)) Y4a (by decide) 1 (.slice Af fl.length cf))
    have YS := Aside0.mk (Kd.S_far (Kd.S_far ZS.out (p := ⟨g4, 0, none⟩) (fun _ h_ => h_) (.int .i64 fr)) (p := ⟨g4, 1, none⟩) (fun _ h_ => h_) (.slice Af fl.length cf))
    have YB := Aside0.mk (below_set (j := 1) (v := .slice Af fl.length cf) (below_set (j := 0) (v := .int .i64 fr) ZB.out ZE.out.1) ZE.out.1)
    clear Y4a
    refine hK.out _ _ ((blk_cell (blk_far (blk_far Z6.out (p := ⟨g4, 0, none⟩) (blk_ne Z6.out Z4.out (by decide)) (.int .i64 fr)) (p := ⟨g4, 1, none⟩) (blk_ne Z6.out Z4.out (by decide)) (.slice Af fl.length cf)) 0).trans rfl) (fun hHeld => ?_)
    clear hK K
    generalize hwy : ((wz.setCell ⟨g4, 0, none⟩ (.int .i64 fr)).setCell ⟨g4, 1, none⟩ (.slice Af fl.length cf)) = wy at Y2 Y4 YR YS YF YB ⊢
    clear hwy Z2 Z4 Z6 ZR ZS ZF ZB ZE hHeld
    refine done_ (by kernel_rfl) ?_
    go_wp2
    refine bodyPost_ret (results_list (rs := [.cell 2 34, .tmp 3, .cell 4 37]) rfl (by simp) (.cell g2 34 #[.slice Av s.length cv] (0, 0) _ rfl Y2.out Try.underlying34 rfl (by kernel_rfl) (.tmp (.cell g4 37 #[.int .i64 fr, .slice Af fl.length cf] (0, 0) _ rfl Y4.out Try.underlying37 rfl (by kernel_rfl) .nil)))) rfl ?_
    exact ⟨_, _, _, rfl, YR.out, Kd.S_mono YS.out (fun _ _ => trivial), YF.out, YB.out⟩
  have HX := HH.out
  rw [if_pos rfl] at HX
  obtain ⟨⟨q, i4, h4⟩, a4, hh⟩ := Option.bind_eq_some_iff.1 HX
  try dsimp only at hh
  by_cases cq : 0 ≤ q ∧ q < (d.length : Int)
  rotate_left
  · rw [if_neg cq] at hh; cases hh
  rw [if_pos cq] at hh
  obtain ⟨⟨fr, fl⟩, a9, hh⟩ := Option.bind_eq_some_iff.1 hh
  try dsimp only at hh
  obtain ⟨E, hE⟩ : ∃ E, d.getD q.toNat z37 = E := ⟨_, rfl⟩
  rw [hE] at a9
  have HE := Aside0.mk hE
  have A4 := Aside0.mk a4
  have A9 := Aside0.mk a9
  simp only [Option.some.injEq, Prod.mk.injEq] at hh
  obtain ⟨rfl, rfl, rfl, rfl⟩ := hh
  clear HH HX a4 a9 hE
  obtain ⟨p5, q5⟩ := cq
  have P5 := Aside0.mk p5
  have Q5 := Aside0.mk q5
  try go_wp2
  have HDW := Aside0.mk (ST.out.below (below_drew (Below.refl _ _)))
  clear ST
  obtain ⟨go, dv', eo, hge, hgl, cur, hcur⟩ := Kd.S_form HDW.out.S (by omega)
  injection eo with ea en ec
  subst ea
  subst ec
  clear en hge hgl
  have BG := Aside0.mk hcur
  obtain ⟨oki, ce, hcl, hM, hcc, hfr, hoki, hH⟩ := Kd.S_elem HDW.out.S z37 q p5 q5
  rw [HE.out] at hM
  obtain ⟨ve, rfl, ge⟩ := k37_openM hM
  obtain ⟨Ae, de, rfl⟩ := Kd.R_slice ge
  have CQ := Aside0.mk (show cur[q.toNat * 2]? = some (.int .i64 E.f0) ∧ cur[q.toNat * 2 + 1]? = some (.slice Ae E.f1.length de) from ⟨(blk_cell hcur _).symm.trans (hcc 0 _ rfl), (blk_cell hcur _).symm.trans (hcc 1 _ rfl)⟩)
  clear hcl hM hcc hfr hoki hH ge hcur oki
  refine start_ (n := 13) (S := fun w' => w'.cell? ⟨g6, 0, none⟩ = some (.slice Av s.length cv) ∧ w'.cell? ⟨go, q.toNat * 2, none⟩ = some (.int .i64 E.f0) ∧ w'.cell? ⟨go, q.toNat * 2 + 1, none⟩ = some (.slice Ae E.f1.length de)) (ds := []) #[yf,yf,yf,yf,yf,yf,yf,yf,yf,yf,yf,yf,yf] (by kernel_rfl) rfl rfl ⟨((blk_cell HDW.out.b6 0).trans rfl), (blk_cell BG.out _).trans CQ.out.1, (blk_cell BG.out _).trans CQ.out.2⟩ (fun hHeld => ?_)
  generalize w7.drew = wd at HDW BG hHeld ⊢
  refine take_ (i := 0) (N := some 22) (v := ?_) (a' := ?_) #[yt,yf,yf,yf,yf,yf,yf,yf,yf,yf,yf,yf,yf] rfl rfl (by kernel_rfl) (fun _ _ _ h => h) (Or.inl ⟨by rfl, ?_⟩) hHeld ?_ ?_
  rotate_left
  · rintro w' ⟨s0, s1, s2⟩; go_simp; with_reducible rfl
  rotate_left
  · simp only [Act.put, zO, zEb, zFb, i64_w, i32_w]; rfl
  refine pure_ (i := 1) (N := some 23) (v := ?_) (a' := ?_) #[yt,yt,yf,yf,yf,yf,yf,yf,yf,yf,yf,yf,yf] rfl rfl (by kernel_rfl) (fun _ _ _ h => h) (Or.inl ⟨by rfl, ?_⟩) ?_ ?_
  rotate_left
  · intro w'; go_simp; with_reducible rfl
  rotate_left
  · simp only [Act.put, zO, zEb, zFb, i64_w, i32_w]; rfl
  refine pure_ (i := 2) (N := some 24) (v := ?_) (a' := ?_) #[yt,yt,yt,yf,yf,yf,yf,yf,yf,yf,yf,yf,yf] rfl rfl (by kernel_rfl) (fun _ _ _ h => h) (Or.inl ⟨by rfl, ?_⟩) ?_ ?_
  rotate_left
  · intro w'; go_simp; with_reducible rfl
  rotate_left
  · simp only [Act.put, zO, zEb, zFb, i64_w, i32_w]; rfl
  refine pure_ (i := 3) (N := some 25) (v := ?_) (a' := ?_) #[yt,yt,yt,yt,yf,yf,yf,yf,yf,yf,yf,yf,yf] rfl rfl (by kernel_rfl) (fun _ _ _ h => h) (Or.inl ⟨by rfl, ?_⟩) ?_ ?_
  rotate_left
  · intro w'; go_simp; with_reducible rfl
  rotate_left
  · simp only [Act.put, zO, zEb, zFb, i64_w, i32_w]; rfl
  refine pure_ (i := 4) (N := some 26) (v := ?_) (a' := ?_) #[yt,yt,yt,yt,yt,yf,yf,yf,yf,yf,yf,yf,yf] rfl rfl (by kernel_rfl) (fun _ _ _ h => h) (Or.inl ⟨by rfl, ?_⟩) ?_ ?_
  rotate_left
  · intro w'; go_simp; with_reducible rfl
  rotate_left
  · simp only [Act.put, zO, zEb, zFb, i64_w, i32_w]; rfl
  refine pure_ (i := 5) (N := some 27) (v := ?_) (a' := ?_) #[yt,yt,yt,yt,yt,yt,yf,yf,yf,yf,yf,yf,yf] rfl rfl (by kernel_rfl) (fun _ _ _ h => h) (Or.inl ⟨by rfl, ?_⟩) ?_ ?_
  rotate_left
  · intro w'; go_simp; with_reducible rfl
  rotate_left
  · simp only [Act.put, zO, zEb, zFb, i64_w, i32_w]; rfl
  refine one_ (i := 6) (N := some 28) #[yt,yt,yt,yt,yt,yt,yt,yf,yf,yf,yf,yf,yf] rfl rfl (by kernel_rfl) (by decide) (fun K hK => ?_)
  refine goes_ Try.func89 (by kernel_rfl) rfl #[.pointer (some ⟨g, 0, none⟩), .int .i64 (d.length : Int)] (by rfl) rfl rfl (by (try simp only [List.map_toArray, List.map_cons, List.map_nil]); first | done | rfl) ?_
  with_reducible refine (spec_l1Below.calls g c i3 h3 (d.length : Int) q i4 h4 w _ HDW.out.I HDW.out.B A4.out).mono ?_
  rintro e we ⟨rfl, hi, hb, hk⟩
  refine ⟨_, rfl, ?_⟩
  replace BG := Aside0.mk (KeepBut.blk hk BG.out (Ne.symm (IsS139.ne_blk HDW.out.I BG.out (by decide))) (by simp))
  have ST := Aside0.mk (HDW.out.keep hi hb hk)
  clear hi hb hk HDW
  refine hK.out _ _ ⟨((blk_cell ST.out.b6 0).trans rfl), (blk_cell BG.out _).trans CQ.out.1, (blk_cell BG.out _).trans CQ.out.2⟩ (fun hHeld => ?_)
  clear hK K
  refine norm_ (a' := ?_) ?_ ?_
  rotate_left
  · show Act.put _ (some 28) _ = _; simp only [Act.put, zO, zEb, zFb, i64_w, i32_w]; rfl
  have p6 := eq_true p5
  have q6 := eq_true q5
  refine pure_ (i := 7) (N := some 29) (v := ?_) (a' := ?_) #[yt,yt,yt,yt,yt,yt,yt,yt,yf,yf,yf,yf,yf] rfl rfl (by kernel_rfl) (fun _ _ _ h => h) (Or.inl ⟨by rfl, ?_⟩) ?_ ?_
  rotate_left
  · intro w'; go_simp; with_reducible rfl
  rotate_left
  · simp only [Act.put, zO, zEb, zFb, i64_w, i32_w]; rfl
  refine take_ (i := 8) (N := some 30) (v := ?_) (a' := ?_) #[yt,yt,yt,yt,yt,yt,yt,yt,yt,yf,yf,yf,yf] rfl rfl (by kernel_rfl) (fun _ _ _ h => h) (Or.inl ⟨by rfl, ?_⟩) hHeld ?_ ?_
  rotate_left
  · rintro w' ⟨s0, s1, s2⟩; go_simp; with_reducible rfl
  rotate_left
  · simp only [Act.put, zO, zEb, zFb, i64_w, i32_w]; rfl
  obtain ⟨ok2, ce2, hcl2, hM2, hcc2, hfr2, hoki2, hH2⟩ := Kd.S_elem ST.out.S z37 q p5 q5
  rw [HE.out] at hM2
  obtain ⟨ve2, rfl, ge2⟩ := k37_openM hM2
  have ev := (hcc2 1 _ rfl).symm.trans ((blk_cell BG.out _).trans CQ.out.2)
  injection ev with ev
  subst ev
  have GE := Aside0.mk ge2
  clear hcl2 hM2 hcc2 hfr2 hoki2 hH2 ge2
  refine one_ (i := 9) (N := some 31) #[yt,yt,yt,yt,yt,yt,yt,yt,yt,yt,yf,yf,yf] rfl rfl (by kernel_rfl) (by decide) (fun K hK => ?_)
  refine goes_ Try.func64 (by kernel_rfl) rfl #[.agg #[.int .i64 E.f0, .slice Ae E.f1.length de]] (by rfl) rfl rfl (by (try simp only [List.map_toArray, List.map_cons, List.map_nil]); first | done | rfl) ?_
  with_reducible refine (spec_l5Copy.calls E.f0 Ae de E.f1 fr fl _ (Kd.R_reads' GE.out).2.2 (Kd.R_reads' GE.out).2.1 A9.out).mono ?_
  rintro e wf ⟨vf, rfl, ho, hb⟩
  refine ⟨_, rfl, ?_⟩
  have OF := Aside0.mk (Kd.R_mono (Kd.R_lower ho ST.out.B.size) (ok' := fun _ => True) (fun _ _ => trivial))
  replace ST := Aside0.mk (ST.out.below hb)
  replace BG := Aside0.mk (blk_below BG.out hb)
  clear ho hb GE
  obtain ⟨Af, cf, rfl⟩ := Kd.R_slice OF.out
  refine hK.out _ _ ⟨((blk_cell ST.out.b6 0).trans rfl), (blk_cell BG.out _).trans CQ.out.1, (blk_cell BG.out _).trans CQ.out.2⟩ (fun hHeld => ?_)
  clear hK K
  refine norm_ (a' := ?_) ?_ ?_
  rotate_left
  · show Act.put _ (some 31) _ = _; simp only [Act.put, zO, zEb, zFb, i64_w, i32_w]; rfl
  refine one_ (i := 10) (N := none) #[yt,yt,yt,yt,yt,yt,yt,yt,yt,yt,yt,yf,yf] rfl rfl (by kernel_rfl) (by decide) (fun K hK => ?_)
  have hx2 : wf.cell? ⟨g2, 0, none⟩ = some (.slice none 0 0) := (blk_cell ST.out.b2 0).trans rfl
  have hf2 := blk_frozen ST.out.b2 0
  refine skip_ (w1 := (wf.setCell ⟨g2, 0, none⟩ (.slice Av s.length cv))) (by rfl) rfl ?_ ?_
  · go_simp; first | done | rfl
  clear hx2 hf2
  have Z2 := Aside0.mk (blk_put (cs' := #[.slice Av s.length cv]) ST.out.b2 0 (.slice Av s.length cv) rfl)
  have Z4 := Aside0.mk (blk_far ST.out.b4 (p := ⟨g2, 0, none⟩) (blk_ne ST.out.b4 ST.out.b2 (by decide)) (.slice Av s.length cv))
  have Z6 := Aside0.mk (blk_far ST.out.b6 (p := ⟨g2, 0, none⟩) (Ne.symm ST.out.n26) (.slice Av s.length cv))
  have ZR := Aside0.mk (Kd.R_set ST.out.R ST.out.b2 (by decide) 0 (.slice Av s.length cv))
  have ZS := Aside0.mk (Kd.S_set ST.out.S ST.out.b2 (by decide) 0 (.slice Av s.length cv))
  have ZF := Aside0.mk (Kd.R_set OF.out ST.out.b2 (by decide) 0 (.slice Av s.length cv))
  have ZB := Aside0.mk (below_set (j := 0) (v := .slice Av s.length cv) ST.out.B ST.out.e2)
  have ZE := Aside0.mk (show w.heap.size ≤ g4 ∧ g2 ≠ g4 from ⟨ST.out.e4, blk_ne ST.out.b2 ST.out.b4 (by decide)⟩)
  clear OF
  have ZG := Aside0.mk (blk_far BG.out (p := ⟨g2, 0, none⟩) (blk_ne BG.out ST.out.b2 (by decide)) (.slice Av s.length cv))
  have ZN := Aside0.mk (show go ≠ g4 from (Kd.S_R ST.out.S).1 go rfl)
  clear BG
  refine hK.out _ _ ⟨((blk_cell Z6.out 0).trans rfl), (blk_cell ZG.out _).trans CQ.out.1, (blk_cell ZG.out _).trans CQ.out.2⟩ (fun hHeld => ?_)
  clear hK K
  generalize hwz : (wf.setCell ⟨g2, 0, none⟩ (.slice Av s.length cv)) = wz at Z2 Z4 Z6 ZR ZS ZF ZB ZG hHeld ⊢
  clear hwz ST
  refine pure_ (i := 11) (N := some 3) (v := ?_) (a' := ?_) #[yt,yt,yt,yt,yt,yt,yt,yt,yt,yt,yt,yt,yf] rfl rfl (by kernel_rfl) (fun _ _ _ h => h) (Or.inl ⟨by rfl, ?_⟩) ?_ ?_
  rotate_left
  · intro w'; go_simp; with_reducible rfl
  rotate_left
  · simp only [Act.put, zO, zEb, zFb, i64_w, i32_w]; rfl
  refine one_ (i := 12) (N := none) #[yt,yt,yt,yt,yt,yt,yt,yt,yt,yt,yt,yt,yt] rfl rfl (by kernel_rfl) (by decide) (fun K hK => ?_)
  have hx4 : wz.cell? ⟨g4, 0, none⟩ = some (.int .i64 0) := (blk_cell Z4.out 0).trans rfl
  have hx5 : wz.cell? ⟨g4, 1, none⟩ = some (.slice none 0 0) := (blk_cell Z4.out 1).trans rfl
  have hf4 := blk_frozen Z4.out 0
  have hf5 := blk_frozen Z4.out 1
  refine skip_ (w1 := ((wz.setCell ⟨g4, 0, none⟩ (.int .i64 fr)).setCell ⟨g4, 1, none⟩ (.slice Af fl.length cf))) (by rfl) rfl ?_ ?_
  · go_simp; first | done | rfl
  clear hx4 hx5 hf4 hf5
  have Y4a := blk_put (cs' := #[.int .i64 fr, .slice none 0 0]) Z4.out 0 (.int .i64 fr) rfl
  have Y4 := Aside0.mk (blk_put (cs' := #[.int .i64 fr, .slice Af fl.length cf]) Y4a 1 (.slice Af fl.length cf) rfl)
  have Y2 := Aside0.mk (blk_far (blk_far Z2.out (p := ⟨g4, 0, none⟩) ZE.out.2 (.int .i64 fr)) (p := ⟨g4, 1, none⟩) ZE.out.2 (.slice Af fl.length cf))
  have YR := Aside0.mk (Kd.R_set (Kd.R_set ZR.out Z4.out (by decide) 0 (.int .i64 fr)) Y4a (by decide) 1 (.slice Af fl.length cf))
  have YF := Aside0.mk (Kd.R_set (Kd.R_set ZF.out Z4.out (by decide) 0 (.int .i64 fr)) Y4a (by decide) 1 (.slice Af fl.length cf))
  have YS := Aside0.mk (Kd.S_far (Kd.S_far ZS.out (p := ⟨g4, 0, none⟩) (fun _ h_ => h_) (.int .i64 fr)) (p := ⟨g4, 1, none⟩) (fun _ h_ => h_) (.slice Af fl.length cf))
  have YB := Aside0.mk (below_set (j := 1) (v := .slice Af fl.length cf) (below_set (j := 0) (v := .int .i64 fr) ZB.out ZE.out.1) ZE.out.1)
  clear Y4a
  refine hK.out _ _ ⟨((blk_cell (blk_far (blk_far Z6.out (p := ⟨g4, 0, none⟩) (blk_ne Z6.out Z4.out (by decide)) (.int .i64 fr)) (p := ⟨g4, 1, none⟩) (blk_ne Z6.out Z4.out (by decide)) (.slice Af fl.length cf)) 0).trans rfl), (blk_cell (blk_far (blk_far ZG.out (p := ⟨g4, 0, none⟩) ZN.out (.int .i64 fr)) (p := ⟨g4, 1, none⟩) ZN.out (.slice Af fl.length cf)) _).trans CQ.out.1, (blk_cell (blk_far (blk_far ZG.out (p := ⟨g4, 0, none⟩) ZN.out (.int .i64 fr)) (p := ⟨g4, 1, none⟩) ZN.out (.slice Af fl.length cf)) _).trans CQ.out.2⟩ (fun hHeld => ?_)
  clear hK K
  generalize hwy : ((wz.setCell ⟨g4, 0, none⟩ (.int .i64 fr)).setCell ⟨g4, 1, none⟩ (.slice Af fl.length cf)) = wy at Y2 Y4 YR YS YF YB ⊢
  clear hwy Z2 Z4 Z6 ZR ZS ZF ZB ZE hHeld
  refine done_ (by kernel_rfl) ?_
  go_wp2
  refine bodyPost_ret (results_list (rs := [.cell 2 34, .tmp 3, .cell 4 37]) rfl (by simp) (.cell g2 34 #[.slice Av s.length cv] (0, 0) _ rfl Y2.out Try.underlying34 rfl (by kernel_rfl) (.tmp (.cell g4 37 #[.int .i64 fr, .slice Af fl.length cf] (0, 0) _ rfl Y4.out Try.underlying37 rfl (by kernel_rfl) .nil)))) rfl ?_
  exact ⟨_, _, _, rfl, YR.out, Kd.S_mono YS.out (fun _ _ => trivial), YF.out, YB.out⟩
set_option maxHeartbeats 8000000 in
set_option maxRecDepth 100000 in
theorem spec_DrawAddFact_calls (k : Nat) (A0 : Option Addr) (c0 : Nat) (l0 : List Int) (r1 : List Int) (r2 : List (S37)) (r3 : Int) (r4 : List Int) (w : World) (hr0 : Kd.C (Kd.int .u8) w A0 l0.length l0) (hc0 : l0.length ≤ c0) (h : l5Draw_f k l0 = some (r1, r2, r3, r4)) :
    Calls Try.prog 23 #[.slice A0 l0.length c0] w fun e w' => ∃ v0_ v1_ v2_ : Value, e = .returned (.tuple #[.agg #[v0_], v1_, .agg #[.int .i64 r3, v2_]]) ∧ Kd.R (Kd.int .i64) 3 w' w.heap.size (fun _ => True) v0_ r1 ∧ Kd.S k37 37 w' w.heap.size (fun _ => True) v1_ r2 ∧ Kd.R (Kd.int .i64) 3 w' w.heap.size (fun _ => True) v2_ r4 ∧ Below w.heap.size w w' := by
  have huS := Try.underlying34
  have huF := Try.underlying37
  have HR := Aside0.mk hr0
  have HC := Aside0.mk hc0
  have HH := Aside0.mk h
  have HB := Aside0.mk (Below.refl w.heap.size w)
  clear hr0 hc0 h
  go_enter Try.func23, Try.ntmps23
  go_wp2_with (first | ((with_reducible refine gate_dst (N := 2) rfl ?_); refine hold ?_))
  unfold Hold
  refine box_event ?hgg2 (N := 2) ?hdg2 (cs := #[.slice none 0 0]) (t := 34) ?hrg2 ?_
  case hdg2 => rfl
  case hgg2 => rfl
  case hrg2 => first | (go_simp; done) | (go_simp; rfl)
  intro g2 hg w1 hbox hb
  have Bg2 := Aside0.mk hbox
  have Eg2 := Aside0.mk (show w.heap.size ≤ g2 by rw [hg]; exact HB.out.size)
  replace HB := Aside0.mk (below_step HB.out hb)
  clear hbox hb hg
  go_wp2_with (first | ((with_reducible refine gate_dst (N := 4) rfl ?_); refine hold ?_))
  unfold Hold
  refine box_event ?hgg4 (N := 4) ?hdg4 (cs := #[.int .i64 0, .slice none 0 0]) (t := 37) ?hrg4 ?_
  case hdg4 => rfl
  case hgg4 => rfl
  case hrg4 => first | (go_simp; done) | (go_simp; rfl)
  intro g4 hg w2 hbox hb
  have Bg4 := Aside0.mk hbox
  have Eg4 := Aside0.mk (show w.heap.size ≤ g4 by rw [hg]; exact HB.out.size)
  replace Bg2 := Aside0.mk (blk_below Bg2.out hb)
  replace HB := Aside0.mk (below_step HB.out hb)
  clear hbox hb hg
  go_wp2_with (first | (go_at_call 57; refine hold ?_))
  unfold Hold
  refine (l5Draw_walk k A0 c0 l0 r1 r2 r3 r4 w2 (Kd.C_below HR.out HB.out) HC.out HH.out).mono ?_
  rintro e w3 ⟨v0, v1, v2, rfl, hr, hs, hf, hb⟩
  have N4 := blk_lt Bg4.out
  have R := Aside0.mk (Kd.R_lower hr HB.out.size)
  have F_ := Aside0.mk (Kd.R_lower hf HB.out.size)
  have SD := Aside0.mk (Kd.S_lower (Kd.S_mono (Kd.S_bound hs) (ok' := fun k_ => k_ ≠ g4) (fun k_ hk_ he_ => by have := hk_.2.1; rw [he_] at this; omega)) HB.out.size)
  replace Bg2 := Aside0.mk (blk_below Bg2.out hb)
  replace Bg4 := Aside0.mk (blk_below Bg4.out hb)
  replace HB := Aside0.mk (below_step HB.out hb)
  clear hr hs hf hb N4 HH
  obtain ⟨Av, cv, rfl⟩ := Kd.R_slice R.out
  obtain ⟨Dv, dv, rfl⟩ := Kd.S_slice SD.out
  obtain ⟨Af, cf, rfl⟩ := Kd.R_slice F_.out
  go_wp2_with (first | ((with_reducible refine gate_dst (N := 5) rfl ?_); refine hold ?_))
  unfold Hold
  refine box_event ?hgg5 (N := 5) ?hdg5 (cs := #[.slice none 0 0]) (t := 34) ?hrg5 ?_
  case hdg5 => rfl
  case hgg5 => rfl
  case hrg5 => first | (go_simp; done) | (go_simp; rfl)
  intro g5 hg w4 hbox hb
  have Bg5 := Aside0.mk hbox
  have Eg5 := Aside0.mk (show w.heap.size ≤ g5 by rw [hg]; exact HB.out.size)
  have N25 := Aside0.mk (show g2 ≠ g5 by rw [hg]; exact Nat.ne_of_lt (blk_lt Bg2.out))
  replace Bg2 := Aside0.mk (blk_below Bg2.out hb)
  replace Bg4 := Aside0.mk (blk_below Bg4.out hb)
  replace R := Aside0.mk (Kd.R_below R.out hb)
  replace F_ := Aside0.mk (Kd.R_below F_.out hb)
  replace SD := Aside0.mk (Kd.S_below SD.out hb)
  replace HB := Aside0.mk (below_step HB.out hb)
  clear hbox hb hg
  go_wp2_with (first | ((with_reducible refine gate_dst (N := 7) rfl ?_); refine hold ?_))
  unfold Hold
  refine box_event ?hgg7 (N := 7) ?hdg7 (cs := #[.int .i64 0, .slice none 0 0]) (t := 37) ?hrg7 ?_
  case hdg7 => rfl
  case hgg7 => rfl
  case hrg7 => first | (go_simp; done) | (go_simp; rfl)
  intro g7 hg w5 hbox hb
  have Bg7 := Aside0.mk hbox
  have Eg7 := Aside0.mk (show w.heap.size ≤ g7 by rw [hg]; exact HB.out.size)
  have N47 := Aside0.mk (show g4 ≠ g7 by rw [hg]; exact Nat.ne_of_lt (blk_lt Bg4.out))
  replace Bg2 := Aside0.mk (blk_below Bg2.out hb)
  replace Bg4 := Aside0.mk (blk_below Bg4.out hb)
  replace R := Aside0.mk (Kd.R_below R.out hb)
  replace F_ := Aside0.mk (Kd.R_below F_.out hb)
  replace Bg5 := Aside0.mk (blk_below Bg5.out hb)
  replace SD := Aside0.mk (Kd.S_below (Kd.S_elderB SD.out g7 (Nat.le_of_eq hg.symm)) hb)
  replace HB := Aside0.mk (below_step HB.out hb)
  clear hbox hb hg
  have hc5 : w5.cell? ⟨g5, 0, none⟩ = some (.slice none 0 0) := (blk_cell Bg5.out 0).trans rfl
  have hf5 := blk_frozen Bg5.out 0
  go_wp2_with (first | ((with_reducible refine gate_store (t := 34) (p := 5) rfl ?_); refine hold ?_))
  unfold Hold
  refine store_event (t := 34) (p := 5) (v := ?vo5) (w1 := w5.setCell ⟨g5, 0, none⟩ (.slice Av r1.length cv)) ?hgs5 ?hos5 ?hns5 ?hrs5 ?_
  case hos5 => rfl
  case hgs5 => rfl
  case hns5 => rfl
  case hrs5 => first | (go_simp; done) | (go_simp; rfl)
  intro w6 hw
  clear hc5 hf5
  have n_ := Aside0.mk (blk_far Bg2.out (p := ⟨g5, 0, none⟩) N25.out (.slice Av r1.length cv))
  rw [← hw] at n_
  replace Bg2 := n_
  clear n_
  have n_ := Aside0.mk (blk_far Bg4.out (p := ⟨g5, 0, none⟩) (blk_ne Bg4.out Bg5.out (by decide)) (.slice Av r1.length cv))
  rw [← hw] at n_
  replace Bg4 := n_
  clear n_
  have n_ := Aside0.mk (blk_far Bg7.out (p := ⟨g5, 0, none⟩) (blk_ne Bg7.out Bg5.out (by decide)) (.slice Av r1.length cv))
  rw [← hw] at n_
  replace Bg7 := n_
  clear n_
  have n_ := Aside0.mk (Kd.R_set R.out Bg5.out (by decide) 0 (.slice Av r1.length cv))
  rw [← hw] at n_
  replace R := n_
  clear n_
  have n_ := Aside0.mk (Kd.R_set F_.out Bg5.out (by decide) 0 (.slice Av r1.length cv))
  rw [← hw] at n_
  replace F_ := n_
  clear n_
  have n_ := Aside0.mk (Kd.S_set SD.out Bg5.out (by decide) 0 (.slice Av r1.length cv))
  rw [← hw] at n_
  replace SD := n_
  clear n_
  have n_ := Aside0.mk (below_set (j := 0) (v := .slice Av r1.length cv) HB.out Eg5.out)
  rw [← hw] at n_
  replace HB := n_
  clear n_
  have n_ := Aside0.mk (blk_put (cs' := #[.slice Av r1.length cv]) Bg5.out 0 (.slice Av r1.length cv) rfl)
  rw [← hw] at n_
  replace Bg5 := n_
  clear n_ hw
  have hc7 : w6.cell? ⟨g7, 0, none⟩ = some (.int .i64 0) := (blk_cell Bg7.out 0).trans rfl
  have hc8 : w6.cell? ⟨g7, 1, none⟩ = some (.slice none 0 0) := (blk_cell Bg7.out 1).trans rfl
  have hf7 := blk_frozen Bg7.out 0
  have hf8 := blk_frozen Bg7.out 1
  go_wp2_with (first | ((with_reducible refine gate_store (t := 37) (p := 7) rfl ?_); refine hold ?_))
  unfold Hold
  refine store_event (t := 37) (p := 7) (v := ?vo7) (w1 := (w6.setCell ⟨g7, 0, none⟩ (.int .i64 r3)).setCell ⟨g7, 1, none⟩ (.slice Af r4.length cf)) ?hgs7 ?hos7 ?hns7 ?hrs7 ?_
  case hos7 => rfl
  case hgs7 => rfl
  case hns7 => rfl
  case hrs7 => first | (go_simp; done) | (go_simp; rfl)
  intro w7 hw
  clear hc7 hc8 hf7 hf8
  have b7 := blk_put (cs' := #[.int .i64 r3, .slice none 0 0]) Bg7.out 0 (.int .i64 r3) rfl
  have n_ := Aside0.mk (blk_far (blk_far Bg2.out (p := ⟨g7, 0, none⟩) (blk_ne Bg2.out Bg7.out (by decide)) (.int .i64 r3)) (p := ⟨g7, 1, none⟩) (blk_ne Bg2.out Bg7.out (by decide)) (.slice Af r4.length cf))
  rw [← hw] at n_
  replace Bg2 := n_
  clear n_
  have n_ := Aside0.mk (blk_far (blk_far Bg5.out (p := ⟨g7, 0, none⟩) (blk_ne Bg5.out Bg7.out (by decide)) (.int .i64 r3)) (p := ⟨g7, 1, none⟩) (blk_ne Bg5.out Bg7.out (by decide)) (.slice Af r4.length cf))
  rw [← hw] at n_
  replace Bg5 := n_
  clear n_
  have n_ := Aside0.mk (blk_far (blk_far Bg4.out (p := ⟨g7, 0, none⟩) N47.out (.int .i64 r3)) (p := ⟨g7, 1, none⟩) N47.out (.slice Af r4.length cf))
  rw [← hw] at n_
  replace Bg4 := n_
  clear n_
  have n_ := Aside0.mk (Kd.R_set (Kd.R_set R.out Bg7.out (by decide) 0 (.int .i64 r3)) b7 (by decide) 1 (.slice Af r4.length cf))
  rw [← hw] at n_
  replace R := n_
  clear n_
  have n_ := Aside0.mk (Kd.R_set (Kd.R_set F_.out Bg7.out (by decide) 0 (.int .i64 r3)) b7 (by decide) 1 (.slice Af r4.length cf))
  rw [← hw] at n_
  replace F_ := n_
  clear n_
  have n_ := Aside0.mk (Kd.S_far (Kd.S_far SD.out (p := ⟨g7, 0, none⟩) (fun _ h_ => h_.2) (.int .i64 r3)) (p := ⟨g7, 1, none⟩) (fun _ h_ => h_.2) (.slice Af r4.length cf))
  rw [← hw] at n_
  replace SD := n_
  clear n_
  have n_ := Aside0.mk (below_set (j := 1) (v := .slice Af r4.length cf) (below_set (j := 0) (v := .int .i64 r3) HB.out Eg7.out) Eg7.out)
  rw [← hw] at n_
  replace HB := n_
  clear n_
  have n_ := Aside0.mk (blk_put (cs' := #[.int .i64 r3, .slice Af r4.length cf]) b7 1 (.slice Af r4.length cf) rfl)
  rw [← hw] at n_
  replace Bg7 := n_
  clear n_
  clear hw b7
  try go_wp2
  have n_ := Aside0.mk (blk_drew Bg2.out)
  replace Bg2 := n_
  clear n_
  have n_ := Aside0.mk (blk_drew Bg4.out)
  replace Bg4 := n_
  clear n_
  have n_ := Aside0.mk (blk_drew Bg5.out)
  replace Bg5 := n_
  clear n_
  have n_ := Aside0.mk (blk_drew Bg7.out)
  replace Bg7 := n_
  clear n_
  have n_ := Aside0.mk (Kd.R_drew R.out)
  replace R := n_
  clear n_
  have n_ := Aside0.mk (Kd.R_drew F_.out)
  replace F_ := n_
  clear n_
  have n_ := Aside0.mk (Kd.S_drew SD.out)
  replace SD := n_
  clear n_
  have n_ := Aside0.mk (below_drew1 HB.out)
  replace HB := n_
  clear n_
  refine start_ (n := 6) (S := fun w' => w'.cell? ⟨g5, 0, none⟩ = some (.slice Av r1.length cv) ∧ w'.cell? ⟨g7, 0, none⟩ = some (.int .i64 r3) ∧ w'.cell? ⟨g7, 1, none⟩ = some (.slice Af r4.length cf)) (ds := []) #[yf,yf,yf,yf,yf,yf] (by kernel_rfl) rfl rfl ⟨(blk_cell Bg5.out 0).trans rfl, (blk_cell Bg7.out 0).trans rfl, (blk_cell Bg7.out 1).trans rfl⟩ (fun hHeld => ?_)
  generalize w7.drew = wd at Bg2 Bg4 Bg5 Bg7 R F_ SD HB hHeld ⊢
  refine take_ (i := 0) (N := some 14) (v := ?_) (a' := ?_) #[yt,yf,yf,yf,yf,yf] rfl rfl (by kernel_rfl) (fun _ _ _ h => h) (Or.inl ⟨by rfl, ?_⟩) hHeld ?_ ?_
  rotate_left
  · rintro w' ⟨s0, s1, s2⟩; go_simp; with_reducible rfl
  rotate_left
  · simp only [Act.put, zO, zEb, zFb, i64_w, i32_w]; rfl
  refine pure_ (i := 1) (N := some 15) (v := ?_) (a' := ?_) #[yt,yt,yf,yf,yf,yf] rfl rfl (by kernel_rfl) (fun _ _ _ h => h) (Or.inl ⟨by rfl, ?_⟩) ?_ ?_
  rotate_left
  · intro w'; go_simp; with_reducible rfl
  rotate_left
  · simp only [Act.put, zO, zEb, zFb, i64_w, i32_w]; rfl
  refine take_ (i := 2) (N := some 16) (v := ?_) (a' := ?_) #[yt,yt,yt,yf,yf,yf] rfl rfl (by kernel_rfl) (fun _ _ _ h => h) (Or.inl ⟨by rfl, ?_⟩) hHeld ?_ ?_
  rotate_left
  · rintro w' ⟨s0, s1, s2⟩; go_simp; with_reducible rfl
  rotate_left
  · simp only [Act.put, zO, zEb, zFb, i64_w, i32_w]; rfl
  refine one_ (i := 3) (N := none) #[yt,yt,yt,yt,yf,yf] rfl rfl (by kernel_rfl) (by decide) (fun K hK => ?_)
  have hx2 : wd.cell? ⟨g2, 0, none⟩ = some (.slice none 0 0) := (blk_cell Bg2.out 0).trans rfl
  have hf2 := blk_frozen Bg2.out 0
  refine skip_ (w1 := (wd.setCell ⟨g2, 0, none⟩ (.slice Av r1.length cv))) (by rfl) rfl ?_ ?_
  · go_simp; first | done | rfl
  clear hx2 hf2
  have nBg4 := Aside0.mk (blk_far Bg4.out (p := ⟨g2, 0, none⟩) (blk_ne Bg4.out Bg2.out (by decide)) (.slice Av r1.length cv))
  have nBg5 := Aside0.mk (blk_far Bg5.out (p := ⟨g2, 0, none⟩) (Ne.symm N25.out) (.slice Av r1.length cv))
  have nBg7 := Aside0.mk (blk_far Bg7.out (p := ⟨g2, 0, none⟩) (blk_ne Bg7.out Bg2.out (by decide)) (.slice Av r1.length cv))
  have nR := Aside0.mk (Kd.R_set R.out Bg2.out (by decide) 0 (.slice Av r1.length cv))
  have nF_ := Aside0.mk (Kd.R_set F_.out Bg2.out (by decide) 0 (.slice Av r1.length cv))
  have nSD := Aside0.mk (Kd.S_set SD.out Bg2.out (by decide) 0 (.slice Av r1.length cv))
  have nHB := Aside0.mk (below_set (j := 0) (v := .slice Av r1.length cv) HB.out Eg2.out)
  have nBg2 := Aside0.mk (blk_put (cs' := #[.slice Av r1.length cv]) Bg2.out 0 (.slice Av r1.length cv) rfl)
  refine hK.out _ _ ⟨(blk_cell nBg5.out 0).trans rfl, (blk_cell nBg7.out 0).trans rfl, (blk_cell nBg7.out 1).trans rfl⟩ (fun hHeld => ?_)
  clear hK K
  clear Bg4 Bg5 Bg7 R F_ SD HB Bg2
  have Bg4 := nBg4
  clear nBg4
  have Bg5 := nBg5
  clear nBg5
  have Bg7 := nBg7
  clear nBg7
  have R := nR
  clear nR
  have F_ := nF_
  clear nF_
  have SD := nSD
  clear nSD
  have HB := nHB
  clear nHB
  have Bg2 := nBg2
  clear nBg2
  generalize hwz : (wd.setCell ⟨g2, 0, none⟩ (.slice Av r1.length cv)) = wz at Bg4 Bg5 Bg7 R F_ SD HB Bg2 hHeld ⊢
  clear hwz
  refine pure_ (i := 4) (N := some 3) (v := ?_) (a' := ?_) #[yt,yt,yt,yt,yt,yf] rfl rfl (by kernel_rfl) (fun _ _ _ h => h) (Or.inl ⟨by rfl, ?_⟩) ?_ ?_
  rotate_left
  · intro w'; go_simp; with_reducible rfl
  rotate_left
  · simp only [Act.put, zO, zEb, zFb, i64_w, i32_w]; rfl
  refine one_ (i := 5) (N := none) #[yt,yt,yt,yt,yt,yt] rfl rfl (by kernel_rfl) (by decide) (fun K hK => ?_)
  have hx4 : wz.cell? ⟨g4, 0, none⟩ = some (.int .i64 0) := (blk_cell Bg4.out 0).trans rfl
  have hx5 : wz.cell? ⟨g4, 1, none⟩ = some (.slice none 0 0) := (blk_cell Bg4.out 1).trans rfl
  have hf4 := blk_frozen Bg4.out 0
  have hf5 := blk_frozen Bg4.out 1
  refine skip_ (w1 := ((wz.setCell ⟨g4, 0, none⟩ (.int .i64 r3)).setCell ⟨g4, 1, none⟩ (.slice Af r4.length cf))) (by rfl) rfl ?_ ?_
  · go_simp; first | done | rfl
  clear hx4 hx5 hf4 hf5
  have b4 := blk_put (cs' := #[.int .i64 r3, .slice none 0 0]) Bg4.out 0 (.int .i64 r3) rfl
  have nBg2 := Aside0.mk (blk_far (blk_far Bg2.out (p := ⟨g4, 0, none⟩) (blk_ne Bg2.out Bg4.out (by decide)) (.int .i64 r3)) (p := ⟨g4, 1, none⟩) (blk_ne Bg2.out Bg4.out (by decide)) (.slice Af r4.length cf))
  have nBg5 := Aside0.mk (blk_far (blk_far Bg5.out (p := ⟨g4, 0, none⟩) (blk_ne Bg5.out Bg4.out (by decide)) (.int .i64 r3)) (p := ⟨g4, 1, none⟩) (blk_ne Bg5.out Bg4.out (by decide)) (.slice Af r4.length cf))
  have nBg7 := Aside0.mk (blk_far (blk_far Bg7.out (p := ⟨g4, 0, none⟩) (Ne.symm N47.out) (.int .i64 r3)) (p := ⟨g4, 1, none⟩) (Ne.symm N47.out) (.slice Af r4.length cf))
  have nR := Aside0.mk (Kd.R_set (Kd.R_set R.out Bg4.out (by decide) 0 (.int .i64 r3)) b4 (by decide) 1 (.slice Af r4.length cf))
  have nF_ := Aside0.mk (Kd.R_set (Kd.R_set F_.out Bg4.out (by decide) 0 (.int .i64 r3)) b4 (by decide) 1 (.slice Af r4.length cf))
  have nSD := Aside0.mk (Kd.S_far (Kd.S_far SD.out (p := ⟨g4, 0, none⟩) (fun _ h_ => h_.1) (.int .i64 r3)) (p := ⟨g4, 1, none⟩) (fun _ h_ => h_.1) (.slice Af r4.length cf))
  have nHB := Aside0.mk (below_set (j := 1) (v := .slice Af r4.length cf) (below_set (j := 0) (v := .int .i64 r3) HB.out Eg4.out) Eg4.out)
  have nBg4 := Aside0.mk (blk_put (cs' := #[.int .i64 r3, .slice Af r4.length cf]) b4 1 (.slice Af r4.length cf) rfl)
  refine hK.out _ _ ⟨(blk_cell nBg5.out 0).trans rfl, (blk_cell nBg7.out 0).trans rfl, (blk_cell nBg7.out 1).trans rfl⟩ (fun hHeld => ?_)
  clear hK K
  clear b4 Bg2 Bg5 Bg7 R F_ SD HB Bg4
  have Bg2 := nBg2
  clear nBg2
  have Bg5 := nBg5
  clear nBg5
  have Bg7 := nBg7
  clear nBg7
  have R := nR
  clear nR
  have F_ := nF_
  clear nF_
  have SD := nSD
  clear nSD
  have HB := nHB
  clear nHB
  have Bg4 := nBg4
  clear nBg4
  generalize hwy : ((wz.setCell ⟨g4, 0, none⟩ (.int .i64 r3)).setCell ⟨g4, 1, none⟩ (.slice Af r4.length cf)) = wy at Bg2 Bg5 Bg7 R F_ SD HB Bg4 ⊢
  clear hwy hHeld
  refine done_ (by kernel_rfl) ?_
  go_wp2
  refine bodyPost_ret (results_list (rs := [.cell 2 34, .tmp 3, .cell 4 37]) rfl (by simp) (.cell g2 34 #[.slice Av r1.length cv] (0, 0) _ rfl Bg2.out Try.underlying34 rfl (by kernel_rfl) (.tmp (.cell g4 37 #[.int .i64 r3, .slice Af r4.length cf] (0, 0) _ rfl Bg4.out Try.underlying37 rfl (by kernel_rfl) .nil)))) rfl ?_
  exact ⟨_, _, _, rfl, Kd.R_mono R.out (fun _ _ => trivial), Kd.S_mono SD.out (fun _ _ => trivial), Kd.R_mono F_.out (fun _ _ => trivial), HB.out⟩
set_option maxHeartbeats 8000000 in
set_option maxRecDepth 100000 in
theorem spec_DrawRemoveFact_calls (k : Nat) (A0 : Option Addr) (c0 : Nat) (l0 : List Int) (r1 : List Int) (r2 : List (S37)) (r3 : Int) (r4 : List Int) (w : World) (hr0 : Kd.C (Kd.int .u8) w A0 l0.length l0) (hc0 : l0.length ≤ c0) (h : l5Draw_f k l0 = some (r1, r2, r3, r4)) :
    Calls Try.prog 30 #[.slice A0 l0.length c0] w fun e w' => ∃ v0_ v1_ v2_ : Value, e = .returned (.tuple #[.agg #[v0_], v1_, .agg #[.int .i64 r3, v2_]]) ∧ Kd.R (Kd.int .i64) 3 w' w.heap.size (fun _ => True) v0_ r1 ∧ Kd.S k37 37 w' w.heap.size (fun _ => True) v1_ r2 ∧ Kd.R (Kd.int .i64) 3 w' w.heap.size (fun _ => True) v2_ r4 ∧ Below w.heap.size w w' := by
  have huS := Try.underlying34
  have huF := Try.underlying37
  have HR := Aside0.mk hr0
  have HC := Aside0.mk hc0
  have HH := Aside0.mk h
  have HB := Aside0.mk (Below.refl w.heap.size w)
  clear hr0 hc0 h
  go_enter Try.func30, Try.ntmps30
  go_wp2_with (first | ((with_reducible refine gate_dst (N := 2) rfl ?_); refine hold ?_))
  unfold Hold
  refine box_event ?hgg2 (N := 2) ?hdg2 (cs := #[.slice none 0 0]) (t := 34) ?hrg2 ?_
  case hdg2 => rfl
  case hgg2 => rfl
  case hrg2 => first | (go_simp; done) | (go_simp; rfl)
  intro g2 hg w1 hbox hb
  have Bg2 := Aside0.mk hbox
  have Eg2 := Aside0.mk (show w.heap.size ≤ g2 by rw [hg]; exact HB.out.size)
  replace HB := Aside0.mk (below_step HB.out hb)
  clear hbox hb hg
  go_wp2_with (first | ((with_reducible refine gate_dst (N := 4) rfl ?_); refine hold ?_))
  unfold Hold
  refine box_event ?hgg4 (N := 4) ?hdg4 (cs := #[.int .i64 0, .slice none 0 0]) (t := 37) ?hrg4 ?_
  case hdg4 => rfl
  case hgg4 => rfl
  case hrg4 => first | (go_simp; done) | (go_simp; rfl)
  intro g4 hg w2 hbox hb
  have Bg4 := Aside0.mk hbox
  have Eg4 := Aside0.mk (show w.heap.size ≤ g4 by rw [hg]; exact HB.out.size)
  replace Bg2 := Aside0.mk (blk_below Bg2.out hb)
  replace HB := Aside0.mk (below_step HB.out hb)
  clear hbox hb hg
  go_wp2_with (first | (go_at_call 57; refine hold ?_))
  unfold Hold
  refine (l5Draw_walk k A0 c0 l0 r1 r2 r3 r4 w2 (Kd.C_below HR.out HB.out) HC.out HH.out).mono ?_
  rintro e w3 ⟨v0, v1, v2, rfl, hr, hs, hf, hb⟩
  have N4 := blk_lt Bg4.out
  have R := Aside0.mk (Kd.R_lower hr HB.out.size)
  have F_ := Aside0.mk (Kd.R_lower hf HB.out.size)
  have SD := Aside0.mk (Kd.S_lower (Kd.S_mono (Kd.S_bound hs) (ok' := fun k_ => k_ ≠ g4) (fun k_ hk_ he_ => by have := hk_.2.1; rw [he_] at this; omega)) HB.out.size)
  replace Bg2 := Aside0.mk (blk_below Bg2.out hb)
  replace Bg4 := Aside0.mk (blk_below Bg4.out hb)
  replace HB := Aside0.mk (below_step HB.out hb)
  clear hr hs hf hb N4 HH
  obtain ⟨Av, cv, rfl⟩ := Kd.R_slice R.out
  obtain ⟨Dv, dv, rfl⟩ := Kd.S_slice SD.out
  obtain ⟨Af, cf, rfl⟩ := Kd.R_slice F_.out
  go_wp2_with (first | ((with_reducible refine gate_dst (N := 5) rfl ?_); refine hold ?_))
  unfold Hold
  refine box_event ?hgg5 (N := 5) ?hdg5 (cs := #[.slice none 0 0]) (t := 34) ?hrg5 ?_
  case hdg5 => rfl
  case hgg5 => rfl
  case hrg5 => first | (go_simp; done) | (go_simp; rfl)
  intro g5 hg w4 hbox hb
  have Bg5 := Aside0.mk hbox
  have Eg5 := Aside0.mk (show w.heap.size ≤ g5 by rw [hg]; exact HB.out.size)
  have N25 := Aside0.mk (show g2 ≠ g5 by rw [hg]; exact Nat.ne_of_lt (blk_lt Bg2.out))
  replace Bg2 := Aside0.mk (blk_below Bg2.out hb)
  replace Bg4 := Aside0.mk (blk_below Bg4.out hb)
  replace R := Aside0.mk (Kd.R_below R.out hb)
  replace F_ := Aside0.mk (Kd.R_below F_.out hb)
  replace SD := Aside0.mk (Kd.S_below SD.out hb)
  replace HB := Aside0.mk (below_step HB.out hb)
  clear hbox hb hg
  go_wp2_with (first | ((with_reducible refine gate_dst (N := 7) rfl ?_); refine hold ?_))
  unfold Hold
  refine box_event ?hgg7 (N := 7) ?hdg7 (cs := #[.int .i64 0, .slice none 0 0]) (t := 37) ?hrg7 ?_
  case hdg7 => rfl
  case hgg7 => rfl
  case hrg7 => first | (go_simp; done) | (go_simp; rfl)
  intro g7 hg w5 hbox hb
  have Bg7 := Aside0.mk hbox
  have Eg7 := Aside0.mk (show w.heap.size ≤ g7 by rw [hg]; exact HB.out.size)
  have N47 := Aside0.mk (show g4 ≠ g7 by rw [hg]; exact Nat.ne_of_lt (blk_lt Bg4.out))
  replace Bg2 := Aside0.mk (blk_below Bg2.out hb)
  replace Bg4 := Aside0.mk (blk_below Bg4.out hb)
  replace R := Aside0.mk (Kd.R_below R.out hb)
  replace F_ := Aside0.mk (Kd.R_below F_.out hb)
  replace Bg5 := Aside0.mk (blk_below Bg5.out hb)
  replace SD := Aside0.mk (Kd.S_below (Kd.S_elderB SD.out g7 (Nat.le_of_eq hg.symm)) hb)
  replace HB := Aside0.mk (below_step HB.out hb)
  clear hbox hb hg
  have hc5 : w5.cell? ⟨g5, 0, none⟩ = some (.slice none 0 0) := (blk_cell Bg5.out 0).trans rfl
  have hf5 := blk_frozen Bg5.out 0
  go_wp2_with (first | ((with_reducible refine gate_store (t := 34) (p := 5) rfl ?_); refine hold ?_))
  unfold Hold
  refine store_event (t := 34) (p := 5) (v := ?vo5) (w1 := w5.setCell ⟨g5, 0, none⟩ (.slice Av r1.length cv)) ?hgs5 ?hos5 ?hns5 ?hrs5 ?_
  case hos5 => rfl
  case hgs5 => rfl
  case hns5 => rfl
  case hrs5 => first | (go_simp; done) | (go_simp; rfl)
  intro w6 hw
  clear hc5 hf5
  have n_ := Aside0.mk (blk_far Bg2.out (p := ⟨g5, 0, none⟩) N25.out (.slice Av r1.length cv))
  rw [← hw] at n_
  replace Bg2 := n_
  clear n_
  have n_ := Aside0.mk (blk_far Bg4.out (p := ⟨g5, 0, none⟩) (blk_ne Bg4.out Bg5.out (by decide)) (.slice Av r1.length cv))
  rw [← hw] at n_
  replace Bg4 := n_
  clear n_
  have n_ := Aside0.mk (blk_far Bg7.out (p := ⟨g5, 0, none⟩) (blk_ne Bg7.out Bg5.out (by decide)) (.slice Av r1.length cv))
  rw [← hw] at n_
  replace Bg7 := n_
  clear n_
  have n_ := Aside0.mk (Kd.R_set R.out Bg5.out (by decide) 0 (.slice Av r1.length cv))
  rw [← hw] at n_
  replace R := n_
  clear n_
  have n_ := Aside0.mk (Kd.R_set F_.out Bg5.out (by decide) 0 (.slice Av r1.length cv))
  rw [← hw] at n_
  replace F_ := n_
  clear n_
  have n_ := Aside0.mk (Kd.S_set SD.out Bg5.out (by decide) 0 (.slice Av r1.length cv))
  rw [← hw] at n_
  replace SD := n_
  clear n_
  have n_ := Aside0.mk (below_set (j := 0) (v := .slice Av r1.length cv) HB.out Eg5.out)
  rw [← hw] at n_
  replace HB := n_
  clear n_
  have n_ := Aside0.mk (blk_put (cs' := #[.slice Av r1.length cv]) Bg5.out 0 (.slice Av r1.length cv) rfl)
  rw [← hw] at n_
  replace Bg5 := n_
  clear n_ hw
  have hc7 : w6.cell? ⟨g7, 0, none⟩ = some (.int .i64 0) := (blk_cell Bg7.out 0).trans rfl
  have hc8 : w6.cell? ⟨g7, 1, none⟩ = some (.slice none 0 0) := (blk_cell Bg7.out 1).trans rfl
  have hf7 := blk_frozen Bg7.out 0
  have hf8 := blk_frozen Bg7.out 1
  go_wp2_with (first | ((with_reducible refine gate_store (t := 37) (p := 7) rfl ?_); refine hold ?_))
  unfold Hold
  refine store_event (t := 37) (p := 7) (v := ?vo7) (w1 := (w6.setCell ⟨g7, 0, none⟩ (.int .i64 r3)).setCell ⟨g7, 1, none⟩ (.slice Af r4.length cf)) ?hgs7 ?hos7 ?hns7 ?hrs7 ?_
  case hos7 => rfl
  case hgs7 => rfl
  case hns7 => rfl
  case hrs7 => first | (go_simp; done) | (go_simp; rfl)
  intro w7 hw
  clear hc7 hc8 hf7 hf8
  have b7 := blk_put (cs' := #[.int .i64 r3, .slice none 0 0]) Bg7.out 0 (.int .i64 r3) rfl
  have n_ := Aside0.mk (blk_far (blk_far Bg2.out (p := ⟨g7, 0, none⟩) (blk_ne Bg2.out Bg7.out (by decide)) (.int .i64 r3)) (p := ⟨g7, 1, none⟩) (blk_ne Bg2.out Bg7.out (by decide)) (.slice Af r4.length cf))
  rw [← hw] at n_
  replace Bg2 := n_
  clear n_
  have n_ := Aside0.mk (blk_far (blk_far Bg5.out (p := ⟨g7, 0, none⟩) (blk_ne Bg5.out Bg7.out (by decide)) (.int .i64 r3)) (p := ⟨g7, 1, none⟩) (blk_ne Bg5.out Bg7.out (by decide)) (.slice Af r4.length cf))
  rw [← hw] at n_
  replace Bg5 := n_
  clear n_
  have n_ := Aside0.mk (blk_far (blk_far Bg4.out (p := ⟨g7, 0, none⟩) N47.out (.int .i64 r3)) (p := ⟨g7, 1, none⟩) N47.out (.slice Af r4.length cf))
  rw [← hw] at n_
  replace Bg4 := n_
  clear n_
  have n_ := Aside0.mk (Kd.R_set (Kd.R_set R.out Bg7.out (by decide) 0 (.int .i64 r3)) b7 (by decide) 1 (.slice Af r4.length cf))
  rw [← hw] at n_
  replace R := n_
  clear n_
  have n_ := Aside0.mk (Kd.R_set (Kd.R_set F_.out Bg7.out (by decide) 0 (.int .i64 r3)) b7 (by decide) 1 (.slice Af r4.length cf))
  rw [← hw] at n_
  replace F_ := n_
  clear n_
  have n_ := Aside0.mk (Kd.S_far (Kd.S_far SD.out (p := ⟨g7, 0, none⟩) (fun _ h_ => h_.2) (.int .i64 r3)) (p := ⟨g7, 1, none⟩) (fun _ h_ => h_.2) (.slice Af r4.length cf))
  rw [← hw] at n_
  replace SD := n_
  clear n_
  have n_ := Aside0.mk (below_set (j := 1) (v := .slice Af r4.length cf) (below_set (j := 0) (v := .int .i64 r3) HB.out Eg7.out) Eg7.out)
  rw [← hw] at n_
  replace HB := n_
  clear n_
  have n_ := Aside0.mk (blk_put (cs' := #[.int .i64 r3, .slice Af r4.length cf]) b7 1 (.slice Af r4.length cf) rfl)
  rw [← hw] at n_
  replace Bg7 := n_
  clear n_
  clear hw b7
  try go_wp2
  have n_ := Aside0.mk (blk_drew Bg2.out)
  replace Bg2 := n_
  clear n_
  have n_ := Aside0.mk (blk_drew Bg4.out)
  replace Bg4 := n_
  clear n_
  have n_ := Aside0.mk (blk_drew Bg5.out)
  replace Bg5 := n_
  clear n_
  have n_ := Aside0.mk (blk_drew Bg7.out)
  replace Bg7 := n_
  clear n_
  have n_ := Aside0.mk (Kd.R_drew R.out)
  replace R := n_
  clear n_
  have n_ := Aside0.mk (Kd.R_drew F_.out)
  replace F_ := n_
  clear n_
  have n_ := Aside0.mk (Kd.S_drew SD.out)
  replace SD := n_
  clear n_
  have n_ := Aside0.mk (below_drew1 HB.out)
  replace HB := n_
  clear n_
  refine start_ (n := 6) (S := fun w' => w'.cell? ⟨g5, 0, none⟩ = some (.slice Av r1.length cv) ∧ w'.cell? ⟨g7, 0, none⟩ = some (.int .i64 r3) ∧ w'.cell? ⟨g7, 1, none⟩ = some (.slice Af r4.length cf)) (ds := []) #[yf,yf,yf,yf,yf,yf] (by kernel_rfl) rfl rfl ⟨(blk_cell Bg5.out 0).trans rfl, (blk_cell Bg7.out 0).trans rfl, (blk_cell Bg7.out 1).trans rfl⟩ (fun hHeld => ?_)
  generalize w7.drew = wd at Bg2 Bg4 Bg5 Bg7 R F_ SD HB hHeld ⊢
  refine take_ (i := 0) (N := some 14) (v := ?_) (a' := ?_) #[yt,yf,yf,yf,yf,yf] rfl rfl (by kernel_rfl) (fun _ _ _ h => h) (Or.inl ⟨by rfl, ?_⟩) hHeld ?_ ?_
  rotate_left
  · rintro w' ⟨s0, s1, s2⟩; go_simp; with_reducible rfl
  rotate_left
  · simp only [Act.put, zO, zEb, zFb, i64_w, i32_w]; rfl
  refine pure_ (i := 1) (N := some 15) (v := ?_) (a' := ?_) #[yt,yt,yf,yf,yf,yf] rfl rfl (by kernel_rfl) (fun _ _ _ h => h) (Or.inl ⟨by rfl, ?_⟩) ?_ ?_
  rotate_left
  · intro w'; go_simp; with_reducible rfl
  rotate_left
  · simp only [Act.put, zO, zEb, zFb, i64_w, i32_w]; rfl
  refine take_ (i := 2) (N := some 16) (v := ?_) (a' := ?_) #[yt,yt,yt,yf,yf,yf] rfl rfl (by kernel_rfl) (fun _ _ _ h => h) (Or.inl ⟨by rfl, ?_⟩) hHeld ?_ ?_
  rotate_left
  · rintro w' ⟨s0, s1, s2⟩; go_simp; with_reducible rfl
  rotate_left
  · simp only [Act.put, zO, zEb, zFb, i64_w, i32_w]; rfl
  refine one_ (i := 3) (N := none) #[yt,yt,yt,yt,yf,yf] rfl rfl (by kernel_rfl) (by decide) (fun K hK => ?_)
  have hx2 : wd.cell? ⟨g2, 0, none⟩ = some (.slice none 0 0) := (blk_cell Bg2.out 0).trans rfl
  have hf2 := blk_frozen Bg2.out 0
  refine skip_ (w1 := (wd.setCell ⟨g2, 0, none⟩ (.slice Av r1.length cv))) (by rfl) rfl ?_ ?_
  · go_simp; first | done | rfl
  clear hx2 hf2
  have nBg4 := Aside0.mk (blk_far Bg4.out (p := ⟨g2, 0, none⟩) (blk_ne Bg4.out Bg2.out (by decide)) (.slice Av r1.length cv))
  have nBg5 := Aside0.mk (blk_far Bg5.out (p := ⟨g2, 0, none⟩) (Ne.symm N25.out) (.slice Av r1.length cv))
  have nBg7 := Aside0.mk (blk_far Bg7.out (p := ⟨g2, 0, none⟩) (blk_ne Bg7.out Bg2.out (by decide)) (.slice Av r1.length cv))
  have nR := Aside0.mk (Kd.R_set R.out Bg2.out (by decide) 0 (.slice Av r1.length cv))
  have nF_ := Aside0.mk (Kd.R_set F_.out Bg2.out (by decide) 0 (.slice Av r1.length cv))
  have nSD := Aside0.mk (Kd.S_set SD.out Bg2.out (by decide) 0 (.slice Av r1.length cv))
  have nHB := Aside0.mk (below_set (j := 0) (v := .slice Av r1.length cv) HB.out Eg2.out)
  have nBg2 := Aside0.mk (blk_put (cs' := #[.slice Av r1.length cv]) Bg2.out 0 (.slice Av r1.length cv) rfl)
  refine hK.out _ _ ⟨(blk_cell nBg5.out 0).trans rfl, (blk_cell nBg7.out 0).trans rfl, (blk_cell nBg7.out 1).trans rfl⟩ (fun hHeld => ?_)
  clear hK K
  clear Bg4 Bg5 Bg7 R F_ SD HB Bg2
  have Bg4 := nBg4
  clear nBg4
  have Bg5 := nBg5
  clear nBg5
  have Bg7 := nBg7
  clear nBg7
  have R := nR
  clear nR
  have F_ := nF_
  clear nF_
  have SD := nSD
  clear nSD
  have HB := nHB
  clear nHB
  have Bg2 := nBg2
  clear nBg2
  generalize hwz : (wd.setCell ⟨g2, 0, none⟩ (.slice Av r1.length cv)) = wz at Bg4 Bg5 Bg7 R F_ SD HB Bg2 hHeld ⊢
  clear hwz
  refine pure_ (i := 4) (N := some 3) (v := ?_) (a' := ?_) #[yt,yt,yt,yt,yt,yf] rfl rfl (by kernel_rfl) (fun _ _ _ h => h) (Or.inl ⟨by rfl, ?_⟩) ?_ ?_
  rotate_left
  · intro w'; go_simp; with_reducible rfl
  rotate_left
  · simp only [Act.put, zO, zEb, zFb, i64_w, i32_w]; rfl
  refine one_ (i := 5) (N := none) #[yt,yt,yt,yt,yt,yt] rfl rfl (by kernel_rfl) (by decide) (fun K hK => ?_)
  have hx4 : wz.cell? ⟨g4, 0, none⟩ = some (.int .i64 0) := (blk_cell Bg4.out 0).trans rfl
  have hx5 : wz.cell? ⟨g4, 1, none⟩ = some (.slice none 0 0) := (blk_cell Bg4.out 1).trans rfl
  have hf4 := blk_frozen Bg4.out 0
  have hf5 := blk_frozen Bg4.out 1
  refine skip_ (w1 := ((wz.setCell ⟨g4, 0, none⟩ (.int .i64 r3)).setCell ⟨g4, 1, none⟩ (.slice Af r4.length cf))) (by rfl) rfl ?_ ?_
  · go_simp; first | done | rfl
  clear hx4 hx5 hf4 hf5
  have b4 := blk_put (cs' := #[.int .i64 r3, .slice none 0 0]) Bg4.out 0 (.int .i64 r3) rfl
  have nBg2 := Aside0.mk (blk_far (blk_far Bg2.out (p := ⟨g4, 0, none⟩) (blk_ne Bg2.out Bg4.out (by decide)) (.int .i64 r3)) (p := ⟨g4, 1, none⟩) (blk_ne Bg2.out Bg4.out (by decide)) (.slice Af r4.length cf))
  have nBg5 := Aside0.mk (blk_far (blk_far Bg5.out (p := ⟨g4, 0, none⟩) (blk_ne Bg5.out Bg4.out (by decide)) (.int .i64 r3)) (p := ⟨g4, 1, none⟩) (blk_ne Bg5.out Bg4.out (by decide)) (.slice Af r4.length cf))
  have nBg7 := Aside0.mk (blk_far (blk_far Bg7.out (p := ⟨g4, 0, none⟩) (Ne.symm N47.out) (.int .i64 r3)) (p := ⟨g4, 1, none⟩) (Ne.symm N47.out) (.slice Af r4.length cf))
  have nR := Aside0.mk (Kd.R_set (Kd.R_set R.out Bg4.out (by decide) 0 (.int .i64 r3)) b4 (by decide) 1 (.slice Af r4.length cf))
  have nF_ := Aside0.mk (Kd.R_set (Kd.R_set F_.out Bg4.out (by decide) 0 (.int .i64 r3)) b4 (by decide) 1 (.slice Af r4.length cf))
  have nSD := Aside0.mk (Kd.S_far (Kd.S_far SD.out (p := ⟨g4, 0, none⟩) (fun _ h_ => h_.1) (.int .i64 r3)) (p := ⟨g4, 1, none⟩) (fun _ h_ => h_.1) (.slice Af r4.length cf))
  have nHB := Aside0.mk (below_set (j := 1) (v := .slice Af r4.length cf) (below_set (j := 0) (v := .int .i64 r3) HB.out Eg4.out) Eg4.out)
  have nBg4 := Aside0.mk (blk_put (cs' := #[.int .i64 r3, .slice Af r4.length cf]) b4 1 (.slice Af r4.length cf) rfl)
  refine hK.out _ _ ⟨(blk_cell nBg5.out 0).trans rfl, (blk_cell nBg7.out 0).trans rfl, (blk_cell nBg7.out 1).trans rfl⟩ (fun hHeld => ?_)
  clear hK K
  clear b4 Bg2 Bg5 Bg7 R F_ SD HB Bg4
  have Bg2 := nBg2
  clear nBg2
  have Bg5 := nBg5
  clear nBg5
  have Bg7 := nBg7
  clear nBg7
  have R := nR
  clear nR
  have F_ := nF_
  clear nF_
  have SD := nSD
  clear nSD
  have HB := nHB
  clear nHB
  have Bg4 := nBg4
  clear nBg4
  generalize hwy : ((wz.setCell ⟨g4, 0, none⟩ (.int .i64 r3)).setCell ⟨g4, 1, none⟩ (.slice Af r4.length cf)) = wy at Bg2 Bg5 Bg7 R F_ SD HB Bg4 ⊢
  clear hwy hHeld
  refine done_ (by kernel_rfl) ?_
  go_wp2
  refine bodyPost_ret (results_list (rs := [.cell 2 34, .tmp 3, .cell 4 37]) rfl (by simp) (.cell g2 34 #[.slice Av r1.length cv] (0, 0) _ rfl Bg2.out Try.underlying34 rfl (by kernel_rfl) (.tmp (.cell g4 37 #[.int .i64 r3, .slice Af r4.length cf] (0, 0) _ rfl Bg4.out Try.underlying37 rfl (by kernel_rfl) .nil)))) rfl ?_
  exact ⟨_, _, _, rfl, Kd.R_mono R.out (fun _ _ => trivial), Kd.S_mono SD.out (fun _ _ => trivial), Kd.R_mono F_.out (fun _ _ => trivial), HB.out⟩

theorem l5Any_ok (c : List Int) (i h : Int) (hc : c.length ≤ 1048576) (h0 : 0 ≤ i) (h1 : i ≤ c.length) :
    ∃ s d i' h', Ev (fun k => l5Any_f k c i h) (s, d, i', h') ∧ (s.length ≤ 20 ∧ d.length ≤ 40 ∧ ∀ x ∈ d, x.f1.length ≤ 4) ∧ 0 ≤ i' ∧ i' ≤ c.length := by
  unfold l5Any_f
  obtain ⟨s, i1, h1', e1, hs, hi1⟩ := l3Any_ok c i h hc h0 h1
  obtain ⟨d, i2, h2, e2, hd, hi2⟩ := l5Db_ok c i1 h1' (mSafe s) (mSafe_schema s) hc hi1.1 hi1.2
  obtain ⟨y, i3, h3, e3, hy, hi3⟩ := l1Below_ok c i2 h2 10 hc hi2.1 hi2.2
  obtain ⟨r, l, i4, h4, e4, hl, hi4⟩ := l5AnyFact_ok c i3 h3 s hs hc hi3.1 hi3.2
  by_cases c0 : y = 0
  · refine ⟨s, d ++ [⟨r, l⟩], i4, h4, evb e1 (evb (l4Safe_ev s hs) (evb e2 ?_)), ⟨hs, by simp; omega, fun x hx => ?_⟩, hi4⟩
    · simp only [if_pos (show d.length < 1000000 by omega), e3, Option.bind_some, if_pos c0]
      exact evb e4 (evc fun k => rfl)
    · rcases List.mem_append.1 hx with hx | hx
      · exact Nat.le_trans (hd.2 x hx) (by omega)
      · rw [List.mem_singleton.1 hx]; exact hl
  · by_cases c1 : y = 1
    · refine ⟨s, d ++ fifty 26, i3, h3, evb e1 (evb (l4Safe_ev s hs) (evb e2 ?_)), ⟨hs, by rw [List.length_append, fifty_len]; omega, fun x hx => ?_⟩, hi3⟩
      · simp only [if_pos (show d.length < 1000000 by omega), e3, Option.bind_some, if_neg c0, if_pos c1]
        exact evc fun k => rfl
      · rcases List.mem_append.1 hx with hx | hx
        · exact Nat.le_trans (hd.2 x hx) (by omega)
        · exact fifty_small 26 x hx
    · refine ⟨s, d, i3, h3, evb e1 (evb (l4Safe_ev s hs) (evb e2 ?_)), ⟨hs, by omega, fun x hx => Nat.le_trans (hd.2 x hx) (by omega)⟩, hi3⟩
      simp only [if_pos (show d.length < 1000000 by omega), e3, Option.bind_some, if_neg c0, if_neg c1]
      exact evc fun k => rfl
theorem l5Draw_ok (c : List Int) (hc : c.length ≤ 1048576) :
    ∃ s d r l, Ev (fun k => l5Draw_f k c) (s, d, r, l) ∧ s.length ≤ 20 ∧ d.length ≤ 40 ∧ (∀ x ∈ d, x.f1.length ≤ 4) ∧ l.length ≤ 4 := by
  unfold l5Draw_f
  obtain ⟨h, e0⟩ := l1New_ok c hc
  obtain ⟨s, d, i1, h1, e1, hb, hi1⟩ := l5Any_ok c 0 h hc (by omega) (by omega)
  by_cases c0 : 0 < (d.length : Int)
  · obtain ⟨y, i2, h2, e2, hy, hi2⟩ := l1Below_ok c i1 h1 2 hc hi1.1 hi1.2
    have eo : spec_l1Once.f c i1 h1 2 = some ((y == 0), i2, h2) := by unfold spec_l1Once.f; rw [e2]; rfl
    by_cases c1 : (y == 0) = true
    · obtain ⟨q, i3, h3, e3, hq, hi3⟩ := l1Below_ok c i2 h2 (d.length : Int) hc hi2.1 hi2.2
      have hq2 := hq.2.1 c0
      have hm : d.getD q.toNat z37 ∈ d := by
        have hn : q.toNat < d.length := by have := hq.1; omega
        rw [List.getD_eq_getElem?_getD, List.getElem?_eq_getElem hn]
        exact List.getElem_mem _
      have hx := hb.2.2 _ hm
      refine ⟨s, d, (d.getD q.toNat z37).f0, (d.getD q.toNat z37).f1, evb e0 (evb e1 ?_), hb.1, hb.2.1, hb.2.2, hx⟩
      simp only [if_pos c0, eo, Option.bind_some, c1, if_true, e3, if_pos (show 0 ≤ q ∧ q < (d.length : Int) from ⟨hq.1, hq2⟩), l5Copy_eq _ _ (show (d.getD q.toNat z37).f1.length ≤ 1048576 by omega)]
      exact evc fun k => rfl
    · obtain ⟨r, l, i4, h4, e4, hl, hi4⟩ := l5AnyFact_ok c i2 h2 s hb.1 hc hi2.1 hi2.2
      refine ⟨s, d, r, l, evb e0 (evb e1 ?_), hb.1, hb.2.1, hb.2.2, hl⟩
      simp only [if_pos c0, eo, Option.bind_some, if_neg c1]
      exact evb e4 (evc fun k => rfl)
  · obtain ⟨r, l, i4, h4, e4, hl, hi4⟩ := l5AnyFact_ok c i1 h1 s hb.1 hc hi1.1 hi1.2
    refine ⟨s, d, r, l, evb e0 (evb e1 ?_), hb.1, hb.2.1, hb.2.2, hl⟩
    simp only [if_neg c0]
    exact evb e4 (evc fun k => rfl)

-- reads: spec_l4Safe spec_l5AnyFact
set_option maxHeartbeats 8000000 in
set_option maxRecDepth 100000 in
theorem laws_FnFacts_walk_big (A0 : Option Addr) (c0 : Nat) (l0 : List Int) (w : World) (hr0 : Kd.C (Kd.int .u8) w A0 l0.length l0) (hc0 : l0.length ≤ c0) 
    (e0 : laws_big.f l0 = some true) :
    Calls Try.prog 4 #[.slice A0 l0.length c0] w fun e w' => e = .returned (.bool true) ∧ Below w.heap.size w w' := by
  have H0 := Aside0.mk hr0
  have HC0 := Aside0.mk hc0
  clear hr0 hc0
  have Ee0 := Aside0.mk e0; clear e0
  have HB := Aside0.mk (Below.refl w.heap.size w)
  go_enter Try.func4, Try.ntmps4
  go_wp2_with (first | (go_at_call 22; refine hold ?_))
  unfold Hold
  refine (laws_big.calls _ _ l0 true _ (Kd.C_below H0.out HB.out) HC0.out Ee0.out).mono ?_
  rintro e w1_ ⟨rfl, hd⟩
  have hb := hd.below; clear hd
  have Z1_ := Aside0.mk (show w.heap.size ≤ w1_.heap.size from hb.size)
  replace HB := Aside0.mk (below_step HB.out hb)
  clear hb
  go_wp2
  go_ret
  exact ⟨rfl, HB.out⟩
set_option maxHeartbeats 8000000 in
set_option maxRecDepth 100000 in
theorem laws_FnFacts_walk (A0 : Option Addr) (c0 : Nat) (l0 : List Int) (w : World) (hr0 : Kd.C (Kd.int .u8) w A0 l0.length l0) (hc0 : l0.length ≤ c0) (r1_0 : List Int) (r1_1 : List (S37)) (r1_2 : Int) (r1_3 : List Int) (r2_0 : List (S37)) (bI : Bool) (r5_0 : Bool) (r7_0 : List Int) (r7_1 : List (S37)) (r7_2 : Int) (r7_3 : List Int) (r8_0 : List (S37)) (bG : Bool) (r11_0 : Bool) (r14_0 : List (S37))
    (e0 : laws_big.f l0 = some false)
 (e1 : ∃ k, l5Draw_f k l0 = some (r1_0, r1_1, r1_2, r1_3))
 (e2 : mAddF r1_0 r1_1 ⟨r1_2, r1_3⟩ = (r2_0, bI))
 (e2_hz0_ : r1_0.length ≤ 1048576 ∧ r1_1.length ≤ 1048576 ∧ (∀ x ∈ r1_1, x.f1.length ≤ 1048576) ∧ r1_3.length ≤ 1048576)
 (e3 : ∃ k, spec_AddFact.f k r1_0 r1_1 r1_2 r1_3 = some (r2_0, bI))
 (e4 : ∃ k, spec_EqualFacts.f k r2_0 r2_0 = some true)
 (e5 : ∃ k, impl_IsDatabase.f k r1_0 r1_1 = some r5_0)
 (e6 : ∃ k, spec_IsDatabase.f k r1_0 r1_1 = some r5_0)
 (e7 : ∃ k, l5Draw_f k l0 = some (r7_0, r7_1, r7_2, r7_3))
 (e8 : ∃ k, impl_RemoveFact.f k r7_0 r7_1 r7_2 r7_3 = some (r8_0, bG))
 (e9 : ∃ k, spec_RemoveFact.f k r7_0 r7_1 r7_2 r7_3 = some (r8_0, bG))
 (e10 : ∃ k, spec_EqualFacts.f k r8_0 r8_0 = some true)
 (e11 : ∃ k, impl_IsFact.f k r1_0 r1_2 r1_3 = some r11_0)
 (e12 : ∃ k, spec_IsFact.f k r1_0 r1_2 r1_3 = some r11_0)
 (e13 : bG = true → ∃ k, impl_HasFact.f k r8_0 r7_2 r7_3 = some false)
 (e14 : bI = true → ∃ k, impl_RemoveFact.f k r1_0 r2_0 r1_2 r1_3 = some (r14_0, true))
 (e15 : bI = true → ∃ k, impl_EqualFacts.f k r14_0 r1_1 = some true)
 (e16 : bI = true → ∃ k, impl_HasFact.f k r2_0 r1_2 r1_3 = some true)
 (e17 : bI = true → ∃ k, impl_HasFact.f k r1_1 r1_2 r1_3 = some false)
 (e18 : bI = true → ∃ k, impl_IsDatabase.f k r1_0 r2_0 = some true)
 (ce19 : bI = true → (r2_0.length : Int) = ((r1_1.length : Int) + 1)) (ce19w : bI = true → wrap64 ((r1_1.length : Int) + 1) = ((r1_1.length : Int) + 1)) :
    Calls Try.prog 4 #[.slice A0 l0.length c0] w fun e w' => e = .returned (.bool true) ∧ Below w.heap.size w w' := by
  have H0 := Aside0.mk hr0
  have HC0 := Aside0.mk hc0
  clear hr0 hc0
  have Ee0 := Aside0.mk e0; clear e0
  obtain ⟨ke1, q_⟩ := e1; have Ee1 := Aside0.mk q_; clear q_
  have e2_hz0 := Aside0.mk e2_hz0_; clear e2_hz0_
  have Ee2 := Aside0.mk e2; clear e2
  obtain ⟨ke3, q_⟩ := e3; have Ee3 := Aside0.mk q_; clear q_
  obtain ⟨ke4, q_⟩ := e4; have Ee4 := Aside0.mk q_; clear q_
  obtain ⟨ke5, q_⟩ := e5; have Ee5 := Aside0.mk q_; clear q_
  obtain ⟨ke6, q_⟩ := e6; have Ee6 := Aside0.mk q_; clear q_
  obtain ⟨ke7, q_⟩ := e7; have Ee7 := Aside0.mk q_; clear q_
  obtain ⟨ke8, q_⟩ := e8; have Ee8 := Aside0.mk q_; clear q_
  obtain ⟨ke9, q_⟩ := e9; have Ee9 := Aside0.mk q_; clear q_
  obtain ⟨ke10, q_⟩ := e10; have Ee10 := Aside0.mk q_; clear q_
  obtain ⟨ke11, q_⟩ := e11; have Ee11 := Aside0.mk q_; clear q_
  obtain ⟨ke12, q_⟩ := e12; have Ee12 := Aside0.mk q_; clear q_
  have Ce13 := Aside0.mk e13; clear e13
  have Ce14 := Aside0.mk e14; clear e14
  have Ce15 := Aside0.mk e15; clear e15
  have Ce16 := Aside0.mk e16; clear e16
  have Ce17 := Aside0.mk e17; clear e17
  have Ce18 := Aside0.mk e18; clear e18
  have Ce19 := Aside0.mk ce19; clear ce19; have Ce19w := Aside0.mk ce19w; clear ce19w
  have HB := Aside0.mk (Below.refl w.heap.size w)
  have hu34 := Try.underlying34
  have hu37 := Try.underlying37
  go_enter Try.func4, Try.ntmps4
  go_wp2_with (first | (go_at_call 22; refine hold ?_))
  unfold Hold
  refine (laws_big.calls _ _ l0 false _ (Kd.C_below H0.out HB.out) HC0.out Ee0.out).mono ?_
  rintro e w1_ ⟨rfl, hd⟩
  have hb := hd.below; clear hd
  have Z1_ := Aside0.mk (show w.heap.size ≤ w1_.heap.size from hb.size)
  replace HB := Aside0.mk (below_step HB.out hb)
  clear hb
  go_wp2_with (first | (go_at_call 23; refine hold ?_))
  unfold Hold
  refine (spec_DrawAddFact_calls ke1 _ _ l0 r1_0 r1_1 r1_2 r1_3 _ (Kd.C_below H0.out HB.out) HC0.out Ee1.out).mono ?_
  rintro e w2_ ⟨v2_0_, v2_1_, v2_2_, rfl, ho0, ho1, ho2, hb⟩
  have O2_0 := Aside0.mk (newR ho0 HB.out.size)
  have O2_1 := Aside0.mk (newS ho1 HB.out.size)
  have O2_2 := Aside0.mk (newR ho2 HB.out.size)
  have Z2_ := Aside0.mk (show w1_.heap.size ≤ w2_.heap.size from hb.size)
  replace HB := Aside0.mk (below_step HB.out hb)
  clear hb ho0 ho1 ho2
  obtain ⟨A2_0_, c2_0_, eq_⟩ := Kd.R_slice O2_0.out
  subst eq_
  obtain ⟨A2_1_, c2_1_, eq_⟩ := Kd.S_slice O2_1.out
  subst eq_
  obtain ⟨A2_2_, c2_2_, eq_⟩ := Kd.R_slice O2_2.out
  subst eq_
  go_wp2_with (first | ((with_reducible refine gate_dst (N := 3) rfl ?_); refine hold ?_))
  unfold Hold
  refine box_event ?hg (N := 3) ?hd (cs := #[.slice none 0 0]) (t := 34) ?hr ?_
  case hd => rfl
  case hg => rfl
  case hr => first | (go_simp; done) | (go_simp; rfl)
  intro g3 hg w3_ hbox hb
  have Bg3 := Aside0.mk hbox
  have Gg3 := Aside0.mk (show w2_.heap.size ≤ g3 ∧ g3 < w3_.heap.size from ⟨by rw [hg]; exact Nat.le_refl _, blk_lt hbox⟩)
  clear hbox hg
  have Z3_ := Aside0.mk (show w2_.heap.size ≤ w3_.heap.size from hb.size)
  replace O2_0 := Aside0.mk (Kd.R_below O2_0.out hb)
  replace O2_1 := Aside0.mk (Kd.S_below O2_1.out hb)
  replace O2_2 := Aside0.mk (Kd.R_below O2_2.out hb)
  replace HB := Aside0.mk (below_step HB.out hb)
  clear hb
  go_wp2_with (first | ((with_reducible refine gate_dst (N := 5) rfl ?_); refine hold ?_))
  unfold Hold
  refine box_event ?hg (N := 5) ?hd (cs := #[.int .i64 0, .slice none 0 0]) (t := 37) ?hr ?_
  case hd => rfl
  case hg => rfl
  case hr => first | (go_simp; done) | (go_simp; rfl)
  intro g4 hg w4_ hbox hb
  have Bg4 := Aside0.mk hbox
  have Gg4 := Aside0.mk (show w3_.heap.size ≤ g4 ∧ g4 < w4_.heap.size from ⟨by rw [hg]; exact Nat.le_refl _, blk_lt hbox⟩)
  clear hbox hg
  have Z4_ := Aside0.mk (show w3_.heap.size ≤ w4_.heap.size from hb.size)
  replace O2_0 := Aside0.mk (Kd.R_below O2_0.out hb)
  replace O2_1 := Aside0.mk (Kd.S_below O2_1.out hb)
  replace O2_2 := Aside0.mk (Kd.R_below O2_2.out hb)
  replace Bg3 := Aside0.mk (blk_below Bg3.out hb)
  replace HB := Aside0.mk (below_step HB.out hb)
  have hxg3_0 : w4_.cell? ⟨g3, 0, none⟩ = some (.slice none 0 0) := (blk_cell Bg3.out 0).trans rfl
  have hfg3_0 := blk_frozen Bg3.out 0
  clear hb
  go_wp2_with (first | ((with_reducible refine gate_store (t := 34) (p := 3) rfl ?_); refine hold ?_))
  unfold Hold
  refine store_event (t := 34) (p := 3) (v := ?vo4) (w1 := (w4_.setCell ⟨g3, 0, none⟩ (.slice A2_0_ r1_0.length c2_0_))) ?hg ?ho ?hn ?hr ?_
  case ho => rfl
  case hg => rfl
  case hn => rfl
  case hr => first | (go_simp; done) | (go_simp; rfl)
  intro w5_ hw
  have hk : Kept w4_ w5_ (fun k => k = g3) := by rw [hw]; exact kept_one _
  have hb0 : Below w.heap.size w w5_ := by rw [hw]; exact (below_set HB.out (Nat.le_trans (by have z1_ := Z1_.out; have z2_ := Z2_.out; omega) Gg3.out.1))
  have n_ := Aside0.mk (show w5_.heap[g3]? = some (.cells #[.slice A2_0_ r1_0.length c2_0_] 34 (0, 0)) by rw [hw]; exact (blk_put (cs := #[.slice none 0 0]) (cs' := #[.slice A2_0_ r1_0.length c2_0_]) Bg3.out 0 _ rfl))
  clear Bg3; have Bg3 := n_; clear n_ hw
  have Z5_ := Aside0.mk (show w4_.heap.size ≤ w5_.heap.size from hk.1)
  have n_ := Aside0.mk (Kd.R_kept O2_0.out hk (fun k_ hk1 hk2 => by obtain ⟨a1_, a2_⟩ := hk1.1; have e_ : k_ = g3 := hk2; obtain ⟨b1_, b2_⟩ := Gg3.out; omega)); clear O2_0; have O2_0 := n_; clear n_
  have n_ := Aside0.mk (Kd.S_kept O2_1.out hk (fun k_ hk1 hk2 => by obtain ⟨a1_, a2_⟩ := hk1.1; have e_ : k_ = g3 := hk2; obtain ⟨b1_, b2_⟩ := Gg3.out; omega)); clear O2_1; have O2_1 := n_; clear n_
  have n_ := Aside0.mk (Kd.R_kept O2_2.out hk (fun k_ hk1 hk2 => by obtain ⟨a1_, a2_⟩ := hk1.1; have e_ : k_ = g3 := hk2; obtain ⟨b1_, b2_⟩ := Gg3.out; omega)); clear O2_2; have O2_2 := n_; clear n_
  have n_ := Aside0.mk (blk_kept Bg4.out hk (fun hk2 => by obtain ⟨a1_, a2_⟩ := Gg4.out; have e_ : g4 = g3 := hk2; obtain ⟨b1_, b2_⟩ := Gg3.out; omega)); clear Bg4; have Bg4 := n_; clear n_
  clear HB; have HB := Aside0.mk hb0
  clear hxg3_0
  clear hfg3_0
  have hxg4_0 : w5_.cell? ⟨g4, 0, none⟩ = some (.int .i64 0) := (blk_cell Bg4.out 0).trans rfl
  have hxg4_1 : w5_.cell? ⟨g4, 1, none⟩ = some (.slice none 0 0) := (blk_cell Bg4.out 1).trans rfl
  have hfg4_0 := blk_frozen Bg4.out 0
  have hfg4_1 := blk_frozen Bg4.out 1
  clear hk hb0
  go_wp2_with (first | ((with_reducible refine gate_store (t := 37) (p := 5) rfl ?_); refine hold ?_))
  unfold Hold
  refine store_event (t := 37) (p := 5) (v := ?vo5) (w1 := ((w5_.setCell ⟨g4, 0, none⟩ (.int .i64 r1_2)).setCell ⟨g4, 1, none⟩ (.slice A2_2_ r1_3.length c2_2_))) ?hg ?ho ?hn ?hr ?_
  case ho => rfl
  case hg => rfl
  case hn => rfl
  case hr => first | (go_simp; done) | (go_simp; rfl)
  intro w6_ hw
  have hk : Kept w5_ w6_ (fun k => k = g4) := by rw [hw]; exact kept_two _ _
  have hb0 : Below w.heap.size w w6_ := by rw [hw]; exact (below_set (below_set HB.out (Nat.le_trans (by have z1_ := Z1_.out; have z2_ := Z2_.out; have z3_ := Z3_.out; omega) Gg4.out.1)) (Nat.le_trans (by have z1_ := Z1_.out; have z2_ := Z2_.out; have z3_ := Z3_.out; omega) Gg4.out.1))
  have n_ := Aside0.mk (show w6_.heap[g4]? = some (.cells #[.int .i64 r1_2, .slice A2_2_ r1_3.length c2_2_] 37 (0, 0)) by rw [hw]; exact (blk_put (cs := #[.int .i64 r1_2, .slice none 0 0]) (cs' := #[.int .i64 r1_2, .slice A2_2_ r1_3.length c2_2_]) (blk_put (cs := #[.int .i64 0, .slice none 0 0]) (cs' := #[.int .i64 r1_2, .slice none 0 0]) Bg4.out 0 _ rfl) 1 _ rfl))
  clear Bg4; have Bg4 := n_; clear n_ hw
  have Z6_ := Aside0.mk (show w5_.heap.size ≤ w6_.heap.size from hk.1)
  have n_ := Aside0.mk (Kd.R_kept O2_0.out hk (fun k_ hk1 hk2 => by obtain ⟨a1_, a2_⟩ := hk1.1; have e_ : k_ = g4 := hk2; obtain ⟨b1_, b2_⟩ := Gg4.out; have z3_ := Z3_.out; omega)); clear O2_0; have O2_0 := n_; clear n_
  have n_ := Aside0.mk (Kd.S_kept O2_1.out hk (fun k_ hk1 hk2 => by obtain ⟨a1_, a2_⟩ := hk1.1; have e_ : k_ = g4 := hk2; obtain ⟨b1_, b2_⟩ := Gg4.out; have z3_ := Z3_.out; omega)); clear O2_1; have O2_1 := n_; clear n_
  have n_ := Aside0.mk (Kd.R_kept O2_2.out hk (fun k_ hk1 hk2 => by obtain ⟨a1_, a2_⟩ := hk1.1; have e_ : k_ = g4 := hk2; obtain ⟨b1_, b2_⟩ := Gg4.out; have z3_ := Z3_.out; omega)); clear O2_2; have O2_2 := n_; clear n_
  have n_ := Aside0.mk (blk_kept Bg3.out hk (fun hk2 => by obtain ⟨a1_, a2_⟩ := Gg3.out; have e_ : g3 = g4 := hk2; obtain ⟨b1_, b2_⟩ := Gg4.out; omega)); clear Bg3; have Bg3 := n_; clear n_
  clear HB; have HB := Aside0.mk hb0
  clear hxg4_0
  clear hxg4_1
  clear hfg4_0
  clear hfg4_1
  have hxg3_0 : w6_.cell? ⟨g3, 0, none⟩ = some (.slice A2_0_ r1_0.length c2_0_) := (blk_cell Bg3.out 0).trans rfl
  have hxg4_0 : w6_.cell? ⟨g4, 0, none⟩ = some (.int .i64 r1_2) := (blk_cell Bg4.out 0).trans rfl
  have hxg4_1 : w6_.cell? ⟨g4, 1, none⟩ = some (.slice A2_2_ r1_3.length c2_2_) := (blk_cell Bg4.out 1).trans rfl
  clear hk hb0
  go_wp2_with (first | (go_at_call 14; refine hold ?_))
  unfold Hold
  refine (impl_AddFact_calls _ _ r1_0 _ _ r1_1 r1_2 _ _ r1_3 r2_0 bI _ (Kd.R_reads' O2_0.out).2.2 (Kd.R_reads' O2_0.out).2.1 (Kd.S_reads' O2_1.out).2.2 (Kd.S_reads' O2_1.out).2.1 (Kd.R_reads' O2_2.out).2.2 (Kd.R_reads' O2_2.out).2.1 e2_hz0.out Ee2.out).mono ?_
  rintro e w7_ ⟨v7_0_, rfl, ho0, hb⟩
  have O7_0 := Aside0.mk (newS ho0 HB.out.size)
  have Z7_ := Aside0.mk (show w6_.heap.size ≤ w7_.heap.size from hb.size)
  replace O2_0 := Aside0.mk (Kd.R_below O2_0.out hb)
  replace O2_1 := Aside0.mk (Kd.S_below O2_1.out hb)
  replace O2_2 := Aside0.mk (Kd.R_below O2_2.out hb)
  replace Bg3 := Aside0.mk (blk_below Bg3.out hb)
  replace Bg4 := Aside0.mk (blk_below Bg4.out hb)
  replace HB := Aside0.mk (below_step HB.out hb)
  clear hxg3_0
  clear hxg4_0
  clear hxg4_1
  have hxg3_0 : w7_.cell? ⟨g3, 0, none⟩ = some (.slice A2_0_ r1_0.length c2_0_) := (blk_cell Bg3.out 0).trans rfl
  have hxg4_0 : w7_.cell? ⟨g4, 0, none⟩ = some (.int .i64 r1_2) := (blk_cell Bg4.out 0).trans rfl
  have hxg4_1 : w7_.cell? ⟨g4, 1, none⟩ = some (.slice A2_2_ r1_3.length c2_2_) := (blk_cell Bg4.out 1).trans rfl
  clear hb ho0
  obtain ⟨A7_0_, c7_0_, eq_⟩ := Kd.S_slice O7_0.out
  subst eq_
  go_wp2_with (first | (go_at_call 10; refine hold ?_))
  unfold Hold
  refine (spec_AddFact.calls ke3 _ _ r1_0 _ _ r1_1 r1_2 _ _ r1_3 r2_0 bI _ (Kd.R_reads' O2_0.out).2.2 (Kd.R_reads' O2_0.out).2.1 (Kd.S_reads' O2_1.out).2.2 (Kd.S_reads' O2_1.out).2.1 (Kd.R_reads' O2_2.out).2.2 (Kd.R_reads' O2_2.out).2.1 Ee3.out).mono ?_
  rintro e w8_ ⟨v8_0_, rfl, ho0, hb⟩
  have O8_0 := Aside0.mk (newS ho0 HB.out.size)
  have Z8_ := Aside0.mk (show w7_.heap.size ≤ w8_.heap.size from hb.size)
  replace O2_0 := Aside0.mk (Kd.R_below O2_0.out hb)
  replace O2_1 := Aside0.mk (Kd.S_below O2_1.out hb)
  replace O2_2 := Aside0.mk (Kd.R_below O2_2.out hb)
  replace O7_0 := Aside0.mk (Kd.S_below O7_0.out hb)
  replace Bg3 := Aside0.mk (blk_below Bg3.out hb)
  replace Bg4 := Aside0.mk (blk_below Bg4.out hb)
  replace HB := Aside0.mk (below_step HB.out hb)
  clear hxg3_0
  clear hxg4_0
  clear hxg4_1
  clear hb ho0
  obtain ⟨A8_0_, c8_0_, eq_⟩ := Kd.S_slice O8_0.out
  subst eq_
  try go_wp2
  replace O2_0 := Aside0.mk (Kd.R_drew O2_0.out)
  replace O2_1 := Aside0.mk (Kd.S_drew O2_1.out)
  replace O2_2 := Aside0.mk (Kd.R_drew O2_2.out)
  replace O7_0 := Aside0.mk (Kd.S_drew O7_0.out)
  replace O8_0 := Aside0.mk (Kd.S_drew O8_0.out)
  replace Bg3 := Aside0.mk (blk_drew Bg3.out)
  replace Bg4 := Aside0.mk (blk_drew Bg4.out)
  replace HB := Aside0.mk (below_drew1 HB.out)
  have hz := Aside0.mk (show w8_.heap.size ≤ w8_.drew.heap.size from Nat.le_refl _)
  refine start_ (n := 18) (S := fun w' => w'.cell? ⟨g3, 0, none⟩ = some (.slice A2_0_ r1_0.length c2_0_)) (ds := []) #[yf,yf,yf,yf,yf,yf,yf,yf,yf,yf,yf,yf,yf,yf,yf,yf,yf,yf] (by kernel_rfl) rfl rfl ((blk_cell Bg3.out 0).trans rfl) (fun hHeld => ?_)
  generalize w8_.drew = w9_ at O2_0 O2_1 O2_2 O7_0 O8_0 Bg3 Bg4 HB hz hHeld ⊢
  have Z9_ := hz; clear hz
  refine pure_ (i := 0) (N := some 41) (v := ?_) (a' := ?_) #[yt,yf,yf,yf,yf,yf,yf,yf,yf,yf,yf,yf,yf,yf,yf,yf,yf,yf] rfl rfl (by kernel_rfl) (fun _ _ _ h => h) (Or.inl ⟨by rfl, ?_⟩) ?_ ?_
  rotate_left
  · intro w'; go_simp; with_reducible rfl
  rotate_left
  · simp only [Act.put, zO, zEb, zFb, i64_w, i32_w]; rfl
  refine pure_ (i := 1) (N := some 42) (v := ?_) (a' := ?_) #[yt,yt,yf,yf,yf,yf,yf,yf,yf,yf,yf,yf,yf,yf,yf,yf,yf,yf] rfl rfl (by kernel_rfl) (fun _ _ _ h => h) (Or.inl ⟨by rfl, ?_⟩) ?_ ?_
  rotate_left
  · intro w'; go_simp; with_reducible rfl
  rotate_left
  · simp only [Act.put, zO, zEb, zFb, i64_w, i32_w]; rfl
  refine pure_ (i := 2) (N := some 43) (v := ?_) (a' := ?_) #[yt,yt,yt,yf,yf,yf,yf,yf,yf,yf,yf,yf,yf,yf,yf,yf,yf,yf] rfl rfl (by kernel_rfl) (fun _ _ _ h => h) (Or.inl ⟨by rfl, ?_⟩) ?_ ?_
  rotate_left
  · intro w'; go_simp; (try simp only [bne_self_eq_false, beq_self_eq_true]); with_reducible rfl
  rotate_left
  · simp only [Act.put, zO, zEb, zFb, i64_w, i32_w]; rfl
  refine pure_ (i := 3) (N := some 44) (v := ?_) (a' := ?_) #[yt,yt,yt,yt,yf,yf,yf,yf,yf,yf,yf,yf,yf,yf,yf,yf,yf,yf] rfl rfl (by kernel_rfl) (fun _ _ _ h => h) (Or.inl ⟨by rfl, ?_⟩) ?_ ?_
  rotate_left
  · intro w'; go_simp; with_reducible rfl
  rotate_left
  · simp only [Act.put, zO, zEb, zFb, i64_w, i32_w]; rfl
  refine pure_ (i := 4) (N := some 45) (v := ?_) (a' := ?_) #[yt,yt,yt,yt,yt,yf,yf,yf,yf,yf,yf,yf,yf,yf,yf,yf,yf,yf] rfl rfl (by kernel_rfl) (fun _ _ _ h => h) (Or.inl ⟨by rfl, ?_⟩) ?_ ?_
  rotate_left
  · intro w'; go_simp; with_reducible rfl
  rotate_left
  · simp only [Act.put, zO, zEb, zFb, i64_w, i32_w]; rfl
  refine pure_ (i := 5) (N := some 46) (v := ?_) (a' := ?_) #[yt,yt,yt,yt,yt,yt,yf,yf,yf,yf,yf,yf,yf,yf,yf,yf,yf,yf] rfl rfl (by kernel_rfl) (fun _ _ _ h => h) (Or.inl ⟨by rfl, ?_⟩) ?_ ?_
  rotate_left
  · intro w'; go_simp; with_reducible rfl
  rotate_left
  · simp only [Act.put, zO, zEb, zFb, i64_w, i32_w]; rfl
  refine one_ (i := 6) (N := some 47) #[yt,yt,yt,yt,yt,yt,yt,yf,yf,yf,yf,yf,yf,yf,yf,yf,yf,yf] rfl rfl (by kernel_rfl) (by decide) (fun K hK => ?_)
  refine goes_ Try.func24 (by kernel_rfl) rfl #[.slice A7_0_ r2_0.length c7_0_, .slice A8_0_ r2_0.length c8_0_] (by rfl) rfl rfl (by (try simp only [List.map_toArray, List.map_cons, List.map_nil]); first | done | rfl) ?_
  with_reducible refine (spec_EqualFacts.calls ke4 _ _ r2_0 _ _ r2_0 true _ (Kd.S_reads' O7_0.out).2.2 (Kd.S_reads' O7_0.out).2.1 (Kd.S_reads' O8_0.out).2.2 (Kd.S_reads' O8_0.out).2.1 Ee4.out).mono ?_
  rintro e w10_ ⟨rfl, hb⟩
  refine ⟨_, rfl, ?_⟩
  have Z10_ := Aside0.mk (show w9_.heap.size ≤ w10_.heap.size from hb.size)
  replace O2_0 := Aside0.mk (Kd.R_below O2_0.out hb)
  replace O2_1 := Aside0.mk (Kd.S_below O2_1.out hb)
  replace O2_2 := Aside0.mk (Kd.R_below O2_2.out hb)
  replace O7_0 := Aside0.mk (Kd.S_below O7_0.out hb)
  replace O8_0 := Aside0.mk (Kd.S_below O8_0.out hb)
  replace Bg3 := Aside0.mk (blk_below Bg3.out hb)
  replace Bg4 := Aside0.mk (blk_below Bg4.out hb)
  replace HB := Aside0.mk (below_step HB.out hb)
  clear O8_0
  have hxg3_0 : w10_.cell? ⟨g3, 0, none⟩ = some (.slice A2_0_ r1_0.length c2_0_) := (blk_cell Bg3.out 0).trans rfl
  clear hb
  clear hxg3_0
  refine hK.out _ _ ((blk_cell Bg3.out 0).trans rfl) (fun hHeld => ?_)
  clear hK K
  refine norm_ (a' := ?_) ?_ ?_
  rotate_left
  · show Act.put _ (some 47) _ = _; simp only [Act.put, zO, zEb, zFb, i64_w, i32_w]; rfl
  refine pure_ (i := 7) (N := some 48) (v := ?_) (a' := ?_) #[yt,yt,yt,yt,yt,yt,yt,yt,yf,yf,yf,yf,yf,yf,yf,yf,yf,yf] rfl rfl (by kernel_rfl) (fun _ _ _ h => h) (Or.inl ⟨by rfl, ?_⟩) ?_ ?_
  rotate_left
  · intro w'; go_simp; with_reducible rfl
  rotate_left
  · simp only [Act.put, zO, zEb, zFb, i64_w, i32_w]; rfl
  refine pure_ (i := 8) (N := some 49) (v := ?_) (a' := ?_) #[yt,yt,yt,yt,yt,yt,yt,yt,yt,yf,yf,yf,yf,yf,yf,yf,yf,yf] rfl rfl (by kernel_rfl) (fun _ _ _ h => h) (Or.inl ⟨by rfl, ?_⟩) ?_ ?_
  rotate_left
  · intro w'; go_simp; with_reducible rfl
  rotate_left
  · simp only [Act.put, zO, zEb, zFb, i64_w, i32_w]; rfl
  refine pure_ (i := 9) (N := some 50) (v := ?_) (a' := ?_) #[yt,yt,yt,yt,yt,yt,yt,yt,yt,yt,yf,yf,yf,yf,yf,yf,yf,yf] rfl rfl (by kernel_rfl) (fun _ _ _ h => h) (Or.inl ⟨by rfl, ?_⟩) ?_ ?_
  rotate_left
  · intro w'; go_simp; with_reducible rfl
  rotate_left
  · simp only [Act.put, zO, zEb, zFb, i64_w, i32_w]; rfl
  refine take_ (i := 10) (N := some 51) (v := ?_) (a' := ?_) #[yt,yt,yt,yt,yt,yt,yt,yt,yt,yt,yt,yf,yf,yf,yf,yf,yf,yf] rfl rfl (by kernel_rfl) (fun _ _ _ h => h) (Or.inl ⟨by rfl, ?_⟩) hHeld ?_ ?_
  rotate_left
  · rintro w' s0; go_simp; with_reducible rfl
  rotate_left
  · simp only [Act.put, zO, zEb, zFb, i64_w, i32_w]; rfl
  refine pure_ (i := 11) (N := some 52) (v := ?_) (a' := ?_) #[yt,yt,yt,yt,yt,yt,yt,yt,yt,yt,yt,yt,yf,yf,yf,yf,yf,yf] rfl rfl (by kernel_rfl) (fun _ _ _ h => h) (Or.inl ⟨by rfl, ?_⟩) ?_ ?_
  rotate_left
  · intro w'; go_simp; with_reducible rfl
  rotate_left
  · simp only [Act.put, zO, zEb, zFb, i64_w, i32_w]; rfl
  refine take_ (i := 13) (N := some 54) (v := ?_) (a' := ?_) #[yt,yt,yt,yt,yt,yt,yt,yt,yt,yt,yt,yt,yf,yt,yf,yf,yf,yf] rfl rfl (by kernel_rfl) (fun _ _ _ h => h) (Or.inl ⟨by rfl, ?_⟩) hHeld ?_ ?_
  rotate_left
  · rintro w' s0; go_simp; with_reducible rfl
  rotate_left
  · simp only [Act.put, zO, zEb, zFb, i64_w, i32_w]; rfl
  refine pure_ (i := 14) (N := some 55) (v := ?_) (a' := ?_) #[yt,yt,yt,yt,yt,yt,yt,yt,yt,yt,yt,yt,yf,yt,yt,yf,yf,yf] rfl rfl (by kernel_rfl) (fun _ _ _ h => h) (Or.inl ⟨by rfl, ?_⟩) ?_ ?_
  rotate_left
  · intro w'; go_simp; with_reducible rfl
  rotate_left
  · simp only [Act.put, zO, zEb, zFb, i64_w, i32_w]; rfl
  refine one_ (i := 12) (N := some 53) #[yt,yt,yt,yt,yt,yt,yt,yt,yt,yt,yt,yt,yt,yt,yt,yf,yf,yf] rfl rfl (by kernel_rfl) (by decide) (fun K hK => ?_)
  refine goes_ Try.func25 (by kernel_rfl) rfl #[.agg #[.slice A2_0_ r1_0.length c2_0_], .slice A2_1_ r1_1.length c2_1_] (by rfl) rfl rfl (by (try simp only [List.map_toArray, List.map_cons, List.map_nil]); first | done | rfl) ?_
  with_reducible refine (impl_IsDatabase.calls ke5 _ _ r1_0 _ _ r1_1 r5_0 _ (Kd.R_reads' O2_0.out).2.2 (Kd.R_reads' O2_0.out).2.1 (Kd.S_reads' O2_1.out).2.2 (Kd.S_reads' O2_1.out).2.1 Ee5.out).mono ?_
  rintro e w11_ ⟨rfl, hb⟩
  refine ⟨_, rfl, ?_⟩
  have Z11_ := Aside0.mk (show w10_.heap.size ≤ w11_.heap.size from hb.size)
  replace O2_0 := Aside0.mk (Kd.R_below O2_0.out hb)
  replace O2_1 := Aside0.mk (Kd.S_below O2_1.out hb)
  replace O2_2 := Aside0.mk (Kd.R_below O2_2.out hb)
  replace O7_0 := Aside0.mk (Kd.S_below O7_0.out hb)
  replace Bg3 := Aside0.mk (blk_below Bg3.out hb)
  replace Bg4 := Aside0.mk (blk_below Bg4.out hb)
  replace HB := Aside0.mk (below_step HB.out hb)
  clear hb
  refine hK.out _ _ ((blk_cell Bg3.out 0).trans rfl) (fun hHeld => ?_)
  clear hK K
  refine norm_ (a' := ?_) ?_ ?_
  rotate_left
  · show Act.put _ (some 53) _ = _; simp only [Act.put, zO, zEb, zFb, i64_w, i32_w]; rfl
  refine one_ (i := 15) (N := some 56) #[yt,yt,yt,yt,yt,yt,yt,yt,yt,yt,yt,yt,yt,yt,yt,yt,yf,yf] rfl rfl (by kernel_rfl) (by decide) (fun K hK => ?_)
  refine goes_ Try.func26 (by kernel_rfl) rfl #[.agg #[.slice A2_0_ r1_0.length c2_0_], .slice A2_1_ r1_1.length c2_1_] (by rfl) rfl rfl (by (try simp only [List.map_toArray, List.map_cons, List.map_nil]); first | done | rfl) ?_
  with_reducible refine (spec_IsDatabase.calls ke6 _ _ r1_0 _ _ r1_1 r5_0 _ (Kd.R_reads' O2_0.out).2.2 (Kd.R_reads' O2_0.out).2.1 (Kd.S_reads' O2_1.out).2.2 (Kd.S_reads' O2_1.out).2.1 Ee6.out).mono ?_
  rintro e w12_ ⟨rfl, hb⟩
  refine ⟨_, rfl, ?_⟩
  have Z12_ := Aside0.mk (show w11_.heap.size ≤ w12_.heap.size from hb.size)
  replace O2_0 := Aside0.mk (Kd.R_below O2_0.out hb)
  replace O2_1 := Aside0.mk (Kd.S_below O2_1.out hb)
  replace O2_2 := Aside0.mk (Kd.R_below O2_2.out hb)
  replace O7_0 := Aside0.mk (Kd.S_below O7_0.out hb)
  replace Bg3 := Aside0.mk (blk_below Bg3.out hb)
  replace Bg4 := Aside0.mk (blk_below Bg4.out hb)
  replace HB := Aside0.mk (below_step HB.out hb)
  have hxg3_0 : w12_.cell? ⟨g3, 0, none⟩ = some (.slice A2_0_ r1_0.length c2_0_) := (blk_cell Bg3.out 0).trans rfl
  have hxg4_0 : w12_.cell? ⟨g4, 0, none⟩ = some (.int .i64 r1_2) := (blk_cell Bg4.out 0).trans rfl
  have hxg4_1 : w12_.cell? ⟨g4, 1, none⟩ = some (.slice A2_2_ r1_3.length c2_2_) := (blk_cell Bg4.out 1).trans rfl
  clear hb
  clear hxg3_0
  clear hxg4_0
  clear hxg4_1
  refine hK.out _ _ ((blk_cell Bg3.out 0).trans rfl) (fun hHeld => ?_)
  clear hK K
  refine norm_ (a' := ?_) ?_ ?_
  rotate_left
  · show Act.put _ (some 56) _ = _; simp only [Act.put, zO, zEb, zFb, i64_w, i32_w]; rfl
  refine pure_ (i := 16) (N := some 57) (v := ?_) (a' := ?_) #[yt,yt,yt,yt,yt,yt,yt,yt,yt,yt,yt,yt,yt,yt,yt,yt,yt,yf] rfl rfl (by kernel_rfl) (fun _ _ _ h => h) (Or.inl ⟨by rfl, ?_⟩) ?_ ?_
  rotate_left
  · intro w'; go_simp; (try simp only [bne_self_eq_false, beq_self_eq_true]); with_reducible rfl
  rotate_left
  · simp only [Act.put, zO, zEb, zFb, i64_w, i32_w]; rfl
  refine pure_ (i := 17) (N := some 58) (v := ?_) (a' := ?_) #[yt,yt,yt,yt,yt,yt,yt,yt,yt,yt,yt,yt,yt,yt,yt,yt,yt,yt] rfl rfl (by kernel_rfl) (fun _ _ _ h => h) (Or.inl ⟨by rfl, ?_⟩) ?_ ?_
  rotate_left
  · intro w'; go_simp; with_reducible rfl
  rotate_left
  · simp only [Act.put, zO, zEb, zFb, i64_w, i32_w]; rfl
  refine done_ (by kernel_rfl) ?_
  have hxg3_0 : w12_.cell? ⟨g3, 0, none⟩ = some (.slice A2_0_ r1_0.length c2_0_) := (blk_cell Bg3.out 0).trans rfl
  have hxg4_0 : w12_.cell? ⟨g4, 0, none⟩ = some (.int .i64 r1_2) := (blk_cell Bg4.out 0).trans rfl
  have hxg4_1 : w12_.cell? ⟨g4, 1, none⟩ = some (.slice A2_2_ r1_3.length c2_2_) := (blk_cell Bg4.out 1).trans rfl
  cases bI
  case false =>
    skip
    go_wp2_with (first | (go_at_call 30; refine hold ?_))
    unfold Hold
    refine (spec_DrawRemoveFact_calls ke7 _ _ l0 r7_0 r7_1 r7_2 r7_3 _ (Kd.C_below H0.out HB.out) HC0.out Ee7.out).mono ?_
    rintro e w13_ ⟨v13_0_, v13_1_, v13_2_, rfl, ho0, ho1, ho2, hb⟩
    have O13_0 := Aside0.mk (newR ho0 HB.out.size)
    have O13_1 := Aside0.mk (newS ho1 HB.out.size)
    have O13_2 := Aside0.mk (newR ho2 HB.out.size)
    have Z13_ := Aside0.mk (show w12_.heap.size ≤ w13_.heap.size from hb.size)
    replace O2_0 := Aside0.mk (Kd.R_below O2_0.out hb)
    replace O2_1 := Aside0.mk (Kd.S_below O2_1.out hb)
    replace O2_2 := Aside0.mk (Kd.R_below O2_2.out hb)
    replace O7_0 := Aside0.mk (Kd.S_below O7_0.out hb)
    replace Bg3 := Aside0.mk (blk_below Bg3.out hb)
    replace Bg4 := Aside0.mk (blk_below Bg4.out hb)
    replace HB := Aside0.mk (below_step HB.out hb)
    clear hxg3_0
    clear hxg4_0
    clear hxg4_1
    clear hb ho0 ho1 ho2
    obtain ⟨A13_0_, c13_0_, eq_⟩ := Kd.R_slice O13_0.out
    subst eq_
    obtain ⟨A13_1_, c13_1_, eq_⟩ := Kd.S_slice O13_1.out
    subst eq_
    obtain ⟨A13_2_, c13_2_, eq_⟩ := Kd.R_slice O13_2.out
    subst eq_
    go_wp2_with (first | ((with_reducible refine gate_dst (N := 12) rfl ?_); refine hold ?_))
    unfold Hold
    refine box_event ?hg (N := 12) ?hd (cs := #[.slice none 0 0]) (t := 34) ?hr ?_
    case hd => rfl
    case hg => rfl
    case hr => first | (go_simp; done) | (go_simp; rfl)
    intro g11 hg w14_ hbox hb
    have Bg11 := Aside0.mk hbox
    have Gg11 := Aside0.mk (show w13_.heap.size ≤ g11 ∧ g11 < w14_.heap.size from ⟨by rw [hg]; exact Nat.le_refl _, blk_lt hbox⟩)
    clear hbox hg
    have Z14_ := Aside0.mk (show w13_.heap.size ≤ w14_.heap.size from hb.size)
    replace O2_0 := Aside0.mk (Kd.R_below O2_0.out hb)
    replace O2_1 := Aside0.mk (Kd.S_below O2_1.out hb)
    replace O2_2 := Aside0.mk (Kd.R_below O2_2.out hb)
    replace O7_0 := Aside0.mk (Kd.S_below O7_0.out hb)
    replace O13_0 := Aside0.mk (Kd.R_below O13_0.out hb)
    replace O13_1 := Aside0.mk (Kd.S_below O13_1.out hb)
    replace O13_2 := Aside0.mk (Kd.R_below O13_2.out hb)
    replace Bg3 := Aside0.mk (blk_below Bg3.out hb)
    replace Bg4 := Aside0.mk (blk_below Bg4.out hb)
    replace HB := Aside0.mk (below_step HB.out hb)
    have hxg4_0 : w14_.cell? ⟨g4, 0, none⟩ = some (.int .i64 r1_2) := (blk_cell Bg4.out 0).trans rfl
    have hxg4_1 : w14_.cell? ⟨g4, 1, none⟩ = some (.slice A2_2_ r1_3.length c2_2_) := (blk_cell Bg4.out 1).trans rfl
    clear hb
    go_wp2_with (first | ((with_reducible refine gate_dst (N := 14) rfl ?_); refine hold ?_))
    unfold Hold
    refine box_event ?hg (N := 14) ?hd (cs := #[.int .i64 0, .slice none 0 0]) (t := 37) ?hr ?_
    case hd => rfl
    case hg => rfl
    case hr => first | (go_simp; done) | (go_simp; rfl)
    intro g12 hg w15_ hbox hb
    have Bg12 := Aside0.mk hbox
    have Gg12 := Aside0.mk (show w14_.heap.size ≤ g12 ∧ g12 < w15_.heap.size from ⟨by rw [hg]; exact Nat.le_refl _, blk_lt hbox⟩)
    clear hbox hg
    have Z15_ := Aside0.mk (show w14_.heap.size ≤ w15_.heap.size from hb.size)
    replace O2_0 := Aside0.mk (Kd.R_below O2_0.out hb)
    replace O2_1 := Aside0.mk (Kd.S_below O2_1.out hb)
    replace O2_2 := Aside0.mk (Kd.R_below O2_2.out hb)
    replace O7_0 := Aside0.mk (Kd.S_below O7_0.out hb)
    replace O13_0 := Aside0.mk (Kd.R_below O13_0.out hb)
    replace O13_1 := Aside0.mk (Kd.S_below O13_1.out hb)
    replace O13_2 := Aside0.mk (Kd.R_below O13_2.out hb)
    replace Bg3 := Aside0.mk (blk_below Bg3.out hb)
    replace Bg4 := Aside0.mk (blk_below Bg4.out hb)
    replace Bg11 := Aside0.mk (blk_below Bg11.out hb)
    replace HB := Aside0.mk (below_step HB.out hb)
    clear hxg4_0
    clear hxg4_1
    have hxg4_0 : w15_.cell? ⟨g4, 0, none⟩ = some (.int .i64 r1_2) := (blk_cell Bg4.out 0).trans rfl
    have hxg4_1 : w15_.cell? ⟨g4, 1, none⟩ = some (.slice A2_2_ r1_3.length c2_2_) := (blk_cell Bg4.out 1).trans rfl
    have hxg11_0 : w15_.cell? ⟨g11, 0, none⟩ = some (.slice none 0 0) := (blk_cell Bg11.out 0).trans rfl
    have hfg11_0 := blk_frozen Bg11.out 0
    clear hb
    go_wp2_with (first | ((with_reducible refine gate_store (t := 34) (p := 12) rfl ?_); refine hold ?_))
    unfold Hold
    refine store_event (t := 34) (p := 12) (v := ?vo15) (w1 := (w15_.setCell ⟨g11, 0, none⟩ (.slice A13_0_ r7_0.length c13_0_))) ?hg ?ho ?hn ?hr ?_
    case ho => rfl
    case hg => rfl
    case hn => rfl
    case hr => first | (go_simp; done) | (go_simp; rfl)
    intro w16_ hw
    have hk : Kept w15_ w16_ (fun k => k = g11) := by rw [hw]; exact kept_one _
    have hb0 : Below w.heap.size w w16_ := by rw [hw]; exact (below_set HB.out (Nat.le_trans (by have z1_ := Z1_.out; have z2_ := Z2_.out; have z3_ := Z3_.out; have z4_ := Z4_.out; have z5_ := Z5_.out; have z6_ := Z6_.out; have z7_ := Z7_.out; have z8_ := Z8_.out; have z9_ := Z9_.out; have z10_ := Z10_.out; have z11_ := Z11_.out; have z12_ := Z12_.out; have z13_ := Z13_.out; omega) Gg11.out.1))
    have n_ := Aside0.mk (show w16_.heap[g11]? = some (.cells #[.slice A13_0_ r7_0.length c13_0_] 34 (0, 0)) by rw [hw]; exact (blk_put (cs := #[.slice none 0 0]) (cs' := #[.slice A13_0_ r7_0.length c13_0_]) Bg11.out 0 _ rfl))
    clear Bg11; have Bg11 := n_; clear n_ hw
    have Z16_ := Aside0.mk (show w15_.heap.size ≤ w16_.heap.size from hk.1)
    have n_ := Aside0.mk (Kd.R_kept O2_0.out hk (fun k_ hk1 hk2 => by obtain ⟨a1_, a2_⟩ := hk1.1; have e_ : k_ = g11 := hk2; obtain ⟨b1_, b2_⟩ := Gg11.out; have z3_ := Z3_.out; have z4_ := Z4_.out; have z5_ := Z5_.out; have z6_ := Z6_.out; have z7_ := Z7_.out; have z8_ := Z8_.out; have z9_ := Z9_.out; have z10_ := Z10_.out; have z11_ := Z11_.out; have z12_ := Z12_.out; have z13_ := Z13_.out; omega)); clear O2_0; have O2_0 := n_; clear n_
    have n_ := Aside0.mk (Kd.S_kept O2_1.out hk (fun k_ hk1 hk2 => by obtain ⟨a1_, a2_⟩ := hk1.1; have e_ : k_ = g11 := hk2; obtain ⟨b1_, b2_⟩ := Gg11.out; have z3_ := Z3_.out; have z4_ := Z4_.out; have z5_ := Z5_.out; have z6_ := Z6_.out; have z7_ := Z7_.out; have z8_ := Z8_.out; have z9_ := Z9_.out; have z10_ := Z10_.out; have z11_ := Z11_.out; have z12_ := Z12_.out; have z13_ := Z13_.out; omega)); clear O2_1; have O2_1 := n_; clear n_
    have n_ := Aside0.mk (Kd.R_kept O2_2.out hk (fun k_ hk1 hk2 => by obtain ⟨a1_, a2_⟩ := hk1.1; have e_ : k_ = g11 := hk2; obtain ⟨b1_, b2_⟩ := Gg11.out; have z3_ := Z3_.out; have z4_ := Z4_.out; have z5_ := Z5_.out; have z6_ := Z6_.out; have z7_ := Z7_.out; have z8_ := Z8_.out; have z9_ := Z9_.out; have z10_ := Z10_.out; have z11_ := Z11_.out; have z12_ := Z12_.out; have z13_ := Z13_.out; omega)); clear O2_2; have O2_2 := n_; clear n_
    have n_ := Aside0.mk (Kd.S_kept O7_0.out hk (fun k_ hk1 hk2 => by obtain ⟨a1_, a2_⟩ := hk1.1; have e_ : k_ = g11 := hk2; obtain ⟨b1_, b2_⟩ := Gg11.out; have z8_ := Z8_.out; have z9_ := Z9_.out; have z10_ := Z10_.out; have z11_ := Z11_.out; have z12_ := Z12_.out; have z13_ := Z13_.out; omega)); clear O7_0; have O7_0 := n_; clear n_
    have n_ := Aside0.mk (Kd.R_kept O13_0.out hk (fun k_ hk1 hk2 => by obtain ⟨a1_, a2_⟩ := hk1.1; have e_ : k_ = g11 := hk2; obtain ⟨b1_, b2_⟩ := Gg11.out; omega)); clear O13_0; have O13_0 := n_; clear n_
    have n_ := Aside0.mk (Kd.S_kept O13_1.out hk (fun k_ hk1 hk2 => by obtain ⟨a1_, a2_⟩ := hk1.1; have e_ : k_ = g11 := hk2; obtain ⟨b1_, b2_⟩ := Gg11.out; omega)); clear O13_1; have O13_1 := n_; clear n_
    have n_ := Aside0.mk (Kd.R_kept O13_2.out hk (fun k_ hk1 hk2 => by obtain ⟨a1_, a2_⟩ := hk1.1; have e_ : k_ = g11 := hk2; obtain ⟨b1_, b2_⟩ := Gg11.out; omega)); clear O13_2; have O13_2 := n_; clear n_
    have n_ := Aside0.mk (blk_kept Bg3.out hk (fun hk2 => by obtain ⟨a1_, a2_⟩ := Gg3.out; have e_ : g3 = g11 := hk2; obtain ⟨b1_, b2_⟩ := Gg11.out; have z4_ := Z4_.out; have z5_ := Z5_.out; have z6_ := Z6_.out; have z7_ := Z7_.out; have z8_ := Z8_.out; have z9_ := Z9_.out; have z10_ := Z10_.out; have z11_ := Z11_.out; have z12_ := Z12_.out; have z13_ := Z13_.out; omega)); clear Bg3; have Bg3 := n_; clear n_
    have n_ := Aside0.mk (blk_kept Bg4.out hk (fun hk2 => by obtain ⟨a1_, a2_⟩ := Gg4.out; have e_ : g4 = g11 := hk2; obtain ⟨b1_, b2_⟩ := Gg11.out; have z5_ := Z5_.out; have z6_ := Z6_.out; have z7_ := Z7_.out; have z8_ := Z8_.out; have z9_ := Z9_.out; have z10_ := Z10_.out; have z11_ := Z11_.out; have z12_ := Z12_.out; have z13_ := Z13_.out; omega)); clear Bg4; have Bg4 := n_; clear n_
    have n_ := Aside0.mk (blk_kept Bg12.out hk (fun hk2 => by obtain ⟨a1_, a2_⟩ := Gg12.out; have e_ : g12 = g11 := hk2; obtain ⟨b1_, b2_⟩ := Gg11.out; omega)); clear Bg12; have Bg12 := n_; clear n_
    clear HB; have HB := Aside0.mk hb0
    clear O2_1
    clear hxg4_0
    clear hxg4_1
    clear hxg11_0
    clear hfg11_0
    have hxg3_0 : w16_.cell? ⟨g3, 0, none⟩ = some (.slice A2_0_ r1_0.length c2_0_) := (blk_cell Bg3.out 0).trans rfl
    have hxg12_0 : w16_.cell? ⟨g12, 0, none⟩ = some (.int .i64 0) := (blk_cell Bg12.out 0).trans rfl
    have hxg12_1 : w16_.cell? ⟨g12, 1, none⟩ = some (.slice none 0 0) := (blk_cell Bg12.out 1).trans rfl
    have hfg12_0 := blk_frozen Bg12.out 0
    have hfg12_1 := blk_frozen Bg12.out 1
    clear hk hb0
    go_wp2_with (first | ((with_reducible refine gate_store (t := 37) (p := 14) rfl ?_); refine hold ?_))
    unfold Hold
    refine store_event (t := 37) (p := 14) (v := ?vo16) (w1 := ((w16_.setCell ⟨g12, 0, none⟩ (.int .i64 r7_2)).setCell ⟨g12, 1, none⟩ (.slice A13_2_ r7_3.length c13_2_))) ?hg ?ho ?hn ?hr ?_
    case ho => rfl
    case hg => rfl
    case hn => rfl
    case hr => first | (go_simp; done) | (go_simp; rfl)
    intro w17_ hw
    have hk : Kept w16_ w17_ (fun k => k = g12) := by rw [hw]; exact kept_two _ _
    have hb0 : Below w.heap.size w w17_ := by rw [hw]; exact (below_set (below_set HB.out (Nat.le_trans (by have z1_ := Z1_.out; have z2_ := Z2_.out; have z3_ := Z3_.out; have z4_ := Z4_.out; have z5_ := Z5_.out; have z6_ := Z6_.out; have z7_ := Z7_.out; have z8_ := Z8_.out; have z9_ := Z9_.out; have z10_ := Z10_.out; have z11_ := Z11_.out; have z12_ := Z12_.out; have z13_ := Z13_.out; have z14_ := Z14_.out; omega) Gg12.out.1)) (Nat.le_trans (by have z1_ := Z1_.out; have z2_ := Z2_.out; have z3_ := Z3_.out; have z4_ := Z4_.out; have z5_ := Z5_.out; have z6_ := Z6_.out; have z7_ := Z7_.out; have z8_ := Z8_.out; have z9_ := Z9_.out; have z10_ := Z10_.out; have z11_ := Z11_.out; have z12_ := Z12_.out; have z13_ := Z13_.out; have z14_ := Z14_.out; omega) Gg12.out.1))
    have n_ := Aside0.mk (show w17_.heap[g12]? = some (.cells #[.int .i64 r7_2, .slice A13_2_ r7_3.length c13_2_] 37 (0, 0)) by rw [hw]; exact (blk_put (cs := #[.int .i64 r7_2, .slice none 0 0]) (cs' := #[.int .i64 r7_2, .slice A13_2_ r7_3.length c13_2_]) (blk_put (cs := #[.int .i64 0, .slice none 0 0]) (cs' := #[.int .i64 r7_2, .slice none 0 0]) Bg12.out 0 _ rfl) 1 _ rfl))
    clear Bg12; have Bg12 := n_; clear n_ hw
    have Z17_ := Aside0.mk (show w16_.heap.size ≤ w17_.heap.size from hk.1)
    have n_ := Aside0.mk (Kd.R_kept O2_0.out hk (fun k_ hk1 hk2 => by obtain ⟨a1_, a2_⟩ := hk1.1; have e_ : k_ = g12 := hk2; obtain ⟨b1_, b2_⟩ := Gg12.out; have z3_ := Z3_.out; have z4_ := Z4_.out; have z5_ := Z5_.out; have z6_ := Z6_.out; have z7_ := Z7_.out; have z8_ := Z8_.out; have z9_ := Z9_.out; have z10_ := Z10_.out; have z11_ := Z11_.out; have z12_ := Z12_.out; have z13_ := Z13_.out; have z14_ := Z14_.out; omega)); clear O2_0; have O2_0 := n_; clear n_
    have n_ := Aside0.mk (Kd.R_kept O2_2.out hk (fun k_ hk1 hk2 => by obtain ⟨a1_, a2_⟩ := hk1.1; have e_ : k_ = g12 := hk2; obtain ⟨b1_, b2_⟩ := Gg12.out; have z3_ := Z3_.out; have z4_ := Z4_.out; have z5_ := Z5_.out; have z6_ := Z6_.out; have z7_ := Z7_.out; have z8_ := Z8_.out; have z9_ := Z9_.out; have z10_ := Z10_.out; have z11_ := Z11_.out; have z12_ := Z12_.out; have z13_ := Z13_.out; have z14_ := Z14_.out; omega)); clear O2_2; have O2_2 := n_; clear n_
    have n_ := Aside0.mk (Kd.S_kept O7_0.out hk (fun k_ hk1 hk2 => by obtain ⟨a1_, a2_⟩ := hk1.1; have e_ : k_ = g12 := hk2; obtain ⟨b1_, b2_⟩ := Gg12.out; have z8_ := Z8_.out; have z9_ := Z9_.out; have z10_ := Z10_.out; have z11_ := Z11_.out; have z12_ := Z12_.out; have z13_ := Z13_.out; have z14_ := Z14_.out; omega)); clear O7_0; have O7_0 := n_; clear n_
    have n_ := Aside0.mk (Kd.R_kept O13_0.out hk (fun k_ hk1 hk2 => by obtain ⟨a1_, a2_⟩ := hk1.1; have e_ : k_ = g12 := hk2; obtain ⟨b1_, b2_⟩ := Gg12.out; have z14_ := Z14_.out; omega)); clear O13_0; have O13_0 := n_; clear n_
    have n_ := Aside0.mk (Kd.S_kept O13_1.out hk (fun k_ hk1 hk2 => by obtain ⟨a1_, a2_⟩ := hk1.1; have e_ : k_ = g12 := hk2; obtain ⟨b1_, b2_⟩ := Gg12.out; have z14_ := Z14_.out; omega)); clear O13_1; have O13_1 := n_; clear n_
    have n_ := Aside0.mk (Kd.R_kept O13_2.out hk (fun k_ hk1 hk2 => by obtain ⟨a1_, a2_⟩ := hk1.1; have e_ : k_ = g12 := hk2; obtain ⟨b1_, b2_⟩ := Gg12.out; have z14_ := Z14_.out; omega)); clear O13_2; have O13_2 := n_; clear n_
    have n_ := Aside0.mk (blk_kept Bg3.out hk (fun hk2 => by obtain ⟨a1_, a2_⟩ := Gg3.out; have e_ : g3 = g12 := hk2; obtain ⟨b1_, b2_⟩ := Gg12.out; have z4_ := Z4_.out; have z5_ := Z5_.out; have z6_ := Z6_.out; have z7_ := Z7_.out; have z8_ := Z8_.out; have z9_ := Z9_.out; have z10_ := Z10_.out; have z11_ := Z11_.out; have z12_ := Z12_.out; have z13_ := Z13_.out; have z14_ := Z14_.out; omega)); clear Bg3; have Bg3 := n_; clear n_
    have n_ := Aside0.mk (blk_kept Bg4.out hk (fun hk2 => by obtain ⟨a1_, a2_⟩ := Gg4.out; have e_ : g4 = g12 := hk2; obtain ⟨b1_, b2_⟩ := Gg12.out; have z5_ := Z5_.out; have z6_ := Z6_.out; have z7_ := Z7_.out; have z8_ := Z8_.out; have z9_ := Z9_.out; have z10_ := Z10_.out; have z11_ := Z11_.out; have z12_ := Z12_.out; have z13_ := Z13_.out; have z14_ := Z14_.out; omega)); clear Bg4; have Bg4 := n_; clear n_
    have n_ := Aside0.mk (blk_kept Bg11.out hk (fun hk2 => by obtain ⟨a1_, a2_⟩ := Gg11.out; have e_ : g11 = g12 := hk2; obtain ⟨b1_, b2_⟩ := Gg12.out; omega)); clear Bg11; have Bg11 := n_; clear n_
    clear HB; have HB := Aside0.mk hb0
    clear O7_0
    clear hxg3_0
    clear hxg12_0
    clear hxg12_1
    clear hfg12_0
    clear hfg12_1
    have hxg11_0 : w17_.cell? ⟨g11, 0, none⟩ = some (.slice A13_0_ r7_0.length c13_0_) := (blk_cell Bg11.out 0).trans rfl
    have hxg12_0 : w17_.cell? ⟨g12, 0, none⟩ = some (.int .i64 r7_2) := (blk_cell Bg12.out 0).trans rfl
    have hxg12_1 : w17_.cell? ⟨g12, 1, none⟩ = some (.slice A13_2_ r7_3.length c13_2_) := (blk_cell Bg12.out 1).trans rfl
    clear hk hb0
    go_wp2_with (first | (go_at_call 27; refine hold ?_))
    unfold Hold
    refine (impl_RemoveFact.calls ke8 _ _ r7_0 _ _ r7_1 r7_2 _ _ r7_3 r8_0 bG _ (Kd.R_reads' O13_0.out).2.2 (Kd.R_reads' O13_0.out).2.1 (Kd.S_reads' O13_1.out).2.2 (Kd.S_reads' O13_1.out).2.1 (Kd.R_reads' O13_2.out).2.2 (Kd.R_reads' O13_2.out).2.1 Ee8.out).mono ?_
    rintro e w18_ ⟨v18_0_, rfl, ho0, hb⟩
    have O18_0 := Aside0.mk (newS ho0 HB.out.size)
    have Z18_ := Aside0.mk (show w17_.heap.size ≤ w18_.heap.size from hb.size)
    replace O2_0 := Aside0.mk (Kd.R_below O2_0.out hb)
    replace O2_2 := Aside0.mk (Kd.R_below O2_2.out hb)
    replace O13_0 := Aside0.mk (Kd.R_below O13_0.out hb)
    replace O13_1 := Aside0.mk (Kd.S_below O13_1.out hb)
    replace O13_2 := Aside0.mk (Kd.R_below O13_2.out hb)
    replace Bg3 := Aside0.mk (blk_below Bg3.out hb)
    replace Bg4 := Aside0.mk (blk_below Bg4.out hb)
    replace Bg11 := Aside0.mk (blk_below Bg11.out hb)
    replace Bg12 := Aside0.mk (blk_below Bg12.out hb)
    replace HB := Aside0.mk (below_step HB.out hb)
    clear hxg11_0
    clear hxg12_0
    clear hxg12_1
    have hxg11_0 : w18_.cell? ⟨g11, 0, none⟩ = some (.slice A13_0_ r7_0.length c13_0_) := (blk_cell Bg11.out 0).trans rfl
    have hxg12_0 : w18_.cell? ⟨g12, 0, none⟩ = some (.int .i64 r7_2) := (blk_cell Bg12.out 0).trans rfl
    have hxg12_1 : w18_.cell? ⟨g12, 1, none⟩ = some (.slice A13_2_ r7_3.length c13_2_) := (blk_cell Bg12.out 1).trans rfl
    clear hb ho0
    obtain ⟨A18_0_, c18_0_, eq_⟩ := Kd.S_slice O18_0.out
    subst eq_
    go_wp2_with (first | (go_at_call 31; refine hold ?_))
    unfold Hold
    refine (spec_RemoveFact.calls ke9 _ _ r7_0 _ _ r7_1 r7_2 _ _ r7_3 r8_0 bG _ (Kd.R_reads' O13_0.out).2.2 (Kd.R_reads' O13_0.out).2.1 (Kd.S_reads' O13_1.out).2.2 (Kd.S_reads' O13_1.out).2.1 (Kd.R_reads' O13_2.out).2.2 (Kd.R_reads' O13_2.out).2.1 Ee9.out).mono ?_
    rintro e w19_ ⟨v19_0_, rfl, ho0, hb⟩
    have O19_0 := Aside0.mk (newS ho0 HB.out.size)
    have Z19_ := Aside0.mk (show w18_.heap.size ≤ w19_.heap.size from hb.size)
    replace O2_0 := Aside0.mk (Kd.R_below O2_0.out hb)
    replace O2_2 := Aside0.mk (Kd.R_below O2_2.out hb)
    replace O13_0 := Aside0.mk (Kd.R_below O13_0.out hb)
    replace O13_1 := Aside0.mk (Kd.S_below O13_1.out hb)
    replace O13_2 := Aside0.mk (Kd.R_below O13_2.out hb)
    replace O18_0 := Aside0.mk (Kd.S_below O18_0.out hb)
    replace Bg3 := Aside0.mk (blk_below Bg3.out hb)
    replace Bg4 := Aside0.mk (blk_below Bg4.out hb)
    replace Bg11 := Aside0.mk (blk_below Bg11.out hb)
    replace Bg12 := Aside0.mk (blk_below Bg12.out hb)
    replace HB := Aside0.mk (below_step HB.out hb)
    clear O13_0
    clear O13_1
    clear hxg11_0
    clear Bg11 Gg11
    clear hxg12_0
    clear hxg12_1
    clear hb ho0
    obtain ⟨A19_0_, c19_0_, eq_⟩ := Kd.S_slice O19_0.out
    subst eq_
    cases bG
    case false =>
      skip
      try go_wp2
      replace O2_0 := Aside0.mk (Kd.R_drew O2_0.out)
      replace O2_2 := Aside0.mk (Kd.R_drew O2_2.out)
      replace O13_2 := Aside0.mk (Kd.R_drew O13_2.out)
      replace O18_0 := Aside0.mk (Kd.S_drew O18_0.out)
      replace O19_0 := Aside0.mk (Kd.S_drew O19_0.out)
      replace Bg3 := Aside0.mk (blk_drew Bg3.out)
      replace Bg4 := Aside0.mk (blk_drew Bg4.out)
      replace Bg12 := Aside0.mk (blk_drew Bg12.out)
      replace HB := Aside0.mk (below_drew1 HB.out)
      have hz := Aside0.mk (show w19_.heap.size ≤ w19_.drew.heap.size from Nat.le_refl _)
      refine start_ (n := 28) (S := fun w' => w'.cell? ⟨g12, 0, none⟩ = some (.int .i64 r7_2) ∧ w'.cell? ⟨g12, 1, none⟩ = some (.slice A13_2_ r7_3.length c13_2_) ∧ w'.cell? ⟨g3, 0, none⟩ = some (.slice A2_0_ r1_0.length c2_0_) ∧ w'.cell? ⟨g4, 0, none⟩ = some (.int .i64 r1_2) ∧ w'.cell? ⟨g4, 1, none⟩ = some (.slice A2_2_ r1_3.length c2_2_)) (ds := []) #[yf,yf,yf,yf,yf,yf,yf,yf,yf,yf,yf,yf,yf,yf,yf,yf,yf,yf,yf,yf,yf,yf,yf,yf,yf,yf,yf,yf] (by kernel_rfl) rfl rfl ⟨(blk_cell Bg12.out 0).trans rfl, (blk_cell Bg12.out 1).trans rfl, (blk_cell Bg3.out 0).trans rfl, (blk_cell Bg4.out 0).trans rfl, (blk_cell Bg4.out 1).trans rfl⟩ (fun hHeld => ?_)
      generalize w19_.drew = w20_ at O2_0 O2_2 O13_2 O18_0 O19_0 Bg3 Bg4 Bg12 HB hz hHeld ⊢
      have Z20_ := hz; clear hz
      refine pure_ (i := 0) (N := some 120) (v := ?_) (a' := ?_) #[yt,yf,yf,yf,yf,yf,yf,yf,yf,yf,yf,yf,yf,yf,yf,yf,yf,yf,yf,yf,yf,yf,yf,yf,yf,yf,yf,yf] rfl rfl (by kernel_rfl) (fun _ _ _ h => h) (Or.inl ⟨by rfl, ?_⟩) ?_ ?_
      rotate_left
      · intro w'; go_simp; with_reducible rfl
      rotate_left
      · simp only [Act.put, zO, zEb, zFb, i64_w, i32_w]; rfl
      refine pure_ (i := 1) (N := some 121) (v := ?_) (a' := ?_) #[yt,yt,yf,yf,yf,yf,yf,yf,yf,yf,yf,yf,yf,yf,yf,yf,yf,yf,yf,yf,yf,yf,yf,yf,yf,yf,yf,yf] rfl rfl (by kernel_rfl) (fun _ _ _ h => h) (Or.inl ⟨by rfl, ?_⟩) ?_ ?_
      rotate_left
      · intro w'; go_simp; with_reducible rfl
      rotate_left
      · simp only [Act.put, zO, zEb, zFb, i64_w, i32_w]; rfl
      refine pure_ (i := 2) (N := some 122) (v := ?_) (a' := ?_) #[yt,yt,yt,yf,yf,yf,yf,yf,yf,yf,yf,yf,yf,yf,yf,yf,yf,yf,yf,yf,yf,yf,yf,yf,yf,yf,yf,yf] rfl rfl (by kernel_rfl) (fun _ _ _ h => h) (Or.inl ⟨by rfl, ?_⟩) ?_ ?_
      rotate_left
      · intro w'; go_simp; (try simp only [bne_self_eq_false, beq_self_eq_true]); with_reducible rfl
      rotate_left
      · simp only [Act.put, zO, zEb, zFb, i64_w, i32_w]; rfl
      refine pure_ (i := 3) (N := some 123) (v := ?_) (a' := ?_) #[yt,yt,yt,yt,yf,yf,yf,yf,yf,yf,yf,yf,yf,yf,yf,yf,yf,yf,yf,yf,yf,yf,yf,yf,yf,yf,yf,yf] rfl rfl (by kernel_rfl) (fun _ _ _ h => h) (Or.inl ⟨by rfl, ?_⟩) ?_ ?_
      rotate_left
      · intro w'; go_simp; with_reducible rfl
      rotate_left
      · simp only [Act.put, zO, zEb, zFb, i64_w, i32_w]; rfl
      refine pure_ (i := 4) (N := some 124) (v := ?_) (a' := ?_) #[yt,yt,yt,yt,yt,yf,yf,yf,yf,yf,yf,yf,yf,yf,yf,yf,yf,yf,yf,yf,yf,yf,yf,yf,yf,yf,yf,yf] rfl rfl (by kernel_rfl) (fun _ _ _ h => h) (Or.inl ⟨by rfl, ?_⟩) ?_ ?_
      rotate_left
      · intro w'; go_simp; with_reducible rfl
      rotate_left
      · simp only [Act.put, zO, zEb, zFb, i64_w, i32_w]; rfl
      refine pure_ (i := 5) (N := some 125) (v := ?_) (a' := ?_) #[yt,yt,yt,yt,yt,yt,yf,yf,yf,yf,yf,yf,yf,yf,yf,yf,yf,yf,yf,yf,yf,yf,yf,yf,yf,yf,yf,yf] rfl rfl (by kernel_rfl) (fun _ _ _ h => h) (Or.inl ⟨by rfl, ?_⟩) ?_ ?_
      rotate_left
      · intro w'; go_simp; with_reducible rfl
      rotate_left
      · simp only [Act.put, zO, zEb, zFb, i64_w, i32_w]; rfl
      refine one_ (i := 6) (N := some 126) #[yt,yt,yt,yt,yt,yt,yt,yf,yf,yf,yf,yf,yf,yf,yf,yf,yf,yf,yf,yf,yf,yf,yf,yf,yf,yf,yf,yf] rfl rfl (by kernel_rfl) (by decide) (fun K hK => ?_)
      refine goes_ Try.func24 (by kernel_rfl) rfl #[.slice A18_0_ r8_0.length c18_0_, .slice A19_0_ r8_0.length c19_0_] (by rfl) rfl rfl (by (try simp only [List.map_toArray, List.map_cons, List.map_nil]); first | done | rfl) ?_
      with_reducible refine (spec_EqualFacts.calls ke10 _ _ r8_0 _ _ r8_0 true _ (Kd.S_reads' O18_0.out).2.2 (Kd.S_reads' O18_0.out).2.1 (Kd.S_reads' O19_0.out).2.2 (Kd.S_reads' O19_0.out).2.1 Ee10.out).mono ?_
      rintro e w21_ ⟨rfl, hb⟩
      refine ⟨_, rfl, ?_⟩
      have Z21_ := Aside0.mk (show w20_.heap.size ≤ w21_.heap.size from hb.size)
      replace O2_0 := Aside0.mk (Kd.R_below O2_0.out hb)
      replace O2_2 := Aside0.mk (Kd.R_below O2_2.out hb)
      replace O13_2 := Aside0.mk (Kd.R_below O13_2.out hb)
      replace O18_0 := Aside0.mk (Kd.S_below O18_0.out hb)
      replace O19_0 := Aside0.mk (Kd.S_below O19_0.out hb)
      replace Bg3 := Aside0.mk (blk_below Bg3.out hb)
      replace Bg4 := Aside0.mk (blk_below Bg4.out hb)
      replace Bg12 := Aside0.mk (blk_below Bg12.out hb)
      replace HB := Aside0.mk (below_step HB.out hb)
      clear O19_0
      have hxg3_0 : w21_.cell? ⟨g3, 0, none⟩ = some (.slice A2_0_ r1_0.length c2_0_) := (blk_cell Bg3.out 0).trans rfl
      have hxg4_0 : w21_.cell? ⟨g4, 0, none⟩ = some (.int .i64 r1_2) := (blk_cell Bg4.out 0).trans rfl
      have hxg4_1 : w21_.cell? ⟨g4, 1, none⟩ = some (.slice A2_2_ r1_3.length c2_2_) := (blk_cell Bg4.out 1).trans rfl
      have hxg12_0 : w21_.cell? ⟨g12, 0, none⟩ = some (.int .i64 r7_2) := (blk_cell Bg12.out 0).trans rfl
      have hxg12_1 : w21_.cell? ⟨g12, 1, none⟩ = some (.slice A13_2_ r7_3.length c13_2_) := (blk_cell Bg12.out 1).trans rfl
      clear hb
      clear hxg3_0
      clear hxg4_0
      clear hxg4_1
      clear hxg12_0
      clear hxg12_1
      refine hK.out _ _ ⟨(blk_cell Bg12.out 0).trans rfl, (blk_cell Bg12.out 1).trans rfl, (blk_cell Bg3.out 0).trans rfl, (blk_cell Bg4.out 0).trans rfl, (blk_cell Bg4.out 1).trans rfl⟩ (fun hHeld => ?_)
      clear hK K
      refine norm_ (a' := ?_) ?_ ?_
      rotate_left
      · show Act.put _ (some 126) _ = _; simp only [Act.put, zO, zEb, zFb, i64_w, i32_w]; rfl
      refine pure_ (i := 7) (N := some 127) (v := ?_) (a' := ?_) #[yt,yt,yt,yt,yt,yt,yt,yt,yf,yf,yf,yf,yf,yf,yf,yf,yf,yf,yf,yf,yf,yf,yf,yf,yf,yf,yf,yf] rfl rfl (by kernel_rfl) (fun _ _ _ h => h) (Or.inl ⟨by rfl, ?_⟩) ?_ ?_
      rotate_left
      · intro w'; go_simp; with_reducible rfl
      rotate_left
      · simp only [Act.put, zO, zEb, zFb, i64_w, i32_w]; rfl
      refine pure_ (i := 8) (N := some 128) (v := ?_) (a' := ?_) #[yt,yt,yt,yt,yt,yt,yt,yt,yt,yf,yf,yf,yf,yf,yf,yf,yf,yf,yf,yf,yf,yf,yf,yf,yf,yf,yf,yf] rfl rfl (by kernel_rfl) (fun _ _ _ h => h) (Or.inl ⟨by rfl, ?_⟩) ?_ ?_
      rotate_left
      · intro w'; go_simp; with_reducible rfl
      rotate_left
      · simp only [Act.put, zO, zEb, zFb, i64_w, i32_w]; rfl
      refine pure_ (i := 9) (N := some 129) (v := ?_) (a' := ?_) #[yt,yt,yt,yt,yt,yt,yt,yt,yt,yt,yf,yf,yf,yf,yf,yf,yf,yf,yf,yf,yf,yf,yf,yf,yf,yf,yf,yf] rfl rfl (by kernel_rfl) (fun _ _ _ h => h) (Or.inl ⟨by rfl, ?_⟩) ?_ ?_
      rotate_left
      · intro w'; go_simp; with_reducible rfl
      rotate_left
      · simp only [Act.put, zO, zEb, zFb, i64_w, i32_w]; rfl
      refine pure_ (i := 10) (N := some 130) (v := ?_) (a' := ?_) #[yt,yt,yt,yt,yt,yt,yt,yt,yt,yt,yt,yf,yf,yf,yf,yf,yf,yf,yf,yf,yf,yf,yf,yf,yf,yf,yf,yf] rfl rfl (by kernel_rfl) (fun _ _ _ h => h) (Or.inl ⟨by rfl, ?_⟩) ?_ ?_
      rotate_left
      · intro w'; go_simp; with_reducible rfl
      rotate_left
      · simp only [Act.put, zO, zEb, zFb, i64_w, i32_w]; rfl
      refine pure_ (i := 11) (N := some 131) (v := ?_) (a' := ?_) #[yt,yt,yt,yt,yt,yt,yt,yt,yt,yt,yt,yt,yf,yf,yf,yf,yf,yf,yf,yf,yf,yf,yf,yf,yf,yf,yf,yf] rfl rfl (by kernel_rfl) (fun _ _ _ h => h) (Or.inl ⟨by rfl, ?_⟩) ?_ ?_
      rotate_left
      · intro w'; go_simp; with_reducible rfl
      rotate_left
      · simp only [Act.put, zO, zEb, zFb, i64_w, i32_w]; rfl
      refine pure_ (i := 12) (N := some 132) (v := undef) (a' := ?_) #[yt,yt,yt,yt,yt,yt,yt,yt,yt,yt,yt,yt,yt,yf,yf,yf,yf,yf,yf,yf,yf,yf,yf,yf,yf,yf,yf,yf] rfl rfl (by kernel_rfl) (fun _ _ _ h => h) (Or.inr ⟨by rfl, rfl⟩) ?_ ?_
      rotate_left
      · simp only [Act.put, zO, zEb, zFb, i64_w, i32_w]; rfl
      refine pure_ (i := 13) (N := some 133) (v := undef) (a' := ?_) #[yt,yt,yt,yt,yt,yt,yt,yt,yt,yt,yt,yt,yt,yt,yf,yf,yf,yf,yf,yf,yf,yf,yf,yf,yf,yf,yf,yf] rfl rfl (by kernel_rfl) (fun _ _ _ h => h) (Or.inr ⟨by rfl, rfl⟩) ?_ ?_
      rotate_left
      · simp only [Act.put, zO, zEb, zFb, i64_w, i32_w]; rfl
      refine pure_ (i := 14) (N := some 134) (v := undef) (a' := ?_) #[yt,yt,yt,yt,yt,yt,yt,yt,yt,yt,yt,yt,yt,yt,yt,yf,yf,yf,yf,yf,yf,yf,yf,yf,yf,yf,yf,yf] rfl rfl (by kernel_rfl) (fun _ _ _ h => h) (Or.inr ⟨by rfl, rfl⟩) ?_ ?_
      rotate_left
      · simp only [Act.put, zO, zEb, zFb, i64_w, i32_w]; rfl
      refine pure_ (i := 15) (N := some 135) (v := undef) (a' := ?_) #[yt,yt,yt,yt,yt,yt,yt,yt,yt,yt,yt,yt,yt,yt,yt,yt,yf,yf,yf,yf,yf,yf,yf,yf,yf,yf,yf,yf] rfl rfl (by kernel_rfl) (fun _ _ _ h => h) (Or.inr ⟨by rfl, rfl⟩) ?_ ?_
      rotate_left
      · simp only [Act.put, zO, zEb, zFb, i64_w, i32_w]; rfl
      refine pure_ (i := 16) (N := some 136) (v := ?_) (a' := ?_) #[yt,yt,yt,yt,yt,yt,yt,yt,yt,yt,yt,yt,yt,yt,yt,yt,yt,yf,yf,yf,yf,yf,yf,yf,yf,yf,yf,yf] rfl rfl (by kernel_rfl) (fun _ _ _ h => h) (Or.inl ⟨by rfl, ?_⟩) ?_ ?_
      rotate_left
      · intro w'; go_simp; with_reducible rfl
      rotate_left
      · simp only [Act.put, zO, zEb, zFb, i64_w, i32_w]; rfl
      refine pure_ (i := 17) (N := some 137) (v := ?_) (a' := ?_) #[yt,yt,yt,yt,yt,yt,yt,yt,yt,yt,yt,yt,yt,yt,yt,yt,yt,yt,yf,yf,yf,yf,yf,yf,yf,yf,yf,yf] rfl rfl (by kernel_rfl) (fun _ _ _ h => h) (Or.inl ⟨by rfl, ?_⟩) ?_ ?_
      rotate_left
      · intro w'; go_simp; with_reducible rfl
      rotate_left
      · simp only [Act.put, zO, zEb, zFb, i64_w, i32_w]; rfl
      refine pure_ (i := 18) (N := some 138) (v := ?_) (a' := ?_) #[yt,yt,yt,yt,yt,yt,yt,yt,yt,yt,yt,yt,yt,yt,yt,yt,yt,yt,yt,yf,yf,yf,yf,yf,yf,yf,yf,yf] rfl rfl (by kernel_rfl) (fun _ _ _ h => h) (Or.inl ⟨by rfl, ?_⟩) ?_ ?_
      rotate_left
      · intro w'; go_simp; with_reducible rfl
      rotate_left
      · simp only [Act.put, zO, zEb, zFb, i64_w, i32_w]; rfl
      refine take_ (i := 19) (N := some 139) (v := ?_) (a' := ?_) #[yt,yt,yt,yt,yt,yt,yt,yt,yt,yt,yt,yt,yt,yt,yt,yt,yt,yt,yt,yt,yf,yf,yf,yf,yf,yf,yf,yf] rfl rfl (by kernel_rfl) (fun _ _ _ h => h) (Or.inl ⟨by rfl, ?_⟩) hHeld ?_ ?_
      rotate_left
      · rintro w' ⟨s0, s1, s2, s3, s4⟩; go_simp; with_reducible rfl
      rotate_left
      · simp only [Act.put, zO, zEb, zFb, i64_w, i32_w]; rfl
      refine take_ (i := 20) (N := some 140) (v := ?_) (a' := ?_) #[yt,yt,yt,yt,yt,yt,yt,yt,yt,yt,yt,yt,yt,yt,yt,yt,yt,yt,yt,yt,yt,yf,yf,yf,yf,yf,yf,yf] rfl rfl (by kernel_rfl) (fun _ _ _ h => h) (Or.inl ⟨by rfl, ?_⟩) hHeld ?_ ?_
      rotate_left
      · rintro w' ⟨s0, s1, s2, s3, s4⟩; go_simp; with_reducible rfl
      rotate_left
      · simp only [Act.put, zO, zEb, zFb, i64_w, i32_w]; rfl
      refine take_ (i := 22) (N := some 142) (v := ?_) (a' := ?_) #[yt,yt,yt,yt,yt,yt,yt,yt,yt,yt,yt,yt,yt,yt,yt,yt,yt,yt,yt,yt,yt,yf,yt,yf,yf,yf,yf,yf] rfl rfl (by kernel_rfl) (fun _ _ _ h => h) (Or.inl ⟨by rfl, ?_⟩) hHeld ?_ ?_
      rotate_left
      · rintro w' ⟨s0, s1, s2, s3, s4⟩; go_simp; with_reducible rfl
      rotate_left
      · simp only [Act.put, zO, zEb, zFb, i64_w, i32_w]; rfl
      refine take_ (i := 23) (N := some 143) (v := ?_) (a' := ?_) #[yt,yt,yt,yt,yt,yt,yt,yt,yt,yt,yt,yt,yt,yt,yt,yt,yt,yt,yt,yt,yt,yf,yt,yt,yf,yf,yf,yf] rfl rfl (by kernel_rfl) (fun _ _ _ h => h) (Or.inl ⟨by rfl, ?_⟩) hHeld ?_ ?_
      rotate_left
      · rintro w' ⟨s0, s1, s2, s3, s4⟩; go_simp; with_reducible rfl
      rotate_left
      · simp only [Act.put, zO, zEb, zFb, i64_w, i32_w]; rfl
      refine one_ (i := 21) (N := some 141) #[yt,yt,yt,yt,yt,yt,yt,yt,yt,yt,yt,yt,yt,yt,yt,yt,yt,yt,yt,yt,yt,yt,yt,yt,yf,yf,yf,yf] rfl rfl (by kernel_rfl) (by decide) (fun K hK => ?_)
      refine goes_ Try.func32 (by kernel_rfl) rfl #[.agg #[.slice A2_0_ r1_0.length c2_0_], .agg #[.int .i64 r1_2, .slice A2_2_ r1_3.length c2_2_]] (by rfl) rfl rfl (by (try simp only [List.map_toArray, List.map_cons, List.map_nil]); first | done | rfl) ?_
      with_reducible refine (impl_IsFact.calls ke11 _ _ r1_0 r1_2 _ _ r1_3 r11_0 _ (Kd.R_reads' O2_0.out).2.2 (Kd.R_reads' O2_0.out).2.1 (Kd.R_reads' O2_2.out).2.2 (Kd.R_reads' O2_2.out).2.1 Ee11.out).mono ?_
      rintro e w22_ ⟨rfl, hb⟩
      refine ⟨_, rfl, ?_⟩
      have Z22_ := Aside0.mk (show w21_.heap.size ≤ w22_.heap.size from hb.size)
      replace O2_0 := Aside0.mk (Kd.R_below O2_0.out hb)
      replace O2_2 := Aside0.mk (Kd.R_below O2_2.out hb)
      replace O13_2 := Aside0.mk (Kd.R_below O13_2.out hb)
      replace O18_0 := Aside0.mk (Kd.S_below O18_0.out hb)
      replace Bg3 := Aside0.mk (blk_below Bg3.out hb)
      replace Bg4 := Aside0.mk (blk_below Bg4.out hb)
      replace Bg12 := Aside0.mk (blk_below Bg12.out hb)
      replace HB := Aside0.mk (below_step HB.out hb)
      clear O13_2
      have hxg3_0 : w22_.cell? ⟨g3, 0, none⟩ = some (.slice A2_0_ r1_0.length c2_0_) := (blk_cell Bg3.out 0).trans rfl
      have hxg4_0 : w22_.cell? ⟨g4, 0, none⟩ = some (.int .i64 r1_2) := (blk_cell Bg4.out 0).trans rfl
      have hxg4_1 : w22_.cell? ⟨g4, 1, none⟩ = some (.slice A2_2_ r1_3.length c2_2_) := (blk_cell Bg4.out 1).trans rfl
      clear hb
      clear hxg3_0
      clear hxg4_0
      clear hxg4_1
      refine hK.out _ _ ⟨(blk_cell Bg12.out 0).trans rfl, (blk_cell Bg12.out 1).trans rfl, (blk_cell Bg3.out 0).trans rfl, (blk_cell Bg4.out 0).trans rfl, (blk_cell Bg4.out 1).trans rfl⟩ (fun hHeld => ?_)
      clear hK K
      refine norm_ (a' := ?_) ?_ ?_
      rotate_left
      · show Act.put _ (some 141) _ = _; simp only [Act.put, zO, zEb, zFb, i64_w, i32_w]; rfl
      refine one_ (i := 24) (N := some 144) #[yt,yt,yt,yt,yt,yt,yt,yt,yt,yt,yt,yt,yt,yt,yt,yt,yt,yt,yt,yt,yt,yt,yt,yt,yt,yf,yf,yf] rfl rfl (by kernel_rfl) (by decide) (fun K hK => ?_)
      refine goes_ Try.func33 (by kernel_rfl) rfl #[.agg #[.slice A2_0_ r1_0.length c2_0_], .agg #[.int .i64 r1_2, .slice A2_2_ r1_3.length c2_2_]] (by rfl) rfl rfl (by (try simp only [List.map_toArray, List.map_cons, List.map_nil]); first | done | rfl) ?_
      with_reducible refine (spec_IsFact.calls ke12 _ _ r1_0 r1_2 _ _ r1_3 r11_0 _ (Kd.R_reads' O2_0.out).2.2 (Kd.R_reads' O2_0.out).2.1 (Kd.R_reads' O2_2.out).2.2 (Kd.R_reads' O2_2.out).2.1 Ee12.out).mono ?_
      rintro e w23_ ⟨rfl, hb⟩
      refine ⟨_, rfl, ?_⟩
      have Z23_ := Aside0.mk (show w22_.heap.size ≤ w23_.heap.size from hb.size)
      replace O2_0 := Aside0.mk (Kd.R_below O2_0.out hb)
      replace O2_2 := Aside0.mk (Kd.R_below O2_2.out hb)
      replace O18_0 := Aside0.mk (Kd.S_below O18_0.out hb)
      replace Bg3 := Aside0.mk (blk_below Bg3.out hb)
      replace Bg4 := Aside0.mk (blk_below Bg4.out hb)
      replace Bg12 := Aside0.mk (blk_below Bg12.out hb)
      replace HB := Aside0.mk (below_step HB.out hb)
      clear hb
      refine hK.out _ _ ⟨(blk_cell Bg12.out 0).trans rfl, (blk_cell Bg12.out 1).trans rfl, (blk_cell Bg3.out 0).trans rfl, (blk_cell Bg4.out 0).trans rfl, (blk_cell Bg4.out 1).trans rfl⟩ (fun hHeld => ?_)
      clear hK K
      refine norm_ (a' := ?_) ?_ ?_
      rotate_left
      · show Act.put _ (some 144) _ = _; simp only [Act.put, zO, zEb, zFb, i64_w, i32_w]; rfl
      refine pure_ (i := 25) (N := some 145) (v := ?_) (a' := ?_) #[yt,yt,yt,yt,yt,yt,yt,yt,yt,yt,yt,yt,yt,yt,yt,yt,yt,yt,yt,yt,yt,yt,yt,yt,yt,yt,yf,yf] rfl rfl (by kernel_rfl) (fun _ _ _ h => h) (Or.inl ⟨by rfl, ?_⟩) ?_ ?_
      rotate_left
      · intro w'; go_simp; (try simp only [bne_self_eq_false, beq_self_eq_true]); with_reducible rfl
      rotate_left
      · simp only [Act.put, zO, zEb, zFb, i64_w, i32_w]; rfl
      refine pure_ (i := 26) (N := some 146) (v := ?_) (a' := ?_) #[yt,yt,yt,yt,yt,yt,yt,yt,yt,yt,yt,yt,yt,yt,yt,yt,yt,yt,yt,yt,yt,yt,yt,yt,yt,yt,yt,yf] rfl rfl (by kernel_rfl) (fun _ _ _ h => h) (Or.inl ⟨by rfl, ?_⟩) ?_ ?_
      rotate_left
      · intro w'; go_simp; with_reducible rfl
      rotate_left
      · simp only [Act.put, zO, zEb, zFb, i64_w, i32_w]; rfl
      refine pure_ (i := 27) (N := some 2) (v := ?_) (a' := ?_) #[yt,yt,yt,yt,yt,yt,yt,yt,yt,yt,yt,yt,yt,yt,yt,yt,yt,yt,yt,yt,yt,yt,yt,yt,yt,yt,yt,yt] rfl rfl (by kernel_rfl) (fun _ _ _ h => h) (Or.inl ⟨by rfl, ?_⟩) ?_ ?_
      rotate_left
      · intro w'; go_simp; with_reducible rfl
      rotate_left
      · simp only [Act.put, zO, zEb, zFb, i64_w, i32_w]; rfl
      refine done_ (by kernel_rfl) ?_
      go_wp2
      go_ret
      exact ⟨rfl, HB.out⟩
    case true =>
      skip
      try go_wp2
      replace O2_0 := Aside0.mk (Kd.R_drew O2_0.out)
      replace O2_2 := Aside0.mk (Kd.R_drew O2_2.out)
      replace O13_2 := Aside0.mk (Kd.R_drew O13_2.out)
      replace O18_0 := Aside0.mk (Kd.S_drew O18_0.out)
      replace O19_0 := Aside0.mk (Kd.S_drew O19_0.out)
      replace Bg3 := Aside0.mk (blk_drew Bg3.out)
      replace Bg4 := Aside0.mk (blk_drew Bg4.out)
      replace Bg12 := Aside0.mk (blk_drew Bg12.out)
      replace HB := Aside0.mk (below_drew1 HB.out)
      have hz := Aside0.mk (show w19_.heap.size ≤ w19_.drew.heap.size from Nat.le_refl _)
      refine start_ (n := 28) (S := fun w' => w'.cell? ⟨g12, 0, none⟩ = some (.int .i64 r7_2) ∧ w'.cell? ⟨g12, 1, none⟩ = some (.slice A13_2_ r7_3.length c13_2_) ∧ w'.cell? ⟨g3, 0, none⟩ = some (.slice A2_0_ r1_0.length c2_0_) ∧ w'.cell? ⟨g4, 0, none⟩ = some (.int .i64 r1_2) ∧ w'.cell? ⟨g4, 1, none⟩ = some (.slice A2_2_ r1_3.length c2_2_)) (ds := []) #[yf,yf,yf,yf,yf,yf,yf,yf,yf,yf,yf,yf,yf,yf,yf,yf,yf,yf,yf,yf,yf,yf,yf,yf,yf,yf,yf,yf] (by kernel_rfl) rfl rfl ⟨(blk_cell Bg12.out 0).trans rfl, (blk_cell Bg12.out 1).trans rfl, (blk_cell Bg3.out 0).trans rfl, (blk_cell Bg4.out 0).trans rfl, (blk_cell Bg4.out 1).trans rfl⟩ (fun hHeld => ?_)
      generalize w19_.drew = w20_ at O2_0 O2_2 O13_2 O18_0 O19_0 Bg3 Bg4 Bg12 HB hz hHeld ⊢
      have Z20_ := hz; clear hz
      refine pure_ (i := 0) (N := some 120) (v := ?_) (a' := ?_) #[yt,yf,yf,yf,yf,yf,yf,yf,yf,yf,yf,yf,yf,yf,yf,yf,yf,yf,yf,yf,yf,yf,yf,yf,yf,yf,yf,yf] rfl rfl (by kernel_rfl) (fun _ _ _ h => h) (Or.inl ⟨by rfl, ?_⟩) ?_ ?_
      rotate_left
      · intro w'; go_simp; with_reducible rfl
      rotate_left
      · simp only [Act.put, zO, zEb, zFb, i64_w, i32_w]; rfl
      refine pure_ (i := 1) (N := some 121) (v := ?_) (a' := ?_) #[yt,yt,yf,yf,yf,yf,yf,yf,yf,yf,yf,yf,yf,yf,yf,yf,yf,yf,yf,yf,yf,yf,yf,yf,yf,yf,yf,yf] rfl rfl (by kernel_rfl) (fun _ _ _ h => h) (Or.inl ⟨by rfl, ?_⟩) ?_ ?_
      rotate_left
      · intro w'; go_simp; with_reducible rfl
      rotate_left
      · simp only [Act.put, zO, zEb, zFb, i64_w, i32_w]; rfl
      refine pure_ (i := 2) (N := some 122) (v := ?_) (a' := ?_) #[yt,yt,yt,yf,yf,yf,yf,yf,yf,yf,yf,yf,yf,yf,yf,yf,yf,yf,yf,yf,yf,yf,yf,yf,yf,yf,yf,yf] rfl rfl (by kernel_rfl) (fun _ _ _ h => h) (Or.inl ⟨by rfl, ?_⟩) ?_ ?_
      rotate_left
      · intro w'; go_simp; (try simp only [bne_self_eq_false, beq_self_eq_true]); with_reducible rfl
      rotate_left
      · simp only [Act.put, zO, zEb, zFb, i64_w, i32_w]; rfl
      refine pure_ (i := 3) (N := some 123) (v := ?_) (a' := ?_) #[yt,yt,yt,yt,yf,yf,yf,yf,yf,yf,yf,yf,yf,yf,yf,yf,yf,yf,yf,yf,yf,yf,yf,yf,yf,yf,yf,yf] rfl rfl (by kernel_rfl) (fun _ _ _ h => h) (Or.inl ⟨by rfl, ?_⟩) ?_ ?_
      rotate_left
      · intro w'; go_simp; with_reducible rfl
      rotate_left
      · simp only [Act.put, zO, zEb, zFb, i64_w, i32_w]; rfl
      refine pure_ (i := 4) (N := some 124) (v := ?_) (a' := ?_) #[yt,yt,yt,yt,yt,yf,yf,yf,yf,yf,yf,yf,yf,yf,yf,yf,yf,yf,yf,yf,yf,yf,yf,yf,yf,yf,yf,yf] rfl rfl (by kernel_rfl) (fun _ _ _ h => h) (Or.inl ⟨by rfl, ?_⟩) ?_ ?_
      rotate_left
      · intro w'; go_simp; with_reducible rfl
      rotate_left
      · simp only [Act.put, zO, zEb, zFb, i64_w, i32_w]; rfl
      refine pure_ (i := 5) (N := some 125) (v := ?_) (a' := ?_) #[yt,yt,yt,yt,yt,yt,yf,yf,yf,yf,yf,yf,yf,yf,yf,yf,yf,yf,yf,yf,yf,yf,yf,yf,yf,yf,yf,yf] rfl rfl (by kernel_rfl) (fun _ _ _ h => h) (Or.inl ⟨by rfl, ?_⟩) ?_ ?_
      rotate_left
      · intro w'; go_simp; with_reducible rfl
      rotate_left
      · simp only [Act.put, zO, zEb, zFb, i64_w, i32_w]; rfl
      refine one_ (i := 6) (N := some 126) #[yt,yt,yt,yt,yt,yt,yt,yf,yf,yf,yf,yf,yf,yf,yf,yf,yf,yf,yf,yf,yf,yf,yf,yf,yf,yf,yf,yf] rfl rfl (by kernel_rfl) (by decide) (fun K hK => ?_)
      refine goes_ Try.func24 (by kernel_rfl) rfl #[.slice A18_0_ r8_0.length c18_0_, .slice A19_0_ r8_0.length c19_0_] (by rfl) rfl rfl (by (try simp only [List.map_toArray, List.map_cons, List.map_nil]); first | done | rfl) ?_
      with_reducible refine (spec_EqualFacts.calls ke10 _ _ r8_0 _ _ r8_0 true _ (Kd.S_reads' O18_0.out).2.2 (Kd.S_reads' O18_0.out).2.1 (Kd.S_reads' O19_0.out).2.2 (Kd.S_reads' O19_0.out).2.1 Ee10.out).mono ?_
      rintro e w21_ ⟨rfl, hb⟩
      refine ⟨_, rfl, ?_⟩
      have Z21_ := Aside0.mk (show w20_.heap.size ≤ w21_.heap.size from hb.size)
      replace O2_0 := Aside0.mk (Kd.R_below O2_0.out hb)
      replace O2_2 := Aside0.mk (Kd.R_below O2_2.out hb)
      replace O13_2 := Aside0.mk (Kd.R_below O13_2.out hb)
      replace O18_0 := Aside0.mk (Kd.S_below O18_0.out hb)
      replace O19_0 := Aside0.mk (Kd.S_below O19_0.out hb)
      replace Bg3 := Aside0.mk (blk_below Bg3.out hb)
      replace Bg4 := Aside0.mk (blk_below Bg4.out hb)
      replace Bg12 := Aside0.mk (blk_below Bg12.out hb)
      replace HB := Aside0.mk (below_step HB.out hb)
      clear O19_0
      have hxg3_0 : w21_.cell? ⟨g3, 0, none⟩ = some (.slice A2_0_ r1_0.length c2_0_) := (blk_cell Bg3.out 0).trans rfl
      have hxg4_0 : w21_.cell? ⟨g4, 0, none⟩ = some (.int .i64 r1_2) := (blk_cell Bg4.out 0).trans rfl
      have hxg4_1 : w21_.cell? ⟨g4, 1, none⟩ = some (.slice A2_2_ r1_3.length c2_2_) := (blk_cell Bg4.out 1).trans rfl
      have hxg12_0 : w21_.cell? ⟨g12, 0, none⟩ = some (.int .i64 r7_2) := (blk_cell Bg12.out 0).trans rfl
      have hxg12_1 : w21_.cell? ⟨g12, 1, none⟩ = some (.slice A13_2_ r7_3.length c13_2_) := (blk_cell Bg12.out 1).trans rfl
      clear hb
      clear hxg3_0
      clear hxg4_0
      clear hxg4_1
      clear hxg12_0
      clear hxg12_1
      refine hK.out _ _ ⟨(blk_cell Bg12.out 0).trans rfl, (blk_cell Bg12.out 1).trans rfl, (blk_cell Bg3.out 0).trans rfl, (blk_cell Bg4.out 0).trans rfl, (blk_cell Bg4.out 1).trans rfl⟩ (fun hHeld => ?_)
      clear hK K
      refine norm_ (a' := ?_) ?_ ?_
      rotate_left
      · show Act.put _ (some 126) _ = _; simp only [Act.put, zO, zEb, zFb, i64_w, i32_w]; rfl
      refine pure_ (i := 7) (N := some 127) (v := ?_) (a' := ?_) #[yt,yt,yt,yt,yt,yt,yt,yt,yf,yf,yf,yf,yf,yf,yf,yf,yf,yf,yf,yf,yf,yf,yf,yf,yf,yf,yf,yf] rfl rfl (by kernel_rfl) (fun _ _ _ h => h) (Or.inl ⟨by rfl, ?_⟩) ?_ ?_
      rotate_left
      · intro w'; go_simp; with_reducible rfl
      rotate_left
      · simp only [Act.put, zO, zEb, zFb, i64_w, i32_w]; rfl
      refine pure_ (i := 8) (N := some 128) (v := ?_) (a' := ?_) #[yt,yt,yt,yt,yt,yt,yt,yt,yt,yf,yf,yf,yf,yf,yf,yf,yf,yf,yf,yf,yf,yf,yf,yf,yf,yf,yf,yf] rfl rfl (by kernel_rfl) (fun _ _ _ h => h) (Or.inl ⟨by rfl, ?_⟩) ?_ ?_
      rotate_left
      · intro w'; go_simp; with_reducible rfl
      rotate_left
      · simp only [Act.put, zO, zEb, zFb, i64_w, i32_w]; rfl
      refine pure_ (i := 9) (N := some 129) (v := ?_) (a' := ?_) #[yt,yt,yt,yt,yt,yt,yt,yt,yt,yt,yf,yf,yf,yf,yf,yf,yf,yf,yf,yf,yf,yf,yf,yf,yf,yf,yf,yf] rfl rfl (by kernel_rfl) (fun _ _ _ h => h) (Or.inl ⟨by rfl, ?_⟩) ?_ ?_
      rotate_left
      · intro w'; go_simp; with_reducible rfl
      rotate_left
      · simp only [Act.put, zO, zEb, zFb, i64_w, i32_w]; rfl
      refine pure_ (i := 10) (N := some 130) (v := ?_) (a' := ?_) #[yt,yt,yt,yt,yt,yt,yt,yt,yt,yt,yt,yf,yf,yf,yf,yf,yf,yf,yf,yf,yf,yf,yf,yf,yf,yf,yf,yf] rfl rfl (by kernel_rfl) (fun _ _ _ h => h) (Or.inl ⟨by rfl, ?_⟩) ?_ ?_
      rotate_left
      · intro w'; go_simp; with_reducible rfl
      rotate_left
      · simp only [Act.put, zO, zEb, zFb, i64_w, i32_w]; rfl
      refine pure_ (i := 11) (N := some 131) (v := ?_) (a' := ?_) #[yt,yt,yt,yt,yt,yt,yt,yt,yt,yt,yt,yt,yf,yf,yf,yf,yf,yf,yf,yf,yf,yf,yf,yf,yf,yf,yf,yf] rfl rfl (by kernel_rfl) (fun _ _ _ h => h) (Or.inl ⟨by rfl, ?_⟩) ?_ ?_
      rotate_left
      · intro w'; go_simp; with_reducible rfl
      rotate_left
      · simp only [Act.put, zO, zEb, zFb, i64_w, i32_w]; rfl
      refine pure_ (i := 12) (N := some 132) (v := ?_) (a' := ?_) #[yt,yt,yt,yt,yt,yt,yt,yt,yt,yt,yt,yt,yt,yf,yf,yf,yf,yf,yf,yf,yf,yf,yf,yf,yf,yf,yf,yf] rfl rfl (by kernel_rfl) (fun _ _ _ h => h) (Or.inl ⟨by rfl, ?_⟩) ?_ ?_
      rotate_left
      · intro w'; go_simp; with_reducible rfl
      rotate_left
      · simp only [Act.put, zO, zEb, zFb, i64_w, i32_w]; rfl
      refine take_ (i := 13) (N := some 133) (v := ?_) (a' := ?_) #[yt,yt,yt,yt,yt,yt,yt,yt,yt,yt,yt,yt,yt,yt,yf,yf,yf,yf,yf,yf,yf,yf,yf,yf,yf,yf,yf,yf] rfl rfl (by kernel_rfl) (fun _ _ _ h => h) (Or.inl ⟨by rfl, ?_⟩) hHeld ?_ ?_
      rotate_left
      · rintro w' ⟨s0, s1, s2, s3, s4⟩; go_simp; with_reducible rfl
      rotate_left
      · simp only [Act.put, zO, zEb, zFb, i64_w, i32_w]; rfl
      refine one_ (i := 14) (N := some 134) #[yt,yt,yt,yt,yt,yt,yt,yt,yt,yt,yt,yt,yt,yt,yt,yf,yf,yf,yf,yf,yf,yf,yf,yf,yf,yf,yf,yf] rfl rfl (by kernel_rfl) (by decide) (fun K hK => ?_)
      refine goes_ Try.func29 (by kernel_rfl) rfl #[.slice A18_0_ r8_0.length c18_0_, .agg #[.int .i64 r7_2, .slice A13_2_ r7_3.length c13_2_]] (by rfl) rfl rfl (by (try simp only [List.map_toArray, List.map_cons, List.map_nil]); first | done | rfl) ?_
      obtain ⟨ke13, q_⟩ := Ce13.out (by trivial); have Ee13 := Aside0.mk q_; clear q_
      with_reducible refine (impl_HasFact.calls ke13 _ _ r8_0 r7_2 _ _ r7_3 false _ (Kd.S_reads' O18_0.out).2.2 (Kd.S_reads' O18_0.out).2.1 (Kd.R_reads' O13_2.out).2.2 (Kd.R_reads' O13_2.out).2.1 Ee13.out).mono ?_
      rintro e w22_ ⟨rfl, hb⟩
      refine ⟨_, rfl, ?_⟩
      have Z22_ := Aside0.mk (show w21_.heap.size ≤ w22_.heap.size from hb.size)
      replace O2_0 := Aside0.mk (Kd.R_below O2_0.out hb)
      replace O2_2 := Aside0.mk (Kd.R_below O2_2.out hb)
      replace O13_2 := Aside0.mk (Kd.R_below O13_2.out hb)
      replace O18_0 := Aside0.mk (Kd.S_below O18_0.out hb)
      replace Bg3 := Aside0.mk (blk_below Bg3.out hb)
      replace Bg4 := Aside0.mk (blk_below Bg4.out hb)
      replace Bg12 := Aside0.mk (blk_below Bg12.out hb)
      replace HB := Aside0.mk (below_step HB.out hb)
      clear O13_2
      have hxg3_0 : w22_.cell? ⟨g3, 0, none⟩ = some (.slice A2_0_ r1_0.length c2_0_) := (blk_cell Bg3.out 0).trans rfl
      have hxg4_0 : w22_.cell? ⟨g4, 0, none⟩ = some (.int .i64 r1_2) := (blk_cell Bg4.out 0).trans rfl
      have hxg4_1 : w22_.cell? ⟨g4, 1, none⟩ = some (.slice A2_2_ r1_3.length c2_2_) := (blk_cell Bg4.out 1).trans rfl
      clear hb
      clear hxg3_0
      clear hxg4_0
      clear hxg4_1
      refine hK.out _ _ ⟨(blk_cell Bg12.out 0).trans rfl, (blk_cell Bg12.out 1).trans rfl, (blk_cell Bg3.out 0).trans rfl, (blk_cell Bg4.out 0).trans rfl, (blk_cell Bg4.out 1).trans rfl⟩ (fun hHeld => ?_)
      clear hK K
      refine norm_ (a' := ?_) ?_ ?_
      rotate_left
      · show Act.put _ (some 134) _ = _; simp only [Act.put, zO, zEb, zFb, i64_w, i32_w]; rfl
      refine pure_ (i := 15) (N := some 135) (v := ?_) (a' := ?_) #[yt,yt,yt,yt,yt,yt,yt,yt,yt,yt,yt,yt,yt,yt,yt,yt,yf,yf,yf,yf,yf,yf,yf,yf,yf,yf,yf,yf] rfl rfl (by kernel_rfl) (fun _ _ _ h => h) (Or.inl ⟨by rfl, ?_⟩) ?_ ?_
      rotate_left
      · intro w'; go_simp; with_reducible rfl
      rotate_left
      · simp only [Act.put, zO, zEb, zFb, i64_w, i32_w]; rfl
      refine pure_ (i := 16) (N := some 136) (v := ?_) (a' := ?_) #[yt,yt,yt,yt,yt,yt,yt,yt,yt,yt,yt,yt,yt,yt,yt,yt,yt,yf,yf,yf,yf,yf,yf,yf,yf,yf,yf,yf] rfl rfl (by kernel_rfl) (fun _ _ _ h => h) (Or.inl ⟨by rfl, ?_⟩) ?_ ?_
      rotate_left
      · intro w'; go_simp; with_reducible rfl
      rotate_left
      · simp only [Act.put, zO, zEb, zFb, i64_w, i32_w]; rfl
      refine pure_ (i := 17) (N := some 137) (v := ?_) (a' := ?_) #[yt,yt,yt,yt,yt,yt,yt,yt,yt,yt,yt,yt,yt,yt,yt,yt,yt,yt,yf,yf,yf,yf,yf,yf,yf,yf,yf,yf] rfl rfl (by kernel_rfl) (fun _ _ _ h => h) (Or.inl ⟨by rfl, ?_⟩) ?_ ?_
      rotate_left
      · intro w'; go_simp; with_reducible rfl
      rotate_left
      · simp only [Act.put, zO, zEb, zFb, i64_w, i32_w]; rfl
      refine pure_ (i := 18) (N := some 138) (v := ?_) (a' := ?_) #[yt,yt,yt,yt,yt,yt,yt,yt,yt,yt,yt,yt,yt,yt,yt,yt,yt,yt,yt,yf,yf,yf,yf,yf,yf,yf,yf,yf] rfl rfl (by kernel_rfl) (fun _ _ _ h => h) (Or.inl ⟨by rfl, ?_⟩) ?_ ?_
      rotate_left
      · intro w'; go_simp; with_reducible rfl
      rotate_left
      · simp only [Act.put, zO, zEb, zFb, i64_w, i32_w]; rfl
      refine take_ (i := 19) (N := some 139) (v := ?_) (a' := ?_) #[yt,yt,yt,yt,yt,yt,yt,yt,yt,yt,yt,yt,yt,yt,yt,yt,yt,yt,yt,yt,yf,yf,yf,yf,yf,yf,yf,yf] rfl rfl (by kernel_rfl) (fun _ _ _ h => h) (Or.inl ⟨by rfl, ?_⟩) hHeld ?_ ?_
      rotate_left
      · rintro w' ⟨s0, s1, s2, s3, s4⟩; go_simp; with_reducible rfl
      rotate_left
      · simp only [Act.put, zO, zEb, zFb, i64_w, i32_w]; rfl
      refine take_ (i := 20) (N := some 140) (v := ?_) (a' := ?_) #[yt,yt,yt,yt,yt,yt,yt,yt,yt,yt,yt,yt,yt,yt,yt,yt,yt,yt,yt,yt,yt,yf,yf,yf,yf,yf,yf,yf] rfl rfl (by kernel_rfl) (fun _ _ _ h => h) (Or.inl ⟨by rfl, ?_⟩) hHeld ?_ ?_
      rotate_left
      · rintro w' ⟨s0, s1, s2, s3, s4⟩; go_simp; with_reducible rfl
      rotate_left
      · simp only [Act.put, zO, zEb, zFb, i64_w, i32_w]; rfl
      refine take_ (i := 22) (N := some 142) (v := ?_) (a' := ?_) #[yt,yt,yt,yt,yt,yt,yt,yt,yt,yt,yt,yt,yt,yt,yt,yt,yt,yt,yt,yt,yt,yf,yt,yf,yf,yf,yf,yf] rfl rfl (by kernel_rfl) (fun _ _ _ h => h) (Or.inl ⟨by rfl, ?_⟩) hHeld ?_ ?_
      rotate_left
      · rintro w' ⟨s0, s1, s2, s3, s4⟩; go_simp; with_reducible rfl
      rotate_left
      · simp only [Act.put, zO, zEb, zFb, i64_w, i32_w]; rfl
      refine take_ (i := 23) (N := some 143) (v := ?_) (a' := ?_) #[yt,yt,yt,yt,yt,yt,yt,yt,yt,yt,yt,yt,yt,yt,yt,yt,yt,yt,yt,yt,yt,yf,yt,yt,yf,yf,yf,yf] rfl rfl (by kernel_rfl) (fun _ _ _ h => h) (Or.inl ⟨by rfl, ?_⟩) hHeld ?_ ?_
      rotate_left
      · rintro w' ⟨s0, s1, s2, s3, s4⟩; go_simp; with_reducible rfl
      rotate_left
      · simp only [Act.put, zO, zEb, zFb, i64_w, i32_w]; rfl
      refine one_ (i := 21) (N := some 141) #[yt,yt,yt,yt,yt,yt,yt,yt,yt,yt,yt,yt,yt,yt,yt,yt,yt,yt,yt,yt,yt,yt,yt,yt,yf,yf,yf,yf] rfl rfl (by kernel_rfl) (by decide) (fun K hK => ?_)
      refine goes_ Try.func32 (by kernel_rfl) rfl #[.agg #[.slice A2_0_ r1_0.length c2_0_], .agg #[.int .i64 r1_2, .slice A2_2_ r1_3.length c2_2_]] (by rfl) rfl rfl (by (try simp only [List.map_toArray, List.map_cons, List.map_nil]); first | done | rfl) ?_
      with_reducible refine (impl_IsFact.calls ke11 _ _ r1_0 r1_2 _ _ r1_3 r11_0 _ (Kd.R_reads' O2_0.out).2.2 (Kd.R_reads' O2_0.out).2.1 (Kd.R_reads' O2_2.out).2.2 (Kd.R_reads' O2_2.out).2.1 Ee11.out).mono ?_
      rintro e w23_ ⟨rfl, hb⟩
      refine ⟨_, rfl, ?_⟩
      have Z23_ := Aside0.mk (show w22_.heap.size ≤ w23_.heap.size from hb.size)
      replace O2_0 := Aside0.mk (Kd.R_below O2_0.out hb)
      replace O2_2 := Aside0.mk (Kd.R_below O2_2.out hb)
      replace O18_0 := Aside0.mk (Kd.S_below O18_0.out hb)
      replace Bg3 := Aside0.mk (blk_below Bg3.out hb)
      replace Bg4 := Aside0.mk (blk_below Bg4.out hb)
      replace Bg12 := Aside0.mk (blk_below Bg12.out hb)
      replace HB := Aside0.mk (below_step HB.out hb)
      clear hb
      refine hK.out _ _ ⟨(blk_cell Bg12.out 0).trans rfl, (blk_cell Bg12.out 1).trans rfl, (blk_cell Bg3.out 0).trans rfl, (blk_cell Bg4.out 0).trans rfl, (blk_cell Bg4.out 1).trans rfl⟩ (fun hHeld => ?_)
      clear hK K
      refine norm_ (a' := ?_) ?_ ?_
      rotate_left
      · show Act.put _ (some 141) _ = _; simp only [Act.put, zO, zEb, zFb, i64_w, i32_w]; rfl
      refine one_ (i := 24) (N := some 144) #[yt,yt,yt,yt,yt,yt,yt,yt,yt,yt,yt,yt,yt,yt,yt,yt,yt,yt,yt,yt,yt,yt,yt,yt,yt,yf,yf,yf] rfl rfl (by kernel_rfl) (by decide) (fun K hK => ?_)
      refine goes_ Try.func33 (by kernel_rfl) rfl #[.agg #[.slice A2_0_ r1_0.length c2_0_], .agg #[.int .i64 r1_2, .slice A2_2_ r1_3.length c2_2_]] (by rfl) rfl rfl (by (try simp only [List.map_toArray, List.map_cons, List.map_nil]); first | done | rfl) ?_
      with_reducible refine (spec_IsFact.calls ke12 _ _ r1_0 r1_2 _ _ r1_3 r11_0 _ (Kd.R_reads' O2_0.out).2.2 (Kd.R_reads' O2_0.out).2.1 (Kd.R_reads' O2_2.out).2.2 (Kd.R_reads' O2_2.out).2.1 Ee12.out).mono ?_
      rintro e w24_ ⟨rfl, hb⟩
      refine ⟨_, rfl, ?_⟩
      have Z24_ := Aside0.mk (show w23_.heap.size ≤ w24_.heap.size from hb.size)
      replace O2_0 := Aside0.mk (Kd.R_below O2_0.out hb)
      replace O2_2 := Aside0.mk (Kd.R_below O2_2.out hb)
      replace O18_0 := Aside0.mk (Kd.S_below O18_0.out hb)
      replace Bg3 := Aside0.mk (blk_below Bg3.out hb)
      replace Bg4 := Aside0.mk (blk_below Bg4.out hb)
      replace Bg12 := Aside0.mk (blk_below Bg12.out hb)
      replace HB := Aside0.mk (below_step HB.out hb)
      clear O18_0
      clear hb
      refine hK.out _ _ ⟨(blk_cell Bg12.out 0).trans rfl, (blk_cell Bg12.out 1).trans rfl, (blk_cell Bg3.out 0).trans rfl, (blk_cell Bg4.out 0).trans rfl, (blk_cell Bg4.out 1).trans rfl⟩ (fun hHeld => ?_)
      clear hK K
      refine norm_ (a' := ?_) ?_ ?_
      rotate_left
      · show Act.put _ (some 144) _ = _; simp only [Act.put, zO, zEb, zFb, i64_w, i32_w]; rfl
      refine pure_ (i := 25) (N := some 145) (v := ?_) (a' := ?_) #[yt,yt,yt,yt,yt,yt,yt,yt,yt,yt,yt,yt,yt,yt,yt,yt,yt,yt,yt,yt,yt,yt,yt,yt,yt,yt,yf,yf] rfl rfl (by kernel_rfl) (fun _ _ _ h => h) (Or.inl ⟨by rfl, ?_⟩) ?_ ?_
      rotate_left
      · intro w'; go_simp; (try simp only [bne_self_eq_false, beq_self_eq_true]); with_reducible rfl
      rotate_left
      · simp only [Act.put, zO, zEb, zFb, i64_w, i32_w]; rfl
      refine pure_ (i := 26) (N := some 146) (v := ?_) (a' := ?_) #[yt,yt,yt,yt,yt,yt,yt,yt,yt,yt,yt,yt,yt,yt,yt,yt,yt,yt,yt,yt,yt,yt,yt,yt,yt,yt,yt,yf] rfl rfl (by kernel_rfl) (fun _ _ _ h => h) (Or.inl ⟨by rfl, ?_⟩) ?_ ?_
      rotate_left
      · intro w'; go_simp; with_reducible rfl
      rotate_left
      · simp only [Act.put, zO, zEb, zFb, i64_w, i32_w]; rfl
      refine pure_ (i := 27) (N := some 2) (v := ?_) (a' := ?_) #[yt,yt,yt,yt,yt,yt,yt,yt,yt,yt,yt,yt,yt,yt,yt,yt,yt,yt,yt,yt,yt,yt,yt,yt,yt,yt,yt,yt] rfl rfl (by kernel_rfl) (fun _ _ _ h => h) (Or.inl ⟨by rfl, ?_⟩) ?_ ?_
      rotate_left
      · intro w'; go_simp; with_reducible rfl
      rotate_left
      · simp only [Act.put, zO, zEb, zFb, i64_w, i32_w]; rfl
      refine done_ (by kernel_rfl) ?_
      go_wp2
      go_ret
      exact ⟨rfl, HB.out⟩
  case true =>
    skip
    go_wp2_with (first | (go_at_call 27; refine hold ?_))
    unfold Hold
    obtain ⟨ke14, q_⟩ := Ce14.out (by trivial); have Ee14 := Aside0.mk q_; clear q_
    refine (impl_RemoveFact.calls ke14 _ _ r1_0 _ _ r2_0 r1_2 _ _ r1_3 r14_0 true _ (Kd.R_reads' O2_0.out).2.2 (Kd.R_reads' O2_0.out).2.1 (Kd.S_reads' O7_0.out).2.2 (Kd.S_reads' O7_0.out).2.1 (Kd.R_reads' O2_2.out).2.2 (Kd.R_reads' O2_2.out).2.1 Ee14.out).mono ?_
    rintro e w13_ ⟨v13_0_, rfl, ho0, hb⟩
    have O13_0 := Aside0.mk (newS ho0 HB.out.size)
    have Z13_ := Aside0.mk (show w12_.heap.size ≤ w13_.heap.size from hb.size)
    replace O2_0 := Aside0.mk (Kd.R_below O2_0.out hb)
    replace O2_1 := Aside0.mk (Kd.S_below O2_1.out hb)
    replace O2_2 := Aside0.mk (Kd.R_below O2_2.out hb)
    replace O7_0 := Aside0.mk (Kd.S_below O7_0.out hb)
    replace Bg3 := Aside0.mk (blk_below Bg3.out hb)
    replace Bg4 := Aside0.mk (blk_below Bg4.out hb)
    replace HB := Aside0.mk (below_step HB.out hb)
    clear hxg3_0
    clear hxg4_0
    clear hxg4_1
    clear hb ho0
    obtain ⟨A13_0_, c13_0_, eq_⟩ := Kd.S_slice O13_0.out
    subst eq_
    go_wp2_with (first | (go_at_call 28; refine hold ?_))
    unfold Hold
    obtain ⟨ke15, q_⟩ := Ce15.out (by trivial); have Ee15 := Aside0.mk q_; clear q_
    refine (impl_EqualFacts.calls ke15 _ _ r14_0 _ _ r1_1 true _ (Kd.S_reads' O13_0.out).2.2 (Kd.S_reads' O13_0.out).2.1 (Kd.S_reads' O2_1.out).2.2 (Kd.S_reads' O2_1.out).2.1 Ee15.out).mono ?_
    rintro e w14_ ⟨rfl, hb⟩
    have Z14_ := Aside0.mk (show w13_.heap.size ≤ w14_.heap.size from hb.size)
    replace O2_0 := Aside0.mk (Kd.R_below O2_0.out hb)
    replace O2_1 := Aside0.mk (Kd.S_below O2_1.out hb)
    replace O2_2 := Aside0.mk (Kd.R_below O2_2.out hb)
    replace O7_0 := Aside0.mk (Kd.S_below O7_0.out hb)
    replace O13_0 := Aside0.mk (Kd.S_below O13_0.out hb)
    replace Bg3 := Aside0.mk (blk_below Bg3.out hb)
    replace Bg4 := Aside0.mk (blk_below Bg4.out hb)
    replace HB := Aside0.mk (below_step HB.out hb)
    have hxg4_0 : w14_.cell? ⟨g4, 0, none⟩ = some (.int .i64 r1_2) := (blk_cell Bg4.out 0).trans rfl
    have hxg4_1 : w14_.cell? ⟨g4, 1, none⟩ = some (.slice A2_2_ r1_3.length c2_2_) := (blk_cell Bg4.out 1).trans rfl
    clear hb
    go_wp2_with (first | (go_at_call 29; refine hold ?_))
    unfold Hold
    obtain ⟨ke16, q_⟩ := Ce16.out (by trivial); have Ee16 := Aside0.mk q_; clear q_
    refine (impl_HasFact.calls ke16 _ _ r2_0 r1_2 _ _ r1_3 true _ (Kd.S_reads' O7_0.out).2.2 (Kd.S_reads' O7_0.out).2.1 (Kd.R_reads' O2_2.out).2.2 (Kd.R_reads' O2_2.out).2.1 Ee16.out).mono ?_
    rintro e w15_ ⟨rfl, hb⟩
    have Z15_ := Aside0.mk (show w14_.heap.size ≤ w15_.heap.size from hb.size)
    replace O2_0 := Aside0.mk (Kd.R_below O2_0.out hb)
    replace O2_1 := Aside0.mk (Kd.S_below O2_1.out hb)
    replace O2_2 := Aside0.mk (Kd.R_below O2_2.out hb)
    replace O7_0 := Aside0.mk (Kd.S_below O7_0.out hb)
    replace O13_0 := Aside0.mk (Kd.S_below O13_0.out hb)
    replace Bg3 := Aside0.mk (blk_below Bg3.out hb)
    replace Bg4 := Aside0.mk (blk_below Bg4.out hb)
    replace HB := Aside0.mk (below_step HB.out hb)
    clear hxg4_0
    clear hxg4_1
    have hxg4_0 : w15_.cell? ⟨g4, 0, none⟩ = some (.int .i64 r1_2) := (blk_cell Bg4.out 0).trans rfl
    have hxg4_1 : w15_.cell? ⟨g4, 1, none⟩ = some (.slice A2_2_ r1_3.length c2_2_) := (blk_cell Bg4.out 1).trans rfl
    clear hb
    go_wp2_with (first | (go_at_call 29; refine hold ?_))
    unfold Hold
    obtain ⟨ke17, q_⟩ := Ce17.out (by trivial); have Ee17 := Aside0.mk q_; clear q_
    refine (impl_HasFact.calls ke17 _ _ r1_1 r1_2 _ _ r1_3 false _ (Kd.S_reads' O2_1.out).2.2 (Kd.S_reads' O2_1.out).2.1 (Kd.R_reads' O2_2.out).2.2 (Kd.R_reads' O2_2.out).2.1 Ee17.out).mono ?_
    rintro e w16_ ⟨rfl, hb⟩
    have Z16_ := Aside0.mk (show w15_.heap.size ≤ w16_.heap.size from hb.size)
    replace O2_0 := Aside0.mk (Kd.R_below O2_0.out hb)
    replace O2_1 := Aside0.mk (Kd.S_below O2_1.out hb)
    replace O2_2 := Aside0.mk (Kd.R_below O2_2.out hb)
    replace O7_0 := Aside0.mk (Kd.S_below O7_0.out hb)
    replace O13_0 := Aside0.mk (Kd.S_below O13_0.out hb)
    replace Bg3 := Aside0.mk (blk_below Bg3.out hb)
    replace Bg4 := Aside0.mk (blk_below Bg4.out hb)
    replace HB := Aside0.mk (below_step HB.out hb)
    clear O2_1
    clear hxg4_0
    clear hxg4_1
    have hxg3_0 : w16_.cell? ⟨g3, 0, none⟩ = some (.slice A2_0_ r1_0.length c2_0_) := (blk_cell Bg3.out 0).trans rfl
    clear hb
    go_wp2_with (first | (go_at_call 25; refine hold ?_))
    unfold Hold
    obtain ⟨ke18, q_⟩ := Ce18.out (by trivial); have Ee18 := Aside0.mk q_; clear q_
    refine (impl_IsDatabase.calls ke18 _ _ r1_0 _ _ r2_0 true _ (Kd.R_reads' O2_0.out).2.2 (Kd.R_reads' O2_0.out).2.1 (Kd.S_reads' O7_0.out).2.2 (Kd.S_reads' O7_0.out).2.1 Ee18.out).mono ?_
    rintro e w17_ ⟨rfl, hb⟩
    have Z17_ := Aside0.mk (show w16_.heap.size ≤ w17_.heap.size from hb.size)
    replace O2_0 := Aside0.mk (Kd.R_below O2_0.out hb)
    replace O2_2 := Aside0.mk (Kd.R_below O2_2.out hb)
    replace O7_0 := Aside0.mk (Kd.S_below O7_0.out hb)
    replace O13_0 := Aside0.mk (Kd.S_below O13_0.out hb)
    replace Bg3 := Aside0.mk (blk_below Bg3.out hb)
    replace Bg4 := Aside0.mk (blk_below Bg4.out hb)
    replace HB := Aside0.mk (below_step HB.out hb)
    clear O7_0
    clear hxg3_0
    clear hb
    have ce19 := Ce19.out (by trivial); have ce19w := Ce19w.out (by trivial)
    have ce19a : ((r2_0.length : Int) != ((r1_1.length : Int) + 1)) = false := by rw [ce19]; simp
    have ce19b : ((r2_0.length : Int) != wrap64 ((r1_1.length : Int) + 1)) = false := by rw [ce19w, ce19]; simp
    go_wp2_with (first | (go_at_call 30; refine hold ?_))
    unfold Hold
    refine (spec_DrawRemoveFact_calls ke7 _ _ l0 r7_0 r7_1 r7_2 r7_3 _ (Kd.C_below H0.out HB.out) HC0.out Ee7.out).mono ?_
    rintro e w18_ ⟨v18_0_, v18_1_, v18_2_, rfl, ho0, ho1, ho2, hb⟩
    have O18_0 := Aside0.mk (newR ho0 HB.out.size)
    have O18_1 := Aside0.mk (newS ho1 HB.out.size)
    have O18_2 := Aside0.mk (newR ho2 HB.out.size)
    have Z18_ := Aside0.mk (show w17_.heap.size ≤ w18_.heap.size from hb.size)
    replace O2_0 := Aside0.mk (Kd.R_below O2_0.out hb)
    replace O2_2 := Aside0.mk (Kd.R_below O2_2.out hb)
    replace O13_0 := Aside0.mk (Kd.S_below O13_0.out hb)
    replace Bg3 := Aside0.mk (blk_below Bg3.out hb)
    replace Bg4 := Aside0.mk (blk_below Bg4.out hb)
    replace HB := Aside0.mk (below_step HB.out hb)
    clear hb ho0 ho1 ho2
    obtain ⟨A18_0_, c18_0_, eq_⟩ := Kd.R_slice O18_0.out
    subst eq_
    obtain ⟨A18_1_, c18_1_, eq_⟩ := Kd.S_slice O18_1.out
    subst eq_
    obtain ⟨A18_2_, c18_2_, eq_⟩ := Kd.R_slice O18_2.out
    subst eq_
    go_wp2_with (first | ((with_reducible refine gate_dst (N := 12) rfl ?_); refine hold ?_))
    unfold Hold
    refine box_event ?hg (N := 12) ?hd (cs := #[.slice none 0 0]) (t := 34) ?hr ?_
    case hd => rfl
    case hg => rfl
    case hr => first | (go_simp; done) | (go_simp; rfl)
    intro g15 hg w19_ hbox hb
    have Bg15 := Aside0.mk hbox
    have Gg15 := Aside0.mk (show w18_.heap.size ≤ g15 ∧ g15 < w19_.heap.size from ⟨by rw [hg]; exact Nat.le_refl _, blk_lt hbox⟩)
    clear hbox hg
    have Z19_ := Aside0.mk (show w18_.heap.size ≤ w19_.heap.size from hb.size)
    replace O2_0 := Aside0.mk (Kd.R_below O2_0.out hb)
    replace O2_2 := Aside0.mk (Kd.R_below O2_2.out hb)
    replace O13_0 := Aside0.mk (Kd.S_below O13_0.out hb)
    replace O18_0 := Aside0.mk (Kd.R_below O18_0.out hb)
    replace O18_1 := Aside0.mk (Kd.S_below O18_1.out hb)
    replace O18_2 := Aside0.mk (Kd.R_below O18_2.out hb)
    replace Bg3 := Aside0.mk (blk_below Bg3.out hb)
    replace Bg4 := Aside0.mk (blk_below Bg4.out hb)
    replace HB := Aside0.mk (below_step HB.out hb)
    clear O13_0
    clear hb
    go_wp2_with (first | ((with_reducible refine gate_dst (N := 14) rfl ?_); refine hold ?_))
    unfold Hold
    refine box_event ?hg (N := 14) ?hd (cs := #[.int .i64 0, .slice none 0 0]) (t := 37) ?hr ?_
    case hd => rfl
    case hg => rfl
    case hr => first | (go_simp; done) | (go_simp; rfl)
    intro g16 hg w20_ hbox hb
    have Bg16 := Aside0.mk hbox
    have Gg16 := Aside0.mk (show w19_.heap.size ≤ g16 ∧ g16 < w20_.heap.size from ⟨by rw [hg]; exact Nat.le_refl _, blk_lt hbox⟩)
    clear hbox hg
    have Z20_ := Aside0.mk (show w19_.heap.size ≤ w20_.heap.size from hb.size)
    replace O2_0 := Aside0.mk (Kd.R_below O2_0.out hb)
    replace O2_2 := Aside0.mk (Kd.R_below O2_2.out hb)
    replace O18_0 := Aside0.mk (Kd.R_below O18_0.out hb)
    replace O18_1 := Aside0.mk (Kd.S_below O18_1.out hb)
    replace O18_2 := Aside0.mk (Kd.R_below O18_2.out hb)
    replace Bg3 := Aside0.mk (blk_below Bg3.out hb)
    replace Bg4 := Aside0.mk (blk_below Bg4.out hb)
    replace Bg15 := Aside0.mk (blk_below Bg15.out hb)
    replace HB := Aside0.mk (below_step HB.out hb)
    have hxg15_0 : w20_.cell? ⟨g15, 0, none⟩ = some (.slice none 0 0) := (blk_cell Bg15.out 0).trans rfl
    have hfg15_0 := blk_frozen Bg15.out 0
    clear hb
    go_wp2_with (first | ((with_reducible refine gate_store (t := 34) (p := 12) rfl ?_); refine hold ?_))
    unfold Hold
    refine store_event (t := 34) (p := 12) (v := ?vo20) (w1 := (w20_.setCell ⟨g15, 0, none⟩ (.slice A18_0_ r7_0.length c18_0_))) ?hg ?ho ?hn ?hr ?_
    case ho => rfl
    case hg => rfl
    case hn => rfl
    case hr => first | (go_simp; done) | (go_simp; rfl)
    intro w21_ hw
    have hk : Kept w20_ w21_ (fun k => k = g15) := by rw [hw]; exact kept_one _
    have hb0 : Below w.heap.size w w21_ := by rw [hw]; exact (below_set HB.out (Nat.le_trans (by have z1_ := Z1_.out; have z2_ := Z2_.out; have z3_ := Z3_.out; have z4_ := Z4_.out; have z5_ := Z5_.out; have z6_ := Z6_.out; have z7_ := Z7_.out; have z8_ := Z8_.out; have z9_ := Z9_.out; have z10_ := Z10_.out; have z11_ := Z11_.out; have z12_ := Z12_.out; have z13_ := Z13_.out; have z14_ := Z14_.out; have z15_ := Z15_.out; have z16_ := Z16_.out; have z17_ := Z17_.out; have z18_ := Z18_.out; omega) Gg15.out.1))
    have n_ := Aside0.mk (show w21_.heap[g15]? = some (.cells #[.slice A18_0_ r7_0.length c18_0_] 34 (0, 0)) by rw [hw]; exact (blk_put (cs := #[.slice none 0 0]) (cs' := #[.slice A18_0_ r7_0.length c18_0_]) Bg15.out 0 _ rfl))
    clear Bg15; have Bg15 := n_; clear n_ hw
    have Z21_ := Aside0.mk (show w20_.heap.size ≤ w21_.heap.size from hk.1)
    have n_ := Aside0.mk (Kd.R_kept O2_0.out hk (fun k_ hk1 hk2 => by obtain ⟨a1_, a2_⟩ := hk1.1; have e_ : k_ = g15 := hk2; obtain ⟨b1_, b2_⟩ := Gg15.out; have z3_ := Z3_.out; have z4_ := Z4_.out; have z5_ := Z5_.out; have z6_ := Z6_.out; have z7_ := Z7_.out; have z8_ := Z8_.out; have z9_ := Z9_.out; have z10_ := Z10_.out; have z11_ := Z11_.out; have z12_ := Z12_.out; have z13_ := Z13_.out; have z14_ := Z14_.out; have z15_ := Z15_.out; have z16_ := Z16_.out; have z17_ := Z17_.out; have z18_ := Z18_.out; omega)); clear O2_0; have O2_0 := n_; clear n_
    have n_ := Aside0.mk (Kd.R_kept O2_2.out hk (fun k_ hk1 hk2 => by obtain ⟨a1_, a2_⟩ := hk1.1; have e_ : k_ = g15 := hk2; obtain ⟨b1_, b2_⟩ := Gg15.out; have z3_ := Z3_.out; have z4_ := Z4_.out; have z5_ := Z5_.out; have z6_ := Z6_.out; have z7_ := Z7_.out; have z8_ := Z8_.out; have z9_ := Z9_.out; have z10_ := Z10_.out; have z11_ := Z11_.out; have z12_ := Z12_.out; have z13_ := Z13_.out; have z14_ := Z14_.out; have z15_ := Z15_.out; have z16_ := Z16_.out; have z17_ := Z17_.out; have z18_ := Z18_.out; omega)); clear O2_2; have O2_2 := n_; clear n_
    have n_ := Aside0.mk (Kd.R_kept O18_0.out hk (fun k_ hk1 hk2 => by obtain ⟨a1_, a2_⟩ := hk1.1; have e_ : k_ = g15 := hk2; obtain ⟨b1_, b2_⟩ := Gg15.out; omega)); clear O18_0; have O18_0 := n_; clear n_
    have n_ := Aside0.mk (Kd.S_kept O18_1.out hk (fun k_ hk1 hk2 => by obtain ⟨a1_, a2_⟩ := hk1.1; have e_ : k_ = g15 := hk2; obtain ⟨b1_, b2_⟩ := Gg15.out; omega)); clear O18_1; have O18_1 := n_; clear n_
    have n_ := Aside0.mk (Kd.R_kept O18_2.out hk (fun k_ hk1 hk2 => by obtain ⟨a1_, a2_⟩ := hk1.1; have e_ : k_ = g15 := hk2; obtain ⟨b1_, b2_⟩ := Gg15.out; omega)); clear O18_2; have O18_2 := n_; clear n_
    have n_ := Aside0.mk (blk_kept Bg3.out hk (fun hk2 => by obtain ⟨a1_, a2_⟩ := Gg3.out; have e_ : g3 = g15 := hk2; obtain ⟨b1_, b2_⟩ := Gg15.out; have z4_ := Z4_.out; have z5_ := Z5_.out; have z6_ := Z6_.out; have z7_ := Z7_.out; have z8_ := Z8_.out; have z9_ := Z9_.out; have z10_ := Z10_.out; have z11_ := Z11_.out; have z12_ := Z12_.out; have z13_ := Z13_.out; have z14_ := Z14_.out; have z15_ := Z15_.out; have z16_ := Z16_.out; have z17_ := Z17_.out; have z18_ := Z18_.out; omega)); clear Bg3; have Bg3 := n_; clear n_
    have n_ := Aside0.mk (blk_kept Bg4.out hk (fun hk2 => by obtain ⟨a1_, a2_⟩ := Gg4.out; have e_ : g4 = g15 := hk2; obtain ⟨b1_, b2_⟩ := Gg15.out; have z5_ := Z5_.out; have z6_ := Z6_.out; have z7_ := Z7_.out; have z8_ := Z8_.out; have z9_ := Z9_.out; have z10_ := Z10_.out; have z11_ := Z11_.out; have z12_ := Z12_.out; have z13_ := Z13_.out; have z14_ := Z14_.out; have z15_ := Z15_.out; have z16_ := Z16_.out; have z17_ := Z17_.out; have z18_ := Z18_.out; omega)); clear Bg4; have Bg4 := n_; clear n_
    have n_ := Aside0.mk (blk_kept Bg16.out hk (fun hk2 => by obtain ⟨a1_, a2_⟩ := Gg16.out; have e_ : g16 = g15 := hk2; obtain ⟨b1_, b2_⟩ := Gg15.out; omega)); clear Bg16; have Bg16 := n_; clear n_
    clear HB; have HB := Aside0.mk hb0
    clear hxg15_0
    clear hfg15_0
    have hxg3_0 : w21_.cell? ⟨g3, 0, none⟩ = some (.slice A2_0_ r1_0.length c2_0_) := (blk_cell Bg3.out 0).trans rfl
    have hxg4_0 : w21_.cell? ⟨g4, 0, none⟩ = some (.int .i64 r1_2) := (blk_cell Bg4.out 0).trans rfl
    have hxg4_1 : w21_.cell? ⟨g4, 1, none⟩ = some (.slice A2_2_ r1_3.length c2_2_) := (blk_cell Bg4.out 1).trans rfl
    have hxg16_0 : w21_.cell? ⟨g16, 0, none⟩ = some (.int .i64 0) := (blk_cell Bg16.out 0).trans rfl
    have hxg16_1 : w21_.cell? ⟨g16, 1, none⟩ = some (.slice none 0 0) := (blk_cell Bg16.out 1).trans rfl
    have hfg16_0 := blk_frozen Bg16.out 0
    have hfg16_1 := blk_frozen Bg16.out 1
    clear hk hb0
    go_wp2_with (first | ((with_reducible refine gate_store (t := 37) (p := 14) rfl ?_); refine hold ?_))
    unfold Hold
    refine store_event (t := 37) (p := 14) (v := ?vo21) (w1 := ((w21_.setCell ⟨g16, 0, none⟩ (.int .i64 r7_2)).setCell ⟨g16, 1, none⟩ (.slice A18_2_ r7_3.length c18_2_))) ?hg ?ho ?hn ?hr ?_
    case ho => rfl
    case hg => rfl
    case hn => rfl
    case hr => first | (go_simp; done) | (go_simp; rfl)
    intro w22_ hw
    have hk : Kept w21_ w22_ (fun k => k = g16) := by rw [hw]; exact kept_two _ _
    have hb0 : Below w.heap.size w w22_ := by rw [hw]; exact (below_set (below_set HB.out (Nat.le_trans (by have z1_ := Z1_.out; have z2_ := Z2_.out; have z3_ := Z3_.out; have z4_ := Z4_.out; have z5_ := Z5_.out; have z6_ := Z6_.out; have z7_ := Z7_.out; have z8_ := Z8_.out; have z9_ := Z9_.out; have z10_ := Z10_.out; have z11_ := Z11_.out; have z12_ := Z12_.out; have z13_ := Z13_.out; have z14_ := Z14_.out; have z15_ := Z15_.out; have z16_ := Z16_.out; have z17_ := Z17_.out; have z18_ := Z18_.out; have z19_ := Z19_.out; omega) Gg16.out.1)) (Nat.le_trans (by have z1_ := Z1_.out; have z2_ := Z2_.out; have z3_ := Z3_.out; have z4_ := Z4_.out; have z5_ := Z5_.out; have z6_ := Z6_.out; have z7_ := Z7_.out; have z8_ := Z8_.out; have z9_ := Z9_.out; have z10_ := Z10_.out; have z11_ := Z11_.out; have z12_ := Z12_.out; have z13_ := Z13_.out; have z14_ := Z14_.out; have z15_ := Z15_.out; have z16_ := Z16_.out; have z17_ := Z17_.out; have z18_ := Z18_.out; have z19_ := Z19_.out; omega) Gg16.out.1))
    have n_ := Aside0.mk (show w22_.heap[g16]? = some (.cells #[.int .i64 r7_2, .slice A18_2_ r7_3.length c18_2_] 37 (0, 0)) by rw [hw]; exact (blk_put (cs := #[.int .i64 r7_2, .slice none 0 0]) (cs' := #[.int .i64 r7_2, .slice A18_2_ r7_3.length c18_2_]) (blk_put (cs := #[.int .i64 0, .slice none 0 0]) (cs' := #[.int .i64 r7_2, .slice none 0 0]) Bg16.out 0 _ rfl) 1 _ rfl))
    clear Bg16; have Bg16 := n_; clear n_ hw
    have Z22_ := Aside0.mk (show w21_.heap.size ≤ w22_.heap.size from hk.1)
    have n_ := Aside0.mk (Kd.R_kept O2_0.out hk (fun k_ hk1 hk2 => by obtain ⟨a1_, a2_⟩ := hk1.1; have e_ : k_ = g16 := hk2; obtain ⟨b1_, b2_⟩ := Gg16.out; have z3_ := Z3_.out; have z4_ := Z4_.out; have z5_ := Z5_.out; have z6_ := Z6_.out; have z7_ := Z7_.out; have z8_ := Z8_.out; have z9_ := Z9_.out; have z10_ := Z10_.out; have z11_ := Z11_.out; have z12_ := Z12_.out; have z13_ := Z13_.out; have z14_ := Z14_.out; have z15_ := Z15_.out; have z16_ := Z16_.out; have z17_ := Z17_.out; have z18_ := Z18_.out; have z19_ := Z19_.out; omega)); clear O2_0; have O2_0 := n_; clear n_
    have n_ := Aside0.mk (Kd.R_kept O2_2.out hk (fun k_ hk1 hk2 => by obtain ⟨a1_, a2_⟩ := hk1.1; have e_ : k_ = g16 := hk2; obtain ⟨b1_, b2_⟩ := Gg16.out; have z3_ := Z3_.out; have z4_ := Z4_.out; have z5_ := Z5_.out; have z6_ := Z6_.out; have z7_ := Z7_.out; have z8_ := Z8_.out; have z9_ := Z9_.out; have z10_ := Z10_.out; have z11_ := Z11_.out; have z12_ := Z12_.out; have z13_ := Z13_.out; have z14_ := Z14_.out; have z15_ := Z15_.out; have z16_ := Z16_.out; have z17_ := Z17_.out; have z18_ := Z18_.out; have z19_ := Z19_.out; omega)); clear O2_2; have O2_2 := n_; clear n_
    have n_ := Aside0.mk (Kd.R_kept O18_0.out hk (fun k_ hk1 hk2 => by obtain ⟨a1_, a2_⟩ := hk1.1; have e_ : k_ = g16 := hk2; obtain ⟨b1_, b2_⟩ := Gg16.out; have z19_ := Z19_.out; omega)); clear O18_0; have O18_0 := n_; clear n_
    have n_ := Aside0.mk (Kd.S_kept O18_1.out hk (fun k_ hk1 hk2 => by obtain ⟨a1_, a2_⟩ := hk1.1; have e_ : k_ = g16 := hk2; obtain ⟨b1_, b2_⟩ := Gg16.out; have z19_ := Z19_.out; omega)); clear O18_1; have O18_1 := n_; clear n_
    have n_ := Aside0.mk (Kd.R_kept O18_2.out hk (fun k_ hk1 hk2 => by obtain ⟨a1_, a2_⟩ := hk1.1; have e_ : k_ = g16 := hk2; obtain ⟨b1_, b2_⟩ := Gg16.out; have z19_ := Z19_.out; omega)); clear O18_2; have O18_2 := n_; clear n_
    have n_ := Aside0.mk (blk_kept Bg3.out hk (fun hk2 => by obtain ⟨a1_, a2_⟩ := Gg3.out; have e_ : g3 = g16 := hk2; obtain ⟨b1_, b2_⟩ := Gg16.out; have z4_ := Z4_.out; have z5_ := Z5_.out; have z6_ := Z6_.out; have z7_ := Z7_.out; have z8_ := Z8_.out; have z9_ := Z9_.out; have z10_ := Z10_.out; have z11_ := Z11_.out; have z12_ := Z12_.out; have z13_ := Z13_.out; have z14_ := Z14_.out; have z15_ := Z15_.out; have z16_ := Z16_.out; have z17_ := Z17_.out; have z18_ := Z18_.out; have z19_ := Z19_.out; omega)); clear Bg3; have Bg3 := n_; clear n_
    have n_ := Aside0.mk (blk_kept Bg4.out hk (fun hk2 => by obtain ⟨a1_, a2_⟩ := Gg4.out; have e_ : g4 = g16 := hk2; obtain ⟨b1_, b2_⟩ := Gg16.out; have z5_ := Z5_.out; have z6_ := Z6_.out; have z7_ := Z7_.out; have z8_ := Z8_.out; have z9_ := Z9_.out; have z10_ := Z10_.out; have z11_ := Z11_.out; have z12_ := Z12_.out; have z13_ := Z13_.out; have z14_ := Z14_.out; have z15_ := Z15_.out; have z16_ := Z16_.out; have z17_ := Z17_.out; have z18_ := Z18_.out; have z19_ := Z19_.out; omega)); clear Bg4; have Bg4 := n_; clear n_
    have n_ := Aside0.mk (blk_kept Bg15.out hk (fun hk2 => by obtain ⟨a1_, a2_⟩ := Gg15.out; have e_ : g15 = g16 := hk2; obtain ⟨b1_, b2_⟩ := Gg16.out; omega)); clear Bg15; have Bg15 := n_; clear n_
    clear HB; have HB := Aside0.mk hb0
    clear hxg3_0
    clear hxg4_0
    clear hxg4_1
    clear hxg16_0
    clear hxg16_1
    clear hfg16_0
    clear hfg16_1
    have hxg3_0 : w22_.cell? ⟨g3, 0, none⟩ = some (.slice A2_0_ r1_0.length c2_0_) := (blk_cell Bg3.out 0).trans rfl
    have hxg4_0 : w22_.cell? ⟨g4, 0, none⟩ = some (.int .i64 r1_2) := (blk_cell Bg4.out 0).trans rfl
    have hxg4_1 : w22_.cell? ⟨g4, 1, none⟩ = some (.slice A2_2_ r1_3.length c2_2_) := (blk_cell Bg4.out 1).trans rfl
    have hxg15_0 : w22_.cell? ⟨g15, 0, none⟩ = some (.slice A18_0_ r7_0.length c18_0_) := (blk_cell Bg15.out 0).trans rfl
    have hxg16_0 : w22_.cell? ⟨g16, 0, none⟩ = some (.int .i64 r7_2) := (blk_cell Bg16.out 0).trans rfl
    have hxg16_1 : w22_.cell? ⟨g16, 1, none⟩ = some (.slice A18_2_ r7_3.length c18_2_) := (blk_cell Bg16.out 1).trans rfl
    clear hk hb0
    go_wp2_with (first | (go_at_call 27; refine hold ?_))
    unfold Hold
    refine (impl_RemoveFact.calls ke8 _ _ r7_0 _ _ r7_1 r7_2 _ _ r7_3 r8_0 bG _ (Kd.R_reads' O18_0.out).2.2 (Kd.R_reads' O18_0.out).2.1 (Kd.S_reads' O18_1.out).2.2 (Kd.S_reads' O18_1.out).2.1 (Kd.R_reads' O18_2.out).2.2 (Kd.R_reads' O18_2.out).2.1 Ee8.out).mono ?_
    rintro e w23_ ⟨v23_0_, rfl, ho0, hb⟩
    have O23_0 := Aside0.mk (newS ho0 HB.out.size)
    have Z23_ := Aside0.mk (show w22_.heap.size ≤ w23_.heap.size from hb.size)
    replace O2_0 := Aside0.mk (Kd.R_below O2_0.out hb)
    replace O2_2 := Aside0.mk (Kd.R_below O2_2.out hb)
    replace O18_0 := Aside0.mk (Kd.R_below O18_0.out hb)
    replace O18_1 := Aside0.mk (Kd.S_below O18_1.out hb)
    replace O18_2 := Aside0.mk (Kd.R_below O18_2.out hb)
    replace Bg3 := Aside0.mk (blk_below Bg3.out hb)
    replace Bg4 := Aside0.mk (blk_below Bg4.out hb)
    replace Bg15 := Aside0.mk (blk_below Bg15.out hb)
    replace Bg16 := Aside0.mk (blk_below Bg16.out hb)
    replace HB := Aside0.mk (below_step HB.out hb)
    clear hxg3_0
    clear hxg4_0
    clear hxg4_1
    clear hxg15_0
    clear hxg16_0
    clear hxg16_1
    have hxg15_0 : w23_.cell? ⟨g15, 0, none⟩ = some (.slice A18_0_ r7_0.length c18_0_) := (blk_cell Bg15.out 0).trans rfl
    have hxg16_0 : w23_.cell? ⟨g16, 0, none⟩ = some (.int .i64 r7_2) := (blk_cell Bg16.out 0).trans rfl
    have hxg16_1 : w23_.cell? ⟨g16, 1, none⟩ = some (.slice A18_2_ r7_3.length c18_2_) := (blk_cell Bg16.out 1).trans rfl
    clear hb ho0
    obtain ⟨A23_0_, c23_0_, eq_⟩ := Kd.S_slice O23_0.out
    subst eq_
    go_wp2_with (first | (go_at_call 31; refine hold ?_))
    unfold Hold
    refine (spec_RemoveFact.calls ke9 _ _ r7_0 _ _ r7_1 r7_2 _ _ r7_3 r8_0 bG _ (Kd.R_reads' O18_0.out).2.2 (Kd.R_reads' O18_0.out).2.1 (Kd.S_reads' O18_1.out).2.2 (Kd.S_reads' O18_1.out).2.1 (Kd.R_reads' O18_2.out).2.2 (Kd.R_reads' O18_2.out).2.1 Ee9.out).mono ?_
    rintro e w24_ ⟨v24_0_, rfl, ho0, hb⟩
    have O24_0 := Aside0.mk (newS ho0 HB.out.size)
    have Z24_ := Aside0.mk (show w23_.heap.size ≤ w24_.heap.size from hb.size)
    replace O2_0 := Aside0.mk (Kd.R_below O2_0.out hb)
    replace O2_2 := Aside0.mk (Kd.R_below O2_2.out hb)
    replace O18_0 := Aside0.mk (Kd.R_below O18_0.out hb)
    replace O18_1 := Aside0.mk (Kd.S_below O18_1.out hb)
    replace O18_2 := Aside0.mk (Kd.R_below O18_2.out hb)
    replace O23_0 := Aside0.mk (Kd.S_below O23_0.out hb)
    replace Bg3 := Aside0.mk (blk_below Bg3.out hb)
    replace Bg4 := Aside0.mk (blk_below Bg4.out hb)
    replace Bg15 := Aside0.mk (blk_below Bg15.out hb)
    replace Bg16 := Aside0.mk (blk_below Bg16.out hb)
    replace HB := Aside0.mk (below_step HB.out hb)
    clear O18_0
    clear O18_1
    clear hxg15_0
    clear Bg15 Gg15
    clear hxg16_0
    clear hxg16_1
    clear hb ho0
    obtain ⟨A24_0_, c24_0_, eq_⟩ := Kd.S_slice O24_0.out
    subst eq_
    cases bG
    case false =>
      skip
      try go_wp2
      replace O2_0 := Aside0.mk (Kd.R_drew O2_0.out)
      replace O2_2 := Aside0.mk (Kd.R_drew O2_2.out)
      replace O18_2 := Aside0.mk (Kd.R_drew O18_2.out)
      replace O23_0 := Aside0.mk (Kd.S_drew O23_0.out)
      replace O24_0 := Aside0.mk (Kd.S_drew O24_0.out)
      replace Bg3 := Aside0.mk (blk_drew Bg3.out)
      replace Bg4 := Aside0.mk (blk_drew Bg4.out)
      replace Bg16 := Aside0.mk (blk_drew Bg16.out)
      replace HB := Aside0.mk (below_drew1 HB.out)
      have hz := Aside0.mk (show w24_.heap.size ≤ w24_.drew.heap.size from Nat.le_refl _)
      refine start_ (n := 28) (S := fun w' => w'.cell? ⟨g16, 0, none⟩ = some (.int .i64 r7_2) ∧ w'.cell? ⟨g16, 1, none⟩ = some (.slice A18_2_ r7_3.length c18_2_) ∧ w'.cell? ⟨g3, 0, none⟩ = some (.slice A2_0_ r1_0.length c2_0_) ∧ w'.cell? ⟨g4, 0, none⟩ = some (.int .i64 r1_2) ∧ w'.cell? ⟨g4, 1, none⟩ = some (.slice A2_2_ r1_3.length c2_2_)) (ds := []) #[yf,yf,yf,yf,yf,yf,yf,yf,yf,yf,yf,yf,yf,yf,yf,yf,yf,yf,yf,yf,yf,yf,yf,yf,yf,yf,yf,yf] (by kernel_rfl) rfl rfl ⟨(blk_cell Bg16.out 0).trans rfl, (blk_cell Bg16.out 1).trans rfl, (blk_cell Bg3.out 0).trans rfl, (blk_cell Bg4.out 0).trans rfl, (blk_cell Bg4.out 1).trans rfl⟩ (fun hHeld => ?_)
      generalize w24_.drew = w25_ at O2_0 O2_2 O18_2 O23_0 O24_0 Bg3 Bg4 Bg16 HB hz hHeld ⊢
      have Z25_ := hz; clear hz
      refine pure_ (i := 0) (N := some 120) (v := ?_) (a' := ?_) #[yt,yf,yf,yf,yf,yf,yf,yf,yf,yf,yf,yf,yf,yf,yf,yf,yf,yf,yf,yf,yf,yf,yf,yf,yf,yf,yf,yf] rfl rfl (by kernel_rfl) (fun _ _ _ h => h) (Or.inl ⟨by rfl, ?_⟩) ?_ ?_
      rotate_left
      · intro w'; go_simp; with_reducible rfl
      rotate_left
      · simp only [Act.put, zO, zEb, zFb, i64_w, i32_w]; rfl
      refine pure_ (i := 1) (N := some 121) (v := ?_) (a' := ?_) #[yt,yt,yf,yf,yf,yf,yf,yf,yf,yf,yf,yf,yf,yf,yf,yf,yf,yf,yf,yf,yf,yf,yf,yf,yf,yf,yf,yf] rfl rfl (by kernel_rfl) (fun _ _ _ h => h) (Or.inl ⟨by rfl, ?_⟩) ?_ ?_
      rotate_left
      · intro w'; go_simp; with_reducible rfl
      rotate_left
      · simp only [Act.put, zO, zEb, zFb, i64_w, i32_w]; rfl
      refine pure_ (i := 2) (N := some 122) (v := ?_) (a' := ?_) #[yt,yt,yt,yf,yf,yf,yf,yf,yf,yf,yf,yf,yf,yf,yf,yf,yf,yf,yf,yf,yf,yf,yf,yf,yf,yf,yf,yf] rfl rfl (by kernel_rfl) (fun _ _ _ h => h) (Or.inl ⟨by rfl, ?_⟩) ?_ ?_
      rotate_left
      · intro w'; go_simp; (try simp only [bne_self_eq_false, beq_self_eq_true]); with_reducible rfl
      rotate_left
      · simp only [Act.put, zO, zEb, zFb, i64_w, i32_w]; rfl
      refine pure_ (i := 3) (N := some 123) (v := ?_) (a' := ?_) #[yt,yt,yt,yt,yf,yf,yf,yf,yf,yf,yf,yf,yf,yf,yf,yf,yf,yf,yf,yf,yf,yf,yf,yf,yf,yf,yf,yf] rfl rfl (by kernel_rfl) (fun _ _ _ h => h) (Or.inl ⟨by rfl, ?_⟩) ?_ ?_
      rotate_left
      · intro w'; go_simp; with_reducible rfl
      rotate_left
      · simp only [Act.put, zO, zEb, zFb, i64_w, i32_w]; rfl
      refine pure_ (i := 4) (N := some 124) (v := ?_) (a' := ?_) #[yt,yt,yt,yt,yt,yf,yf,yf,yf,yf,yf,yf,yf,yf,yf,yf,yf,yf,yf,yf,yf,yf,yf,yf,yf,yf,yf,yf] rfl rfl (by kernel_rfl) (fun _ _ _ h => h) (Or.inl ⟨by rfl, ?_⟩) ?_ ?_
      rotate_left
      · intro w'; go_simp; with_reducible rfl
      rotate_left
      · simp only [Act.put, zO, zEb, zFb, i64_w, i32_w]; rfl
      refine pure_ (i := 5) (N := some 125) (v := ?_) (a' := ?_) #[yt,yt,yt,yt,yt,yt,yf,yf,yf,yf,yf,yf,yf,yf,yf,yf,yf,yf,yf,yf,yf,yf,yf,yf,yf,yf,yf,yf] rfl rfl (by kernel_rfl) (fun _ _ _ h => h) (Or.inl ⟨by rfl, ?_⟩) ?_ ?_
      rotate_left
      · intro w'; go_simp; with_reducible rfl
      rotate_left
      · simp only [Act.put, zO, zEb, zFb, i64_w, i32_w]; rfl
      refine one_ (i := 6) (N := some 126) #[yt,yt,yt,yt,yt,yt,yt,yf,yf,yf,yf,yf,yf,yf,yf,yf,yf,yf,yf,yf,yf,yf,yf,yf,yf,yf,yf,yf] rfl rfl (by kernel_rfl) (by decide) (fun K hK => ?_)
      refine goes_ Try.func24 (by kernel_rfl) rfl #[.slice A23_0_ r8_0.length c23_0_, .slice A24_0_ r8_0.length c24_0_] (by rfl) rfl rfl (by (try simp only [List.map_toArray, List.map_cons, List.map_nil]); first | done | rfl) ?_
      with_reducible refine (spec_EqualFacts.calls ke10 _ _ r8_0 _ _ r8_0 true _ (Kd.S_reads' O23_0.out).2.2 (Kd.S_reads' O23_0.out).2.1 (Kd.S_reads' O24_0.out).2.2 (Kd.S_reads' O24_0.out).2.1 Ee10.out).mono ?_
      rintro e w26_ ⟨rfl, hb⟩
      refine ⟨_, rfl, ?_⟩
      have Z26_ := Aside0.mk (show w25_.heap.size ≤ w26_.heap.size from hb.size)
      replace O2_0 := Aside0.mk (Kd.R_below O2_0.out hb)
      replace O2_2 := Aside0.mk (Kd.R_below O2_2.out hb)
      replace O18_2 := Aside0.mk (Kd.R_below O18_2.out hb)
      replace O23_0 := Aside0.mk (Kd.S_below O23_0.out hb)
      replace O24_0 := Aside0.mk (Kd.S_below O24_0.out hb)
      replace Bg3 := Aside0.mk (blk_below Bg3.out hb)
      replace Bg4 := Aside0.mk (blk_below Bg4.out hb)
      replace Bg16 := Aside0.mk (blk_below Bg16.out hb)
      replace HB := Aside0.mk (below_step HB.out hb)
      clear O24_0
      have hxg3_0 : w26_.cell? ⟨g3, 0, none⟩ = some (.slice A2_0_ r1_0.length c2_0_) := (blk_cell Bg3.out 0).trans rfl
      have hxg4_0 : w26_.cell? ⟨g4, 0, none⟩ = some (.int .i64 r1_2) := (blk_cell Bg4.out 0).trans rfl
      have hxg4_1 : w26_.cell? ⟨g4, 1, none⟩ = some (.slice A2_2_ r1_3.length c2_2_) := (blk_cell Bg4.out 1).trans rfl
      have hxg16_0 : w26_.cell? ⟨g16, 0, none⟩ = some (.int .i64 r7_2) := (blk_cell Bg16.out 0).trans rfl
      have hxg16_1 : w26_.cell? ⟨g16, 1, none⟩ = some (.slice A18_2_ r7_3.length c18_2_) := (blk_cell Bg16.out 1).trans rfl
      clear hb
      clear hxg3_0
      clear hxg4_0
      clear hxg4_1
      clear hxg16_0
      clear hxg16_1
      refine hK.out _ _ ⟨(blk_cell Bg16.out 0).trans rfl, (blk_cell Bg16.out 1).trans rfl, (blk_cell Bg3.out 0).trans rfl, (blk_cell Bg4.out 0).trans rfl, (blk_cell Bg4.out 1).trans rfl⟩ (fun hHeld => ?_)
      clear hK K
      refine norm_ (a' := ?_) ?_ ?_
      rotate_left
      · show Act.put _ (some 126) _ = _; simp only [Act.put, zO, zEb, zFb, i64_w, i32_w]; rfl
      refine pure_ (i := 7) (N := some 127) (v := ?_) (a' := ?_) #[yt,yt,yt,yt,yt,yt,yt,yt,yf,yf,yf,yf,yf,yf,yf,yf,yf,yf,yf,yf,yf,yf,yf,yf,yf,yf,yf,yf] rfl rfl (by kernel_rfl) (fun _ _ _ h => h) (Or.inl ⟨by rfl, ?_⟩) ?_ ?_
      rotate_left
      · intro w'; go_simp; with_reducible rfl
      rotate_left
      · simp only [Act.put, zO, zEb, zFb, i64_w, i32_w]; rfl
      refine pure_ (i := 8) (N := some 128) (v := ?_) (a' := ?_) #[yt,yt,yt,yt,yt,yt,yt,yt,yt,yf,yf,yf,yf,yf,yf,yf,yf,yf,yf,yf,yf,yf,yf,yf,yf,yf,yf,yf] rfl rfl (by kernel_rfl) (fun _ _ _ h => h) (Or.inl ⟨by rfl, ?_⟩) ?_ ?_
      rotate_left
      · intro w'; go_simp; with_reducible rfl
      rotate_left
      · simp only [Act.put, zO, zEb, zFb, i64_w, i32_w]; rfl
      refine pure_ (i := 9) (N := some 129) (v := ?_) (a' := ?_) #[yt,yt,yt,yt,yt,yt,yt,yt,yt,yt,yf,yf,yf,yf,yf,yf,yf,yf,yf,yf,yf,yf,yf,yf,yf,yf,yf,yf] rfl rfl (by kernel_rfl) (fun _ _ _ h => h) (Or.inl ⟨by rfl, ?_⟩) ?_ ?_
      rotate_left
      · intro w'; go_simp; with_reducible rfl
      rotate_left
      · simp only [Act.put, zO, zEb, zFb, i64_w, i32_w]; rfl
      refine pure_ (i := 10) (N := some 130) (v := ?_) (a' := ?_) #[yt,yt,yt,yt,yt,yt,yt,yt,yt,yt,yt,yf,yf,yf,yf,yf,yf,yf,yf,yf,yf,yf,yf,yf,yf,yf,yf,yf] rfl rfl (by kernel_rfl) (fun _ _ _ h => h) (Or.inl ⟨by rfl, ?_⟩) ?_ ?_
      rotate_left
      · intro w'; go_simp; with_reducible rfl
      rotate_left
      · simp only [Act.put, zO, zEb, zFb, i64_w, i32_w]; rfl
      refine pure_ (i := 11) (N := some 131) (v := ?_) (a' := ?_) #[yt,yt,yt,yt,yt,yt,yt,yt,yt,yt,yt,yt,yf,yf,yf,yf,yf,yf,yf,yf,yf,yf,yf,yf,yf,yf,yf,yf] rfl rfl (by kernel_rfl) (fun _ _ _ h => h) (Or.inl ⟨by rfl, ?_⟩) ?_ ?_
      rotate_left
      · intro w'; go_simp; with_reducible rfl
      rotate_left
      · simp only [Act.put, zO, zEb, zFb, i64_w, i32_w]; rfl
      refine pure_ (i := 12) (N := some 132) (v := undef) (a' := ?_) #[yt,yt,yt,yt,yt,yt,yt,yt,yt,yt,yt,yt,yt,yf,yf,yf,yf,yf,yf,yf,yf,yf,yf,yf,yf,yf,yf,yf] rfl rfl (by kernel_rfl) (fun _ _ _ h => h) (Or.inr ⟨by rfl, rfl⟩) ?_ ?_
      rotate_left
      · simp only [Act.put, zO, zEb, zFb, i64_w, i32_w]; rfl
      refine pure_ (i := 13) (N := some 133) (v := undef) (a' := ?_) #[yt,yt,yt,yt,yt,yt,yt,yt,yt,yt,yt,yt,yt,yt,yf,yf,yf,yf,yf,yf,yf,yf,yf,yf,yf,yf,yf,yf] rfl rfl (by kernel_rfl) (fun _ _ _ h => h) (Or.inr ⟨by rfl, rfl⟩) ?_ ?_
      rotate_left
      · simp only [Act.put, zO, zEb, zFb, i64_w, i32_w]; rfl
      refine pure_ (i := 14) (N := some 134) (v := undef) (a' := ?_) #[yt,yt,yt,yt,yt,yt,yt,yt,yt,yt,yt,yt,yt,yt,yt,yf,yf,yf,yf,yf,yf,yf,yf,yf,yf,yf,yf,yf] rfl rfl (by kernel_rfl) (fun _ _ _ h => h) (Or.inr ⟨by rfl, rfl⟩) ?_ ?_
      rotate_left
      · simp only [Act.put, zO, zEb, zFb, i64_w, i32_w]; rfl
      refine pure_ (i := 15) (N := some 135) (v := undef) (a' := ?_) #[yt,yt,yt,yt,yt,yt,yt,yt,yt,yt,yt,yt,yt,yt,yt,yt,yf,yf,yf,yf,yf,yf,yf,yf,yf,yf,yf,yf] rfl rfl (by kernel_rfl) (fun _ _ _ h => h) (Or.inr ⟨by rfl, rfl⟩) ?_ ?_
      rotate_left
      · simp only [Act.put, zO, zEb, zFb, i64_w, i32_w]; rfl
      refine pure_ (i := 16) (N := some 136) (v := ?_) (a' := ?_) #[yt,yt,yt,yt,yt,yt,yt,yt,yt,yt,yt,yt,yt,yt,yt,yt,yt,yf,yf,yf,yf,yf,yf,yf,yf,yf,yf,yf] rfl rfl (by kernel_rfl) (fun _ _ _ h => h) (Or.inl ⟨by rfl, ?_⟩) ?_ ?_
      rotate_left
      · intro w'; go_simp; with_reducible rfl
      rotate_left
      · simp only [Act.put, zO, zEb, zFb, i64_w, i32_w]; rfl
      refine pure_ (i := 17) (N := some 137) (v := ?_) (a' := ?_) #[yt,yt,yt,yt,yt,yt,yt,yt,yt,yt,yt,yt,yt,yt,yt,yt,yt,yt,yf,yf,yf,yf,yf,yf,yf,yf,yf,yf] rfl rfl (by kernel_rfl) (fun _ _ _ h => h) (Or.inl ⟨by rfl, ?_⟩) ?_ ?_
      rotate_left
      · intro w'; go_simp; with_reducible rfl
      rotate_left
      · simp only [Act.put, zO, zEb, zFb, i64_w, i32_w]; rfl
      refine pure_ (i := 18) (N := some 138) (v := ?_) (a' := ?_) #[yt,yt,yt,yt,yt,yt,yt,yt,yt,yt,yt,yt,yt,yt,yt,yt,yt,yt,yt,yf,yf,yf,yf,yf,yf,yf,yf,yf] rfl rfl (by kernel_rfl) (fun _ _ _ h => h) (Or.inl ⟨by rfl, ?_⟩) ?_ ?_
      rotate_left
      · intro w'; go_simp; with_reducible rfl
      rotate_left
      · simp only [Act.put, zO, zEb, zFb, i64_w, i32_w]; rfl
      refine take_ (i := 19) (N := some 139) (v := ?_) (a' := ?_) #[yt,yt,yt,yt,yt,yt,yt,yt,yt,yt,yt,yt,yt,yt,yt,yt,yt,yt,yt,yt,yf,yf,yf,yf,yf,yf,yf,yf] rfl rfl (by kernel_rfl) (fun _ _ _ h => h) (Or.inl ⟨by rfl, ?_⟩) hHeld ?_ ?_
      rotate_left
      · rintro w' ⟨s0, s1, s2, s3, s4⟩; go_simp; with_reducible rfl
      rotate_left
      · simp only [Act.put, zO, zEb, zFb, i64_w, i32_w]; rfl
      refine take_ (i := 20) (N := some 140) (v := ?_) (a' := ?_) #[yt,yt,yt,yt,yt,yt,yt,yt,yt,yt,yt,yt,yt,yt,yt,yt,yt,yt,yt,yt,yt,yf,yf,yf,yf,yf,yf,yf] rfl rfl (by kernel_rfl) (fun _ _ _ h => h) (Or.inl ⟨by rfl, ?_⟩) hHeld ?_ ?_
      rotate_left
      · rintro w' ⟨s0, s1, s2, s3, s4⟩; go_simp; with_reducible rfl
      rotate_left
      · simp only [Act.put, zO, zEb, zFb, i64_w, i32_w]; rfl
      refine take_ (i := 22) (N := some 142) (v := ?_) (a' := ?_) #[yt,yt,yt,yt,yt,yt,yt,yt,yt,yt,yt,yt,yt,yt,yt,yt,yt,yt,yt,yt,yt,yf,yt,yf,yf,yf,yf,yf] rfl rfl (by kernel_rfl) (fun _ _ _ h => h) (Or.inl ⟨by rfl, ?_⟩) hHeld ?_ ?_
      rotate_left
      · rintro w' ⟨s0, s1, s2, s3, s4⟩; go_simp; with_reducible rfl
      rotate_left
      · simp only [Act.put, zO, zEb, zFb, i64_w, i32_w]; rfl
      refine take_ (i := 23) (N := some 143) (v := ?_) (a' := ?_) #[yt,yt,yt,yt,yt,yt,yt,yt,yt,yt,yt,yt,yt,yt,yt,yt,yt,yt,yt,yt,yt,yf,yt,yt,yf,yf,yf,yf] rfl rfl (by kernel_rfl) (fun _ _ _ h => h) (Or.inl ⟨by rfl, ?_⟩) hHeld ?_ ?_
      rotate_left
      · rintro w' ⟨s0, s1, s2, s3, s4⟩; go_simp; with_reducible rfl
      rotate_left
      · simp only [Act.put, zO, zEb, zFb, i64_w, i32_w]; rfl
      refine one_ (i := 21) (N := some 141) #[yt,yt,yt,yt,yt,yt,yt,yt,yt,yt,yt,yt,yt,yt,yt,yt,yt,yt,yt,yt,yt,yt,yt,yt,yf,yf,yf,yf] rfl rfl (by kernel_rfl) (by decide) (fun K hK => ?_)
      refine goes_ Try.func32 (by kernel_rfl) rfl #[.agg #[.slice A2_0_ r1_0.length c2_0_], .agg #[.int .i64 r1_2, .slice A2_2_ r1_3.length c2_2_]] (by rfl) rfl rfl (by (try simp only [List.map_toArray, List.map_cons, List.map_nil]); first | done | rfl) ?_
      with_reducible refine (impl_IsFact.calls ke11 _ _ r1_0 r1_2 _ _ r1_3 r11_0 _ (Kd.R_reads' O2_0.out).2.2 (Kd.R_reads' O2_0.out).2.1 (Kd.R_reads' O2_2.out).2.2 (Kd.R_reads' O2_2.out).2.1 Ee11.out).mono ?_
      rintro e w27_ ⟨rfl, hb⟩
      refine ⟨_, rfl, ?_⟩
      have Z27_ := Aside0.mk (show w26_.heap.size ≤ w27_.heap.size from hb.size)
      replace O2_0 := Aside0.mk (Kd.R_below O2_0.out hb)
      replace O2_2 := Aside0.mk (Kd.R_below O2_2.out hb)
      replace O18_2 := Aside0.mk (Kd.R_below O18_2.out hb)
      replace O23_0 := Aside0.mk (Kd.S_below O23_0.out hb)
      replace Bg3 := Aside0.mk (blk_below Bg3.out hb)
      replace Bg4 := Aside0.mk (blk_below Bg4.out hb)
      replace Bg16 := Aside0.mk (blk_below Bg16.out hb)
      replace HB := Aside0.mk (below_step HB.out hb)
      clear O18_2
      clear O23_0
      have hxg3_0 : w27_.cell? ⟨g3, 0, none⟩ = some (.slice A2_0_ r1_0.length c2_0_) := (blk_cell Bg3.out 0).trans rfl
      have hxg4_0 : w27_.cell? ⟨g4, 0, none⟩ = some (.int .i64 r1_2) := (blk_cell Bg4.out 0).trans rfl
      have hxg4_1 : w27_.cell? ⟨g4, 1, none⟩ = some (.slice A2_2_ r1_3.length c2_2_) := (blk_cell Bg4.out 1).trans rfl
      clear hb
      clear hxg3_0
      clear hxg4_0
      clear hxg4_1
      refine hK.out _ _ ⟨(blk_cell Bg16.out 0).trans rfl, (blk_cell Bg16.out 1).trans rfl, (blk_cell Bg3.out 0).trans rfl, (blk_cell Bg4.out 0).trans rfl, (blk_cell Bg4.out 1).trans rfl⟩ (fun hHeld => ?_)
      clear hK K
      refine norm_ (a' := ?_) ?_ ?_
      rotate_left
      · show Act.put _ (some 141) _ = _; simp only [Act.put, zO, zEb, zFb, i64_w, i32_w]; rfl
      refine one_ (i := 24) (N := some 144) #[yt,yt,yt,yt,yt,yt,yt,yt,yt,yt,yt,yt,yt,yt,yt,yt,yt,yt,yt,yt,yt,yt,yt,yt,yt,yf,yf,yf] rfl rfl (by kernel_rfl) (by decide) (fun K hK => ?_)
      refine goes_ Try.func33 (by kernel_rfl) rfl #[.agg #[.slice A2_0_ r1_0.length c2_0_], .agg #[.int .i64 r1_2, .slice A2_2_ r1_3.length c2_2_]] (by rfl) rfl rfl (by (try simp only [List.map_toArray, List.map_cons, List.map_nil]); first | done | rfl) ?_
      with_reducible refine (spec_IsFact.calls ke12 _ _ r1_0 r1_2 _ _ r1_3 r11_0 _ (Kd.R_reads' O2_0.out).2.2 (Kd.R_reads' O2_0.out).2.1 (Kd.R_reads' O2_2.out).2.2 (Kd.R_reads' O2_2.out).2.1 Ee12.out).mono ?_
      rintro e w28_ ⟨rfl, hb⟩
      refine ⟨_, rfl, ?_⟩
      have Z28_ := Aside0.mk (show w27_.heap.size ≤ w28_.heap.size from hb.size)
      replace O2_0 := Aside0.mk (Kd.R_below O2_0.out hb)
      replace O2_2 := Aside0.mk (Kd.R_below O2_2.out hb)
      replace Bg3 := Aside0.mk (blk_below Bg3.out hb)
      replace Bg4 := Aside0.mk (blk_below Bg4.out hb)
      replace Bg16 := Aside0.mk (blk_below Bg16.out hb)
      replace HB := Aside0.mk (below_step HB.out hb)
      clear hb
      refine hK.out _ _ ⟨(blk_cell Bg16.out 0).trans rfl, (blk_cell Bg16.out 1).trans rfl, (blk_cell Bg3.out 0).trans rfl, (blk_cell Bg4.out 0).trans rfl, (blk_cell Bg4.out 1).trans rfl⟩ (fun hHeld => ?_)
      clear hK K
      refine norm_ (a' := ?_) ?_ ?_
      rotate_left
      · show Act.put _ (some 144) _ = _; simp only [Act.put, zO, zEb, zFb, i64_w, i32_w]; rfl
      refine pure_ (i := 25) (N := some 145) (v := ?_) (a' := ?_) #[yt,yt,yt,yt,yt,yt,yt,yt,yt,yt,yt,yt,yt,yt,yt,yt,yt,yt,yt,yt,yt,yt,yt,yt,yt,yt,yf,yf] rfl rfl (by kernel_rfl) (fun _ _ _ h => h) (Or.inl ⟨by rfl, ?_⟩) ?_ ?_
      rotate_left
      · intro w'; go_simp; (try simp only [bne_self_eq_false, beq_self_eq_true]); with_reducible rfl
      rotate_left
      · simp only [Act.put, zO, zEb, zFb, i64_w, i32_w]; rfl
      refine pure_ (i := 26) (N := some 146) (v := ?_) (a' := ?_) #[yt,yt,yt,yt,yt,yt,yt,yt,yt,yt,yt,yt,yt,yt,yt,yt,yt,yt,yt,yt,yt,yt,yt,yt,yt,yt,yt,yf] rfl rfl (by kernel_rfl) (fun _ _ _ h => h) (Or.inl ⟨by rfl, ?_⟩) ?_ ?_
      rotate_left
      · intro w'; go_simp; with_reducible rfl
      rotate_left
      · simp only [Act.put, zO, zEb, zFb, i64_w, i32_w]; rfl
      refine pure_ (i := 27) (N := some 2) (v := ?_) (a' := ?_) #[yt,yt,yt,yt,yt,yt,yt,yt,yt,yt,yt,yt,yt,yt,yt,yt,yt,yt,yt,yt,yt,yt,yt,yt,yt,yt,yt,yt] rfl rfl (by kernel_rfl) (fun _ _ _ h => h) (Or.inl ⟨by rfl, ?_⟩) ?_ ?_
      rotate_left
      · intro w'; go_simp; with_reducible rfl
      rotate_left
      · simp only [Act.put, zO, zEb, zFb, i64_w, i32_w]; rfl
      refine done_ (by kernel_rfl) ?_
      go_wp2
      go_ret
      exact ⟨rfl, HB.out⟩
    case true =>
      skip
      try go_wp2
      replace O2_0 := Aside0.mk (Kd.R_drew O2_0.out)
      replace O2_2 := Aside0.mk (Kd.R_drew O2_2.out)
      replace O18_2 := Aside0.mk (Kd.R_drew O18_2.out)
      replace O23_0 := Aside0.mk (Kd.S_drew O23_0.out)
      replace O24_0 := Aside0.mk (Kd.S_drew O24_0.out)
      replace Bg3 := Aside0.mk (blk_drew Bg3.out)
      replace Bg4 := Aside0.mk (blk_drew Bg4.out)
      replace Bg16 := Aside0.mk (blk_drew Bg16.out)
      replace HB := Aside0.mk (below_drew1 HB.out)
      have hz := Aside0.mk (show w24_.heap.size ≤ w24_.drew.heap.size from Nat.le_refl _)
      refine start_ (n := 28) (S := fun w' => w'.cell? ⟨g16, 0, none⟩ = some (.int .i64 r7_2) ∧ w'.cell? ⟨g16, 1, none⟩ = some (.slice A18_2_ r7_3.length c18_2_) ∧ w'.cell? ⟨g3, 0, none⟩ = some (.slice A2_0_ r1_0.length c2_0_) ∧ w'.cell? ⟨g4, 0, none⟩ = some (.int .i64 r1_2) ∧ w'.cell? ⟨g4, 1, none⟩ = some (.slice A2_2_ r1_3.length c2_2_)) (ds := []) #[yf,yf,yf,yf,yf,yf,yf,yf,yf,yf,yf,yf,yf,yf,yf,yf,yf,yf,yf,yf,yf,yf,yf,yf,yf,yf,yf,yf] (by kernel_rfl) rfl rfl ⟨(blk_cell Bg16.out 0).trans rfl, (blk_cell Bg16.out 1).trans rfl, (blk_cell Bg3.out 0).trans rfl, (blk_cell Bg4.out 0).trans rfl, (blk_cell Bg4.out 1).trans rfl⟩ (fun hHeld => ?_)
      generalize w24_.drew = w25_ at O2_0 O2_2 O18_2 O23_0 O24_0 Bg3 Bg4 Bg16 HB hz hHeld ⊢
      have Z25_ := hz; clear hz
      refine pure_ (i := 0) (N := some 120) (v := ?_) (a' := ?_) #[yt,yf,yf,yf,yf,yf,yf,yf,yf,yf,yf,yf,yf,yf,yf,yf,yf,yf,yf,yf,yf,yf,yf,yf,yf,yf,yf,yf] rfl rfl (by kernel_rfl) (fun _ _ _ h => h) (Or.inl ⟨by rfl, ?_⟩) ?_ ?_
      rotate_left
      · intro w'; go_simp; with_reducible rfl
      rotate_left
      · simp only [Act.put, zO, zEb, zFb, i64_w, i32_w]; rfl
      refine pure_ (i := 1) (N := some 121) (v := ?_) (a' := ?_) #[yt,yt,yf,yf,yf,yf,yf,yf,yf,yf,yf,yf,yf,yf,yf,yf,yf,yf,yf,yf,yf,yf,yf,yf,yf,yf,yf,yf] rfl rfl (by kernel_rfl) (fun _ _ _ h => h) (Or.inl ⟨by rfl, ?_⟩) ?_ ?_
      rotate_left
      · intro w'; go_simp; with_reducible rfl
      rotate_left
      · simp only [Act.put, zO, zEb, zFb, i64_w, i32_w]; rfl
      refine pure_ (i := 2) (N := some 122) (v := ?_) (a' := ?_) #[yt,yt,yt,yf,yf,yf,yf,yf,yf,yf,yf,yf,yf,yf,yf,yf,yf,yf,yf,yf,yf,yf,yf,yf,yf,yf,yf,yf] rfl rfl (by kernel_rfl) (fun _ _ _ h => h) (Or.inl ⟨by rfl, ?_⟩) ?_ ?_
      rotate_left
      · intro w'; go_simp; (try simp only [bne_self_eq_false, beq_self_eq_true]); with_reducible rfl
      rotate_left
      · simp only [Act.put, zO, zEb, zFb, i64_w, i32_w]; rfl
      refine pure_ (i := 3) (N := some 123) (v := ?_) (a' := ?_) #[yt,yt,yt,yt,yf,yf,yf,yf,yf,yf,yf,yf,yf,yf,yf,yf,yf,yf,yf,yf,yf,yf,yf,yf,yf,yf,yf,yf] rfl rfl (by kernel_rfl) (fun _ _ _ h => h) (Or.inl ⟨by rfl, ?_⟩) ?_ ?_
      rotate_left
      · intro w'; go_simp; with_reducible rfl
      rotate_left
      · simp only [Act.put, zO, zEb, zFb, i64_w, i32_w]; rfl
      refine pure_ (i := 4) (N := some 124) (v := ?_) (a' := ?_) #[yt,yt,yt,yt,yt,yf,yf,yf,yf,yf,yf,yf,yf,yf,yf,yf,yf,yf,yf,yf,yf,yf,yf,yf,yf,yf,yf,yf] rfl rfl (by kernel_rfl) (fun _ _ _ h => h) (Or.inl ⟨by rfl, ?_⟩) ?_ ?_
      rotate_left
      · intro w'; go_simp; with_reducible rfl
      rotate_left
      · simp only [Act.put, zO, zEb, zFb, i64_w, i32_w]; rfl
      refine pure_ (i := 5) (N := some 125) (v := ?_) (a' := ?_) #[yt,yt,yt,yt,yt,yt,yf,yf,yf,yf,yf,yf,yf,yf,yf,yf,yf,yf,yf,yf,yf,yf,yf,yf,yf,yf,yf,yf] rfl rfl (by kernel_rfl) (fun _ _ _ h => h) (Or.inl ⟨by rfl, ?_⟩) ?_ ?_
      rotate_left
      · intro w'; go_simp; with_reducible rfl
      rotate_left
      · simp only [Act.put, zO, zEb, zFb, i64_w, i32_w]; rfl
      refine one_ (i := 6) (N := some 126) #[yt,yt,yt,yt,yt,yt,yt,yf,yf,yf,yf,yf,yf,yf,yf,yf,yf,yf,yf,yf,yf,yf,yf,yf,yf,yf,yf,yf] rfl rfl (by kernel_rfl) (by decide) (fun K hK => ?_)
      refine goes_ Try.func24 (by kernel_rfl) rfl #[.slice A23_0_ r8_0.length c23_0_, .slice A24_0_ r8_0.length c24_0_] (by rfl) rfl rfl (by (try simp only [List.map_toArray, List.map_cons, List.map_nil]); first | done | rfl) ?_
      with_reducible refine (spec_EqualFacts.calls ke10 _ _ r8_0 _ _ r8_0 true _ (Kd.S_reads' O23_0.out).2.2 (Kd.S_reads' O23_0.out).2.1 (Kd.S_reads' O24_0.out).2.2 (Kd.S_reads' O24_0.out).2.1 Ee10.out).mono ?_
      rintro e w26_ ⟨rfl, hb⟩
      refine ⟨_, rfl, ?_⟩
      have Z26_ := Aside0.mk (show w25_.heap.size ≤ w26_.heap.size from hb.size)
      replace O2_0 := Aside0.mk (Kd.R_below O2_0.out hb)
      replace O2_2 := Aside0.mk (Kd.R_below O2_2.out hb)
      replace O18_2 := Aside0.mk (Kd.R_below O18_2.out hb)
      replace O23_0 := Aside0.mk (Kd.S_below O23_0.out hb)
      replace O24_0 := Aside0.mk (Kd.S_below O24_0.out hb)
      replace Bg3 := Aside0.mk (blk_below Bg3.out hb)
      replace Bg4 := Aside0.mk (blk_below Bg4.out hb)
      replace Bg16 := Aside0.mk (blk_below Bg16.out hb)
      replace HB := Aside0.mk (below_step HB.out hb)
      clear O24_0
      have hxg3_0 : w26_.cell? ⟨g3, 0, none⟩ = some (.slice A2_0_ r1_0.length c2_0_) := (blk_cell Bg3.out 0).trans rfl
      have hxg4_0 : w26_.cell? ⟨g4, 0, none⟩ = some (.int .i64 r1_2) := (blk_cell Bg4.out 0).trans rfl
      have hxg4_1 : w26_.cell? ⟨g4, 1, none⟩ = some (.slice A2_2_ r1_3.length c2_2_) := (blk_cell Bg4.out 1).trans rfl
      have hxg16_0 : w26_.cell? ⟨g16, 0, none⟩ = some (.int .i64 r7_2) := (blk_cell Bg16.out 0).trans rfl
      have hxg16_1 : w26_.cell? ⟨g16, 1, none⟩ = some (.slice A18_2_ r7_3.length c18_2_) := (blk_cell Bg16.out 1).trans rfl
      clear hb
      clear hxg3_0
      clear hxg4_0
      clear hxg4_1
      clear hxg16_0
      clear hxg16_1
      refine hK.out _ _ ⟨(blk_cell Bg16.out 0).trans rfl, (blk_cell Bg16.out 1).trans rfl, (blk_cell Bg3.out 0).trans rfl, (blk_cell Bg4.out 0).trans rfl, (blk_cell Bg4.out 1).trans rfl⟩ (fun hHeld => ?_)
      clear hK K
      refine norm_ (a' := ?_) ?_ ?_
      rotate_left
      · show Act.put _ (some 126) _ = _; simp only [Act.put, zO, zEb, zFb, i64_w, i32_w]; rfl
      refine pure_ (i := 7) (N := some 127) (v := ?_) (a' := ?_) #[yt,yt,yt,yt,yt,yt,yt,yt,yf,yf,yf,yf,yf,yf,yf,yf,yf,yf,yf,yf,yf,yf,yf,yf,yf,yf,yf,yf] rfl rfl (by kernel_rfl) (fun _ _ _ h => h) (Or.inl ⟨by rfl, ?_⟩) ?_ ?_
      rotate_left
      · intro w'; go_simp; with_reducible rfl
      rotate_left
      · simp only [Act.put, zO, zEb, zFb, i64_w, i32_w]; rfl
      refine pure_ (i := 8) (N := some 128) (v := ?_) (a' := ?_) #[yt,yt,yt,yt,yt,yt,yt,yt,yt,yf,yf,yf,yf,yf,yf,yf,yf,yf,yf,yf,yf,yf,yf,yf,yf,yf,yf,yf] rfl rfl (by kernel_rfl) (fun _ _ _ h => h) (Or.inl ⟨by rfl, ?_⟩) ?_ ?_
      rotate_left
      · intro w'; go_simp; with_reducible rfl
      rotate_left
      · simp only [Act.put, zO, zEb, zFb, i64_w, i32_w]; rfl
      refine pure_ (i := 9) (N := some 129) (v := ?_) (a' := ?_) #[yt,yt,yt,yt,yt,yt,yt,yt,yt,yt,yf,yf,yf,yf,yf,yf,yf,yf,yf,yf,yf,yf,yf,yf,yf,yf,yf,yf] rfl rfl (by kernel_rfl) (fun _ _ _ h => h) (Or.inl ⟨by rfl, ?_⟩) ?_ ?_
      rotate_left
      · intro w'; go_simp; with_reducible rfl
      rotate_left
      · simp only [Act.put, zO, zEb, zFb, i64_w, i32_w]; rfl
      refine pure_ (i := 10) (N := some 130) (v := ?_) (a' := ?_) #[yt,yt,yt,yt,yt,yt,yt,yt,yt,yt,yt,yf,yf,yf,yf,yf,yf,yf,yf,yf,yf,yf,yf,yf,yf,yf,yf,yf] rfl rfl (by kernel_rfl) (fun _ _ _ h => h) (Or.inl ⟨by rfl, ?_⟩) ?_ ?_
      rotate_left
      · intro w'; go_simp; with_reducible rfl
      rotate_left
      · simp only [Act.put, zO, zEb, zFb, i64_w, i32_w]; rfl
      refine pure_ (i := 11) (N := some 131) (v := ?_) (a' := ?_) #[yt,yt,yt,yt,yt,yt,yt,yt,yt,yt,yt,yt,yf,yf,yf,yf,yf,yf,yf,yf,yf,yf,yf,yf,yf,yf,yf,yf] rfl rfl (by kernel_rfl) (fun _ _ _ h => h) (Or.inl ⟨by rfl, ?_⟩) ?_ ?_
      rotate_left
      · intro w'; go_simp; with_reducible rfl
      rotate_left
      · simp only [Act.put, zO, zEb, zFb, i64_w, i32_w]; rfl
      refine pure_ (i := 12) (N := some 132) (v := ?_) (a' := ?_) #[yt,yt,yt,yt,yt,yt,yt,yt,yt,yt,yt,yt,yt,yf,yf,yf,yf,yf,yf,yf,yf,yf,yf,yf,yf,yf,yf,yf] rfl rfl (by kernel_rfl) (fun _ _ _ h => h) (Or.inl ⟨by rfl, ?_⟩) ?_ ?_
      rotate_left
      · intro w'; go_simp; with_reducible rfl
      rotate_left
      · simp only [Act.put, zO, zEb, zFb, i64_w, i32_w]; rfl
      refine take_ (i := 13) (N := some 133) (v := ?_) (a' := ?_) #[yt,yt,yt,yt,yt,yt,yt,yt,yt,yt,yt,yt,yt,yt,yf,yf,yf,yf,yf,yf,yf,yf,yf,yf,yf,yf,yf,yf] rfl rfl (by kernel_rfl) (fun _ _ _ h => h) (Or.inl ⟨by rfl, ?_⟩) hHeld ?_ ?_
      rotate_left
      · rintro w' ⟨s0, s1, s2, s3, s4⟩; go_simp; with_reducible rfl
      rotate_left
      · simp only [Act.put, zO, zEb, zFb, i64_w, i32_w]; rfl
      refine one_ (i := 14) (N := some 134) #[yt,yt,yt,yt,yt,yt,yt,yt,yt,yt,yt,yt,yt,yt,yt,yf,yf,yf,yf,yf,yf,yf,yf,yf,yf,yf,yf,yf] rfl rfl (by kernel_rfl) (by decide) (fun K hK => ?_)
      refine goes_ Try.func29 (by kernel_rfl) rfl #[.slice A23_0_ r8_0.length c23_0_, .agg #[.int .i64 r7_2, .slice A18_2_ r7_3.length c18_2_]] (by rfl) rfl rfl (by (try simp only [List.map_toArray, List.map_cons, List.map_nil]); first | done | rfl) ?_
      obtain ⟨ke13, q_⟩ := Ce13.out (by trivial); have Ee13 := Aside0.mk q_; clear q_
      with_reducible refine (impl_HasFact.calls ke13 _ _ r8_0 r7_2 _ _ r7_3 false _ (Kd.S_reads' O23_0.out).2.2 (Kd.S_reads' O23_0.out).2.1 (Kd.R_reads' O18_2.out).2.2 (Kd.R_reads' O18_2.out).2.1 Ee13.out).mono ?_
      rintro e w27_ ⟨rfl, hb⟩
      refine ⟨_, rfl, ?_⟩
      have Z27_ := Aside0.mk (show w26_.heap.size ≤ w27_.heap.size from hb.size)
      replace O2_0 := Aside0.mk (Kd.R_below O2_0.out hb)
      replace O2_2 := Aside0.mk (Kd.R_below O2_2.out hb)
      replace O18_2 := Aside0.mk (Kd.R_below O18_2.out hb)
      replace O23_0 := Aside0.mk (Kd.S_below O23_0.out hb)
      replace Bg3 := Aside0.mk (blk_below Bg3.out hb)
      replace Bg4 := Aside0.mk (blk_below Bg4.out hb)
      replace Bg16 := Aside0.mk (blk_below Bg16.out hb)
      replace HB := Aside0.mk (below_step HB.out hb)
      clear O18_2
      clear O23_0
      have hxg3_0 : w27_.cell? ⟨g3, 0, none⟩ = some (.slice A2_0_ r1_0.length c2_0_) := (blk_cell Bg3.out 0).trans rfl
      have hxg4_0 : w27_.cell? ⟨g4, 0, none⟩ = some (.int .i64 r1_2) := (blk_cell Bg4.out 0).trans rfl
      have hxg4_1 : w27_.cell? ⟨g4, 1, none⟩ = some (.slice A2_2_ r1_3.length c2_2_) := (blk_cell Bg4.out 1).trans rfl
      clear hb
      clear hxg3_0
      clear hxg4_0
      clear hxg4_1
      refine hK.out _ _ ⟨(blk_cell Bg16.out 0).trans rfl, (blk_cell Bg16.out 1).trans rfl, (blk_cell Bg3.out 0).trans rfl, (blk_cell Bg4.out 0).trans rfl, (blk_cell Bg4.out 1).trans rfl⟩ (fun hHeld => ?_)
      clear hK K
      refine norm_ (a' := ?_) ?_ ?_
      rotate_left
      · show Act.put _ (some 134) _ = _; simp only [Act.put, zO, zEb, zFb, i64_w, i32_w]; rfl
      refine pure_ (i := 15) (N := some 135) (v := ?_) (a' := ?_) #[yt,yt,yt,yt,yt,yt,yt,yt,yt,yt,yt,yt,yt,yt,yt,yt,yf,yf,yf,yf,yf,yf,yf,yf,yf,yf,yf,yf] rfl rfl (by kernel_rfl) (fun _ _ _ h => h) (Or.inl ⟨by rfl, ?_⟩) ?_ ?_
      rotate_left
      · intro w'; go_simp; with_reducible rfl
      rotate_left
      · simp only [Act.put, zO, zEb, zFb, i64_w, i32_w]; rfl
      refine pure_ (i := 16) (N := some 136) (v := ?_) (a' := ?_) #[yt,yt,yt,yt,yt,yt,yt,yt,yt,yt,yt,yt,yt,yt,yt,yt,yt,yf,yf,yf,yf,yf,yf,yf,yf,yf,yf,yf] rfl rfl (by kernel_rfl) (fun _ _ _ h => h) (Or.inl ⟨by rfl, ?_⟩) ?_ ?_
      rotate_left
      · intro w'; go_simp; with_reducible rfl
      rotate_left
      · simp only [Act.put, zO, zEb, zFb, i64_w, i32_w]; rfl
      refine pure_ (i := 17) (N := some 137) (v := ?_) (a' := ?_) #[yt,yt,yt,yt,yt,yt,yt,yt,yt,yt,yt,yt,yt,yt,yt,yt,yt,yt,yf,yf,yf,yf,yf,yf,yf,yf,yf,yf] rfl rfl (by kernel_rfl) (fun _ _ _ h => h) (Or.inl ⟨by rfl, ?_⟩) ?_ ?_
      rotate_left
      · intro w'; go_simp; with_reducible rfl
      rotate_left
      · simp only [Act.put, zO, zEb, zFb, i64_w, i32_w]; rfl
      refine pure_ (i := 18) (N := some 138) (v := ?_) (a' := ?_) #[yt,yt,yt,yt,yt,yt,yt,yt,yt,yt,yt,yt,yt,yt,yt,yt,yt,yt,yt,yf,yf,yf,yf,yf,yf,yf,yf,yf] rfl rfl (by kernel_rfl) (fun _ _ _ h => h) (Or.inl ⟨by rfl, ?_⟩) ?_ ?_
      rotate_left
      · intro w'; go_simp; with_reducible rfl
      rotate_left
      · simp only [Act.put, zO, zEb, zFb, i64_w, i32_w]; rfl
      refine take_ (i := 19) (N := some 139) (v := ?_) (a' := ?_) #[yt,yt,yt,yt,yt,yt,yt,yt,yt,yt,yt,yt,yt,yt,yt,yt,yt,yt,yt,yt,yf,yf,yf,yf,yf,yf,yf,yf] rfl rfl (by kernel_rfl) (fun _ _ _ h => h) (Or.inl ⟨by rfl, ?_⟩) hHeld ?_ ?_
      rotate_left
      · rintro w' ⟨s0, s1, s2, s3, s4⟩; go_simp; with_reducible rfl
      rotate_left
      · simp only [Act.put, zO, zEb, zFb, i64_w, i32_w]; rfl
      refine take_ (i := 20) (N := some 140) (v := ?_) (a' := ?_) #[yt,yt,yt,yt,yt,yt,yt,yt,yt,yt,yt,yt,yt,yt,yt,yt,yt,yt,yt,yt,yt,yf,yf,yf,yf,yf,yf,yf] rfl rfl (by kernel_rfl) (fun _ _ _ h => h) (Or.inl ⟨by rfl, ?_⟩) hHeld ?_ ?_
      rotate_left
      · rintro w' ⟨s0, s1, s2, s3, s4⟩; go_simp; with_reducible rfl
      rotate_left
      · simp only [Act.put, zO, zEb, zFb, i64_w, i32_w]; rfl
      refine take_ (i := 22) (N := some 142) (v := ?_) (a' := ?_) #[yt,yt,yt,yt,yt,yt,yt,yt,yt,yt,yt,yt,yt,yt,yt,yt,yt,yt,yt,yt,yt,yf,yt,yf,yf,yf,yf,yf] rfl rfl (by kernel_rfl) (fun _ _ _ h => h) (Or.inl ⟨by rfl, ?_⟩) hHeld ?_ ?_
      rotate_left
      · rintro w' ⟨s0, s1, s2, s3, s4⟩; go_simp; with_reducible rfl
      rotate_left
      · simp only [Act.put, zO, zEb, zFb, i64_w, i32_w]; rfl
      refine take_ (i := 23) (N := some 143) (v := ?_) (a' := ?_) #[yt,yt,yt,yt,yt,yt,yt,yt,yt,yt,yt,yt,yt,yt,yt,yt,yt,yt,yt,yt,yt,yf,yt,yt,yf,yf,yf,yf] rfl rfl (by kernel_rfl) (fun _ _ _ h => h) (Or.inl ⟨by rfl, ?_⟩) hHeld ?_ ?_
      rotate_left
      · rintro w' ⟨s0, s1, s2, s3, s4⟩; go_simp; with_reducible rfl
      rotate_left
      · simp only [Act.put, zO, zEb, zFb, i64_w, i32_w]; rfl
      refine one_ (i := 21) (N := some 141) #[yt,yt,yt,yt,yt,yt,yt,yt,yt,yt,yt,yt,yt,yt,yt,yt,yt,yt,yt,yt,yt,yt,yt,yt,yf,yf,yf,yf] rfl rfl (by kernel_rfl) (by decide) (fun K hK => ?_)
      refine goes_ Try.func32 (by kernel_rfl) rfl #[.agg #[.slice A2_0_ r1_0.length c2_0_], .agg #[.int .i64 r1_2, .slice A2_2_ r1_3.length c2_2_]] (by rfl) rfl rfl (by (try simp only [List.map_toArray, List.map_cons, List.map_nil]); first | done | rfl) ?_
      with_reducible refine (impl_IsFact.calls ke11 _ _ r1_0 r1_2 _ _ r1_3 r11_0 _ (Kd.R_reads' O2_0.out).2.2 (Kd.R_reads' O2_0.out).2.1 (Kd.R_reads' O2_2.out).2.2 (Kd.R_reads' O2_2.out).2.1 Ee11.out).mono ?_
      rintro e w28_ ⟨rfl, hb⟩
      refine ⟨_, rfl, ?_⟩
      have Z28_ := Aside0.mk (show w27_.heap.size ≤ w28_.heap.size from hb.size)
      replace O2_0 := Aside0.mk (Kd.R_below O2_0.out hb)
      replace O2_2 := Aside0.mk (Kd.R_below O2_2.out hb)
      replace Bg3 := Aside0.mk (blk_below Bg3.out hb)
      replace Bg4 := Aside0.mk (blk_below Bg4.out hb)
      replace Bg16 := Aside0.mk (blk_below Bg16.out hb)
      replace HB := Aside0.mk (below_step HB.out hb)
      clear hb
      refine hK.out _ _ ⟨(blk_cell Bg16.out 0).trans rfl, (blk_cell Bg16.out 1).trans rfl, (blk_cell Bg3.out 0).trans rfl, (blk_cell Bg4.out 0).trans rfl, (blk_cell Bg4.out 1).trans rfl⟩ (fun hHeld => ?_)
      clear hK K
      refine norm_ (a' := ?_) ?_ ?_
      rotate_left
      · show Act.put _ (some 141) _ = _; simp only [Act.put, zO, zEb, zFb, i64_w, i32_w]; rfl
      refine one_ (i := 24) (N := some 144) #[yt,yt,yt,yt,yt,yt,yt,yt,yt,yt,yt,yt,yt,yt,yt,yt,yt,yt,yt,yt,yt,yt,yt,yt,yt,yf,yf,yf] rfl rfl (by kernel_rfl) (by decide) (fun K hK => ?_)
      refine goes_ Try.func33 (by kernel_rfl) rfl #[.agg #[.slice A2_0_ r1_0.length c2_0_], .agg #[.int .i64 r1_2, .slice A2_2_ r1_3.length c2_2_]] (by rfl) rfl rfl (by (try simp only [List.map_toArray, List.map_cons, List.map_nil]); first | done | rfl) ?_
      with_reducible refine (spec_IsFact.calls ke12 _ _ r1_0 r1_2 _ _ r1_3 r11_0 _ (Kd.R_reads' O2_0.out).2.2 (Kd.R_reads' O2_0.out).2.1 (Kd.R_reads' O2_2.out).2.2 (Kd.R_reads' O2_2.out).2.1 Ee12.out).mono ?_
      rintro e w29_ ⟨rfl, hb⟩
      refine ⟨_, rfl, ?_⟩
      have Z29_ := Aside0.mk (show w28_.heap.size ≤ w29_.heap.size from hb.size)
      replace O2_0 := Aside0.mk (Kd.R_below O2_0.out hb)
      replace O2_2 := Aside0.mk (Kd.R_below O2_2.out hb)
      replace Bg3 := Aside0.mk (blk_below Bg3.out hb)
      replace Bg4 := Aside0.mk (blk_below Bg4.out hb)
      replace Bg16 := Aside0.mk (blk_below Bg16.out hb)
      replace HB := Aside0.mk (below_step HB.out hb)
      clear O2_0
      clear O2_2
      clear hb
      refine hK.out _ _ ⟨(blk_cell Bg16.out 0).trans rfl, (blk_cell Bg16.out 1).trans rfl, (blk_cell Bg3.out 0).trans rfl, (blk_cell Bg4.out 0).trans rfl, (blk_cell Bg4.out 1).trans rfl⟩ (fun hHeld => ?_)
      clear hK K
      refine norm_ (a' := ?_) ?_ ?_
      rotate_left
      · show Act.put _ (some 144) _ = _; simp only [Act.put, zO, zEb, zFb, i64_w, i32_w]; rfl
      refine pure_ (i := 25) (N := some 145) (v := ?_) (a' := ?_) #[yt,yt,yt,yt,yt,yt,yt,yt,yt,yt,yt,yt,yt,yt,yt,yt,yt,yt,yt,yt,yt,yt,yt,yt,yt,yt,yf,yf] rfl rfl (by kernel_rfl) (fun _ _ _ h => h) (Or.inl ⟨by rfl, ?_⟩) ?_ ?_
      rotate_left
      · intro w'; go_simp; (try simp only [bne_self_eq_false, beq_self_eq_true]); with_reducible rfl
      rotate_left
      · simp only [Act.put, zO, zEb, zFb, i64_w, i32_w]; rfl
      refine pure_ (i := 26) (N := some 146) (v := ?_) (a' := ?_) #[yt,yt,yt,yt,yt,yt,yt,yt,yt,yt,yt,yt,yt,yt,yt,yt,yt,yt,yt,yt,yt,yt,yt,yt,yt,yt,yt,yf] rfl rfl (by kernel_rfl) (fun _ _ _ h => h) (Or.inl ⟨by rfl, ?_⟩) ?_ ?_
      rotate_left
      · intro w'; go_simp; with_reducible rfl
      rotate_left
      · simp only [Act.put, zO, zEb, zFb, i64_w, i32_w]; rfl
      refine pure_ (i := 27) (N := some 2) (v := ?_) (a' := ?_) #[yt,yt,yt,yt,yt,yt,yt,yt,yt,yt,yt,yt,yt,yt,yt,yt,yt,yt,yt,yt,yt,yt,yt,yt,yt,yt,yt,yt] rfl rfl (by kernel_rfl) (fun _ _ _ h => h) (Or.inl ⟨by rfl, ?_⟩) ?_ ?_
      rotate_left
      · intro w'; go_simp; with_reducible rfl
      rotate_left
      · simp only [Act.put, zO, zEb, zFb, i64_w, i32_w]; rfl
      refine done_ (by kernel_rfl) ?_
      go_wp2
      go_ret
      exact ⟨rfl, HB.out⟩
theorem mAddF_small (s : List Int) (d : List S37) (f : S37) (hd : d.length ≤ 1048576) (hs : ∀ x ∈ d, x.f1.length ≤ 1048576) (hf : f.f1.length ≤ 1048576) : (mAddF s d f).1.length ≤ 1048576 ∧ ∀ x ∈ (mAddF s d f).1, x.f1.length ≤ 1048576 := by
  unfold mAddF
  by_cases c : mFits s d f = true
  · rw [if_pos c]
    have c2 := mFits_law c
    refine ⟨by show (mPutF f d).length ≤ 1048576; have := c2.2.2.2.2; omega, fun x hx => ?_⟩
    rcases mPutF_mem hx with rfl | hx
    · exact hf
    · exact hs x hx
  · rw [if_neg c]; exact ⟨hd, hs⟩
theorem FnFacts_calls (A0 : Option Addr) (c0 : Nat) (l0 : List Int) (w : World) (hr0 : Kd.C (Kd.int .u8) w A0 l0.length l0) (hc0 : l0.length ≤ c0) (_w0 : (WfL WfB) l0) :
    Calls Try.prog 4 #[.slice A0 l0.length c0] w fun e w' => e = .returned (.bool true) ∧ Below w.heap.size w w' := by
  by_cases hb : (l0.length : Int) > 1048576
  · exact laws_FnFacts_walk_big _ _ l0 w hr0 hc0 (by unfold laws_big.f; rw [decide_eq_true hb])
  obtain ⟨s, d, r, l, ed, hs, hd, hdx, hl⟩ := l5Draw_ok l0 (by omega)
  have hds : ∀ x ∈ d, x.f1.length ≤ 1048576 := fun x hx => by have := hdx x hx; omega
  have hsp := specAdd_ev s d ⟨r, l⟩ (by omega) (by omega) hds (by show l.length ≤ 1048576; omega)
  obtain ⟨g0, g1⟩ := mAddF_small s d ⟨r, l⟩ (by omega) hds (by show l.length ≤ 1048576; omega)
  obtain ⟨m0, m1⟩ := mRemove_small s d r l (by omega) hds
  have hrs := specRemove_ev s d r l (by omega) (by omega) hds
  have hri := implRemove_ev s d r l (by omega) (by omega) hds
  generalize hP : mAddF s d ⟨r, l⟩ = P at g0 g1 hsp
  obtain ⟨x, bI⟩ := P
  generalize hQ : mRemove s d r l = Q at m0 m1 hrs hri
  obtain ⟨e, bG⟩ := Q
  simp only [] at g0 g1 m0 m1
  have hfit : bI = true → mFits s d ⟨r, l⟩ = true ∧ x = mPutF ⟨r, l⟩ d := by
    intro h
    unfold mAddF at hP
    by_cases c : mFits s d ⟨r, l⟩ = true
    · rw [if_pos c] at hP; injection hP with h1 _; exact ⟨c, h1.symm⟩
    · rw [if_neg c] at hP; injection hP with _ h2; rw [h] at h2; cases h2
  have heq : ∀ z : List S37, mEqL mEqFact z z = true := fun z => mEqL_refl _ mEqFact_refl z
  have hq1 := specEqFacts_ev x x g0 g1
  have hq2 := specEqFacts_ev e e m0 m1
  have hq3 := implEqFacts_ev d d (by omega) hds
  rw [heq] at hq1 hq2 hq3
  refine laws_FnFacts_walk A0 c0 l0 w hr0 hc0 s d r l x bI (mIsDb s d) s d r l e bG (mIsFact s r l) d
    (by unfold laws_big.f; rw [decide_eq_false hb]) ed.rounds hP ⟨by omega, by omega, hds, by omega⟩ hsp.rounds hq1.rounds
    (implIsDb_ev s d (by omega) (by omega) hds).rounds (specIsDb_ev s d (by omega) (by omega) hds).rounds ed.rounds hri.rounds hrs.rounds hq2.rounds
    (implIsFact_ev s r l (by omega) (by omega)).rounds (specIsFact_ev s r l (by omega) (by omega)).rounds ?_ ?_ (fun _ => hq3.rounds) ?_ ?_ ?_ ?_ ?_
  · intro h
    subst h
    have hv := implHasFact_ev e r l m0 m1
    rw [mRemove_gone hQ] at hv
    exact hv.rounds
  · intro h
    obtain ⟨h1, h2⟩ := hfit h
    have hv := implRemove_ev s x r l (by omega) g0 g1
    rw [h2, (mFits_law h1).1] at hv
    rw [h2]; exact hv.rounds
  · intro h
    obtain ⟨h1, h2⟩ := hfit h
    have hv := implHasFact_ev x r l g0 g1
    rw [h2, (mFits_law h1).2.1] at hv
    rw [h2]; exact hv.rounds
  · intro h
    obtain ⟨h1, h2⟩ := hfit h
    have hv := implHasFact_ev d r l (by omega) hds
    rw [(mFits_law h1).2.2.1] at hv
    exact hv.rounds
  · intro h
    obtain ⟨h1, h2⟩ := hfit h
    have hv := implIsDb_ev s x (by omega) g0 g1
    rw [h2, (mFits_law h1).2.2.2.1] at hv
    rw [h2]; exact hv.rounds
  · intro h
    obtain ⟨h1, h2⟩ := hfit h
    have := (mFits_law h1).2.2.2.2.1
    rw [h2]; omega
  · intro h
    exact w64 (by omega) (by omega)


end Go.Proofs.Ytfelabhakgcifaa.Hand
