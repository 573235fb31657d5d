/- Walks through Go functions that FnExactAddFact reaches, by hand: each call returns what is said beside it, within the bounds that the theorem names. -/
import Derived.Test.YtfelabhakgcifaaQFnExactAddFactx0
import Derived.Test.YtfelabhakgcifaaQFnExactAddFactx1
import Derived.Test.YtfelabhakgcifaaQFnExactAddFactx2
import Derived.Test.YtfelabhakgcifaaQFnExactAddFactx3
import Derived.Test.YtfelabhakgcifaaQFnExactAddFactx4
import Derived.Test.YtfelabhakgcifaaQFnExactAddFactx5
import Derived.Test.YtfelabhakgcifaaQFnExactAddFactx6
import Derived.Test.YtfelabhakgcifaaQFnExactAddFactx7
import Derived.Test.YtfelabhakgcifaaQFnExactAddFactx8
import Derived.Test.YtfelabhakgcifaaQFnExactAddFactx9
import Derived.Test.YtfelabhakgcifaaQFnExactAddFactx10
import Derived.Test.YtfelabhakgcifaaQFnExactAddFactx11
import Derived.Test.YtfelabhakgcifaaQFnExactAddFactx12
import Derived.Test.YtfelabhakgcifaaVFnExactAddFactMine
import Derived.Test.YtfelabhakgcifaaPureFnExactAddFact
import Derived.Test.YtfelabhakgcifaaShelf
import Derived.Shelf.SlSortCmp.WholeK
set_option linter.unusedVariables false
set_option linter.unusedSimpArgs false
namespace Go.Proofs.Ytfelabhakgcifaa.Hand
open Go.RowKit Go.Proofs.Ytfelabhakgcifaa.QFnExactAddFact Go.Proofs.YtfelabhakgcifaaW.PrintWords Go.Proofs.YtfelabhakgcifaaW.PrintLast Go.Proofs.YtfelabhakgcifaaW.PrintMore Go.Proofs.Ytfelabhakgcifaa.Mine Go.Proofs.Ytfelabhakgcifaa.Open Go.Proofs.Ytfelabhakgcifaa.Pure
attribute [local go_sem] max2_int min2_int max_two min_two max_three min_three max_four min_four

/-- A goal that the walk leaves alone. -/
def Hold (p : Prop) : Prop := p
theorem hold {p : Prop} (h : Hold p) : p := h
theorem newR {α : Type} {d : Kd α} {e B : Nat} {W w1 : World} {ok : Nat → Prop} {v : Value} {xs : List α} (h : d.R e w1 W.heap.size ok v xs) (hB : B ≤ W.heap.size) : d.R e w1 B (fun k => (W.heap.size ≤ k ∧ k < w1.heap.size) ∧ ok k) v xs :=
  Kd.R_lower (Kd.R_mono (Kd.R_bound h) (fun _ hk => ⟨⟨hk.2.1, hk.2.2.1⟩, hk.1⟩)) hB
theorem newS {α : Type} {d : Kd α} {e B : Nat} {W w1 : World} {ok : Nat → Prop} {v : Value} {xs : List α} (h : Kd.S d e w1 W.heap.size ok v xs) (hB : B ≤ W.heap.size) : Kd.S d e w1 B (fun k => (W.heap.size ≤ k ∧ k < w1.heap.size) ∧ ok k) v xs :=
  Kd.S_lower (Kd.S_mono (Kd.S_bound h) (fun _ hk => ⟨⟨hk.2.1, hk.2.2.1⟩, hk.1⟩)) hB
/-- A box stored into. -/
theorem kept_two {w : World} {g : Nat} (a b : Value) : Kept w ((w.setCell ⟨g, 0, none⟩ a).setCell ⟨g, 1, none⟩ b) (fun k => k = g) :=
  ((Kept.refl w (fun k => k = g)).setCell (.inl rfl) a).setCell (.inl rfl) b
theorem kept_one {w : World} {g : Nat} (a : Value) : Kept w (w.setCell ⟨g, 0, none⟩ a) (fun k => k = g) := (Kept.refl w (fun k => k = g)).setCell (.inl rfl) a
/-- A call of a closure. -/
theorem goesC_ {P : Program} {ops : Array Oper} {Q : Exit → Act → World → Prop} {oi : Oper} {N : Option Tmp} {a : Act} {w : World} {K : Act → World → Prop} {f : FuncId} {fn : Func} {p : Operand} {as_ : Array Operand} {ts : Array TypeId} (hf : P.funcs[f]? = some fn) (hname : (fn.name == "runtime.NumGoroutine") = false) (hb : fn.body.isSome = true) (first cap args : Array Value)
    (hw : Region.wanted oi (yielded ops a.tmps) = true) (hN : oi.dst = N) (hop : oi.op = .call { callee := .value p, args := as_, argTypes := ts }) (hv : a.eval p = .func (.func f) first cap) (hargs : (first ++ as_.map a.eval) ++ cap = args)
    (h : Calls P f args w fun e w' => ∃ v, e = .returned v ∧ K (a.put N v) w') : if Region.wanted oi (yielded ops a.tmps) = true then Oper.wp P oi a w K Q else K (a.put N undef) w := by
  refine call_ f args hw hN ?_ h
  have he := enters_ hf hname hb args w
  unfold execOp
  simp [hop, resolve, hv, Deferred.ofValue, invoke, hargs, he]

/-- A row whose elements have been put into another order: the cells of the row alone have changed. -/
theorem S_perm {α : Type} {d : Kd α} {e g n cap : Nat} {w w1 : World} {base : Nat} {ok : Nat → Prop} {xs : List α} (h : Kd.S d e w base ok (.slice (some ⟨g, 0, none⟩) n cap) xs) (z : α) (σ : List Nat) (hσ : σ.Perm (List.range n)) (hg : w.grownBy w1 (some g))
    (hc : ∀ cur, w.heap[g]? = some (.cells cur e (0, 0)) → n * d.sz ≤ cur.size → ∃ cur' : Array Value, w1.heap[g]? = some (.cells cur' e (0, 0)) ∧ cur'.size = cur.size ∧ ∀ j i, σ[j]? = some i → ∀ t, t < d.sz → cur'.toList[j * d.sz + t]? = cur.toList[i * d.sz + t]?) :
    Kd.S d e w1 base ok (.slice (some ⟨g, 0, none⟩) n cap) (σ.map fun i => xs.getD i z) := by
  obtain ⟨f, hR⟩ := h
  have hn := (Kd.R_reads' hR).1
  rw [List.length_zipIdx] at hn
  obtain ⟨h0, inner, ho, hr⟩ := hR
  rw [List.length_zipIdx] at ho
  obtain ⟨hil, ho⟩ := ho
  rcases ho with ⟨hv, _⟩ | ⟨g', cap', cur, hv, hbase, hheap, hnc, hcm, hcs, htk⟩
  · cases hv
  injection hv with ha _ hcap
  injection ha with ha
  injection ha with ha _ _
  subst ha
  subst hcap
  have htag : ∀ f : Nat → Nat, (Kd.tag f d).sz = d.sz := fun _ => rfl
  simp only [htag] at hil hcs htk hr
  have hσl : σ.length = n := by rw [hσ.length_eq, List.length_range]
  have hnd : σ.Nodup := hσ.nodup_iff.2 List.nodup_range
  have hmem : ∀ i ∈ σ, i < n := fun i hi => List.mem_range.1 (hσ.mem_iff.1 hi)
  have hle : n * d.sz ≤ cur.size := by rw [hcs]; exact Nat.mul_le_mul_right _ (by omega)
  obtain ⟨cur', hb', hs', hcc⟩ := hc cur hheap hle
  rw [← hn] at hil htk hnc
  have hml : (σ.map fun i => xs.getD i z).length = n := by rw [List.length_map, hσl]
  refine ⟨fun b => σ.idxOf (f b), h0, cur'.toList.take (n * d.sz), ?_, ?_, ?_⟩
  · rw [List.length_zipIdx, hml]
    show World.ownsRow w1 base e d.sz _ n _
    refine ⟨by rw [List.length_take, Array.length_toList, hs']; omega, .inr ⟨g, cap, cur', rfl, hbase, hb', hnc, hcm, by rw [hs', hcs], rfl⟩⟩
  · rw [List.length_zipIdx, hml, List.length_take, Array.length_toList, hs']
    show min (n * d.sz) cur.size = n * d.sz
    exact Nat.min_eq_left hle
  · intro j p hj
    rw [List.getElem?_zipIdx, Nat.zero_add] at hj
    obtain ⟨x, hx, rfl⟩ := Option.map_eq_some_iff.1 hj
    rw [List.getElem?_map] at hx
    obtain ⟨i, hi, rfl⟩ := Option.map_eq_some_iff.1 hx
    have hin : i < n := hmem i (List.mem_of_getElem? hi)
    have hjn : j < n := by rw [← hσl]; exact (List.getElem?_eq_some_iff.1 hi).1
    have hix : i < xs.length := by omega
    have hM := hr.2 i (xs[i], i) (Kd.zip_at (List.getElem?_eq_getElem hix))
    have hseg : ((cur'.toList.take (n * d.sz)).drop (j * d.sz)).take d.sz = (inner.drop (i * d.sz)).take d.sz := by
      rw [← htk]
      apply List.ext_getElem?
      intro t
      by_cases ht : t < d.sz
      · rw [List.getElem?_take_of_lt ht, List.getElem?_take_of_lt ht, List.getElem?_drop, List.getElem?_drop]
        have h1 : j * d.sz + t < n * d.sz := Nat.lt_of_lt_of_le (Nat.add_lt_add_left ht _) (by rw [← Nat.succ_mul]; exact Nat.mul_le_mul_right _ hjn)
        have h2 : i * d.sz + t < n * d.sz := Nat.lt_of_lt_of_le (Nat.add_lt_add_left ht _) (by rw [← Nat.succ_mul]; exact Nat.mul_le_mul_right _ hin)
        rw [List.getElem?_take_of_lt h1, List.getElem?_take_of_lt h2]
        exact hcc j i hi t ht
      · rw [List.getElem?_take_eq_none (by omega), List.getElem?_take_eq_none (by omega)]
    have hgd : xs.getD i z = xs[i] := by rw [List.getD_eq_getElem?_getD, List.getElem?_eq_getElem hix]; rfl
    show d.M w1 base _ (xs.getD i z) (((cur'.toList.take (n * d.sz)).drop (j * d.sz)).take d.sz)
    rw [hgd, hseg]
    refine d.M_mono (fun k hk => ⟨hk.1, ?_⟩) (Kd.M_step hM (fun k hk hlt => hg.block k hlt hk.1.2))
    show σ.idxOf (f k) = j
    rw [show f k = i from hk.2]
    have hjl : j < σ.length := by omega
    have hji : σ[j] = i := by
      rw [List.getElem?_eq_getElem hjl] at hi
      exact Option.some.inj hi
    rw [← hji]
    exact hnd.idxOf_getElem j hjl
section
open Go.Sort
variable {w : World} {e g n cap k : Nat} {cur : Array Value}
/-- The i-th element's cells (an index beyond the last: the last one's). -/
def segK (cur : Array Value) (n k i : Nat) : List Value := (cur.toList.drop (min i (n - 1) * k)).take k
theorem segK_le (hn : 0 < n) (hs : n * k ≤ cur.size) (i : Nat) : min i (n - 1) * k + k ≤ cur.size := by
  have : (min i (n - 1) + 1) * k ≤ n * k := Nat.mul_le_mul_right _ (by omega)
  rw [Nat.add_mul, Nat.one_mul] at this
  omega
theorem segK_len (hn : 0 < n) (hs : n * k ≤ cur.size) (i : Nat) : (segK cur n k i).length = k := by
  have := segK_le hn hs i
  unfold segK
  rw [List.length_take, List.length_drop, Array.length_toList]; omega
theorem segK_get (hn : 0 < n) (hs : n * k ≤ cur.size) (i t : Nat) (ht : t < k) : (segK cur n k i)[t]? = cur.toList[min i (n - 1) * k + t]? := by
  unfold segK
  rw [List.getElem?_take_of_lt ht, List.getElem?_drop]
theorem flat_seg (hn : 0 < n) (hk : 0 < k) (hs : n * k ≤ cur.size) (σ : Array Nat) (hσ : σ.size = n) (j i t : Nat) (hj : σ.toList[j]? = some i) (hi : i < n) (ht : t < k) :
    some ((flatK (segK cur n k) k σ)[j * k + t]!) = cur.toList[i * k + t]? ∧ j * k + t < (flatK (segK cur n k) k σ).size := by
  have hjl : j < σ.size := by
    have := (List.getElem?_eq_some_iff.1 hj).1
    rwa [Array.length_toList] at this
  have hjt : j * k + t < σ.size * k := Nat.lt_of_lt_of_le (Nat.add_lt_add_left ht _) (by rw [← Nat.succ_mul]; exact Nat.mul_le_mul_right _ hjl)
  refine ⟨?_, by rw [size_flatK]; exact hjt⟩
  rw [get_flatK _ _ _ _ hjt]
  have e1 : (j * k + t) / k = j := by rw [Nat.add_comm, Nat.add_mul_div_right _ _ hk, Nat.div_eq_of_lt ht, Nat.zero_add]
  have e2 : (j * k + t) % k = t := by rw [Nat.add_comm, Nat.add_mul_mod_self_right, Nat.mod_eq_of_lt ht]
  have e3 : σ[j]! = i := by
    rw [getElem!_pos σ j hjl]
    rw [Array.getElem?_toList, Array.getElem?_eq_getElem hjl] at hj
    exact Option.some.inj hj
  rw [e1, e2, e3]
  have hl := segK_len (k := k) hn hs i
  have hg := segK_get (k := k) hn hs i t ht
  rw [show min i (n - 1) = i by omega] at hg
  rw [← hg, List.getElem!_eq_getElem?_getD, List.getElem?_eq_getElem (by omega)]
  rfl
theorem holds_seg (hn : 0 < n) (hk : 0 < k) (hb : w.heap[g]? = some (.cells cur e (0, 0))) (hs : n * k ≤ cur.size) : HoldsK (segK cur n k) k w g 0 (Array.range n) := by
  intro q hq
  rw [size_flatK, Array.size_range] at hq
  have hj : (Array.range n).toList[q / k]? = some (q / k) := by
    rw [Array.toList_range, List.getElem?_range (Nat.div_lt_of_lt_mul (by rwa [Nat.mul_comm] at hq))]
  have hd := Nat.div_lt_of_lt_mul (show q < k * n by rwa [Nat.mul_comm] at hq)
  have hf := (flat_seg (cur := cur) hn hk hs (Array.range n) Array.size_range (q / k) (q / k) (q % k) hj hd (Nat.mod_lt _ hk)).1
  have e1 : q / k * k + q % k = q := by rw [Nat.mul_comm]; exact Nat.div_add_mod q k
  rw [e1] at hf
  refine ⟨?_, ?_⟩
  · show w.cell? ⟨g, 0 + q, none⟩ = some (id _)
    simp only [World.cell?, hb, id, Nat.zero_add]
    rw [hf, Array.getElem?_toList]; rfl
  · simp only [World.frozen?, hb]
    simp
theorem sortK_heap (enc : Nat → List Value) (m : Nat) (σ : Array Nat) (os : Array Obj) (hb : w.heap[g]? = some (.cells cur e (0, 0))) : (sortWorldK enc k w g 0 m σ os).heap[g]? = some (.cells (putCells id 0 (flatK enc k σ) cur) e (0, 0)) := by
  have hlt := blk_lt hb
  unfold sortWorldK putRowK putRow mapBlock grow
  show (w.heap.modify g _ ++ os)[g]? = _
  rw [Array.getElem?_append_left (by simpa using hlt), Array.getElem?_modify, if_pos rfl, hb]
  rfl
theorem sortK_grown (enc : Nat → List Value) (m : Nat) (σ : Array Nat) (os : Array Obj) : w.grownBy (sortWorldK enc k w g 0 m σ os) (some g) := by
  refine ⟨rfl, rfl, rfl, ?_, fun q hq hne => ?_⟩
  · unfold sortWorldK putRowK putRow mapBlock grow
    show w.heap.size ≤ (w.heap.modify g _ ++ os).size
    simp
  · unfold sortWorldK putRowK putRow mapBlock grow
    show (w.heap.modify g _ ++ os)[q]? = _
    rw [Array.getElem?_append_left (by simpa using hq), Array.getElem?_modify, if_neg (fun he => hne (by rw [he]))]
/-- What the library's sort leaves of a row: its elements in another order. -/
theorem S_sortK {α : Type} {d : Kd α} {base : Nat} {ok : Nat → Prop} {xs : List α} (h : Kd.S d e w base ok (.slice (some ⟨g, 0, none⟩) n cap) xs) (z : α) (hn : 0 < n) (hk : 0 < d.sz) (hb : w.heap[g]? = some (.cells cur e (0, 0))) (hs : n * d.sz ≤ cur.size) (m : Nat) (os : Array Obj) (σ : Array Nat) (hσ : PermIn 0 n (Array.range n) σ) :
    Kd.S d e (sortWorldK (segK cur n d.sz) d.sz w g 0 m σ os) base ok (.slice (some ⟨g, 0, none⟩) n cap) (σ.toList.map fun i => xs.getD i z) := by
  have hsz : σ.size = n := by rw [hσ.1, Array.size_range]
  have hp : σ.toList.Perm (List.range n) := by
    have := hσ.2.2
    rw [Array.extract_eq_self_of_le (by omega), Array.extract_eq_self_of_le (by simp), Array.toList_range] at this
    exact this
  refine S_perm h z σ.toList hp (sortK_grown _ m σ os) ?_
  intro cur2 hb2 hs2
  rw [hb] at hb2
  injection hb2 with hb2
  injection hb2 with hb2 _ _
  subst hb2
  refine ⟨_, sortK_heap _ m σ os hb, by simp [putCells], fun j i hj t ht => ?_⟩
  have hi : i < n := List.mem_range.1 (hp.mem_iff.1 (List.mem_of_getElem? hj))
  obtain ⟨hf, hl⟩ := flat_seg (cur := cur) hn hk hs σ hsz j i t hj hi ht
  have hlc : j * d.sz + t < cur.size := by rw [size_flatK, hsz] at hl; omega
  rw [← hf, Array.getElem?_toList]
  unfold putCells
  rw [Array.getElem?_mapIdx, Array.getElem?_eq_getElem hlc]
  show some (if _ then _ else _) = _
  rw [if_pos ⟨Nat.zero_le _, by omega⟩]
  rfl
end
theorem S_size {α : Type} {d : Kd α} {w : World} {e g n cap base : Nat} {cur : Array Value} {ok : Nat → Prop} {xs : List α} (h : Kd.S d e w base ok (.slice (some ⟨g, 0, none⟩) n cap) xs) (hb : w.heap[g]? = some (.cells cur e (0, 0))) : n * d.sz ≤ cur.size := by
  obtain ⟨f, hR⟩ := h
  have hn := (Kd.R_reads' hR).1
  obtain ⟨h0, inner, ⟨hil, ho⟩, hr⟩ := hR
  rcases ho with ⟨hv, _⟩ | ⟨g', cap', cur', hv, hbase, hheap, hnc, hcm, hcs, htk⟩
  · cases hv
  injection hv with ha _ hcap
  injection ha with ha
  injection ha with ha _ _
  subst ha
  rw [hb] at hheap
  injection hheap with hheap
  injection hheap with hheap _ _
  rw [hheap, hcs]
  exact Nat.mul_le_mul_right _ (by omega)
/-- What an element's cells say. -/
theorem S_seg {α : Type} {d : Kd α} {w : World} {e g n cap base : Nat} {cur : Array Value} {ok : Nat → Prop} {xs : List α} (h : Kd.S d e w base ok (.slice (some ⟨g, 0, none⟩) n cap) xs) (z : α) (hb : w.heap[g]? = some (.cells cur e (0, 0))) (hn : 0 < n) (i : Nat) :
    d.M w base (fun k => ok k ∧ k ≠ g) (xs.getD (min i (n - 1)) z) (segK cur n d.sz i) := by
  have hsz := S_size h hb
  obtain ⟨f, hR⟩ := h
  have hnx := (Kd.R_reads' hR).1
  rw [List.length_zipIdx] at hnx
  obtain ⟨h0, inner, ⟨hil, ho⟩, hr⟩ := hR
  rcases ho with ⟨hv, _⟩ | ⟨g', cap', cur', hv, hbase, hheap, hnc, hcm, hcs, htk⟩
  · cases hv
  injection hv with ha _ hcap
  injection ha with ha
  injection ha with ha _ _
  subst ha
  rw [hb] at hheap
  injection hheap with hheap
  injection hheap with hheap _ _
  subst hheap
  have htag : (Kd.tag f d).sz = d.sz := rfl
  rw [List.length_zipIdx] at htk
  rw [htag] at htk hr
  have hix : min i (n - 1) < xs.length := by omega
  have hM := hr.2 (min i (n - 1)) _ (Kd.zip_at (List.getElem?_eq_getElem hix))
  have hgd : xs.getD (min i (n - 1)) z = xs[min i (n - 1)] := by rw [List.getD_eq_getElem?_getD, List.getElem?_eq_getElem hix]; rfl
  have hseg : segK cur n d.sz i = (inner.drop (min i (n - 1) * d.sz)).take d.sz := by
    unfold segK
    rw [← htk]
    apply List.ext_getElem?
    intro t
    by_cases ht : t < d.sz
    · rw [List.getElem?_take_of_lt ht, List.getElem?_take_of_lt ht, List.getElem?_drop, List.getElem?_drop]
      have h2 : min i (n - 1) * d.sz + t < xs.length * d.sz := Nat.lt_of_lt_of_le (Nat.add_lt_add_left ht _) (by rw [← Nat.succ_mul]; exact Nat.mul_le_mul_right _ hix)
      rw [List.getElem?_take_of_lt h2]
    · rw [List.getElem?_take_eq_none (by omega), List.getElem?_take_eq_none (by omega)]
  rw [hgd, hseg]
  exact d.M_mono (fun k hk => ⟨hk.1.1, fun he => hk.1.2 (by rw [he]; rfl)⟩) hM

theorem drew_two (w : World) (o1 o2 : Obj) (q : Nat) : ((w.alloc o1).alloc o2).drewN q = Sort.grow (w.drewN q) #[o1, o2] := by
  rw [Sort.alloc_eq_grow, Sort.alloc_eq_grow, Sort.grow_grow]
  rfl
set_option maxHeartbeats 8000000 in
set_option maxRecDepth 100000 in
/-- The order of facts: two blocks (its arguments') are laid, nothing is turned. -/
theorem cmpF_x (a0 : Int) (A : Option Addr) (ca : Nat) (la : List Int) (b0 : Int) (B : Option Addr) (cb : Nat) (lb : List Int) (w : World) (hra : Kd.C (Kd.int .i64) w A la.length la) (hca : la.length ≤ ca) (hrb : Kd.C (Kd.int .i64) w B lb.length lb) (hcb : lb.length ≤ cb) (hl : la.length ≤ 140737488355328) :
    Calls Try.prog 54 #[.agg #[.int .i64 a0, .slice A la.length ca], .agg #[.int .i64 b0, .slice B lb.length cb]] w fun e w' => e = .returned (.int .i64 (mCmpF ⟨a0, la⟩ ⟨b0, lb⟩)) ∧ ∃ q os, w' = Sort.grow (w.drewN q) os := by
  have hu37 := Try.underlying37
  obtain ⟨k, hk⟩ := (slCompare_ev la lb hl).rounds
  have K := Aside0.mk hk
  have HA := Aside0.mk hra
  have HB := Aside0.mk hrb
  have HC := Aside0.mk (show la.length ≤ ca ∧ lb.length ≤ cb from ⟨hca, hcb⟩)
  have EM := Aside0.mk (show mCmpF ⟨a0, la⟩ ⟨b0, lb⟩ = if a0 < b0 then -1 else if a0 > b0 then 1 else mCmp la lb from rfl)
  generalize mCmpF ⟨a0, la⟩ ⟨b0, lb⟩ = r at EM ⊢
  generalize mCmp la lb = rc at K EM
  clear hra hrb hca hcb hk hl
  go_enter Try.func54, Try.ntmps54
  by_cases h1 : a0 < b0
  · have h1b := decide_eq_true h1
    have ER := Aside0.mk (show r = -1 by rw [EM.out, if_pos h1])
    clear EM
    go_wp2
    go_ret
    exact ⟨by rw [ER.out]; rfl, 0, _, drew_two _ _ _ 0⟩
  · have h1b := decide_eq_false h1
    by_cases h2 : a0 > b0
    · have h2b : decide (b0 < a0) = true := decide_eq_true h2
      have h2c : decide (a0 > b0) = true := decide_eq_true h2
      have ER := Aside0.mk (show r = 1 by rw [EM.out, if_neg h1, if_pos h2])
      clear EM
      go_wp2
      go_ret
      exact ⟨by rw [ER.out]; rfl, 0, _, drew_two _ _ _ 0⟩
    · have h2b : decide (b0 < a0) = false := decide_eq_false h2
      have h2c : decide (a0 > b0) = false := decide_eq_false h2
      have ER := Aside0.mk (show r = rc by rw [EM.out, if_neg h1, if_neg h2])
      clear EM
      go_wp2_with (first | (go_at_call 76; refine hold ?_))
      unfold Hold
      refine (slices_Compare_int_int.calls k A ca la B cb lb rc _ (Kd.C_below HA.out ?b1) HC.out.1 (Kd.C_below HB.out ?b2) HC.out.2 K.out).mono ?_
      case b1 => exact below_alloc (below_alloc (Below.refl _ _) _) _
      case b2 => exact below_alloc (below_alloc (Below.refl _ _) _) _
      rintro e w' ⟨rfl, hd⟩
      obtain ⟨q, rfl⟩ := hd.out
      go_wp2
      go_ret
      exact ⟨by rw [ER.out]; rfl, q, _, drew_two _ _ _ q⟩
theorem cmpF_lt (a b : S37) : decide (mCmpF a b < 0) = mFLess a b := by
  have h := cmpF_less a b
  cases e : mFLess a b
  · have := h.2 e; exact decide_eq_false (by omega)
  · exact decide_eq_true (Int.not_le.1 (fun h2 => by have := h.1 h2; rw [e] at this; cases this))
theorem cmpLays_F {g n cap base : Nat} {ok : Nat → Prop} {w : World} {xs : List S37} {cur : Array Value} (h : Kd.S k37 37 w base ok (.slice (some ⟨g, 0, none⟩) n cap) xs) (hb : w.heap[g]? = some (.cells cur 37 (0, 0))) (hn : 0 < n) (hs : ∀ x ∈ xs, x.f1.length ≤ 1048576) :
    CmpLays Try.prog 54 #[] (segK cur n 2) 2 (fun i j => mCmpF (xs.getD (min i (n - 1)) z37) (xs.getD (min j (n - 1)) z37)) g 0 n w := by
  intro m os dk hd x y
  have hg := sortK_grown (w := w) (g := g) (k := 2) (segK cur n 2) m dk os
  have hnx : n = xs.length := (Kd.S_reads' h).1
  obtain ⟨vx, ex, gx⟩ := k37_openM (S_seg h z37 hb hn x)
  obtain ⟨vy, ey, gy⟩ := k37_openM (S_seg h z37 hb hn y)
  have gx' := Kd.R_step gx (w1 := sortWorldK (segK cur n 2) 2 w g 0 m dk os) (fun k hk hlt => hg.block k hlt (fun he => hk.2 (Option.some.inj he)))
  have gy' := Kd.R_step gy (w1 := sortWorldK (segK cur n 2) 2 w g 0 m dk os) (fun k hk hlt => hg.block k hlt (fun he => hk.2 (Option.some.inj he)))
  obtain ⟨Ax, cx, rfl, hlx, rx⟩ := Kd.R_reads gx'
  obtain ⟨Ay, cy, rfl, hly, ry⟩ := Kd.R_reads gy'
  have ex' : segK cur n 2 x = _ := ex
  have ey' : segK cur n 2 y = _ := ey
  rw [Array.append_empty, ex', ey']
  refine cmpF_x _ Ax cx _ _ Ay cy _ _ rx hlx ry hly ?_
  have hx : min x (n - 1) < xs.length := by omega
  rw [List.getD_eq_getElem?_getD, List.getElem?_eq_getElem hx]
  exact Nat.le_trans (hs _ (List.getElem_mem _)) (by omega)
/-- The library's sort at a row of facts of the call's own. -/
theorem sortF_walk (P : Nat → Prop) (v : Value) (xs : List S37) (w0 w : World) (hB : Below w0.heap.size w0 w) (ho : Kd.S k37 37 w w0.heap.size P v xs) (hn : 0 < xs.length) (hl : xs.length ≤ 4398046511104) (hs : ∀ x ∈ xs, x.f1.length ≤ 1048576) :
    Calls Try.prog 53 #[v, .func (.func 54) #[] #[]] w fun e w' => e = .returned (.tuple #[]) ∧ ∃ ys : List S37, ys.Perm xs ∧ ys.Pairwise (fun x y => mFLess y x = false) ∧ Kd.S k37 37 w' w0.heap.size P v ys ∧ Below w0.heap.size w0 w' := by
  obtain ⟨g, cap, rfl, hge, hgl, cur, hb⟩ := Kd.S_form ho hn
  have hsz : xs.length * 2 ≤ cur.size := S_size ho hb
  have hlt : ∀ x y, ltOf (fun i j => mCmpF (xs.getD (min i (xs.length - 1)) z37) (xs.getD (min j (xs.length - 1)) z37)) x y = mFLess (xs.getD (min x (xs.length - 1)) z37) (xs.getD (min y (xs.length - 1)) z37) := fun x y => cmpF_lt _ _
  have hO : Sort.SWO (ltOf (fun i j => mCmpF (xs.getD (min i (xs.length - 1)) z37) (xs.getD (min j (xs.length - 1)) z37))) := by
    refine ⟨fun x => ?_, fun x y z h1 h2 => ?_, fun x y z h1 h2 => ?_⟩
    · rw [hlt]; exact mFLess_tot.irr _
    · rw [hlt] at *; exact mFLess_tot.tr _ _ _ h1 h2
    · rw [hlt] at *; exact mFLess_tot.nt _ _ _ h1 h2
  have eg : ∀ args w, (callFunc 54 args).run Try.prog w = .ok (.enter 54 args) w := enters_of Try.func54 (by kernel_rfl) rfl
  have hcon := AnyQ.slices_SortFunc Try.sortF 2 Try.isAgg37 Try.sizeOf37 (segK cur xs.length 2) (fun i => segK_len hn hsz i) (fun i u hu => k37.K_one (k37.K_of_M (S_seg ho z37 hb hn i)) u hu) _ hO 54 #[] g 0 cap (Array.range xs.length) w eg (by rw [Array.size_range]; exact cmpLays_F ho hb hn hs) (holds_seg hn (by decide) hb hsz) hgl (by rw [Array.size_range]; omega)
  rw [Array.size_range] at hcon
  refine hcon.mono ?_
  rintro e w' ⟨he, d', m, os, hp, hsd, rfl⟩
  have hg := sortK_grown (w := w) (g := g) (k := 2) (segK cur xs.length 2) m d' os
  have hpl : d'.toList.Perm (List.range xs.length) := by
    have h1 := hp.1
    have := hp.2.2
    rw [Array.size_range] at h1
    rw [Array.extract_eq_self_of_le (by omega), Array.extract_eq_self_of_le (by simp), Array.toList_range] at this
    exact this
  have hmem : ∀ i ∈ d'.toList, i < xs.length := fun i hi => List.mem_range.1 (hpl.mem_iff.1 hi)
  have hds : d'.size = xs.length := by rw [hp.1, Array.size_range]
  refine ⟨he, d'.toList.map fun i => xs.getD i z37, ?_, ?_, S_sortK ho z37 hn (by decide) hb hsz m os d' hp, hB.grown hg hB.size (fun k hk => by injection hk with hk; omega)⟩
  · have h2 := hpl.map (fun i => xs.getD i z37)
    have h3 : (List.range xs.length).map (fun i => xs.getD i z37) = xs := by
      apply List.ext_getElem
      · simp
      · intro i h1 h2
        rw [List.getElem_map, List.getElem_range, List.getD_eq_getElem?_getD, List.getElem?_eq_getElem h2]; rfl
    rwa [h3] at h2
  · rw [List.pairwise_map, List.pairwise_iff_getElem]
    intro i j hi hj hij
    have hi' : i < d'.size := by simpa using hi
    have hj' : j < d'.size := by simpa using hj
    have := hsd i j (Nat.zero_le _) hij (by omega)
    rw [hlt, getElem!_pos d' i hi', getElem!_pos d' j hj'] at this
    have m1 := hmem d'[i] (by simp)
    have m2 := hmem d'[j] (by simp)
    rw [show min d'[i] (xs.length - 1) = d'[i] by omega, show min d'[j] (xs.length - 1) = d'[j] by omega] at this
    simpa using this

set_option maxHeartbeats 8000000 in
set_option maxRecDepth 100000 in
theorem impl_AddFact_calls (A0_0 : Option Addr) (c0_0 : Nat) (l0_0 : List Int) (A1 : Option Addr) (c1 : Nat) (l1 : List (S37)) (a2_0 : Int) (A2_1 : Option Addr) (c2_1 : Nat) (l2_1 : List Int) (r1 : List (S37)) (r2 : Bool) (w : World) (hr0_0 : Kd.C (Kd.int .i64) w A0_0 l0_0.length l0_0) (hc0_0 : l0_0.length ≤ c0_0) (hr1 : Kd.C k37 w A1 l1.length l1) (hc1 : l1.length ≤ c1) (hr2_1 : Kd.C (Kd.int .i64) w A2_1 l2_1.length l2_1) (hc2_1 : l2_1.length ≤ c2_1) (hz0 : l0_0.length ≤ 1048576 ∧ l1.length ≤ 1048576 ∧ (∀ x ∈ l1, x.f1.length ≤ 1048576) ∧ l2_1.length ≤ 1048576) (h : mAddF l0_0 l1 ⟨a2_0, l2_1⟩ = (r1, r2)) :
    Calls Try.prog 14 #[.agg #[.slice A0_0 l0_0.length c0_0], .slice A1 l1.length c1, .agg #[.int .i64 a2_0, .slice A2_1 l2_1.length c2_1]] w fun e w' => ∃ v0_ : Value, e = .returned (.tuple #[v0_, .bool r2]) ∧ Kd.S k37 37 w' w.heap.size (fun _ => True) v0_ r1 ∧ Below w.heap.size w w' := by
  obtain ⟨z0, z1, zs, z2⟩ := hz0
  obtain ⟨k1, hk1⟩ := (implIsDb_ev l0_0 l1 z0 z1 zs).rounds
  obtain ⟨k2, hk2⟩ := (implIsFact_ev l0_0 a2_0 l2_1 (by omega) (by omega)).rounds
  obtain ⟨k3, hk3⟩ := (implHasFact_ev l1 a2_0 l2_1 z1 zs).rounds
  obtain ⟨k4, hk4⟩ := (copyFacts_ev l1 z1 zs).rounds
  have K5 := Aside0.mk (copyFact_eq a2_0 l2_1 z2)
  have huS := Try.underlying34
  have huF := Try.underlying37
  have HS := Aside0.mk (fun h_ : mIsDb l0_0 l1 = true => (⟨mPutF_sort (⟨a2_0, l2_1⟩ : S37) l1 (isDb_sorted h_), by have h2 := h_; unfold mIsDb at h2; simp only [Bool.and_eq_true, decide_eq_true_eq] at h2; exact h2.2.2⟩ : _ ∧ (l1.length : Int) ≤ 24))
  have HZ := Aside0.mk (show l1.length ≤ 1048576 ∧ ∀ x ∈ l1 ++ [(⟨a2_0, l2_1⟩ : S37)], x.f1.length ≤ 1048576 from ⟨z1, fun x hx => by rcases List.mem_append.1 hx with hx | hx; exact zs x hx; rw [List.mem_singleton.1 hx]; exact z2⟩)
  unfold mAddF mFits at h
  dsimp only at h
  generalize mIsDb l0_0 l1 = b1 at hk1 h HS
  generalize mIsFact l0_0 a2_0 l2_1 = b2 at hk2 h
  generalize mHas l1 a2_0 l2_1 = b3 at hk3 h
  have HN := Aside0.mk (fun h_ : (b1 && (b2 && (!b3 && decide ((l1.length : Int) < 24)))) = false => show r1 = l1 ∧ r2 = false by rw [h_, if_neg (by simp)] at h; injection h with h1 h2; exact ⟨h1.symm, h2.symm⟩)
  have HY := Aside0.mk (fun h_ : (b1 && (b2 && (!b3 && decide ((l1.length : Int) < 24)))) = true => show r1 = mPutF ⟨a2_0, l2_1⟩ l1 ∧ r2 = true by rw [h_, if_pos rfl] at h; injection h with h1 h2; exact ⟨h1.symm, h2.symm⟩)
  have K1 := Aside0.mk hk1
  have K2 := Aside0.mk hk2
  have K3 := Aside0.mk hk3
  have K4 := Aside0.mk hk4
  have R0 := Aside0.mk hr0_0
  have R1 := Aside0.mk hr1
  have R2 := Aside0.mk hr2_1
  have HC := Aside0.mk (show l0_0.length ≤ c0_0 ∧ l1.length ≤ c1 ∧ l2_1.length ≤ c2_1 from ⟨hc0_0, hc1, hc2_1⟩)
  have HB := Aside0.mk (Below.refl w.heap.size w)
  clear hk1 hk2 hk3 hk4 hr0_0 hr1 hr2_1 hc0_0 hc1 hc2_1 z0 z1 z2 zs h
  go_enter Try.func14, Try.ntmps14
  go_wp2_with (first | ((with_reducible refine gate_dst (N := 3) rfl ?_); refine hold ?_))
  unfold Hold
  refine box_event ?hg0 (N := 3) ?hd0 (cs := #[.slice A0_0 l0_0.length c0_0]) (t := 34) ?hr0 ?_
  case hd0 => rfl
  case hg0 => rfl
  case hr0 => first | (go_simp; done) | (go_simp; rfl)
  intro g0 hg w1 hbox hb
  have Bg0 := Aside0.mk hbox
  replace HB := Aside0.mk (below_step HB.out hb)
  clear hbox hb hg
  go_wp2_with (first | ((with_reducible refine gate_dst (N := 5) rfl ?_); refine hold ?_))
  unfold Hold
  refine box_event ?hg1 (N := 5) ?hd1 (cs := #[.int .i64 a2_0, .slice A2_1 l2_1.length c2_1]) (t := 37) ?hr1 ?_
  case hd1 => rfl
  case hg1 => rfl
  case hr1 => first | (go_simp; done) | (go_simp; rfl)
  intro g1 hg w2 hbox hb
  have Bg1 := Aside0.mk hbox
  replace Bg0 := Aside0.mk (blk_below Bg0.out hb)
  replace HB := Aside0.mk (below_step HB.out hb)
  clear hbox hb hg
  go_wp2_with (first | (go_at_call 51; refine hold ?_))
  unfold Hold
  refine (impl_copyFacts.calls k4 _ _ l1 l1 _ (Kd.C_below R1.out HB.out) HC.out.2.1 K4.out).mono ?_
  rintro e w3 ⟨v0, rfl, ho, hb⟩
  have O := Aside0.mk (Kd.S_lower ho HB.out.size)
  replace Bg0 := Aside0.mk (blk_below Bg0.out hb)
  replace Bg1 := Aside0.mk (blk_below Bg1.out hb)
  replace HB := Aside0.mk (below_step HB.out hb)
  clear hb ho
  have hx0 : w3.cell? ⟨g0, 0, none⟩ = some (.slice A0_0 l0_0.length c0_0) := (blk_cell Bg0.out 0).trans rfl
  have hx1 : w3.cell? ⟨g1, 0, none⟩ = some (.int .i64 a2_0) := (blk_cell Bg1.out 0).trans rfl
  have hx2 : w3.cell? ⟨g1, 1, none⟩ = some (.slice A2_1 l2_1.length c2_1) := (blk_cell Bg1.out 1).trans rfl
  go_wp2_with (first | (go_at_call 25; refine hold ?_))
  unfold Hold
  refine (impl_IsDatabase.calls k1 _ _ l0_0 _ _ l1 b1 _ (Kd.C_below R0.out HB.out) HC.out.1 (Kd.C_below R1.out HB.out) HC.out.2.1 K1.out).mono ?_
  rintro e w4 ⟨rfl, hb⟩
  replace O := Aside0.mk (Kd.S_below O.out hb)
  replace Bg0 := Aside0.mk (blk_below Bg0.out hb)
  replace Bg1 := Aside0.mk (blk_below Bg1.out hb)
  replace HB := Aside0.mk (below_step HB.out hb)
  clear hb hx0 hx1 hx2 K1
  cases b1
  · have EN := Aside0.mk (HN.out (by rfl))
    clear HN HY HS
    go_wp2
    go_ret2
    exact ⟨_, by rw [EN.out.2]; rfl, by rw [EN.out.1]; exact O.out, HB.out⟩
  have hx0 : w4.cell? ⟨g0, 0, none⟩ = some (.slice A0_0 l0_0.length c0_0) := (blk_cell Bg0.out 0).trans rfl
  have hx1 : w4.cell? ⟨g1, 0, none⟩ = some (.int .i64 a2_0) := (blk_cell Bg1.out 0).trans rfl
  have hx2 : w4.cell? ⟨g1, 1, none⟩ = some (.slice A2_1 l2_1.length c2_1) := (blk_cell Bg1.out 1).trans rfl
  go_wp2_with (first | (go_at_call 32; refine hold ?_))
  unfold Hold
  refine (impl_IsFact.calls k2 _ _ l0_0 _ _ _ l2_1 b2 _ (Kd.C_below R0.out HB.out) HC.out.1 (Kd.C_below R2.out HB.out) HC.out.2.2 K2.out).mono ?_
  rintro e w5 ⟨rfl, hb⟩
  replace O := Aside0.mk (Kd.S_below O.out hb)
  replace Bg0 := Aside0.mk (blk_below Bg0.out hb)
  replace Bg1 := Aside0.mk (blk_below Bg1.out hb)
  replace HB := Aside0.mk (below_step HB.out hb)
  clear hb hx0 hx1 hx2 K2
  cases b2
  · have EN := Aside0.mk (HN.out (by rfl))
    clear HN HY HS
    go_wp2
    go_ret2
    exact ⟨_, by rw [EN.out.2]; rfl, by rw [EN.out.1]; exact O.out, HB.out⟩
  have hx0 : w5.cell? ⟨g0, 0, none⟩ = some (.slice A0_0 l0_0.length c0_0) := (blk_cell Bg0.out 0).trans rfl
  have hx1 : w5.cell? ⟨g1, 0, none⟩ = some (.int .i64 a2_0) := (blk_cell Bg1.out 0).trans rfl
  have hx2 : w5.cell? ⟨g1, 1, none⟩ = some (.slice A2_1 l2_1.length c2_1) := (blk_cell Bg1.out 1).trans rfl
  go_wp2_with (first | (go_at_call 29; refine hold ?_))
  unfold Hold
  refine (impl_HasFact.calls k3 _ _ l1 _ _ _ l2_1 b3 _ (Kd.C_below R1.out HB.out) HC.out.2.1 (Kd.C_below R2.out HB.out) HC.out.2.2 K3.out).mono ?_
  rintro e w6 ⟨rfl, hb⟩
  replace O := Aside0.mk (Kd.S_below O.out hb)
  replace Bg0 := Aside0.mk (blk_below Bg0.out hb)
  replace Bg1 := Aside0.mk (blk_below Bg1.out hb)
  replace HB := Aside0.mk (below_step HB.out hb)
  clear hb hx0 hx1 hx2 K3
  cases b3
  rotate_left
  · have EN := Aside0.mk (HN.out (by rfl))
    clear HN HY HS
    go_wp2
    go_ret2
    exact ⟨_, by rw [EN.out.2]; rfl, by rw [EN.out.1]; exact O.out, HB.out⟩
  by_cases c4 : (l1.length : Int) = 24
  · have c4b : ((l1.length : Int) == 24) = true := beq_iff_eq.mpr c4
    have EN := Aside0.mk (HN.out (by rw [decide_eq_false (show ¬ (l1.length : Int) < 24 by omega)]; rfl))
    clear HN HY HS
    go_wp2
    go_ret2
    exact ⟨_, by rw [EN.out.2]; rfl, by rw [EN.out.1]; exact O.out, HB.out⟩
  have c4b : ((l1.length : Int) == 24) = false := by simpa using c4
  have HS1 := HS.out trivial
  have hlt : (l1.length : Int) < 24 := by have := HS1.2; omega
  have HS2 := Aside0.mk HS1.1
  have EN := Aside0.mk (HY.out (by rw [decide_eq_true hlt]; rfl))
  clear HN HY HS HS1 hlt c4
  have hx0 : w6.cell? ⟨g0, 0, none⟩ = some (.slice A0_0 l0_0.length c0_0) := (blk_cell Bg0.out 0).trans rfl
  have hx1 : w6.cell? ⟨g1, 0, none⟩ = some (.int .i64 a2_0) := (blk_cell Bg1.out 0).trans rfl
  have hx2 : w6.cell? ⟨g1, 1, none⟩ = some (.slice A2_1 l2_1.length c2_1) := (blk_cell Bg1.out 1).trans rfl
  go_wp2_with (first | (go_at_call 52; refine hold ?_))
  unfold Hold
  refine (impl_copyFact.calls _ _ _ l2_1 _ _ _ (Kd.C_below R2.out HB.out) HC.out.2.2 K5.out).mono ?_
  rintro e w7 ⟨v1, rfl, ho, hb⟩
  have O2 := Aside0.mk (Kd.S_elder' O.out (Kd.R_base ho) hb)
  have OF := Aside0.mk (Kd.R_lower ho HB.out.size)
  replace HB := Aside0.mk (below_step HB.out hb)
  clear hb ho hx0 hx1 hx2 O Bg0 Bg1
  obtain ⟨Af, cf, rfl⟩ := Kd.R_slice OF.out
  go_wp2_with (first | ((with_reducible refine gate_builtin (b := .append) (xs := #[.tmp 32, .tmp 35]) rfl ?_); at_builtin; refine hold ?_))
  unfold Hold
  refine Kd.S_append k37 (w0 := w) w.heap.size rfl (.tmp 32) (.tmp 35) 31 37 (.agg #[(.int .i64 0), (.slice none 0 0)]) 32 rfl Try.underlying31 info37 rfl (by decide) (by omega) v0 l1 (⟨a2_0, l2_1⟩ : S37) [.int .i64 a2_0, .slice Af l2_1.length cf] (fun _ => True) (fun k_ => some k_ = (.slice Af l2_1.length cf : Value).ownBlock) rfl rfl ?aP (fun k_ hk_ => (Kd.R_apart' OF.out (Kd.S_typed O2.out) (by decide)).1 k_ hk_.symm) ?aF ?aO ?aB ?aS ?aL ?_
  case aP => exact k37_mkM _ _ _ (⟨a2_0, l2_1⟩ : S37) (Kd.R_tight rfl OF.out)
  case aF => exact fun _ _ => trivial
  case aO => exact Kd.S_mono O2.out (fun k_ hk => ⟨trivial, fun e_ => hk.2 e_⟩)
  case aB => exact HB.out
  case aS => exact HB.out.size
  case aL => have := HZ.out.1; omega
  intro v2 w8 ho hb hg hat
  have O3 := Aside0.mk ho
  replace HB := Aside0.mk hb
  clear ho hb hg hat O2 OF
  go_wp2_with (first | (go_at_call 53; refine hold ?_))
  unfold Hold
  refine (sortF_walk (fun _ => True) v2 (l1 ++ [(⟨a2_0, l2_1⟩ : S37)]) w _ HB.out O3.out (by simp) (by have := HZ.out.1; simp; omega) HZ.out.2).mono ?_
  rintro e w9 ⟨rfl, ys, hp, hs, ho, hb⟩
  have EY : Aside0 (ys = mPutF ⟨a2_0, l2_1⟩ l1) := ⟨by rw [← HS2.out]; exact (mFLess_tot.sort hp hs).symm⟩
  have O4 := Aside0.mk ho
  replace HB := Aside0.mk hb
  clear ho hb hp hs O3
  go_wp2
  go_ret2
  exact ⟨_, by rw [EN.out.2]; rfl, by rw [EN.out.1, ← EY.out]; exact O4.out, HB.out⟩

/-- What marking a list leaves, and the next mark. -/
def mkF : List S37 → Int → List S37 × Int
  | [], m => ([], m)
  | x :: xs, m => (⟨m, mMarks (m + 1) x.f1.length⟩ :: (mkF xs (m + 1 + (x.f1.length : Int))).1, (mkF xs (m + 1 + (x.f1.length : Int))).2)
def szF : List S37 → Nat
  | [] => 0
  | x :: xs => x.f1.length + 1 + szF xs
theorem mkF_len : ∀ (l : List S37) (m : Int), (mkF l m).1.length = l.length
  | [], _ => rfl
  | x :: xs, m => by simp [mkF, mkF_len xs]
theorem mkF_end : ∀ (l : List S37) (m : Int), (mkF l m).2 = m + (szF l : Int)
  | [], m => by simp [mkF, szF]
  | x :: xs, m => by simp [mkF, szF, mkF_end xs]; omega
/-- Where the i-th round stands. -/
structure AtF (l xs : List S37) (m q : Int) (i : Nat) : Prop where
  len : xs.length = l.length
  le : i ≤ l.length
  lo : 0 ≤ q
  hi : q + (szF (xs.drop i) : Int) ≤ 4611686018427387904
  fst : xs.take i ++ (mkF (xs.drop i) q).1 = (mkF l m).1
  snd : (mkF (xs.drop i) q).2 = (mkF l m).2
theorem AtF.start {l : List S37} {m : Int} (h0 : 0 ≤ m) (h1 : m + (szF l : Int) ≤ 4611686018427387904) : AtF l l m m 0 := ⟨rfl, Nat.zero_le _, h0, by simpa using h1, by simp, by simp⟩
theorem AtF.drop {l xs : List S37} {m q : Int} {i : Nat} (h : AtF l xs m q i) (hi : i < l.length) : xs.drop i = xs.getD i z37 :: xs.drop (i + 1) := by
  have hx : i < xs.length := by rw [h.len]; exact hi
  rw [List.drop_eq_getElem_cons hx, List.getD_eq_getElem?_getD, List.getElem?_eq_getElem hx]; rfl
theorem AtF.more {l xs : List S37} {m q : Int} {i : Nat} (h : AtF l xs m q i) (hi : i < l.length) : q + 1 + ((xs.getD i z37).f1.length : Int) ≤ 4611686018427387904 := by
  have := h.hi; rw [h.drop hi] at this; simp only [szF] at this; omega
theorem AtF.step {l xs : List S37} {m q : Int} {i : Nat} (h : AtF l xs m q i) (hi : i < l.length) :
    AtF l ((xs.set i ⟨q, (xs.getD i z37).f1⟩).set i ⟨q, mMarks (q + 1) (xs.getD i z37).f1.length⟩) m (q + 1 + ((xs.getD i z37).f1.length : Int)) (i + 1) := by
  have hx : i < xs.length := by rw [h.len]; exact hi
  have hd : (((xs.set i ⟨q, (xs.getD i z37).f1⟩).set i ⟨q, mMarks (q + 1) (xs.getD i z37).f1.length⟩)).drop (i + 1) = xs.drop (i + 1) := by
    rw [List.drop_set_of_lt (by omega), List.drop_set_of_lt (by omega)]
  have hb := h.hi
  have hf := h.fst
  have hs := h.snd
  rw [h.drop hi] at hb hf hs
  simp only [szF, mkF] at hb hf hs
  refine ⟨by simp [h.len], by omega, by have := h.lo; omega, by rw [hd]; omega, ?_, by rw [hd]; exact hs⟩
  rw [hd, ← hf]
  rw [List.take_succ_eq_append_getElem (by simpa using hx), List.take_set_of_le (Nat.le_refl _), List.take_set_of_le (Nat.le_refl _)]
  simp
theorem AtF.done {l xs : List S37} {m q : Int} {i : Nat} (h : AtF l xs m q i) (hi : ¬ i < l.length) : xs = (mkF l m).1 ∧ q = (mkF l m).2 := by
  have he : xs.drop i = [] := List.drop_eq_nil_of_le (by rw [h.len]; omega)
  have hf := h.fst
  have hs := h.snd
  rw [he] at hf hs
  simp only [mkF, List.append_nil] at hf hs
  rw [List.take_of_length_le (by rw [h.len]; omega)] at hf
  exact ⟨hf, hs⟩
set_option maxHeartbeats 8000000 in
set_option maxRecDepth 100000 in
theorem markFactS_walk (P : Nat → Prop) (u : Value) (l : List S37) (m : Int) (w0 w : World) (hB : Below w0.heap.size w0 w) (ho : Kd.S k37 37 w w0.heap.size P u l) (h0 : 0 ≤ m) (h1 : m + (szF l : Int) ≤ 4611686018427387904) (hl : l.length ≤ 17592186044416) (hla : ∀ x ∈ l, x.f1.length ≤ 17592186044416) :
    Calls Try.prog 19 #[u, .int .i64 m] w fun e w' => e = .returned (.int .i64 (mkF l m).2) ∧ Kd.S k37 37 w' w0.heap.size P u (mkF l m).1 ∧ Below w0.heap.size w0 w' ∧ Kept w w' P := by
  have hu37 := Try.underlying37
  obtain ⟨A, c, rfl⟩ := Kd.S_slice ho
  have HO := Aside0.mk ho
  have HB := Aside0.mk hB
  have HK := Aside0.mk (Kept.refl w P)
  have HI := Aside0.mk (AtF.start h0 h1)
  have HL := Aside0.mk hl
  have HF := Aside0.mk hla
  clear ho hB h0 h1 hl hla
  go_enter Try.func19, Try.ntmps19
  go_wp2
  go_loopg [1, 5] l.length (fun kq v1 v5 w' => ∃ (xs : List S37) (q x : Int), v1 = .int .i64 q ∧ v5 = .int .i64 x ∧ Aside0 (0 ≤ x ∧ kq + x.toNat = l.length) ∧ Aside0 (AtF l xs m q x.toNat) ∧ Aside0 (xs.length = l.length ∧ ∀ x ∈ xs, x.f1.length ≤ 17592186044416) ∧ Aside0 (Kd.S k37 37 w' w0.heap.size P (.slice A l.length c) xs) ∧ Aside0 (Kept w w' P) ∧ Aside0 (Below w0.heap.size w0 w'))
  case atStart => exact ⟨l, m, 0, rfl, rfl, ⟨⟨Int.le_refl _, rfl⟩⟩, HI, ⟨⟨rfl, HF.out⟩⟩, HO, HK, HB⟩
  case round =>
    clear HI HF HO HK HB
    obtain ⟨xs, q, x, rfl, rfl, HG, HI, HF, HO, HK, HB⟩ := hrel
    by_cases c6 : x < (l.length : Int)
    · have c6b0 : decide (x < (l.length : Int)) = true := decide_eq_true c6
      have p5 : 0 ≤ x := HG.out.1
      have hlt : x.toNat < l.length := by omega
      have HT := Aside0.mk hlt
      have hxl := HF.out.1
      have hb0 := HI.out.more hlt
      have hb1 := HI.out.lo
      have hfl : (xs.getD x.toNat z37).f1.length ≤ 17592186044416 := by
        rw [List.getD_eq_getElem?_getD, List.getElem?_eq_getElem (by omega)]
        exact HF.out.2 _ (List.getElem_mem _)
      obtain ⟨km, hkm⟩ := (markIntS_ev (xs.getD x.toNat z37).f1 (q + 1) (by omega) (by omega) hfl).rounds
      have HM := Aside0.mk hkm
      have e1 : wrap64 (q + 1) = q + 1 := by unfold wrap64; omega
      have e2 : wrap64 (x + 1) = x + 1 := by have := HL.out; unfold wrap64; omega
      have E1 := Aside0.mk e1
      have E2 := Aside0.mk e2
      obtain ⟨go, co, eo, gb, gl, cl, hgo⟩ := Kd.S_form HO.out (by omega)
      injection eo with ea en ec
      subst ea; subst ec
      clear en
      obtain ⟨oki, ce, hcl, hM, hcc, hfr, hoki, hH⟩ := Kd.S_elem HO.out z37 x p5 c6
      obtain ⟨ve, rfl, ge⟩ := k37_openM hM
      have hx0 : wr.cell? ⟨go, x.toNat * 2, none⟩ = some (.int .i64 (xs.getD x.toNat z37).f0) := hcc 0 _ rfl
      have hf0 : wr.frozen? ⟨go, x.toNat * 2, none⟩ = false := hfr 0
      have HH := Aside0.mk hH
      have GE := Aside0.mk ge
      have PG := Aside0.mk (show P go from (Kd.S_R HO.out).1 go rfl)
      have HW := Aside0.mk (fun k hk => (hoki k hk).1)
      clear hcl hM hcc hfr hoki hH ge e1 e2 hkm hgo gb gl cl hb0 hb1 hfl hxl hlt HO
      go_wp2_with (first | ((with_reducible refine gate_store (t := 3) (p := 16) rfl ?_); refine hold ?_))
      unfold Hold
      refine Kd.H_store k37 w0.heap.size rfl rfl 3 _ _ rfl 37 x 0 xs (⟨q, (xs.getD x.toNat z37).f1⟩ : S37) (.int .i64 q) [.int .i64 q] _ P oki oki rfl rfl rfl rfl rfl (by simp [Value.oneCell']) HH.out p5 c6 (show 1 ≤ 2 from by decide) (k37_mkM _ _ _ (⟨q, (xs.getD x.toNat z37).f1⟩ : S37) GE.out) (fun _ h_ => h_) HB.out ?_
      intro w1 hs hb hg
      have HB1 := Aside0.mk hb
      have HK1 := Aside0.mk (Kept.of_grown hg HK.out (fun k he => .inl (by injection he with he; subst he; exact PG.out)))
      have hlt := HT.out
      have hg0 : (xs.set x.toNat (⟨q, (xs.getD x.toNat z37).f1⟩ : S37)).getD x.toNat z37 = ⟨q, (xs.getD x.toNat z37).f1⟩ := by
        rw [List.getD_eq_getElem?_getD, List.getElem?_set_self (by rw [HF.out.1]; exact hlt)]; rfl
      obtain ⟨okj, cj, hclj, hMj, hccj, hokj, hHj⟩ := Kd.S_lend hs z37 x p5 c6
      rw [hg0] at hMj
      obtain ⟨vj, rfl, gj⟩ := k37_openM hMj
      have hx1 : w1.cell? ⟨go, x.toNat * 2 + 1, none⟩ = some vj := hccj 1 _ rfl
      have GJ := Aside0.mk (show Kd.R (Kd.int .i64) 3 w1 w0.heap.size okj vj (xs.getD x.toNat z37).f1 from gj)
      have HHJ := Aside0.mk hHj
      have HWJ := Aside0.mk (fun k hk => (hokj k hk).1)
      clear HB HK hs hb hg HH GE HW hclj hMj hccj hokj hHj gj hlt hx0 hf0 hg0
      go_wp2_with (first | (go_at_call 55; refine hold ?_))
      unfold Hold
      refine (laws_markIntS.calls km (fun k => some k = vj.ownBlock) vj (xs.getD x.toNat z37).f1 _ _ _ w0 _ HB1.out (Kd.R_tight rfl GJ.out) (by rw [E1.out]; exact HM.out)).mono ?_
      rintro e w2 ⟨rfl, hr, hb2, hk2⟩
      have HB2 := Aside0.mk hb2
      have HK2 := Aside0.mk (HK1.out.then_ hk2 (fun k hk => .inl (HWJ.out k (GJ.out.1 k hk.symm))))
      have hM2 := k37_mkM w2 w0.heap.size okj (⟨q, mMarks (q + 1) (xs.getD x.toNat z37).f1.length⟩ : S37) (Kd.R_mono (Kd.R_tight rfl hr) (fun k hk => GJ.out.1 k hk.symm))
      have hs2 := Kd.H_back (Kd.H_kept HHJ.out hk2 (fun k hk hn h2 => hn (GJ.out.1 k h2.symm))) hM2 (fun _ hk => hk)
      have HO2 := Aside0.mk hs2
      have HI2 := Aside0.mk (HI.out.step HT.out)
      have HF2 : Aside0 (((xs.set x.toNat (⟨q, (xs.getD x.toNat z37).f1⟩ : S37)).set x.toNat ⟨q, mMarks (q + 1) (xs.getD x.toNat z37).f1.length⟩).length = l.length ∧ ∀ y ∈ ((xs.set x.toNat (⟨q, (xs.getD x.toNat z37).f1⟩ : S37)).set x.toNat ⟨q, mMarks (q + 1) (xs.getD x.toNat z37).f1.length⟩), y.f1.length ≤ 17592186044416) := by
        have hlt := HT.out
        have hfl : (xs.getD x.toNat z37).f1.length ≤ 17592186044416 := by
          rw [List.getD_eq_getElem?_getD, List.getElem?_eq_getElem (by rw [HF.out.1]; exact hlt)]
          exact HF.out.2 _ (List.getElem_mem _)
        refine ⟨⟨by simp [HF.out.1], fun y hy => ?_⟩⟩
        rcases List.mem_or_eq_of_mem_set hy with h | h
        · rcases List.mem_or_eq_of_mem_set h with h | h
          · exact HF.out.2 y h
          · rw [h]; exact hfl
        · rw [h]; show (mMarks _ _).length ≤ _; rw [mMarks_length]; exact hfl
      clear HB1 HK1 HHJ GJ hr hb2 hk2 hM2 hs2 hx1 HWJ
      go_wp2
      go_roundg (gk - 1)
      case measure => have := HG.out; have := HT.out; omega
      case rel => exact ⟨_, _, (wrap64 (x + 1)), rfl, rfl, ⟨by have := HG.out; have := HT.out; rw [E2.out]; omega⟩, ⟨by rw [E2.out, show (x + 1).toNat = x.toNat + 1 by have := HG.out; omega]; exact HI2.out⟩, HF2, HO2, HK2, HB2⟩
    · have c6b0 : decide (x < (l.length : Int)) = false := decide_eq_false c6
      have hd := HI.out.done (by omega)
      have HD := Aside0.mk hd
      clear hd c6
      go_wp2
      go_ret
      exact ⟨by rw [← HD.out.2]; rfl, by rw [← HD.out.1]; exact HO.out, HB.out, HK.out⟩
theorem markFactS_calls (P0_ : Nat → Prop) (u9000_ : Value) (l0 : List S37) (a1 : Int) (r1 : Int) (r2 : List S37) (w0 w : World) (hB : Below w0.heap.size w0 w) (ho0 : Kd.S k37 37 w w0.heap.size P0_ u9000_ l0) (hz0 : (0 ≤ a1 ∧ a1 + (szF l0 : Int) ≤ 4611686018427387904) ∧ l0.length ≤ 17592186044416 ∧ ∀ x ∈ l0, x.f1.length ≤ 17592186044416) (h : mkF l0 a1 = (r2, r1)) :
    Calls Try.prog 19 #[u9000_, .int .i64 a1] w fun e w' => e = .returned (.int .i64 r1) ∧ Kd.S k37 37 w' w0.heap.size (fun k_ => P0_ k_) u9000_ r2 ∧ Below w0.heap.size w0 w' ∧ Kept w w' (fun k_ => P0_ k_) := by
  have e := markFactS_walk P0_ u9000_ l0 a1 w0 w hB ho0 hz0.1.1 hz0.1.2 hz0.2.1 hz0.2.2
  rw [h] at e
  exact e

theorem szF_le {B : Nat} : ∀ (l : List S37), (∀ x ∈ l, x.f1.length ≤ B) → szF l ≤ l.length * (B + 1)
  | [], _ => by simp [szF]
  | x :: xs, h => by
    have h1 := szF_le xs (fun y hy => h y (List.mem_cons_of_mem _ hy))
    have h2 := h x List.mem_cons_self
    simp only [szF, List.length_cons, Nat.add_mul]
    omega
theorem szF_small (l : List S37) (hl : l.length ≤ 1048576) (hs : ∀ x ∈ l, x.f1.length ≤ 1048576) : szF l ≤ 1099512676352 := by
  have h := szF_le l hs
  have h2 : l.length * (1048576 + 1) ≤ 1048576 * (1048576 + 1) := Nat.mul_le_mul_right _ hl
  omega
/-- Facts may be marked from m on; the mark behind them. -/
theorem markF_ok (d : List S37) (m : Int) (hl : d.length ≤ 1048576) (hs : ∀ x ∈ d, x.f1.length ≤ 1048576) (h0 : 0 ≤ m) (h1 : m ≤ 4000000000000000) :
    ((0 ≤ m ∧ m + (szF d : Int) ≤ 4611686018427387904) ∧ d.length ≤ 17592186044416 ∧ ∀ x ∈ d, x.f1.length ≤ 17592186044416) ∧ m ≤ (mkF d m).2 ∧ (mkF d m).2 ≤ m + 1099512676352 := by
  have hz := szF_small d hl hs
  have he : (mkF d m).2 = m + (szF d : Int) := mkF_end d m
  exact ⟨⟨⟨h0, by omega⟩, by omega, fun x hx => by have := hs x hx; omega⟩, by rw [he]; omega, by rw [he]; omega⟩

theorem heldFactS_l0 : ∀ (l pre : List S37) (m : Int), 0 ≤ m → m + (szF l : Int) ≤ 4611686018427387904 → pre.length + l.length ≤ 17592186044416 → (∀ x ∈ l, x.f1.length ≤ 17592186044416) →
    Ev (fun k => laws_heldFactS.l0 k (pre ++ (mkF l m).1) m (pre.length : Int)) (mkF l m).2
  | [], pre, m, h0, h1, h, hs => by
    refine evn fun k => ?_
    simp only [laws_heldFactS.l0, mkF, List.append_nil]
    rw [if_neg (end_not _)]
  | x :: xs, pre, m, h0, h1, h, hs => by
    have hx := hs x List.mem_cons_self
    simp only [szF] at h1
    simp only [List.length_cons] at h
    have r := heldFactS_l0 xs (pre ++ [⟨m, mMarks (m + 1) x.f1.length⟩]) (m + 1 + (x.f1.length : Int)) (by omega) (by omega) (by simp; omega) (fun y hy => hs y (List.mem_cons_of_mem _ hy))
    simp only [mkF]
    have e1 : wrap64 (m + 1) = m + 1 := w64 (by omega) (by omega)
    have e2 : wrap64 ((pre.length : Int) + 1) = ((pre ++ [(⟨m, mMarks (m + 1) x.f1.length⟩ : S37)]).length : Int) := iw (by omega)
    have e3 : rd_T37 (pre ++ (⟨m, mMarks (m + 1) x.f1.length⟩ : S37) :: (mkF xs (m + 1 + (x.f1.length : Int))).1) (pre.length : Int) = ⟨m, mMarks (m + 1) x.f1.length⟩ := by simp [rd_T37]
    refine Ev.step (fun k => laws_heldFactS.l0.eq_2 ..) ?_
    simp only [if_pos (mid_lt _ _ _), if_pos (len_nonneg _), e3, if_true, e1, e2]
    refine evb (heldIntS_ev (m + 1) x.f1.length (by omega) (by omega) hx) ?_
    have hn : ¬ (m + 1 + (x.f1.length : Int) < 0) := by omega
    simp only [if_neg hn]
    rw [app1]
    exact r
theorem heldFactS_ev (l : List S37) (m : Int) (hl : l.length ≤ 1048576) (hs : ∀ x ∈ l, x.f1.length ≤ 1048576) (h0 : 0 ≤ m) (h1 : m ≤ 4000000000000000) : Ev (fun k => laws_heldFactS.f k (mkF l m).1 m) (mkF l m).2 := by
  have h := markF_ok l m hl hs h0 h1
  exact heldFactS_l0 l [] m h0 h.1.1.2 (by simp; omega) h.1.2.2

theorem markSchema_ev (l : List Int) (m : Int) (h0 : 0 ≤ m) (h1 : m ≤ 4611686018427387904) (h : l.length ≤ 17592186044416) : Ev (fun k => laws_markSchema.f k l m) (m + (l.length : Int), mMarks m l.length) := by
  unfold laws_markSchema.f
  exact evb (markIntS_ev l m h0 h1 h) (evc fun k => rfl)

theorem markFact_ev (r : Int) (l : List Int) (m : Int) (h0 : 0 ≤ m) (h1 : m ≤ 4611686018427387904) (h : l.length ≤ 17592186044416) : Ev (fun k => laws_markFact.f k r l m) (m + (l.length : Int), mMarks m l.length) := by
  unfold laws_markFact.f
  exact evb (markIntS_ev l m h0 h1 h) (evc fun k => rfl)

set_option maxHeartbeats 8000000 in
set_option maxRecDepth 100000 in
theorem laws_FnExactAddFact_out0 (A0_0 : Option Addr) (c0_0 : Nat) (l0_0 : List Int) (A1 : Option Addr) (c1 : Nat) (l1 : List S27) (a2_0 : Int) (A2_1 : Option Addr) (c2_1 : Nat) (l2_1 : List Int) (w : World) (hr0_0 : Kd.C (Kd.int .i64) w A0_0 l0_0.length l0_0) (hc0_0 : l0_0.length ≤ c0_0) (hr1 : Kd.C k27 w A1 l1.length l1) (hc1 : l1.length ≤ c1) (hr2_1 : Kd.C (Kd.int .i64) w A2_1 l2_1.length l2_1) (hc2_1 : l2_1.length ≤ c2_1) (r0_0 : Int)
    (e0 : laws_szSchema.f l0_0 1048576 = some r0_0)
 (ct0 : r0_0 < 0) :
    Calls Try.prog 3 #[.agg #[.slice A0_0 l0_0.length c0_0], .slice A1 l1.length c1, .agg #[.int .i64 a2_0, .slice A2_1 l2_1.length c2_1]] w fun e w' => e = .returned (.bool true) ∧ Below w.heap.size w w' := by
  have H0_0 := Aside0.mk hr0_0
  have HC0_0 := Aside0.mk hc0_0
  clear hr0_0 hc0_0
  have H1 := Aside0.mk hr1
  have HC1 := Aside0.mk hc1
  clear hr1 hc1
  have H2_1 := Aside0.mk hr2_1
  have HC2_1 := Aside0.mk hc2_1
  clear hr2_1 hc2_1
  have Ee0 := Aside0.mk e0; clear e0
  have ct0b := decide_eq_true (show r0_0 < 0 from ct0)
  clear ct0
  have HB := Aside0.mk (Below.refl w.heap.size w)
  have hu24 := Try.underlying24
  have hu27 := Try.underlying27
  go_enter Try.func3, Try.ntmps3
  go_wp2_with (first | ((with_reducible refine gate_dst (N := 3) rfl ?_); refine hold ?_))
  unfold Hold
  refine box_event ?hg (N := 3) ?hd (cs := #[.slice A0_0 l0_0.length c0_0]) (t := 24) ?hr ?_
  case hd => rfl
  case hg => rfl
  case hr => first | (go_simp; done) | (go_simp; rfl)
  intro g1 hg w1_ hbox hb
  have Bg1 := Aside0.mk hbox
  have Gg1 := Aside0.mk (show w.heap.size ≤ g1 ∧ g1 < w1_.heap.size from ⟨by rw [hg]; exact Nat.le_refl _, blk_lt hbox⟩)
  clear hbox hg
  have Z1_ := Aside0.mk (show w.heap.size ≤ w1_.heap.size from hb.size)
  have n_ := Aside0.mk (below_step HB.out hb); clear HB; have HB := n_; clear n_
  have hxg1_0 : w1_.cell? ⟨g1, 0, none⟩ = some (.slice A0_0 l0_0.length c0_0) := (blk_cell Bg1.out 0).trans rfl
  have hfg1_0 := blk_frozen Bg1.out 0
  clear hb
  go_wp2_with (first | ((with_reducible refine gate_dst (N := 5) rfl ?_); refine hold ?_))
  unfold Hold
  refine box_event ?hg (N := 5) ?hd (cs := #[.int .i64 a2_0, .slice A2_1 l2_1.length c2_1]) (t := 27) ?hr ?_
  case hd => rfl
  case hg => rfl
  case hr => first | (go_simp; done) | (go_simp; rfl)
  intro g2 hg w2_ hbox hb
  have Bg2 := Aside0.mk hbox
  have Gg2 := Aside0.mk (show w1_.heap.size ≤ g2 ∧ g2 < w2_.heap.size from ⟨by rw [hg]; exact Nat.le_refl _, blk_lt hbox⟩)
  clear hbox hg
  have Z2_ := Aside0.mk (show w1_.heap.size ≤ w2_.heap.size from hb.size)
  have n_ := Aside0.mk (blk_below Bg1.out hb); clear Bg1; have Bg1 := n_; clear n_
  have n_ := Aside0.mk (below_step HB.out hb); clear HB; have HB := n_; clear n_
  clear hxg1_0
  clear hfg1_0
  have hxg1_0 : w2_.cell? ⟨g1, 0, none⟩ = some (.slice A0_0 l0_0.length c0_0) := (blk_cell Bg1.out 0).trans rfl
  have hfg1_0 := blk_frozen Bg1.out 0
  have hxg2_0 : w2_.cell? ⟨g2, 0, none⟩ = some (.int .i64 a2_0) := (blk_cell Bg2.out 0).trans rfl
  have hxg2_1 : w2_.cell? ⟨g2, 1, none⟩ = some (.slice A2_1 l2_1.length c2_1) := (blk_cell Bg2.out 1).trans rfl
  have hfg2_0 := blk_frozen Bg2.out 0
  have hfg2_1 := blk_frozen Bg2.out 1
  clear hb
  go_wp2_with (first | (go_at_call 7; refine hold ?_))
  unfold Hold
  refine (laws_szSchema.calls _ _ l0_0 1048576 r0_0 _ (Kd.C_below H0_0.out HB.out) HC0_0.out Ee0.out).mono ?_
  rintro e w3_ ⟨rfl, hb⟩
  have Z3_ := Aside0.mk (show w2_.heap.size ≤ w3_.heap.size from hb.size)
  have n_ := Aside0.mk (blk_below Bg1.out hb); clear Bg1; have Bg1 := n_; clear n_
  have n_ := Aside0.mk (blk_below Bg2.out hb); clear Bg2; have Bg2 := n_; clear n_
  have n_ := Aside0.mk (below_step HB.out hb); clear HB; have HB := n_; clear n_
  clear hxg1_0
  clear hfg1_0
  clear hxg2_0
  clear hxg2_1
  clear hfg2_0
  clear hfg2_1
  have hxg1_0 : w3_.cell? ⟨g1, 0, none⟩ = some (.slice A0_0 l0_0.length c0_0) := (blk_cell Bg1.out 0).trans rfl
  have hfg1_0 := blk_frozen Bg1.out 0
  have hxg2_0 : w3_.cell? ⟨g2, 0, none⟩ = some (.int .i64 a2_0) := (blk_cell Bg2.out 0).trans rfl
  have hxg2_1 : w3_.cell? ⟨g2, 1, none⟩ = some (.slice A2_1 l2_1.length c2_1) := (blk_cell Bg2.out 1).trans rfl
  have hfg2_0 := blk_frozen Bg2.out 0
  have hfg2_1 := blk_frozen Bg2.out 1
  clear hb
  go_wp2
  go_ret
  exact ⟨rfl, HB.out⟩
set_option maxHeartbeats 8000000 in
set_option maxRecDepth 100000 in
theorem laws_FnExactAddFact_out1 (A0_0 : Option Addr) (c0_0 : Nat) (l0_0 : List Int) (A1 : Option Addr) (c1 : Nat) (l1 : List S27) (a2_0 : Int) (A2_1 : Option Addr) (c2_1 : Nat) (l2_1 : List Int) (w : World) (hr0_0 : Kd.C (Kd.int .i64) w A0_0 l0_0.length l0_0) (hc0_0 : l0_0.length ≤ c0_0) (hr1 : Kd.C k27 w A1 l1.length l1) (hc1 : l1.length ≤ c1) (hr2_1 : Kd.C (Kd.int .i64) w A2_1 l2_1.length l2_1) (hc2_1 : l2_1.length ≤ c2_1) (r0_0 : Int) (r2_0 : Int)
    (e0 : laws_szSchema.f l0_0 1048576 = some r0_0)
 (ct0 : ¬ r0_0 < 0)
 (e2 : ∃ k, laws_szFactS.f k l1 r0_0 = some r2_0)
 (ct1 : r2_0 < 0) :
    Calls Try.prog 3 #[.agg #[.slice A0_0 l0_0.length c0_0], .slice A1 l1.length c1, .agg #[.int .i64 a2_0, .slice A2_1 l2_1.length c2_1]] w fun e w' => e = .returned (.bool true) ∧ Below w.heap.size w w' := by
  have H0_0 := Aside0.mk hr0_0
  have HC0_0 := Aside0.mk hc0_0
  clear hr0_0 hc0_0
  have H1 := Aside0.mk hr1
  have HC1 := Aside0.mk hc1
  clear hr1 hc1
  have H2_1 := Aside0.mk hr2_1
  have HC2_1 := Aside0.mk hc2_1
  clear hr2_1 hc2_1
  have Ee0 := Aside0.mk e0; clear e0
  have ct0b := decide_eq_false (show ¬ r0_0 < 0 from ct0)
  clear ct0
  obtain ⟨ke2, q_⟩ := e2; have Ee2 := Aside0.mk q_; clear q_
  have ct1b := decide_eq_true (show r2_0 < 0 from ct1)
  clear ct1
  have HB := Aside0.mk (Below.refl w.heap.size w)
  have hu24 := Try.underlying24
  have hu27 := Try.underlying27
  go_enter Try.func3, Try.ntmps3
  go_wp2_with (first | ((with_reducible refine gate_dst (N := 3) rfl ?_); refine hold ?_))
  unfold Hold
  refine box_event ?hg (N := 3) ?hd (cs := #[.slice A0_0 l0_0.length c0_0]) (t := 24) ?hr ?_
  case hd => rfl
  case hg => rfl
  case hr => first | (go_simp; done) | (go_simp; rfl)
  intro g1 hg w1_ hbox hb
  have Bg1 := Aside0.mk hbox
  have Gg1 := Aside0.mk (show w.heap.size ≤ g1 ∧ g1 < w1_.heap.size from ⟨by rw [hg]; exact Nat.le_refl _, blk_lt hbox⟩)
  clear hbox hg
  have Z1_ := Aside0.mk (show w.heap.size ≤ w1_.heap.size from hb.size)
  have n_ := Aside0.mk (below_step HB.out hb); clear HB; have HB := n_; clear n_
  have hxg1_0 : w1_.cell? ⟨g1, 0, none⟩ = some (.slice A0_0 l0_0.length c0_0) := (blk_cell Bg1.out 0).trans rfl
  have hfg1_0 := blk_frozen Bg1.out 0
  clear hb
  go_wp2_with (first | ((with_reducible refine gate_dst (N := 5) rfl ?_); refine hold ?_))
  unfold Hold
  refine box_event ?hg (N := 5) ?hd (cs := #[.int .i64 a2_0, .slice A2_1 l2_1.length c2_1]) (t := 27) ?hr ?_
  case hd => rfl
  case hg => rfl
  case hr => first | (go_simp; done) | (go_simp; rfl)
  intro g2 hg w2_ hbox hb
  have Bg2 := Aside0.mk hbox
  have Gg2 := Aside0.mk (show w1_.heap.size ≤ g2 ∧ g2 < w2_.heap.size from ⟨by rw [hg]; exact Nat.le_refl _, blk_lt hbox⟩)
  clear hbox hg
  have Z2_ := Aside0.mk (show w1_.heap.size ≤ w2_.heap.size from hb.size)
  have n_ := Aside0.mk (blk_below Bg1.out hb); clear Bg1; have Bg1 := n_; clear n_
  have n_ := Aside0.mk (below_step HB.out hb); clear HB; have HB := n_; clear n_
  clear hxg1_0
  clear hfg1_0
  have hxg1_0 : w2_.cell? ⟨g1, 0, none⟩ = some (.slice A0_0 l0_0.length c0_0) := (blk_cell Bg1.out 0).trans rfl
  have hfg1_0 := blk_frozen Bg1.out 0
  have hxg2_0 : w2_.cell? ⟨g2, 0, none⟩ = some (.int .i64 a2_0) := (blk_cell Bg2.out 0).trans rfl
  have hxg2_1 : w2_.cell? ⟨g2, 1, none⟩ = some (.slice A2_1 l2_1.length c2_1) := (blk_cell Bg2.out 1).trans rfl
  have hfg2_0 := blk_frozen Bg2.out 0
  have hfg2_1 := blk_frozen Bg2.out 1
  clear hb
  go_wp2_with (first | (go_at_call 7; refine hold ?_))
  unfold Hold
  refine (laws_szSchema.calls _ _ l0_0 1048576 r0_0 _ (Kd.C_below H0_0.out HB.out) HC0_0.out Ee0.out).mono ?_
  rintro e w3_ ⟨rfl, hb⟩
  have Z3_ := Aside0.mk (show w2_.heap.size ≤ w3_.heap.size from hb.size)
  have n_ := Aside0.mk (blk_below Bg1.out hb); clear Bg1; have Bg1 := n_; clear n_
  have n_ := Aside0.mk (blk_below Bg2.out hb); clear Bg2; have Bg2 := n_; clear n_
  have n_ := Aside0.mk (below_step HB.out hb); clear HB; have HB := n_; clear n_
  clear hxg1_0
  clear hfg1_0
  clear hxg2_0
  clear hxg2_1
  clear hfg2_0
  clear hfg2_1
  have hxg1_0 : w3_.cell? ⟨g1, 0, none⟩ = some (.slice A0_0 l0_0.length c0_0) := (blk_cell Bg1.out 0).trans rfl
  have hfg1_0 := blk_frozen Bg1.out 0
  have hxg2_0 : w3_.cell? ⟨g2, 0, none⟩ = some (.int .i64 a2_0) := (blk_cell Bg2.out 0).trans rfl
  have hxg2_1 : w3_.cell? ⟨g2, 1, none⟩ = some (.slice A2_1 l2_1.length c2_1) := (blk_cell Bg2.out 1).trans rfl
  have hfg2_0 := blk_frozen Bg2.out 0
  have hfg2_1 := blk_frozen Bg2.out 1
  clear hb
  go_wp2_with (first | (go_at_call 8; refine hold ?_))
  unfold Hold
  refine (laws_szFactS.calls ke2 _ _ l1 r0_0 r2_0 _ (Kd.C_below H1.out HB.out) HC1.out Ee2.out).mono ?_
  rintro e w4_ ⟨rfl, hb⟩
  have Z4_ := Aside0.mk (show w3_.heap.size ≤ w4_.heap.size from hb.size)
  have n_ := Aside0.mk (blk_below Bg1.out hb); clear Bg1; have Bg1 := n_; clear n_
  have n_ := Aside0.mk (blk_below Bg2.out hb); clear Bg2; have Bg2 := n_; clear n_
  have n_ := Aside0.mk (below_step HB.out hb); clear HB; have HB := n_; clear n_
  clear hxg1_0
  clear hfg1_0
  clear hxg2_0
  clear hxg2_1
  clear hfg2_0
  clear hfg2_1
  have hxg1_0 : w4_.cell? ⟨g1, 0, none⟩ = some (.slice A0_0 l0_0.length c0_0) := (blk_cell Bg1.out 0).trans rfl
  have hfg1_0 := blk_frozen Bg1.out 0
  have hxg2_0 : w4_.cell? ⟨g2, 0, none⟩ = some (.int .i64 a2_0) := (blk_cell Bg2.out 0).trans rfl
  have hxg2_1 : w4_.cell? ⟨g2, 1, none⟩ = some (.slice A2_1 l2_1.length c2_1) := (blk_cell Bg2.out 1).trans rfl
  have hfg2_0 := blk_frozen Bg2.out 0
  have hfg2_1 := blk_frozen Bg2.out 1
  clear hb
  go_wp2
  go_ret
  exact ⟨rfl, HB.out⟩
set_option maxHeartbeats 8000000 in
set_option maxRecDepth 100000 in
theorem laws_FnExactAddFact_out2 (A0_0 : Option Addr) (c0_0 : Nat) (l0_0 : List Int) (A1 : Option Addr) (c1 : Nat) (l1 : List S27) (a2_0 : Int) (A2_1 : Option Addr) (c2_1 : Nat) (l2_1 : List Int) (w : World) (hr0_0 : Kd.C (Kd.int .i64) w A0_0 l0_0.length l0_0) (hc0_0 : l0_0.length ≤ c0_0) (hr1 : Kd.C k27 w A1 l1.length l1) (hc1 : l1.length ≤ c1) (hr2_1 : Kd.C (Kd.int .i64) w A2_1 l2_1.length l2_1) (hc2_1 : l2_1.length ≤ c2_1) (r0_0 : Int) (r2_0 : Int) (r4_0 : Int)
    (e0 : laws_szSchema.f l0_0 1048576 = some r0_0)
 (ct0 : ¬ r0_0 < 0)
 (e2 : ∃ k, laws_szFactS.f k l1 r0_0 = some r2_0)
 (ct1 : ¬ r2_0 < 0)
 (e4 : laws_szFact.f a2_0 l2_1 r2_0 = some r4_0)
 (ct2 : r4_0 < 0) :
    Calls Try.prog 3 #[.agg #[.slice A0_0 l0_0.length c0_0], .slice A1 l1.length c1, .agg #[.int .i64 a2_0, .slice A2_1 l2_1.length c2_1]] w fun e w' => e = .returned (.bool true) ∧ Below w.heap.size w w' := by
  have H0_0 := Aside0.mk hr0_0
  have HC0_0 := Aside0.mk hc0_0
  clear hr0_0 hc0_0
  have H1 := Aside0.mk hr1
  have HC1 := Aside0.mk hc1
  clear hr1 hc1
  have H2_1 := Aside0.mk hr2_1
  have HC2_1 := Aside0.mk hc2_1
  clear hr2_1 hc2_1
  have Ee0 := Aside0.mk e0; clear e0
  have ct0b := decide_eq_false (show ¬ r0_0 < 0 from ct0)
  clear ct0
  obtain ⟨ke2, q_⟩ := e2; have Ee2 := Aside0.mk q_; clear q_
  have ct1b := decide_eq_false (show ¬ r2_0 < 0 from ct1)
  clear ct1
  have Ee4 := Aside0.mk e4; clear e4
  have ct2b := decide_eq_true (show r4_0 < 0 from ct2)
  clear ct2
  have HB := Aside0.mk (Below.refl w.heap.size w)
  have hu24 := Try.underlying24
  have hu27 := Try.underlying27
  go_enter Try.func3, Try.ntmps3
  go_wp2_with (first | ((with_reducible refine gate_dst (N := 3) rfl ?_); refine hold ?_))
  unfold Hold
  refine box_event ?hg (N := 3) ?hd (cs := #[.slice A0_0 l0_0.length c0_0]) (t := 24) ?hr ?_
  case hd => rfl
  case hg => rfl
  case hr => first | (go_simp; done) | (go_simp; rfl)
  intro g1 hg w1_ hbox hb
  have Bg1 := Aside0.mk hbox
  have Gg1 := Aside0.mk (show w.heap.size ≤ g1 ∧ g1 < w1_.heap.size from ⟨by rw [hg]; exact Nat.le_refl _, blk_lt hbox⟩)
  clear hbox hg
  have Z1_ := Aside0.mk (show w.heap.size ≤ w1_.heap.size from hb.size)
  have n_ := Aside0.mk (below_step HB.out hb); clear HB; have HB := n_; clear n_
  have hxg1_0 : w1_.cell? ⟨g1, 0, none⟩ = some (.slice A0_0 l0_0.length c0_0) := (blk_cell Bg1.out 0).trans rfl
  have hfg1_0 := blk_frozen Bg1.out 0
  clear hb
  go_wp2_with (first | ((with_reducible refine gate_dst (N := 5) rfl ?_); refine hold ?_))
  unfold Hold
  refine box_event ?hg (N := 5) ?hd (cs := #[.int .i64 a2_0, .slice A2_1 l2_1.length c2_1]) (t := 27) ?hr ?_
  case hd => rfl
  case hg => rfl
  case hr => first | (go_simp; done) | (go_simp; rfl)
  intro g2 hg w2_ hbox hb
  have Bg2 := Aside0.mk hbox
  have Gg2 := Aside0.mk (show w1_.heap.size ≤ g2 ∧ g2 < w2_.heap.size from ⟨by rw [hg]; exact Nat.le_refl _, blk_lt hbox⟩)
  clear hbox hg
  have Z2_ := Aside0.mk (show w1_.heap.size ≤ w2_.heap.size from hb.size)
  have n_ := Aside0.mk (blk_below Bg1.out hb); clear Bg1; have Bg1 := n_; clear n_
  have n_ := Aside0.mk (below_step HB.out hb); clear HB; have HB := n_; clear n_
  clear hxg1_0
  clear hfg1_0
  have hxg1_0 : w2_.cell? ⟨g1, 0, none⟩ = some (.slice A0_0 l0_0.length c0_0) := (blk_cell Bg1.out 0).trans rfl
  have hfg1_0 := blk_frozen Bg1.out 0
  have hxg2_0 : w2_.cell? ⟨g2, 0, none⟩ = some (.int .i64 a2_0) := (blk_cell Bg2.out 0).trans rfl
  have hxg2_1 : w2_.cell? ⟨g2, 1, none⟩ = some (.slice A2_1 l2_1.length c2_1) := (blk_cell Bg2.out 1).trans rfl
  have hfg2_0 := blk_frozen Bg2.out 0
  have hfg2_1 := blk_frozen Bg2.out 1
  clear hb
  go_wp2_with (first | (go_at_call 7; refine hold ?_))
  unfold Hold
  refine (laws_szSchema.calls _ _ l0_0 1048576 r0_0 _ (Kd.C_below H0_0.out HB.out) HC0_0.out Ee0.out).mono ?_
  rintro e w3_ ⟨rfl, hb⟩
  have Z3_ := Aside0.mk (show w2_.heap.size ≤ w3_.heap.size from hb.size)
  have n_ := Aside0.mk (blk_below Bg1.out hb); clear Bg1; have Bg1 := n_; clear n_
  have n_ := Aside0.mk (blk_below Bg2.out hb); clear Bg2; have Bg2 := n_; clear n_
  have n_ := Aside0.mk (below_step HB.out hb); clear HB; have HB := n_; clear n_
  clear hxg1_0
  clear hfg1_0
  clear hxg2_0
  clear hxg2_1
  clear hfg2_0
  clear hfg2_1
  have hxg1_0 : w3_.cell? ⟨g1, 0, none⟩ = some (.slice A0_0 l0_0.length c0_0) := (blk_cell Bg1.out 0).trans rfl
  have hfg1_0 := blk_frozen Bg1.out 0
  have hxg2_0 : w3_.cell? ⟨g2, 0, none⟩ = some (.int .i64 a2_0) := (blk_cell Bg2.out 0).trans rfl
  have hxg2_1 : w3_.cell? ⟨g2, 1, none⟩ = some (.slice A2_1 l2_1.length c2_1) := (blk_cell Bg2.out 1).trans rfl
  have hfg2_0 := blk_frozen Bg2.out 0
  have hfg2_1 := blk_frozen Bg2.out 1
  clear hb
  go_wp2_with (first | (go_at_call 8; refine hold ?_))
  unfold Hold
  refine (laws_szFactS.calls ke2 _ _ l1 r0_0 r2_0 _ (Kd.C_below H1.out HB.out) HC1.out Ee2.out).mono ?_
  rintro e w4_ ⟨rfl, hb⟩
  have Z4_ := Aside0.mk (show w3_.heap.size ≤ w4_.heap.size from hb.size)
  have n_ := Aside0.mk (blk_below Bg1.out hb); clear Bg1; have Bg1 := n_; clear n_
  have n_ := Aside0.mk (blk_below Bg2.out hb); clear Bg2; have Bg2 := n_; clear n_
  have n_ := Aside0.mk (below_step HB.out hb); clear HB; have HB := n_; clear n_
  clear hxg1_0
  clear hfg1_0
  clear hxg2_0
  clear hxg2_1
  clear hfg2_0
  clear hfg2_1
  have hxg1_0 : w4_.cell? ⟨g1, 0, none⟩ = some (.slice A0_0 l0_0.length c0_0) := (blk_cell Bg1.out 0).trans rfl
  have hfg1_0 := blk_frozen Bg1.out 0
  have hxg2_0 : w4_.cell? ⟨g2, 0, none⟩ = some (.int .i64 a2_0) := (blk_cell Bg2.out 0).trans rfl
  have hxg2_1 : w4_.cell? ⟨g2, 1, none⟩ = some (.slice A2_1 l2_1.length c2_1) := (blk_cell Bg2.out 1).trans rfl
  have hfg2_0 := blk_frozen Bg2.out 0
  have hfg2_1 := blk_frozen Bg2.out 1
  clear hb
  go_wp2_with (first | (go_at_call 9; refine hold ?_))
  unfold Hold
  refine (laws_szFact.calls a2_0 _ _ l2_1 r2_0 r4_0 _ (Kd.C_below H2_1.out HB.out) HC2_1.out Ee4.out).mono ?_
  rintro e w5_ ⟨rfl, hb⟩
  have Z5_ := Aside0.mk (show w4_.heap.size ≤ w5_.heap.size from hb.size)
  have n_ := Aside0.mk (blk_below Bg1.out hb); clear Bg1; have Bg1 := n_; clear n_
  have n_ := Aside0.mk (blk_below Bg2.out hb); clear Bg2; have Bg2 := n_; clear n_
  have n_ := Aside0.mk (below_step HB.out hb); clear HB; have HB := n_; clear n_
  clear hxg1_0
  clear hfg1_0
  clear hxg2_0
  clear hxg2_1
  clear hfg2_0
  clear hfg2_1
  have hxg1_0 : w5_.cell? ⟨g1, 0, none⟩ = some (.slice A0_0 l0_0.length c0_0) := (blk_cell Bg1.out 0).trans rfl
  have hfg1_0 := blk_frozen Bg1.out 0
  have hxg2_0 : w5_.cell? ⟨g2, 0, none⟩ = some (.int .i64 a2_0) := (blk_cell Bg2.out 0).trans rfl
  have hxg2_1 : w5_.cell? ⟨g2, 1, none⟩ = some (.slice A2_1 l2_1.length c2_1) := (blk_cell Bg2.out 1).trans rfl
  have hfg2_0 := blk_frozen Bg2.out 0
  have hfg2_1 := blk_frozen Bg2.out 1
  clear hb
  go_wp2
  go_ret
  exact ⟨rfl, HB.out⟩
set_option maxHeartbeats 8000000 in
set_option maxRecDepth 100000 in
theorem laws_FnExactAddFact_walk (A0_0 : Option Addr) (c0_0 : Nat) (l0_0 : List Int) (A1 : Option Addr) (c1 : Nat) (l1 : List S27) (a2_0 : Int) (A2_1 : Option Addr) (c2_1 : Nat) (l2_1 : List Int) (w : World) (hr0_0 : Kd.C (Kd.int .i64) w A0_0 l0_0.length l0_0) (hc0_0 : l0_0.length ≤ c0_0) (hr1 : Kd.C k27 w A1 l1.length l1) (hc1 : l1.length ≤ c1) (hr2_1 : Kd.C (Kd.int .i64) w A2_1 l2_1.length l2_1) (hc2_1 : l2_1.length ≤ c2_1) (r0_0 : Int) (r2_0 : Int) (r4_0 : Int) (r6_0 : List Int) (r7_0 : List (S37)) (r8_0 : Int) (r8_1 : List Int) (r9_0 : List (S37)) (r9_1 : Bool) (r15_0 : Int) (r15_1 : List Int) (r16_0 : Int) (r16_1 : List S37) (r17_0 : Int) (r17_1 : List Int) (r19_0 : Int) (r19_1 : List S37)
    (e0 : laws_szSchema.f l0_0 1048576 = some r0_0)
 (ct0 : ¬ r0_0 < 0)
 (e2 : ∃ k, laws_szFactS.f k l1 r0_0 = some r2_0)
 (ct1 : ¬ r2_0 < 0)
 (e4 : laws_szFact.f a2_0 l2_1 r2_0 = some r4_0)
 (ct2 : ¬ r4_0 < 0)
 (e6 : ∃ k, laws_toSchema.f k l0_0 = some r6_0)
 (e7 : ∃ k, laws_toFactS.f k l1 = some r7_0)
 (e8 : ∃ k, laws_toFact.f k a2_0 l2_1 = some (r8_0, r8_1))
 (e9 : ∃ k, spec_AddFact.f k r6_0 r7_0 r8_0 r8_1 = some (r9_0, r9_1))
 (e10 : mAddF r6_0 r7_0 ⟨r8_0, r8_1⟩ = (r9_0, r9_1))
 (e10_hz0_ : r6_0.length ≤ 1048576 ∧ r7_0.length ≤ 1048576 ∧ (∀ x ∈ r7_0, x.f1.length ≤ 1048576) ∧ r8_1.length ≤ 1048576)
 (e11 : ∃ k, laws_eqFactS.f k r9_0 r9_0 = some true)
 (e12 : ∃ k, laws_eqSchema.f k r6_0 r6_0 = some true)
 (e13 : ∃ k, laws_eqFactS.f k r7_0 r7_0 = some true)
 (e14 : ∃ k, laws_eqFact.f k r8_0 r8_1 r8_0 r8_1 = some true)
 (e15 : ∃ k, laws_markSchema.f k r6_0 1 = some (r15_0, r15_1))
 (e16 : mkF r7_0 r15_0 = (r16_1, r16_0))
 (e16_hz0_ : (0 ≤ r15_0 ∧ r15_0 + (szF r7_0 : Int) ≤ 4611686018427387904) ∧ r7_0.length ≤ 17592186044416 ∧ ∀ x ∈ r7_0, x.f1.length ≤ 17592186044416)
 (e17 : ∃ k, laws_markFact.f k r8_0 r8_1 r16_0 = some (r17_0, r17_1))
 (ct3 : ¬ r17_0 < 0)
 (e19 : mkF r9_0 1 = (r19_1, r19_0))
 (e19_hz0_ : (0 ≤ (1 : Int) ∧ (1 : Int) + (szF r9_0 : Int) ≤ 4611686018427387904) ∧ r9_0.length ≤ 17592186044416 ∧ ∀ x ∈ r9_0, x.f1.length ≤ 17592186044416)
 (e20 : ∃ k, laws_heldFactS.f k r19_1 1 = some r19_0)
 (ct4 : ¬ r19_0 < 0) :
    Calls Try.prog 3 #[.agg #[.slice A0_0 l0_0.length c0_0], .slice A1 l1.length c1, .agg #[.int .i64 a2_0, .slice A2_1 l2_1.length c2_1]] w fun e w' => e = .returned (.bool true) ∧ Below w.heap.size w w' := by
  have H0_0 := Aside0.mk hr0_0
  have HC0_0 := Aside0.mk hc0_0
  clear hr0_0 hc0_0
  have H1 := Aside0.mk hr1
  have HC1 := Aside0.mk hc1
  clear hr1 hc1
  have H2_1 := Aside0.mk hr2_1
  have HC2_1 := Aside0.mk hc2_1
  clear hr2_1 hc2_1
  have Ee0 := Aside0.mk e0; clear e0
  have ct0b := decide_eq_false (show ¬ r0_0 < 0 from ct0)
  clear ct0
  obtain ⟨ke2, q_⟩ := e2; have Ee2 := Aside0.mk q_; clear q_
  have ct1b := decide_eq_false (show ¬ r2_0 < 0 from ct1)
  clear ct1
  have Ee4 := Aside0.mk e4; clear e4
  have ct2b := decide_eq_false (show ¬ r4_0 < 0 from ct2)
  clear ct2
  obtain ⟨ke6, q_⟩ := e6; have Ee6 := Aside0.mk q_; clear q_
  obtain ⟨ke7, q_⟩ := e7; have Ee7 := Aside0.mk q_; clear q_
  obtain ⟨ke8, q_⟩ := e8; have Ee8 := Aside0.mk q_; clear q_
  obtain ⟨ke9, q_⟩ := e9; have Ee9 := Aside0.mk q_; clear q_
  have e10_hz0 := Aside0.mk e10_hz0_; clear e10_hz0_
  have Ee10 := Aside0.mk e10; clear e10
  obtain ⟨ke11, q_⟩ := e11; have Ee11 := Aside0.mk q_; clear q_
  obtain ⟨ke12, q_⟩ := e12; have Ee12 := Aside0.mk q_; clear q_
  obtain ⟨ke13, q_⟩ := e13; have Ee13 := Aside0.mk q_; clear q_
  obtain ⟨ke14, q_⟩ := e14; have Ee14 := Aside0.mk q_; clear q_
  obtain ⟨ke15, q_⟩ := e15; have Ee15 := Aside0.mk q_; clear q_
  have e16_hz0 := Aside0.mk e16_hz0_; clear e16_hz0_
  have Ee16 := Aside0.mk e16; clear e16
  obtain ⟨ke17, q_⟩ := e17; have Ee17 := Aside0.mk q_; clear q_
  have ct3b := decide_eq_false (show ¬ r17_0 < 0 from ct3)
  clear ct3
  have e19_hz0 := Aside0.mk e19_hz0_; clear e19_hz0_
  have Ee19 := Aside0.mk e19; clear e19
  obtain ⟨ke20, q_⟩ := e20; have Ee20 := Aside0.mk q_; clear q_
  have ct4b := decide_eq_false (show ¬ r19_0 < 0 from ct4)
  clear ct4
  have HB := Aside0.mk (Below.refl w.heap.size w)
  have hu34 := Try.underlying34
  have hu37 := Try.underlying37
  have hu24 := Try.underlying24
  have hu27 := Try.underlying27
  go_enter Try.func3, Try.ntmps3
  go_wp2_with (first | ((with_reducible refine gate_dst (N := 3) rfl ?_); refine hold ?_))
  unfold Hold
  refine box_event ?hg (N := 3) ?hd (cs := #[.slice A0_0 l0_0.length c0_0]) (t := 24) ?hr ?_
  case hd => rfl
  case hg => rfl
  case hr => first | (go_simp; done) | (go_simp; rfl)
  intro g1 hg w1_ hbox hb
  have Bg1 := Aside0.mk hbox
  have Gg1 := Aside0.mk (show w.heap.size ≤ g1 ∧ g1 < w1_.heap.size from ⟨by rw [hg]; exact Nat.le_refl _, blk_lt hbox⟩)
  clear hbox hg
  have Z1_ := Aside0.mk (show w.heap.size ≤ w1_.heap.size from hb.size)
  have n_ := Aside0.mk (below_step HB.out hb); clear HB; have HB := n_; clear n_
  have hxg1_0 : w1_.cell? ⟨g1, 0, none⟩ = some (.slice A0_0 l0_0.length c0_0) := (blk_cell Bg1.out 0).trans rfl
  have hfg1_0 := blk_frozen Bg1.out 0
  clear hb
  go_wp2_with (first | ((with_reducible refine gate_dst (N := 5) rfl ?_); refine hold ?_))
  unfold Hold
  refine box_event ?hg (N := 5) ?hd (cs := #[.int .i64 a2_0, .slice A2_1 l2_1.length c2_1]) (t := 27) ?hr ?_
  case hd => rfl
  case hg => rfl
  case hr => first | (go_simp; done) | (go_simp; rfl)
  intro g2 hg w2_ hbox hb
  have Bg2 := Aside0.mk hbox
  have Gg2 := Aside0.mk (show w1_.heap.size ≤ g2 ∧ g2 < w2_.heap.size from ⟨by rw [hg]; exact Nat.le_refl _, blk_lt hbox⟩)
  clear hbox hg
  have Z2_ := Aside0.mk (show w1_.heap.size ≤ w2_.heap.size from hb.size)
  have n_ := Aside0.mk (blk_below Bg1.out hb); clear Bg1; have Bg1 := n_; clear n_
  have n_ := Aside0.mk (below_step HB.out hb); clear HB; have HB := n_; clear n_
  clear hxg1_0
  clear hfg1_0
  have hxg1_0 : w2_.cell? ⟨g1, 0, none⟩ = some (.slice A0_0 l0_0.length c0_0) := (blk_cell Bg1.out 0).trans rfl
  have hfg1_0 := blk_frozen Bg1.out 0
  have hxg2_0 : w2_.cell? ⟨g2, 0, none⟩ = some (.int .i64 a2_0) := (blk_cell Bg2.out 0).trans rfl
  have hxg2_1 : w2_.cell? ⟨g2, 1, none⟩ = some (.slice A2_1 l2_1.length c2_1) := (blk_cell Bg2.out 1).trans rfl
  have hfg2_0 := blk_frozen Bg2.out 0
  have hfg2_1 := blk_frozen Bg2.out 1
  clear hb
  go_wp2_with (first | (go_at_call 7; refine hold ?_))
  unfold Hold
  refine (laws_szSchema.calls _ _ l0_0 1048576 r0_0 _ (Kd.C_below H0_0.out HB.out) HC0_0.out Ee0.out).mono ?_
  rintro e w3_ ⟨rfl, hb⟩
  have Z3_ := Aside0.mk (show w2_.heap.size ≤ w3_.heap.size from hb.size)
  have n_ := Aside0.mk (blk_below Bg1.out hb); clear Bg1; have Bg1 := n_; clear n_
  have n_ := Aside0.mk (blk_below Bg2.out hb); clear Bg2; have Bg2 := n_; clear n_
  have n_ := Aside0.mk (below_step HB.out hb); clear HB; have HB := n_; clear n_
  clear hxg1_0
  clear hfg1_0
  clear hxg2_0
  clear hxg2_1
  clear hfg2_0
  clear hfg2_1
  have hxg1_0 : w3_.cell? ⟨g1, 0, none⟩ = some (.slice A0_0 l0_0.length c0_0) := (blk_cell Bg1.out 0).trans rfl
  have hfg1_0 := blk_frozen Bg1.out 0
  have hxg2_0 : w3_.cell? ⟨g2, 0, none⟩ = some (.int .i64 a2_0) := (blk_cell Bg2.out 0).trans rfl
  have hxg2_1 : w3_.cell? ⟨g2, 1, none⟩ = some (.slice A2_1 l2_1.length c2_1) := (blk_cell Bg2.out 1).trans rfl
  have hfg2_0 := blk_frozen Bg2.out 0
  have hfg2_1 := blk_frozen Bg2.out 1
  clear hb
  go_wp2_with (first | (go_at_call 8; refine hold ?_))
  unfold Hold
  refine (laws_szFactS.calls ke2 _ _ l1 r0_0 r2_0 _ (Kd.C_below H1.out HB.out) HC1.out Ee2.out).mono ?_
  rintro e w4_ ⟨rfl, hb⟩
  have Z4_ := Aside0.mk (show w3_.heap.size ≤ w4_.heap.size from hb.size)
  have n_ := Aside0.mk (blk_below Bg1.out hb); clear Bg1; have Bg1 := n_; clear n_
  have n_ := Aside0.mk (blk_below Bg2.out hb); clear Bg2; have Bg2 := n_; clear n_
  have n_ := Aside0.mk (below_step HB.out hb); clear HB; have HB := n_; clear n_
  clear hxg1_0
  clear hfg1_0
  clear hxg2_0
  clear hxg2_1
  clear hfg2_0
  clear hfg2_1
  have hxg1_0 : w4_.cell? ⟨g1, 0, none⟩ = some (.slice A0_0 l0_0.length c0_0) := (blk_cell Bg1.out 0).trans rfl
  have hfg1_0 := blk_frozen Bg1.out 0
  have hxg2_0 : w4_.cell? ⟨g2, 0, none⟩ = some (.int .i64 a2_0) := (blk_cell Bg2.out 0).trans rfl
  have hxg2_1 : w4_.cell? ⟨g2, 1, none⟩ = some (.slice A2_1 l2_1.length c2_1) := (blk_cell Bg2.out 1).trans rfl
  have hfg2_0 := blk_frozen Bg2.out 0
  have hfg2_1 := blk_frozen Bg2.out 1
  clear hb
  go_wp2_with (first | (go_at_call 9; refine hold ?_))
  unfold Hold
  refine (laws_szFact.calls a2_0 _ _ l2_1 r2_0 r4_0 _ (Kd.C_below H2_1.out HB.out) HC2_1.out Ee4.out).mono ?_
  rintro e w5_ ⟨rfl, hb⟩
  have Z5_ := Aside0.mk (show w4_.heap.size ≤ w5_.heap.size from hb.size)
  have n_ := Aside0.mk (blk_below Bg1.out hb); clear Bg1; have Bg1 := n_; clear n_
  have n_ := Aside0.mk (blk_below Bg2.out hb); clear Bg2; have Bg2 := n_; clear n_
  have n_ := Aside0.mk (below_step HB.out hb); clear HB; have HB := n_; clear n_
  clear hxg1_0
  clear hfg1_0
  clear hxg2_0
  clear hxg2_1
  clear hfg2_0
  clear hfg2_1
  have hxg1_0 : w5_.cell? ⟨g1, 0, none⟩ = some (.slice A0_0 l0_0.length c0_0) := (blk_cell Bg1.out 0).trans rfl
  have hfg1_0 := blk_frozen Bg1.out 0
  have hxg2_0 : w5_.cell? ⟨g2, 0, none⟩ = some (.int .i64 a2_0) := (blk_cell Bg2.out 0).trans rfl
  have hxg2_1 : w5_.cell? ⟨g2, 1, none⟩ = some (.slice A2_1 l2_1.length c2_1) := (blk_cell Bg2.out 1).trans rfl
  have hfg2_0 := blk_frozen Bg2.out 0
  have hfg2_1 := blk_frozen Bg2.out 1
  clear hb
  try go_wp2_with fail
  have n_ := Aside0.mk (blk_drew Bg1.out); clear Bg1; have Bg1 := n_; clear n_
  have n_ := Aside0.mk (blk_drew Bg2.out); clear Bg2; have Bg2 := n_; clear n_
  have n_ := Aside0.mk (below_drew1 HB.out); clear HB; have HB := n_; clear n_
  clear hxg1_0
  clear hfg1_0
  clear hxg2_0
  clear hxg2_1
  clear hfg2_0
  clear hfg2_1
  have hz := Aside0.mk (show w5_.heap.size ≤ w5_.drew.heap.size from Nat.le_refl _)
  refine start_ (n := 12) (S := fun w' => w'.cell? ⟨g1, 0, none⟩ = some (.slice A0_0 l0_0.length c0_0) ∧ w'.cell? ⟨g2, 0, none⟩ = some (.int .i64 a2_0) ∧ w'.cell? ⟨g2, 1, none⟩ = some (.slice A2_1 l2_1.length c2_1)) (ds := []) #[false,false,false,false,false,false,false,false,false,false,false,false] (by kernel_rfl) rfl rfl ⟨(blk_cell Bg1.out 0).trans rfl, (blk_cell Bg2.out 0).trans rfl, (blk_cell Bg2.out 1).trans rfl⟩ (fun hHeld => ?_)
  generalize w5_.drew = w6_ at Bg1 Bg2 HB hz hHeld ⊢
  have Z6_ := hz; clear hz
  refine take_ (i := 0) (N := some 36) (v := ?_) (a' := ?_) #[true,false,false,false,false,false,false,false,false,false,false,false] rfl rfl (by kernel_rfl) (fun _ _ _ h => h) (Or.inl ⟨by rfl, ?_⟩) hHeld ?_ ?_
  rotate_left
  · rintro w' ⟨s0, s1, s2⟩; go_simp; with_reducible rfl
  rotate_left
  · simp only [Act.put, List.setIfInBounds_toArray, List.set_cons_zero, List.set_cons_succ, i64_w, i32_w]; rfl
  refine take_ (i := 2) (N := some 38) (v := ?_) (a' := ?_) #[true,false,true,false,false,false,false,false,false,false,false,false] rfl rfl (by kernel_rfl) (fun _ _ _ h => h) (Or.inl ⟨by rfl, ?_⟩) hHeld ?_ ?_
  rotate_left
  · rintro w' ⟨s0, s1, s2⟩; go_simp; with_reducible rfl
  rotate_left
  · simp only [Act.put, List.setIfInBounds_toArray, List.set_cons_zero, List.set_cons_succ, i64_w, i32_w]; rfl
  refine take_ (i := 4) (N := some 40) (v := ?_) (a' := ?_) #[true,false,true,false,true,false,false,false,false,false,false,false] rfl rfl (by kernel_rfl) (fun _ _ _ h => h) (Or.inl ⟨by rfl, ?_⟩) hHeld ?_ ?_
  rotate_left
  · rintro w' ⟨s0, s1, s2⟩; go_simp; with_reducible rfl
  rotate_left
  · simp only [Act.put, List.setIfInBounds_toArray, List.set_cons_zero, List.set_cons_succ, i64_w, i32_w]; rfl
  refine one_ (i := 1) (N := some 37) #[true,true,true,false,true,false,false,false,false,false,false,false] rfl rfl (by kernel_rfl) (by decide) (fun K hK => ?_)
  refine goes_ Try.func11 (by kernel_rfl) rfl #[.agg #[.slice A0_0 l0_0.length c0_0]] (by rfl) rfl rfl (by (try simp only [List.map_toArray, List.map_cons, List.map_nil]); first | done | rfl) ?_
  with_reducible refine (laws_toSchema.calls ke6 _ _ l0_0 r6_0 _ (Kd.C_below H0_0.out HB.out) HC0_0.out Ee6.out).mono ?_
  rintro e w7_ ⟨v7_0_, rfl, ho0, hb⟩
  refine ⟨_, rfl, ?_⟩
  have O7_0 := Aside0.mk (newR ho0 HB.out.size)
  have Z7_ := Aside0.mk (show w6_.heap.size ≤ w7_.heap.size from hb.size)
  have n_ := Aside0.mk (blk_below Bg1.out hb); clear Bg1; have Bg1 := n_; clear n_
  have n_ := Aside0.mk (blk_below Bg2.out hb); clear Bg2; have Bg2 := n_; clear n_
  have n_ := Aside0.mk (below_step HB.out hb); clear HB; have HB := n_; clear n_
  have hxg1_0 : w7_.cell? ⟨g1, 0, none⟩ = some (.slice A0_0 l0_0.length c0_0) := (blk_cell Bg1.out 0).trans rfl
  have hfg1_0 := blk_frozen Bg1.out 0
  have hxg2_0 : w7_.cell? ⟨g2, 0, none⟩ = some (.int .i64 a2_0) := (blk_cell Bg2.out 0).trans rfl
  have hxg2_1 : w7_.cell? ⟨g2, 1, none⟩ = some (.slice A2_1 l2_1.length c2_1) := (blk_cell Bg2.out 1).trans rfl
  have hfg2_0 := blk_frozen Bg2.out 0
  have hfg2_1 := blk_frozen Bg2.out 1
  clear hb ho0
  obtain ⟨A7_0_, c7_0_, eq_⟩ := Kd.R_slice O7_0.out
  subst eq_
  clear hxg1_0
  clear hfg1_0
  clear hxg2_0
  clear hxg2_1
  clear hfg2_0
  clear hfg2_1
  refine hK.out _ _ ⟨(blk_cell Bg1.out 0).trans rfl, (blk_cell Bg2.out 0).trans rfl, (blk_cell Bg2.out 1).trans rfl⟩ (fun hHeld => ?_)
  clear hK K
  refine norm_ (a' := ?_) ?_ ?_
  rotate_left
  · show Act.put _ (some 37) _ = _; simp only [Act.put, List.setIfInBounds_toArray, List.set_cons_zero, List.set_cons_succ, i64_w, i32_w]; rfl
  refine one_ (i := 3) (N := some 39) #[true,true,true,true,true,false,false,false,false,false,false,false] rfl rfl (by kernel_rfl) (by decide) (fun K hK => ?_)
  refine goes_ Try.func12 (by kernel_rfl) rfl #[.slice A1 l1.length c1] (by rfl) rfl rfl (by (try simp only [List.map_toArray, List.map_cons, List.map_nil]); first | done | rfl) ?_
  with_reducible refine (laws_toFactS.calls ke7 _ _ l1 r7_0 _ (Kd.C_below H1.out HB.out) HC1.out Ee7.out).mono ?_
  rintro e w8_ ⟨v8_0_, rfl, ho0, hb⟩
  refine ⟨_, rfl, ?_⟩
  have O8_0 := Aside0.mk (newS ho0 HB.out.size)
  have Z8_ := Aside0.mk (show w7_.heap.size ≤ w8_.heap.size from hb.size)
  have n_ := Aside0.mk (Kd.R_below O7_0.out hb); clear O7_0; have O7_0 := n_; clear n_
  have n_ := Aside0.mk (blk_below Bg1.out hb); clear Bg1; have Bg1 := n_; clear n_
  have n_ := Aside0.mk (blk_below Bg2.out hb); clear Bg2; have Bg2 := n_; clear n_
  have n_ := Aside0.mk (below_step HB.out hb); clear HB; have HB := n_; clear n_
  have hxg1_0 : w8_.cell? ⟨g1, 0, none⟩ = some (.slice A0_0 l0_0.length c0_0) := (blk_cell Bg1.out 0).trans rfl
  have hfg1_0 := blk_frozen Bg1.out 0
  have hxg2_0 : w8_.cell? ⟨g2, 0, none⟩ = some (.int .i64 a2_0) := (blk_cell Bg2.out 0).trans rfl
  have hxg2_1 : w8_.cell? ⟨g2, 1, none⟩ = some (.slice A2_1 l2_1.length c2_1) := (blk_cell Bg2.out 1).trans rfl
  have hfg2_0 := blk_frozen Bg2.out 0
  have hfg2_1 := blk_frozen Bg2.out 1
  clear hb ho0
  obtain ⟨A8_0_, c8_0_, eq_⟩ := Kd.S_slice O8_0.out
  subst eq_
  clear hxg1_0
  clear hfg1_0
  clear hxg2_0
  clear hxg2_1
  clear hfg2_0
  clear hfg2_1
  refine hK.out _ _ ⟨(blk_cell Bg1.out 0).trans rfl, (blk_cell Bg2.out 0).trans rfl, (blk_cell Bg2.out 1).trans rfl⟩ (fun hHeld => ?_)
  clear hK K
  refine norm_ (a' := ?_) ?_ ?_
  rotate_left
  · show Act.put _ (some 39) _ = _; simp only [Act.put, List.setIfInBounds_toArray, List.set_cons_zero, List.set_cons_succ, i64_w, i32_w]; rfl
  refine one_ (i := 5) (N := some 41) #[true,true,true,true,true,true,false,false,false,false,false,false] rfl rfl (by kernel_rfl) (by decide) (fun K hK => ?_)
  refine goes_ Try.func13 (by kernel_rfl) rfl #[.agg #[.int .i64 a2_0, .slice A2_1 l2_1.length c2_1]] (by rfl) rfl rfl (by (try simp only [List.map_toArray, List.map_cons, List.map_nil]); first | done | rfl) ?_
  with_reducible refine (laws_toFact.calls ke8 a2_0 _ _ l2_1 r8_0 r8_1 _ (Kd.C_below H2_1.out HB.out) HC2_1.out Ee8.out).mono ?_
  rintro e w9_ ⟨v9_0_, rfl, ho0, hb⟩
  refine ⟨_, rfl, ?_⟩
  have O9_0 := Aside0.mk (newR ho0 HB.out.size)
  have Z9_ := Aside0.mk (show w8_.heap.size ≤ w9_.heap.size from hb.size)
  have n_ := Aside0.mk (Kd.R_below O7_0.out hb); clear O7_0; have O7_0 := n_; clear n_
  have n_ := Aside0.mk (Kd.S_below O8_0.out hb); clear O8_0; have O8_0 := n_; clear n_
  have n_ := Aside0.mk (blk_below Bg1.out hb); clear Bg1; have Bg1 := n_; clear n_
  have n_ := Aside0.mk (blk_below Bg2.out hb); clear Bg2; have Bg2 := n_; clear n_
  have n_ := Aside0.mk (below_step HB.out hb); clear HB; have HB := n_; clear n_
  have hxg1_0 : w9_.cell? ⟨g1, 0, none⟩ = some (.slice A0_0 l0_0.length c0_0) := (blk_cell Bg1.out 0).trans rfl
  have hfg1_0 := blk_frozen Bg1.out 0
  have hxg2_0 : w9_.cell? ⟨g2, 0, none⟩ = some (.int .i64 a2_0) := (blk_cell Bg2.out 0).trans rfl
  have hxg2_1 : w9_.cell? ⟨g2, 1, none⟩ = some (.slice A2_1 l2_1.length c2_1) := (blk_cell Bg2.out 1).trans rfl
  have hfg2_0 := blk_frozen Bg2.out 0
  have hfg2_1 := blk_frozen Bg2.out 1
  clear hb ho0
  obtain ⟨A9_0_, c9_0_, eq_⟩ := Kd.R_slice O9_0.out
  subst eq_
  clear hxg1_0
  clear hfg1_0
  clear hxg2_0
  clear hxg2_1
  clear hfg2_0
  clear hfg2_1
  refine hK.out _ _ ⟨(blk_cell Bg1.out 0).trans rfl, (blk_cell Bg2.out 0).trans rfl, (blk_cell Bg2.out 1).trans rfl⟩ (fun hHeld => ?_)
  clear hK K
  refine norm_ (a' := ?_) ?_ ?_
  rotate_left
  · show Act.put _ (some 41) _ = _; simp only [Act.put, List.setIfInBounds_toArray, List.set_cons_zero, List.set_cons_succ, i64_w, i32_w]; rfl
  refine one_ (i := 6) (N := some 42) #[true,true,true,true,true,true,true,false,false,false,false,false] rfl rfl (by kernel_rfl) (by decide) (fun K hK => ?_)
  refine goes_ Try.func10 (by kernel_rfl) rfl #[.agg #[.slice A7_0_ r6_0.length c7_0_], .slice A8_0_ r7_0.length c8_0_, .agg #[.int .i64 r8_0, .slice A9_0_ r8_1.length c9_0_]] (by rfl) rfl rfl (by (try simp only [List.map_toArray, List.map_cons, List.map_nil]); first | done | rfl) ?_
  with_reducible refine (spec_AddFact.calls ke9 _ _ r6_0 _ _ r7_0 r8_0 _ _ r8_1 r9_0 r9_1 _ (Kd.R_reads' O7_0.out).2.2 (Kd.R_reads' O7_0.out).2.1 (Kd.S_reads' O8_0.out).2.2 (Kd.S_reads' O8_0.out).2.1 (Kd.R_reads' O9_0.out).2.2 (Kd.R_reads' O9_0.out).2.1 Ee9.out).mono ?_
  rintro e w10_ ⟨v10_0_, rfl, ho0, hb⟩
  refine ⟨_, rfl, ?_⟩
  have O10_0 := Aside0.mk (newS ho0 HB.out.size)
  have Z10_ := Aside0.mk (show w9_.heap.size ≤ w10_.heap.size from hb.size)
  have n_ := Aside0.mk (Kd.R_below O7_0.out hb); clear O7_0; have O7_0 := n_; clear n_
  have n_ := Aside0.mk (Kd.S_below O8_0.out hb); clear O8_0; have O8_0 := n_; clear n_
  have n_ := Aside0.mk (Kd.R_below O9_0.out hb); clear O9_0; have O9_0 := n_; clear n_
  have n_ := Aside0.mk (blk_below Bg1.out hb); clear Bg1; have Bg1 := n_; clear n_
  have n_ := Aside0.mk (blk_below Bg2.out hb); clear Bg2; have Bg2 := n_; clear n_
  have n_ := Aside0.mk (below_step HB.out hb); clear HB; have HB := n_; clear n_
  have hxg1_0 : w10_.cell? ⟨g1, 0, none⟩ = some (.slice A0_0 l0_0.length c0_0) := (blk_cell Bg1.out 0).trans rfl
  have hfg1_0 := blk_frozen Bg1.out 0
  have hxg2_0 : w10_.cell? ⟨g2, 0, none⟩ = some (.int .i64 a2_0) := (blk_cell Bg2.out 0).trans rfl
  have hxg2_1 : w10_.cell? ⟨g2, 1, none⟩ = some (.slice A2_1 l2_1.length c2_1) := (blk_cell Bg2.out 1).trans rfl
  have hfg2_0 := blk_frozen Bg2.out 0
  have hfg2_1 := blk_frozen Bg2.out 1
  clear hb ho0
  obtain ⟨A10_0_, c10_0_, eq_⟩ := Kd.S_slice O10_0.out
  subst eq_
  clear hxg1_0
  clear hfg1_0
  clear hxg2_0
  clear hxg2_1
  clear hfg2_0
  clear hfg2_1
  refine hK.out _ _ ⟨(blk_cell Bg1.out 0).trans rfl, (blk_cell Bg2.out 0).trans rfl, (blk_cell Bg2.out 1).trans rfl⟩ (fun hHeld => ?_)
  clear hK K
  refine norm_ (a' := ?_) ?_ ?_
  rotate_left
  · show Act.put _ (some 42) _ = _; simp only [Act.put, List.setIfInBounds_toArray, List.set_cons_zero, List.set_cons_succ, i64_w, i32_w]; rfl
  refine pure_ (i := 7) (N := some 35) (v := ?_) (a' := ?_) #[true,true,true,true,true,true,true,true,false,false,false,false] rfl rfl (by kernel_rfl) (fun _ _ _ h => h) (Or.inl ⟨by rfl, ?_⟩) ?_ ?_
  rotate_left
  · intro w'; go_simp; with_reducible rfl
  rotate_left
  · simp only [Act.put, List.setIfInBounds_toArray, List.set_cons_zero, List.set_cons_succ, i64_w, i32_w]; rfl
  refine pure_ (i := 8) (N := some 43) (v := ?_) (a' := ?_) #[true,true,true,true,true,true,true,true,true,false,false,false] rfl rfl (by kernel_rfl) (fun _ _ _ h => h) (Or.inl ⟨by rfl, ?_⟩) ?_ ?_
  rotate_left
  · intro w'; go_simp; with_reducible rfl
  rotate_left
  · simp only [Act.put, List.setIfInBounds_toArray, List.set_cons_zero, List.set_cons_succ, i64_w, i32_w]; rfl
  refine pure_ (i := 9) (N := some 44) (v := ?_) (a' := ?_) #[true,true,true,true,true,true,true,true,true,true,false,false] rfl rfl (by kernel_rfl) (fun _ _ _ h => h) (Or.inl ⟨by rfl, ?_⟩) ?_ ?_
  rotate_left
  · intro w'; go_simp; with_reducible rfl
  rotate_left
  · simp only [Act.put, List.setIfInBounds_toArray, List.set_cons_zero, List.set_cons_succ, i64_w, i32_w]; rfl
  refine pure_ (i := 10) (N := some 8) (v := ?_) (a' := ?_) #[true,true,true,true,true,true,true,true,true,true,true,false] rfl rfl (by kernel_rfl) (fun _ _ _ h => h) (Or.inl ⟨by rfl, ?_⟩) ?_ ?_
  rotate_left
  · intro w'; go_simp; with_reducible rfl
  rotate_left
  · simp only [Act.put, List.setIfInBounds_toArray, List.set_cons_zero, List.set_cons_succ, i64_w, i32_w]; rfl
  refine pure_ (i := 11) (N := some 9) (v := ?_) (a' := ?_) #[true,true,true,true,true,true,true,true,true,true,true,true] rfl rfl (by kernel_rfl) (fun _ _ _ h => h) (Or.inl ⟨by rfl, ?_⟩) ?_ ?_
  rotate_left
  · intro w'; go_simp; with_reducible rfl
  rotate_left
  · simp only [Act.put, List.setIfInBounds_toArray, List.set_cons_zero, List.set_cons_succ, i64_w, i32_w]; rfl
  refine done_ (by kernel_rfl) ?_
  have hxg1_0 : w10_.cell? ⟨g1, 0, none⟩ = some (.slice A0_0 l0_0.length c0_0) := (blk_cell Bg1.out 0).trans rfl
  have hfg1_0 := blk_frozen Bg1.out 0
  have hxg2_0 : w10_.cell? ⟨g2, 0, none⟩ = some (.int .i64 a2_0) := (blk_cell Bg2.out 0).trans rfl
  have hxg2_1 : w10_.cell? ⟨g2, 1, none⟩ = some (.slice A2_1 l2_1.length c2_1) := (blk_cell Bg2.out 1).trans rfl
  have hfg2_0 := blk_frozen Bg2.out 0
  have hfg2_1 := blk_frozen Bg2.out 1
  go_wp2_with (first | (go_at_call 11; refine hold ?_))
  unfold Hold
  refine (laws_toSchema.calls ke6 _ _ l0_0 r6_0 _ (Kd.C_below H0_0.out HB.out) HC0_0.out Ee6.out).mono ?_
  rintro e w11_ ⟨v11_0_, rfl, ho0, hb⟩
  have O11_0 := Aside0.mk (newR ho0 HB.out.size)
  have Z11_ := Aside0.mk (show w10_.heap.size ≤ w11_.heap.size from hb.size)
  have n_ := Aside0.mk (Kd.R_below O7_0.out hb); clear O7_0; have O7_0 := n_; clear n_
  have n_ := Aside0.mk (Kd.S_below O8_0.out hb); clear O8_0; have O8_0 := n_; clear n_
  have n_ := Aside0.mk (Kd.R_below O9_0.out hb); clear O9_0; have O9_0 := n_; clear n_
  have n_ := Aside0.mk (Kd.S_below O10_0.out hb); clear O10_0; have O10_0 := n_; clear n_
  have n_ := Aside0.mk (blk_below Bg1.out hb); clear Bg1; have Bg1 := n_; clear n_
  have n_ := Aside0.mk (blk_below Bg2.out hb); clear Bg2; have Bg2 := n_; clear n_
  have n_ := Aside0.mk (below_step HB.out hb); clear HB; have HB := n_; clear n_
  clear hxg1_0
  clear hfg1_0
  clear hxg2_0
  clear hxg2_1
  clear hfg2_0
  clear hfg2_1
  have hxg1_0 : w11_.cell? ⟨g1, 0, none⟩ = some (.slice A0_0 l0_0.length c0_0) := (blk_cell Bg1.out 0).trans rfl
  have hfg1_0 := blk_frozen Bg1.out 0
  have hxg2_0 : w11_.cell? ⟨g2, 0, none⟩ = some (.int .i64 a2_0) := (blk_cell Bg2.out 0).trans rfl
  have hxg2_1 : w11_.cell? ⟨g2, 1, none⟩ = some (.slice A2_1 l2_1.length c2_1) := (blk_cell Bg2.out 1).trans rfl
  have hfg2_0 := blk_frozen Bg2.out 0
  have hfg2_1 := blk_frozen Bg2.out 1
  clear hb ho0
  obtain ⟨A11_0_, c11_0_, eq_⟩ := Kd.R_slice O11_0.out
  subst eq_
  go_wp2_with (first | ((with_reducible refine gate_dst (N := 10) rfl ?_); refine hold ?_))
  unfold Hold
  refine box_event ?hg (N := 10) ?hd (cs := #[.slice none 0 0]) (t := 34) ?hr ?_
  case hd => rfl
  case hg => rfl
  case hr => first | (go_simp; done) | (go_simp; rfl)
  intro g10 hg w12_ hbox hb
  have Bg10 := Aside0.mk hbox
  have Gg10 := Aside0.mk (show w11_.heap.size ≤ g10 ∧ g10 < w12_.heap.size from ⟨by rw [hg]; exact Nat.le_refl _, blk_lt hbox⟩)
  clear hbox hg
  have Z12_ := Aside0.mk (show w11_.heap.size ≤ w12_.heap.size from hb.size)
  have n_ := Aside0.mk (Kd.R_below O7_0.out hb); clear O7_0; have O7_0 := n_; clear n_
  have n_ := Aside0.mk (Kd.S_below O8_0.out hb); clear O8_0; have O8_0 := n_; clear n_
  have n_ := Aside0.mk (Kd.R_below O9_0.out hb); clear O9_0; have O9_0 := n_; clear n_
  have n_ := Aside0.mk (Kd.S_below O10_0.out hb); clear O10_0; have O10_0 := n_; clear n_
  have n_ := Aside0.mk (Kd.R_below O11_0.out hb); clear O11_0; have O11_0 := n_; clear n_
  have n_ := Aside0.mk (blk_below Bg1.out hb); clear Bg1; have Bg1 := n_; clear n_
  have n_ := Aside0.mk (blk_below Bg2.out hb); clear Bg2; have Bg2 := n_; clear n_
  have n_ := Aside0.mk (below_step HB.out hb); clear HB; have HB := n_; clear n_
  clear hxg1_0
  clear hfg1_0
  clear hxg2_0
  clear hxg2_1
  clear hfg2_0
  clear hfg2_1
  have hxg1_0 : w12_.cell? ⟨g1, 0, none⟩ = some (.slice A0_0 l0_0.length c0_0) := (blk_cell Bg1.out 0).trans rfl
  have hfg1_0 := blk_frozen Bg1.out 0
  have hxg2_0 : w12_.cell? ⟨g2, 0, none⟩ = some (.int .i64 a2_0) := (blk_cell Bg2.out 0).trans rfl
  have hxg2_1 : w12_.cell? ⟨g2, 1, none⟩ = some (.slice A2_1 l2_1.length c2_1) := (blk_cell Bg2.out 1).trans rfl
  have hfg2_0 := blk_frozen Bg2.out 0
  have hfg2_1 := blk_frozen Bg2.out 1
  have hxg10_0 : w12_.cell? ⟨g10, 0, none⟩ = some (.slice none 0 0) := (blk_cell Bg10.out 0).trans rfl
  have hfg10_0 := blk_frozen Bg10.out 0
  clear hb
  go_wp2_with (first | ((with_reducible refine gate_store (t := 34) (p := 10) rfl ?_); refine hold ?_))
  unfold Hold
  refine store_event (t := 34) (p := 10) (v := ?vo12) (w1 := (w12_.setCell ⟨g10, 0, none⟩ (.slice A11_0_ r6_0.length c11_0_))) ?hg ?ho ?hn ?hr ?_
  case ho => rfl
  case hg => rfl
  case hn => rfl
  case hr => first | (go_simp; done) | (go_simp; rfl)
  intro w13_ hw
  have hk : Kept w12_ w13_ (fun k => k = g10) := by rw [hw]; exact kept_one _
  have hb0 : Below w.heap.size w w13_ := by rw [hw]; exact (below_set HB.out (Nat.le_trans (by have z1_ := Z1_.out; have z2_ := Z2_.out; have z3_ := Z3_.out; have z4_ := Z4_.out; have z5_ := Z5_.out; have z6_ := Z6_.out; have z7_ := Z7_.out; have z8_ := Z8_.out; have z9_ := Z9_.out; have z10_ := Z10_.out; have z11_ := Z11_.out; omega) Gg10.out.1))
  have n_ := Aside0.mk (show w13_.heap[g10]? = some (.cells #[.slice A11_0_ r6_0.length c11_0_] 34 (0, 0)) by rw [hw]; exact (blk_put (cs := #[.slice none 0 0]) (cs' := #[.slice A11_0_ r6_0.length c11_0_]) Bg10.out 0 _ rfl))
  clear Bg10; have Bg10 := n_; clear n_ hw
  have Z13_ := Aside0.mk (show w12_.heap.size ≤ w13_.heap.size from hk.1)
  have n_ := Aside0.mk (Kd.R_kept O7_0.out hk (fun k_ hk1 hk2 => by obtain ⟨a1_, a2_⟩ := hk1.1; have e_ : k_ = g10 := hk2; obtain ⟨b1_, b2_⟩ := Gg10.out; have z8_ := Z8_.out; have z9_ := Z9_.out; have z10_ := Z10_.out; have z11_ := Z11_.out; omega)); clear O7_0; have O7_0 := n_; clear n_
  have n_ := Aside0.mk (Kd.S_kept O8_0.out hk (fun k_ hk1 hk2 => by obtain ⟨a1_, a2_⟩ := hk1.1; have e_ : k_ = g10 := hk2; obtain ⟨b1_, b2_⟩ := Gg10.out; have z9_ := Z9_.out; have z10_ := Z10_.out; have z11_ := Z11_.out; omega)); clear O8_0; have O8_0 := n_; clear n_
  have n_ := Aside0.mk (Kd.R_kept O9_0.out hk (fun k_ hk1 hk2 => by obtain ⟨a1_, a2_⟩ := hk1.1; have e_ : k_ = g10 := hk2; obtain ⟨b1_, b2_⟩ := Gg10.out; have z10_ := Z10_.out; have z11_ := Z11_.out; omega)); clear O9_0; have O9_0 := n_; clear n_
  have n_ := Aside0.mk (Kd.S_kept O10_0.out hk (fun k_ hk1 hk2 => by obtain ⟨a1_, a2_⟩ := hk1.1; have e_ : k_ = g10 := hk2; obtain ⟨b1_, b2_⟩ := Gg10.out; have z11_ := Z11_.out; omega)); clear O10_0; have O10_0 := n_; clear n_
  have n_ := Aside0.mk (Kd.R_kept O11_0.out hk (fun k_ hk1 hk2 => by obtain ⟨a1_, a2_⟩ := hk1.1; have e_ : k_ = g10 := hk2; obtain ⟨b1_, b2_⟩ := Gg10.out; omega)); clear O11_0; have O11_0 := n_; clear n_
  have n_ := Aside0.mk (blk_kept Bg1.out hk (fun hk2 => by obtain ⟨a1_, a2_⟩ := Gg1.out; have e_ : g1 = g10 := hk2; obtain ⟨b1_, b2_⟩ := Gg10.out; have z2_ := Z2_.out; have z3_ := Z3_.out; have z4_ := Z4_.out; have z5_ := Z5_.out; have z6_ := Z6_.out; have z7_ := Z7_.out; have z8_ := Z8_.out; have z9_ := Z9_.out; have z10_ := Z10_.out; have z11_ := Z11_.out; omega)); clear Bg1; have Bg1 := n_; clear n_
  have n_ := Aside0.mk (blk_kept Bg2.out hk (fun hk2 => by obtain ⟨a1_, a2_⟩ := Gg2.out; have e_ : g2 = g10 := hk2; obtain ⟨b1_, b2_⟩ := Gg10.out; have z3_ := Z3_.out; have z4_ := Z4_.out; have z5_ := Z5_.out; have z6_ := Z6_.out; have z7_ := Z7_.out; have z8_ := Z8_.out; have z9_ := Z9_.out; have z10_ := Z10_.out; have z11_ := Z11_.out; omega)); clear Bg2; have Bg2 := n_; clear n_
  clear HB; have HB := Aside0.mk hb0
  clear hxg1_0
  clear hfg1_0
  clear hxg2_0
  clear hxg2_1
  clear hfg2_0
  clear hfg2_1
  clear hxg10_0
  clear hfg10_0
  have hxg1_0 : w13_.cell? ⟨g1, 0, none⟩ = some (.slice A0_0 l0_0.length c0_0) := (blk_cell Bg1.out 0).trans rfl
  have hfg1_0 := blk_frozen Bg1.out 0
  have hxg2_0 : w13_.cell? ⟨g2, 0, none⟩ = some (.int .i64 a2_0) := (blk_cell Bg2.out 0).trans rfl
  have hxg2_1 : w13_.cell? ⟨g2, 1, none⟩ = some (.slice A2_1 l2_1.length c2_1) := (blk_cell Bg2.out 1).trans rfl
  have hfg2_0 := blk_frozen Bg2.out 0
  have hfg2_1 := blk_frozen Bg2.out 1
  have hxg10_0 : w13_.cell? ⟨g10, 0, none⟩ = some (.slice A11_0_ r6_0.length c11_0_) := (blk_cell Bg10.out 0).trans rfl
  have hfg10_0 := blk_frozen Bg10.out 0
  clear hk hb0
  go_wp2_with (first | (go_at_call 12; refine hold ?_))
  unfold Hold
  refine (laws_toFactS.calls ke7 _ _ l1 r7_0 _ (Kd.C_below H1.out HB.out) HC1.out Ee7.out).mono ?_
  rintro e w14_ ⟨v14_0_, rfl, ho0, hb⟩
  have O14_0 := Aside0.mk (newS ho0 HB.out.size)
  have Z14_ := Aside0.mk (show w13_.heap.size ≤ w14_.heap.size from hb.size)
  have n_ := Aside0.mk (Kd.R_below O7_0.out hb); clear O7_0; have O7_0 := n_; clear n_
  have n_ := Aside0.mk (Kd.S_below O8_0.out hb); clear O8_0; have O8_0 := n_; clear n_
  have n_ := Aside0.mk (Kd.R_below O9_0.out hb); clear O9_0; have O9_0 := n_; clear n_
  have n_ := Aside0.mk (Kd.S_below O10_0.out hb); clear O10_0; have O10_0 := n_; clear n_
  have n_ := Aside0.mk (Kd.R_below O11_0.out hb); clear O11_0; have O11_0 := n_; clear n_
  have n_ := Aside0.mk (blk_below Bg1.out hb); clear Bg1; have Bg1 := n_; clear n_
  have n_ := Aside0.mk (blk_below Bg2.out hb); clear Bg2; have Bg2 := n_; clear n_
  have n_ := Aside0.mk (blk_below Bg10.out hb); clear Bg10; have Bg10 := n_; clear n_
  have n_ := Aside0.mk (below_step HB.out hb); clear HB; have HB := n_; clear n_
  clear hxg1_0
  clear hfg1_0
  clear hxg2_0
  clear hxg2_1
  clear hfg2_0
  clear hfg2_1
  clear hxg10_0
  clear hfg10_0
  have hxg1_0 : w14_.cell? ⟨g1, 0, none⟩ = some (.slice A0_0 l0_0.length c0_0) := (blk_cell Bg1.out 0).trans rfl
  have hfg1_0 := blk_frozen Bg1.out 0
  have hxg2_0 : w14_.cell? ⟨g2, 0, none⟩ = some (.int .i64 a2_0) := (blk_cell Bg2.out 0).trans rfl
  have hxg2_1 : w14_.cell? ⟨g2, 1, none⟩ = some (.slice A2_1 l2_1.length c2_1) := (blk_cell Bg2.out 1).trans rfl
  have hfg2_0 := blk_frozen Bg2.out 0
  have hfg2_1 := blk_frozen Bg2.out 1
  have hxg10_0 : w14_.cell? ⟨g10, 0, none⟩ = some (.slice A11_0_ r6_0.length c11_0_) := (blk_cell Bg10.out 0).trans rfl
  have hfg10_0 := blk_frozen Bg10.out 0
  clear hb ho0
  obtain ⟨A14_0_, c14_0_, eq_⟩ := Kd.S_slice O14_0.out
  subst eq_
  go_wp2_with (first | (go_at_call 13; refine hold ?_))
  unfold Hold
  refine (laws_toFact.calls ke8 a2_0 _ _ l2_1 r8_0 r8_1 _ (Kd.C_below H2_1.out HB.out) HC2_1.out Ee8.out).mono ?_
  rintro e w15_ ⟨v15_0_, rfl, ho0, hb⟩
  have O15_0 := Aside0.mk (newR ho0 HB.out.size)
  have Z15_ := Aside0.mk (show w14_.heap.size ≤ w15_.heap.size from hb.size)
  have n_ := Aside0.mk (Kd.R_below O7_0.out hb); clear O7_0; have O7_0 := n_; clear n_
  have n_ := Aside0.mk (Kd.S_below O8_0.out hb); clear O8_0; have O8_0 := n_; clear n_
  have n_ := Aside0.mk (Kd.R_below O9_0.out hb); clear O9_0; have O9_0 := n_; clear n_
  have n_ := Aside0.mk (Kd.S_below O10_0.out hb); clear O10_0; have O10_0 := n_; clear n_
  have n_ := Aside0.mk (Kd.R_below O11_0.out hb); clear O11_0; have O11_0 := n_; clear n_
  have n_ := Aside0.mk (Kd.S_below O14_0.out hb); clear O14_0; have O14_0 := n_; clear n_
  have n_ := Aside0.mk (blk_below Bg1.out hb); clear Bg1; have Bg1 := n_; clear n_
  have n_ := Aside0.mk (blk_below Bg2.out hb); clear Bg2; have Bg2 := n_; clear n_
  have n_ := Aside0.mk (blk_below Bg10.out hb); clear Bg10; have Bg10 := n_; clear n_
  have n_ := Aside0.mk (below_step HB.out hb); clear HB; have HB := n_; clear n_
  clear hxg1_0
  clear hfg1_0
  clear hxg2_0
  clear hxg2_1
  clear hfg2_0
  clear hfg2_1
  clear hxg10_0
  clear hfg10_0
  have hxg1_0 : w15_.cell? ⟨g1, 0, none⟩ = some (.slice A0_0 l0_0.length c0_0) := (blk_cell Bg1.out 0).trans rfl
  have hfg1_0 := blk_frozen Bg1.out 0
  have hxg2_0 : w15_.cell? ⟨g2, 0, none⟩ = some (.int .i64 a2_0) := (blk_cell Bg2.out 0).trans rfl
  have hxg2_1 : w15_.cell? ⟨g2, 1, none⟩ = some (.slice A2_1 l2_1.length c2_1) := (blk_cell Bg2.out 1).trans rfl
  have hfg2_0 := blk_frozen Bg2.out 0
  have hfg2_1 := blk_frozen Bg2.out 1
  have hxg10_0 : w15_.cell? ⟨g10, 0, none⟩ = some (.slice A11_0_ r6_0.length c11_0_) := (blk_cell Bg10.out 0).trans rfl
  have hfg10_0 := blk_frozen Bg10.out 0
  clear hb ho0
  obtain ⟨A15_0_, c15_0_, eq_⟩ := Kd.R_slice O15_0.out
  subst eq_
  go_wp2_with (first | ((with_reducible refine gate_dst (N := 12) rfl ?_); refine hold ?_))
  unfold Hold
  refine box_event ?hg (N := 12) ?hd (cs := #[.int .i64 0, .slice none 0 0]) (t := 37) ?hr ?_
  case hd => rfl
  case hg => rfl
  case hr => first | (go_simp; done) | (go_simp; rfl)
  intro g11 hg w16_ hbox hb
  have Bg11 := Aside0.mk hbox
  have Gg11 := Aside0.mk (show w15_.heap.size ≤ g11 ∧ g11 < w16_.heap.size from ⟨by rw [hg]; exact Nat.le_refl _, blk_lt hbox⟩)
  clear hbox hg
  have Z16_ := Aside0.mk (show w15_.heap.size ≤ w16_.heap.size from hb.size)
  have n_ := Aside0.mk (Kd.R_below O7_0.out hb); clear O7_0; have O7_0 := n_; clear n_
  have n_ := Aside0.mk (Kd.S_below O8_0.out hb); clear O8_0; have O8_0 := n_; clear n_
  have n_ := Aside0.mk (Kd.R_below O9_0.out hb); clear O9_0; have O9_0 := n_; clear n_
  have n_ := Aside0.mk (Kd.S_below O10_0.out hb); clear O10_0; have O10_0 := n_; clear n_
  have n_ := Aside0.mk (Kd.R_below O11_0.out hb); clear O11_0; have O11_0 := n_; clear n_
  have n_ := Aside0.mk (Kd.S_below O14_0.out hb); clear O14_0; have O14_0 := n_; clear n_
  have n_ := Aside0.mk (Kd.R_below O15_0.out hb); clear O15_0; have O15_0 := n_; clear n_
  have n_ := Aside0.mk (blk_below Bg1.out hb); clear Bg1; have Bg1 := n_; clear n_
  have n_ := Aside0.mk (blk_below Bg2.out hb); clear Bg2; have Bg2 := n_; clear n_
  have n_ := Aside0.mk (blk_below Bg10.out hb); clear Bg10; have Bg10 := n_; clear n_
  have n_ := Aside0.mk (below_step HB.out hb); clear HB; have HB := n_; clear n_
  clear hxg1_0
  clear hfg1_0
  clear hxg2_0
  clear hxg2_1
  clear hfg2_0
  clear hfg2_1
  clear hxg10_0
  clear hfg10_0
  have hxg1_0 : w16_.cell? ⟨g1, 0, none⟩ = some (.slice A0_0 l0_0.length c0_0) := (blk_cell Bg1.out 0).trans rfl
  have hfg1_0 := blk_frozen Bg1.out 0
  have hxg2_0 : w16_.cell? ⟨g2, 0, none⟩ = some (.int .i64 a2_0) := (blk_cell Bg2.out 0).trans rfl
  have hxg2_1 : w16_.cell? ⟨g2, 1, none⟩ = some (.slice A2_1 l2_1.length c2_1) := (blk_cell Bg2.out 1).trans rfl
  have hfg2_0 := blk_frozen Bg2.out 0
  have hfg2_1 := blk_frozen Bg2.out 1
  have hxg10_0 : w16_.cell? ⟨g10, 0, none⟩ = some (.slice A11_0_ r6_0.length c11_0_) := (blk_cell Bg10.out 0).trans rfl
  have hfg10_0 := blk_frozen Bg10.out 0
  have hxg11_0 : w16_.cell? ⟨g11, 0, none⟩ = some (.int .i64 0) := (blk_cell Bg11.out 0).trans rfl
  have hxg11_1 : w16_.cell? ⟨g11, 1, none⟩ = some (.slice none 0 0) := (blk_cell Bg11.out 1).trans rfl
  have hfg11_0 := blk_frozen Bg11.out 0
  have hfg11_1 := blk_frozen Bg11.out 1
  clear hb
  go_wp2_with (first | ((with_reducible refine gate_store (t := 37) (p := 12) rfl ?_); refine hold ?_))
  unfold Hold
  refine store_event (t := 37) (p := 12) (v := ?vo16) (w1 := ((w16_.setCell ⟨g11, 0, none⟩ (.int .i64 r8_0)).setCell ⟨g11, 1, none⟩ (.slice A15_0_ r8_1.length c15_0_))) ?hg ?ho ?hn ?hr ?_
  case ho => rfl
  case hg => rfl
  case hn => rfl
  case hr => first | (go_simp; done) | (go_simp; rfl)
  intro w17_ hw
  have hk : Kept w16_ w17_ (fun k => k = g11) := by rw [hw]; exact kept_two _ _
  have hb0 : Below w.heap.size w w17_ := by rw [hw]; exact (below_set (below_set HB.out (Nat.le_trans (by have z1_ := Z1_.out; have z2_ := Z2_.out; have z3_ := Z3_.out; have z4_ := Z4_.out; have z5_ := Z5_.out; have z6_ := Z6_.out; have z7_ := Z7_.out; have z8_ := Z8_.out; have z9_ := Z9_.out; have z10_ := Z10_.out; have z11_ := Z11_.out; have z12_ := Z12_.out; have z13_ := Z13_.out; have z14_ := Z14_.out; have z15_ := Z15_.out; omega) Gg11.out.1)) (Nat.le_trans (by have z1_ := Z1_.out; have z2_ := Z2_.out; have z3_ := Z3_.out; have z4_ := Z4_.out; have z5_ := Z5_.out; have z6_ := Z6_.out; have z7_ := Z7_.out; have z8_ := Z8_.out; have z9_ := Z9_.out; have z10_ := Z10_.out; have z11_ := Z11_.out; have z12_ := Z12_.out; have z13_ := Z13_.out; have z14_ := Z14_.out; have z15_ := Z15_.out; omega) Gg11.out.1))
  have n_ := Aside0.mk (show w17_.heap[g11]? = some (.cells #[.int .i64 r8_0, .slice A15_0_ r8_1.length c15_0_] 37 (0, 0)) by rw [hw]; exact (blk_put (cs := #[.int .i64 r8_0, .slice none 0 0]) (cs' := #[.int .i64 r8_0, .slice A15_0_ r8_1.length c15_0_]) (blk_put (cs := #[.int .i64 0, .slice none 0 0]) (cs' := #[.int .i64 r8_0, .slice none 0 0]) Bg11.out 0 _ rfl) 1 _ rfl))
  clear Bg11; have Bg11 := n_; clear n_ hw
  have Z17_ := Aside0.mk (show w16_.heap.size ≤ w17_.heap.size from hk.1)
  have n_ := Aside0.mk (Kd.R_kept O7_0.out hk (fun k_ hk1 hk2 => by obtain ⟨a1_, a2_⟩ := hk1.1; have e_ : k_ = g11 := hk2; obtain ⟨b1_, b2_⟩ := Gg11.out; have z8_ := Z8_.out; have z9_ := Z9_.out; have z10_ := Z10_.out; have z11_ := Z11_.out; have z12_ := Z12_.out; have z13_ := Z13_.out; have z14_ := Z14_.out; have z15_ := Z15_.out; omega)); clear O7_0; have O7_0 := n_; clear n_
  have n_ := Aside0.mk (Kd.S_kept O8_0.out hk (fun k_ hk1 hk2 => by obtain ⟨a1_, a2_⟩ := hk1.1; have e_ : k_ = g11 := hk2; obtain ⟨b1_, b2_⟩ := Gg11.out; have z9_ := Z9_.out; have z10_ := Z10_.out; have z11_ := Z11_.out; have z12_ := Z12_.out; have z13_ := Z13_.out; have z14_ := Z14_.out; have z15_ := Z15_.out; omega)); clear O8_0; have O8_0 := n_; clear n_
  have n_ := Aside0.mk (Kd.R_kept O9_0.out hk (fun k_ hk1 hk2 => by obtain ⟨a1_, a2_⟩ := hk1.1; have e_ : k_ = g11 := hk2; obtain ⟨b1_, b2_⟩ := Gg11.out; have z10_ := Z10_.out; have z11_ := Z11_.out; have z12_ := Z12_.out; have z13_ := Z13_.out; have z14_ := Z14_.out; have z15_ := Z15_.out; omega)); clear O9_0; have O9_0 := n_; clear n_
  have n_ := Aside0.mk (Kd.S_kept O10_0.out hk (fun k_ hk1 hk2 => by obtain ⟨a1_, a2_⟩ := hk1.1; have e_ : k_ = g11 := hk2; obtain ⟨b1_, b2_⟩ := Gg11.out; have z11_ := Z11_.out; have z12_ := Z12_.out; have z13_ := Z13_.out; have z14_ := Z14_.out; have z15_ := Z15_.out; omega)); clear O10_0; have O10_0 := n_; clear n_
  have n_ := Aside0.mk (Kd.R_kept O11_0.out hk (fun k_ hk1 hk2 => by obtain ⟨a1_, a2_⟩ := hk1.1; have e_ : k_ = g11 := hk2; obtain ⟨b1_, b2_⟩ := Gg11.out; have z12_ := Z12_.out; have z13_ := Z13_.out; have z14_ := Z14_.out; have z15_ := Z15_.out; omega)); clear O11_0; have O11_0 := n_; clear n_
  have n_ := Aside0.mk (Kd.S_kept O14_0.out hk (fun k_ hk1 hk2 => by obtain ⟨a1_, a2_⟩ := hk1.1; have e_ : k_ = g11 := hk2; obtain ⟨b1_, b2_⟩ := Gg11.out; have z15_ := Z15_.out; omega)); clear O14_0; have O14_0 := n_; clear n_
  have n_ := Aside0.mk (Kd.R_kept O15_0.out hk (fun k_ hk1 hk2 => by obtain ⟨a1_, a2_⟩ := hk1.1; have e_ : k_ = g11 := hk2; obtain ⟨b1_, b2_⟩ := Gg11.out; omega)); clear O15_0; have O15_0 := n_; clear n_
  have n_ := Aside0.mk (blk_kept Bg1.out hk (fun hk2 => by obtain ⟨a1_, a2_⟩ := Gg1.out; have e_ : g1 = g11 := hk2; obtain ⟨b1_, b2_⟩ := Gg11.out; have z2_ := Z2_.out; have z3_ := Z3_.out; have z4_ := Z4_.out; have z5_ := Z5_.out; have z6_ := Z6_.out; have z7_ := Z7_.out; have z8_ := Z8_.out; have z9_ := Z9_.out; have z10_ := Z10_.out; have z11_ := Z11_.out; have z12_ := Z12_.out; have z13_ := Z13_.out; have z14_ := Z14_.out; have z15_ := Z15_.out; omega)); clear Bg1; have Bg1 := n_; clear n_
  have n_ := Aside0.mk (blk_kept Bg2.out hk (fun hk2 => by obtain ⟨a1_, a2_⟩ := Gg2.out; have e_ : g2 = g11 := hk2; obtain ⟨b1_, b2_⟩ := Gg11.out; have z3_ := Z3_.out; have z4_ := Z4_.out; have z5_ := Z5_.out; have z6_ := Z6_.out; have z7_ := Z7_.out; have z8_ := Z8_.out; have z9_ := Z9_.out; have z10_ := Z10_.out; have z11_ := Z11_.out; have z12_ := Z12_.out; have z13_ := Z13_.out; have z14_ := Z14_.out; have z15_ := Z15_.out; omega)); clear Bg2; have Bg2 := n_; clear n_
  have n_ := Aside0.mk (blk_kept Bg10.out hk (fun hk2 => by obtain ⟨a1_, a2_⟩ := Gg10.out; have e_ : g10 = g11 := hk2; obtain ⟨b1_, b2_⟩ := Gg11.out; have z13_ := Z13_.out; have z14_ := Z14_.out; have z15_ := Z15_.out; omega)); clear Bg10; have Bg10 := n_; clear n_
  clear HB; have HB := Aside0.mk hb0
  clear hxg1_0
  clear hfg1_0
  clear hxg2_0
  clear hxg2_1
  clear hfg2_0
  clear hfg2_1
  clear hxg10_0
  clear hfg10_0
  clear hxg11_0
  clear hxg11_1
  clear hfg11_0
  clear hfg11_1
  have hxg1_0 : w17_.cell? ⟨g1, 0, none⟩ = some (.slice A0_0 l0_0.length c0_0) := (blk_cell Bg1.out 0).trans rfl
  have hfg1_0 := blk_frozen Bg1.out 0
  have hxg2_0 : w17_.cell? ⟨g2, 0, none⟩ = some (.int .i64 a2_0) := (blk_cell Bg2.out 0).trans rfl
  have hxg2_1 : w17_.cell? ⟨g2, 1, none⟩ = some (.slice A2_1 l2_1.length c2_1) := (blk_cell Bg2.out 1).trans rfl
  have hfg2_0 := blk_frozen Bg2.out 0
  have hfg2_1 := blk_frozen Bg2.out 1
  have hxg10_0 : w17_.cell? ⟨g10, 0, none⟩ = some (.slice A11_0_ r6_0.length c11_0_) := (blk_cell Bg10.out 0).trans rfl
  have hfg10_0 := blk_frozen Bg10.out 0
  have hxg11_0 : w17_.cell? ⟨g11, 0, none⟩ = some (.int .i64 r8_0) := (blk_cell Bg11.out 0).trans rfl
  have hxg11_1 : w17_.cell? ⟨g11, 1, none⟩ = some (.slice A15_0_ r8_1.length c15_0_) := (blk_cell Bg11.out 1).trans rfl
  have hfg11_0 := blk_frozen Bg11.out 0
  have hfg11_1 := blk_frozen Bg11.out 1
  clear hk hb0
  go_wp2_with (first | (go_at_call 14; refine hold ?_))
  unfold Hold
  refine (impl_AddFact_calls _ _ r6_0 _ _ r7_0 r8_0 _ _ r8_1 r9_0 r9_1 _ (Kd.R_reads' O11_0.out).2.2 (Kd.R_reads' O11_0.out).2.1 (Kd.S_reads' O14_0.out).2.2 (Kd.S_reads' O14_0.out).2.1 (Kd.R_reads' O15_0.out).2.2 (Kd.R_reads' O15_0.out).2.1 e10_hz0.out Ee10.out).mono ?_
  rintro e w18_ ⟨v18_0_, rfl, ho0, hb⟩
  have O18_0 := Aside0.mk (newS ho0 HB.out.size)
  have Z18_ := Aside0.mk (show w17_.heap.size ≤ w18_.heap.size from hb.size)
  have n_ := Aside0.mk (Kd.R_below O7_0.out hb); clear O7_0; have O7_0 := n_; clear n_
  have n_ := Aside0.mk (Kd.S_below O8_0.out hb); clear O8_0; have O8_0 := n_; clear n_
  have n_ := Aside0.mk (Kd.R_below O9_0.out hb); clear O9_0; have O9_0 := n_; clear n_
  have n_ := Aside0.mk (Kd.S_below O10_0.out hb); clear O10_0; have O10_0 := n_; clear n_
  have n_ := Aside0.mk (Kd.R_below O11_0.out hb); clear O11_0; have O11_0 := n_; clear n_
  have n_ := Aside0.mk (Kd.S_below O14_0.out hb); clear O14_0; have O14_0 := n_; clear n_
  have n_ := Aside0.mk (Kd.R_below O15_0.out hb); clear O15_0; have O15_0 := n_; clear n_
  have n_ := Aside0.mk (blk_below Bg1.out hb); clear Bg1; have Bg1 := n_; clear n_
  have n_ := Aside0.mk (blk_below Bg2.out hb); clear Bg2; have Bg2 := n_; clear n_
  have n_ := Aside0.mk (blk_below Bg10.out hb); clear Bg10; have Bg10 := n_; clear n_
  have n_ := Aside0.mk (blk_below Bg11.out hb); clear Bg11; have Bg11 := n_; clear n_
  have n_ := Aside0.mk (below_step HB.out hb); clear HB; have HB := n_; clear n_
  clear hxg1_0
  clear hfg1_0
  clear hxg2_0
  clear hxg2_1
  clear hfg2_0
  clear hfg2_1
  clear hxg10_0
  clear hfg10_0
  clear hxg11_0
  clear hxg11_1
  clear hfg11_0
  clear hfg11_1
  have hxg1_0 : w18_.cell? ⟨g1, 0, none⟩ = some (.slice A0_0 l0_0.length c0_0) := (blk_cell Bg1.out 0).trans rfl
  have hfg1_0 := blk_frozen Bg1.out 0
  have hxg2_0 : w18_.cell? ⟨g2, 0, none⟩ = some (.int .i64 a2_0) := (blk_cell Bg2.out 0).trans rfl
  have hxg2_1 : w18_.cell? ⟨g2, 1, none⟩ = some (.slice A2_1 l2_1.length c2_1) := (blk_cell Bg2.out 1).trans rfl
  have hfg2_0 := blk_frozen Bg2.out 0
  have hfg2_1 := blk_frozen Bg2.out 1
  have hxg10_0 : w18_.cell? ⟨g10, 0, none⟩ = some (.slice A11_0_ r6_0.length c11_0_) := (blk_cell Bg10.out 0).trans rfl
  have hfg10_0 := blk_frozen Bg10.out 0
  have hxg11_0 : w18_.cell? ⟨g11, 0, none⟩ = some (.int .i64 r8_0) := (blk_cell Bg11.out 0).trans rfl
  have hxg11_1 : w18_.cell? ⟨g11, 1, none⟩ = some (.slice A15_0_ r8_1.length c15_0_) := (blk_cell Bg11.out 1).trans rfl
  have hfg11_0 := blk_frozen Bg11.out 0
  have hfg11_1 := blk_frozen Bg11.out 1
  clear hb ho0
  obtain ⟨A18_0_, c18_0_, eq_⟩ := Kd.S_slice O18_0.out
  subst eq_
  go_wp2_with (first | (go_at_call 15; refine hold ?_))
  unfold Hold
  refine (laws_eqFactS.calls ke11 _ _ r9_0 _ _ r9_0 true _ (Kd.S_reads' O18_0.out).2.2 (Kd.S_reads' O18_0.out).2.1 (Kd.S_reads' O10_0.out).2.2 (Kd.S_reads' O10_0.out).2.1 Ee11.out).mono ?_
  rintro e w19_ ⟨rfl, hb⟩
  have Z19_ := Aside0.mk (show w18_.heap.size ≤ w19_.heap.size from hb.size)
  have n_ := Aside0.mk (Kd.R_below O7_0.out hb); clear O7_0; have O7_0 := n_; clear n_
  have n_ := Aside0.mk (Kd.S_below O8_0.out hb); clear O8_0; have O8_0 := n_; clear n_
  have n_ := Aside0.mk (Kd.R_below O9_0.out hb); clear O9_0; have O9_0 := n_; clear n_
  have n_ := Aside0.mk (Kd.S_below O10_0.out hb); clear O10_0; have O10_0 := n_; clear n_
  have n_ := Aside0.mk (Kd.R_below O11_0.out hb); clear O11_0; have O11_0 := n_; clear n_
  have n_ := Aside0.mk (Kd.S_below O14_0.out hb); clear O14_0; have O14_0 := n_; clear n_
  have n_ := Aside0.mk (Kd.R_below O15_0.out hb); clear O15_0; have O15_0 := n_; clear n_
  have n_ := Aside0.mk (Kd.S_below O18_0.out hb); clear O18_0; have O18_0 := n_; clear n_
  have n_ := Aside0.mk (blk_below Bg1.out hb); clear Bg1; have Bg1 := n_; clear n_
  have n_ := Aside0.mk (blk_below Bg2.out hb); clear Bg2; have Bg2 := n_; clear n_
  have n_ := Aside0.mk (blk_below Bg10.out hb); clear Bg10; have Bg10 := n_; clear n_
  have n_ := Aside0.mk (blk_below Bg11.out hb); clear Bg11; have Bg11 := n_; clear n_
  have n_ := Aside0.mk (below_step HB.out hb); clear HB; have HB := n_; clear n_
  clear hxg1_0
  clear hfg1_0
  clear hxg2_0
  clear hxg2_1
  clear hfg2_0
  clear hfg2_1
  clear hxg10_0
  clear hfg10_0
  clear hxg11_0
  clear hxg11_1
  clear hfg11_0
  clear hfg11_1
  have hxg1_0 : w19_.cell? ⟨g1, 0, none⟩ = some (.slice A0_0 l0_0.length c0_0) := (blk_cell Bg1.out 0).trans rfl
  have hfg1_0 := blk_frozen Bg1.out 0
  have hxg2_0 : w19_.cell? ⟨g2, 0, none⟩ = some (.int .i64 a2_0) := (blk_cell Bg2.out 0).trans rfl
  have hxg2_1 : w19_.cell? ⟨g2, 1, none⟩ = some (.slice A2_1 l2_1.length c2_1) := (blk_cell Bg2.out 1).trans rfl
  have hfg2_0 := blk_frozen Bg2.out 0
  have hfg2_1 := blk_frozen Bg2.out 1
  have hxg10_0 : w19_.cell? ⟨g10, 0, none⟩ = some (.slice A11_0_ r6_0.length c11_0_) := (blk_cell Bg10.out 0).trans rfl
  have hfg10_0 := blk_frozen Bg10.out 0
  have hxg11_0 : w19_.cell? ⟨g11, 0, none⟩ = some (.int .i64 r8_0) := (blk_cell Bg11.out 0).trans rfl
  have hxg11_1 : w19_.cell? ⟨g11, 1, none⟩ = some (.slice A15_0_ r8_1.length c15_0_) := (blk_cell Bg11.out 1).trans rfl
  have hfg11_0 := blk_frozen Bg11.out 0
  have hfg11_1 := blk_frozen Bg11.out 1
  clear hb
  try go_wp2_with fail
  have n_ := Aside0.mk (Kd.R_drew O7_0.out); clear O7_0; have O7_0 := n_; clear n_
  have n_ := Aside0.mk (Kd.S_drew O8_0.out); clear O8_0; have O8_0 := n_; clear n_
  have n_ := Aside0.mk (Kd.R_drew O9_0.out); clear O9_0; have O9_0 := n_; clear n_
  have n_ := Aside0.mk (Kd.S_drew O10_0.out); clear O10_0; have O10_0 := n_; clear n_
  have n_ := Aside0.mk (Kd.R_drew O11_0.out); clear O11_0; have O11_0 := n_; clear n_
  have n_ := Aside0.mk (Kd.S_drew O14_0.out); clear O14_0; have O14_0 := n_; clear n_
  have n_ := Aside0.mk (Kd.R_drew O15_0.out); clear O15_0; have O15_0 := n_; clear n_
  have n_ := Aside0.mk (Kd.S_drew O18_0.out); clear O18_0; have O18_0 := n_; clear n_
  have n_ := Aside0.mk (blk_drew Bg1.out); clear Bg1; have Bg1 := n_; clear n_
  have n_ := Aside0.mk (blk_drew Bg2.out); clear Bg2; have Bg2 := n_; clear n_
  have n_ := Aside0.mk (blk_drew Bg10.out); clear Bg10; have Bg10 := n_; clear n_
  have n_ := Aside0.mk (blk_drew Bg11.out); clear Bg11; have Bg11 := n_; clear n_
  have n_ := Aside0.mk (below_drew1 HB.out); clear HB; have HB := n_; clear n_
  clear hxg1_0
  clear hfg1_0
  clear hxg2_0
  clear hxg2_1
  clear hfg2_0
  clear hfg2_1
  clear hxg10_0
  clear hfg10_0
  clear hxg11_0
  clear hxg11_1
  clear hfg11_0
  clear hfg11_1
  have hz := Aside0.mk (show w19_.heap.size ≤ w19_.drew.heap.size from Nat.le_refl _)
  refine start_ (n := 5) (S := fun w' => w'.cell? ⟨g10, 0, none⟩ = some (.slice A11_0_ r6_0.length c11_0_) ∧ w'.cell? ⟨g1, 0, none⟩ = some (.slice A0_0 l0_0.length c0_0)) (ds := []) #[false,false,false,false,false] (by kernel_rfl) rfl rfl ⟨(blk_cell Bg10.out 0).trans rfl, (blk_cell Bg1.out 0).trans rfl⟩ (fun hHeld => ?_)
  generalize w19_.drew = w20_ at O7_0 O8_0 O9_0 O10_0 O11_0 O14_0 O15_0 O18_0 Bg1 Bg2 Bg10 Bg11 HB hz hHeld ⊢
  have Z20_ := hz; clear hz
  refine take_ (i := 0) (N := some 67) (v := ?_) (a' := ?_) #[true,false,false,false,false] rfl rfl (by kernel_rfl) (fun _ _ _ h => h) (Or.inl ⟨by rfl, ?_⟩) hHeld ?_ ?_
  rotate_left
  · rintro w' ⟨s0, s1⟩; go_simp; with_reducible rfl
  rotate_left
  · simp only [Act.put, List.setIfInBounds_toArray, List.set_cons_zero, List.set_cons_succ, i64_w, i32_w]; rfl
  refine take_ (i := 1) (N := some 68) (v := ?_) (a' := ?_) #[true,true,false,false,false] rfl rfl (by kernel_rfl) (fun _ _ _ h => h) (Or.inl ⟨by rfl, ?_⟩) hHeld ?_ ?_
  rotate_left
  · rintro w' ⟨s0, s1⟩; go_simp; with_reducible rfl
  rotate_left
  · simp only [Act.put, List.setIfInBounds_toArray, List.set_cons_zero, List.set_cons_succ, i64_w, i32_w]; rfl
  refine one_ (i := 2) (N := some 69) #[true,true,true,false,false] rfl rfl (by kernel_rfl) (by decide) (fun K hK => ?_)
  refine goes_ Try.func11 (by kernel_rfl) rfl #[.agg #[.slice A0_0 l0_0.length c0_0]] (by rfl) rfl rfl (by (try simp only [List.map_toArray, List.map_cons, List.map_nil]); first | done | rfl) ?_
  with_reducible refine (laws_toSchema.calls ke6 _ _ l0_0 r6_0 _ (Kd.C_below H0_0.out HB.out) HC0_0.out Ee6.out).mono ?_
  rintro e w21_ ⟨v21_0_, rfl, ho0, hb⟩
  refine ⟨_, rfl, ?_⟩
  have O21_0 := Aside0.mk (newR ho0 HB.out.size)
  have Z21_ := Aside0.mk (show w20_.heap.size ≤ w21_.heap.size from hb.size)
  have n_ := Aside0.mk (Kd.R_below O7_0.out hb); clear O7_0; have O7_0 := n_; clear n_
  have n_ := Aside0.mk (Kd.S_below O8_0.out hb); clear O8_0; have O8_0 := n_; clear n_
  have n_ := Aside0.mk (Kd.R_below O9_0.out hb); clear O9_0; have O9_0 := n_; clear n_
  have n_ := Aside0.mk (Kd.S_below O10_0.out hb); clear O10_0; have O10_0 := n_; clear n_
  have n_ := Aside0.mk (Kd.R_below O11_0.out hb); clear O11_0; have O11_0 := n_; clear n_
  have n_ := Aside0.mk (Kd.S_below O14_0.out hb); clear O14_0; have O14_0 := n_; clear n_
  have n_ := Aside0.mk (Kd.R_below O15_0.out hb); clear O15_0; have O15_0 := n_; clear n_
  have n_ := Aside0.mk (Kd.S_below O18_0.out hb); clear O18_0; have O18_0 := n_; clear n_
  have n_ := Aside0.mk (blk_below Bg1.out hb); clear Bg1; have Bg1 := n_; clear n_
  have n_ := Aside0.mk (blk_below Bg2.out hb); clear Bg2; have Bg2 := n_; clear n_
  have n_ := Aside0.mk (blk_below Bg10.out hb); clear Bg10; have Bg10 := n_; clear n_
  have n_ := Aside0.mk (blk_below Bg11.out hb); clear Bg11; have Bg11 := n_; clear n_
  have n_ := Aside0.mk (below_step HB.out hb); clear HB; have HB := n_; clear n_
  have hxg1_0 : w21_.cell? ⟨g1, 0, none⟩ = some (.slice A0_0 l0_0.length c0_0) := (blk_cell Bg1.out 0).trans rfl
  have hfg1_0 := blk_frozen Bg1.out 0
  have hxg2_0 : w21_.cell? ⟨g2, 0, none⟩ = some (.int .i64 a2_0) := (blk_cell Bg2.out 0).trans rfl
  have hxg2_1 : w21_.cell? ⟨g2, 1, none⟩ = some (.slice A2_1 l2_1.length c2_1) := (blk_cell Bg2.out 1).trans rfl
  have hfg2_0 := blk_frozen Bg2.out 0
  have hfg2_1 := blk_frozen Bg2.out 1
  have hxg10_0 : w21_.cell? ⟨g10, 0, none⟩ = some (.slice A11_0_ r6_0.length c11_0_) := (blk_cell Bg10.out 0).trans rfl
  have hfg10_0 := blk_frozen Bg10.out 0
  have hxg11_0 : w21_.cell? ⟨g11, 0, none⟩ = some (.int .i64 r8_0) := (blk_cell Bg11.out 0).trans rfl
  have hxg11_1 : w21_.cell? ⟨g11, 1, none⟩ = some (.slice A15_0_ r8_1.length c15_0_) := (blk_cell Bg11.out 1).trans rfl
  have hfg11_0 := blk_frozen Bg11.out 0
  have hfg11_1 := blk_frozen Bg11.out 1
  clear hb ho0
  obtain ⟨A21_0_, c21_0_, eq_⟩ := Kd.R_slice O21_0.out
  subst eq_
  clear hxg1_0
  clear hfg1_0
  clear hxg2_0
  clear hxg2_1
  clear hfg2_0
  clear hfg2_1
  clear hxg10_0
  clear hfg10_0
  clear hxg11_0
  clear hxg11_1
  clear hfg11_0
  clear hfg11_1
  refine hK.out _ _ ⟨(blk_cell Bg10.out 0).trans rfl, (blk_cell Bg1.out 0).trans rfl⟩ (fun hHeld => ?_)
  clear hK K
  refine norm_ (a' := ?_) ?_ ?_
  rotate_left
  · show Act.put _ (some 69) _ = _; simp only [Act.put, List.setIfInBounds_toArray, List.set_cons_zero, List.set_cons_succ, i64_w, i32_w]; rfl
  refine one_ (i := 3) (N := some 70) #[true,true,true,true,false] rfl rfl (by kernel_rfl) (by decide) (fun K hK => ?_)
  refine goes_ Try.func16 (by kernel_rfl) rfl #[.agg #[.slice A11_0_ r6_0.length c11_0_], .agg #[.slice A21_0_ r6_0.length c21_0_]] (by rfl) rfl rfl (by (try simp only [List.map_toArray, List.map_cons, List.map_nil]); first | done | rfl) ?_
  with_reducible refine (laws_eqSchema.calls ke12 _ _ r6_0 _ _ r6_0 true _ (Kd.R_reads' O11_0.out).2.2 (Kd.R_reads' O11_0.out).2.1 (Kd.R_reads' O21_0.out).2.2 (Kd.R_reads' O21_0.out).2.1 Ee12.out).mono ?_
  rintro e w22_ ⟨rfl, hb⟩
  refine ⟨_, rfl, ?_⟩
  have Z22_ := Aside0.mk (show w21_.heap.size ≤ w22_.heap.size from hb.size)
  have n_ := Aside0.mk (Kd.R_below O7_0.out hb); clear O7_0; have O7_0 := n_; clear n_
  have n_ := Aside0.mk (Kd.S_below O8_0.out hb); clear O8_0; have O8_0 := n_; clear n_
  have n_ := Aside0.mk (Kd.R_below O9_0.out hb); clear O9_0; have O9_0 := n_; clear n_
  have n_ := Aside0.mk (Kd.S_below O10_0.out hb); clear O10_0; have O10_0 := n_; clear n_
  have n_ := Aside0.mk (Kd.R_below O11_0.out hb); clear O11_0; have O11_0 := n_; clear n_
  have n_ := Aside0.mk (Kd.S_below O14_0.out hb); clear O14_0; have O14_0 := n_; clear n_
  have n_ := Aside0.mk (Kd.R_below O15_0.out hb); clear O15_0; have O15_0 := n_; clear n_
  have n_ := Aside0.mk (Kd.S_below O18_0.out hb); clear O18_0; have O18_0 := n_; clear n_
  have n_ := Aside0.mk (Kd.R_below O21_0.out hb); clear O21_0; have O21_0 := n_; clear n_
  have n_ := Aside0.mk (blk_below Bg1.out hb); clear Bg1; have Bg1 := n_; clear n_
  have n_ := Aside0.mk (blk_below Bg2.out hb); clear Bg2; have Bg2 := n_; clear n_
  have n_ := Aside0.mk (blk_below Bg10.out hb); clear Bg10; have Bg10 := n_; clear n_
  have n_ := Aside0.mk (blk_below Bg11.out hb); clear Bg11; have Bg11 := n_; clear n_
  have n_ := Aside0.mk (below_step HB.out hb); clear HB; have HB := n_; clear n_
  have hxg1_0 : w22_.cell? ⟨g1, 0, none⟩ = some (.slice A0_0 l0_0.length c0_0) := (blk_cell Bg1.out 0).trans rfl
  have hfg1_0 := blk_frozen Bg1.out 0
  have hxg2_0 : w22_.cell? ⟨g2, 0, none⟩ = some (.int .i64 a2_0) := (blk_cell Bg2.out 0).trans rfl
  have hxg2_1 : w22_.cell? ⟨g2, 1, none⟩ = some (.slice A2_1 l2_1.length c2_1) := (blk_cell Bg2.out 1).trans rfl
  have hfg2_0 := blk_frozen Bg2.out 0
  have hfg2_1 := blk_frozen Bg2.out 1
  have hxg10_0 : w22_.cell? ⟨g10, 0, none⟩ = some (.slice A11_0_ r6_0.length c11_0_) := (blk_cell Bg10.out 0).trans rfl
  have hfg10_0 := blk_frozen Bg10.out 0
  have hxg11_0 : w22_.cell? ⟨g11, 0, none⟩ = some (.int .i64 r8_0) := (blk_cell Bg11.out 0).trans rfl
  have hxg11_1 : w22_.cell? ⟨g11, 1, none⟩ = some (.slice A15_0_ r8_1.length c15_0_) := (blk_cell Bg11.out 1).trans rfl
  have hfg11_0 := blk_frozen Bg11.out 0
  have hfg11_1 := blk_frozen Bg11.out 1
  clear hb
  clear hxg1_0
  clear hfg1_0
  clear hxg2_0
  clear hxg2_1
  clear hfg2_0
  clear hfg2_1
  clear hxg10_0
  clear hfg10_0
  clear hxg11_0
  clear hxg11_1
  clear hfg11_0
  clear hfg11_1
  refine hK.out _ _ ⟨(blk_cell Bg10.out 0).trans rfl, (blk_cell Bg1.out 0).trans rfl⟩ (fun hHeld => ?_)
  clear hK K
  refine norm_ (a' := ?_) ?_ ?_
  rotate_left
  · show Act.put _ (some 70) _ = _; simp only [Act.put, List.setIfInBounds_toArray, List.set_cons_zero, List.set_cons_succ, i64_w, i32_w]; rfl
  refine pure_ (i := 4) (N := some 71) (v := ?_) (a' := ?_) #[true,true,true,true,true] rfl rfl (by kernel_rfl) (fun _ _ _ h => h) (Or.inl ⟨by rfl, ?_⟩) ?_ ?_
  rotate_left
  · intro w'; go_simp; with_reducible rfl
  rotate_left
  · simp only [Act.put, List.setIfInBounds_toArray, List.set_cons_zero, List.set_cons_succ, i64_w, i32_w]; rfl
  refine done_ (by kernel_rfl) ?_
  have hxg1_0 : w22_.cell? ⟨g1, 0, none⟩ = some (.slice A0_0 l0_0.length c0_0) := (blk_cell Bg1.out 0).trans rfl
  have hfg1_0 := blk_frozen Bg1.out 0
  have hxg2_0 : w22_.cell? ⟨g2, 0, none⟩ = some (.int .i64 a2_0) := (blk_cell Bg2.out 0).trans rfl
  have hxg2_1 : w22_.cell? ⟨g2, 1, none⟩ = some (.slice A2_1 l2_1.length c2_1) := (blk_cell Bg2.out 1).trans rfl
  have hfg2_0 := blk_frozen Bg2.out 0
  have hfg2_1 := blk_frozen Bg2.out 1
  have hxg10_0 : w22_.cell? ⟨g10, 0, none⟩ = some (.slice A11_0_ r6_0.length c11_0_) := (blk_cell Bg10.out 0).trans rfl
  have hfg10_0 := blk_frozen Bg10.out 0
  have hxg11_0 : w22_.cell? ⟨g11, 0, none⟩ = some (.int .i64 r8_0) := (blk_cell Bg11.out 0).trans rfl
  have hxg11_1 : w22_.cell? ⟨g11, 1, none⟩ = some (.slice A15_0_ r8_1.length c15_0_) := (blk_cell Bg11.out 1).trans rfl
  have hfg11_0 := blk_frozen Bg11.out 0
  have hfg11_1 := blk_frozen Bg11.out 1
  go_wp2_with (first | (go_at_call 12; refine hold ?_))
  unfold Hold
  refine (laws_toFactS.calls ke7 _ _ l1 r7_0 _ (Kd.C_below H1.out HB.out) HC1.out Ee7.out).mono ?_
  rintro e w23_ ⟨v23_0_, rfl, ho0, hb⟩
  have O23_0 := Aside0.mk (newS ho0 HB.out.size)
  have Z23_ := Aside0.mk (show w22_.heap.size ≤ w23_.heap.size from hb.size)
  have n_ := Aside0.mk (Kd.R_below O7_0.out hb); clear O7_0; have O7_0 := n_; clear n_
  have n_ := Aside0.mk (Kd.S_below O8_0.out hb); clear O8_0; have O8_0 := n_; clear n_
  have n_ := Aside0.mk (Kd.R_below O9_0.out hb); clear O9_0; have O9_0 := n_; clear n_
  have n_ := Aside0.mk (Kd.S_below O10_0.out hb); clear O10_0; have O10_0 := n_; clear n_
  have n_ := Aside0.mk (Kd.R_below O11_0.out hb); clear O11_0; have O11_0 := n_; clear n_
  have n_ := Aside0.mk (Kd.S_below O14_0.out hb); clear O14_0; have O14_0 := n_; clear n_
  have n_ := Aside0.mk (Kd.R_below O15_0.out hb); clear O15_0; have O15_0 := n_; clear n_
  have n_ := Aside0.mk (Kd.S_below O18_0.out hb); clear O18_0; have O18_0 := n_; clear n_
  have n_ := Aside0.mk (Kd.R_below O21_0.out hb); clear O21_0; have O21_0 := n_; clear n_
  have n_ := Aside0.mk (blk_below Bg1.out hb); clear Bg1; have Bg1 := n_; clear n_
  have n_ := Aside0.mk (blk_below Bg2.out hb); clear Bg2; have Bg2 := n_; clear n_
  have n_ := Aside0.mk (blk_below Bg10.out hb); clear Bg10; have Bg10 := n_; clear n_
  have n_ := Aside0.mk (blk_below Bg11.out hb); clear Bg11; have Bg11 := n_; clear n_
  have n_ := Aside0.mk (below_step HB.out hb); clear HB; have HB := n_; clear n_
  clear hxg1_0
  clear hfg1_0
  clear hxg2_0
  clear hxg2_1
  clear hfg2_0
  clear hfg2_1
  clear hxg10_0
  clear hfg10_0
  clear hxg11_0
  clear hxg11_1
  clear hfg11_0
  clear hfg11_1
  have hxg1_0 : w23_.cell? ⟨g1, 0, none⟩ = some (.slice A0_0 l0_0.length c0_0) := (blk_cell Bg1.out 0).trans rfl
  have hfg1_0 := blk_frozen Bg1.out 0
  have hxg2_0 : w23_.cell? ⟨g2, 0, none⟩ = some (.int .i64 a2_0) := (blk_cell Bg2.out 0).trans rfl
  have hxg2_1 : w23_.cell? ⟨g2, 1, none⟩ = some (.slice A2_1 l2_1.length c2_1) := (blk_cell Bg2.out 1).trans rfl
  have hfg2_0 := blk_frozen Bg2.out 0
  have hfg2_1 := blk_frozen Bg2.out 1
  have hxg10_0 : w23_.cell? ⟨g10, 0, none⟩ = some (.slice A11_0_ r6_0.length c11_0_) := (blk_cell Bg10.out 0).trans rfl
  have hfg10_0 := blk_frozen Bg10.out 0
  have hxg11_0 : w23_.cell? ⟨g11, 0, none⟩ = some (.int .i64 r8_0) := (blk_cell Bg11.out 0).trans rfl
  have hxg11_1 : w23_.cell? ⟨g11, 1, none⟩ = some (.slice A15_0_ r8_1.length c15_0_) := (blk_cell Bg11.out 1).trans rfl
  have hfg11_0 := blk_frozen Bg11.out 0
  have hfg11_1 := blk_frozen Bg11.out 1
  clear hb ho0
  obtain ⟨A23_0_, c23_0_, eq_⟩ := Kd.S_slice O23_0.out
  subst eq_
  go_wp2_with (first | (go_at_call 15; refine hold ?_))
  unfold Hold
  refine (laws_eqFactS.calls ke13 _ _ r7_0 _ _ r7_0 true _ (Kd.S_reads' O14_0.out).2.2 (Kd.S_reads' O14_0.out).2.1 (Kd.S_reads' O23_0.out).2.2 (Kd.S_reads' O23_0.out).2.1 Ee13.out).mono ?_
  rintro e w24_ ⟨rfl, hb⟩
  have Z24_ := Aside0.mk (show w23_.heap.size ≤ w24_.heap.size from hb.size)
  have n_ := Aside0.mk (Kd.R_below O7_0.out hb); clear O7_0; have O7_0 := n_; clear n_
  have n_ := Aside0.mk (Kd.S_below O8_0.out hb); clear O8_0; have O8_0 := n_; clear n_
  have n_ := Aside0.mk (Kd.R_below O9_0.out hb); clear O9_0; have O9_0 := n_; clear n_
  have n_ := Aside0.mk (Kd.S_below O10_0.out hb); clear O10_0; have O10_0 := n_; clear n_
  have n_ := Aside0.mk (Kd.R_below O11_0.out hb); clear O11_0; have O11_0 := n_; clear n_
  have n_ := Aside0.mk (Kd.S_below O14_0.out hb); clear O14_0; have O14_0 := n_; clear n_
  have n_ := Aside0.mk (Kd.R_below O15_0.out hb); clear O15_0; have O15_0 := n_; clear n_
  have n_ := Aside0.mk (Kd.S_below O18_0.out hb); clear O18_0; have O18_0 := n_; clear n_
  have n_ := Aside0.mk (Kd.R_below O21_0.out hb); clear O21_0; have O21_0 := n_; clear n_
  have n_ := Aside0.mk (Kd.S_below O23_0.out hb); clear O23_0; have O23_0 := n_; clear n_
  have n_ := Aside0.mk (blk_below Bg1.out hb); clear Bg1; have Bg1 := n_; clear n_
  have n_ := Aside0.mk (blk_below Bg2.out hb); clear Bg2; have Bg2 := n_; clear n_
  have n_ := Aside0.mk (blk_below Bg10.out hb); clear Bg10; have Bg10 := n_; clear n_
  have n_ := Aside0.mk (blk_below Bg11.out hb); clear Bg11; have Bg11 := n_; clear n_
  have n_ := Aside0.mk (below_step HB.out hb); clear HB; have HB := n_; clear n_
  clear hxg1_0
  clear hfg1_0
  clear hxg2_0
  clear hxg2_1
  clear hfg2_0
  clear hfg2_1
  clear hxg10_0
  clear hfg10_0
  clear hxg11_0
  clear hxg11_1
  clear hfg11_0
  clear hfg11_1
  have hxg1_0 : w24_.cell? ⟨g1, 0, none⟩ = some (.slice A0_0 l0_0.length c0_0) := (blk_cell Bg1.out 0).trans rfl
  have hfg1_0 := blk_frozen Bg1.out 0
  have hxg2_0 : w24_.cell? ⟨g2, 0, none⟩ = some (.int .i64 a2_0) := (blk_cell Bg2.out 0).trans rfl
  have hxg2_1 : w24_.cell? ⟨g2, 1, none⟩ = some (.slice A2_1 l2_1.length c2_1) := (blk_cell Bg2.out 1).trans rfl
  have hfg2_0 := blk_frozen Bg2.out 0
  have hfg2_1 := blk_frozen Bg2.out 1
  have hxg10_0 : w24_.cell? ⟨g10, 0, none⟩ = some (.slice A11_0_ r6_0.length c11_0_) := (blk_cell Bg10.out 0).trans rfl
  have hfg10_0 := blk_frozen Bg10.out 0
  have hxg11_0 : w24_.cell? ⟨g11, 0, none⟩ = some (.int .i64 r8_0) := (blk_cell Bg11.out 0).trans rfl
  have hxg11_1 : w24_.cell? ⟨g11, 1, none⟩ = some (.slice A15_0_ r8_1.length c15_0_) := (blk_cell Bg11.out 1).trans rfl
  have hfg11_0 := blk_frozen Bg11.out 0
  have hfg11_1 := blk_frozen Bg11.out 1
  clear hb
  try go_wp2_with fail
  have n_ := Aside0.mk (Kd.R_drew O7_0.out); clear O7_0; have O7_0 := n_; clear n_
  have n_ := Aside0.mk (Kd.S_drew O8_0.out); clear O8_0; have O8_0 := n_; clear n_
  have n_ := Aside0.mk (Kd.R_drew O9_0.out); clear O9_0; have O9_0 := n_; clear n_
  have n_ := Aside0.mk (Kd.S_drew O10_0.out); clear O10_0; have O10_0 := n_; clear n_
  have n_ := Aside0.mk (Kd.R_drew O11_0.out); clear O11_0; have O11_0 := n_; clear n_
  have n_ := Aside0.mk (Kd.S_drew O14_0.out); clear O14_0; have O14_0 := n_; clear n_
  have n_ := Aside0.mk (Kd.R_drew O15_0.out); clear O15_0; have O15_0 := n_; clear n_
  have n_ := Aside0.mk (Kd.S_drew O18_0.out); clear O18_0; have O18_0 := n_; clear n_
  have n_ := Aside0.mk (Kd.R_drew O21_0.out); clear O21_0; have O21_0 := n_; clear n_
  have n_ := Aside0.mk (Kd.S_drew O23_0.out); clear O23_0; have O23_0 := n_; clear n_
  have n_ := Aside0.mk (blk_drew Bg1.out); clear Bg1; have Bg1 := n_; clear n_
  have n_ := Aside0.mk (blk_drew Bg2.out); clear Bg2; have Bg2 := n_; clear n_
  have n_ := Aside0.mk (blk_drew Bg10.out); clear Bg10; have Bg10 := n_; clear n_
  have n_ := Aside0.mk (blk_drew Bg11.out); clear Bg11; have Bg11 := n_; clear n_
  have n_ := Aside0.mk (below_drew1 HB.out); clear HB; have HB := n_; clear n_
  clear hxg1_0
  clear hfg1_0
  clear hxg2_0
  clear hxg2_1
  clear hfg2_0
  clear hfg2_1
  clear hxg10_0
  clear hfg10_0
  clear hxg11_0
  clear hxg11_1
  clear hfg11_0
  clear hfg11_1
  have hz := Aside0.mk (show w24_.heap.size ≤ w24_.drew.heap.size from Nat.le_refl _)
  refine start_ (n := 5) (S := fun w' => w'.cell? ⟨g11, 0, none⟩ = some (.int .i64 r8_0) ∧ w'.cell? ⟨g11, 1, none⟩ = some (.slice A15_0_ r8_1.length c15_0_) ∧ w'.cell? ⟨g2, 0, none⟩ = some (.int .i64 a2_0) ∧ w'.cell? ⟨g2, 1, none⟩ = some (.slice A2_1 l2_1.length c2_1)) (ds := []) #[false,false,false,false,false] (by kernel_rfl) rfl rfl ⟨(blk_cell Bg11.out 0).trans rfl, (blk_cell Bg11.out 1).trans rfl, (blk_cell Bg2.out 0).trans rfl, (blk_cell Bg2.out 1).trans rfl⟩ (fun hHeld => ?_)
  generalize w24_.drew = w25_ at O7_0 O8_0 O9_0 O10_0 O11_0 O14_0 O15_0 O18_0 O21_0 O23_0 Bg1 Bg2 Bg10 Bg11 HB hz hHeld ⊢
  have Z25_ := hz; clear hz
  refine take_ (i := 0) (N := some 77) (v := ?_) (a' := ?_) #[true,false,false,false,false] rfl rfl (by kernel_rfl) (fun _ _ _ h => h) (Or.inl ⟨by rfl, ?_⟩) hHeld ?_ ?_
  rotate_left
  · rintro w' ⟨s0, s1, s2, s3⟩; go_simp; with_reducible rfl
  rotate_left
  · simp only [Act.put, List.setIfInBounds_toArray, List.set_cons_zero, List.set_cons_succ, i64_w, i32_w]; rfl
  refine take_ (i := 1) (N := some 78) (v := ?_) (a' := ?_) #[true,true,false,false,false] rfl rfl (by kernel_rfl) (fun _ _ _ h => h) (Or.inl ⟨by rfl, ?_⟩) hHeld ?_ ?_
  rotate_left
  · rintro w' ⟨s0, s1, s2, s3⟩; go_simp; with_reducible rfl
  rotate_left
  · simp only [Act.put, List.setIfInBounds_toArray, List.set_cons_zero, List.set_cons_succ, i64_w, i32_w]; rfl
  refine one_ (i := 2) (N := some 79) #[true,true,true,false,false] rfl rfl (by kernel_rfl) (by decide) (fun K hK => ?_)
  refine goes_ Try.func13 (by kernel_rfl) rfl #[.agg #[.int .i64 a2_0, .slice A2_1 l2_1.length c2_1]] (by rfl) rfl rfl (by (try simp only [List.map_toArray, List.map_cons, List.map_nil]); first | done | rfl) ?_
  with_reducible refine (laws_toFact.calls ke8 a2_0 _ _ l2_1 r8_0 r8_1 _ (Kd.C_below H2_1.out HB.out) HC2_1.out Ee8.out).mono ?_
  rintro e w26_ ⟨v26_0_, rfl, ho0, hb⟩
  refine ⟨_, rfl, ?_⟩
  have O26_0 := Aside0.mk (newR ho0 HB.out.size)
  have Z26_ := Aside0.mk (show w25_.heap.size ≤ w26_.heap.size from hb.size)
  have n_ := Aside0.mk (Kd.R_below O7_0.out hb); clear O7_0; have O7_0 := n_; clear n_
  have n_ := Aside0.mk (Kd.S_below O8_0.out hb); clear O8_0; have O8_0 := n_; clear n_
  have n_ := Aside0.mk (Kd.R_below O9_0.out hb); clear O9_0; have O9_0 := n_; clear n_
  have n_ := Aside0.mk (Kd.S_below O10_0.out hb); clear O10_0; have O10_0 := n_; clear n_
  have n_ := Aside0.mk (Kd.R_below O11_0.out hb); clear O11_0; have O11_0 := n_; clear n_
  have n_ := Aside0.mk (Kd.S_below O14_0.out hb); clear O14_0; have O14_0 := n_; clear n_
  have n_ := Aside0.mk (Kd.R_below O15_0.out hb); clear O15_0; have O15_0 := n_; clear n_
  have n_ := Aside0.mk (Kd.S_below O18_0.out hb); clear O18_0; have O18_0 := n_; clear n_
  have n_ := Aside0.mk (Kd.R_below O21_0.out hb); clear O21_0; have O21_0 := n_; clear n_
  have n_ := Aside0.mk (Kd.S_below O23_0.out hb); clear O23_0; have O23_0 := n_; clear n_
  have n_ := Aside0.mk (blk_below Bg1.out hb); clear Bg1; have Bg1 := n_; clear n_
  have n_ := Aside0.mk (blk_below Bg2.out hb); clear Bg2; have Bg2 := n_; clear n_
  have n_ := Aside0.mk (blk_below Bg10.out hb); clear Bg10; have Bg10 := n_; clear n_
  have n_ := Aside0.mk (blk_below Bg11.out hb); clear Bg11; have Bg11 := n_; clear n_
  have n_ := Aside0.mk (below_step HB.out hb); clear HB; have HB := n_; clear n_
  have hxg1_0 : w26_.cell? ⟨g1, 0, none⟩ = some (.slice A0_0 l0_0.length c0_0) := (blk_cell Bg1.out 0).trans rfl
  have hfg1_0 := blk_frozen Bg1.out 0
  have hxg2_0 : w26_.cell? ⟨g2, 0, none⟩ = some (.int .i64 a2_0) := (blk_cell Bg2.out 0).trans rfl
  have hxg2_1 : w26_.cell? ⟨g2, 1, none⟩ = some (.slice A2_1 l2_1.length c2_1) := (blk_cell Bg2.out 1).trans rfl
  have hfg2_0 := blk_frozen Bg2.out 0
  have hfg2_1 := blk_frozen Bg2.out 1
  have hxg10_0 : w26_.cell? ⟨g10, 0, none⟩ = some (.slice A11_0_ r6_0.length c11_0_) := (blk_cell Bg10.out 0).trans rfl
  have hfg10_0 := blk_frozen Bg10.out 0
  have hxg11_0 : w26_.cell? ⟨g11, 0, none⟩ = some (.int .i64 r8_0) := (blk_cell Bg11.out 0).trans rfl
  have hxg11_1 : w26_.cell? ⟨g11, 1, none⟩ = some (.slice A15_0_ r8_1.length c15_0_) := (blk_cell Bg11.out 1).trans rfl
  have hfg11_0 := blk_frozen Bg11.out 0
  have hfg11_1 := blk_frozen Bg11.out 1
  clear hb ho0
  obtain ⟨A26_0_, c26_0_, eq_⟩ := Kd.R_slice O26_0.out
  subst eq_
  clear hxg1_0
  clear hfg1_0
  clear hxg2_0
  clear hxg2_1
  clear hfg2_0
  clear hfg2_1
  clear hxg10_0
  clear hfg10_0
  clear hxg11_0
  clear hxg11_1
  clear hfg11_0
  clear hfg11_1
  refine hK.out _ _ ⟨(blk_cell Bg11.out 0).trans rfl, (blk_cell Bg11.out 1).trans rfl, (blk_cell Bg2.out 0).trans rfl, (blk_cell Bg2.out 1).trans rfl⟩ (fun hHeld => ?_)
  clear hK K
  refine norm_ (a' := ?_) ?_ ?_
  rotate_left
  · show Act.put _ (some 79) _ = _; simp only [Act.put, List.setIfInBounds_toArray, List.set_cons_zero, List.set_cons_succ, i64_w, i32_w]; rfl
  refine one_ (i := 3) (N := some 80) #[true,true,true,true,false] rfl rfl (by kernel_rfl) (by decide) (fun K hK => ?_)
  refine goes_ Try.func17 (by kernel_rfl) rfl #[.agg #[.int .i64 r8_0, .slice A15_0_ r8_1.length c15_0_], .agg #[.int .i64 r8_0, .slice A26_0_ r8_1.length c26_0_]] (by rfl) rfl rfl (by (try simp only [List.map_toArray, List.map_cons, List.map_nil]); first | done | rfl) ?_
  with_reducible refine (laws_eqFact.calls ke14 r8_0 _ _ r8_1 r8_0 _ _ r8_1 true _ (Kd.R_reads' O15_0.out).2.2 (Kd.R_reads' O15_0.out).2.1 (Kd.R_reads' O26_0.out).2.2 (Kd.R_reads' O26_0.out).2.1 Ee14.out).mono ?_
  rintro e w27_ ⟨rfl, hb⟩
  refine ⟨_, rfl, ?_⟩
  have Z27_ := Aside0.mk (show w26_.heap.size ≤ w27_.heap.size from hb.size)
  have n_ := Aside0.mk (Kd.R_below O7_0.out hb); clear O7_0; have O7_0 := n_; clear n_
  have n_ := Aside0.mk (Kd.S_below O8_0.out hb); clear O8_0; have O8_0 := n_; clear n_
  have n_ := Aside0.mk (Kd.R_below O9_0.out hb); clear O9_0; have O9_0 := n_; clear n_
  have n_ := Aside0.mk (Kd.S_below O10_0.out hb); clear O10_0; have O10_0 := n_; clear n_
  have n_ := Aside0.mk (Kd.R_below O11_0.out hb); clear O11_0; have O11_0 := n_; clear n_
  have n_ := Aside0.mk (Kd.S_below O14_0.out hb); clear O14_0; have O14_0 := n_; clear n_
  have n_ := Aside0.mk (Kd.R_below O15_0.out hb); clear O15_0; have O15_0 := n_; clear n_
  have n_ := Aside0.mk (Kd.S_below O18_0.out hb); clear O18_0; have O18_0 := n_; clear n_
  have n_ := Aside0.mk (Kd.R_below O21_0.out hb); clear O21_0; have O21_0 := n_; clear n_
  have n_ := Aside0.mk (Kd.S_below O23_0.out hb); clear O23_0; have O23_0 := n_; clear n_
  have n_ := Aside0.mk (Kd.R_below O26_0.out hb); clear O26_0; have O26_0 := n_; clear n_
  have n_ := Aside0.mk (blk_below Bg1.out hb); clear Bg1; have Bg1 := n_; clear n_
  have n_ := Aside0.mk (blk_below Bg2.out hb); clear Bg2; have Bg2 := n_; clear n_
  have n_ := Aside0.mk (blk_below Bg10.out hb); clear Bg10; have Bg10 := n_; clear n_
  have n_ := Aside0.mk (blk_below Bg11.out hb); clear Bg11; have Bg11 := n_; clear n_
  have n_ := Aside0.mk (below_step HB.out hb); clear HB; have HB := n_; clear n_
  have hxg1_0 : w27_.cell? ⟨g1, 0, none⟩ = some (.slice A0_0 l0_0.length c0_0) := (blk_cell Bg1.out 0).trans rfl
  have hfg1_0 := blk_frozen Bg1.out 0
  have hxg2_0 : w27_.cell? ⟨g2, 0, none⟩ = some (.int .i64 a2_0) := (blk_cell Bg2.out 0).trans rfl
  have hxg2_1 : w27_.cell? ⟨g2, 1, none⟩ = some (.slice A2_1 l2_1.length c2_1) := (blk_cell Bg2.out 1).trans rfl
  have hfg2_0 := blk_frozen Bg2.out 0
  have hfg2_1 := blk_frozen Bg2.out 1
  have hxg10_0 : w27_.cell? ⟨g10, 0, none⟩ = some (.slice A11_0_ r6_0.length c11_0_) := (blk_cell Bg10.out 0).trans rfl
  have hfg10_0 := blk_frozen Bg10.out 0
  have hxg11_0 : w27_.cell? ⟨g11, 0, none⟩ = some (.int .i64 r8_0) := (blk_cell Bg11.out 0).trans rfl
  have hxg11_1 : w27_.cell? ⟨g11, 1, none⟩ = some (.slice A15_0_ r8_1.length c15_0_) := (blk_cell Bg11.out 1).trans rfl
  have hfg11_0 := blk_frozen Bg11.out 0
  have hfg11_1 := blk_frozen Bg11.out 1
  clear hb
  clear hxg1_0
  clear hfg1_0
  clear hxg2_0
  clear hxg2_1
  clear hfg2_0
  clear hfg2_1
  clear hxg10_0
  clear hfg10_0
  clear hxg11_0
  clear hxg11_1
  clear hfg11_0
  clear hfg11_1
  refine hK.out _ _ ⟨(blk_cell Bg11.out 0).trans rfl, (blk_cell Bg11.out 1).trans rfl, (blk_cell Bg2.out 0).trans rfl, (blk_cell Bg2.out 1).trans rfl⟩ (fun hHeld => ?_)
  clear hK K
  refine norm_ (a' := ?_) ?_ ?_
  rotate_left
  · show Act.put _ (some 80) _ = _; simp only [Act.put, List.setIfInBounds_toArray, List.set_cons_zero, List.set_cons_succ, i64_w, i32_w]; rfl
  refine pure_ (i := 4) (N := some 81) (v := ?_) (a' := ?_) #[true,true,true,true,true] rfl rfl (by kernel_rfl) (fun _ _ _ h => h) (Or.inl ⟨by rfl, ?_⟩) ?_ ?_
  rotate_left
  · intro w'; go_simp; with_reducible rfl
  rotate_left
  · simp only [Act.put, List.setIfInBounds_toArray, List.set_cons_zero, List.set_cons_succ, i64_w, i32_w]; rfl
  refine done_ (by kernel_rfl) ?_
  have hxg1_0 : w27_.cell? ⟨g1, 0, none⟩ = some (.slice A0_0 l0_0.length c0_0) := (blk_cell Bg1.out 0).trans rfl
  have hfg1_0 := blk_frozen Bg1.out 0
  have hxg2_0 : w27_.cell? ⟨g2, 0, none⟩ = some (.int .i64 a2_0) := (blk_cell Bg2.out 0).trans rfl
  have hxg2_1 : w27_.cell? ⟨g2, 1, none⟩ = some (.slice A2_1 l2_1.length c2_1) := (blk_cell Bg2.out 1).trans rfl
  have hfg2_0 := blk_frozen Bg2.out 0
  have hfg2_1 := blk_frozen Bg2.out 1
  have hxg10_0 : w27_.cell? ⟨g10, 0, none⟩ = some (.slice A11_0_ r6_0.length c11_0_) := (blk_cell Bg10.out 0).trans rfl
  have hfg10_0 := blk_frozen Bg10.out 0
  have hxg11_0 : w27_.cell? ⟨g11, 0, none⟩ = some (.int .i64 r8_0) := (blk_cell Bg11.out 0).trans rfl
  have hxg11_1 : w27_.cell? ⟨g11, 1, none⟩ = some (.slice A15_0_ r8_1.length c15_0_) := (blk_cell Bg11.out 1).trans rfl
  have hfg11_0 := blk_frozen Bg11.out 0
  have hfg11_1 := blk_frozen Bg11.out 1
  go_wp2_with (first | (go_at_call 18; refine hold ?_))
  unfold Hold
  refine (laws_markSchema.calls ke15 (fun k_ => w10_.heap.size ≤ k_ ∧ k_ < w11_.heap.size) (.slice A11_0_ r6_0.length c11_0_) r6_0 1 r15_0 r15_1 w _ HB.out (Kd.R_mono O11_0.out (fun _ h_ => h_.1)) Ee15.out).mono ?_
  rintro e w28_ ⟨rfl, ho0, hb0, hk⟩
  have n_ := Aside0.mk (show Kd.R (Kd.int .i64) 3 w28_ w.heap.size (fun k_ => (w10_.heap.size ≤ k_ ∧ k_ < w11_.heap.size) ∧ True) (.slice A11_0_ r6_0.length c11_0_) r15_1 from Kd.R_mono (Kd.R_tight2 rfl ho0) (fun k_ hk_ => ⟨(O11_0.out.1 k_ hk_.1.symm).1, trivial⟩)); clear O11_0; have O11_0 := n_; clear n_
  clear ho0
  have Z28_ := Aside0.mk (show w27_.heap.size ≤ w28_.heap.size from hk.1)
  have n_ := Aside0.mk (Kd.R_kept O7_0.out hk (fun k_ hk1 hk2 => by obtain ⟨a1_, a2_⟩ := hk1.1; obtain ⟨b1_, b2_⟩ := hk2; have z8_ := Z8_.out; have z9_ := Z9_.out; have z10_ := Z10_.out; omega)); clear O7_0; have O7_0 := n_; clear n_
  have n_ := Aside0.mk (Kd.S_kept O8_0.out hk (fun k_ hk1 hk2 => by obtain ⟨a1_, a2_⟩ := hk1.1; obtain ⟨b1_, b2_⟩ := hk2; have z9_ := Z9_.out; have z10_ := Z10_.out; omega)); clear O8_0; have O8_0 := n_; clear n_
  have n_ := Aside0.mk (Kd.R_kept O9_0.out hk (fun k_ hk1 hk2 => by obtain ⟨a1_, a2_⟩ := hk1.1; obtain ⟨b1_, b2_⟩ := hk2; have z10_ := Z10_.out; omega)); clear O9_0; have O9_0 := n_; clear n_
  have n_ := Aside0.mk (Kd.S_kept O10_0.out hk (fun k_ hk1 hk2 => by obtain ⟨a1_, a2_⟩ := hk1.1; obtain ⟨b1_, b2_⟩ := hk2; omega)); clear O10_0; have O10_0 := n_; clear n_
  have n_ := Aside0.mk (Kd.S_kept O14_0.out hk (fun k_ hk1 hk2 => by obtain ⟨a1_, a2_⟩ := hk1.1; obtain ⟨b1_, b2_⟩ := hk2; have z12_ := Z12_.out; have z13_ := Z13_.out; omega)); clear O14_0; have O14_0 := n_; clear n_
  have n_ := Aside0.mk (Kd.R_kept O15_0.out hk (fun k_ hk1 hk2 => by obtain ⟨a1_, a2_⟩ := hk1.1; obtain ⟨b1_, b2_⟩ := hk2; have z12_ := Z12_.out; have z13_ := Z13_.out; have z14_ := Z14_.out; omega)); clear O15_0; have O15_0 := n_; clear n_
  have n_ := Aside0.mk (Kd.S_kept O18_0.out hk (fun k_ hk1 hk2 => by obtain ⟨a1_, a2_⟩ := hk1.1; obtain ⟨b1_, b2_⟩ := hk2; have z12_ := Z12_.out; have z13_ := Z13_.out; have z14_ := Z14_.out; have z15_ := Z15_.out; have z16_ := Z16_.out; have z17_ := Z17_.out; omega)); clear O18_0; have O18_0 := n_; clear n_
  have n_ := Aside0.mk (Kd.R_kept O21_0.out hk (fun k_ hk1 hk2 => by obtain ⟨a1_, a2_⟩ := hk1.1; obtain ⟨b1_, b2_⟩ := hk2; have z12_ := Z12_.out; have z13_ := Z13_.out; have z14_ := Z14_.out; have z15_ := Z15_.out; have z16_ := Z16_.out; have z17_ := Z17_.out; have z18_ := Z18_.out; have z19_ := Z19_.out; have z20_ := Z20_.out; omega)); clear O21_0; have O21_0 := n_; clear n_
  have n_ := Aside0.mk (Kd.S_kept O23_0.out hk (fun k_ hk1 hk2 => by obtain ⟨a1_, a2_⟩ := hk1.1; obtain ⟨b1_, b2_⟩ := hk2; have z12_ := Z12_.out; have z13_ := Z13_.out; have z14_ := Z14_.out; have z15_ := Z15_.out; have z16_ := Z16_.out; have z17_ := Z17_.out; have z18_ := Z18_.out; have z19_ := Z19_.out; have z20_ := Z20_.out; have z21_ := Z21_.out; have z22_ := Z22_.out; omega)); clear O23_0; have O23_0 := n_; clear n_
  have n_ := Aside0.mk (Kd.R_kept O26_0.out hk (fun k_ hk1 hk2 => by obtain ⟨a1_, a2_⟩ := hk1.1; obtain ⟨b1_, b2_⟩ := hk2; have z12_ := Z12_.out; have z13_ := Z13_.out; have z14_ := Z14_.out; have z15_ := Z15_.out; have z16_ := Z16_.out; have z17_ := Z17_.out; have z18_ := Z18_.out; have z19_ := Z19_.out; have z20_ := Z20_.out; have z21_ := Z21_.out; have z22_ := Z22_.out; have z23_ := Z23_.out; have z24_ := Z24_.out; have z25_ := Z25_.out; omega)); clear O26_0; have O26_0 := n_; clear n_
  have n_ := Aside0.mk (blk_kept Bg1.out hk (fun hk2 => by obtain ⟨a1_, a2_⟩ := Gg1.out; obtain ⟨b1_, b2_⟩ := hk2; have z2_ := Z2_.out; have z3_ := Z3_.out; have z4_ := Z4_.out; have z5_ := Z5_.out; have z6_ := Z6_.out; have z7_ := Z7_.out; have z8_ := Z8_.out; have z9_ := Z9_.out; have z10_ := Z10_.out; omega)); clear Bg1; have Bg1 := n_; clear n_
  have n_ := Aside0.mk (blk_kept Bg2.out hk (fun hk2 => by obtain ⟨a1_, a2_⟩ := Gg2.out; obtain ⟨b1_, b2_⟩ := hk2; have z3_ := Z3_.out; have z4_ := Z4_.out; have z5_ := Z5_.out; have z6_ := Z6_.out; have z7_ := Z7_.out; have z8_ := Z8_.out; have z9_ := Z9_.out; have z10_ := Z10_.out; omega)); clear Bg2; have Bg2 := n_; clear n_
  have n_ := Aside0.mk (blk_kept Bg10.out hk (fun hk2 => by obtain ⟨a1_, a2_⟩ := Gg10.out; obtain ⟨b1_, b2_⟩ := hk2; omega)); clear Bg10; have Bg10 := n_; clear n_
  have n_ := Aside0.mk (blk_kept Bg11.out hk (fun hk2 => by obtain ⟨a1_, a2_⟩ := Gg11.out; obtain ⟨b1_, b2_⟩ := hk2; have z12_ := Z12_.out; have z13_ := Z13_.out; have z14_ := Z14_.out; have z15_ := Z15_.out; omega)); clear Bg11; have Bg11 := n_; clear n_
  clear HB; have HB := Aside0.mk hb0
  clear hxg1_0
  clear hfg1_0
  clear hxg2_0
  clear hxg2_1
  clear hfg2_0
  clear hfg2_1
  clear hxg10_0
  clear hfg10_0
  clear hxg11_0
  clear hxg11_1
  clear hfg11_0
  clear hfg11_1
  have hxg1_0 : w28_.cell? ⟨g1, 0, none⟩ = some (.slice A0_0 l0_0.length c0_0) := (blk_cell Bg1.out 0).trans rfl
  have hfg1_0 := blk_frozen Bg1.out 0
  have hxg2_0 : w28_.cell? ⟨g2, 0, none⟩ = some (.int .i64 a2_0) := (blk_cell Bg2.out 0).trans rfl
  have hxg2_1 : w28_.cell? ⟨g2, 1, none⟩ = some (.slice A2_1 l2_1.length c2_1) := (blk_cell Bg2.out 1).trans rfl
  have hfg2_0 := blk_frozen Bg2.out 0
  have hfg2_1 := blk_frozen Bg2.out 1
  have hxg10_0 : w28_.cell? ⟨g10, 0, none⟩ = some (.slice A11_0_ r6_0.length c11_0_) := (blk_cell Bg10.out 0).trans rfl
  have hfg10_0 := blk_frozen Bg10.out 0
  have hxg11_0 : w28_.cell? ⟨g11, 0, none⟩ = some (.int .i64 r8_0) := (blk_cell Bg11.out 0).trans rfl
  have hxg11_1 : w28_.cell? ⟨g11, 1, none⟩ = some (.slice A15_0_ r8_1.length c15_0_) := (blk_cell Bg11.out 1).trans rfl
  have hfg11_0 := blk_frozen Bg11.out 0
  have hfg11_1 := blk_frozen Bg11.out 1
  clear hk hb0
  go_wp2_with (first | (go_at_call 19; refine hold ?_))
  unfold Hold
  refine (markFactS_calls (fun k_ => w13_.heap.size ≤ k_ ∧ k_ < w14_.heap.size) (.slice A14_0_ r7_0.length c14_0_) r7_0 r15_0 r16_0 r16_1 w _ HB.out (Kd.S_mono O14_0.out (fun _ h_ => h_.1)) e16_hz0.out Ee16.out).mono ?_
  rintro e w29_ ⟨rfl, ho0, hb0, hk⟩
  have n_ := Aside0.mk (show Kd.S k37 37 w29_ w.heap.size (fun k_ => (w13_.heap.size ≤ k_ ∧ k_ < w14_.heap.size) ∧ True) (.slice A14_0_ r7_0.length c14_0_) r16_1 from Kd.S_mono ho0 (fun _ hk_ => ⟨hk_, trivial⟩)); clear O14_0; have O14_0 := n_; clear n_
  clear ho0
  have Z29_ := Aside0.mk (show w28_.heap.size ≤ w29_.heap.size from hk.1)
  have n_ := Aside0.mk (Kd.R_kept O7_0.out hk (fun k_ hk1 hk2 => by obtain ⟨a1_, a2_⟩ := hk1.1; obtain ⟨b1_, b2_⟩ := hk2; have z8_ := Z8_.out; have z9_ := Z9_.out; have z10_ := Z10_.out; have z11_ := Z11_.out; have z12_ := Z12_.out; have z13_ := Z13_.out; omega)); clear O7_0; have O7_0 := n_; clear n_
  have n_ := Aside0.mk (Kd.S_kept O8_0.out hk (fun k_ hk1 hk2 => by obtain ⟨a1_, a2_⟩ := hk1.1; obtain ⟨b1_, b2_⟩ := hk2; have z9_ := Z9_.out; have z10_ := Z10_.out; have z11_ := Z11_.out; have z12_ := Z12_.out; have z13_ := Z13_.out; omega)); clear O8_0; have O8_0 := n_; clear n_
  have n_ := Aside0.mk (Kd.R_kept O9_0.out hk (fun k_ hk1 hk2 => by obtain ⟨a1_, a2_⟩ := hk1.1; obtain ⟨b1_, b2_⟩ := hk2; have z10_ := Z10_.out; have z11_ := Z11_.out; have z12_ := Z12_.out; have z13_ := Z13_.out; omega)); clear O9_0; have O9_0 := n_; clear n_
  have n_ := Aside0.mk (Kd.S_kept O10_0.out hk (fun k_ hk1 hk2 => by obtain ⟨a1_, a2_⟩ := hk1.1; obtain ⟨b1_, b2_⟩ := hk2; have z11_ := Z11_.out; have z12_ := Z12_.out; have z13_ := Z13_.out; omega)); clear O10_0; have O10_0 := n_; clear n_
  have n_ := Aside0.mk (Kd.R_kept O11_0.out hk (fun k_ hk1 hk2 => by obtain ⟨a1_, a2_⟩ := hk1.1; obtain ⟨b1_, b2_⟩ := hk2; have z12_ := Z12_.out; have z13_ := Z13_.out; omega)); clear O11_0; have O11_0 := n_; clear n_
  have n_ := Aside0.mk (Kd.R_kept O15_0.out hk (fun k_ hk1 hk2 => by obtain ⟨a1_, a2_⟩ := hk1.1; obtain ⟨b1_, b2_⟩ := hk2; omega)); clear O15_0; have O15_0 := n_; clear n_
  have n_ := Aside0.mk (Kd.S_kept O18_0.out hk (fun k_ hk1 hk2 => by obtain ⟨a1_, a2_⟩ := hk1.1; obtain ⟨b1_, b2_⟩ := hk2; have z15_ := Z15_.out; have z16_ := Z16_.out; have z17_ := Z17_.out; omega)); clear O18_0; have O18_0 := n_; clear n_
  have n_ := Aside0.mk (Kd.R_kept O21_0.out hk (fun k_ hk1 hk2 => by obtain ⟨a1_, a2_⟩ := hk1.1; obtain ⟨b1_, b2_⟩ := hk2; have z15_ := Z15_.out; have z16_ := Z16_.out; have z17_ := Z17_.out; have z18_ := Z18_.out; have z19_ := Z19_.out; have z20_ := Z20_.out; omega)); clear O21_0; have O21_0 := n_; clear n_
  have n_ := Aside0.mk (Kd.S_kept O23_0.out hk (fun k_ hk1 hk2 => by obtain ⟨a1_, a2_⟩ := hk1.1; obtain ⟨b1_, b2_⟩ := hk2; have z15_ := Z15_.out; have z16_ := Z16_.out; have z17_ := Z17_.out; have z18_ := Z18_.out; have z19_ := Z19_.out; have z20_ := Z20_.out; have z21_ := Z21_.out; have z22_ := Z22_.out; omega)); clear O23_0; have O23_0 := n_; clear n_
  have n_ := Aside0.mk (Kd.R_kept O26_0.out hk (fun k_ hk1 hk2 => by obtain ⟨a1_, a2_⟩ := hk1.1; obtain ⟨b1_, b2_⟩ := hk2; have z15_ := Z15_.out; have z16_ := Z16_.out; have z17_ := Z17_.out; have z18_ := Z18_.out; have z19_ := Z19_.out; have z20_ := Z20_.out; have z21_ := Z21_.out; have z22_ := Z22_.out; have z23_ := Z23_.out; have z24_ := Z24_.out; have z25_ := Z25_.out; omega)); clear O26_0; have O26_0 := n_; clear n_
  have n_ := Aside0.mk (blk_kept Bg1.out hk (fun hk2 => by obtain ⟨a1_, a2_⟩ := Gg1.out; obtain ⟨b1_, b2_⟩ := hk2; have z2_ := Z2_.out; have z3_ := Z3_.out; have z4_ := Z4_.out; have z5_ := Z5_.out; have z6_ := Z6_.out; have z7_ := Z7_.out; have z8_ := Z8_.out; have z9_ := Z9_.out; have z10_ := Z10_.out; have z11_ := Z11_.out; have z12_ := Z12_.out; have z13_ := Z13_.out; omega)); clear Bg1; have Bg1 := n_; clear n_
  have n_ := Aside0.mk (blk_kept Bg2.out hk (fun hk2 => by obtain ⟨a1_, a2_⟩ := Gg2.out; obtain ⟨b1_, b2_⟩ := hk2; have z3_ := Z3_.out; have z4_ := Z4_.out; have z5_ := Z5_.out; have z6_ := Z6_.out; have z7_ := Z7_.out; have z8_ := Z8_.out; have z9_ := Z9_.out; have z10_ := Z10_.out; have z11_ := Z11_.out; have z12_ := Z12_.out; have z13_ := Z13_.out; omega)); clear Bg2; have Bg2 := n_; clear n_
  have n_ := Aside0.mk (blk_kept Bg10.out hk (fun hk2 => by obtain ⟨a1_, a2_⟩ := Gg10.out; obtain ⟨b1_, b2_⟩ := hk2; have z13_ := Z13_.out; omega)); clear Bg10; have Bg10 := n_; clear n_
  have n_ := Aside0.mk (blk_kept Bg11.out hk (fun hk2 => by obtain ⟨a1_, a2_⟩ := Gg11.out; obtain ⟨b1_, b2_⟩ := hk2; have z15_ := Z15_.out; omega)); clear Bg11; have Bg11 := n_; clear n_
  clear HB; have HB := Aside0.mk hb0
  clear hxg1_0
  clear hfg1_0
  clear hxg2_0
  clear hxg2_1
  clear hfg2_0
  clear hfg2_1
  clear hxg10_0
  clear hfg10_0
  clear hxg11_0
  clear hxg11_1
  clear hfg11_0
  clear hfg11_1
  have hxg1_0 : w29_.cell? ⟨g1, 0, none⟩ = some (.slice A0_0 l0_0.length c0_0) := (blk_cell Bg1.out 0).trans rfl
  have hfg1_0 := blk_frozen Bg1.out 0
  have hxg2_0 : w29_.cell? ⟨g2, 0, none⟩ = some (.int .i64 a2_0) := (blk_cell Bg2.out 0).trans rfl
  have hxg2_1 : w29_.cell? ⟨g2, 1, none⟩ = some (.slice A2_1 l2_1.length c2_1) := (blk_cell Bg2.out 1).trans rfl
  have hfg2_0 := blk_frozen Bg2.out 0
  have hfg2_1 := blk_frozen Bg2.out 1
  have hxg10_0 : w29_.cell? ⟨g10, 0, none⟩ = some (.slice A11_0_ r6_0.length c11_0_) := (blk_cell Bg10.out 0).trans rfl
  have hfg10_0 := blk_frozen Bg10.out 0
  have hxg11_0 : w29_.cell? ⟨g11, 0, none⟩ = some (.int .i64 r8_0) := (blk_cell Bg11.out 0).trans rfl
  have hxg11_1 : w29_.cell? ⟨g11, 1, none⟩ = some (.slice A15_0_ r8_1.length c15_0_) := (blk_cell Bg11.out 1).trans rfl
  have hfg11_0 := blk_frozen Bg11.out 0
  have hfg11_1 := blk_frozen Bg11.out 1
  clear hk hb0
  go_wp2_with (first | (go_at_call 20; refine hold ?_))
  unfold Hold
  refine (laws_markFact.calls ke17 r8_0 (fun k_ => w14_.heap.size ≤ k_ ∧ k_ < w15_.heap.size) (.slice A15_0_ r8_1.length c15_0_) r8_1 r16_0 r17_0 r17_1 w _ HB.out (Kd.R_mono O15_0.out (fun _ h_ => h_.1)) Ee17.out).mono ?_
  rintro e w30_ ⟨rfl, ho0, hb0, hk⟩
  have n_ := Aside0.mk (show Kd.R (Kd.int .i64) 3 w30_ w.heap.size (fun k_ => (w14_.heap.size ≤ k_ ∧ k_ < w15_.heap.size) ∧ True) (.slice A15_0_ r8_1.length c15_0_) r17_1 from Kd.R_mono (Kd.R_tight2 rfl ho0) (fun k_ hk_ => ⟨(O15_0.out.1 k_ hk_.1.symm).1, trivial⟩)); clear O15_0; have O15_0 := n_; clear n_
  clear ho0
  have Z30_ := Aside0.mk (show w29_.heap.size ≤ w30_.heap.size from hk.1)
  have n_ := Aside0.mk (Kd.R_kept O7_0.out hk (fun k_ hk1 hk2 => by obtain ⟨a1_, a2_⟩ := hk1.1; obtain ⟨b1_, b2_⟩ := hk2; have z8_ := Z8_.out; have z9_ := Z9_.out; have z10_ := Z10_.out; have z11_ := Z11_.out; have z12_ := Z12_.out; have z13_ := Z13_.out; have z14_ := Z14_.out; omega)); clear O7_0; have O7_0 := n_; clear n_
  have n_ := Aside0.mk (Kd.S_kept O8_0.out hk (fun k_ hk1 hk2 => by obtain ⟨a1_, a2_⟩ := hk1.1; obtain ⟨b1_, b2_⟩ := hk2; have z9_ := Z9_.out; have z10_ := Z10_.out; have z11_ := Z11_.out; have z12_ := Z12_.out; have z13_ := Z13_.out; have z14_ := Z14_.out; omega)); clear O8_0; have O8_0 := n_; clear n_
  have n_ := Aside0.mk (Kd.R_kept O9_0.out hk (fun k_ hk1 hk2 => by obtain ⟨a1_, a2_⟩ := hk1.1; obtain ⟨b1_, b2_⟩ := hk2; have z10_ := Z10_.out; have z11_ := Z11_.out; have z12_ := Z12_.out; have z13_ := Z13_.out; have z14_ := Z14_.out; omega)); clear O9_0; have O9_0 := n_; clear n_
  have n_ := Aside0.mk (Kd.S_kept O10_0.out hk (fun k_ hk1 hk2 => by obtain ⟨a1_, a2_⟩ := hk1.1; obtain ⟨b1_, b2_⟩ := hk2; have z11_ := Z11_.out; have z12_ := Z12_.out; have z13_ := Z13_.out; have z14_ := Z14_.out; omega)); clear O10_0; have O10_0 := n_; clear n_
  have n_ := Aside0.mk (Kd.R_kept O11_0.out hk (fun k_ hk1 hk2 => by obtain ⟨a1_, a2_⟩ := hk1.1; obtain ⟨b1_, b2_⟩ := hk2; have z12_ := Z12_.out; have z13_ := Z13_.out; have z14_ := Z14_.out; omega)); clear O11_0; have O11_0 := n_; clear n_
  have n_ := Aside0.mk (Kd.S_kept O14_0.out hk (fun k_ hk1 hk2 => by obtain ⟨a1_, a2_⟩ := hk1.1; obtain ⟨b1_, b2_⟩ := hk2; omega)); clear O14_0; have O14_0 := n_; clear n_
  have n_ := Aside0.mk (Kd.S_kept O18_0.out hk (fun k_ hk1 hk2 => by obtain ⟨a1_, a2_⟩ := hk1.1; obtain ⟨b1_, b2_⟩ := hk2; have z16_ := Z16_.out; have z17_ := Z17_.out; omega)); clear O18_0; have O18_0 := n_; clear n_
  have n_ := Aside0.mk (Kd.R_kept O21_0.out hk (fun k_ hk1 hk2 => by obtain ⟨a1_, a2_⟩ := hk1.1; obtain ⟨b1_, b2_⟩ := hk2; have z16_ := Z16_.out; have z17_ := Z17_.out; have z18_ := Z18_.out; have z19_ := Z19_.out; have z20_ := Z20_.out; omega)); clear O21_0; have O21_0 := n_; clear n_
  have n_ := Aside0.mk (Kd.S_kept O23_0.out hk (fun k_ hk1 hk2 => by obtain ⟨a1_, a2_⟩ := hk1.1; obtain ⟨b1_, b2_⟩ := hk2; have z16_ := Z16_.out; have z17_ := Z17_.out; have z18_ := Z18_.out; have z19_ := Z19_.out; have z20_ := Z20_.out; have z21_ := Z21_.out; have z22_ := Z22_.out; omega)); clear O23_0; have O23_0 := n_; clear n_
  have n_ := Aside0.mk (Kd.R_kept O26_0.out hk (fun k_ hk1 hk2 => by obtain ⟨a1_, a2_⟩ := hk1.1; obtain ⟨b1_, b2_⟩ := hk2; have z16_ := Z16_.out; have z17_ := Z17_.out; have z18_ := Z18_.out; have z19_ := Z19_.out; have z20_ := Z20_.out; have z21_ := Z21_.out; have z22_ := Z22_.out; have z23_ := Z23_.out; have z24_ := Z24_.out; have z25_ := Z25_.out; omega)); clear O26_0; have O26_0 := n_; clear n_
  have n_ := Aside0.mk (blk_kept Bg1.out hk (fun hk2 => by obtain ⟨a1_, a2_⟩ := Gg1.out; obtain ⟨b1_, b2_⟩ := hk2; have z2_ := Z2_.out; have z3_ := Z3_.out; have z4_ := Z4_.out; have z5_ := Z5_.out; have z6_ := Z6_.out; have z7_ := Z7_.out; have z8_ := Z8_.out; have z9_ := Z9_.out; have z10_ := Z10_.out; have z11_ := Z11_.out; have z12_ := Z12_.out; have z13_ := Z13_.out; have z14_ := Z14_.out; omega)); clear Bg1; have Bg1 := n_; clear n_
  have n_ := Aside0.mk (blk_kept Bg2.out hk (fun hk2 => by obtain ⟨a1_, a2_⟩ := Gg2.out; obtain ⟨b1_, b2_⟩ := hk2; have z3_ := Z3_.out; have z4_ := Z4_.out; have z5_ := Z5_.out; have z6_ := Z6_.out; have z7_ := Z7_.out; have z8_ := Z8_.out; have z9_ := Z9_.out; have z10_ := Z10_.out; have z11_ := Z11_.out; have z12_ := Z12_.out; have z13_ := Z13_.out; have z14_ := Z14_.out; omega)); clear Bg2; have Bg2 := n_; clear n_
  have n_ := Aside0.mk (blk_kept Bg10.out hk (fun hk2 => by obtain ⟨a1_, a2_⟩ := Gg10.out; obtain ⟨b1_, b2_⟩ := hk2; have z13_ := Z13_.out; have z14_ := Z14_.out; omega)); clear Bg10; have Bg10 := n_; clear n_
  have n_ := Aside0.mk (blk_kept Bg11.out hk (fun hk2 => by obtain ⟨a1_, a2_⟩ := Gg11.out; obtain ⟨b1_, b2_⟩ := hk2; omega)); clear Bg11; have Bg11 := n_; clear n_
  clear HB; have HB := Aside0.mk hb0
  clear hxg1_0
  clear hfg1_0
  clear hxg2_0
  clear hxg2_1
  clear hfg2_0
  clear hfg2_1
  clear hxg10_0
  clear hfg10_0
  clear hxg11_0
  clear hxg11_1
  clear hfg11_0
  clear hfg11_1
  have hxg1_0 : w30_.cell? ⟨g1, 0, none⟩ = some (.slice A0_0 l0_0.length c0_0) := (blk_cell Bg1.out 0).trans rfl
  have hfg1_0 := blk_frozen Bg1.out 0
  have hxg2_0 : w30_.cell? ⟨g2, 0, none⟩ = some (.int .i64 a2_0) := (blk_cell Bg2.out 0).trans rfl
  have hxg2_1 : w30_.cell? ⟨g2, 1, none⟩ = some (.slice A2_1 l2_1.length c2_1) := (blk_cell Bg2.out 1).trans rfl
  have hfg2_0 := blk_frozen Bg2.out 0
  have hfg2_1 := blk_frozen Bg2.out 1
  have hxg10_0 : w30_.cell? ⟨g10, 0, none⟩ = some (.slice A11_0_ r6_0.length c11_0_) := (blk_cell Bg10.out 0).trans rfl
  have hfg10_0 := blk_frozen Bg10.out 0
  have hxg11_0 : w30_.cell? ⟨g11, 0, none⟩ = some (.int .i64 r8_0) := (blk_cell Bg11.out 0).trans rfl
  have hxg11_1 : w30_.cell? ⟨g11, 1, none⟩ = some (.slice A15_0_ r8_1.length c15_0_) := (blk_cell Bg11.out 1).trans rfl
  have hfg11_0 := blk_frozen Bg11.out 0
  have hfg11_1 := blk_frozen Bg11.out 1
  clear hk hb0
  go_wp2_with (first | (go_at_call 15; refine hold ?_))
  unfold Hold
  refine (laws_eqFactS.calls ke11 _ _ r9_0 _ _ r9_0 true _ (Kd.S_reads' O18_0.out).2.2 (Kd.S_reads' O18_0.out).2.1 (Kd.S_reads' O10_0.out).2.2 (Kd.S_reads' O10_0.out).2.1 Ee11.out).mono ?_
  rintro e w31_ ⟨rfl, hb⟩
  have Z31_ := Aside0.mk (show w30_.heap.size ≤ w31_.heap.size from hb.size)
  have n_ := Aside0.mk (Kd.R_below O7_0.out hb); clear O7_0; have O7_0 := n_; clear n_
  have n_ := Aside0.mk (Kd.S_below O8_0.out hb); clear O8_0; have O8_0 := n_; clear n_
  have n_ := Aside0.mk (Kd.R_below O9_0.out hb); clear O9_0; have O9_0 := n_; clear n_
  have n_ := Aside0.mk (Kd.S_below O10_0.out hb); clear O10_0; have O10_0 := n_; clear n_
  have n_ := Aside0.mk (Kd.R_below O11_0.out hb); clear O11_0; have O11_0 := n_; clear n_
  have n_ := Aside0.mk (Kd.S_below O14_0.out hb); clear O14_0; have O14_0 := n_; clear n_
  have n_ := Aside0.mk (Kd.R_below O15_0.out hb); clear O15_0; have O15_0 := n_; clear n_
  have n_ := Aside0.mk (Kd.S_below O18_0.out hb); clear O18_0; have O18_0 := n_; clear n_
  have n_ := Aside0.mk (Kd.R_below O21_0.out hb); clear O21_0; have O21_0 := n_; clear n_
  have n_ := Aside0.mk (Kd.S_below O23_0.out hb); clear O23_0; have O23_0 := n_; clear n_
  have n_ := Aside0.mk (Kd.R_below O26_0.out hb); clear O26_0; have O26_0 := n_; clear n_
  have n_ := Aside0.mk (blk_below Bg1.out hb); clear Bg1; have Bg1 := n_; clear n_
  have n_ := Aside0.mk (blk_below Bg2.out hb); clear Bg2; have Bg2 := n_; clear n_
  have n_ := Aside0.mk (blk_below Bg10.out hb); clear Bg10; have Bg10 := n_; clear n_
  have n_ := Aside0.mk (blk_below Bg11.out hb); clear Bg11; have Bg11 := n_; clear n_
  have n_ := Aside0.mk (below_step HB.out hb); clear HB; have HB := n_; clear n_
  clear hxg1_0
  clear hfg1_0
  clear hxg2_0
  clear hxg2_1
  clear hfg2_0
  clear hfg2_1
  clear hxg10_0
  clear hfg10_0
  clear hxg11_0
  clear hxg11_1
  clear hfg11_0
  clear hfg11_1
  have hxg1_0 : w31_.cell? ⟨g1, 0, none⟩ = some (.slice A0_0 l0_0.length c0_0) := (blk_cell Bg1.out 0).trans rfl
  have hfg1_0 := blk_frozen Bg1.out 0
  have hxg2_0 : w31_.cell? ⟨g2, 0, none⟩ = some (.int .i64 a2_0) := (blk_cell Bg2.out 0).trans rfl
  have hxg2_1 : w31_.cell? ⟨g2, 1, none⟩ = some (.slice A2_1 l2_1.length c2_1) := (blk_cell Bg2.out 1).trans rfl
  have hfg2_0 := blk_frozen Bg2.out 0
  have hfg2_1 := blk_frozen Bg2.out 1
  have hxg10_0 : w31_.cell? ⟨g10, 0, none⟩ = some (.slice A11_0_ r6_0.length c11_0_) := (blk_cell Bg10.out 0).trans rfl
  have hfg10_0 := blk_frozen Bg10.out 0
  have hxg11_0 : w31_.cell? ⟨g11, 0, none⟩ = some (.int .i64 r8_0) := (blk_cell Bg11.out 0).trans rfl
  have hxg11_1 : w31_.cell? ⟨g11, 1, none⟩ = some (.slice A15_0_ r8_1.length c15_0_) := (blk_cell Bg11.out 1).trans rfl
  have hfg11_0 := blk_frozen Bg11.out 0
  have hfg11_1 := blk_frozen Bg11.out 1
  clear hb
  go_wp2_with (first | (go_at_call 19; refine hold ?_))
  unfold Hold
  refine (markFactS_calls (fun k_ => w17_.heap.size ≤ k_ ∧ k_ < w18_.heap.size) (.slice A18_0_ r9_0.length c18_0_) r9_0 1 r19_0 r19_1 w _ HB.out (Kd.S_mono O18_0.out (fun _ h_ => h_.1)) e19_hz0.out Ee19.out).mono ?_
  rintro e w32_ ⟨rfl, ho0, hb0, hk⟩
  have n_ := Aside0.mk (show Kd.S k37 37 w32_ w.heap.size (fun k_ => (w17_.heap.size ≤ k_ ∧ k_ < w18_.heap.size) ∧ True) (.slice A18_0_ r9_0.length c18_0_) r19_1 from Kd.S_mono ho0 (fun _ hk_ => ⟨hk_, trivial⟩)); clear O18_0; have O18_0 := n_; clear n_
  clear ho0
  have Z32_ := Aside0.mk (show w31_.heap.size ≤ w32_.heap.size from hk.1)
  have n_ := Aside0.mk (Kd.R_kept O7_0.out hk (fun k_ hk1 hk2 => by obtain ⟨a1_, a2_⟩ := hk1.1; obtain ⟨b1_, b2_⟩ := hk2; have z8_ := Z8_.out; have z9_ := Z9_.out; have z10_ := Z10_.out; have z11_ := Z11_.out; have z12_ := Z12_.out; have z13_ := Z13_.out; have z14_ := Z14_.out; have z15_ := Z15_.out; have z16_ := Z16_.out; have z17_ := Z17_.out; omega)); clear O7_0; have O7_0 := n_; clear n_
  have n_ := Aside0.mk (Kd.S_kept O8_0.out hk (fun k_ hk1 hk2 => by obtain ⟨a1_, a2_⟩ := hk1.1; obtain ⟨b1_, b2_⟩ := hk2; have z9_ := Z9_.out; have z10_ := Z10_.out; have z11_ := Z11_.out; have z12_ := Z12_.out; have z13_ := Z13_.out; have z14_ := Z14_.out; have z15_ := Z15_.out; have z16_ := Z16_.out; have z17_ := Z17_.out; omega)); clear O8_0; have O8_0 := n_; clear n_
  have n_ := Aside0.mk (Kd.R_kept O9_0.out hk (fun k_ hk1 hk2 => by obtain ⟨a1_, a2_⟩ := hk1.1; obtain ⟨b1_, b2_⟩ := hk2; have z10_ := Z10_.out; have z11_ := Z11_.out; have z12_ := Z12_.out; have z13_ := Z13_.out; have z14_ := Z14_.out; have z15_ := Z15_.out; have z16_ := Z16_.out; have z17_ := Z17_.out; omega)); clear O9_0; have O9_0 := n_; clear n_
  have n_ := Aside0.mk (Kd.S_kept O10_0.out hk (fun k_ hk1 hk2 => by obtain ⟨a1_, a2_⟩ := hk1.1; obtain ⟨b1_, b2_⟩ := hk2; have z11_ := Z11_.out; have z12_ := Z12_.out; have z13_ := Z13_.out; have z14_ := Z14_.out; have z15_ := Z15_.out; have z16_ := Z16_.out; have z17_ := Z17_.out; omega)); clear O10_0; have O10_0 := n_; clear n_
  have n_ := Aside0.mk (Kd.R_kept O11_0.out hk (fun k_ hk1 hk2 => by obtain ⟨a1_, a2_⟩ := hk1.1; obtain ⟨b1_, b2_⟩ := hk2; have z12_ := Z12_.out; have z13_ := Z13_.out; have z14_ := Z14_.out; have z15_ := Z15_.out; have z16_ := Z16_.out; have z17_ := Z17_.out; omega)); clear O11_0; have O11_0 := n_; clear n_
  have n_ := Aside0.mk (Kd.S_kept O14_0.out hk (fun k_ hk1 hk2 => by obtain ⟨a1_, a2_⟩ := hk1.1; obtain ⟨b1_, b2_⟩ := hk2; have z15_ := Z15_.out; have z16_ := Z16_.out; have z17_ := Z17_.out; omega)); clear O14_0; have O14_0 := n_; clear n_
  have n_ := Aside0.mk (Kd.R_kept O15_0.out hk (fun k_ hk1 hk2 => by obtain ⟨a1_, a2_⟩ := hk1.1; obtain ⟨b1_, b2_⟩ := hk2; have z16_ := Z16_.out; have z17_ := Z17_.out; omega)); clear O15_0; have O15_0 := n_; clear n_
  have n_ := Aside0.mk (Kd.R_kept O21_0.out hk (fun k_ hk1 hk2 => by obtain ⟨a1_, a2_⟩ := hk1.1; obtain ⟨b1_, b2_⟩ := hk2; have z19_ := Z19_.out; have z20_ := Z20_.out; omega)); clear O21_0; have O21_0 := n_; clear n_
  have n_ := Aside0.mk (Kd.S_kept O23_0.out hk (fun k_ hk1 hk2 => by obtain ⟨a1_, a2_⟩ := hk1.1; obtain ⟨b1_, b2_⟩ := hk2; have z19_ := Z19_.out; have z20_ := Z20_.out; have z21_ := Z21_.out; have z22_ := Z22_.out; omega)); clear O23_0; have O23_0 := n_; clear n_
  have n_ := Aside0.mk (Kd.R_kept O26_0.out hk (fun k_ hk1 hk2 => by obtain ⟨a1_, a2_⟩ := hk1.1; obtain ⟨b1_, b2_⟩ := hk2; have z19_ := Z19_.out; have z20_ := Z20_.out; have z21_ := Z21_.out; have z22_ := Z22_.out; have z23_ := Z23_.out; have z24_ := Z24_.out; have z25_ := Z25_.out; omega)); clear O26_0; have O26_0 := n_; clear n_
  have n_ := Aside0.mk (blk_kept Bg1.out hk (fun hk2 => by obtain ⟨a1_, a2_⟩ := Gg1.out; obtain ⟨b1_, b2_⟩ := hk2; have z2_ := Z2_.out; have z3_ := Z3_.out; have z4_ := Z4_.out; have z5_ := Z5_.out; have z6_ := Z6_.out; have z7_ := Z7_.out; have z8_ := Z8_.out; have z9_ := Z9_.out; have z10_ := Z10_.out; have z11_ := Z11_.out; have z12_ := Z12_.out; have z13_ := Z13_.out; have z14_ := Z14_.out; have z15_ := Z15_.out; have z16_ := Z16_.out; have z17_ := Z17_.out; omega)); clear Bg1; have Bg1 := n_; clear n_
  have n_ := Aside0.mk (blk_kept Bg2.out hk (fun hk2 => by obtain ⟨a1_, a2_⟩ := Gg2.out; obtain ⟨b1_, b2_⟩ := hk2; have z3_ := Z3_.out; have z4_ := Z4_.out; have z5_ := Z5_.out; have z6_ := Z6_.out; have z7_ := Z7_.out; have z8_ := Z8_.out; have z9_ := Z9_.out; have z10_ := Z10_.out; have z11_ := Z11_.out; have z12_ := Z12_.out; have z13_ := Z13_.out; have z14_ := Z14_.out; have z15_ := Z15_.out; have z16_ := Z16_.out; have z17_ := Z17_.out; omega)); clear Bg2; have Bg2 := n_; clear n_
  have n_ := Aside0.mk (blk_kept Bg10.out hk (fun hk2 => by obtain ⟨a1_, a2_⟩ := Gg10.out; obtain ⟨b1_, b2_⟩ := hk2; have z13_ := Z13_.out; have z14_ := Z14_.out; have z15_ := Z15_.out; have z16_ := Z16_.out; have z17_ := Z17_.out; omega)); clear Bg10; have Bg10 := n_; clear n_
  have n_ := Aside0.mk (blk_kept Bg11.out hk (fun hk2 => by obtain ⟨a1_, a2_⟩ := Gg11.out; obtain ⟨b1_, b2_⟩ := hk2; have z17_ := Z17_.out; omega)); clear Bg11; have Bg11 := n_; clear n_
  clear HB; have HB := Aside0.mk hb0
  clear hxg1_0
  clear hfg1_0
  clear hxg2_0
  clear hxg2_1
  clear hfg2_0
  clear hfg2_1
  clear hxg10_0
  clear hfg10_0
  clear hxg11_0
  clear hxg11_1
  clear hfg11_0
  clear hfg11_1
  have hxg1_0 : w32_.cell? ⟨g1, 0, none⟩ = some (.slice A0_0 l0_0.length c0_0) := (blk_cell Bg1.out 0).trans rfl
  have hfg1_0 := blk_frozen Bg1.out 0
  have hxg2_0 : w32_.cell? ⟨g2, 0, none⟩ = some (.int .i64 a2_0) := (blk_cell Bg2.out 0).trans rfl
  have hxg2_1 : w32_.cell? ⟨g2, 1, none⟩ = some (.slice A2_1 l2_1.length c2_1) := (blk_cell Bg2.out 1).trans rfl
  have hfg2_0 := blk_frozen Bg2.out 0
  have hfg2_1 := blk_frozen Bg2.out 1
  have hxg10_0 : w32_.cell? ⟨g10, 0, none⟩ = some (.slice A11_0_ r6_0.length c11_0_) := (blk_cell Bg10.out 0).trans rfl
  have hfg10_0 := blk_frozen Bg10.out 0
  have hxg11_0 : w32_.cell? ⟨g11, 0, none⟩ = some (.int .i64 r8_0) := (blk_cell Bg11.out 0).trans rfl
  have hxg11_1 : w32_.cell? ⟨g11, 1, none⟩ = some (.slice A15_0_ r8_1.length c15_0_) := (blk_cell Bg11.out 1).trans rfl
  have hfg11_0 := blk_frozen Bg11.out 0
  have hfg11_1 := blk_frozen Bg11.out 1
  clear hk hb0
  go_wp2_with (first | (go_at_call 21; refine hold ?_))
  unfold Hold
  refine calls_of_args (args' := #[.slice A18_0_ r19_1.length c18_0_, .int .i64 1]) (by rw [show r9_0.length = r19_1.length from (Kd.S_reads' O18_0.out).1]) ?_
  refine (laws_heldFactS.calls ke20 _ _ r19_1 1 r19_0 _ (Kd.S_reads' O18_0.out).2.2 (Nat.le_trans (Nat.le_of_eq (Kd.S_reads' O18_0.out).1.symm) (Kd.S_reads' O18_0.out).2.1) Ee20.out).mono ?_
  rintro e w33_ ⟨rfl, hd⟩
  have hb := hd.below; clear hd
  have Z33_ := Aside0.mk (show w32_.heap.size ≤ w33_.heap.size from hb.size)
  have n_ := Aside0.mk (Kd.R_below O7_0.out hb); clear O7_0; have O7_0 := n_; clear n_
  have n_ := Aside0.mk (Kd.S_below O8_0.out hb); clear O8_0; have O8_0 := n_; clear n_
  have n_ := Aside0.mk (Kd.R_below O9_0.out hb); clear O9_0; have O9_0 := n_; clear n_
  have n_ := Aside0.mk (Kd.S_below O10_0.out hb); clear O10_0; have O10_0 := n_; clear n_
  have n_ := Aside0.mk (Kd.R_below O11_0.out hb); clear O11_0; have O11_0 := n_; clear n_
  have n_ := Aside0.mk (Kd.S_below O14_0.out hb); clear O14_0; have O14_0 := n_; clear n_
  have n_ := Aside0.mk (Kd.R_below O15_0.out hb); clear O15_0; have O15_0 := n_; clear n_
  have n_ := Aside0.mk (Kd.S_below O18_0.out hb); clear O18_0; have O18_0 := n_; clear n_
  have n_ := Aside0.mk (Kd.R_below O21_0.out hb); clear O21_0; have O21_0 := n_; clear n_
  have n_ := Aside0.mk (Kd.S_below O23_0.out hb); clear O23_0; have O23_0 := n_; clear n_
  have n_ := Aside0.mk (Kd.R_below O26_0.out hb); clear O26_0; have O26_0 := n_; clear n_
  have n_ := Aside0.mk (blk_below Bg1.out hb); clear Bg1; have Bg1 := n_; clear n_
  have n_ := Aside0.mk (blk_below Bg2.out hb); clear Bg2; have Bg2 := n_; clear n_
  have n_ := Aside0.mk (blk_below Bg10.out hb); clear Bg10; have Bg10 := n_; clear n_
  have n_ := Aside0.mk (blk_below Bg11.out hb); clear Bg11; have Bg11 := n_; clear n_
  have n_ := Aside0.mk (below_step HB.out hb); clear HB; have HB := n_; clear n_
  clear hxg1_0
  clear hfg1_0
  clear hxg2_0
  clear hxg2_1
  clear hfg2_0
  clear hfg2_1
  clear hxg10_0
  clear hfg10_0
  clear hxg11_0
  clear hxg11_1
  clear hfg11_0
  clear hfg11_1
  have hxg1_0 : w33_.cell? ⟨g1, 0, none⟩ = some (.slice A0_0 l0_0.length c0_0) := (blk_cell Bg1.out 0).trans rfl
  have hfg1_0 := blk_frozen Bg1.out 0
  have hxg2_0 : w33_.cell? ⟨g2, 0, none⟩ = some (.int .i64 a2_0) := (blk_cell Bg2.out 0).trans rfl
  have hxg2_1 : w33_.cell? ⟨g2, 1, none⟩ = some (.slice A2_1 l2_1.length c2_1) := (blk_cell Bg2.out 1).trans rfl
  have hfg2_0 := blk_frozen Bg2.out 0
  have hfg2_1 := blk_frozen Bg2.out 1
  have hxg10_0 : w33_.cell? ⟨g10, 0, none⟩ = some (.slice A11_0_ r6_0.length c11_0_) := (blk_cell Bg10.out 0).trans rfl
  have hfg10_0 := blk_frozen Bg10.out 0
  have hxg11_0 : w33_.cell? ⟨g11, 0, none⟩ = some (.int .i64 r8_0) := (blk_cell Bg11.out 0).trans rfl
  have hxg11_1 : w33_.cell? ⟨g11, 1, none⟩ = some (.slice A15_0_ r8_1.length c15_0_) := (blk_cell Bg11.out 1).trans rfl
  have hfg11_0 := blk_frozen Bg11.out 0
  have hfg11_1 := blk_frozen Bg11.out 1
  clear hb
  try go_wp2_with fail
  have n_ := Aside0.mk (Kd.R_drew O7_0.out); clear O7_0; have O7_0 := n_; clear n_
  have n_ := Aside0.mk (Kd.S_drew O8_0.out); clear O8_0; have O8_0 := n_; clear n_
  have n_ := Aside0.mk (Kd.R_drew O9_0.out); clear O9_0; have O9_0 := n_; clear n_
  have n_ := Aside0.mk (Kd.S_drew O10_0.out); clear O10_0; have O10_0 := n_; clear n_
  have n_ := Aside0.mk (Kd.R_drew O11_0.out); clear O11_0; have O11_0 := n_; clear n_
  have n_ := Aside0.mk (Kd.S_drew O14_0.out); clear O14_0; have O14_0 := n_; clear n_
  have n_ := Aside0.mk (Kd.R_drew O15_0.out); clear O15_0; have O15_0 := n_; clear n_
  have n_ := Aside0.mk (Kd.S_drew O18_0.out); clear O18_0; have O18_0 := n_; clear n_
  have n_ := Aside0.mk (Kd.R_drew O21_0.out); clear O21_0; have O21_0 := n_; clear n_
  have n_ := Aside0.mk (Kd.S_drew O23_0.out); clear O23_0; have O23_0 := n_; clear n_
  have n_ := Aside0.mk (Kd.R_drew O26_0.out); clear O26_0; have O26_0 := n_; clear n_
  have n_ := Aside0.mk (blk_drew Bg1.out); clear Bg1; have Bg1 := n_; clear n_
  have n_ := Aside0.mk (blk_drew Bg2.out); clear Bg2; have Bg2 := n_; clear n_
  have n_ := Aside0.mk (blk_drew Bg10.out); clear Bg10; have Bg10 := n_; clear n_
  have n_ := Aside0.mk (blk_drew Bg11.out); clear Bg11; have Bg11 := n_; clear n_
  have n_ := Aside0.mk (below_drew1 HB.out); clear HB; have HB := n_; clear n_
  clear hxg1_0
  clear hfg1_0
  clear hxg2_0
  clear hxg2_1
  clear hfg2_0
  clear hfg2_1
  clear hxg10_0
  clear hfg10_0
  clear hxg11_0
  clear hxg11_1
  clear hfg11_0
  clear hfg11_1
  have hz := Aside0.mk (show w33_.heap.size ≤ w33_.drew.heap.size from Nat.le_refl _)
  refine start_ (n := 12) (S := fun w' => w'.cell? ⟨g1, 0, none⟩ = some (.slice A0_0 l0_0.length c0_0) ∧ w'.cell? ⟨g2, 0, none⟩ = some (.int .i64 a2_0) ∧ w'.cell? ⟨g2, 1, none⟩ = some (.slice A2_1 l2_1.length c2_1)) (ds := []) #[false,false,false,false,false,false,false,false,false,false,false,false] (by kernel_rfl) rfl rfl ⟨(blk_cell Bg1.out 0).trans rfl, (blk_cell Bg2.out 0).trans rfl, (blk_cell Bg2.out 1).trans rfl⟩ (fun hHeld => ?_)
  generalize w33_.drew = w34_ at O7_0 O8_0 O9_0 O10_0 O11_0 O14_0 O15_0 O18_0 O21_0 O23_0 O26_0 Bg1 Bg2 Bg10 Bg11 HB hz hHeld ⊢
  have Z34_ := hz; clear hz
  refine take_ (i := 0) (N := some 116) (v := ?_) (a' := ?_) #[true,false,false,false,false,false,false,false,false,false,false,false] rfl rfl (by kernel_rfl) (fun _ _ _ h => h) (Or.inl ⟨by rfl, ?_⟩) hHeld ?_ ?_
  rotate_left
  · rintro w' ⟨s0, s1, s2⟩; go_simp; with_reducible rfl
  rotate_left
  · simp only [Act.put, List.setIfInBounds_toArray, List.set_cons_zero, List.set_cons_succ, i64_w, i32_w]; rfl
  refine take_ (i := 2) (N := some 118) (v := ?_) (a' := ?_) #[true,false,true,false,false,false,false,false,false,false,false,false] rfl rfl (by kernel_rfl) (fun _ _ _ h => h) (Or.inl ⟨by rfl, ?_⟩) hHeld ?_ ?_
  rotate_left
  · rintro w' ⟨s0, s1, s2⟩; go_simp; with_reducible rfl
  rotate_left
  · simp only [Act.put, List.setIfInBounds_toArray, List.set_cons_zero, List.set_cons_succ, i64_w, i32_w]; rfl
  refine take_ (i := 4) (N := some 120) (v := ?_) (a' := ?_) #[true,false,true,false,true,false,false,false,false,false,false,false] rfl rfl (by kernel_rfl) (fun _ _ _ h => h) (Or.inl ⟨by rfl, ?_⟩) hHeld ?_ ?_
  rotate_left
  · rintro w' ⟨s0, s1, s2⟩; go_simp; with_reducible rfl
  rotate_left
  · simp only [Act.put, List.setIfInBounds_toArray, List.set_cons_zero, List.set_cons_succ, i64_w, i32_w]; rfl
  refine one_ (i := 1) (N := some 117) #[true,true,true,false,true,false,false,false,false,false,false,false] rfl rfl (by kernel_rfl) (by decide) (fun K hK => ?_)
  refine goes_ Try.func11 (by kernel_rfl) rfl #[.agg #[.slice A0_0 l0_0.length c0_0]] (by rfl) rfl rfl (by (try simp only [List.map_toArray, List.map_cons, List.map_nil]); first | done | rfl) ?_
  with_reducible refine (laws_toSchema.calls ke6 _ _ l0_0 r6_0 _ (Kd.C_below H0_0.out HB.out) HC0_0.out Ee6.out).mono ?_
  rintro e w35_ ⟨v35_0_, rfl, ho0, hb⟩
  refine ⟨_, rfl, ?_⟩
  have O35_0 := Aside0.mk (newR ho0 HB.out.size)
  have Z35_ := Aside0.mk (show w34_.heap.size ≤ w35_.heap.size from hb.size)
  have n_ := Aside0.mk (Kd.R_below O7_0.out hb); clear O7_0; have O7_0 := n_; clear n_
  have n_ := Aside0.mk (Kd.S_below O8_0.out hb); clear O8_0; have O8_0 := n_; clear n_
  have n_ := Aside0.mk (Kd.R_below O9_0.out hb); clear O9_0; have O9_0 := n_; clear n_
  have n_ := Aside0.mk (Kd.S_below O10_0.out hb); clear O10_0; have O10_0 := n_; clear n_
  have n_ := Aside0.mk (Kd.R_below O11_0.out hb); clear O11_0; have O11_0 := n_; clear n_
  have n_ := Aside0.mk (Kd.S_below O14_0.out hb); clear O14_0; have O14_0 := n_; clear n_
  have n_ := Aside0.mk (Kd.R_below O15_0.out hb); clear O15_0; have O15_0 := n_; clear n_
  have n_ := Aside0.mk (Kd.S_below O18_0.out hb); clear O18_0; have O18_0 := n_; clear n_
  have n_ := Aside0.mk (Kd.R_below O21_0.out hb); clear O21_0; have O21_0 := n_; clear n_
  have n_ := Aside0.mk (Kd.S_below O23_0.out hb); clear O23_0; have O23_0 := n_; clear n_
  have n_ := Aside0.mk (Kd.R_below O26_0.out hb); clear O26_0; have O26_0 := n_; clear n_
  have n_ := Aside0.mk (blk_below Bg1.out hb); clear Bg1; have Bg1 := n_; clear n_
  have n_ := Aside0.mk (blk_below Bg2.out hb); clear Bg2; have Bg2 := n_; clear n_
  have n_ := Aside0.mk (blk_below Bg10.out hb); clear Bg10; have Bg10 := n_; clear n_
  have n_ := Aside0.mk (blk_below Bg11.out hb); clear Bg11; have Bg11 := n_; clear n_
  have n_ := Aside0.mk (below_step HB.out hb); clear HB; have HB := n_; clear n_
  have hxg1_0 : w35_.cell? ⟨g1, 0, none⟩ = some (.slice A0_0 l0_0.length c0_0) := (blk_cell Bg1.out 0).trans rfl
  have hfg1_0 := blk_frozen Bg1.out 0
  have hxg2_0 : w35_.cell? ⟨g2, 0, none⟩ = some (.int .i64 a2_0) := (blk_cell Bg2.out 0).trans rfl
  have hxg2_1 : w35_.cell? ⟨g2, 1, none⟩ = some (.slice A2_1 l2_1.length c2_1) := (blk_cell Bg2.out 1).trans rfl
  have hfg2_0 := blk_frozen Bg2.out 0
  have hfg2_1 := blk_frozen Bg2.out 1
  have hxg10_0 : w35_.cell? ⟨g10, 0, none⟩ = some (.slice A11_0_ r6_0.length c11_0_) := (blk_cell Bg10.out 0).trans rfl
  have hfg10_0 := blk_frozen Bg10.out 0
  have hxg11_0 : w35_.cell? ⟨g11, 0, none⟩ = some (.int .i64 r8_0) := (blk_cell Bg11.out 0).trans rfl
  have hxg11_1 : w35_.cell? ⟨g11, 1, none⟩ = some (.slice A15_0_ r8_1.length c15_0_) := (blk_cell Bg11.out 1).trans rfl
  have hfg11_0 := blk_frozen Bg11.out 0
  have hfg11_1 := blk_frozen Bg11.out 1
  clear hb ho0
  obtain ⟨A35_0_, c35_0_, eq_⟩ := Kd.R_slice O35_0.out
  subst eq_
  clear hxg1_0
  clear hfg1_0
  clear hxg2_0
  clear hxg2_1
  clear hfg2_0
  clear hfg2_1
  clear hxg10_0
  clear hfg10_0
  clear hxg11_0
  clear hxg11_1
  clear hfg11_0
  clear hfg11_1
  refine hK.out _ _ ⟨(blk_cell Bg1.out 0).trans rfl, (blk_cell Bg2.out 0).trans rfl, (blk_cell Bg2.out 1).trans rfl⟩ (fun hHeld => ?_)
  clear hK K
  refine norm_ (a' := ?_) ?_ ?_
  rotate_left
  · show Act.put _ (some 117) _ = _; simp only [Act.put, List.setIfInBounds_toArray, List.set_cons_zero, List.set_cons_succ, i64_w, i32_w]; rfl
  refine one_ (i := 3) (N := some 119) #[true,true,true,true,true,false,false,false,false,false,false,false] rfl rfl (by kernel_rfl) (by decide) (fun K hK => ?_)
  refine goes_ Try.func12 (by kernel_rfl) rfl #[.slice A1 l1.length c1] (by rfl) rfl rfl (by (try simp only [List.map_toArray, List.map_cons, List.map_nil]); first | done | rfl) ?_
  with_reducible refine (laws_toFactS.calls ke7 _ _ l1 r7_0 _ (Kd.C_below H1.out HB.out) HC1.out Ee7.out).mono ?_
  rintro e w36_ ⟨v36_0_, rfl, ho0, hb⟩
  refine ⟨_, rfl, ?_⟩
  have O36_0 := Aside0.mk (newS ho0 HB.out.size)
  have Z36_ := Aside0.mk (show w35_.heap.size ≤ w36_.heap.size from hb.size)
  have n_ := Aside0.mk (Kd.R_below O7_0.out hb); clear O7_0; have O7_0 := n_; clear n_
  have n_ := Aside0.mk (Kd.S_below O8_0.out hb); clear O8_0; have O8_0 := n_; clear n_
  have n_ := Aside0.mk (Kd.R_below O9_0.out hb); clear O9_0; have O9_0 := n_; clear n_
  have n_ := Aside0.mk (Kd.S_below O10_0.out hb); clear O10_0; have O10_0 := n_; clear n_
  have n_ := Aside0.mk (Kd.R_below O11_0.out hb); clear O11_0; have O11_0 := n_; clear n_
  have n_ := Aside0.mk (Kd.S_below O14_0.out hb); clear O14_0; have O14_0 := n_; clear n_
  have n_ := Aside0.mk (Kd.R_below O15_0.out hb); clear O15_0; have O15_0 := n_; clear n_
  have n_ := Aside0.mk (Kd.S_below O18_0.out hb); clear O18_0; have O18_0 := n_; clear n_
  have n_ := Aside0.mk (Kd.R_below O21_0.out hb); clear O21_0; have O21_0 := n_; clear n_
  have n_ := Aside0.mk (Kd.S_below O23_0.out hb); clear O23_0; have O23_0 := n_; clear n_
  have n_ := Aside0.mk (Kd.R_below O26_0.out hb); clear O26_0; have O26_0 := n_; clear n_
  have n_ := Aside0.mk (Kd.R_below O35_0.out hb); clear O35_0; have O35_0 := n_; clear n_
  have n_ := Aside0.mk (blk_below Bg1.out hb); clear Bg1; have Bg1 := n_; clear n_
  have n_ := Aside0.mk (blk_below Bg2.out hb); clear Bg2; have Bg2 := n_; clear n_
  have n_ := Aside0.mk (blk_below Bg10.out hb); clear Bg10; have Bg10 := n_; clear n_
  have n_ := Aside0.mk (blk_below Bg11.out hb); clear Bg11; have Bg11 := n_; clear n_
  have n_ := Aside0.mk (below_step HB.out hb); clear HB; have HB := n_; clear n_
  have hxg1_0 : w36_.cell? ⟨g1, 0, none⟩ = some (.slice A0_0 l0_0.length c0_0) := (blk_cell Bg1.out 0).trans rfl
  have hfg1_0 := blk_frozen Bg1.out 0
  have hxg2_0 : w36_.cell? ⟨g2, 0, none⟩ = some (.int .i64 a2_0) := (blk_cell Bg2.out 0).trans rfl
  have hxg2_1 : w36_.cell? ⟨g2, 1, none⟩ = some (.slice A2_1 l2_1.length c2_1) := (blk_cell Bg2.out 1).trans rfl
  have hfg2_0 := blk_frozen Bg2.out 0
  have hfg2_1 := blk_frozen Bg2.out 1
  have hxg10_0 : w36_.cell? ⟨g10, 0, none⟩ = some (.slice A11_0_ r6_0.length c11_0_) := (blk_cell Bg10.out 0).trans rfl
  have hfg10_0 := blk_frozen Bg10.out 0
  have hxg11_0 : w36_.cell? ⟨g11, 0, none⟩ = some (.int .i64 r8_0) := (blk_cell Bg11.out 0).trans rfl
  have hxg11_1 : w36_.cell? ⟨g11, 1, none⟩ = some (.slice A15_0_ r8_1.length c15_0_) := (blk_cell Bg11.out 1).trans rfl
  have hfg11_0 := blk_frozen Bg11.out 0
  have hfg11_1 := blk_frozen Bg11.out 1
  clear hb ho0
  obtain ⟨A36_0_, c36_0_, eq_⟩ := Kd.S_slice O36_0.out
  subst eq_
  clear hxg1_0
  clear hfg1_0
  clear hxg2_0
  clear hxg2_1
  clear hfg2_0
  clear hfg2_1
  clear hxg10_0
  clear hfg10_0
  clear hxg11_0
  clear hxg11_1
  clear hfg11_0
  clear hfg11_1
  refine hK.out _ _ ⟨(blk_cell Bg1.out 0).trans rfl, (blk_cell Bg2.out 0).trans rfl, (blk_cell Bg2.out 1).trans rfl⟩ (fun hHeld => ?_)
  clear hK K
  refine norm_ (a' := ?_) ?_ ?_
  rotate_left
  · show Act.put _ (some 119) _ = _; simp only [Act.put, List.setIfInBounds_toArray, List.set_cons_zero, List.set_cons_succ, i64_w, i32_w]; rfl
  refine one_ (i := 5) (N := some 121) #[true,true,true,true,true,true,false,false,false,false,false,false] rfl rfl (by kernel_rfl) (by decide) (fun K hK => ?_)
  refine goes_ Try.func13 (by kernel_rfl) rfl #[.agg #[.int .i64 a2_0, .slice A2_1 l2_1.length c2_1]] (by rfl) rfl rfl (by (try simp only [List.map_toArray, List.map_cons, List.map_nil]); first | done | rfl) ?_
  with_reducible refine (laws_toFact.calls ke8 a2_0 _ _ l2_1 r8_0 r8_1 _ (Kd.C_below H2_1.out HB.out) HC2_1.out Ee8.out).mono ?_
  rintro e w37_ ⟨v37_0_, rfl, ho0, hb⟩
  refine ⟨_, rfl, ?_⟩
  have O37_0 := Aside0.mk (newR ho0 HB.out.size)
  have Z37_ := Aside0.mk (show w36_.heap.size ≤ w37_.heap.size from hb.size)
  have n_ := Aside0.mk (Kd.R_below O7_0.out hb); clear O7_0; have O7_0 := n_; clear n_
  have n_ := Aside0.mk (Kd.S_below O8_0.out hb); clear O8_0; have O8_0 := n_; clear n_
  have n_ := Aside0.mk (Kd.R_below O9_0.out hb); clear O9_0; have O9_0 := n_; clear n_
  have n_ := Aside0.mk (Kd.S_below O10_0.out hb); clear O10_0; have O10_0 := n_; clear n_
  have n_ := Aside0.mk (Kd.R_below O11_0.out hb); clear O11_0; have O11_0 := n_; clear n_
  have n_ := Aside0.mk (Kd.S_below O14_0.out hb); clear O14_0; have O14_0 := n_; clear n_
  have n_ := Aside0.mk (Kd.R_below O15_0.out hb); clear O15_0; have O15_0 := n_; clear n_
  have n_ := Aside0.mk (Kd.S_below O18_0.out hb); clear O18_0; have O18_0 := n_; clear n_
  have n_ := Aside0.mk (Kd.R_below O21_0.out hb); clear O21_0; have O21_0 := n_; clear n_
  have n_ := Aside0.mk (Kd.S_below O23_0.out hb); clear O23_0; have O23_0 := n_; clear n_
  have n_ := Aside0.mk (Kd.R_below O26_0.out hb); clear O26_0; have O26_0 := n_; clear n_
  have n_ := Aside0.mk (Kd.R_below O35_0.out hb); clear O35_0; have O35_0 := n_; clear n_
  have n_ := Aside0.mk (Kd.S_below O36_0.out hb); clear O36_0; have O36_0 := n_; clear n_
  have n_ := Aside0.mk (blk_below Bg1.out hb); clear Bg1; have Bg1 := n_; clear n_
  have n_ := Aside0.mk (blk_below Bg2.out hb); clear Bg2; have Bg2 := n_; clear n_
  have n_ := Aside0.mk (blk_below Bg10.out hb); clear Bg10; have Bg10 := n_; clear n_
  have n_ := Aside0.mk (blk_below Bg11.out hb); clear Bg11; have Bg11 := n_; clear n_
  have n_ := Aside0.mk (below_step HB.out hb); clear HB; have HB := n_; clear n_
  have hxg1_0 : w37_.cell? ⟨g1, 0, none⟩ = some (.slice A0_0 l0_0.length c0_0) := (blk_cell Bg1.out 0).trans rfl
  have hfg1_0 := blk_frozen Bg1.out 0
  have hxg2_0 : w37_.cell? ⟨g2, 0, none⟩ = some (.int .i64 a2_0) := (blk_cell Bg2.out 0).trans rfl
  have hxg2_1 : w37_.cell? ⟨g2, 1, none⟩ = some (.slice A2_1 l2_1.length c2_1) := (blk_cell Bg2.out 1).trans rfl
  have hfg2_0 := blk_frozen Bg2.out 0
  have hfg2_1 := blk_frozen Bg2.out 1
  have hxg10_0 : w37_.cell? ⟨g10, 0, none⟩ = some (.slice A11_0_ r6_0.length c11_0_) := (blk_cell Bg10.out 0).trans rfl
  have hfg10_0 := blk_frozen Bg10.out 0
  have hxg11_0 : w37_.cell? ⟨g11, 0, none⟩ = some (.int .i64 r8_0) := (blk_cell Bg11.out 0).trans rfl
  have hxg11_1 : w37_.cell? ⟨g11, 1, none⟩ = some (.slice A15_0_ r8_1.length c15_0_) := (blk_cell Bg11.out 1).trans rfl
  have hfg11_0 := blk_frozen Bg11.out 0
  have hfg11_1 := blk_frozen Bg11.out 1
  clear hb ho0
  obtain ⟨A37_0_, c37_0_, eq_⟩ := Kd.R_slice O37_0.out
  subst eq_
  clear hxg1_0
  clear hfg1_0
  clear hxg2_0
  clear hxg2_1
  clear hfg2_0
  clear hfg2_1
  clear hxg10_0
  clear hfg10_0
  clear hxg11_0
  clear hxg11_1
  clear hfg11_0
  clear hfg11_1
  refine hK.out _ _ ⟨(blk_cell Bg1.out 0).trans rfl, (blk_cell Bg2.out 0).trans rfl, (blk_cell Bg2.out 1).trans rfl⟩ (fun hHeld => ?_)
  clear hK K
  refine norm_ (a' := ?_) ?_ ?_
  rotate_left
  · show Act.put _ (some 121) _ = _; simp only [Act.put, List.setIfInBounds_toArray, List.set_cons_zero, List.set_cons_succ, i64_w, i32_w]; rfl
  refine one_ (i := 6) (N := some 122) #[true,true,true,true,true,true,true,false,false,false,false,false] rfl rfl (by kernel_rfl) (by decide) (fun K hK => ?_)
  refine goes_ Try.func14 (by kernel_rfl) rfl #[.agg #[.slice A35_0_ r6_0.length c35_0_], .slice A36_0_ r7_0.length c36_0_, .agg #[.int .i64 r8_0, .slice A37_0_ r8_1.length c37_0_]] (by rfl) rfl rfl (by (try simp only [List.map_toArray, List.map_cons, List.map_nil]); first | done | rfl) ?_
  with_reducible refine (impl_AddFact_calls _ _ r6_0 _ _ r7_0 r8_0 _ _ r8_1 r9_0 r9_1 _ (Kd.R_reads' O35_0.out).2.2 (Kd.R_reads' O35_0.out).2.1 (Kd.S_reads' O36_0.out).2.2 (Kd.S_reads' O36_0.out).2.1 (Kd.R_reads' O37_0.out).2.2 (Kd.R_reads' O37_0.out).2.1 e10_hz0.out Ee10.out).mono ?_
  rintro e w38_ ⟨v38_0_, rfl, ho0, hb⟩
  refine ⟨_, rfl, ?_⟩
  have O38_0 := Aside0.mk (newS ho0 HB.out.size)
  have Z38_ := Aside0.mk (show w37_.heap.size ≤ w38_.heap.size from hb.size)
  have n_ := Aside0.mk (Kd.R_below O7_0.out hb); clear O7_0; have O7_0 := n_; clear n_
  have n_ := Aside0.mk (Kd.S_below O8_0.out hb); clear O8_0; have O8_0 := n_; clear n_
  have n_ := Aside0.mk (Kd.R_below O9_0.out hb); clear O9_0; have O9_0 := n_; clear n_
  have n_ := Aside0.mk (Kd.S_below O10_0.out hb); clear O10_0; have O10_0 := n_; clear n_
  have n_ := Aside0.mk (Kd.R_below O11_0.out hb); clear O11_0; have O11_0 := n_; clear n_
  have n_ := Aside0.mk (Kd.S_below O14_0.out hb); clear O14_0; have O14_0 := n_; clear n_
  have n_ := Aside0.mk (Kd.R_below O15_0.out hb); clear O15_0; have O15_0 := n_; clear n_
  have n_ := Aside0.mk (Kd.S_below O18_0.out hb); clear O18_0; have O18_0 := n_; clear n_
  have n_ := Aside0.mk (Kd.R_below O21_0.out hb); clear O21_0; have O21_0 := n_; clear n_
  have n_ := Aside0.mk (Kd.S_below O23_0.out hb); clear O23_0; have O23_0 := n_; clear n_
  have n_ := Aside0.mk (Kd.R_below O26_0.out hb); clear O26_0; have O26_0 := n_; clear n_
  have n_ := Aside0.mk (Kd.R_below O35_0.out hb); clear O35_0; have O35_0 := n_; clear n_
  have n_ := Aside0.mk (Kd.S_below O36_0.out hb); clear O36_0; have O36_0 := n_; clear n_
  have n_ := Aside0.mk (Kd.R_below O37_0.out hb); clear O37_0; have O37_0 := n_; clear n_
  have n_ := Aside0.mk (blk_below Bg1.out hb); clear Bg1; have Bg1 := n_; clear n_
  have n_ := Aside0.mk (blk_below Bg2.out hb); clear Bg2; have Bg2 := n_; clear n_
  have n_ := Aside0.mk (blk_below Bg10.out hb); clear Bg10; have Bg10 := n_; clear n_
  have n_ := Aside0.mk (blk_below Bg11.out hb); clear Bg11; have Bg11 := n_; clear n_
  have n_ := Aside0.mk (below_step HB.out hb); clear HB; have HB := n_; clear n_
  have hxg1_0 : w38_.cell? ⟨g1, 0, none⟩ = some (.slice A0_0 l0_0.length c0_0) := (blk_cell Bg1.out 0).trans rfl
  have hfg1_0 := blk_frozen Bg1.out 0
  have hxg2_0 : w38_.cell? ⟨g2, 0, none⟩ = some (.int .i64 a2_0) := (blk_cell Bg2.out 0).trans rfl
  have hxg2_1 : w38_.cell? ⟨g2, 1, none⟩ = some (.slice A2_1 l2_1.length c2_1) := (blk_cell Bg2.out 1).trans rfl
  have hfg2_0 := blk_frozen Bg2.out 0
  have hfg2_1 := blk_frozen Bg2.out 1
  have hxg10_0 : w38_.cell? ⟨g10, 0, none⟩ = some (.slice A11_0_ r6_0.length c11_0_) := (blk_cell Bg10.out 0).trans rfl
  have hfg10_0 := blk_frozen Bg10.out 0
  have hxg11_0 : w38_.cell? ⟨g11, 0, none⟩ = some (.int .i64 r8_0) := (blk_cell Bg11.out 0).trans rfl
  have hxg11_1 : w38_.cell? ⟨g11, 1, none⟩ = some (.slice A15_0_ r8_1.length c15_0_) := (blk_cell Bg11.out 1).trans rfl
  have hfg11_0 := blk_frozen Bg11.out 0
  have hfg11_1 := blk_frozen Bg11.out 1
  clear hb ho0
  obtain ⟨A38_0_, c38_0_, eq_⟩ := Kd.S_slice O38_0.out
  subst eq_
  clear hxg1_0
  clear hfg1_0
  clear hxg2_0
  clear hxg2_1
  clear hfg2_0
  clear hfg2_1
  clear hxg10_0
  clear hfg10_0
  clear hxg11_0
  clear hxg11_1
  clear hfg11_0
  clear hfg11_1
  refine hK.out _ _ ⟨(blk_cell Bg1.out 0).trans rfl, (blk_cell Bg2.out 0).trans rfl, (blk_cell Bg2.out 1).trans rfl⟩ (fun hHeld => ?_)
  clear hK K
  refine norm_ (a' := ?_) ?_ ?_
  rotate_left
  · show Act.put _ (some 122) _ = _; simp only [Act.put, List.setIfInBounds_toArray, List.set_cons_zero, List.set_cons_succ, i64_w, i32_w]; rfl
  refine pure_ (i := 7) (N := some 115) (v := ?_) (a' := ?_) #[true,true,true,true,true,true,true,true,false,false,false,false] rfl rfl (by kernel_rfl) (fun _ _ _ h => h) (Or.inl ⟨by rfl, ?_⟩) ?_ ?_
  rotate_left
  · intro w'; go_simp; with_reducible rfl
  rotate_left
  · simp only [Act.put, List.setIfInBounds_toArray, List.set_cons_zero, List.set_cons_succ, i64_w, i32_w]; rfl
  refine pure_ (i := 8) (N := some 123) (v := ?_) (a' := ?_) #[true,true,true,true,true,true,true,true,true,false,false,false] rfl rfl (by kernel_rfl) (fun _ _ _ h => h) (Or.inl ⟨by rfl, ?_⟩) ?_ ?_
  rotate_left
  · intro w'; go_simp; with_reducible rfl
  rotate_left
  · simp only [Act.put, List.setIfInBounds_toArray, List.set_cons_zero, List.set_cons_succ, i64_w, i32_w]; rfl
  refine pure_ (i := 9) (N := some 124) (v := ?_) (a' := ?_) #[true,true,true,true,true,true,true,true,true,true,false,false] rfl rfl (by kernel_rfl) (fun _ _ _ h => h) (Or.inl ⟨by rfl, ?_⟩) ?_ ?_
  rotate_left
  · intro w'; go_simp; with_reducible rfl
  rotate_left
  · simp only [Act.put, List.setIfInBounds_toArray, List.set_cons_zero, List.set_cons_succ, i64_w, i32_w]; rfl
  refine pure_ (i := 10) (N := some 18) (v := ?_) (a' := ?_) #[true,true,true,true,true,true,true,true,true,true,true,false] rfl rfl (by kernel_rfl) (fun _ _ _ h => h) (Or.inl ⟨by rfl, ?_⟩) ?_ ?_
  rotate_left
  · intro w'; go_simp; with_reducible rfl
  rotate_left
  · simp only [Act.put, List.setIfInBounds_toArray, List.set_cons_zero, List.set_cons_succ, i64_w, i32_w]; rfl
  refine pure_ (i := 11) (N := some 19) (v := ?_) (a' := ?_) #[true,true,true,true,true,true,true,true,true,true,true,true] rfl rfl (by kernel_rfl) (fun _ _ _ h => h) (Or.inl ⟨by rfl, ?_⟩) ?_ ?_
  rotate_left
  · intro w'; go_simp; with_reducible rfl
  rotate_left
  · simp only [Act.put, List.setIfInBounds_toArray, List.set_cons_zero, List.set_cons_succ, i64_w, i32_w]; rfl
  refine done_ (by kernel_rfl) ?_
  have hxg1_0 : w38_.cell? ⟨g1, 0, none⟩ = some (.slice A0_0 l0_0.length c0_0) := (blk_cell Bg1.out 0).trans rfl
  have hfg1_0 := blk_frozen Bg1.out 0
  have hxg2_0 : w38_.cell? ⟨g2, 0, none⟩ = some (.int .i64 a2_0) := (blk_cell Bg2.out 0).trans rfl
  have hxg2_1 : w38_.cell? ⟨g2, 1, none⟩ = some (.slice A2_1 l2_1.length c2_1) := (blk_cell Bg2.out 1).trans rfl
  have hfg2_0 := blk_frozen Bg2.out 0
  have hfg2_1 := blk_frozen Bg2.out 1
  have hxg10_0 : w38_.cell? ⟨g10, 0, none⟩ = some (.slice A11_0_ r6_0.length c11_0_) := (blk_cell Bg10.out 0).trans rfl
  have hfg10_0 := blk_frozen Bg10.out 0
  have hxg11_0 : w38_.cell? ⟨g11, 0, none⟩ = some (.int .i64 r8_0) := (blk_cell Bg11.out 0).trans rfl
  have hxg11_1 : w38_.cell? ⟨g11, 1, none⟩ = some (.slice A15_0_ r8_1.length c15_0_) := (blk_cell Bg11.out 1).trans rfl
  have hfg11_0 := blk_frozen Bg11.out 0
  have hfg11_1 := blk_frozen Bg11.out 1
  go_wp2_with (first | (go_at_call 15; refine hold ?_))
  unfold Hold
  refine (laws_eqFactS.calls ke11 _ _ r9_0 _ _ r9_0 true _ (Kd.S_reads' O38_0.out).2.2 (Kd.S_reads' O38_0.out).2.1 (Kd.S_reads' O10_0.out).2.2 (Kd.S_reads' O10_0.out).2.1 Ee11.out).mono ?_
  rintro e w39_ ⟨rfl, hb⟩
  have Z39_ := Aside0.mk (show w38_.heap.size ≤ w39_.heap.size from hb.size)
  have n_ := Aside0.mk (Kd.R_below O7_0.out hb); clear O7_0; have O7_0 := n_; clear n_
  have n_ := Aside0.mk (Kd.S_below O8_0.out hb); clear O8_0; have O8_0 := n_; clear n_
  have n_ := Aside0.mk (Kd.R_below O9_0.out hb); clear O9_0; have O9_0 := n_; clear n_
  have n_ := Aside0.mk (Kd.S_below O10_0.out hb); clear O10_0; have O10_0 := n_; clear n_
  have n_ := Aside0.mk (Kd.R_below O11_0.out hb); clear O11_0; have O11_0 := n_; clear n_
  have n_ := Aside0.mk (Kd.S_below O14_0.out hb); clear O14_0; have O14_0 := n_; clear n_
  have n_ := Aside0.mk (Kd.R_below O15_0.out hb); clear O15_0; have O15_0 := n_; clear n_
  have n_ := Aside0.mk (Kd.S_below O18_0.out hb); clear O18_0; have O18_0 := n_; clear n_
  have n_ := Aside0.mk (Kd.R_below O21_0.out hb); clear O21_0; have O21_0 := n_; clear n_
  have n_ := Aside0.mk (Kd.S_below O23_0.out hb); clear O23_0; have O23_0 := n_; clear n_
  have n_ := Aside0.mk (Kd.R_below O26_0.out hb); clear O26_0; have O26_0 := n_; clear n_
  have n_ := Aside0.mk (Kd.R_below O35_0.out hb); clear O35_0; have O35_0 := n_; clear n_
  have n_ := Aside0.mk (Kd.S_below O36_0.out hb); clear O36_0; have O36_0 := n_; clear n_
  have n_ := Aside0.mk (Kd.R_below O37_0.out hb); clear O37_0; have O37_0 := n_; clear n_
  have n_ := Aside0.mk (Kd.S_below O38_0.out hb); clear O38_0; have O38_0 := n_; clear n_
  have n_ := Aside0.mk (blk_below Bg1.out hb); clear Bg1; have Bg1 := n_; clear n_
  have n_ := Aside0.mk (blk_below Bg2.out hb); clear Bg2; have Bg2 := n_; clear n_
  have n_ := Aside0.mk (blk_below Bg10.out hb); clear Bg10; have Bg10 := n_; clear n_
  have n_ := Aside0.mk (blk_below Bg11.out hb); clear Bg11; have Bg11 := n_; clear n_
  have n_ := Aside0.mk (below_step HB.out hb); clear HB; have HB := n_; clear n_
  clear hxg1_0
  clear hfg1_0
  clear hxg2_0
  clear hxg2_1
  clear hfg2_0
  clear hfg2_1
  clear hxg10_0
  clear hfg10_0
  clear hxg11_0
  clear hxg11_1
  clear hfg11_0
  clear hfg11_1
  have hxg1_0 : w39_.cell? ⟨g1, 0, none⟩ = some (.slice A0_0 l0_0.length c0_0) := (blk_cell Bg1.out 0).trans rfl
  have hfg1_0 := blk_frozen Bg1.out 0
  have hxg2_0 : w39_.cell? ⟨g2, 0, none⟩ = some (.int .i64 a2_0) := (blk_cell Bg2.out 0).trans rfl
  have hxg2_1 : w39_.cell? ⟨g2, 1, none⟩ = some (.slice A2_1 l2_1.length c2_1) := (blk_cell Bg2.out 1).trans rfl
  have hfg2_0 := blk_frozen Bg2.out 0
  have hfg2_1 := blk_frozen Bg2.out 1
  have hxg10_0 : w39_.cell? ⟨g10, 0, none⟩ = some (.slice A11_0_ r6_0.length c11_0_) := (blk_cell Bg10.out 0).trans rfl
  have hfg10_0 := blk_frozen Bg10.out 0
  have hxg11_0 : w39_.cell? ⟨g11, 0, none⟩ = some (.int .i64 r8_0) := (blk_cell Bg11.out 0).trans rfl
  have hxg11_1 : w39_.cell? ⟨g11, 1, none⟩ = some (.slice A15_0_ r8_1.length c15_0_) := (blk_cell Bg11.out 1).trans rfl
  have hfg11_0 := blk_frozen Bg11.out 0
  have hfg11_1 := blk_frozen Bg11.out 1
  clear hb
  go_wp2_with (first | (go_at_call 21; refine hold ?_))
  unfold Hold
  refine calls_of_args (args' := #[.slice A18_0_ r19_1.length c18_0_, .int .i64 1]) (by rw [show r9_0.length = r19_1.length from (Kd.S_reads' O18_0.out).1]) ?_
  refine (laws_heldFactS.calls ke20 _ _ r19_1 1 r19_0 _ (Kd.S_reads' O18_0.out).2.2 (Nat.le_trans (Nat.le_of_eq (Kd.S_reads' O18_0.out).1.symm) (Kd.S_reads' O18_0.out).2.1) Ee20.out).mono ?_
  rintro e w40_ ⟨rfl, hd⟩
  have hb := hd.below; clear hd
  have Z40_ := Aside0.mk (show w39_.heap.size ≤ w40_.heap.size from hb.size)
  have n_ := Aside0.mk (Kd.R_below O7_0.out hb); clear O7_0; have O7_0 := n_; clear n_
  have n_ := Aside0.mk (Kd.S_below O8_0.out hb); clear O8_0; have O8_0 := n_; clear n_
  have n_ := Aside0.mk (Kd.R_below O9_0.out hb); clear O9_0; have O9_0 := n_; clear n_
  have n_ := Aside0.mk (Kd.S_below O10_0.out hb); clear O10_0; have O10_0 := n_; clear n_
  have n_ := Aside0.mk (Kd.R_below O11_0.out hb); clear O11_0; have O11_0 := n_; clear n_
  have n_ := Aside0.mk (Kd.S_below O14_0.out hb); clear O14_0; have O14_0 := n_; clear n_
  have n_ := Aside0.mk (Kd.R_below O15_0.out hb); clear O15_0; have O15_0 := n_; clear n_
  have n_ := Aside0.mk (Kd.S_below O18_0.out hb); clear O18_0; have O18_0 := n_; clear n_
  have n_ := Aside0.mk (Kd.R_below O21_0.out hb); clear O21_0; have O21_0 := n_; clear n_
  have n_ := Aside0.mk (Kd.S_below O23_0.out hb); clear O23_0; have O23_0 := n_; clear n_
  have n_ := Aside0.mk (Kd.R_below O26_0.out hb); clear O26_0; have O26_0 := n_; clear n_
  have n_ := Aside0.mk (Kd.R_below O35_0.out hb); clear O35_0; have O35_0 := n_; clear n_
  have n_ := Aside0.mk (Kd.S_below O36_0.out hb); clear O36_0; have O36_0 := n_; clear n_
  have n_ := Aside0.mk (Kd.R_below O37_0.out hb); clear O37_0; have O37_0 := n_; clear n_
  have n_ := Aside0.mk (Kd.S_below O38_0.out hb); clear O38_0; have O38_0 := n_; clear n_
  have n_ := Aside0.mk (blk_below Bg1.out hb); clear Bg1; have Bg1 := n_; clear n_
  have n_ := Aside0.mk (blk_below Bg2.out hb); clear Bg2; have Bg2 := n_; clear n_
  have n_ := Aside0.mk (blk_below Bg10.out hb); clear Bg10; have Bg10 := n_; clear n_
  have n_ := Aside0.mk (blk_below Bg11.out hb); clear Bg11; have Bg11 := n_; clear n_
  have n_ := Aside0.mk (below_step HB.out hb); clear HB; have HB := n_; clear n_
  clear hxg1_0
  clear hfg1_0
  clear hxg2_0
  clear hxg2_1
  clear hfg2_0
  clear hfg2_1
  clear hxg10_0
  clear hfg10_0
  clear hxg11_0
  clear hxg11_1
  clear hfg11_0
  clear hfg11_1
  have hxg1_0 : w40_.cell? ⟨g1, 0, none⟩ = some (.slice A0_0 l0_0.length c0_0) := (blk_cell Bg1.out 0).trans rfl
  have hfg1_0 := blk_frozen Bg1.out 0
  have hxg2_0 : w40_.cell? ⟨g2, 0, none⟩ = some (.int .i64 a2_0) := (blk_cell Bg2.out 0).trans rfl
  have hxg2_1 : w40_.cell? ⟨g2, 1, none⟩ = some (.slice A2_1 l2_1.length c2_1) := (blk_cell Bg2.out 1).trans rfl
  have hfg2_0 := blk_frozen Bg2.out 0
  have hfg2_1 := blk_frozen Bg2.out 1
  have hxg10_0 : w40_.cell? ⟨g10, 0, none⟩ = some (.slice A11_0_ r6_0.length c11_0_) := (blk_cell Bg10.out 0).trans rfl
  have hfg10_0 := blk_frozen Bg10.out 0
  have hxg11_0 : w40_.cell? ⟨g11, 0, none⟩ = some (.int .i64 r8_0) := (blk_cell Bg11.out 0).trans rfl
  have hxg11_1 : w40_.cell? ⟨g11, 1, none⟩ = some (.slice A15_0_ r8_1.length c15_0_) := (blk_cell Bg11.out 1).trans rfl
  have hfg11_0 := blk_frozen Bg11.out 0
  have hfg11_1 := blk_frozen Bg11.out 1
  clear hb
  go_wp2
  go_ret
  exact ⟨rfl, HB.out⟩
theorem mAddF_small (s : List Int) (d : List S37) (f : S37) (hd : d.length ≤ 1048576) (hs : ∀ x ∈ d, x.f1.length ≤ 1048576) (hf : f.f1.length ≤ 1048576) : (mAddF s d f).1.length ≤ 1048576 ∧ ∀ x ∈ (mAddF s d f).1, x.f1.length ≤ 1048576 := by
  unfold mAddF
  by_cases c : mFits s d f = true
  · rw [if_pos c]
    have c2 := c
    unfold mFits at c2
    simp only [Bool.and_eq_true, decide_eq_true_eq] at c2
    have hl := (mPutF_perm f d).length_eq
    rw [List.length_append, List.length_singleton] at hl
    refine ⟨by show (mPutF f d).length ≤ 1048576; omega, fun x hx => ?_⟩
    rcases mPutF_mem hx with rfl | hx
    · exact hf
    · exact hs x hx
  · rw [if_neg c]; exact ⟨hd, hs⟩
theorem FnExactAddFact_calls (A0_0 : Option Addr) (c0_0 : Nat) (l0_0 : List Int) (A1 : Option Addr) (c1 : Nat) (l1 : List S27) (a2_0 : Int) (A2_1 : Option Addr) (c2_1 : Nat) (l2_1 : List Int) (w : World) (hr0_0 : Kd.C (Kd.int .i64) w A0_0 l0_0.length l0_0) (hc0_0 : l0_0.length ≤ c0_0) (hr1 : Kd.C k27 w A1 l1.length l1) (hc1 : l1.length ≤ c1) (hr2_1 : Kd.C (Kd.int .i64) w A2_1 l2_1.length l2_1) (hc2_1 : l2_1.length ≤ c2_1) (w0 : (WfL WfI) l0_0) (w1 : (WfL (fun x : S27 => WfI x.f0 ∧ (WfL WfI) x.f1)) l1) (w2 : WfI a2_0 ∧ (WfL WfI) l2_1) :
    Calls Try.prog 3 #[.agg #[.slice A0_0 l0_0.length c0_0], .slice A1 l1.length c1, .agg #[.int .i64 a2_0, .slice A2_1 l2_1.length c2_1]] w fun e w' => e = .returned (.bool true) ∧ Below w.heap.size w w' := by
  obtain ⟨t0, z0, c0⟩ := szSchema_ok l0_0 1048576 w0 (by omega) (by omega)
  obtain ⟨_, z0⟩ := z0.rounds
  rcases c0 with c0 | ⟨p0, q0, hs0⟩
  · exact laws_FnExactAddFact_out0 _ _ _ _ _ _ _ _ _ _ w hr0_0 hc0_0 hr1 hc1 hr2_1 hc2_1 _ z0 c0
  obtain ⟨t1, z1, c1'⟩ := szFactS_ok l1 t0 w1 (by omega) (by omega)
  rcases c1' with c1' | ⟨p1, q1, hs1⟩
  · exact laws_FnExactAddFact_out1 _ _ _ _ _ _ _ _ _ _ w hr0_0 hc0_0 hr1 hc1 hr2_1 hc2_1 _ _ z0 (by omega) z1.rounds c1'
  obtain ⟨t2, z2, c2⟩ := szFact_ok a2_0 l2_1 t1 w2.2 (by omega) (by omega)
  obtain ⟨_, z2⟩ := z2.rounds
  rcases c2 with c2 | ⟨p2, q2, hs2⟩
  · exact laws_FnExactAddFact_out2 _ _ _ _ _ _ _ _ _ _ w hr0_0 hc0_0 hr1 hc1 hr2_1 hc2_1 _ _ _ z0 (by omega) z1.rounds (by omega) z2 c2
  have hd : (l1.map cvF).length ≤ 1048576 := by simpa using (show l1.length ≤ 1048576 by omega)
  have hs := cvF_small hs1.2
  obtain ⟨g0, g1⟩ := mAddF_small l0_0 (l1.map cvF) ⟨a2_0, l2_1⟩ hd hs (by show l2_1.length ≤ 1048576; omega)
  obtain ⟨m0, m1, m2⟩ := markF_ok (l1.map cvF) (1 + (l0_0.length : Int)) hd hs (by omega) (by omega)
  have hsp := specAdd_ev l0_0 (l1.map cvF) ⟨a2_0, l2_1⟩ (by omega) hd hs (by show l2_1.length ≤ 1048576; omega)
  generalize hP : mAddF l0_0 (l1.map cvF) ⟨a2_0, l2_1⟩ = P at g0 g1 hsp
  obtain ⟨f0, f1⟩ := P
  simp only [] at g0 g1
  obtain ⟨n0, n1, n2⟩ := markF_ok f0 1 g0 g1 (by omega) (by omega)
  exact laws_FnExactAddFact_walk _ _ _ _ _ _ _ _ _ _ w hr0_0 hc0_0 hr1 hc1 hr2_1 hc2_1 _ _ _ _ _ _ _ f0 f1 _ _ _ _ _ _ _ _ z0 (by omega) z1.rounds (by omega) z2 (by omega)
    (toSchema_ev l0_0 (by omega)).rounds (toFactS_ev l1 (by omega) hs1.2).rounds (toFact_ev a2_0 l2_1 (by omega)).rounds
    hsp.rounds hP ⟨by omega, hd, hs, by omega⟩
    (eqFactS_ev _ g0 g1).rounds (by have e := eqSchema_ev l0_0 l0_0 (by omega); rw [decide_eq_true rfl] at e; exact e.rounds) (eqFactS_ev _ hd hs).rounds
    (by have e := eqFact_ev a2_0 l2_1 a2_0 l2_1 (by omega); rw [decide_eq_true ⟨rfl, rfl⟩] at e; exact e.rounds)
    (markSchema_ev l0_0 1 (by omega) (by omega) (by omega)).rounds rfl m0 (markFact_ev a2_0 l2_1 _ (by omega) (by omega) (by omega)).rounds (by omega)
    rfl n0 (heldFactS_ev _ 1 g0 g1 (by omega) (by omega)).rounds (by omega)


end Go.Proofs.Ytfelabhakgcifaa.Hand
