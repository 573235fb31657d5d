/- Walks through Go functions that FnMappings reaches, by hand: each call returns what is said beside it, within the bounds that the theorem names. -/
import Derived.Test.YtanbgnjfllpkgaaQFnMappingsx0
import Derived.Test.YtanbgnjfllpkgaaQFnMappingsx1
import Derived.Test.YtanbgnjfllpkgaaQFnMappingsx2
import Derived.Test.YtanbgnjfllpkgaaQFnMappingsx3
import Derived.Test.YtanbgnjfllpkgaaQFnMappingsx4
import Derived.Test.YtanbgnjfllpkgaaQFnMappingsx5
import Derived.Test.YtanbgnjfllpkgaaQFnMappingsx6
import Derived.Test.YtanbgnjfllpkgaaQFnMappingsx7
import Derived.Test.YtanbgnjfllpkgaaQFnMappingsx8
import Derived.Test.YtanbgnjfllpkgaaQFnMappingsx9
import Derived.Test.YtanbgnjfllpkgaaQFnMappingsx10
import Derived.Test.YtanbgnjfllpkgaaQFnMappingsx11
import Derived.Test.YtanbgnjfllpkgaaQFnMappingsx12
import Derived.Test.YtanbgnjfllpkgaaQFnMappingsx13
import Derived.Test.YtanbgnjfllpkgaaQFnMappingsx14
import Derived.Test.YtanbgnjfllpkgaaQFnMappingsx15
import Derived.Test.YtanbgnjfllpkgaaQFnMappingsx16
import Derived.Test.YtanbgnjfllpkgaaVFnMappingsMine
import Derived.Test.YtanbgnjfllpkgaaPureFnMappings
import Derived.Deep.CutBlock
set_option linter.unusedVariables false
set_option linter.unusedSimpArgs false
namespace Go.Proofs.Ytanbgnjfllpkgaa.Hand
open Go.RowKit Go.Proofs.Ytanbgnjfllpkgaa.QFnMappings Go.Proofs.YtanbgnjfllpkgaaW.PrintWords Go.Proofs.YtanbgnjfllpkgaaW.PrintLast Go.Proofs.YtanbgnjfllpkgaaW.PrintMore Go.Proofs.Ytanbgnjfllpkgaa.Mine Go.Proofs.Ytanbgnjfllpkgaa.Open Go.Proofs.Ytanbgnjfllpkgaa.Pure
abbrev yt := true
abbrev yf := false
attribute [local go_sem] max2_int min2_int max_two min_two max_three min_three max_four min_four

def Hold (p : Prop) : Prop := p
theorem hold {p : Prop} (h : Hold p) : p := h
theorem newR {α : Type} {d : Kd α} {e B : Nat} {W w1 : World} {ok : Nat → Prop} {v : Value} {xs : List α} (h : d.R e w1 W.heap.size ok v xs) (hB : B ≤ W.heap.size) : d.R e w1 B (fun k => (W.heap.size ≤ k ∧ k < w1.heap.size) ∧ ok k) v xs :=
 zHb (zGb (Kd.R_bound h) (fun _ hk => ⟨⟨hk.2.1,hk.2.2.1⟩,hk.1⟩)) hB
theorem newS {α : Type} {d : Kd α} {e B : Nat} {W w1 : World} {ok : Nat → Prop} {v : Value} {xs : List α} (h : Kd.S d e w1 W.heap.size ok v xs) (hB : B ≤ W.heap.size) : Kd.S d e w1 B (fun k => (W.heap.size ≤ k ∧ k < w1.heap.size) ∧ ok k) v xs :=
 zIb (zS (Kd.S_bound h) (fun _ hk => ⟨⟨hk.2.1,hk.2.2.1⟩,hk.1⟩)) hB
theorem kept_two {w : World} {g : Nat} (a b : Value) : Kept w ((w.setCell ⟨g, 0, none⟩ a).setCell ⟨g, 1, none⟩ b) (fun k => k = g) :=
 ((Kept.refl w (fun k => k = g)).setCell (.inl rfl) a).setCell (.inl rfl) b
theorem kept_one {w : World} {g : Nat} (a : Value) : Kept w (w.setCell ⟨g, 0, none⟩ a) (fun k => k = g) := (Kept.refl w (fun k => k = g)).setCell (.inl rfl) a
theorem goesC_ {P : Program} {ops : Array Oper} {Q : Exit → Act → World → Prop} {oi : Oper} {N : Option Tmp} {a : Act} {w : World} {K : Act → World → Prop} {f : FuncId} {fn : Func} {p : Operand} {as_ : Array Operand} {ts : Array TypeId} (hf : P.funcs[f]? = some fn) (hname : (fn.name == "runtime.NumGoroutine") = false) (hb : fn.body.isSome = true) (first cap args : Array Value)
  (hw : Region.wanted oi (yielded ops a.tmps) = true) (hN : oi.dst = N) (hop : oi.op = .call { callee:=.value p,args:=as_,argTypes:=ts }) (hv : a.eval p = .func (.func f) first cap) (hargs : (first ++ as_.map a.eval) ++ cap = args)
  (h : Calls P f args w fun e w' => ∃ v,e = .returned v ∧ K (a.put N v) w') : if Region.wanted oi (yielded ops a.tmps) = true then Oper.wp P oi a w K Q else K (a.put N undef) w:=by
 refine call_ f args hw hN ?_ h
 have he:=enters_ hf hname hb args w
 unfold execOp
 simp [hop,resolve,hv,Deferred.ofValue,invoke,hargs,he]

def Kd.G {α : Type} (d : Kd α) (e : Nat) (w : World) (base : Nat) (ok : Nat → Prop) (v : Value) (xs : List α) : Prop := ∃ A c, v = .slice A xs.length c ∧ xs.length ≤ c ∧ Kd.F d w ok A xs.length xs
section
variable {α : Type} {d : Kd α} {e base base' n c g B : Nat} {ok ok' : Nat → Prop} {w w1 W : World} {A : Option Addr} {v : Value} {xs : List α}
theorem Kd.G_slice (h : Kd.G d e w base ok v xs) : ∃ A c, v = .slice A xs.length c := by
 obtain ⟨A,c,rfl,_⟩:=h
 exact ⟨A,c,rfl⟩
theorem Kd.G_open (h : Kd.G d e w base ok (.slice A n c) xs) : n = xs.length ∧ n ≤ c ∧ Kd.F d w ok A xs.length xs := by
 obtain ⟨A',c',he,hl,hF⟩:=h
 injection he with h1 h2 h3
 subst h1
 subst h2
 subst h3
 exact ⟨rfl,hl,hF⟩
theorem Kd.G_reads' (h : Kd.G d e w base ok (.slice A n c) xs) : n = xs.length ∧ n ≤ c ∧ d.C w A xs.length xs := by
 obtain ⟨h1,h2,h3⟩:=Kd.G_open h
 exact ⟨h1,h2,Kd.F_now h3⟩
theorem Kd.G_step (h : Kd.G d e w base ok v xs) (hm : ∀ k, ok k → k < w.heap.size → w1.heap[k]? = w.heap[k]?) : Kd.G d e w1 base ok v xs := by
 obtain ⟨A,c,he,hl,hF⟩:=h
 exact ⟨A,c,he,hl,Kd.F_step hF hm⟩
theorem Kd.G_below (h : Kd.G d e w base ok v xs) (hb : Below w.heap.size w w1) : Kd.G d e w1 base ok v xs := Kd.G_step h (fun k _ hlt => hb.block k hlt)
theorem Kd.G_drew (h : Kd.G d e w base ok v xs) : Kd.G d e w.drew base ok v xs := Kd.G_step h (fun _ _ _ => rfl)
theorem Kd.G_mono (h : Kd.G d e w base ok v xs) (hok : ∀ k, ok k → ok' k) : Kd.G d e w base' ok' v xs := by
 obtain ⟨A,c,he,hl,hF⟩:=h
 exact ⟨A,c,he,hl,Kd.F_mono hF hok⟩
theorem Kd.G_bound (h : Kd.G d e w base ok v xs) : Kd.G d e w base (fun k => ok k ∧ k < w.heap.size) v xs := by
 obtain ⟨A,c,he,hl,hF⟩:=h
 exact ⟨A,c,he,hl,Kd.F_bound hF⟩
theorem Kd.G_keep (h : Kd.G d e w base ok v xs) (hk : KeepBut w w1 g none) (hok : ∀ k, ok k → k ≠ g) : Kd.G d e w1 base ok v xs := Kd.G_step h (fun k ho hlt => hk.2 k hlt (hok k ho) (by simp))
theorem Kd.G_far (h : Kd.G d e w base ok v xs) {p : Addr} (hok : ∀ k, ok k → k ≠ p.block) (u : Value) : Kd.G d e (w.setCell p u) base ok v xs := Kd.G_step h (fun k hk _ => Below.heap_setCell w p u k (hok k hk))
theorem Kd.G_R (h : d.R e w base ok v xs) : Kd.G d e w base' ok v xs := by
 obtain ⟨A,c,rfl,hl,_⟩:=zRb h
 exact ⟨A,c,rfl,hl,Kd.R_F h⟩
theorem Kd.G_S (h : Kd.S d e w base ok v xs) : Kd.G d e w base' ok v xs := Kd.G_R (Kd.S_R h)
theorem newG (h : Kd.G d e w1 W.heap.size (fun k_ => (W.heap.size ≤ k_)) v xs) (_hB : B ≤ W.heap.size) : Kd.G d e w1 B (fun k => (W.heap.size ≤ k ∧ k < w1.heap.size) ∧ True) v xs := Kd.G_mono (Kd.G_bound h) (fun _ h_ => ⟨h_, trivial⟩)
theorem Kd.G_kept {S : Nat → Prop} (h : Kd.G d e w base ok v xs) (hk : Kept w w1 S) (hne : ∀ k, ok k → ¬ S k) : Kd.G d e w1 base ok v xs := Kd.G_step h (fun k ho hlt => hk.2 k hlt (hne k ho))
theorem Kd.G_tail (h : Kd.G d e w base ok (.slice (some ⟨g, 0, none⟩) n c) xs) (hn : 2 ≤ n) : Kd.G d e w base ok (.slice (some ⟨g, d.sz, none⟩) (n - 1) (c - 1)) (xs.drop 1) := by
 obtain ⟨h1,h2,hF⟩:=Kd.G_open h
 have e1 : (xs.drop 1).length = n - 1:=by rw [zLb,h1]
 refine ⟨_,_,by rw [e1],by rw [e1];omega,fun W' hW => ?_⟩
 have h3:=Kd.C_drop (hF W' hW) (m:=1) (c:=c) (by omega) (by omega)
 rw [if_neg (show ¬ c = 1 by omega)] at h3
 have e2 : (some (⟨g,0,none⟩ : Addr)).map (·.add (1 * d.sz)) = some ⟨g,d.sz,none⟩:=by
  rw [Nat.one_mul]
  show some ((⟨g,0,none⟩ : Addr).add d.sz) = _
  rw [add_at,Nat.zero_add]
 rw [e2] at h3
 exact h3
end
theorem cut_tail {P : Program} (t e : TypeId) (ht : P.underlying t = some (.slice e)) {i : TypeInfo} (hi : P.info? e = some i) (size : Nat) (hsz : i.size = size) (g n c : Nat) (hn : 2 ≤ n) (hc : n ≤ c) :
  ∀ W : World,(Instr.slice t (.slice (some ⟨g,0,none⟩) n c) (some (.int .i64 1)) none none).run P W = .ok (.slice (some ⟨g,size,none⟩) (n - 1) (c - 1)) W:=by
 intro W
 have hel : P.elem t = e:=by simp [Program.elem,ht]
 have hu : P.underlying t = some (.slice (P.elem t)):=by rw [hel];exact ht
 have h1:=run_slice_l W t (some ⟨g,0,none⟩) n c hu .i64 1 (by omega) (by omega)
 rw [h1,hel]
 have e2 : ¬ c = 1:=by omega
 have e3 : (⟨g,0,none⟩ : Addr).add size = ⟨g,size,none⟩:=by rw [add_at,Nat.zero_add]
 simp [sizeOf,typeInfo,hi,hsz,sliced,Result.andThen,e2,e3]
theorem run_append_room2 {P : Program} (w : World) (t ty e : TypeId) (i : TypeInfo) (ht : P.underlying t = some (.slice e)) (hi : P.info? e = some i) (g o sLen sCap : Nat) (cur : Array Value) (hg : w.heap[g]? = some (.cells cur e (0, 0)))
  (a : Addr) (m c : Nat) (news : List Value) (hl : news.length = m * i.size) (hnews : ∀ j u,news[j]? = some u → w.cell? (a.add j) = some u) (h1 : ∀ u ∈ news,u.oneCell' = true) (hroom : sLen + m ≤ sCap) (hfit : o + sLen * i.size + news.length ≤ cur.size) :
  (Builtin.append_ #[t,t] ty #[.slice (some ⟨g,o,none⟩) sLen sCap,.slice (some a) m c]).run P w =
   .ok (.slice (some ⟨g,o,none⟩) (sLen + m) sCap) (w.setRow g (cur.toList.take (o + sLen * i.size) ++ news ++ cur.toList.drop (o + sLen * i.size + news.length)).toArray):=by
 have hf:=run_firstCells_some (P:=P) w i.size m a m c news hl hnews
 have hst:=run_storeCells_at P g (o + sLen * i.size) e news 0 cur w hg (by simpa using hfit) h1
 simp only [Nat.add_zero] at hst
 simp [Builtin.append_,run_underlying ht,sizeOf,typeInfo,hi,Builtin.lenOf,hroom,hf,add_at,hst]

theorem rot_els {W : World} {b g n c : Nat} {ok : Nat → Prop} {xs : List S97} {cur : Array Value} (h : Kd.N k97 97 W b ok (.slice (some ⟨g, 0, none⟩) n c) xs) (hb : W.heap[g]? = some (.cells cur 97 (0, 0))) (i : Nat) (hi : i < n) :
  ∃ cs : List Value,cs.length = 2 ∧ Kd.FK k97 W (fun k => ok k ∧ k ≠ g) (xs.getD i z97) cs ∧ ∀ t u,cs[t]? = some u → cur[i * 2 + t]? = some u:=by
 obtain ⟨cs,hl,hF,hc,_⟩:=Kd.N_elem h z97 (i : Int) (by omega) (by omega)
 have e1 : k97.sz = 2:=rfl
 rw [e1] at hl hc
 simp only [Int.toNat_natCast] at hF hc
 exact ⟨cs,hl,hF,fun t u hu => by have:=hc t u hu;rwa [zP hb] at this⟩
theorem rot_row {W w1 : World} {b g gx o c1 : Nat} {ok ok' : Nat → Prop} {ys : List S97} (hl : ys.length ≤ 1000000) (hc : ys.length ≤ c1) (hx : gx < w1.heap.size ∧ ok' gx) (hok : ∀ k, ok k → ok' k) (hs : W.heap.size ≤ w1.heap.size) (hk : ∀ k, k ≠ g → k < W.heap.size → w1.heap[k]? = W.heap[k]?)
  (els : ∀ j x,ys[j]? = some x → ∃ cs : List Value,cs.length = 2 ∧ Kd.FK k97 W (fun k => ok k ∧ k ≠ g) x cs ∧ ∀ t u,cs[t]? = some u → w1.cell? ⟨gx,o + (j * 2 + t),none⟩ = some u) :
  Kd.G k97 97 w1 b ok' (.slice (some ⟨gx,o,none⟩) ys.length c1) ys:=by
 refine ⟨_,_,rfl,hc,fun W' hW => ⟨rfl,by omega,fun _ => ⟨⟨gx,o,none⟩,rfl,fun j x hj => ?_⟩⟩⟩
 obtain ⟨cs,h1,h2,h3⟩:=els j x hj
 refine ⟨cs,h1,h2 W' (fun k hk2 hlt => (hW k (hok k hk2.1) (Nat.lt_of_lt_of_le hlt hs)).trans (hk k hk2.2 hlt)),fun t u hu => ?_⟩
 have e1 : k97.sz = 2:=rfl
 rw [e1,add_at]
 have h4:=h3 t u hu
 have h5:=hW gx hx.2 hx.1
 simpa [World.cell?,h5] using h4
theorem rot_get {α : Type} {l news r : List α} {p : Nat} {a : Nat} (hl : a ≤ l.length) : ((l.take a ++ news ++ r).toArray)[p]? = if p < a then l[p]? else if p < a + news.length then news[p - a]? else r[p - a - news.length]? := by
 have ha : (l.take a).length = a:=by rw [zDb];omega
 rw [List.getElem?_toArray,List.append_assoc]
 by_cases h1 : p < a
 ·rw [if_pos h1,List.getElem?_append_left (by omega),List.getElem?_take_of_lt h1]
 ·rw [if_neg h1,List.getElem?_append_right (by omega),ha]
  by_cases h2 : p < a + news.length
  ·rw [if_pos h2,List.getElem?_append_left (by omega)]
  ·rw [if_neg h2,List.getElem?_append_right (by omega)]
theorem rot_run {P : Program} (t ty : TypeId) (ht : P.underlying t = some (.slice 97)) {z : Value} (hinfo : (P.info? 97).map (fun i => (i.zero, i.size, i.bytes)) = some (some z, 2, 32)) {W : World} {b g n c gn : Nat} {ok : Nat → Prop} {xs : List S97} {cur : Array Value} {cs : List Value}
  (h : Kd.N k97 97 W b ok (.slice (some ⟨g,0,none⟩) n c) xs) (hb : W.heap[g]? = some (.cells cur 97 (0,0))) (hcs : cur.size = c * 2) (hn : 2 ≤ n) (hn2 : n < 1000000) (h0 : cs.length = 2) (hc0 : ∀ (t : Nat) (u : Value),cs[t]? = some u → cur[t]? = some u) (hg : W.heap[gn]? = some (.cells cs.toArray 97 (0,0))) (h1 : ∀ u ∈ cs,u.oneCell' = true) :
  ∃ v1 w1,(Builtin.append_ #[t,t] ty #[.slice (some ⟨g,2,none⟩) (n - 1) (c - 1),.slice (some ⟨gn,0,none⟩) 1 1]).run P W = .ok v1 w1 ∧ Kd.G k97 97 w1 b (fun k => ok k ∨ W.heap.size ≤ k) v1 (xs.drop 1 ++ [xs.getD 0 z97]) ∧ W.grownBy w1 (some g):=by
 have hnx:=(Kd.N_reads' h).1
 have hcn:=(Kd.N_reads' h).2.1
 have hgo : ok g:=h.1 g rfl
 obtain ⟨i,hi,hii⟩:=Option.map_eq_some_iff.1 hinfo
 simp only [Prod.mk.injEq] at hii
 obtain ⟨hz,hs,hby⟩:=hii
 have EL:=rot_els h hb
 have hnews : ∀ j u,cs[j]? = some u → W.cell? ((⟨gn,0,none⟩ : Addr).add j) = some u:=by
  intro j u hu
  rw [add_at,Nat.zero_add,zP hg,List.getElem?_toArray]
  exact hu
 have hcl : cs.length = 1 * i.size:=by rw [hs,h0]
 have hyl : (xs.drop 1 ++ [xs.getD 0 z97]).length = n:=by simp;omega
 obtain ⟨c00,q1,q2,q3⟩:=EL 0 (by omega)
 have hc00 : c00 = cs:=by
  apply List.ext_getElem?
  intro p
  by_cases hp : p < 2
  ·have h2:=q3 p _ (List.getElem?_eq_getElem (by omega))
   have h3:=hc0 p _ (List.getElem?_eq_getElem (by omega))
   rw [Nat.zero_mul,Nat.zero_add] at h2
   rw [List.getElem?_eq_getElem (by omega),List.getElem?_eq_getElem (by omega),← h2,← h3]
  ·rw [List.getElem?_eq_none (by omega),List.getElem?_eq_none (by omega)]
 subst hc00
 have els : ∀ (w1 : World) (gx o : Nat),(∀ p,p < (n - 1) * 2 → w1.cell? ⟨gx,o + p,none⟩ = cur[2 + p]?) → (∀ t,t < 2 → w1.cell? ⟨gx,o + ((n - 1) * 2 + t),none⟩ = c00[t]?) →
   ∀ j x,(xs.drop 1 ++ [xs.getD 0 z97])[j]? = some x → ∃ cs : List Value,cs.length = 2 ∧ Kd.FK k97 W (fun k => ok k ∧ k ≠ g) x cs ∧ ∀ t u,cs[t]? = some u → w1.cell? ⟨gx,o + (j * 2 + t),none⟩ = some u:=by
  intro w1 gx o k1 k2 j x hj
  have hjn : j < n:=by have:=(List.getElem?_eq_some_iff.1 hj).1;rw [hyl] at this;exact this
  by_cases hl : j < n - 1
  ·rw [List.getElem?_append_left (by rw [zLb];omega),List.getElem?_drop] at hj
   obtain ⟨cj,m1,m2,m3⟩:=EL (j + 1) (by omega)
   have hx : xs.getD (j + 1) z97 = x:=by rw [List.getD_eq_getElem?_getD,Nat.add_comm j 1,hj];rfl
   rw [hx] at m2
   refine ⟨cj,m1,m2,fun t u hu => ?_⟩
   have ht2 : t < 2:=by have:=(List.getElem?_eq_some_iff.1 hu).1;omega
   rw [k1 (j * 2 + t) (by omega),← m3 t u hu]
   congr 1
   omega
  ·have hjl : j = n - 1:=by omega
   subst hjl
   rw [List.getElem?_append_right (by rw [zLb];omega),zLb,show n - 1 - (xs.length - 1) = 0 by omega] at hj
   have hx : xs.getD 0 z97 = x:=by simpa using hj
   rw [hx] at q2
   refine ⟨c00,q1,q2,fun t u hu => ?_⟩
   have ht2 : t < 2:=by have:=(List.getElem?_eq_some_iff.1 hu).1;omega
   rw [k2 t ht2,hu]
 have hlt:=blk_lt hb
 by_cases hr : n - 1 + 1 ≤ c - 1
 ·have hfit : 2 + (n - 1) * i.size + c00.length ≤ cur.size:=by rw [hs,q1,hcs];omega
  have hrun:=run_append_room2 (P:=P) W t ty 97 i ht hi g 2 (n - 1) (c - 1) cur hb ⟨gn,0,none⟩ 1 1 c00 hcl hnews h1 hr hfit
  refine ⟨_,_,hrun,?_,⟨rfl,rfl,rfl,by simp,fun k _ hk => setRow_other W g k _ (fun e => hk (by rw [e]))⟩⟩
  have hh:=setRow_heap W g cur (cur.toList.take (2 + (n - 1) * i.size) ++ c00 ++ cur.toList.drop (2 + (n - 1) * i.size + c00.length)).toArray 97 (0,0) hb
  rw [show n - 1 + 1 = (xs.drop 1 ++ [xs.getD 0 z97]).length by rw [hyl];omega]
  refine rot_row (W:=W) (g:=g) (ok:=ok) (by rw [hyl];omega) (by rw [hyl];omega) ⟨blk_lt hh,.inl hgo⟩ (fun k hk => .inl hk) (by simp) (fun k hk _ => setRow_other W g k _ hk) (els _ _ _ (fun p hp => ?_) (fun t ht2 => ?_))
  ·rw [zP hh,hs,rot_get (by rw [Array.length_toList];omega),if_pos (by omega),Array.getElem?_toList]
  ·rw [zP hh,hs,rot_get (by rw [Array.length_toList];omega),if_neg (by omega),if_pos (by omega),show 2 + ((n - 1) * 2 + t) - (2 + (n - 1) * 2) = t by omega]
 ·have hol : ((cur.toList.drop 2).take ((n - 1) * 2)).length = (n - 1) * i.size:=by rw [zDb,zLb,Array.length_toList,hs];omega
  have hod : ∀ j u,((cur.toList.drop 2).take ((n - 1) * 2))[j]? = some u → W.cell? ((⟨g,2,none⟩ : Addr).add j) = some u:=by
   intro j u hu
   have hj : j < (n - 1) * 2:=by have:=(List.getElem?_eq_some_iff.1 hu).1;rw [hol,hs] at this;exact this
   rw [List.getElem?_take_of_lt hj,List.getElem?_drop,Array.getElem?_toList] at hu
   rw [add_at,zP hb]
   exact hu
  have hnc:=nextslicecap_le (need:=n - 1 + 1) (old:=c - 1) (by omega)
  have hrun:=run_append_grow (P:=P) W t ty 97 i z ht hi hz ⟨g,2,none⟩ (n - 1) (c - 1) _ hol hod ⟨gn,0,none⟩ 1 1 c00 hcl hnews (by omega) (by omega) (by rw [hby];omega)
  refine ⟨_,_,hrun,?_,⟨rfl,rfl,rfl,by simp,fun k hk _ => heap_alloc_old W.drew _ hk⟩⟩
  have hge:=grownCap_ge W (n - 1 + 1) (c - 1) 97
  have hh:=heap_alloc_new W.drew (.cells (((cur.toList.drop 2).take ((n - 1) * 2)).toArray ++ c00.toArray ++ Builtin.zeroCells z.cells (grownCap W (n - 1 + 1) (c - 1) 97 - (n - 1 + 1))) 97)
  have hll : (((cur.toList.drop 2).take ((n - 1) * 2)).toArray).size = (n - 1) * 2:=by rw [List.size_toArray,hol,hs]
  rw [show n - 1 + 1 = (xs.drop 1 ++ [xs.getD 0 z97]).length by rw [hyl];omega] at hge ⊢
  rw [show n - 1 + 1 = (xs.drop 1 ++ [xs.getD 0 z97]).length by rw [hyl];omega] at hh
  have hcell : ∀ i : Nat,World.cell? (W.drew.alloc _) ⟨W.heap.size,i,none⟩ = _:=fun i => zP hh i
  refine rot_row (W:=W) (g:=g) (ok:=ok) (by rw [hyl];omega) hge ⟨blk_lt hh,.inr (Nat.le_refl _)⟩ (fun k hk => .inl hk) (by simp) (fun k _ hk => heap_alloc_old W.drew _ hk) (els _ _ _ (fun p hp => ?_) (fun t ht2 => ?_))
  ·rw [Nat.zero_add,hcell,Array.append_assoc,Array.getElem?_append_left (by omega),List.getElem?_toArray,List.getElem?_take_of_lt hp,List.getElem?_drop,Array.getElem?_toList]
  ·rw [Nat.zero_add,hcell,Array.append_assoc,Array.getElem?_append_right (by omega),hll,Nat.add_sub_cancel_left,Array.getElem?_append_left (by rw [List.size_toArray];omega),List.getElem?_toArray]

structure StN (w0 ws : World) (g : Nat) (c : List Int) (vs q0 q1 : Value) (g4 g5 g6 g7 : Nat) (vh vb : Value) (i h : Int) (W : World) : Prop where
 I : IsS121 w0 W g c i h
 B : Below w0.heap.size w0 W
 K : KeepBut ws W g none
 b4 : W.heap[g4]? = some (.cells #[vs] 65 (0,0))
 b5 : W.heap[g5]? = some (.cells #[q0,q1] 46 (0,0))
 b6 : W.heap[g6]? = some (.cells #[.slice none 0 0,.slice none 0 0] 46 (0,0))
 b7 : W.heap[g7]? = some (.cells #[vh,vb] 46 (0,0))
 e0 : w0.heap.size ≤ ws.heap.size
 e6 : ws.heap.size ≤ g6
 e7 : ws.heap.size ≤ g7
 n57 : g5 ≠ g7
 n67 : g6 ≠ g7
section
variable {w0 ws W W1 : World} {g g4 g5 g6 g7 : Nat} {c : List Int} {vs q0 q1 vh vb : Value} {i h i' h' : Int}
theorem StN.below (st : StN w0 ws g c vs q0 q1 g4 g5 g6 g7 vh vb i h W) (hb : Below W.heap.size W W1) : StN w0 ws g c vs q0 q1 g4 g5 g6 g7 vh vb i h W1 :=
 ⟨IsS121.below st.I hb,zJb st.B hb,st.K.trans (KeepBut.of_below hb g none) (.inl rfl),zQ st.b4 hb,zQ st.b5 hb,zQ st.b6 hb,zQ st.b7 hb,st.e0,st.e6,st.e7,st.n57,st.n67⟩
theorem StN.keep (st : StN w0 ws g c vs q0 q1 g4 g5 g6 g7 vh vb i h W) (hi : IsS121 w0 W1 g c i' h') (hb : Below w0.heap.size w0 W1) (hk : KeepBut W W1 g none) : StN w0 ws g c vs q0 q1 g4 g5 g6 g7 vh vb i' h' W1 :=
 ⟨hi,hb,st.K.trans hk (.inl rfl),KeepBut.blk hk st.b4 (Ne.symm (IsS121.ne_blk st.I st.b4 (by decide))) (by simp),KeepBut.blk hk st.b5 (Ne.symm (IsS121.ne_blk st.I st.b5 (by decide))) (by simp),KeepBut.blk hk st.b6 (Ne.symm (IsS121.ne_blk st.I st.b6 (by decide))) (by simp),KeepBut.blk hk st.b7 (Ne.symm (IsS121.ne_blk st.I st.b7 (by decide))) (by simp),st.e0,st.e6,st.e7,st.n57,st.n67⟩
theorem StN.grown (st : StN w0 ws g c vs q0 q1 g4 g5 g6 g7 vh vb i h W) {base n cap gb : Nat} {cur : Array Value} (hg : W.grownBy W1 (some gb)) (hb : W.heap[gb]? = some (.cells cur 97 (0, 0))) (hbase : base ≤ gb) (he : ws.heap.size ≤ base) : StN w0 ws g c vs q0 q1 g4 g5 g6 g7 vh vb i h W1 :=
 ⟨IsS121.grown st.I hg (fun e => by injection e with e;exact IsS121.ne_blk st.I hb (by decide) e),st.B.grown hg st.B.size (fun k hk => by injection hk with hk;have:=st.e0;omega),st.K.trans (KeepBut.of_grown hg g) (.inr ⟨gb,rfl,Nat.le_trans he hbase⟩),
  blk_grown st.b4 hg (fun e => by injection e with e;exact blk_ne st.b4 hb (by decide) e),blk_grown st.b5 hg (fun e => by injection e with e;exact blk_ne st.b5 hb (by decide) e),blk_grown st.b6 hg (fun e => by injection e with e;exact blk_ne st.b6 hb (by decide) e),blk_grown st.b7 hg (fun e => by injection e with e;exact blk_ne st.b7 hb (by decide) e),st.e0,st.e6,st.e7,st.n57,st.n67⟩
theorem StN.grownN (st : StN w0 ws g c vs q0 q1 g4 g5 g6 g7 vh vb i h W) {b : Nat} {ok : Nat → Prop} {v : Value} {d : List S97} (hg : W.grownBy W1 v.ownBlock) (hn : Kd.N k97 97 W b ok v d) (hb : ws.heap.size ≤ b) : StN w0 ws g c vs q0 q1 g4 g5 g6 g7 vh vb i h W1 :=
 ⟨IsS121.grown st.I hg (IsS121.own_neN st.I hn (by decide)),st.B.grown hg st.B.size (fun k hk => Nat.le_trans st.e0 (Nat.le_trans hb (Kd.N_base hn k hk))),st.K.trans (KeepBut.of_grown hg g) (by cases e : v.ownBlock with|none => exact .inl rfl|some q => exact .inr ⟨q,rfl,Nat.le_trans hb (Kd.N_base hn q e)⟩),
  blk_grown st.b4 hg (Kd.N_ne hn st.b4 (by decide)),blk_grown st.b5 hg (Kd.N_ne hn st.b5 (by decide)),blk_grown st.b6 hg (Kd.N_ne hn st.b6 (by decide)),blk_grown st.b7 hg (Kd.N_ne hn st.b7 (by decide)),st.e0,st.e6,st.e7,st.n57,st.n67⟩
theorem StN.set (st : StN w0 ws g c vs q0 q1 g4 g5 g6 g7 vh vb i h W) (j : Nat) (u : Value) {vh' vb' : Value} (e : (#[vh, vb] : Array Value).setIfInBounds j u = #[vh', vb']) : StN w0 ws g c vs q0 q1 g4 g5 g6 g7 vh' vb' i h (W.setCell ⟨g7, j, none⟩ u) :=
 ⟨IsS121.far st.I (IsS121.ne_blk st.I st.b7 (by decide) : g ≠ (⟨g7,j,none⟩ : Addr).block) u,zB st.B (Nat.le_trans st.e0 st.e7),keep_far st.K st.e7 _,zUb st.b4 (blk_ne st.b4 st.b7 (by decide) : g4 ≠ (⟨g7,j,none⟩ : Addr).block) _,zUb st.b5 (show g5 ≠ (⟨g7,j,none⟩ : Addr).block from st.n57) _,zUb st.b6 (show g6 ≠ (⟨g7,j,none⟩ : Addr).block from st.n67) _,blk_put st.b7 j _ e,st.e0,st.e6,st.e7,st.n57,st.n67⟩
theorem StN.put (st : StN w0 ws g c vs q0 q1 g4 g5 g6 g7 vh vb i h W) (u v : Value) : StN w0 ws g c vs q0 q1 g4 g5 g6 g7 u v i h ((W.setCell ⟨g7, 0, none⟩ u).setCell ⟨g7, 1, none⟩ v) := (st.set 0 u (vh' := u) (vb' := vb) rfl).set 1 v rfl
theorem StN.putR (st : StN w0 ws g c vs q0 q1 g4 g5 g6 g7 vh vb i h W) (u v : Value) {b : Nat} {ok : Nat → Prop} {x : Value} {l : List Int} (hr : Kd.R (Kd.int .i64) 3 W b ok x l) : Kd.R (Kd.int .i64) 3 ((W.setCell ⟨g7, 0, none⟩ u).setCell ⟨g7, 1, none⟩ v) b ok x l :=
 Kd.R_set (Kd.R_set hr st.b7 (by decide) 0 _) (st.set 0 u (vh':=u) (vb':=vb) rfl).b7 (by decide) 1 _
theorem StN.putS (st : StN w0 ws g c vs q0 q1 g4 g5 g6 g7 vh vb i h W) (u v : Value) {b : Nat} {ok : Nat → Prop} {x : Value} {l : List S97} (hr : Kd.S k97 97 W b ok x l) : Kd.S k97 97 ((W.setCell ⟨g7, 0, none⟩ u).setCell ⟨g7, 1, none⟩ v) b ok x l :=
 Kd.S_set (Kd.S_set hr st.b7 (by decide) 0 _) (st.set 0 u (vh':=u) (vb':=vb) rfl).b7 (by decide) 1 _
def okB (n : Nat) (u : Value) (g g6 g7 k : Nat) : Prop := some k ≠ u.ownBlock ∧ k ≠ g ∧ k ≠ g6 ∧ k ≠ g7 ∧ n ≤ k
theorem StN.G (st : StN w0 ws g c vs q0 q1 g4 g5 g6 g7 vh vb i h W) {b : Nat} {u x : Value} {l : List S97} (hr : Kd.S k97 97 W b (fun k_ => some k_ ≠ u.ownBlock) x l) (hb : ws.heap.size ≤ b) : Kd.G k97 97 W 0 (okB ws.heap.size u g g6 g7) x l :=
 Kd.G_mono (Kd.G_S (base':=0) (Kd.S_bound (Kd.S_types (Kd.S_types (IsS121.apartS st.I hr (by decide)) st.b6 (by decide)) st.b7 (by decide)))) (fun k hk => ⟨hk.1.1.1.1,hk.1.1.1.2,hk.1.1.2,hk.1.2,Nat.le_trans hb hk.2.1⟩)
theorem StN.N (st : StN w0 ws g c vs q0 q1 g4 g5 g6 g7 vh vb i h W) {b : Nat} {u x : Value} {l : List S97} (hr : Kd.S k97 97 W b (fun k_ => some k_ ≠ u.ownBlock) x l) (hb : ws.heap.size ≤ b) : Kd.N k97 97 W b (okB ws.heap.size u g g6 g7) x l :=
 Kd.N_mono (Kd.S_N (Kd.S_bound (Kd.S_types (Kd.S_types (IsS121.apartS st.I hr (by decide)) st.b6 (by decide)) st.b7 (by decide)))) (fun k hk => ⟨hk.1.1.1.1,hk.1.1.1.2,hk.1.1.2,hk.1.2,Nat.le_trans hb hk.2.1⟩)
theorem G_N {α : Type} {d : Kd α} {e base base' : Nat} {w : World} {ok : Nat → Prop} {v : Value} {xs : List α} (h : Kd.N d e w base ok v xs) : Kd.G d e w base' ok v xs := by
 obtain ⟨A,c,rfl⟩:=Kd.N_slice h
 exact ⟨A,c,rfl,(Kd.N_reads' h).2.1,fun W' hW => (Kd.N_reads' (Kd.N_step h hW)).2.2⟩
theorem StN.fresh (st : StN w0 ws g c vs q0 q1 g4 g5 g6 g7 vh vb i h W) {b : Nat} {ok : Nat → Prop} {u : Value} {l : List Int} (hr : Kd.R (Kd.int .i64) 3 W b ok u l) : ∀ k, W.heap.size ≤ k → okB ws.heap.size u g g6 g7 k := by
 intro k hk
 refine ⟨fun e => ?_,fun e => ?_,fun e => ?_,fun e => ?_,Nat.le_trans st.K.1 hk⟩
 ·have:=(Kd.R_bound hr).1 k e.symm
  omega
 ·have:=IsS121.lt st.I
  omega
 ·have:=blk_lt st.b6
  omega
 ·have:=blk_lt st.b7
  omega
theorem StN.keepN (st : StN w0 ws g c vs q0 q1 g4 g5 g6 g7 vh vb i h W) (hk : KeepBut W W1 g none) {b : Nat} {u x : Value} {l : List S97} (hr : Kd.N k97 97 W b (okB ws.heap.size u g g6 g7) x l) : Kd.N k97 97 W1 b (okB ws.heap.size u g g6 g7) x l :=
 Kd.N_step hr (fun k ho hlt => hk.2 k hlt ho.2.1 (by simp))
theorem StN.putN (st : StN w0 ws g c vs q0 q1 g4 g5 g6 g7 vh vb i h W) (u v : Value) {b : Nat} {y x : Value} {l : List S97} (hr : Kd.N k97 97 W b (okB ws.heap.size y g g6 g7) x l) : Kd.N k97 97 ((W.setCell ⟨g7, 0, none⟩ u).setCell ⟨g7, 1, none⟩ v) b (okB ws.heap.size y g g6 g7) x l :=
 Kd.N_step hr (fun k ho _ => (Below.heap_setCell _ ⟨g7,1,none⟩ v k ho.2.2.2.1).trans (Below.heap_setCell W ⟨g7,0,none⟩ u k ho.2.2.2.1))
theorem StN.putG (st : StN w0 ws g c vs q0 q1 g4 g5 g6 g7 vh vb i h W) (u v : Value) {b : Nat} {y x : Value} {l : List S97} (hr : Kd.G k97 97 W b (okB ws.heap.size y g g6 g7) x l) : Kd.G k97 97 ((W.setCell ⟨g7, 0, none⟩ u).setCell ⟨g7, 1, none⟩ v) b (okB ws.heap.size y g g6 g7) x l :=
 Kd.G_step hr (fun k ho _ => (Below.heap_setCell _ ⟨g7,1,none⟩ v k ho.2.2.2.1).trans (Below.heap_setCell W ⟨g7,0,none⟩ u k ho.2.2.2.1))
theorem StN.setG (st : StN w0 ws g c vs q0 q1 g4 g5 g6 g7 vh vb i h W) (j : Nat) (v : Value) {b : Nat} {y x : Value} {l : List S97} (hr : Kd.G k97 97 W b (okB ws.heap.size y g g6 g7) x l) : Kd.G k97 97 (W.setCell ⟨g7, j, none⟩ v) b (okB ws.heap.size y g g6 g7) x l :=
 Kd.G_far hr (p:=⟨g7,j,none⟩) (fun _ ho => ho.2.2.2.1) v
theorem StN.res (st : StN w0 ws g c vs q0 q1 g4 g5 g6 g7 vh vb i h W) (u v : Value) {W1 : World} (hw : W1 = (W.setCell ⟨g6, 0, none⟩ u).setCell ⟨g6, 1, none⟩ v) : W1.heap[g6]? = some (.cells #[u, v] 46 (0, 0)) ∧ IsS121 w0 W1 g c i h ∧ Below w0.heap.size w0 W1 ∧ KeepBut ws W1 g none := by
 subst hw
 have n0 : g ≠ g6:=IsS121.ne_blk st.I st.b6 (by decide)
 exact ⟨blk_put (cs:=#[u,.slice none 0 0]) (blk_put st.b6 0 u rfl) 1 v rfl,IsS121.far (IsS121.far st.I (p:=⟨g6,0,none⟩) n0 u) (p:=⟨g6,1,none⟩) n0 v,zB (zB st.B (Nat.le_trans st.e0 st.e6)) (Nat.le_trans st.e0 st.e6),keep_far (keep_far st.K st.e6 _) st.e6 _⟩
theorem StN.resR (st : StN w0 ws g c vs q0 q1 g4 g5 g6 g7 vh vb i h W) (u v : Value) {W1 : World} (hw : W1 = (W.setCell ⟨g6, 0, none⟩ u).setCell ⟨g6, 1, none⟩ v) {b : Nat} {ok : Nat → Prop} {x : Value} {l : List Int} (hr : Kd.R (Kd.int .i64) 3 W b ok x l) : Kd.R (Kd.int .i64) 3 W1 b ok x l := by
 subst hw
 exact Kd.R_set (Kd.R_set hr st.b6 (by decide) 0 _) (blk_put (cs':=#[u,.slice none 0 0]) st.b6 0 u rfl) (by decide) 1 _
theorem StN.resG (st : StN w0 ws g c vs q0 q1 g4 g5 g6 g7 vh vb i h W) (u v : Value) {W1 : World} (hw : W1 = (W.setCell ⟨g6, 0, none⟩ u).setCell ⟨g6, 1, none⟩ v) {b : Nat} {y x : Value} {l : List S97} (hr : Kd.G k97 97 W b (okB ws.heap.size y g g6 g7) x l) : Kd.G k97 97 W1 0 (fun k_ => some k_ ≠ y.ownBlock ∧ k_ ≠ g ∧ ws.heap.size ≤ k_) x l := by
 subst hw
 exact Kd.G_mono (Kd.G_step hr (fun k ho _ => (Below.heap_setCell _ ⟨g6,1,none⟩ v k ho.2.2.1).trans (Below.heap_setCell W ⟨g6,0,none⟩ u k ho.2.2.1))) (fun k hk => ⟨hk.1,hk.2.1,hk.2.2.2.2⟩)
theorem N_cells {W : World} {b : Nat} {ok : Nat → Prop} {v : Value} {l : List S97} (h : Kd.N k97 97 W b ok v l) (hp : 0 < l.length) : ∃ gb cap cur, v = .slice (some ⟨gb, 0, none⟩) l.length cap ∧ b ≤ gb ∧ W.heap[gb]? = some (.cells cur 97 (0, 0)) ∧ cur.size = cap * 2 ∧ l.length ≤ cap := by
 obtain ⟨_,rows,hl,hR,_⟩:=h
 obtain ⟨_,inner,ho,_⟩:=hR
 rw [hl] at ho
 rcases ho.2 with ⟨_,h0⟩|⟨gb,cap,cur,hv,hb,hh,hn,_,hs,_⟩
 ·omega
 ·exact ⟨gb,cap,cur,hv,hb,hh,hs,hn⟩
theorem StN.keepR (st : StN w0 ws g c vs q0 q1 g4 g5 g6 g7 vh vb i h W) (hk : KeepBut W W1 g none) {b : Nat} {ok : Nat → Prop} {x : Value} {l : List Int} (hr : Kd.R (Kd.int .i64) 3 W b ok x l) : Kd.R (Kd.int .i64) 3 W1 b ok x l :=
 zGb (Kd.R_keep (IsS121.apart st.I hr (by decide)) hk (fun _ h_ => h_.2)) (fun _ h_ => h_.1)
theorem StN.keepS (st : StN w0 ws g c vs q0 q1 g4 g5 g6 g7 vh vb i h W) (hk : KeepBut W W1 g none) {b : Nat} {ok : Nat → Prop} {x : Value} {l : List S97} (hr : Kd.S k97 97 W b ok x l) : Kd.S k97 97 W1 b ok x l :=
 zS (Kd.S_keep (IsS121.apartS st.I hr (by decide)) hk (fun _ h_ => h_.2)) (fun _ h_ => h_.1)
end
theorem F_ne {α : Type} {d : Kd α} {W : World} {ok : Nat → Prop} {A : Option Addr} {n g : Nat} {xs : List α} (h : Kd.F d W ok A n xs) (z : α) (hs : 0 < d.sz) (hok : ∀ k, ok k → k ≠ g) : ∀ ad, A = some ad → 0 < n → ad.block ≠ g := by
 intro ad ha hn
 obtain ⟨ad',c,he,_,_,_,h2⟩:=Kd.F_get h z 0 (by omega) (by omega)
 rw [ha] at he
 injection he with he
 subst he
 exact hok _ (h2 hs)
theorem append_runs {P : Program} {o : Oper} {ev : Operand → Value} (s x : Operand) (t : TypeId) (ho : o.op = .call { callee := .builtin .append, args := #[s, x], argTypes := #[t, t] }) {v x' v1 : Value} {W w1 : World} (hs : ev s = v) (hx : ev x = x') (hr : (Builtin.append_ #[t, t] o.type #[v, x']).run P W = .ok v1 w1) : (execOp ev o).run P W = .ok (.value v1) w1 := by
 unfold execOp
 simp only [ho,resolve,invoke,builtin,Sem.run_bind,Sem.run_pure,Result.andThen_ok,zCb,zMb,zNb,hs,hx,hr]

set_option maxHeartbeats 8000000 in
set_option maxRecDepth 100000 in
theorem l4Near_walk (k g : Nat) (c : List Int) (i h : Int) (A0 : Option Addr) (c0 : Nat) (s : List Int) (A1 : Option Addr) (c1 : Nat) (qh : List Int) (A2 : Option Addr) (c2 : Nat) (qd : List S97) (okA : Nat → Prop) (r1 : List Int) (r2 : List S97) (r3 r4 : Int) (w0 w : World) (hI : IsS121 w0 w g c i h) (hB : Below w0.heap.size w0 w) (hS : Kd.F (Kd.int .i64) w okA A0 s.length s) (hc0 : s.length ≤ c0) (hH : Kd.F (Kd.int .i64) w okA A1 qh.length qh) (hc1 : qh.length ≤ c1) (hD : Kd.F k97 w okA A2 qd.length qd) (hc2 : qd.length ≤ c2) (hok : ∀ k, okA k → k ≠ g) (hh : near_f k c i h s qh qd = some (r1, r2, r3, r4)) :
  Calls Try.prog 142 #[.pointer (some ⟨g, 0, none⟩), .agg #[.slice A0 s.length c0], .agg #[.slice A1 qh.length c1, .slice A2 qd.length c2]] w fun e w' => ∃ v0 v1 : Value, e = .returned (.agg #[v0, v1]) ∧ Kd.R (Kd.int .i64) 3 w' w.heap.size (fun _ => True) v0 r1 ∧ Kd.G k97 97 w' 0 (fun k_ => some k_ ≠ v0.ownBlock ∧ k_ ≠ g ∧ w.heap.size ≤ k_) v1 r2 ∧ IsS121 w0 w' g c r3 r4 ∧ Below w0.heap.size w0 w' ∧ KeepBut w w' g none := by
 have huS:=Try.underlying65
 have huQ:=Try.underlying46
 have huA:=Try.underlying97
 have huL:=Try.underlying44
 unfold near_f at hh
 obtain ⟨⟨xh,xd⟩,a1,hh⟩:=Option.bind_eq_some_iff.1 hh
 try dsimp only at hh
 obtain ⟨⟨y,i1,h1⟩,a2,hh⟩:=Option.bind_eq_some_iff.1 hh
 try dsimp only at hh
 obtain ⟨⟨zh,zd,i2,h2⟩,a3,hh⟩:=Option.bind_eq_some_iff.1 hh
 try dsimp only at hh
 obtain ⟨b,a4,hh⟩:=Option.bind_eq_some_iff.1 hh
 try dsimp only at hh
 have T1:=zA a1
 have T2:=zA a2
 have T3:=zA a3
 have T4:=zA a4
 have HH:=zA hh
 have FS:=zA hS
 have FH:=zA hH
 have FD:=zA hD
 have OKA:=zA hok
 have HC:=zA (show s.length ≤ c0 ∧ qh.length ≤ c1 ∧ qd.length ≤ c2 from ⟨hc0,hc1,hc2⟩)
 have HI:=zA hI
 have HZ:=zA hB.size
 have HB:=zA hB
 have HK:=zA (KeepBut.refl w g none)
 clear a1 a2 a3 a4 hh hS hH hD hok hc0 hc1 hc2 hI hB
 go_enter Try.func142,Try.ntmps142
 go_wp2_with (first|((with_reducible refine gate_dst (N:=4) rfl ?_);refine hold ?_))
 unfold Hold
 refine zbx 4 #[.slice A0 s.length c0] 65 ?_
 intro g4 hg w1 hbox hb
 have Bg4:=zA hbox
 have Eg4:=zA (show w.heap.size ≤ g4 by rw [hg];exact HK.out.1)
 replace HK:=zA (HK.out.trans (KeepBut.of_below hb g none) (.inl rfl))
 replace HI:=zA (IsS121.below HI.out hb)
 replace HB:=zA (zJb HB.out hb)
 clear hbox hb hg
 go_wp2_with (first|((with_reducible refine gate_dst (N:=5) rfl ?_);refine hold ?_))
 unfold Hold
 refine zbx 5 #[.slice A1 qh.length c1,.slice A2 qd.length c2] 46 ?_
 intro g5 hg w2 hbox hb
 have Bg5:=zA hbox
 have Eg5:=zA (show w.heap.size ≤ g5 by rw [hg];exact HK.out.1)
 replace Bg4:=zA (zQ Bg4.out hb)
 replace HK:=zA (HK.out.trans (KeepBut.of_below hb g none) (.inl rfl))
 replace HI:=zA (IsS121.below HI.out hb)
 replace HB:=zA (zJb HB.out hb)
 clear hbox hb hg
 go_wp2_with (first|((with_reducible refine gate_dst (N:=6) rfl ?_);refine hold ?_))
 unfold Hold
 refine zbx 6 #[.slice none 0 0,.slice none 0 0] 46 ?_
 intro g6 hg w3 hbox hb
 have Bg6:=zA hbox
 have Eg6:=zA (show w.heap.size ≤ g6 by rw [hg];exact HK.out.1)
 replace Bg4:=zA (zQ Bg4.out hb)
 replace Bg5:=zA (zQ Bg5.out hb)
 replace HK:=zA (HK.out.trans (KeepBut.of_below hb g none) (.inl rfl))
 replace HI:=zA (IsS121.below HI.out hb)
 replace HB:=zA (zJb HB.out hb)
 clear hbox hb hg
 have hx0:=zc (.slice A1 qh.length c1) Bg5 0 rfl
 have hx1:=zc (.slice A2 qd.length c2) Bg5 1 rfl
 go_wp2_with (first|(go_at_call 157;refine hold ?_))
 unfold Hold
 refine (spec_l4Copy.calls k A1 c1 qh A2 c2 qd xh xd _ (Kd.F_now (Kd.F_keep FH.out HK.out OKA.out)) HC.out.2.1 (Kd.F_now (Kd.F_keep FD.out HK.out OKA.out)) HC.out.2.2 T1.out).mono ?_
 rintro e w4 ⟨vh,vb,rfl,ho0,ho1,hb⟩
 have RH:=zA (zHb ho0 HK.out.1)
 have SB:=zA (zIb ho1 HK.out.1)
 replace Bg4:=zA (zQ Bg4.out hb)
 replace Bg5:=zA (zQ Bg5.out hb)
 replace Bg6:=zA (zQ Bg6.out hb)
 replace HK:=zA (HK.out.trans (KeepBut.of_below hb g none) (.inl rfl))
 replace HI:=zA (IsS121.below HI.out hb)
 replace HB:=zA (zJb HB.out hb)
 obtain ⟨Ah,ch,rfl⟩:=Kd.R_slice RH.out
 obtain ⟨Ab,cb,rfl⟩:=Kd.S_slice SB.out
 clear ho0 ho1 hb hx0 hx1
 go_wp2_with (first|((with_reducible refine gate_dst (N:=7) rfl ?_);refine hold ?_))
 unfold Hold
 refine zbx 7 #[.slice none 0 0,.slice none 0 0] 46 ?_
 intro g7 hg w5 hbox hb
 have Bg7:=zA hbox
 have Eg7:=zA (show w.heap.size ≤ g7 by rw [hg];exact HK.out.1)
 have N7:=zA (show g5 ≠ g7 ∧ g6 ≠ g7 by rw [hg];exact ⟨Nat.ne_of_lt (blk_lt Bg5.out),Nat.ne_of_lt (blk_lt Bg6.out)⟩)
 replace RH:=zA (zZ RH.out hb)
 replace SB:=zA (zY SB.out hb)
 replace Bg4:=zA (zQ Bg4.out hb)
 replace Bg5:=zA (zQ Bg5.out hb)
 replace Bg6:=zA (zQ Bg6.out hb)
 replace HK:=zA (HK.out.trans (KeepBut.of_below hb g none) (.inl rfl))
 replace HI:=zA (IsS121.below HI.out hb)
 replace HB:=zA (zJb HB.out hb)
 clear hbox hb hg
 have ST:=zA (show StN w0 w g c (.slice A0 s.length c0) (.slice A1 qh.length c1) (.slice A2 qd.length c2) g4 g5 g6 g7 (.slice none 0 0) (.slice none 0 0) i h w5 from ⟨HI.out,HB.out,HK.out,Bg4.out,Bg5.out,Bg6.out,Bg7.out,HZ.out,Eg6.out,Eg7.out,N7.out.1,N7.out.2⟩)
 clear HI HB HK Bg4 Bg5 Bg6 Bg7 Eg4 Eg5 Eg6 Eg7 N7
 have hy0 : w5.cell? ⟨g7,0,none⟩ = some (.slice none 0 0):=(zP ST.out.b7 0).trans rfl
 have hy1 : w5.cell? ⟨g7,1,none⟩ = some (.slice none 0 0):=(zP ST.out.b7 1).trans rfl
 have hf0:=blk_frozen ST.out.b7 0
 have hf1:=blk_frozen ST.out.b7 1
 go_wp2_with (first|((with_reducible refine gate_store (t:=46) (p:=7) rfl ?_);refine hold ?_))
 unfold Hold
 refine store_event (t:=46) (p:=7) (v:=?vo1) (w1:=(w5.setCell ⟨g7,0,none⟩ (.slice Ah xh.length ch)).setCell ⟨g7,1,none⟩ (.slice Ab xd.length cb)) ?hgs1 ?hos1 ?hns1 ?hrs1 ?_
 case hos1 => rfl
 case hgs1 => rfl
 case hns1 => rfl
 case hrs1 => first|(go_simp;done)|(go_simp;rfl)
 intro w6 hw
 have n_:=zA (StN.putR ST.out (.slice Ah xh.length ch) (.slice Ab xd.length cb) RH.out)
 rw [← hw] at n_
 clear RH
 have RH:=n_
 clear n_
 have n_:=zA (StN.putS ST.out (.slice Ah xh.length ch) (.slice Ab xd.length cb) SB.out)
 rw [← hw] at n_
 clear SB
 have SB:=n_
 clear n_
 have n_:=zA (ST.out.put (.slice Ah xh.length ch) (.slice Ab xd.length cb))
 rw [← hw] at n_
 clear ST
 have ST:=n_
 clear n_ hw hy0 hy1 hf0 hf1
 have NB:=zA (ST.out.N SB.out (Nat.le_refl _))
 clear SB
 go_wp2_with (first|(go_at_call 79;refine hold ?_))
 unfold Hold
 refine (spec_l1Below.calls g c i h 7 y i1 h1 w0 _ ST.out.I ST.out.B T2.out).mono ?_
 rintro e w7 ⟨rfl,hi,hb,hk⟩
 replace RH:=zA (ST.out.keepR hk RH.out)
 replace NB:=zA (ST.out.keepN hk NB.out)
 replace ST:=zA (ST.out.keep hi hb hk)
 clear hi hb hk
 go_upto_block 0 with fail
 try simp only [Act.put,zO,zEb,zFb]
 go_cut [] (fun wc => ∃ (vh vb : Value),Aside0 (StN w0 w g c (.slice A0 s.length c0) (.slice A1 qh.length c1) (.slice A2 qd.length c2) g4 g5 g6 g7 vh vb i2 h2 wc) ∧ Aside0 (Kd.R (Kd.int .i64) 3 wc w.heap.size (fun _ => True) vh zh) ∧ Aside0 (Kd.G k97 97 wc 0 (okB w.heap.size vh g g6 g7) vb zd))
 case first =>
  have hx:=T3.out
  unfold nearX at hx
  dsimp only at hx
  clear T1 T2 T3 T4 HH
  by_cases c0 : y = 0
  ·
   have c0b : (y == 0) = true:=beq_iff_eq.mpr c0
   rw [if_pos c0] at hx
   clear c0
   by_cases hl : 1 < xd.length
   ·
    rw [if_pos hl] at hx
    simp only [Option.some.injEq,Prod.mk.injEq] at hx
    obtain ⟨rfl,rfl,rfl,rfl⟩:=hx
    have l1b : decide ((xd.length : Int) > 1) = true:=decide_eq_true (by omega)
    have l1n : decide (1 < xd.length) = true:=decide_eq_true (by omega)
    obtain ⟨gb,cb',cur,e_,hge,hbb,hcs,hcap⟩:=N_cells NB.out (by omega)
    injection e_ with e1 _ e3
    subst e1
    subst e3
    obtain ⟨ti,hti,hts_⟩:=Option.map_eq_some_iff.1 info97
    have hts : ti.size = 2:=by simp only [Prod.mk.injEq] at hts_;exact hts_.2.1
    have hcut:=cut_tail (P:=Try.prog) 44 97 huL hti 2 hts gb xd.length cb (by omega) hcap
    clear hti hts hts_ ti
    have GT:=zA (show Kd.G k97 97 w7 0 (okB w.heap.size (.slice Ah xh.length ch) g g6 g7) (.slice (some ⟨gb,2,none⟩) (xd.length - 1) (cb - 1)) (xd.drop 1) from Kd.G_tail (G_N (base':=0) NB.out) (by omega))
    clear hge hbb hcs
    have hq0 : w7.cell? ⟨g7,0,none⟩ = some (.slice Ah xh.length ch):=(zP ST.out.b7 0).trans rfl
    have hq1 : w7.cell? ⟨g7,1,none⟩ = some (.slice (some ⟨gb,0,none⟩) xd.length cb):=(zP ST.out.b7 1).trans rfl
    have hf1:=blk_frozen ST.out.b7 1
    go_wp2_with (first|((with_reducible refine gate_store (t:=44) (p:=24) rfl ?_);refine hold ?_))
    unfold Hold
    refine store_event (t:=44) (p:=24) (v:=?vo9) (w1:=w7.setCell ⟨g7,1,none⟩ (.slice (some ⟨gb,2,none⟩) (xd.length - 1) (cb - 1))) ?hgs9 ?hos9 ?hns9 ?hrs9 ?_
    case hos9 => rfl
    case hgs9 => rfl
    case hns9 => rfl
    case hrs9 => first|(go_simp;done)|(go_simp;rfl)
    intro w8 hw
    have RT:=zA (Kd.R_set RH.out ST.out.b7 (by decide) 1 (.slice (some ⟨gb,2,none⟩) (xd.length - 1) (cb - 1)))
    replace GT:=zA (ST.out.setG 1 (.slice (some ⟨gb,2,none⟩) (xd.length - 1) (cb - 1)) GT.out)
    replace ST:=zA (ST.out.set 1 (.slice (some ⟨gb,2,none⟩) (xd.length - 1) (cb - 1)) rfl)
    rw [← hw] at RT GT ST
    clear hw hq0 hq1 hf1 RH NB
    go_wp2
    go_meet
    case rel => exact ⟨.slice Ah xh.length ch,.slice (some ⟨gb,2,none⟩) (xd.length - 1) (cb - 1),ST,RT,GT⟩
   ·
    rw [if_neg hl] at hx
    have l1b : decide ((xd.length : Int) > 1) = false:=decide_eq_false (by omega)
    have l1n : decide (1 < xd.length) = false:=decide_eq_false (by omega)
    simp only [Option.some.injEq,Prod.mk.injEq] at hx
    obtain ⟨rfl,rfl,rfl,rfl⟩:=hx
    have hq0 : w7.cell? ⟨g7,0,none⟩ = some (.slice Ah xh.length ch):=(zP ST.out.b7 0).trans rfl
    have hq1 : w7.cell? ⟨g7,1,none⟩ = some (.slice Ab xd.length cb):=(zP ST.out.b7 1).trans rfl
    have GB:=zA (G_N (base':=0) NB.out)
    go_wp2
    go_meet
    case rel => exact ⟨.slice Ah xh.length ch,.slice Ab xd.length cb,ST,RH,GB⟩
  have c0b : (y == 0) = false:=by simpa using c0
  rw [if_neg c0] at hx
  clear c0
  by_cases c1 : y = 1
  ·
   have c1b : (y == 1) = true:=beq_iff_eq.mpr c1
   rw [if_pos c1] at hx
   clear c1
   by_cases hl : xd.length < 4
   ·
    rw [if_pos hl] at hx
    obtain ⟨⟨ar,al,i3,h3⟩,a5,hx⟩:=Option.bind_eq_some_iff.1 hx
    try dsimp only at hx
    have T5:=zA a5
    clear a5
    simp only [Option.some.injEq,Prod.mk.injEq] at hx
    obtain ⟨rfl,rfl,rfl,rfl⟩:=hx
    have HL:=zA hl
    have l1b : decide ((xd.length : Int) < 4) = true:=decide_eq_true (by omega)
    have l1n : decide (xd.length < 4) = true:=decide_eq_true (by omega)
    have hq0 : w7.cell? ⟨g7,0,none⟩ = some (.slice Ah xh.length ch):=(zP ST.out.b7 0).trans rfl
    have hq1 : w7.cell? ⟨g7,1,none⟩ = some (.slice Ab xd.length cb):=(zP ST.out.b7 1).trans rfl
    try go_wp2
    have n_:=zA (ST.out.below (below_drew (w:=w7) (Below.refl _ _)))
    clear ST
    have ST:=n_
    clear n_
    have n_:=zA (zH RH.out)
    clear RH
    have RH:=n_
    clear n_
    have n_:=zA (Kd.N_drew NB.out)
    clear NB
    have NB:=n_
    clear n_
    refine start_ (n:=9) (S:=fun w' => w'.cell? ⟨g7,1,none⟩ = some (.slice Ab xd.length cb) ∧ w'.cell? ⟨g4,0,none⟩ = some (.slice A0 s.length c0)) (ds:=[6,8]) #[yf,yf,yf,yf,yf,yf,yf,yf,yf] (by kernel_rfl) rfl rfl ⟨(zP ST.out.b7 1).trans rfl,(zP ST.out.b4 0).trans rfl⟩ (fun hHeld => ?_)
    generalize w7.drew = wd at ST RH NB hHeld ⊢
    clear hq0 hq1
    have FR:=zA (ST.out.fresh RH.out)
    have NL:=zA (Kd.N_lt NB.out)
    have WW:=zA ST.out.K.1
    refine zu 0 31 ?_;refine zw 1 32 hHeld ?_;refine zu 2 33 ?_;refine zw 3 34 hHeld ?_
    refine one_ (i:=4) (N:=some 35) #[yt,yt,yt,yt,yt,yf,yf,yf,yf] rfl rfl (by kernel_rfl) (by decide) (fun K hK => ?_)
    refine goes_ Try.func156 (by kernel_rfl) rfl #[.pointer (some ⟨g,0,none⟩),.agg #[.slice A0 s.length c0]] (by rfl) rfl rfl (by (try simp only [zCb,zMb,zNb]);first|done|rfl) ?_
    with_reducible refine (spec_l3Atom.calls k g c i1 h1 A0 c0 s ar al i3 h3 w0 _ ST.out.I ST.out.B (Kd.F_now (Kd.F_keep FS.out ST.out.K OKA.out)) HC.out.1 (F_ne FS.out 0 (by decide) OKA.out) T5.out).mono ?_
    rintro e w8 ⟨va,rfl,hoa,hi,hb,hk⟩
    refine ⟨_,rfl,?_⟩
    have RA:=zA hoa
    replace RH:=zA (ST.out.keepR hk RH.out)
    replace NB:=zA (ST.out.keepN hk NB.out)
    replace ST:=zA (ST.out.keep hi hb hk)
    obtain ⟨Aa,ca,rfl⟩:=Kd.R_slice RA.out
    have WD:=zA hk.1
    clear hoa hi hb hk T5
    refine hK.out _ _ ⟨(zP ST.out.b7 1).trans rfl,(zP ST.out.b4 0).trans rfl⟩ (fun hHeld => ?_)
    clear hK K
    refine norm_ (a':=?_) ?_ ?_
    rotate_left
    ·show Act.put _ (some 35) _ = _;simp only [Act.put,zO,zEb,zFb,i64_w,i32_w];rfl
    refine one_ (i:=5) (N:=some 36) #[yt,yt,yt,yt,yt,yt,yf,yf,yf] rfl rfl (by kernel_rfl) (by decide) (fun K hK => ?_)
    refine event_step (by rfl) (v:=.slice (some ⟨w8.heap.size,0,none⟩) 1 1) (w1:=w8.alloc (.cells #[.int .i64 ar,.slice Aa al.length ca] 97 (0,0))) ?_ ?_
    ·first|(go_simp;done)|(go_simp;rfl)
    refine hK.out _ _ ⟨(zP (zG ST.out.b7 _) 1).trans rfl,(zP (zG ST.out.b4 _) 0).trans rfl⟩ (fun hHeld => ?_)
    clear hK K
    refine norm_ (a':=?_) ?_ ?_
    rotate_left
    ·show Act.put _ (some 36) _ = _;simp only [Act.put,zO,zEb,zFb,i64_w,i32_w];rfl
    refine last_ (i:=6) (N:=some 37) #[yt,yt,yt,yt,yt,yt,yt,yf,yf] rfl rfl (by kernel_rfl) (by decide) (fun K hK => ?_)
    refine Kd.N_append_step k97 (w0:=w8) (W:=w8) w.heap.size (by rfl) (.tmp 32) (.tmp 36) 44 97 (.agg #[(.int .i64 0),(.slice none 0 0)]) 32 rfl huL info97 rfl (by decide) (by omega) (.slice Ab xd.length cb) xd (⟨ar,al⟩ : S97) [.int .i64 ar,.slice Aa al.length ca] (okB w.heap.size (.slice Ah xh.length ch) g g6 g7) (fun k_ => wd.heap.size ≤ k_) rfl rfl ?aP (fun k_ hk_ => ⟨FR.out k_ hk_,fun e_ => by have h1_:=NL.out k_ e_.symm;omega⟩) ?aF NB.out (Below.refl _ _) ST.out.K.1 ?aL ?_
    case aP => exact Kd.FK_mono (Kd.FK_of_M (k97_mkM w8 wd.heap.size (fun k_ => wd.heap.size ≤ k_) (⟨ar,al⟩ : S97) (zGb (Kd.R_bound RA.out) (fun _ hk_ => hk_.2.1)))) (fun _ hk_ => hk_)
    case aF => exact fun k_ hk_ => FR.out k_ (Nat.le_trans WD.out hk_)
    case aL => have:=HL.out;omega
    intro v9 w9 ho hb hg hat
    have GB:=zA (G_N (base':=0) ho)
    have n_:=zA (ST.out.grownN hg NB.out (Nat.le_refl _))
    clear ST
    have ST:=n_
    clear n_
    replace RH:=zA (zGb (Kd.R_grown (Kd.R_apart' RH.out (Kd.N_typed NB.out) (by decide)) hg (fun _ h_ => h_.2)) (ok':=fun _ => True) (fun _ _ => trivial))
    obtain ⟨A9,c9,rfl⟩:=Kd.G_slice GB.out
    clear ho hb hg hat NB
    refine hK.out _ _ ?_
    clear hK K hHeld
    refine norm_ (a':=?_) ?_ ?_
    rotate_left
    ·show Act.put _ (some 37) _ = _;simp only [Act.put,zO,zEb,zFb,i64_w,i32_w];rfl
    refine zu 7 38 ?_
    refine last_ (i:=8) (N:=none) #[yt,yt,yt,yt,yt,yt,yt,yt,yt] rfl rfl (by kernel_rfl) (by decide) (fun K hK => ?_)
    have hq0 : w9.cell? ⟨g7,0,none⟩ = some (.slice Ah xh.length ch):=(zP ST.out.b7 0).trans rfl
    have hq1 : w9.cell? ⟨g7,1,none⟩ = some (.slice Ab xd.length cb):=(zP ST.out.b7 1).trans rfl
    have hf1:=blk_frozen ST.out.b7 1
    refine skip_ (w1:=w9.setCell ⟨g7,1,none⟩ (.slice A9 (xd ++ [(⟨ar,al⟩ : S97)]).length c9)) (by rfl) rfl ?_ ?_
    ·go_simp;first|done|rfl
    clear hq0 hq1 hf1
    replace GB:=zA (ST.out.setG 1 (.slice A9 (xd ++ [(⟨ar,al⟩ : S97)]).length c9) GB.out)
    replace RH:=zA (Kd.R_set RH.out ST.out.b7 (by decide) 1 (.slice A9 (xd ++ [(⟨ar,al⟩ : S97)]).length c9))
    replace ST:=zA (ST.out.set 1 (.slice A9 (xd ++ [(⟨ar,al⟩ : S97)]).length c9) rfl)
    generalize w9.setCell ⟨g7,1,none⟩ (.slice A9 (xd ++ [(⟨ar,al⟩ : S97)]).length c9) = wz at ST RH GB ⊢
    refine hK.out _ _ ?_
    clear hK K
    try clear hHeld
    refine done_ (by kernel_rfl) ?_
    go_wp2
    go_meet
    case rel => exact ⟨.slice Ah xh.length ch,.slice A9 (xd ++ [(⟨ar,al⟩ : S97)]).length c9,ST,RH,GB⟩
   ·
    rw [if_neg hl] at hx
    have l1b : decide ((xd.length : Int) < 4) = false:=decide_eq_false (by omega)
    have l1n : decide (xd.length < 4) = false:=decide_eq_false (by omega)
    simp only [Option.some.injEq,Prod.mk.injEq] at hx
    obtain ⟨rfl,rfl,rfl,rfl⟩:=hx
    have hq0 : w7.cell? ⟨g7,0,none⟩ = some (.slice Ah xh.length ch):=(zP ST.out.b7 0).trans rfl
    have hq1 : w7.cell? ⟨g7,1,none⟩ = some (.slice Ab xd.length cb):=(zP ST.out.b7 1).trans rfl
    have GB:=zA (G_N (base':=0) NB.out)
    go_wp2
    go_meet
    case rel => exact ⟨.slice Ah xh.length ch,.slice Ab xd.length cb,ST,RH,GB⟩
  have c1b : (y == 1) = false:=by simpa using c1
  rw [if_neg c1] at hx
  clear c1
  by_cases c2 : y = 2
  ·
   have c2b : (y == 2) = true:=beq_iff_eq.mpr c2
   rw [if_pos c2] at hx
   clear c2
   obtain ⟨⟨zh',zd'⟩,a5,hx⟩:=Option.bind_eq_some_iff.1 hx
   try dsimp only at hx
   have T5:=zA a5
   clear a5
   simp only [Option.some.injEq,Prod.mk.injEq] at hx
   obtain ⟨rfl,rfl,rfl,rfl⟩:=hx
   have hq0 : w7.cell? ⟨g7,0,none⟩ = some (.slice Ah xh.length ch):=(zP ST.out.b7 0).trans rfl
   have hq1 : w7.cell? ⟨g7,1,none⟩ = some (.slice Ab xd.length cb):=(zP ST.out.b7 1).trans rfl
   go_wp2_with (first|((with_reducible refine gate_dst (N:=42) rfl ?_);refine hold ?_))
   unfold Hold
   refine Kd.R_lit (Kd.int .i64) _ 3 ?hgl (N:=42) ?hdl (xs:=([3,2,1,0] : List Int)) (inner:=[.int .i64 3,.int .i64 2,.int .i64 1,.int .i64 0]) (ok:=fun _ => True) (okp:=fun _ => True) ?hrl ?hpl (fun _ hk => hk) trivial (Below.refl _ _) (Nat.le_refl _) (by simp) ?_
   case hdl => rfl
   case hgl => rfl
   case hrl => first|(go_simp;done)|(go_simp;rfl)
   case hpl => exact (Reps.one (show Kd.M (Kd.int .i64) _ _ _ 3 [.int .i64 3] from rfl) (Reps.one (show Kd.M (Kd.int .i64) _ _ _ 2 [.int .i64 2] from rfl) (Reps.one (show Kd.M (Kd.int .i64) _ _ _ 1 [.int .i64 1] from rfl) (Reps.one (show Kd.M (Kd.int .i64) _ _ _ 0 [.int .i64 0] from rfl) (Reps.none _ _)))))
   intro vl w8 ho hb hg_ hnew_
   have RL:=zA ho
   have WD:=zA hb.size
   replace RH:=zA (zZ RH.out hb)
   replace NB:=zA (Kd.N_below NB.out hb)
   replace ST:=zA (ST.out.below hb)
   clear ho hb hg_ hnew_
   obtain ⟨Al,cl,rfl⟩:=Kd.R_slice RL.out
   go_wp2_with (first|(go_at_call 40;refine hold ?_))
   unfold Hold
   refine (spec_RenameQuery.calls k Ah ch xh Ab cb xd Al cl [3,2,1,0] zh' zd' _ (Kd.R_reads' RH.out).2.2 (Kd.R_reads' RH.out).2.1 (Kd.N_reads' NB.out).2.2 (Kd.N_reads' NB.out).2.1 (Kd.R_reads' RL.out).2.2 (Kd.R_reads' RL.out).2.1 T5.out).mono ?_
   rintro e w9 ⟨uh,ub,rfl,ho0,ho1,hb⟩
   have UH:=zA (zHb ho0 ST.out.K.1)
   have US:=zA (zIb ho1 ST.out.K.1)
   replace ST:=zA (ST.out.below hb)
   have UB:=zA (ST.out.N US.out (Nat.le_refl _))
   obtain ⟨Au,cu,rfl⟩:=Kd.R_slice UH.out
   obtain ⟨Av,cv,rfl⟩:=Kd.N_slice UB.out
   clear ho0 ho1 hb US RL
   clear RH NB hq0 hq1 T5
   have hy0 : w9.cell? ⟨g7,0,none⟩ = some (.slice Ah xh.length ch):=(zP ST.out.b7 0).trans rfl
   have hy1 : w9.cell? ⟨g7,1,none⟩ = some (.slice Ab xd.length cb):=(zP ST.out.b7 1).trans rfl
   have hf0:=blk_frozen ST.out.b7 0
   have hf1:=blk_frozen ST.out.b7 1
   go_wp2_with (first|((with_reducible refine gate_store (t:=46) (p:=7) rfl ?_);refine hold ?_))
   unfold Hold
   refine store_event (t:=46) (p:=7) (v:=?vo2) (w1:=(w9.setCell ⟨g7,0,none⟩ (.slice Au zh'.length cu)).setCell ⟨g7,1,none⟩ (.slice Av zd'.length cv)) ?hgs2 ?hos2 ?hns2 ?hrs2 ?_
   case hos2 => rfl
   case hgs2 => rfl
   case hns2 => rfl
   case hrs2 => first|(go_simp;done)|(go_simp;rfl)
   intro wz hw
   have n_:=zA (StN.putR ST.out (.slice Au zh'.length cu) (.slice Av zd'.length cv) UH.out)
   rw [← hw] at n_
   clear UH
   have UH:=n_
   clear n_
   have n_:=zA (StN.putN ST.out (.slice Au zh'.length cu) (.slice Av zd'.length cv) UB.out)
   rw [← hw] at n_
   clear UB
   have UB:=n_
   clear n_
   have n_:=zA (ST.out.put (.slice Au zh'.length cu) (.slice Av zd'.length cv))
   rw [← hw] at n_
   clear ST
   have ST:=n_
   clear n_ hw hy0 hy1 hf0 hf1
   have GB:=zA (G_N (base':=0) UB.out)
   go_wp2
   go_meet
   case rel => exact ⟨.slice Au zh'.length cu,.slice Av zd'.length cv,ST,UH,GB⟩
  have c2b : (y == 2) = false:=by simpa using c2
  rw [if_neg c2] at hx
  clear c2
  by_cases c3 : y = 3
  ·
   have c3b : (y == 3) = true:=beq_iff_eq.mpr c3
   rw [if_pos c3] at hx
   clear c3
   obtain ⟨⟨ta,i3,h3⟩,a5,hx⟩:=Option.bind_eq_some_iff.1 hx
   try dsimp only at hx
   have T5:=zA a5
   clear a5
   obtain ⟨⟨tb,i4,h4⟩,a6,hx⟩:=Option.bind_eq_some_iff.1 hx
   try dsimp only at hx
   have T6:=zA a6
   clear a6
   obtain ⟨⟨zh',zd'⟩,a7,hx⟩:=Option.bind_eq_some_iff.1 hx
   try dsimp only at hx
   have T7:=zA a7
   clear a7
   simp only [Option.some.injEq,Prod.mk.injEq] at hx
   obtain ⟨rfl,rfl,rfl,rfl⟩:=hx
   try go_wp2
   have n_:=zA (ST.out.below (below_drew (w:=w7) (Below.refl _ _)))
   clear ST
   have ST:=n_
   clear n_
   have n_:=zA (zH RH.out)
   clear RH
   have RH:=n_
   clear n_
   have n_:=zA (Kd.N_drew NB.out)
   clear NB
   have NB:=n_
   clear n_
   refine start_ (n:=8) (S:=fun w' => w'.cell? ⟨g7,0,none⟩ = some (.slice Ah xh.length ch) ∧ w'.cell? ⟨g7,1,none⟩ = some (.slice Ab xd.length cb)) (ds:=[7]) #[yf,yf,yf,yf,yf,yf,yf,yf] (by kernel_rfl) rfl rfl ⟨(zP ST.out.b7 0).trans rfl,(zP ST.out.b7 1).trans rfl⟩ (fun hHeld => ?_)
   generalize w7.drew = wd at ST RH NB hHeld ⊢
   refine zw 0 46 hHeld ?_;refine zu 1 47 ?_;refine zu 3 49 ?_
   refine one_ (i:=2) (N:=some 48) #[yt,yt,yt,yt,yf,yf,yf,yf] rfl rfl (by kernel_rfl) (by decide) (fun K hK => ?_)
   refine goes_ Try.func144 (by kernel_rfl) rfl #[.pointer (some ⟨g,0,none⟩)] (by rfl) rfl rfl (by (try simp only [zCb,zMb,zNb]);first|done|rfl) ?_
   with_reducible refine (spec_l2Term.calls g c i1 h1 ta i3 h3 w0 _ ST.out.I ST.out.B T5.out).mono ?_
   rintro e w8 ⟨rfl,hi,hb,hk⟩
   refine ⟨_,rfl,?_⟩
   replace RH:=zA (ST.out.keepR hk RH.out)
   replace NB:=zA (ST.out.keepN hk NB.out)
   replace ST:=zA (ST.out.keep hi hb hk)
   clear hi hb hk T5
   refine hK.out _ _ ⟨(zP ST.out.b7 0).trans rfl,(zP ST.out.b7 1).trans rfl⟩ (fun hHeld => ?_)
   clear hK K
   refine norm_ (a':=?_) ?_ ?_
   rotate_left
   ·show Act.put _ (some 48) _ = _;simp only [Act.put,zO,zEb,zFb,i64_w,i32_w];rfl
   refine one_ (i:=4) (N:=some 50) #[yt,yt,yt,yt,yt,yf,yf,yf] rfl rfl (by kernel_rfl) (by decide) (fun K hK => ?_)
   refine goes_ Try.func144 (by kernel_rfl) rfl #[.pointer (some ⟨g,0,none⟩)] (by rfl) rfl rfl (by (try simp only [zCb,zMb,zNb]);first|done|rfl) ?_
   with_reducible refine (spec_l2Term.calls g c i3 h3 tb i4 h4 w0 _ ST.out.I ST.out.B T6.out).mono ?_
   rintro e w9 ⟨rfl,hi,hb,hk⟩
   refine ⟨_,rfl,?_⟩
   replace RH:=zA (ST.out.keepR hk RH.out)
   replace NB:=zA (ST.out.keepN hk NB.out)
   replace ST:=zA (ST.out.keep hi hb hk)
   clear hi hb hk T6
   refine hK.out _ _ ⟨(zP ST.out.b7 0).trans rfl,(zP ST.out.b7 1).trans rfl⟩ (fun hHeld => ?_)
   clear hK K
   refine norm_ (a':=?_) ?_ ?_
   rotate_left
   ·show Act.put _ (some 50) _ = _;simp only [Act.put,zO,zEb,zFb,i64_w,i32_w];rfl
   refine one_ (i:=5) (N:=some 51) #[yt,yt,yt,yt,yt,yt,yf,yf] rfl rfl (by kernel_rfl) (by decide) (fun K hK => ?_)
   refine Kd.R_lit_step (Kd.int .i64) (w0:=w9) w9.heap.size 3 (by rfl) (N:=51) rfl (xs:=([ta,tb] : List Int)) (inner:=[.int .i64 ta,.int .i64 tb]) (ok:=fun _ => True) (okp:=fun _ => True) ?hrl ?hpl (fun _ hk => hk) trivial (Below.refl _ _) (Nat.le_refl _) (by simp) ?_
   case hrl => first|(go_simp;done)|(go_simp;rfl)
   case hpl => exact (Reps.one (show Kd.M (Kd.int .i64) _ _ _ ta [.int .i64 ta] from rfl) (Reps.one (show Kd.M (Kd.int .i64) _ _ _ tb [.int .i64 tb] from rfl) (Reps.none _ _)))
   intro vl w10 ho hb hg_ hnew_
   have RL:=zA ho
   have WD:=zA hb.size
   replace RH:=zA (zZ RH.out hb)
   replace NB:=zA (Kd.N_below NB.out hb)
   replace ST:=zA (ST.out.below hb)
   clear ho hb hg_ hnew_
   obtain ⟨Al,cl,rfl⟩:=Kd.R_slice RL.out
   refine hK.out _ _ ⟨(zP ST.out.b7 0).trans rfl,(zP ST.out.b7 1).trans rfl⟩ (fun hHeld => ?_)
   clear hK K
   refine norm_ (a':=?_) ?_ ?_
   rotate_left
   ·show Act.put _ (some 51) _ = _;simp only [Act.put,zO,zEb,zFb,i64_w,i32_w];rfl
   refine one_ (i:=6) (N:=some 52) #[yt,yt,yt,yt,yt,yt,yt,yf] rfl rfl (by kernel_rfl) (by decide) (fun K hK => ?_)
   refine goes_ Try.func40 (by kernel_rfl) rfl #[.agg #[.slice Ah xh.length ch,.slice Ab xd.length cb],.slice Al ([ta,tb] : List Int).length cl] (by rfl) rfl rfl (by (try simp only [zCb,zMb,zNb]);first|done|rfl) ?_
   with_reducible refine (spec_RenameQuery.calls k Ah ch xh Ab cb xd Al cl [ta,tb] zh' zd' _ (Kd.R_reads' RH.out).2.2 (Kd.R_reads' RH.out).2.1 (Kd.N_reads' NB.out).2.2 (Kd.N_reads' NB.out).2.1 (Kd.R_reads' RL.out).2.2 (Kd.R_reads' RL.out).2.1 T7.out).mono ?_
   rintro e w11 ⟨uh,ub,rfl,ho0,ho1,hb⟩
   refine ⟨_,rfl,?_⟩
   have UH:=zA (zHb ho0 ST.out.K.1)
   have US:=zA (zIb ho1 ST.out.K.1)
   replace ST:=zA (ST.out.below hb)
   have UB:=zA (ST.out.N US.out (Nat.le_refl _))
   obtain ⟨Au,cu,rfl⟩:=Kd.R_slice UH.out
   obtain ⟨Av,cv,rfl⟩:=Kd.N_slice UB.out
   clear ho0 ho1 hb US RL
   clear RH NB T7
   refine hK.out _ _ ⟨(zP ST.out.b7 0).trans rfl,(zP ST.out.b7 1).trans rfl⟩ (fun hHeld => ?_)
   clear hK K
   refine norm_ (a':=?_) ?_ ?_
   rotate_left
   ·show Act.put _ (some 52) _ = _;simp only [Act.put,zO,zEb,zFb,i64_w,i32_w];rfl
   refine last_ (i:=7) (N:=none) #[yt,yt,yt,yt,yt,yt,yt,yt] rfl rfl (by kernel_rfl) (by decide) (fun K hK => ?_)
   have hq0 : w11.cell? ⟨g7,0,none⟩ = some (.slice Ah xh.length ch):=(zP ST.out.b7 0).trans rfl
   have hq1 : w11.cell? ⟨g7,1,none⟩ = some (.slice Ab xd.length cb):=(zP ST.out.b7 1).trans rfl
   have hf0:=blk_frozen ST.out.b7 0
   have hf1:=blk_frozen ST.out.b7 1
   refine skip_ (w1:=(w11.setCell ⟨g7,0,none⟩ (.slice Au zh'.length cu)).setCell ⟨g7,1,none⟩ (.slice Av zd'.length cv)) (by rfl) rfl ?_ ?_
   ·go_simp;first|done|rfl
   clear hq0 hq1 hf0 hf1
   replace UB:=zA (ST.out.putN (.slice Au zh'.length cu) (.slice Av zd'.length cv) UB.out)
   replace UH:=zA (ST.out.putR (.slice Au zh'.length cu) (.slice Av zd'.length cv) UH.out)
   replace ST:=zA (ST.out.put (.slice Au zh'.length cu) (.slice Av zd'.length cv))
   generalize (w11.setCell ⟨g7,0,none⟩ (.slice Au zh'.length cu)).setCell ⟨g7,1,none⟩ (.slice Av zd'.length cv) = wz at ST UH UB ⊢
   refine hK.out _ _ ?_
   clear hK K
   try clear hHeld
   refine done_ (by kernel_rfl) ?_
   have GB:=zA (G_N (base':=0) UB.out)
   go_wp2
   go_meet
   case rel => exact ⟨.slice Au zh'.length cu,.slice Av zd'.length cv,ST,UH,GB⟩
  have c3b : (y == 3) = false:=by simpa using c3
  rw [if_neg c3] at hx
  clear c3
  by_cases c4 : y = 4
  ·
   have c4b : (y == 4) = true:=beq_iff_eq.mpr c4
   rw [if_pos c4] at hx
   clear c4
   by_cases hl : 1 < xd.length
   ·
    rw [if_pos hl] at hx
    by_cases hm : xd.length < 1000000
    rotate_left
    ·
     rw [if_neg hm] at hx
     cases hx
    rw [if_pos hm] at hx
    simp only [Option.some.injEq,Prod.mk.injEq] at hx
    obtain ⟨rfl,rfl,rfl,rfl⟩:=hx
    have l1b : decide ((xd.length : Int) > 1) = true:=decide_eq_true (by omega)
    have l1n : decide (1 < xd.length) = true:=decide_eq_true (by omega)
    obtain ⟨gb,cb',cur,e_,hge,hbb,hcs,hcap⟩:=N_cells NB.out (by omega)
    injection e_ with e1 _ e3
    subst e1
    subst e3
    obtain ⟨ti,hti,hts_⟩:=Option.map_eq_some_iff.1 info97
    have hts : ti.size = 2:=by simp only [Prod.mk.injEq] at hts_;exact hts_.2.1
    have hcut:=cut_tail (P:=Try.prog) 44 97 huL hti 2 hts gb xd.length cb (by omega) hcap
    clear hti hts hts_ ti
    obtain ⟨cs0,k0,k1,k2⟩:=rot_els NB.out hbb 0 (by omega)
    obtain ⟨A0_,c0_,hcs0,l0_,r0_⟩:=k97_open (Kd.FK_now k1)
    subst hcs0
    have k20:=k2 0 _ rfl
    have k21:=k2 1 _ rfl
    rw [Nat.zero_mul,Nat.zero_add] at k20 k21
    obtain ⟨f0_,hf0_⟩ : ∃ q,(xd.getD 0 z97).f0 = q:=⟨_,rfl⟩
    obtain ⟨n0_,hn0_⟩ : ∃ q,(xd.getD 0 z97).f1.length = q:=⟨_,rfl⟩
    rw [hf0_] at k20 k2 k0
    rw [hn0_] at k21 k2 k0
    have KC:=zA (show (∀ (t : Nat) (u : Value),([.int .i64 f0_,.slice A0_ n0_ c0_] : List Value)[t]? = some u → cur[t]? = some u) ∧ cur[0]? = some (.int .i64 f0_) ∧ cur[1]? = some (.slice A0_ n0_ c0_) ∧ cur.size = cb * 2 ∧ 1 < xd.length ∧ xd.length < 1000000 from ⟨fun t u hu => by have h_:=k2 t u hu;rwa [Nat.zero_mul,Nat.zero_add] at h_,k20,k21,hcs,hl,hm⟩)
    have BB:=zA hbb
    have GE:=zA hge
    have z0n:=eq_true (show 0 < xd.length by omega)
    have z0i:=eq_true (show (0 : Int) < (xd.length : Int) by omega)
    clear k0 k1 k2 k20 k21 l0_ r0_ hf0_ hn0_ hcs hbb hge hm
    have hq0 : w7.cell? ⟨g7,0,none⟩ = some (.slice Ah xh.length ch):=(zP ST.out.b7 0).trans rfl
    have hq1 : w7.cell? ⟨g7,1,none⟩ = some (.slice (some ⟨gb,0,none⟩) xd.length cb):=(zP ST.out.b7 1).trans rfl
    try go_wp2
    have n_:=zA (ST.out.below (below_drew (w:=w7) (Below.refl _ _)))
    clear ST
    have ST:=n_
    clear n_
    have n_:=zA (zH RH.out)
    clear RH
    have RH:=n_
    clear n_
    have n_:=zA (Kd.N_drew NB.out)
    clear NB
    have NB:=n_
    clear n_
    have n_:=zA (zI BB.out)
    clear BB
    have BB:=n_
    clear n_
    refine start_ (n:=11) (S:=fun w' => w'.cell? ⟨g7,1,none⟩ = some (.slice (some ⟨gb,0,none⟩) xd.length cb) ∧ w'.cell? ⟨gb,0,none⟩ = some (.int .i64 f0_) ∧ w'.cell? ⟨gb,1,none⟩ = some (.slice A0_ n0_ c0_)) (ds:=[8,10]) #[yf,yf,yf,yf,yf,yf,yf,yf,yf,yf,yf] (by kernel_rfl) rfl rfl ⟨(zP ST.out.b7 1).trans rfl,(zP BB.out 0).trans KC.out.2.1,(zP BB.out 1).trans KC.out.2.2.1⟩ (fun hHeld => ?_)
    generalize w7.drew = wd at ST RH NB BB hHeld ⊢
    clear hq0 hq1
    refine zu 0 59 ?_;refine zw 1 60 hHeld ?_;refine zu 2 61 ?_;refine zu 3 62 ?_;refine zw 4 63 hHeld ?_;refine zu 5 64 ?_;refine zw 6 65 hHeld ?_
    refine one_ (i:=7) (N:=some 66) #[yt,yt,yt,yt,yt,yt,yt,yt,yf,yf,yf] rfl rfl (by kernel_rfl) (by decide) (fun K hK => ?_)
    refine event_step (by rfl) (v:=.slice (some ⟨wd.heap.size,0,none⟩) 1 1) (w1:=wd.alloc (.cells #[.int .i64 f0_,.slice A0_ n0_ c0_] 97 (0,0))) ?_ ?_
    ·first|(go_simp;done)|(go_simp;rfl)
    have FR:=zA (ST.out.fresh RH.out)
    refine hK.out _ _ ⟨(zP (zG ST.out.b7 _) 1).trans rfl,(zP (zG BB.out _) 0).trans KC.out.2.1,(zP (zG BB.out _) 1).trans KC.out.2.2.1⟩ (fun hHeld => ?_)
    clear hK K
    refine norm_ (a':=?_) ?_ ?_
    rotate_left
    ·show Act.put _ (some 66) _ = _;simp only [Act.put,zO,zEb,zFb,i64_w,i32_w];rfl
    refine last_ (i:=8) (N:=some 67) #[yt,yt,yt,yt,yt,yt,yt,yt,yt,yf,yf] rfl rfl (by kernel_rfl) (by decide) (fun K hK => ?_)
    obtain ⟨v9,w9,hrun,hG,hgr⟩:=rot_run (P:=Try.prog) 44 44 huL info97 (Kd.N_alloc NB.out (.cells #[.int .i64 f0_,.slice A0_ n0_ c0_] 97 (0,0))) (zG BB.out _) KC.out.2.2.2.1 (by have:=KC.out.2.2.2.2.1;omega) KC.out.2.2.2.2.2 (gn:=wd.heap.size) (cs:=[.int .i64 f0_,.slice A0_ n0_ c0_]) rfl KC.out.1 (blk_new wd _) (by intro u hu;rcases List.mem_cons.1 hu with h_|h_;rw [h_];rfl;rw [List.mem_singleton.1 h_];rfl)
    refine event_step (by rfl) (v:=v9) (w1:=w9) (append_runs (.tmp 61) (.tmp 66) 44 rfl rfl rfl hrun) ?_
    have GB:=zA (Kd.G_mono (base':=0) hG (ok':=okB w.heap.size (.slice Ah xh.length ch) g g6 g7) (fun k_ hk_ => hk_.elim id (fun h_ => FR.out k_ (Nat.le_trans (zK (Below.refl wd.heap.size wd) _).size h_))))
    have S2:=zA (ST.out.below (zK (Below.refl wd.heap.size wd) (.cells #[.int .i64 f0_,.slice A0_ n0_ c0_] 97 (0,0))))
    have n_:=zA (S2.out.grown (base:=w.heap.size) (n:=0) (cap:=0) hgr (zG BB.out _) GE.out (Nat.le_refl _))
    clear ST
    have ST:=n_
    clear n_
    replace RH:=zA (zGb (Kd.R_grown (Kd.R_types (zE RH.out _) (zG BB.out _) (by decide)) hgr (fun _ h_ e_ => by injection e_ with e_;exact h_.2 e_)) (fun _ _ => trivial) (ok':=fun _ => True))
    obtain ⟨A9,c9,rfl⟩:=Kd.G_slice GB.out
    clear hrun hG hgr S2 NB BB KC
    refine hK.out _ _ ?_
    clear hK K hHeld
    refine norm_ (a':=?_) ?_ ?_
    rotate_left
    ·show Act.put _ (some 67) _ = _;simp only [Act.put,zO,zEb,zFb,i64_w,i32_w];rfl
    refine zu 9 68 ?_
    refine last_ (i:=10) (N:=none) #[yt,yt,yt,yt,yt,yt,yt,yt,yt,yt,yt] rfl rfl (by kernel_rfl) (by decide) (fun K hK => ?_)
    have hq0 : w9.cell? ⟨g7,0,none⟩ = some (.slice Ah xh.length ch):=(zP ST.out.b7 0).trans rfl
    have hq1 : w9.cell? ⟨g7,1,none⟩ = some (.slice (some ⟨gb,0,none⟩) xd.length cb):=(zP ST.out.b7 1).trans rfl
    have hf1:=blk_frozen ST.out.b7 1
    refine skip_ (w1:=w9.setCell ⟨g7,1,none⟩ (.slice A9 (xd.drop 1 ++ [xd.getD 0 z97]).length c9)) (by rfl) rfl ?_ ?_
    ·go_simp;first|done|rfl
    clear hq0 hq1 hf1
    replace GB:=zA (ST.out.setG 1 (.slice A9 (xd.drop 1 ++ [xd.getD 0 z97]).length c9) GB.out)
    replace RH:=zA (Kd.R_set RH.out ST.out.b7 (by decide) 1 (.slice A9 (xd.drop 1 ++ [xd.getD 0 z97]).length c9))
    replace ST:=zA (ST.out.set 1 (.slice A9 (xd.drop 1 ++ [xd.getD 0 z97]).length c9) rfl)
    generalize w9.setCell ⟨g7,1,none⟩ (.slice A9 (xd.drop 1 ++ [xd.getD 0 z97]).length c9) = wz at ST RH GB ⊢
    refine hK.out _ _ ?_
    clear hK K
    try clear hHeld
    refine done_ (by kernel_rfl) ?_
    go_wp2
    go_meet
    case rel => exact ⟨.slice Ah xh.length ch,.slice A9 (xd.drop 1 ++ [xd.getD 0 z97]).length c9,ST,RH,GB⟩
   ·
    rw [if_neg hl] at hx
    have l1b : decide ((xd.length : Int) > 1) = false:=decide_eq_false (by omega)
    have l1n : decide (1 < xd.length) = false:=decide_eq_false (by omega)
    simp only [Option.some.injEq,Prod.mk.injEq] at hx
    obtain ⟨rfl,rfl,rfl,rfl⟩:=hx
    have hq0 : w7.cell? ⟨g7,0,none⟩ = some (.slice Ah xh.length ch):=(zP ST.out.b7 0).trans rfl
    have hq1 : w7.cell? ⟨g7,1,none⟩ = some (.slice Ab xd.length cb):=(zP ST.out.b7 1).trans rfl
    have GB:=zA (G_N (base':=0) NB.out)
    go_wp2
    go_meet
    case rel => exact ⟨.slice Ah xh.length ch,.slice Ab xd.length cb,ST,RH,GB⟩
  have c4b : (y == 4) = false:=by simpa using c4
  rw [if_neg c4] at hx
  clear c4
  by_cases c5 : y = 5
  ·
   have c5b : (y == 5) = true:=beq_iff_eq.mpr c5
   rw [if_pos c5] at hx
   clear c5
   by_cases hl : xd.length < 4
   ·
    rw [if_pos hl] at hx
    obtain ⟨⟨zh',zd'⟩,a5,hx⟩:=Option.bind_eq_some_iff.1 hx
    try dsimp only at hx
    have T5:=zA a5
    clear a5
    by_cases hz : 0 < zd'.length
    rotate_left
    ·
     rw [if_neg hz] at hx
     cases hx
    rw [if_pos hz] at hx
    simp only [Option.some.injEq,Prod.mk.injEq] at hx
    obtain ⟨rfl,rfl,rfl,rfl⟩:=hx
    have HL:=zA hl
    have l1b : decide ((xd.length : Int) < 4) = true:=decide_eq_true (by omega)
    have l1n : decide (xd.length < 4) = true:=decide_eq_true (by omega)
    have z0n:=eq_true hz
    have z0i:=eq_true (show (0 : Int) < (zd'.length : Int) by omega)
    have hq0 : w7.cell? ⟨g7,0,none⟩ = some (.slice Ah xh.length ch):=(zP ST.out.b7 0).trans rfl
    have hq1 : w7.cell? ⟨g7,1,none⟩ = some (.slice Ab xd.length cb):=(zP ST.out.b7 1).trans rfl
    try go_wp2
    have n_:=zA (ST.out.below (below_drew (w:=w7) (Below.refl _ _)))
    clear ST
    have ST:=n_
    clear n_
    have n_:=zA (zH RH.out)
    clear RH
    have RH:=n_
    clear n_
    have n_:=zA (Kd.N_drew NB.out)
    clear NB
    have NB:=n_
    clear n_
    refine start_ (n:=12) (S:=fun w' => w'.cell? ⟨g7,1,none⟩ = some (.slice Ab xd.length cb) ∧ w'.cell? ⟨g5,0,none⟩ = some (.slice A1 qh.length c1) ∧ w'.cell? ⟨g5,1,none⟩ = some (.slice A2 qd.length c2)) (ds:=[9,11]) #[yf,yf,yf,yf,yf,yf,yf,yf,yf,yf,yf,yf] (by kernel_rfl) rfl rfl ⟨(zP ST.out.b7 1).trans rfl,(zP ST.out.b5 0).trans rfl,(zP ST.out.b5 1).trans rfl⟩ (fun hHeld => ?_)
    generalize w7.drew = wd at ST RH NB hHeld ⊢
    clear hq0 hq1
    have FR:=zA (ST.out.fresh RH.out)
    have NL:=zA (Kd.N_lt NB.out)
    have WW:=zA ST.out.K.1
    refine zu 0 75 ?_;refine zw 1 76 hHeld ?_;refine zw 2 77 hHeld ?_
    refine one_ (i:=3) (N:=some 78) #[yt,yt,yt,yt,yf,yf,yf,yf,yf,yf,yf,yf] rfl rfl (by kernel_rfl) (by decide) (fun K hK => ?_)
    refine Kd.R_lit_step (Kd.int .i64) (w0:=wd) wd.heap.size 3 (by rfl) (N:=78) rfl (xs:=([5,6,7] : List Int)) (inner:=[.int .i64 5,.int .i64 6,.int .i64 7]) (ok:=fun _ => True) (okp:=fun _ => True) ?hrl ?hpl (fun _ hk => hk) trivial (Below.refl _ _) (Nat.le_refl _) (by simp) ?_
    case hrl => first|(go_simp;done)|(go_simp;rfl)
    case hpl => exact (Reps.one (show Kd.M (Kd.int .i64) _ _ _ 5 [.int .i64 5] from rfl) (Reps.one (show Kd.M (Kd.int .i64) _ _ _ 6 [.int .i64 6] from rfl) (Reps.one (show Kd.M (Kd.int .i64) _ _ _ 7 [.int .i64 7] from rfl) (Reps.none _ _))))
    intro vl w8 ho hb hg_ hnew_
    have RL:=zA ho
    have WD:=zA hb.size
    replace RH:=zA (zZ RH.out hb)
    replace NB:=zA (Kd.N_below NB.out hb)
    replace ST:=zA (ST.out.below hb)
    clear ho hb hg_ hnew_
    obtain ⟨Al,cl,rfl⟩:=Kd.R_slice RL.out
    refine hK.out _ _ ⟨(zP ST.out.b7 1).trans rfl,(zP ST.out.b5 0).trans rfl,(zP ST.out.b5 1).trans rfl⟩ (fun hHeld => ?_)
    clear hK K
    refine norm_ (a':=?_) ?_ ?_
    rotate_left
    ·show Act.put _ (some 78) _ = _;simp only [Act.put,zO,zEb,zFb,i64_w,i32_w];rfl
    refine one_ (i:=4) (N:=some 79) #[yt,yt,yt,yt,yt,yf,yf,yf,yf,yf,yf,yf] rfl rfl (by kernel_rfl) (by decide) (fun K hK => ?_)
    refine goes_ Try.func40 (by kernel_rfl) rfl #[.agg #[.slice A1 qh.length c1,.slice A2 qd.length c2],.slice Al ([5,6,7] : List Int).length cl] (by rfl) rfl rfl (by (try simp only [zCb,zMb,zNb]);first|done|rfl) ?_
    with_reducible refine (spec_RenameQuery.calls k A1 c1 qh A2 c2 qd Al cl [5,6,7] zh' zd' _ (Kd.F_now (Kd.F_keep FH.out ST.out.K OKA.out)) HC.out.2.1 (Kd.F_now (Kd.F_keep FD.out ST.out.K OKA.out)) HC.out.2.2 (Kd.R_reads' RL.out).2.2 (Kd.R_reads' RL.out).2.1 T5.out).mono ?_
    rintro e w9 ⟨uh,ub,rfl,ho0,ho1,hb⟩
    refine ⟨_,rfl,?_⟩
    have UF:=zA (zS (Kd.S_bound ho1) (ok':=fun k_ => wd.heap.size ≤ k_) (fun _ hk_ => Nat.le_trans WD.out hk_.2.1))
    have WD9:=zA (Nat.le_trans WD.out hb.size)
    replace RH:=zA (zZ RH.out hb)
    replace NB:=zA (Kd.N_below NB.out hb)
    replace ST:=zA (ST.out.below hb)
    obtain ⟨Au,cu,rfl⟩:=Kd.R_slice ho0
    obtain ⟨Av,cv,hv⟩:=Kd.S_slice ho1
    subst hv
    clear ho0 ho1 hb RL T5 WD
    refine hK.out _ _ ⟨(zP ST.out.b7 1).trans rfl,(zP ST.out.b5 0).trans rfl,(zP ST.out.b5 1).trans rfl⟩ (fun hHeld => ?_)
    clear hK K
    refine norm_ (a':=?_) ?_ ?_
    rotate_left
    ·show Act.put _ (some 79) _ = _;simp only [Act.put,zO,zEb,zFb,i64_w,i32_w];rfl
    obtain ⟨gu,cu',e_,-,-,-⟩:=Kd.S_form UF.out hz
    injection e_ with e1 _ e3
    subst e1
    subst e3
    obtain ⟨cs0,k0,k1,k2,-⟩:=Kd.N_elem (Kd.S_N UF.out) z97 0 (by omega) (by omega)
    obtain ⟨A0_,c0_,hcs0,l0_,r0_⟩:=k97_open (Kd.FK_now k1)
    subst hcs0
    have k20:=k2 0 _ rfl
    have k21:=k2 1 _ rfl
    have e1_ : k97.sz = 2:=rfl
    simp only [e1_,Int.toNat_zero,Nat.zero_mul,Nat.zero_add] at k20 k21 k1
    have FK1:=zA k1
    obtain ⟨f0_,hf0_⟩ : ∃ q,(zd'.getD 0 z97).f0 = q:=⟨_,rfl⟩
    obtain ⟨n0_,hn0_⟩ : ∃ q,(zd'.getD 0 z97).f1.length = q:=⟨_,rfl⟩
    rw [hf0_] at k20 FK1
    rw [hn0_] at k21 FK1
    clear k0 k1 k2 l0_ r0_ hf0_ hn0_
    have hfd : ∀ w : World,(Instr.field 46 (.agg #[.slice Au zh'.length cu,.slice (some ⟨gu,0,none⟩) zd'.length cv]) 1).run Try.prog w = .ok (.slice (some ⟨gu,0,none⟩) zd'.length cv) w:=fun _ => by kernel_rfl
    refine zu 5 80 ?_;refine zu 6 81 ?_
    refine one_ (i:=7) (N:=some 82) #[yt,yt,yt,yt,yt,yt,yt,yt,yf,yf,yf,yf] rfl rfl (by kernel_rfl) (by decide) (fun K hK => ?_)
    refine event_step (by rfl) (v:=.agg #[.int .i64 f0_,.slice A0_ n0_ c0_]) (w1:=w9) ?_ ?_
    ·first|(go_simp;done)|(go_simp;rfl)
    clear k20 k21
    refine hK.out _ _ ⟨(zP ST.out.b7 1).trans rfl,(zP ST.out.b5 0).trans rfl,(zP ST.out.b5 1).trans rfl⟩ (fun hHeld => ?_)
    clear hK K
    refine norm_ (a':=?_) ?_ ?_
    rotate_left
    ·show Act.put _ (some 82) _ = _;simp only [Act.put,zO,zEb,zFb,i64_w,i32_w];rfl
    refine one_ (i:=8) (N:=some 83) #[yt,yt,yt,yt,yt,yt,yt,yt,yt,yf,yf,yf] rfl rfl (by kernel_rfl) (by decide) (fun K hK => ?_)
    refine event_step (by rfl) (v:=.slice (some ⟨w9.heap.size,0,none⟩) 1 1) (w1:=w9.alloc (.cells #[.int .i64 f0_,.slice A0_ n0_ c0_] 97 (0,0))) ?_ ?_
    ·first|(go_simp;done)|(go_simp;rfl)
    refine hK.out _ _ ⟨(zP (zG ST.out.b7 _) 1).trans rfl,(zP (zG ST.out.b5 _) 0).trans rfl,(zP (zG ST.out.b5 _) 1).trans rfl⟩ (fun hHeld => ?_)
    clear hK K
    refine norm_ (a':=?_) ?_ ?_
    rotate_left
    ·show Act.put _ (some 83) _ = _;simp only [Act.put,zO,zEb,zFb,i64_w,i32_w];rfl
    refine last_ (i:=9) (N:=some 84) #[yt,yt,yt,yt,yt,yt,yt,yt,yt,yt,yf,yf] rfl rfl (by kernel_rfl) (by decide) (fun K hK => ?_)
    refine Kd.N_append_step k97 (w0:=w9) (W:=w9) w.heap.size (by rfl) (.tmp 76) (.tmp 83) 44 97 (.agg #[(.int .i64 0),(.slice none 0 0)]) 32 rfl huL info97 rfl (by decide) (by omega) (.slice Ab xd.length cb) xd (zd'.getD 0 z97 : S97) [.int .i64 f0_,.slice A0_ n0_ c0_] (okB w.heap.size (.slice Ah xh.length ch) g g6 g7) (fun k_ => wd.heap.size ≤ k_) rfl rfl ?aP (fun k_ hk_ => ⟨FR.out k_ hk_,fun e_ => by have h1_:=NL.out k_ e_.symm;omega⟩) ?aF NB.out (Below.refl _ _) ST.out.K.1 ?aL ?_
    case aP => exact Kd.FK_mono FK1.out (fun _ h_ => h_.1)
    case aF => exact fun k_ hk_ => FR.out k_ (Nat.le_trans WD9.out hk_)
    case aL => have:=HL.out;omega
    intro v9 w10 ho hb hg hat
    have GB:=zA (G_N (base':=0) ho)
    have n_:=zA (ST.out.grownN hg NB.out (Nat.le_refl _))
    clear ST
    have ST:=n_
    clear n_
    replace RH:=zA (zGb (Kd.R_grown (Kd.R_apart' RH.out (Kd.N_typed NB.out) (by decide)) hg (fun _ h_ => h_.2)) (ok':=fun _ => True) (fun _ _ => trivial))
    obtain ⟨A9,c9,rfl⟩:=Kd.G_slice GB.out
    clear ho hb hg hat NB
    refine hK.out _ _ ?_
    clear hK K hHeld
    refine norm_ (a':=?_) ?_ ?_
    rotate_left
    ·show Act.put _ (some 84) _ = _;simp only [Act.put,zO,zEb,zFb,i64_w,i32_w];rfl
    refine zu 10 85 ?_
    refine last_ (i:=11) (N:=none) #[yt,yt,yt,yt,yt,yt,yt,yt,yt,yt,yt,yt] rfl rfl (by kernel_rfl) (by decide) (fun K hK => ?_)
    have hq0 : w10.cell? ⟨g7,0,none⟩ = some (.slice Ah xh.length ch):=(zP ST.out.b7 0).trans rfl
    have hq1 : w10.cell? ⟨g7,1,none⟩ = some (.slice Ab xd.length cb):=(zP ST.out.b7 1).trans rfl
    have hf1:=blk_frozen ST.out.b7 1
    refine skip_ (w1:=w10.setCell ⟨g7,1,none⟩ (.slice A9 (xd ++ [zd'.getD 0 z97]).length c9)) (by rfl) rfl ?_ ?_
    ·go_simp;first|done|rfl
    clear hq0 hq1 hf1
    replace GB:=zA (ST.out.setG 1 (.slice A9 (xd ++ [zd'.getD 0 z97]).length c9) GB.out)
    replace RH:=zA (Kd.R_set RH.out ST.out.b7 (by decide) 1 (.slice A9 (xd ++ [zd'.getD 0 z97]).length c9))
    replace ST:=zA (ST.out.set 1 (.slice A9 (xd ++ [zd'.getD 0 z97]).length c9) rfl)
    generalize w10.setCell ⟨g7,1,none⟩ (.slice A9 (xd ++ [zd'.getD 0 z97]).length c9) = wz at ST RH GB ⊢
    refine hK.out _ _ ?_
    clear hK K
    try clear hHeld
    refine done_ (by kernel_rfl) ?_
    go_wp2
    go_meet
    case rel => exact ⟨.slice Ah xh.length ch,.slice A9 (xd ++ [zd'.getD 0 z97]).length c9,ST,RH,GB⟩
   ·
    rw [if_neg hl] at hx
    have l1b : decide ((xd.length : Int) < 4) = false:=decide_eq_false (by omega)
    have l1n : decide (xd.length < 4) = false:=decide_eq_false (by omega)
    simp only [Option.some.injEq,Prod.mk.injEq] at hx
    obtain ⟨rfl,rfl,rfl,rfl⟩:=hx
    have hq0 : w7.cell? ⟨g7,0,none⟩ = some (.slice Ah xh.length ch):=(zP ST.out.b7 0).trans rfl
    have hq1 : w7.cell? ⟨g7,1,none⟩ = some (.slice Ab xd.length cb):=(zP ST.out.b7 1).trans rfl
    have GB:=zA (G_N (base':=0) NB.out)
    go_wp2
    go_meet
    case rel => exact ⟨.slice Ah xh.length ch,.slice Ab xd.length cb,ST,RH,GB⟩
  have c5b : (y == 5) = false:=by simpa using c5
  rw [if_neg c5] at hx
  clear c5
  obtain ⟨⟨zh',zd',i3,h3⟩,a5,hx⟩:=Option.bind_eq_some_iff.1 hx
  try dsimp only at hx
  have T5:=zA a5
  clear a5
  simp only [Option.some.injEq,Prod.mk.injEq] at hx
  obtain ⟨rfl,rfl,rfl,rfl⟩:=hx
  have hs4 : w7.cell? ⟨g4,0,none⟩ = some (.slice A0 s.length c0):=(zP ST.out.b4 0).trans rfl
  go_wp2_with (first|(go_at_call 141;refine hold ?_))
  unfold Hold
  refine (spec_l4Query.calls k g c i1 h1 A0 c0 s zh' zd' i3 h3 w0 _ ST.out.I ST.out.B (Kd.F_now (Kd.F_keep FS.out ST.out.K OKA.out)) HC.out.1 (F_ne FS.out 0 (by decide) OKA.out) T5.out).mono ?_
  rintro e w8 ⟨uh,ub,rfl,ho0,ho1,hi,hb,hk⟩
  have UH:=zA (zHb ho0 ST.out.K.1)
  have US:=zA (zIb ho1 ST.out.K.1)
  replace ST:=zA (ST.out.keep hi hb hk)
  have UB:=zA (ST.out.N US.out (Nat.le_refl _))
  obtain ⟨Au,cu,rfl⟩:=Kd.R_slice UH.out
  obtain ⟨Av,cv,rfl⟩:=Kd.N_slice UB.out
  clear ho0 ho1 hi hb hk US RH NB hs4 T5
  have hy0 : w8.cell? ⟨g7,0,none⟩ = some (.slice Ah xh.length ch):=(zP ST.out.b7 0).trans rfl
  have hy1 : w8.cell? ⟨g7,1,none⟩ = some (.slice Ab xd.length cb):=(zP ST.out.b7 1).trans rfl
  have hf0:=blk_frozen ST.out.b7 0
  have hf1:=blk_frozen ST.out.b7 1
  go_wp2_with (first|((with_reducible refine gate_store (t:=46) (p:=7) rfl ?_);refine hold ?_))
  unfold Hold
  refine store_event (t:=46) (p:=7) (v:=?vo3) (w1:=(w8.setCell ⟨g7,0,none⟩ (.slice Au zh'.length cu)).setCell ⟨g7,1,none⟩ (.slice Av zd'.length cv)) ?hgs3 ?hos3 ?hns3 ?hrs3 ?_
  case hos3 => rfl
  case hgs3 => rfl
  case hns3 => rfl
  case hrs3 => first|(go_simp;done)|(go_simp;rfl)
  intro wz hw
  have n_:=zA (StN.putR ST.out (.slice Au zh'.length cu) (.slice Av zd'.length cv) UH.out)
  rw [← hw] at n_
  clear UH
  have UH:=n_
  clear n_
  have n_:=zA (StN.putN ST.out (.slice Au zh'.length cu) (.slice Av zd'.length cv) UB.out)
  rw [← hw] at n_
  clear UB
  have UB:=n_
  clear n_
  have n_:=zA (ST.out.put (.slice Au zh'.length cu) (.slice Av zd'.length cv))
  rw [← hw] at n_
  clear ST
  have ST:=n_
  clear n_ hw hy0 hy1 hf0 hf1
  have GB:=zA (G_N (base':=0) UB.out)
  go_wp2
  go_meet
  case rel => exact ⟨.slice Au zh'.length cu,.slice Av zd'.length cv,ST,UH,GB⟩
 case rest =>
  clear RH NB ST
  obtain ⟨vh,vb,ST,RH,GB⟩:=hcut
  obtain ⟨Au,cu,rfl⟩:=Kd.R_slice RH.out
  obtain ⟨Av,cv,rfl⟩:=Kd.G_slice GB.out
  have hs4 : wc.cell? ⟨g4,0,none⟩ = some (.slice A0 s.length c0):=(zP ST.out.b4 0).trans rfl
  have hq0 : wc.cell? ⟨g7,0,none⟩ = some (.slice Au zh.length cu):=(zP ST.out.b7 0).trans rfl
  have hq1 : wc.cell? ⟨g7,1,none⟩ = some (.slice Av zd.length cv):=(zP ST.out.b7 1).trans rfl
  go_wp2_with (first|(go_at_call 101;refine hold ?_))
  unfold Hold
  refine (spec_IsQuery.calls k A0 c0 s Au cu zh Av cv zd b _ (Kd.F_now (Kd.F_keep FS.out ST.out.K OKA.out)) HC.out.1 (Kd.R_reads' RH.out).2.2 (Kd.R_reads' RH.out).2.1 (Kd.G_reads' GB.out).2.2 (Kd.G_reads' GB.out).2.1 T4.out).mono ?_
  rintro e w8 ⟨rfl,hb⟩
  replace RH:=zA (zZ RH.out hb)
  replace GB:=zA (Kd.G_below GB.out hb)
  replace ST:=zA (ST.out.below hb)
  clear hb hs4 hq0 hq1 T1 T2 T3 T4
  have hh:=HH.out
  clear HH
  cases b
  ·
   simp only [Bool.false_eq_true,if_false] at hh
   obtain ⟨⟨zh',zd'⟩,a1,hh⟩:=Option.bind_eq_some_iff.1 hh
   try dsimp only at hh
   simp only [Option.some.injEq,Prod.mk.injEq] at hh
   obtain ⟨rfl,rfl,rfl,rfl⟩:=hh
   have T1:=zA a1
   clear a1
   have hx0 : w8.cell? ⟨g5,0,none⟩ = some (.slice A1 qh.length c1):=(zP ST.out.b5 0).trans rfl
   have hx1 : w8.cell? ⟨g5,1,none⟩ = some (.slice A2 qd.length c2):=(zP ST.out.b5 1).trans rfl
   go_wp2_with (first|(go_at_call 157;refine hold ?_))
   unfold Hold
   refine (spec_l4Copy.calls k A1 c1 qh A2 c2 qd zh' zd' _ (Kd.F_now (Kd.F_keep FH.out ST.out.K OKA.out)) HC.out.2.1 (Kd.F_now (Kd.F_keep FD.out ST.out.K OKA.out)) HC.out.2.2 T1.out).mono ?_
   rintro e w9 ⟨uh,ub,rfl,ho0,ho1,hb⟩
   have UH:=zA (zHb ho0 ST.out.K.1)
   have US:=zA (zIb ho1 ST.out.K.1)
   replace ST:=zA (ST.out.below hb)
   have UB:=zA (ST.out.G US.out (Nat.le_refl _))
   obtain ⟨Aw,cw,rfl⟩:=Kd.R_slice UH.out
   obtain ⟨Ax,cx,rfl⟩:=Kd.G_slice UB.out
   clear ho0 ho1 hb US RH GB hx0 hx1 T1
   have hy0 : w9.cell? ⟨g6,0,none⟩ = some (.slice none 0 0):=(zP ST.out.b6 0).trans rfl
   have hy1 : w9.cell? ⟨g6,1,none⟩ = some (.slice none 0 0):=(zP ST.out.b6 1).trans rfl
   have hf0:=blk_frozen ST.out.b6 0
   have hf1:=blk_frozen ST.out.b6 1
   go_wp2_with (first|((with_reducible refine gate_store (t:=46) (p:=6) rfl ?_);refine hold ?_))
   unfold Hold
   refine store_event (t:=46) (p:=6) (v:=?vz4) (w1:=(w9.setCell ⟨g6,0,none⟩ (.slice Aw zh'.length cw)).setCell ⟨g6,1,none⟩ (.slice Ax zd'.length cx)) ?hgz4 ?hoz4 ?hnz4 ?hrz4 ?_
   case hoz4 => rfl
   case hgz4 => rfl
   case hnz4 => rfl
   case hrz4 => first|(go_simp;done)|(go_simp;rfl)
   intro wz hw
   have ZZ:=zA (ST.out.res (.slice Aw zh'.length cw) (.slice Ax zd'.length cx) hw)
   have ZR:=zA (ST.out.resR (.slice Aw zh'.length cw) (.slice Ax zd'.length cx) hw UH.out)
   have ZG:=zA (ST.out.resG (.slice Aw zh'.length cw) (.slice Ax zd'.length cx) hw UB.out)
   clear hw hy0 hy1 hf0 hf1 ST UH UB
   go_wp2
   refine bodyPost_ret (results_cell_row rfl _ _ g6 46 #[.slice Aw zh'.length cw,.slice Ax zd'.length cx] (0,0) _ rfl ZZ.out.1 Try.underlying46 rfl (by kernel_rfl)) rfl ?_
   exact ⟨_,_,rfl,ZR.out,ZG.out,ZZ.out.2.1,ZZ.out.2.2.1,ZZ.out.2.2.2⟩
  ·
   simp only [if_true,Option.some.injEq,Prod.mk.injEq] at hh
   obtain ⟨rfl,rfl,rfl,rfl⟩:=hh
   have hq0 : w8.cell? ⟨g7,0,none⟩ = some (.slice Au zh.length cu):=(zP ST.out.b7 0).trans rfl
   have hq1 : w8.cell? ⟨g7,1,none⟩ = some (.slice Av zd.length cv):=(zP ST.out.b7 1).trans rfl
   have hy0 : w8.cell? ⟨g6,0,none⟩ = some (.slice none 0 0):=(zP ST.out.b6 0).trans rfl
   have hy1 : w8.cell? ⟨g6,1,none⟩ = some (.slice none 0 0):=(zP ST.out.b6 1).trans rfl
   have hf0:=blk_frozen ST.out.b6 0
   have hf1:=blk_frozen ST.out.b6 1
   go_wp2_with (first|((with_reducible refine gate_store (t:=46) (p:=6) rfl ?_);refine hold ?_))
   unfold Hold
   refine store_event (t:=46) (p:=6) (v:=?vz5) (w1:=(w8.setCell ⟨g6,0,none⟩ (.slice Au zh.length cu)).setCell ⟨g6,1,none⟩ (.slice Av zd.length cv)) ?hgz5 ?hoz5 ?hnz5 ?hrz5 ?_
   case hoz5 => rfl
   case hgz5 => rfl
   case hnz5 => rfl
   case hrz5 => first|(go_simp;done)|(go_simp;rfl)
   intro wz hw
   have ZZ:=zA (ST.out.res (.slice Au zh.length cu) (.slice Av zd.length cv) hw)
   have ZR:=zA (ST.out.resR (.slice Au zh.length cu) (.slice Av zd.length cv) hw RH.out)
   have ZG:=zA (ST.out.resG (.slice Au zh.length cu) (.slice Av zd.length cv) hw GB.out)
   clear hw hy0 hy1 hf0 hf1 ST RH GB
   go_wp2
   refine bodyPost_ret (results_cell_row rfl _ _ g6 46 #[.slice Au zh.length cu,.slice Av zd.length cv] (0,0) _ rfl ZZ.out.1 Try.underlying46 rfl (by kernel_rfl)) rfl ?_
   exact ⟨_,_,rfl,ZR.out,ZG.out,ZZ.out.2.1,ZZ.out.2.2.1,ZZ.out.2.2.2⟩

structure StQ (w0 ws : World) (g : Nat) (c : List Int) (g2 g3 g4 g5 g6 : Nat) (vs ah ab : Value) (s al : List Int) (ad : List S97) (ok : Nat → Prop) (i h : Int) (W : World) : Prop where
 I : IsS121 w0 W g c i h
 B : Below w0.heap.size w0 W
 K : KeepBut ws W g none
 b2 : W.heap[g2]? = some (.cells #[.slice none 0 0] 65 (0,0))
 b3 : W.heap[g3]? = some (.cells #[.slice none 0 0,.slice none 0 0] 46 (0,0))
 b4 : W.heap[g4]? = some (.cells #[.slice none 0 0,.slice none 0 0] 46 (0,0))
 b5 : W.heap[g5]? = some (.cells #[vs] 65 (0,0))
 b6 : W.heap[g6]? = some (.cells #[ah,ab] 46 (0,0))
 e0 : w0.heap.size ≤ ws.heap.size
 eg : g < ws.heap.size
 e2 : ws.heap.size ≤ g2
 e3 : ws.heap.size ≤ g3
 e4 : ws.heap.size ≤ g4
 e5 : ws.heap.size ≤ g5
 n : g2 ≠ g5 ∧ g3 ≠ g4 ∧ g3 ≠ g6 ∧ g4 ≠ g6
 gs : Kd.G (Kd.int .i64) 3 W 0 ok vs s
 ga : Kd.G (Kd.int .i64) 3 W 0 ok ah al
 gd : Kd.G k97 97 W 0 ok ab ad
 okk : ∀ k,ok k → ws.heap.size ≤ k ∧ k ≠ g2 ∧ k ≠ g3 ∧ k ≠ g4 ∧ k ≠ g5 ∧ k ≠ g6
def offQ (n g2 g3 g4 g5 g6 k : Nat) : Prop := n ≤ k ∧ k ≠ g2 ∧ k ≠ g3 ∧ k ≠ g4 ∧ k ≠ g5 ∧ k ≠ g6
def okP (n : Nat) (u : Value) (g2 g3 g4 g5 g6 g7 k : Nat) : Prop := offQ n g2 g3 g4 g5 g6 k ∧ some k ≠ u.ownBlock ∧ k ≠ g7
section
variable {w0 ws W W1 : World} {g g2 g3 g4 g5 g6 g7 : Nat} {c s al : List Int} {vs ah ab : Value} {ad : List S97} {ok ok' : Nat → Prop} {i h i' h' : Int}
theorem StQ.below (st : StQ w0 ws g c g2 g3 g4 g5 g6 vs ah ab s al ad ok i h W) (hb : Below W.heap.size W W1) : StQ w0 ws g c g2 g3 g4 g5 g6 vs ah ab s al ad ok i h W1 :=
 ⟨IsS121.below st.I hb,zJb st.B hb,st.K.trans (KeepBut.of_below hb g none) (.inl rfl),zQ st.b2 hb,zQ st.b3 hb,zQ st.b4 hb,zQ st.b5 hb,zQ st.b6 hb,st.e0,st.eg,st.e2,st.e3,st.e4,st.e5,st.n,Kd.G_below st.gs hb,Kd.G_below st.ga hb,Kd.G_below st.gd hb,st.okk⟩
theorem StQ.keep (st : StQ w0 ws g c g2 g3 g4 g5 g6 vs ah ab s al ad ok i h W) (hi : IsS121 w0 W1 g c i' h') (hb : Below w0.heap.size w0 W1) (hk : KeepBut W W1 g none) : StQ w0 ws g c g2 g3 g4 g5 g6 vs ah ab s al ad ok i' h' W1 := by
 have ho : ∀ k,ok k → k ≠ g:=fun k hk2 e => by have:=(st.okk k hk2).1;have:=st.eg;omega
 exact ⟨hi,hb,st.K.trans hk (.inl rfl),KeepBut.blk hk st.b2 (Ne.symm (IsS121.ne_blk st.I st.b2 (by decide))) (by simp),KeepBut.blk hk st.b3 (Ne.symm (IsS121.ne_blk st.I st.b3 (by decide))) (by simp),KeepBut.blk hk st.b4 (Ne.symm (IsS121.ne_blk st.I st.b4 (by decide))) (by simp),KeepBut.blk hk st.b5 (Ne.symm (IsS121.ne_blk st.I st.b5 (by decide))) (by simp),KeepBut.blk hk st.b6 (Ne.symm (IsS121.ne_blk st.I st.b6 (by decide))) (by simp),st.e0,st.eg,st.e2,st.e3,st.e4,st.e5,st.n,Kd.G_keep st.gs hk ho,Kd.G_keep st.ga hk ho,Kd.G_keep st.gd hk ho,st.okk⟩
theorem StQ.mono (st : StQ w0 ws g c g2 g3 g4 g5 g6 vs ah ab s al ad ok i h W) (h1 : ∀ k, ok k → k < W.heap.size → ok' k) (h2 : ∀ k, ok' k → offQ ws.heap.size g2 g3 g4 g5 g6 k) : StQ w0 ws g c g2 g3 g4 g5 g6 vs ah ab s al ad ok' i h W :=
 ⟨st.I,st.B,st.K,st.b2,st.b3,st.b4,st.b5,st.b6,st.e0,st.eg,st.e2,st.e3,st.e4,st.e5,st.n,Kd.G_mono (Kd.G_bound st.gs) (fun k hk => h1 k hk.1 hk.2),Kd.G_mono (Kd.G_bound st.ga) (fun k hk => h1 k hk.1 hk.2),Kd.G_mono (Kd.G_bound st.gd) (fun k hk => h1 k hk.1 hk.2),h2⟩
theorem StQ.far (st : StQ w0 ws g c g2 g3 g4 g5 g6 vs ah ab s al ad ok i h W) {cs : Array Value} (hb : W.heap[g7]? = some (.cells cs 46 (0, 0))) (he : ws.heap.size ≤ g7) (hn : g3 ≠ g7 ∧ g4 ≠ g7 ∧ g6 ≠ g7) (ho : ∀ k, ok k → k ≠ g7) (j : Nat) (u : Value) : StQ w0 ws g c g2 g3 g4 g5 g6 vs ah ab s al ad ok i h (W.setCell ⟨g7, j, none⟩ u) :=
 ⟨IsS121.far st.I (p:=⟨g7,j,none⟩) (IsS121.ne_blk st.I hb (by decide)) u,zB st.B (Nat.le_trans st.e0 he),keep_far st.K he _,zUb st.b2 (p:=⟨g7,j,none⟩) (blk_ne st.b2 hb (by decide)) _,zUb st.b3 (p:=⟨g7,j,none⟩) hn.1 _,zUb st.b4 (p:=⟨g7,j,none⟩) hn.2.1 _,zUb st.b5 (p:=⟨g7,j,none⟩) (blk_ne st.b5 hb (by decide)) _,zUb st.b6 (p:=⟨g7,j,none⟩) hn.2.2 _,st.e0,st.eg,st.e2,st.e3,st.e4,st.e5,st.n,Kd.G_far st.gs (p:=⟨g7,j,none⟩) ho _,Kd.G_far st.ga (p:=⟨g7,j,none⟩) ho _,Kd.G_far st.gd (p:=⟨g7,j,none⟩) ho _,st.okk⟩
theorem StQ.grown (st : StQ w0 ws g c g2 g3 g4 g5 g6 vs ah ab s al ad ok i h W) {b : Nat} {okr : Nat → Prop} {u : Value} {l : List Int} (hr : Kd.R (Kd.int .i64) 3 W b okr u l) (hb : ws.heap.size ≤ b) (hg : W.grownBy W1 u.ownBlock) (ho : ∀ k, ok k → some k ≠ u.ownBlock) : StQ w0 ws g c g2 g3 g4 g5 g6 vs ah ab s al ad ok i h W1 :=
 ⟨IsS121.grown st.I hg (IsS121.own_ne st.I hr (by decide)),st.B.grown hg st.B.size (fun k hk => Nat.le_trans st.e0 (Nat.le_trans hb (zW hr k hk))),st.K.trans (KeepBut.of_grown hg g) (by cases e : u.ownBlock with|none => exact .inl rfl|some q => exact .inr ⟨q,rfl,Nat.le_trans hb (zW hr q e)⟩),
  blk_grown st.b2 hg (Kd.R_ne hr st.b2 (by decide)),blk_grown st.b3 hg (Kd.R_ne hr st.b3 (by decide)),blk_grown st.b4 hg (Kd.R_ne hr st.b4 (by decide)),blk_grown st.b5 hg (Kd.R_ne hr st.b5 (by decide)),blk_grown st.b6 hg (Kd.R_ne hr st.b6 (by decide)),st.e0,st.eg,st.e2,st.e3,st.e4,st.e5,st.n,
  Kd.G_step st.gs (fun k hk hlt => hg.block k hlt (ho k hk)),Kd.G_step st.ga (fun k hk hlt => hg.block k hlt (ho k hk)),Kd.G_step st.gd (fun k hk hlt => hg.block k hlt (ho k hk)),st.okk⟩
theorem okQ_R (b2 : W.heap[g2]? = some (.cells #[.slice none 0 0] 65 (0, 0))) {x3 x4 x5 x6 : Array Value} (b3 : W.heap[g3]? = some (.cells x3 46 (0, 0))) (b4 : W.heap[g4]? = some (.cells x4 46 (0, 0))) (b5 : W.heap[g5]? = some (.cells x5 65 (0, 0))) (b6 : W.heap[g6]? = some (.cells x6 46 (0, 0))) {n : Nat} {okr : Nat → Prop} {v : Value} {l : List Int} (hr : Kd.R (Kd.int .i64) 3 W n okr v l) : Kd.G (Kd.int .i64) 3 W 0 (offQ n g2 g3 g4 g5 g6) v l :=
 Kd.G_mono (Kd.G_R (base':=0) (Kd.R_bound (Kd.R_types (Kd.R_types (Kd.R_types (Kd.R_types (Kd.R_types hr b2 (by decide)) b3 (by decide)) b4 (by decide)) b5 (by decide)) b6 (by decide)))) (fun k hk => ⟨hk.2.1,hk.1.1.1.1.1.2,hk.1.1.1.1.2,hk.1.1.1.2,hk.1.1.2,hk.1.2⟩)
theorem okQ_S (b2 : W.heap[g2]? = some (.cells #[.slice none 0 0] 65 (0, 0))) {x3 x4 x5 x6 : Array Value} (b3 : W.heap[g3]? = some (.cells x3 46 (0, 0))) (b4 : W.heap[g4]? = some (.cells x4 46 (0, 0))) (b5 : W.heap[g5]? = some (.cells x5 65 (0, 0))) (b6 : W.heap[g6]? = some (.cells x6 46 (0, 0))) {n : Nat} {okr : Nat → Prop} {v : Value} {l : List S97} (hr : Kd.S k97 97 W n okr v l) : Kd.G k97 97 W 0 (offQ n g2 g3 g4 g5 g6) v l :=
 Kd.G_mono (Kd.G_S (base':=0) (Kd.S_bound (Kd.S_types (Kd.S_types (Kd.S_types (Kd.S_types (Kd.S_types hr b2 (by decide)) b3 (by decide)) b4 (by decide)) b5 (by decide)) b6 (by decide)))) (fun k hk => ⟨hk.2.1,hk.1.1.1.1.1.2,hk.1.1.1.1.2,hk.1.1.1.2,hk.1.1.2,hk.1.2⟩)
end
structure StP (w0 ws : World) (g : Nat) (c : List Int) (g2 g3 g4 g5 g6 g7 : Nat) (vs ah ab bh bb : Value) (s al : List Int) (ad : List S97) (bl : List Int) (bd : List S97) (i h : Int) (W : World) : Prop where
 q : StQ w0 ws g c g2 g3 g4 g5 g6 vs ah ab s al ad (okP ws.heap.size bh g2 g3 g4 g5 g6 g7) i h W
 b7 : W.heap[g7]? = some (.cells #[bh,bb] 46 (0,0))
 e7 : ws.heap.size ≤ g7
 n7 : g3 ≠ g7 ∧ g4 ≠ g7 ∧ g6 ≠ g7
 rb : Kd.R (Kd.int .i64) 3 W ws.heap.size (fun _ => True) bh bl
 gb : Kd.G k97 97 W 0 (okP ws.heap.size bh g2 g3 g4 g5 g6 g7) bb bd
section
variable {w0 ws W W1 : World} {g g2 g3 g4 g5 g6 g7 : Nat} {c s al bl : List Int} {vs ah ab bh bb : Value} {ad bd : List S97} {i h i' h' : Int}
theorem StP.below (st : StP w0 ws g c g2 g3 g4 g5 g6 g7 vs ah ab bh bb s al ad bl bd i h W) (hb : Below W.heap.size W W1) : StP w0 ws g c g2 g3 g4 g5 g6 g7 vs ah ab bh bb s al ad bl bd i h W1 :=
 ⟨st.q.below hb,zQ st.b7 hb,st.e7,st.n7,zZ st.rb hb,Kd.G_below st.gb hb⟩
theorem StP.keep (st : StP w0 ws g c g2 g3 g4 g5 g6 g7 vs ah ab bh bb s al ad bl bd i h W) (hi : IsS121 w0 W1 g c i' h') (hb : Below w0.heap.size w0 W1) (hk : KeepBut W W1 g none) : StP w0 ws g c g2 g3 g4 g5 g6 g7 vs ah ab bh bb s al ad bl bd i' h' W1 :=
 ⟨st.q.keep hi hb hk,KeepBut.blk hk st.b7 (Ne.symm (IsS121.ne_blk st.q.I st.b7 (by decide))) (by simp),st.e7,st.n7,zGb (Kd.R_keep (IsS121.apart st.q.I st.rb (by decide)) hk (fun _ h_ => h_.2)) (fun _ h_ => h_.1),Kd.G_keep st.gb hk (fun k hk2 e => by have:=hk2.1.1;have:=st.q.eg;omega)⟩
theorem StP.lt (st : StP w0 ws g c g2 g3 g4 g5 g6 g7 vs ah ab bh bb s al ad bl bd i h W) : ∀ k, W.heap.size ≤ k → okP ws.heap.size bh g2 g3 g4 g5 g6 g7 k := by
 intro k hk
 have h2:=blk_lt st.q.b2
 have h3:=blk_lt st.q.b3
 have h4:=blk_lt st.q.b4
 have h5:=blk_lt st.q.b5
 have h6:=blk_lt st.q.b6
 have h7:=blk_lt st.b7
 have hK:=st.q.K.1
 refine ⟨⟨by omega,by omega,by omega,by omega,by omega,by omega⟩,fun e => ?_,by omega⟩
 have:=(Kd.R_bound st.rb).1 k e.symm
 omega
theorem StQ.second {ok : Nat → Prop} (st : StQ w0 ws g c g2 g3 g4 g5 g6 vs ah ab s al ad ok i h W1) {W0 : World} {cs : Array Value} {u v : Value} {l : List Int} {d : List S97} {b : Nat} (hs : W0.heap.size ≤ b) (hws : ws.heap.size ≤ W0.heap.size) (hok : ∀ k, ok k → k < W0.heap.size ∧ k ≠ g7) (hb : W1.heap[g7]? = some (.cells cs 46 (0, 0))) (he : ws.heap.size ≤ g7) (hn : g3 ≠ g7 ∧ g4 ≠ g7 ∧ g6 ≠ g7) (hlt : g2 < W0.heap.size ∧ g3 < W0.heap.size ∧ g4 < W0.heap.size ∧ g5 < W0.heap.size ∧ g6 < W0.heap.size)
  (hc : (cs.setIfInBounds 0 u).setIfInBounds 1 v = #[u,v]) (hr : Kd.R (Kd.int .i64) 3 W1 b (fun _ => True) u l) (hg : Kd.G k97 97 W1 0 (fun k_ => some k_ ≠ u.ownBlock ∧ W0.heap.size ≤ k_ ∧ k_ ≠ g7) v d) :
  StP w0 ws g c g2 g3 g4 g5 g6 g7 vs ah ab u v s al ad l d i h ((W1.setCell ⟨g7,0,none⟩ u).setCell ⟨g7,1,none⟩ v):=by
 have k1:=st.far hb he hn (fun k hk => (hok k hk).2) 0 u
 have hb1:=blk_set hb 0 u
 have k2:=k1.far hb1 he hn (fun k hk => (hok k hk).2) 1 v
 have hb2:=blk_set hb1 1 v
 refine ⟨k2.mono (fun k hk _ => ⟨⟨(st.okk k hk).1,(st.okk k hk).2⟩,fun e => ?_,(hok k hk).2⟩) (fun k hk => hk.1),by rw [hb2,hc],he,hn,zHb (Kd.R_set (Kd.R_set hr hb (by decide) 0 _) hb1 (by decide) 1 _) (Nat.le_trans hws hs),?_⟩
 ·have h1:=zW hr k e.symm
  have:=(hok k hk).1
  omega
 ·refine Kd.G_mono (Kd.G_far (Kd.G_far hg (p:=⟨g7,0,none⟩) (fun k hk => hk.2.2) u) (p:=⟨g7,1,none⟩) (fun k hk => hk.2.2) v) (fun k hk => ⟨⟨by have:=hk.2.1;omega,?_,?_,?_,?_,?_⟩,hk.1,hk.2.2⟩) <;> (have:=hk.2.1;omega)
theorem StP.headed (st : StP w0 ws g c g2 g3 g4 g5 g6 g7 vs ah ab bh bb s al ad bl bd i h W) {u : Value} {l : List Int} (ho : Kd.R (Kd.int .i64) 3 W1 ws.heap.size (fun _ => True) u l) (hg : W.grownBy W1 bh.ownBlock) (hat : u.ownBlock = bh.ownBlock ∨ ∃ b, u.ownBlock = some b ∧ W.heap.size ≤ b) :
  StP w0 ws g c g2 g3 g4 g5 g6 g7 vs ah ab u bb s al ad l bd i h (W1.setCell ⟨g7,0,none⟩ u):=by
 have hx : ∀ k,okP ws.heap.size bh g2 g3 g4 g5 g6 g7 k → k < W.heap.size → some k ≠ u.ownBlock:=by
  intro k hk hlt e
  rcases hat with h1|⟨b,h1,h2⟩
  ·rw [h1] at e;exact hk.2.1 e
  ·rw [h1] at e;injection e with e;omega
 have q1:=(st.q.mono (ok':=fun k => okP ws.heap.size bh g2 g3 g4 g5 g6 g7 k ∧ k < W.heap.size) (fun k a b => ⟨a,b⟩) (fun k a => a.1.1)).grown st.rb (Nat.le_refl _) hg (fun k a => a.1.2.1)
 have hb:=blk_grown st.b7 hg (Kd.R_ne st.rb st.b7 (by decide))
 have q2:=q1.far hb st.e7 st.n7 (fun k a => a.1.2.2) 0 u
 refine ⟨q2.mono (fun k a _ => ⟨a.1.1,hx k a.1 a.2,a.1.2.2⟩) (fun k a => a.1),blk_put hb 0 u rfl,st.e7,st.n7,Kd.R_set ho hb (by decide) 0 _,?_⟩
 exact Kd.G_mono (Kd.G_far (Kd.G_step (Kd.G_bound st.gb) (fun k a b => hg.block k b a.1.2.1)) (p:=⟨g7,0,none⟩) (fun k a => a.1.2.2) u) (fun k a => ⟨a.1.1,hx k a.1 a.2,a.1.2.2⟩)
theorem StP.schema (st : StP w0 ws g c g2 g3 g4 g5 g6 g7 vs ah ab bh bb s al ad bl bd i h W) (hi : IsS121 w0 W1 g c i' h') (hb : Below w0.heap.size w0 W1) (hk : KeepBut W W1 g none) {u : Value} {l : List Int} (hr : Kd.R (Kd.int .i64) 3 W1 W.heap.size (fun _ => True) u l) :
  StP w0 ws g c g2 g3 g4 g5 g6 g7 u ah ab bh bb l al ad bl bd i' h' (W1.setCell ⟨g5,0,none⟩ u):=by
 have k1:=st.keep hi hb hk
 have hf:=st.lt
 have ho : ∀ k,okP ws.heap.size bh g2 g3 g4 g5 g6 g7 k → k ≠ (⟨g5,0,none⟩ : Addr).block:=fun k a => a.1.2.2.2.2.1
 have n5 : ∀ {x : Nat} {cs : Array Value},W1.heap[x]? = some (.cells cs 46 (0,0)) → x ≠ (⟨g5,0,none⟩ : Addr).block:=fun hx => Ne.symm (blk_ne k1.q.b5 hx (by decide))
 refine ⟨⟨IsS121.far k1.q.I (p:=⟨g5,0,none⟩) (IsS121.ne_blk k1.q.I k1.q.b5 (by decide)) u,zB k1.q.B (Nat.le_trans st.q.e0 st.q.e5),keep_far k1.q.K st.q.e5 _,zUb k1.q.b2 (p:=⟨g5,0,none⟩) st.q.n.1 _,zUb k1.q.b3 (n5 k1.q.b3) _,zUb k1.q.b4 (n5 k1.q.b4) _,blk_put k1.q.b5 0 u rfl,zUb k1.q.b6 (n5 k1.q.b6) _,st.q.e0,st.q.eg,st.q.e2,st.q.e3,st.q.e4,st.q.e5,st.q.n,?_,Kd.G_far k1.q.ga ho _,Kd.G_far k1.q.gd ho _,st.q.okk⟩,zUb k1.b7 (n5 k1.b7) _,st.e7,st.n7,Kd.R_set k1.rb k1.q.b5 (by decide) 0 _,Kd.G_far k1.gb ho _⟩
 exact Kd.G_far (Kd.G_mono (Kd.G_R (base':=0) (Kd.R_bound hr)) (fun k a => hf k a.2.1)) ho _
theorem StP.fin (st : StP w0 ws g c g2 g3 g4 g5 g6 g7 vs ah ab bh bb s al ad bl bd i h W) (x0 x1 y0 y1 : Value) {W1 W2 : World} (h1 : W1 = W.setCell ⟨g2, 0, none⟩ vs) (h2 : W2 = (W1.setCell ⟨g3, 0, none⟩ x0).setCell ⟨g3, 1, none⟩ x1) {W3 : World} (h3 : W3 = (W2.setCell ⟨g4, 0, none⟩ y0).setCell ⟨g4, 1, none⟩ y1) :
  (W3.heap[g2]? = some (.cells #[vs] 65 (0,0)) ∧ W3.heap[g3]? = some (.cells #[x0,x1] 46 (0,0)) ∧ W3.heap[g4]? = some (.cells #[y0,y1] 46 (0,0))) ∧ IsS121 w0 W3 g c i h ∧ Below w0.heap.size w0 W3 ∧ KeepBut ws W3 g none ∧ (∀ k,k ≠ g2 ∧ k ≠ g3 ∧ k ≠ g4 → W3.heap[k]? = W.heap[k]?):=by
 subst h1
 subst h2
 subst h3
 have i2 : g ≠ g2:=IsS121.ne_blk st.q.I st.q.b2 (by decide)
 have i3 : g ≠ g3:=IsS121.ne_blk st.q.I st.q.b3 (by decide)
 have i4 : g ≠ g4:=IsS121.ne_blk st.q.I st.q.b4 (by decide)
 have n23 : g2 ≠ g3:=blk_ne st.q.b2 st.q.b3 (by decide)
 have n24 : g2 ≠ g4:=blk_ne st.q.b2 st.q.b4 (by decide)
 have n34:=st.q.n.2.1
 have E2:=Nat.le_trans st.q.e0 st.q.e2
 have E3:=Nat.le_trans st.q.e0 st.q.e3
 have E4:=Nat.le_trans st.q.e0 st.q.e4
 refine ⟨⟨?_,?_,?_⟩,?_,?_,?_,fun k hk => ?_⟩
 ·exact zUb (zUb (zUb (zUb (blk_put st.q.b2 0 vs rfl) (p:=⟨g3,0,none⟩) n23 _) (p:=⟨g3,1,none⟩) n23 _) (p:=⟨g4,0,none⟩) n24 _) (p:=⟨g4,1,none⟩) n24 _
 ·exact zUb (zUb (blk_put (cs:=#[x0,.slice none 0 0]) (blk_put (zUb st.q.b3 (p:=⟨g2,0,none⟩) (Ne.symm n23) _) 0 x0 rfl) 1 x1 rfl) (p:=⟨g4,0,none⟩) n34 _) (p:=⟨g4,1,none⟩) n34 _
 ·exact blk_put (cs:=#[y0,.slice none 0 0]) (blk_put (zUb (zUb (zUb st.q.b4 (p:=⟨g2,0,none⟩) (Ne.symm n24) _) (p:=⟨g3,0,none⟩) (Ne.symm n34) _) (p:=⟨g3,1,none⟩) (Ne.symm n34) _) 0 y0 rfl) 1 y1 rfl
 ·exact IsS121.far (IsS121.far (IsS121.far (IsS121.far (IsS121.far st.q.I (p:=⟨g2,0,none⟩) i2 _) (p:=⟨g3,0,none⟩) i3 _) (p:=⟨g3,1,none⟩) i3 _) (p:=⟨g4,0,none⟩) i4 _) (p:=⟨g4,1,none⟩) i4 _
 ·exact zB (zB (zB (zB (zB st.q.B E2) E3) E3) E4) E4
 ·exact keep_far (keep_far (keep_far (keep_far (keep_far st.q.K st.q.e2 _) st.q.e3 _) st.q.e3 _) st.q.e4 _) st.q.e4 _
 ·exact (Below.heap_setCell _ ⟨g4,1,none⟩ _ k hk.2.2).trans ((Below.heap_setCell _ ⟨g4,0,none⟩ _ k hk.2.2).trans ((Below.heap_setCell _ ⟨g3,1,none⟩ _ k hk.2.1).trans ((Below.heap_setCell _ ⟨g3,0,none⟩ _ k hk.2.1).trans (Below.heap_setCell _ ⟨g2,0,none⟩ _ k hk.1))))
theorem StP.mid (st : StP w0 ws g c g2 g3 g4 g5 g6 g7 vs ah ab bh bb s al ad bl bd i h W) (x0 x1 : Value) {W1 W2 : World} (h1 : W1 = W.setCell ⟨g2, 0, none⟩ vs) (h2 : W2 = (W1.setCell ⟨g3, 0, none⟩ x0).setCell ⟨g3, 1, none⟩ x1) : ∀ b, b = g5 ∨ b = g6 ∨ b = g7 → W1.heap[b]? = W.heap[b]? ∧ W2.heap[b]? = W.heap[b]? := by
 subst h1
 subst h2
 intro b hb
 have n2 : b ≠ g2:=by
  rcases hb with e|e|e <;> subst e
  ·exact Ne.symm st.q.n.1
  ·exact Ne.symm (blk_ne st.q.b2 st.q.b6 (by decide))
  ·exact Ne.symm (blk_ne st.q.b2 st.b7 (by decide))
 have n3 : b ≠ g3:=by
  rcases hb with e|e|e <;> subst e
  ·exact blk_ne st.q.b5 st.q.b3 (by decide)
  ·exact Ne.symm st.q.n.2.2.1
  ·exact Ne.symm st.n7.1
 have h1:=Below.heap_setCell W ⟨g2,0,none⟩ vs b n2
 exact ⟨h1,(Below.heap_setCell _ ⟨g3,1,none⟩ x1 b n3).trans ((Below.heap_setCell _ ⟨g3,0,none⟩ x0 b n3).trans h1)⟩
end

set_option maxHeartbeats 8000000 in
set_option maxRecDepth 100000 in
theorem l7Pair_walk (k g : Nat) (c : List Int) (i h : Int) (r1 r2 : List Int) (r3 : List S97) (r4 : List Int) (r5 : List S97) (r6 r7 : Int) (w0 w : World) (hI : IsS121 w0 w g c i h) (hB : Below w0.heap.size w0 w) (hh : pair_f k c i h = some (r1, r2, r3, r4, r5, r6, r7)) :
  Calls Try.prog 107 #[.pointer (some ⟨g, 0, none⟩)] w fun e w' => ∃ v0 v1 v2 v3 v4 : Value, e = .returned (.tuple #[.agg #[v0], .agg #[v1, v2], .agg #[v3, v4]]) ∧ Kd.G (Kd.int .i64) 3 w' 0 (fun k_ => w.heap.size ≤ k_) v0 r1 ∧ Kd.G (Kd.int .i64) 3 w' 0 (fun k_ => w.heap.size ≤ k_) v1 r2 ∧ Kd.G k97 97 w' 0 (fun k_ => w.heap.size ≤ k_) v2 r3 ∧ Kd.G (Kd.int .i64) 3 w' 0 (fun k_ => w.heap.size ≤ k_) v3 r4 ∧ Kd.G k97 97 w' 0 (fun k_ => w.heap.size ≤ k_) v4 r5 ∧ IsS121 w0 w' g c r6 r7 ∧ Below w0.heap.size w0 w' ∧ KeepBut w w' g none := by
 have huS:=Try.underlying65
 have huQ:=Try.underlying46
 unfold pair_f at hh
 obtain ⟨⟨s,i1,h1⟩,a1,hh⟩:=Option.bind_eq_some_iff.1 hh
 try dsimp only at a1 hh
 have T1:=zA a1
 clear a1
 obtain ⟨⟨al,ad,i2,h2⟩,a2,hh⟩:=Option.bind_eq_some_iff.1 hh
 try dsimp only at a2 hh
 have T2:=zA a2
 clear a2
 obtain ⟨⟨nl,nd,i3,h3⟩,a3,hh⟩:=Option.bind_eq_some_iff.1 hh
 try dsimp only at a3 hh
 have T3:=zA a3
 clear a3
 obtain ⟨⟨o,i4,h4⟩,a4,hh⟩:=Option.bind_eq_some_iff.1 hh
 try dsimp only at a4 hh
 have T4:=zA a4
 clear a4
 obtain ⟨⟨el,ed,i5,h5⟩,a5,hh⟩:=Option.bind_eq_some_iff.1 hh
 try dsimp only at a5 hh
 have T5:=zA a5
 clear a5
 obtain ⟨⟨y,i6,h6⟩,a6,hh⟩:=Option.bind_eq_some_iff.1 hh
 try dsimp only at a6 hh
 have T6:=zA a6
 clear a6
 obtain ⟨⟨zs,zl,i7,h7⟩,a7,hh⟩:=Option.bind_eq_some_iff.1 hh
 try dsimp only at a7 hh
 have T7:=zA a7
 clear a7
 obtain ⟨⟨p,i8,h8⟩,a8,hh⟩:=Option.bind_eq_some_iff.1 hh
 try dsimp only at a8 hh
 have T8:=zA a8
 clear a8
 have HH:=zA hh
 have HI:=zA hI
 have EG:=zA (IsS121.lt hI)
 have HZ:=zA hB.size
 have HB:=zA hB
 have HK:=zA (KeepBut.refl w g none)
 clear hh hI hB
 go_enter Try.func107,Try.ntmps107
 go_wp2_with (first|((with_reducible refine gate_dst (N:=2) rfl ?_);refine hold ?_))
 unfold Hold
 refine zbx 2 #[.slice none 0 0] 65 ?_
 intro g2 hg w1 hbox hb
 have Bg2:=zA hbox
 have Eg2:=zA (show w.heap.size ≤ g2 ∧ True by rw [hg];exact ⟨HK.out.1,trivial⟩)
 replace HK:=zA (HK.out.trans (KeepBut.of_below hb g none) (.inl rfl))
 replace HI:=zA (IsS121.below HI.out hb)
 replace HB:=zA (zJb HB.out hb)
 clear hbox hb hg
 go_wp2_with (first|((with_reducible refine gate_dst (N:=3) rfl ?_);refine hold ?_))
 unfold Hold
 refine zbx 3 #[.slice none 0 0,.slice none 0 0] 46 ?_
 intro g3 hg w2 hbox hb
 have Bg3:=zA hbox
 have Eg3:=zA (show w.heap.size ≤ g3 ∧ g2 ≠ g3 by rw [hg];exact ⟨HK.out.1,Nat.ne_of_lt (blk_lt Bg2.out)⟩)
 replace Bg2:=zA (zQ Bg2.out hb)
 replace HK:=zA (HK.out.trans (KeepBut.of_below hb g none) (.inl rfl))
 replace HI:=zA (IsS121.below HI.out hb)
 replace HB:=zA (zJb HB.out hb)
 clear hbox hb hg
 go_wp2_with (first|((with_reducible refine gate_dst (N:=4) rfl ?_);refine hold ?_))
 unfold Hold
 refine zbx 4 #[.slice none 0 0,.slice none 0 0] 46 ?_
 intro g4 hg w3 hbox hb
 have Bg4:=zA hbox
 have Eg4:=zA (show w.heap.size ≤ g4 ∧ g2 ≠ g4 ∧ g3 ≠ g4 by rw [hg];exact ⟨HK.out.1,Nat.ne_of_lt (blk_lt Bg2.out),Nat.ne_of_lt (blk_lt Bg3.out)⟩)
 replace Bg2:=zA (zQ Bg2.out hb)
 replace Bg3:=zA (zQ Bg3.out hb)
 replace HK:=zA (HK.out.trans (KeepBut.of_below hb g none) (.inl rfl))
 replace HI:=zA (IsS121.below HI.out hb)
 replace HB:=zA (zJb HB.out hb)
 clear hbox hb hg
 go_wp2_with (first|(go_at_call 140;refine hold ?_))
 unfold Hold
 refine (spec_l3Schema.calls k g c i h s i1 h1 w0 _ HI.out HB.out T1.out).mono ?_
 rintro e w4 ⟨vs,rfl,ho,hi,hb,hk⟩
 have RS:=zA (zGb (zHb ho HK.out.1) (ok':=fun _ => True) (fun _ _ => trivial))
 replace Bg2:=zA (KeepBut.blk hk Bg2.out (Ne.symm (IsS121.ne_blk HI.out Bg2.out (by decide))) (by simp))
 replace Bg3:=zA (KeepBut.blk hk Bg3.out (Ne.symm (IsS121.ne_blk HI.out Bg3.out (by decide))) (by simp))
 replace Bg4:=zA (KeepBut.blk hk Bg4.out (Ne.symm (IsS121.ne_blk HI.out Bg4.out (by decide))) (by simp))
 replace HK:=zA (HK.out.trans hk (.inl rfl))
 replace HI:=zA hi
 replace HB:=zA hb
 clear ho hi hb hk T1
 obtain ⟨As,cs,rfl⟩:=Kd.R_slice RS.out
 go_wp2_with (first|((with_reducible refine gate_dst (N:=5) rfl ?_);refine hold ?_))
 unfold Hold
 refine zbx 5 #[.slice none 0 0] 65 ?_
 intro g5 hg w5 hbox hb
 have Bg5:=zA hbox
 have Eg5:=zA (show w.heap.size ≤ g5 ∧ g2 ≠ g5 ∧ g3 ≠ g5 ∧ g4 ≠ g5 by rw [hg];exact ⟨HK.out.1,Nat.ne_of_lt (blk_lt Bg2.out),Nat.ne_of_lt (blk_lt Bg3.out),Nat.ne_of_lt (blk_lt Bg4.out)⟩)
 replace Bg2:=zA (zQ Bg2.out hb)
 replace Bg3:=zA (zQ Bg3.out hb)
 replace Bg4:=zA (zQ Bg4.out hb)
 replace RS:=zA (zZ RS.out hb)
 replace HK:=zA (HK.out.trans (KeepBut.of_below hb g none) (.inl rfl))
 replace HI:=zA (IsS121.below HI.out hb)
 replace HB:=zA (zJb HB.out hb)
 clear hbox hb hg
 have hy0:=zc (.slice none 0 0) Bg5 0 rfl
 have hf0:=blk_frozen Bg5.out 0
 go_wp2_with (first|((with_reducible refine gate_store (t:=65) (p:=5) rfl ?_);refine hold ?_))
 unfold Hold
 refine store_event (t:=65) (p:=5) (v:=?vs1) (w1:=w5.setCell ⟨g5,0,none⟩ (.slice As s.length cs)) ?hgs1 ?hos1 ?hns1 ?hrs1 ?_
 case hos1 => rfl
 case hgs1 => rfl
 case hns1 => rfl
 case hrs1 => first|(go_simp;done)|(go_simp;rfl)
 intro w6 hw
 have n_:=zA ((Kd.R_set RS.out Bg5.out (by decide) 0 (.slice As s.length cs)))
 rw [← hw] at n_
 clear RS
 have RS:=n_
 clear n_
 have n_:=zA ((zUb Bg2.out (show g2 ≠ (⟨g5,0,none⟩ : Addr).block from Eg5.out.2.1) (.slice As s.length cs)))
 rw [← hw] at n_
 clear Bg2
 have Bg2:=n_
 clear n_
 have n_:=zA ((zUb Bg3.out (show g3 ≠ (⟨g5,0,none⟩ : Addr).block from Eg5.out.2.2.1) (.slice As s.length cs)))
 rw [← hw] at n_
 clear Bg3
 have Bg3:=n_
 clear n_
 have n_:=zA ((zUb Bg4.out (show g4 ≠ (⟨g5,0,none⟩ : Addr).block from Eg5.out.2.2.2) (.slice As s.length cs)))
 rw [← hw] at n_
 clear Bg4
 have Bg4:=n_
 clear n_
 have n_:=zA ((IsS121.far HI.out (show g ≠ (⟨g5,0,none⟩ : Addr).block by have h_:=Eg5.out.1;have:=EG.out;show g ≠ g5;omega) (.slice As s.length cs)))
 rw [← hw] at n_
 clear HI
 have HI:=n_
 clear n_
 have n_:=zA ((zB (j:=0) (v:=.slice As s.length cs) HB.out (Nat.le_trans HZ.out Eg5.out.1)))
 rw [← hw] at n_
 clear HB
 have HB:=n_
 clear n_
 have n_:=zA ((keep_far HK.out (show w.heap.size ≤ (⟨g5,0,none⟩ : Addr).block from Eg5.out.1) (.slice As s.length cs)))
 rw [← hw] at n_
 clear HK
 have HK:=n_
 clear n_
 have n_:=zA ((blk_put (cs:=#[.slice none 0 0]) (cs':=#[.slice As s.length cs]) Bg5.out 0 (.slice As s.length cs) rfl))
 rw [← hw] at n_
 clear Bg5
 have Bg5:=n_
 clear n_
 clear hw hy0 hf0
 have hx5:=zc (.slice As s.length cs) Bg5 0 rfl
 go_wp2_with (first|(go_at_call 141;refine hold ?_))
 unfold Hold
 refine (spec_l4Query.calls k g c i1 h1 As cs s al ad i2 h2 w0 _ HI.out HB.out (Kd.R_reads' RS.out).2.2 (Kd.R_reads' RS.out).2.1 (far_slice (IsS121.own_ne HI.out RS.out (by decide))) T2.out).mono ?_
 rintro e w7 ⟨va,vd,rfl,ho0,ho1,hi,hb,hk⟩
 have RA:=zA (zGb (zHb ho0 HK.out.1) (ok':=fun _ => True) (fun _ _ => trivial))
 have RD:=zA (zS (zIb ho1 HK.out.1) (ok':=fun _ => True) (fun _ _ => trivial))
 replace Bg2:=zA (KeepBut.blk hk Bg2.out (Ne.symm (IsS121.ne_blk HI.out Bg2.out (by decide))) (by simp))
 replace Bg3:=zA (KeepBut.blk hk Bg3.out (Ne.symm (IsS121.ne_blk HI.out Bg3.out (by decide))) (by simp))
 replace Bg4:=zA (KeepBut.blk hk Bg4.out (Ne.symm (IsS121.ne_blk HI.out Bg4.out (by decide))) (by simp))
 replace Bg5:=zA (KeepBut.blk hk Bg5.out (Ne.symm (IsS121.ne_blk HI.out Bg5.out (by decide))) (by simp))
 replace RS:=zA (zGb (Kd.R_keep (IsS121.apart HI.out RS.out (by decide)) hk (fun _ h_ => h_.2)) (fun _ h_ => h_.1))
 replace HK:=zA (HK.out.trans hk (.inl rfl))
 replace HI:=zA hi
 replace HB:=zA hb
 clear ho0 ho1 hi hb hk hx5 T2
 obtain ⟨Aa,ca,rfl⟩:=Kd.R_slice RA.out
 obtain ⟨Ad,cd,rfl⟩:=Kd.S_slice RD.out
 go_wp2_with (first|((with_reducible refine gate_dst (N:=6) rfl ?_);refine hold ?_))
 unfold Hold
 refine zbx 6 #[.slice none 0 0,.slice none 0 0] 46 ?_
 intro g6 hg w8 hbox hb
 have Bg6:=zA hbox
 have Eg6:=zA (show w.heap.size ≤ g6 ∧ g2 ≠ g6 ∧ g3 ≠ g6 ∧ g4 ≠ g6 ∧ g5 ≠ g6 by rw [hg];exact ⟨HK.out.1,Nat.ne_of_lt (blk_lt Bg2.out),Nat.ne_of_lt (blk_lt Bg3.out),Nat.ne_of_lt (blk_lt Bg4.out),Nat.ne_of_lt (blk_lt Bg5.out)⟩)
 replace Bg2:=zA (zQ Bg2.out hb)
 replace Bg3:=zA (zQ Bg3.out hb)
 replace Bg4:=zA (zQ Bg4.out hb)
 replace Bg5:=zA (zQ Bg5.out hb)
 replace RS:=zA (zZ RS.out hb)
 replace RA:=zA (zZ RA.out hb)
 replace RD:=zA (zY RD.out hb)
 replace HK:=zA (HK.out.trans (KeepBut.of_below hb g none) (.inl rfl))
 replace HI:=zA (IsS121.below HI.out hb)
 replace HB:=zA (zJb HB.out hb)
 clear hbox hb hg
 have hy0:=zc (.slice none 0 0) Bg6 0 rfl
 have hf0:=blk_frozen Bg6.out 0
 have hy1:=zc (.slice none 0 0) Bg6 1 rfl
 have hf1:=blk_frozen Bg6.out 1
 go_wp2_with (first|((with_reducible refine gate_store (t:=46) (p:=6) rfl ?_);refine hold ?_))
 unfold Hold
 refine store_event (t:=46) (p:=6) (v:=?vs2) (w1:=(w8.setCell ⟨g6,0,none⟩ (.slice Aa al.length ca)).setCell ⟨g6,1,none⟩ (.slice Ad ad.length cd)) ?hgs2 ?hos2 ?hns2 ?hrs2 ?_
 case hos2 => rfl
 case hgs2 => rfl
 case hns2 => rfl
 case hrs2 => first|(go_simp;done)|(go_simp;rfl)
 intro w9 hw
 have n_:=zA ((Kd.R_set (Kd.R_set RS.out Bg6.out (by decide) 0 (.slice Aa al.length ca)) (blk_put (cs:=#[.slice none 0 0,.slice none 0 0]) (cs':=#[.slice Aa al.length ca,.slice none 0 0]) Bg6.out 0 (.slice Aa al.length ca) rfl) (by decide) 1 (.slice Ad ad.length cd)))
 rw [← hw] at n_
 clear RS
 have RS:=n_
 clear n_
 have n_:=zA ((Kd.R_set (Kd.R_set RA.out Bg6.out (by decide) 0 (.slice Aa al.length ca)) (blk_put (cs:=#[.slice none 0 0,.slice none 0 0]) (cs':=#[.slice Aa al.length ca,.slice none 0 0]) Bg6.out 0 (.slice Aa al.length ca) rfl) (by decide) 1 (.slice Ad ad.length cd)))
 rw [← hw] at n_
 clear RA
 have RA:=n_
 clear n_
 have n_:=zA ((Kd.S_set (Kd.S_set RD.out Bg6.out (by decide) 0 (.slice Aa al.length ca)) (blk_put (cs:=#[.slice none 0 0,.slice none 0 0]) (cs':=#[.slice Aa al.length ca,.slice none 0 0]) Bg6.out 0 (.slice Aa al.length ca) rfl) (by decide) 1 (.slice Ad ad.length cd)))
 rw [← hw] at n_
 clear RD
 have RD:=n_
 clear n_
 have n_:=zA ((zUb (zUb Bg2.out (show g2 ≠ (⟨g6,0,none⟩ : Addr).block from Eg6.out.2.1) (.slice Aa al.length ca)) (show g2 ≠ (⟨g6,1,none⟩ : Addr).block from Eg6.out.2.1) (.slice Ad ad.length cd)))
 rw [← hw] at n_
 clear Bg2
 have Bg2:=n_
 clear n_
 have n_:=zA ((zUb (zUb Bg3.out (show g3 ≠ (⟨g6,0,none⟩ : Addr).block from Eg6.out.2.2.1) (.slice Aa al.length ca)) (show g3 ≠ (⟨g6,1,none⟩ : Addr).block from Eg6.out.2.2.1) (.slice Ad ad.length cd)))
 rw [← hw] at n_
 clear Bg3
 have Bg3:=n_
 clear n_
 have n_:=zA ((zUb (zUb Bg4.out (show g4 ≠ (⟨g6,0,none⟩ : Addr).block from Eg6.out.2.2.2.1) (.slice Aa al.length ca)) (show g4 ≠ (⟨g6,1,none⟩ : Addr).block from Eg6.out.2.2.2.1) (.slice Ad ad.length cd)))
 rw [← hw] at n_
 clear Bg4
 have Bg4:=n_
 clear n_
 have n_:=zA ((zUb (zUb Bg5.out (show g5 ≠ (⟨g6,0,none⟩ : Addr).block from Eg6.out.2.2.2.2) (.slice Aa al.length ca)) (show g5 ≠ (⟨g6,1,none⟩ : Addr).block from Eg6.out.2.2.2.2) (.slice Ad ad.length cd)))
 rw [← hw] at n_
 clear Bg5
 have Bg5:=n_
 clear n_
 have n_:=zA ((IsS121.far (IsS121.far HI.out (show g ≠ (⟨g6,0,none⟩ : Addr).block by have h_:=Eg6.out.1;have:=EG.out;show g ≠ g6;omega) (.slice Aa al.length ca)) (show g ≠ (⟨g6,1,none⟩ : Addr).block by have h_:=Eg6.out.1;have:=EG.out;show g ≠ g6;omega) (.slice Ad ad.length cd)))
 rw [← hw] at n_
 clear HI
 have HI:=n_
 clear n_
 have n_:=zA ((zB (j:=1) (v:=.slice Ad ad.length cd) (zB (j:=0) (v:=.slice Aa al.length ca) HB.out (Nat.le_trans HZ.out Eg6.out.1)) (Nat.le_trans HZ.out Eg6.out.1)))
 rw [← hw] at n_
 clear HB
 have HB:=n_
 clear n_
 have n_:=zA ((keep_far (keep_far HK.out (show w.heap.size ≤ (⟨g6,0,none⟩ : Addr).block from Eg6.out.1) (.slice Aa al.length ca)) (show w.heap.size ≤ (⟨g6,1,none⟩ : Addr).block from Eg6.out.1) (.slice Ad ad.length cd)))
 rw [← hw] at n_
 clear HK
 have HK:=n_
 clear n_
 have n_:=zA ((blk_put (cs:=#[.slice Aa al.length ca,.slice none 0 0]) (cs':=#[.slice Aa al.length ca,.slice Ad ad.length cd]) (blk_put (cs:=#[.slice none 0 0,.slice none 0 0]) (cs':=#[.slice Aa al.length ca,.slice none 0 0]) Bg6.out 0 (.slice Aa al.length ca) rfl) 1 (.slice Ad ad.length cd) rfl))
 rw [← hw] at n_
 clear Bg6
 have Bg6:=n_
 clear n_
 clear hw hy0 hf0 hy1 hf1
 have SQ:=zA (show StQ w0 w g c g2 g3 g4 g5 g6 (.slice As s.length cs) (.slice Aa al.length ca) (.slice Ad ad.length cd) s al ad (offQ w.heap.size g2 g3 g4 g5 g6) i2 h2 w9 from ⟨HI.out,HB.out,HK.out,Bg2.out,Bg3.out,Bg4.out,Bg5.out,Bg6.out,HZ.out,EG.out,Eg2.out.1,Eg3.out.1,Eg4.out.1,Eg5.out.1,⟨Eg5.out.2.1,Eg4.out.2.2,Eg6.out.2.2.1,Eg6.out.2.2.2.1⟩,okQ_R Bg2.out Bg3.out Bg4.out Bg5.out Bg6.out RS.out,okQ_R Bg2.out Bg3.out Bg4.out Bg5.out Bg6.out RA.out,okQ_S Bg2.out Bg3.out Bg4.out Bg5.out Bg6.out RD.out,fun _ h_ => h_⟩)
 have HC:=zA (show s.length ≤ cs ∧ al.length ≤ ca ∧ ad.length ≤ cd from ⟨(Kd.R_reads' RS.out).2.1,(Kd.R_reads' RA.out).2.1,(Kd.S_reads' RD.out).2.1⟩)
 clear HI HB HK Bg2 Bg3 Bg4 Bg5 Bg6 RS RA RD
 have LT:=zA (show g2 < w9.heap.size ∧ g3 < w9.heap.size ∧ g4 < w9.heap.size ∧ g5 < w9.heap.size ∧ g6 < w9.heap.size from ⟨blk_lt SQ.out.b2,blk_lt SQ.out.b3,blk_lt SQ.out.b4,blk_lt SQ.out.b5,blk_lt SQ.out.b6⟩)
 have KW:=zA SQ.out.K.1
 have hx0 : w9.cell? ⟨g5,0,none⟩ = some (.slice As s.length cs):=(zP SQ.out.b5 0).trans rfl
 have hx1 : w9.cell? ⟨g6,0,none⟩ = some (.slice Aa al.length ca):=(zP SQ.out.b6 0).trans rfl
 have hx2 : w9.cell? ⟨g6,1,none⟩ = some (.slice Ad ad.length cd):=(zP SQ.out.b6 1).trans rfl
 go_wp2_with (first|(go_at_call 142;refine hold ?_))
 unfold Hold
 refine (l4Near_walk k g c i2 h2 As cs s Aa ca al Ad cd ad (offQ w.heap.size g2 g3 g4 g5 g6) nl nd i3 h3 w0 _ SQ.out.I SQ.out.B (Kd.G_open SQ.out.gs).2.2 HC.out.1 (Kd.G_open SQ.out.ga).2.2 HC.out.2.1 (Kd.G_open SQ.out.gd).2.2 HC.out.2.2 (fun k_ h_ e_ => by have:=h_.1;have:=EG.out;omega) T3.out).mono ?_
 rintro e w10 ⟨vb,ve,rfl,hr,hg_,hi,hb,hk⟩
 replace SQ:=zA ((SQ.out.mono (ok':=fun k_ => offQ w.heap.size g2 g3 g4 g5 g6 k_ ∧ k_ < w9.heap.size) (fun k_ a_ b_ => ⟨a_,b_⟩) (fun _ a_ => a_.1)).keep hi hb hk)
 have RB:=zA hr
 have GB:=zA hg_
 have K9:=zA hk.1
 clear hr hg_ hi hb hk hx0 hx1 hx2 T3
 obtain ⟨Ab,cb,rfl⟩:=Kd.R_slice RB.out
 obtain ⟨Ae,ce,rfl⟩:=Kd.G_slice GB.out
 go_wp2_with (first|((with_reducible refine gate_dst (N:=7) rfl ?_);refine hold ?_))
 unfold Hold
 refine zbx 7 #[.slice none 0 0,.slice none 0 0] 46 ?_
 intro g7 hg w11 hbox hb
 have Bg7:=zA hbox
 have E7:=zA (show w10.heap.size ≤ g7 by rw [hg];exact Nat.le_refl _)
 replace RB:=zA (zZ RB.out hb)
 replace GB:=zA (Kd.G_mono (base':=0) (Kd.G_below (Kd.G_bound GB.out) hb) (ok':=fun k_ => some k_ ≠ (.slice Ab nl.length cb : Value).ownBlock ∧ w9.heap.size ≤ k_ ∧ k_ ≠ g7) (fun k_ h_ => ⟨h_.1.1,h_.1.2.2,by have:=h_.2;have:=E7.out;omega⟩))
 replace SQ:=zA (SQ.out.below hb)
 clear hbox hb hg
 have N7:=zA (show g3 ≠ g7 ∧ g4 ≠ g7 ∧ g6 ≠ g7 ∧ w.heap.size ≤ g7 from by have:=LT.out;have:=E7.out;have:=K9.out;have:=KW.out;exact ⟨by omega,by omega,by omega,by omega⟩)
 have hy0:=zc (.slice none 0 0) Bg7 0 rfl
 have hy1:=zc (.slice none 0 0) Bg7 1 rfl
 have hf0:=blk_frozen Bg7.out 0
 have hf1:=blk_frozen Bg7.out 1
 go_wp2_with (first|((with_reducible refine gate_store (t:=46) (p:=7) rfl ?_);refine hold ?_))
 unfold Hold
 refine store_event (t:=46) (p:=7) (v:=?vq1) (w1:=(w11.setCell ⟨g7,0,none⟩ (.slice Ab nl.length cb)).setCell ⟨g7,1,none⟩ (.slice Ae nd.length ce)) ?hgq1 ?hoq1 ?hnq1 ?hrq1 ?_
 case hoq1 => rfl
 case hgq1 => rfl
 case hnq1 => rfl
 case hrq1 => first|(go_simp;done)|(go_simp;rfl)
 intro w12 hw
 have ST:=zA (SQ.out.second (W0:=w9) (Nat.le_refl _) KW.out (fun k_ a_ => ⟨a_.2,by have:=a_.2;have:=E7.out;have:=K9.out;omega⟩) Bg7.out N7.out.2.2.2 ⟨N7.out.1,N7.out.2.1,N7.out.2.2.1⟩ LT.out rfl RB.out GB.out)
 rw [← hw] at ST
 clear hw hy0 hy1 hf0 hf1 SQ RB GB Bg7 E7 N7 LT KW K9
 go_wp2_with (first|(go_at_call 109;refine hold ?_))
 unfold Hold
 refine (spec_l1Once.calls g c i3 h3 3 o i4 h4 w0 _ ST.out.q.I ST.out.q.B T4.out).mono ?_
 rintro e w13 ⟨rfl,hi,hb,hk⟩
 replace ST:=zA (ST.out.keep hi hb hk)
 clear hi hb hk T4
 go_upto_if 18 with fail
 try simp only [Act.put,zO,zEb,zFb]
 go_cut [] (fun wc => ∃ (bh bb : Value),Aside0 (StP w0 w g c g2 g3 g4 g5 g6 g7 (.slice As s.length cs) (.slice Aa al.length ca) (.slice Ad ad.length cd) bh bb s al ad el ed i5 h5 wc))
 case first =>
  have hx:=T5.out
  cases o
  ·
   simp only [Bool.false_eq_true,if_false,Option.some.injEq,Prod.mk.injEq] at hx
   obtain ⟨rfl,rfl,rfl,rfl⟩:=hx
   go_wp2
   go_meet
   case rel => exact ⟨_,_,ST⟩
  ·
   rw [if_pos rfl] at hx
   have TX:=zA hx
   clear hx
   have hx0 : w13.cell? ⟨g5,0,none⟩ = some (.slice As s.length cs):=(zP ST.out.q.b5 0).trans rfl
   have hx1 : w13.cell? ⟨g7,0,none⟩ = some (.slice Ab nl.length cb):=(zP ST.out.b7 0).trans rfl
   have hx2 : w13.cell? ⟨g7,1,none⟩ = some (.slice Ae nd.length ce):=(zP ST.out.b7 1).trans rfl
   go_wp2_with (first|(go_at_call 142;refine hold ?_))
   unfold Hold
   refine (l4Near_walk k g c i4 h4 As cs s Ab cb nl Ae ce nd (fun k_ => w.heap.size ≤ k_) el ed i5 h5 w0 _ ST.out.q.I ST.out.q.B (Kd.F_mono (Kd.G_open ST.out.q.gs).2.2 (fun _ h_ => h_.1.1)) HC.out.1 (Kd.R_F (zGb (Kd.R_bound ST.out.rb) (fun _ h_ => h_.2.1))) (Kd.R_reads' ST.out.rb).2.1 (Kd.F_mono (Kd.G_open ST.out.gb).2.2 (fun _ h_ => h_.1.1)) (Kd.G_reads' ST.out.gb).2.1 (fun k_ h_ e_ => by have:=EG.out;omega) TX.out).mono ?_
   rintro e w14 ⟨vb,ve,rfl,hr,hg_,hi,hb,hk⟩
   have LT:=zA (show g2 < w13.heap.size ∧ g3 < w13.heap.size ∧ g4 < w13.heap.size ∧ g5 < w13.heap.size ∧ g6 < w13.heap.size from ⟨blk_lt ST.out.q.b2,blk_lt ST.out.q.b3,blk_lt ST.out.q.b4,blk_lt ST.out.q.b5,blk_lt ST.out.q.b6⟩)
   have L7:=zA (blk_lt ST.out.b7)
   have KW:=zA ST.out.q.K.1
   have SQ:=zA ((ST.out.q.mono (ok':=fun k_ => okP w.heap.size (.slice Ab nl.length cb) g2 g3 g4 g5 g6 g7 k_ ∧ k_ < w13.heap.size) (fun k_ a_ b_ => ⟨a_,b_⟩) (fun _ a_ => a_.1.1)).keep hi hb hk)
   have Bg7:=zA (ST.out.keep hi hb hk).b7
   have N7:=zA (show (g3 ≠ g7 ∧ g4 ≠ g7 ∧ g6 ≠ g7) ∧ w.heap.size ≤ g7 from ⟨ST.out.n7,ST.out.e7⟩)
   have RB:=zA hr
   have GB:=zA (Kd.G_mono (base':=0) hg_ (ok':=fun k_ => some k_ ≠ vb.ownBlock ∧ w13.heap.size ≤ k_ ∧ k_ ≠ g7) (fun k_ h_ => ⟨h_.1,h_.2.2,by have:=h_.2.2;have:=L7.out;omega⟩))
   clear ST hr hg_ hi hb hk hx0 hx1 hx2 TX
   obtain ⟨Af,cf,rfl⟩:=Kd.R_slice RB.out
   obtain ⟨Ag,cg,rfl⟩:=Kd.G_slice GB.out
   have hy0:=zc (.slice Ab nl.length cb) Bg7 0 rfl
   have hy1:=zc (.slice Ae nd.length ce) Bg7 1 rfl
   have hf0:=blk_frozen Bg7.out 0
   have hf1:=blk_frozen Bg7.out 1
   go_wp2_with (first|((with_reducible refine gate_store (t:=46) (p:=7) rfl ?_);refine hold ?_))
   unfold Hold
   refine store_event (t:=46) (p:=7) (v:=?vq2) (w1:=(w14.setCell ⟨g7,0,none⟩ (.slice Af el.length cf)).setCell ⟨g7,1,none⟩ (.slice Ag ed.length cg)) ?hgq2 ?hoq2 ?hnq2 ?hrq2 ?_
   case hoq2 => rfl
   case hgq2 => rfl
   case hnq2 => rfl
   case hrq2 => first|(go_simp;done)|(go_simp;rfl)
   intro w15 hw
   have ST:=zA (SQ.out.second (W0:=w13) (Nat.le_refl _) KW.out (fun k_ a_ => ⟨a_.2,a_.1.2.2⟩) Bg7.out N7.out.2 N7.out.1 LT.out rfl RB.out GB.out)
   rw [← hw] at ST
   clear hw hy0 hy1 hf0 hf1 SQ RB GB Bg7 N7 LT KW
   go_wp2
   go_meet
   case rel => exact ⟨_,_,ST⟩
 case rest =>
  clear ST T5
  obtain ⟨bh,bb,ST⟩:=hcut
  obtain ⟨Ab,cb,rfl⟩:=Kd.R_slice ST.out.rb
  obtain ⟨Ae,ce,rfl⟩:=Kd.G_slice ST.out.gb
  go_wp2_with (first|(go_at_call 79;refine hold ?_))
  unfold Hold
  refine (spec_l1Below.calls g c i5 h5 16 y i6 h6 w0 _ ST.out.q.I ST.out.q.B T6.out).mono ?_
  rintro e w16 ⟨rfl,hi,hb,hk⟩
  replace ST:=zA (ST.out.keep hi hb hk)
  clear hi hb hk T6
  go_upto_block 0 with fail
  try simp only [Act.put,zO,zEb,zFb]
  go_cut [] (fun wc => ∃ (vs bh : Value),Aside0 (StP w0 w g c g2 g3 g4 g5 g6 g7 vs (.slice Aa al.length ca) (.slice Ad ad.length cd) bh (.slice Ae ed.length ce) zs al ad zl ed i7 h7 wc))
  case first =>
   have hx:=T7.out
   unfold pairZ at hx
   dsimp only at hx
   clear T7
   by_cases c0 : y = 0
   ·
    have c0b : (y == 0) = true:=beq_iff_eq.mpr c0
    rw [if_pos c0] at hx
    by_cases hl : el.length < 1000000
    rotate_left
    ·
     rw [if_neg hl] at hx
     cases hx
    rw [if_pos hl] at hx
    obtain ⟨⟨t,i9,h9⟩,a9,hx⟩:=Option.bind_eq_some_iff.1 hx
    try dsimp only at a9 hx
    have T9:=zA a9
    clear a9
    simp only [Option.some.injEq,Prod.mk.injEq] at hx
    obtain ⟨rfl,rfl,rfl,rfl⟩:=hx
    have HL:=zA hl
    clear hl c0
    try go_wp2
    have n_:=zA (ST.out.below (below_drew (w:=w16) (Below.refl _ _)))
    clear ST
    have ST:=n_
    clear n_
    refine start_ (n:=8) (S:=fun w' => w'.cell? ⟨g7,0,none⟩ = some (.slice Ab el.length cb)) (ds:=[5,7]) #[yf,yf,yf,yf,yf,yf,yf,yf] (by kernel_rfl) rfl rfl ((zP ST.out.b7 0).trans rfl) (fun hHeld => ?_)
    generalize w16.drew = wd at ST hHeld ⊢
    refine zu 0 27 ?_;refine zw 1 28 hHeld ?_;refine zu 2 29 ?_
    refine one_ (i:=3) (N:=some 30) #[yt,yt,yt,yt,yf,yf,yf,yf] rfl rfl (by kernel_rfl) (by decide) (fun K hK => ?_)
    refine goes_ Try.func110 (by kernel_rfl) rfl #[.pointer (some ⟨g,0,none⟩)] (by rfl) rfl rfl (by (try simp only [zCb,zMb,zNb]);first|done|rfl) ?_
    with_reducible refine (spec_l2Any.calls g c i6 h6 t i9 h9 w0 _ ST.out.q.I ST.out.q.B T9.out).mono ?_
    rintro e w17 ⟨rfl,hi,hb,hk⟩
    refine ⟨_,rfl,?_⟩
    replace ST:=zA (ST.out.keep hi hb hk)
    clear hi hb hk T9
    refine hK.out _ _ ((zP ST.out.b7 0).trans rfl) (fun hHeld => ?_)
    clear hK K
    refine norm_ (a':=?_) ?_ ?_
    rotate_left
    ·show Act.put _ (some 30) _ = _;simp only [Act.put,zO,zEb,zFb,i64_w,i32_w];rfl
    refine one_ (i:=4) (N:=some 31) #[yt,yt,yt,yt,yt,yf,yf,yf] rfl rfl (by kernel_rfl) (by decide) (fun K hK => ?_)
    refine event_step (by rfl) (v:=.slice (some ⟨w17.heap.size,0,none⟩) 1 1) (w1:=w17.alloc (.cells #[.int .i64 t] 3 (0,0))) ?_ ?_
    ·first|(go_simp;done)|(go_simp;rfl)
    refine hK.out _ _ ((zP (zG ST.out.b7 _) 0).trans rfl) (fun hHeld => ?_)
    clear hK K
    refine norm_ (a':=?_) ?_ ?_
    rotate_left
    ·show Act.put _ (some 31) _ = _;simp only [Act.put,zO,zEb,zFb,i64_w,i32_w];rfl
    refine last_ (i:=5) (N:=some 32) #[yt,yt,yt,yt,yt,yt,yf,yf] rfl rfl (by kernel_rfl) (by decide) (fun K hK => ?_)
    refine Kd.R_append_step (Kd.int .i64) (w0:=w17) (W:=w17) w.heap.size (by rfl) (.tmp 28) (.tmp 31) 38 3 (.int .i64 0) 8 rfl Try.underlying38 info3 rfl (by decide) (by omega) (.slice Ab el.length cb) el t [.int .i64 t] (fun _ => True) (fun _ => False) rfl rfl rfl (fun _ hk_ => hk_.elim) (fun _ _ => trivial) ST.out.rb (Below.refl _ _) ST.out.q.K.1 (by have:=HL.out;omega) ?_
    intro v9 w18 ho hb hg hat
    obtain ⟨A9,c9,rfl⟩:=Kd.R_slice ho
    have S9:=zA (ST.out.headed ho hg hat)
    have B7:=zA (blk_grown ST.out.b7 hg (Kd.R_ne ST.out.rb ST.out.b7 (by decide)))
    clear ho hb hg hat ST
    refine hK.out _ _ ?_
    clear hK K hHeld
    refine norm_ (a':=?_) ?_ ?_
    rotate_left
    ·show Act.put _ (some 32) _ = _;simp only [Act.put,zO,zEb,zFb,i64_w,i32_w];rfl
    refine zu 6 33 ?_
    refine last_ (i:=7) (N:=none) #[yt,yt,yt,yt,yt,yt,yt,yt] rfl rfl (by kernel_rfl) (by decide) (fun K hK => ?_)
    have hq0:=zc (.slice Ab el.length cb) B7 0 rfl
    have hf0:=blk_frozen B7.out 0
    refine skip_ (w1:=w18.setCell ⟨g7,0,none⟩ (.slice A9 (el ++ [t]).length c9)) (by rfl) rfl ?_ ?_
    ·go_simp;first|done|rfl
    clear hq0 hf0 B7
    generalize w18.setCell ⟨g7,0,none⟩ (.slice A9 (el ++ [t]).length c9) = wz at S9 ⊢
    refine hK.out _ _ ?_
    clear hK K
    try clear hHeld
    refine done_ (by kernel_rfl) ?_
    go_wp2
    go_meet
    case rel => exact ⟨_,_,S9⟩
   have c0b : (y == 0) = false:=by simpa using c0
   rw [if_neg c0] at hx
   clear c0
   by_cases c1 : y = 1
   ·
    have c1b : (y == 1) = true:=beq_iff_eq.mpr c1
    rw [if_pos c1] at hx
    obtain ⟨⟨zs',i9,h9⟩,a9,hx⟩:=Option.bind_eq_some_iff.1 hx
    try dsimp only at a9 hx
    have T9:=zA a9
    clear a9
    simp only [Option.some.injEq,Prod.mk.injEq] at hx
    obtain ⟨rfl,rfl,rfl,rfl⟩:=hx
    clear c1
    go_wp2_with (first|(go_at_call 143;refine hold ?_))
    unfold Hold
    refine (spec_l3Any.calls k g c i6 h6 zs' i9 h9 w0 _ ST.out.q.I ST.out.q.B T9.out).mono ?_
    rintro e w17 ⟨vz,rfl,ho,hi,hb,hk⟩
    obtain ⟨Az,cz,rfl⟩:=Kd.R_slice ho
    have S9:=zA (ST.out.schema hi hb hk (zGb ho (fun _ _ => trivial)))
    have B5:=zA (ST.out.keep hi hb hk).q.b5
    clear ho hi hb hk ST T9
    have hq0:=zc (.slice As s.length cs) B5 0 rfl
    have hf0:=blk_frozen B5.out 0
    go_wp2_with (first|((with_reducible refine gate_store (t:=65) (p:=5) rfl ?_);refine hold ?_))
    unfold Hold
    refine store_event (t:=65) (p:=5) (v:=?vq3) (w1:=w17.setCell ⟨g5,0,none⟩ (.slice Az zs'.length cz)) ?hgq3 ?hoq3 ?hnq3 ?hrq3 ?_
    case hoq3 => rfl
    case hgq3 => rfl
    case hnq3 => rfl
    case hrq3 => first|(go_simp;done)|(go_simp;rfl)
    intro w18 hw
    rw [← hw] at S9
    clear hw hq0 hf0 B5
    go_wp2
    go_meet
    case rel => exact ⟨_,_,S9⟩
   have c1b : (y == 1) = false:=by simpa using c1
   rw [if_neg c1] at hx
   clear c1
   simp only [Option.some.injEq,Prod.mk.injEq] at hx
   obtain ⟨rfl,rfl,rfl,rfl⟩:=hx
   go_wp2
   go_meet
   case rel => exact ⟨_,_,ST⟩
  case rest =>
   clear ST T7
   obtain ⟨vs,bh,ST⟩:=hcut
   obtain ⟨As,cs,rfl⟩:=Kd.G_slice ST.out.q.gs
   obtain ⟨Ab,cb,rfl⟩:=Kd.R_slice ST.out.rb
   go_wp2_with (first|(go_at_call 109;refine hold ?_))
   unfold Hold
   refine (spec_l1Once.calls g c i7 h7 2 p i8 h8 w0 _ ST.out.q.I ST.out.q.B T8.out).mono ?_
   rintro e w19 ⟨rfl,hi,hb,hk⟩
   replace ST:=zA (ST.out.keep hi hb hk)
   clear hi hb hk T8
   have hh:=HH.out
   clear HH
   cases p
   ·
    simp only [Bool.false_eq_true,if_false,Option.some.injEq,Prod.mk.injEq] at hh
    obtain ⟨rfl,rfl,rfl,rfl,rfl,rfl,rfl⟩:=hh
    try go_wp2
    have n_:=zA (ST.out.below (below_drew (w:=w19) (Below.refl _ _)))
    clear ST
    have ST:=n_
    clear n_
    refine start_ (n:=6) (S:=fun w' => w'.cell? ⟨g5,0,none⟩ = some (.slice As zs.length cs) ∧ w'.cell? ⟨g6,0,none⟩ = some (.slice Aa al.length ca) ∧ w'.cell? ⟨g6,1,none⟩ = some (.slice Ad ad.length cd) ∧ w'.cell? ⟨g7,0,none⟩ = some (.slice Ab zl.length cb) ∧ w'.cell? ⟨g7,1,none⟩ = some (.slice Ae ed.length ce)) (ds:=[5]) #[yf,yf,yf,yf,yf,yf] (by kernel_rfl) rfl rfl ⟨(zP ST.out.q.b5 0).trans rfl,(zP ST.out.q.b6 0).trans rfl,(zP ST.out.q.b6 1).trans rfl,(zP ST.out.b7 0).trans rfl,(zP ST.out.b7 1).trans rfl⟩ (fun hHeld => ?_)
    generalize w19.drew = wd at ST hHeld ⊢
    refine zw 0 43 hHeld ?_;refine zw 1 44 hHeld ?_;refine zw 2 45 hHeld ?_
    obtain ⟨wa,ha⟩ : ∃ wa,wa = wd.setCell ⟨g2,0,none⟩ (.slice As zs.length cs):=⟨_,rfl⟩
    obtain ⟨wb,hb⟩ : ∃ wb,wb = (wa.setCell ⟨g3,0,none⟩ (.slice Aa al.length ca)).setCell ⟨g3,1,none⟩ (.slice Ad ad.length cd):=⟨_,rfl⟩
    obtain ⟨wz,hz⟩ : ∃ wz,wz = (wb.setCell ⟨g4,0,none⟩ (.slice Ab zl.length cb)).setCell ⟨g4,1,none⟩ (.slice Ae ed.length ce):=⟨_,rfl⟩
    have FN:=zA (ST.out.fin (.slice Aa al.length ca) (.slice Ad ad.length cd) (.slice Ab zl.length cb) (.slice Ae ed.length ce) ha hb hz)
    have N3:=zA (show wa.heap[g3]? = some (.cells #[.slice none 0 0,.slice none 0 0] 46 (0,0)) from by rw [ha];exact zUb ST.out.q.b3 (p:=⟨g2,0,none⟩) (Ne.symm (blk_ne ST.out.q.b2 ST.out.q.b3 (by decide))) _)
    have N4:=zA (show wb.heap[g4]? = some (.cells #[.slice none 0 0,.slice none 0 0] 46 (0,0)) from by rw [hb,ha];exact zUb (zUb (zUb ST.out.q.b4 (p:=⟨g2,0,none⟩) (Ne.symm (blk_ne ST.out.q.b2 ST.out.q.b4 (by decide))) _) (p:=⟨g3,0,none⟩) (Ne.symm ST.out.q.n.2.1) _) (p:=⟨g3,1,none⟩) (Ne.symm ST.out.q.n.2.1) _)
    have HA_:=zA ha
    have HB_:=zA hb
    have HZ_:=zA hz
    clear ha hb hz
    have MID:=zA (ST.out.mid (.slice Aa al.length ca) (.slice Ad ad.length cd) HA_.out HB_.out)
    refine one_ (i:=3) (N:=none) #[yt,yt,yt,yt,yf,yf] rfl rfl (by kernel_rfl) (by decide) (fun K hK => ?_)
    have hq0 : wd.cell? ⟨g2,0,none⟩ = some (.slice none 0 0):=(zP ST.out.q.b2 0).trans rfl
    have hf0:=blk_frozen ST.out.q.b2 0
    refine skip_ (w1:=wa) (by rfl) rfl ?_ ?_
    ·rw [HA_.out];go_simp;first|done|rfl
    clear hq0 hf0
    refine hK.out _ _ ⟨(zP ((MID.out g5 (.inl rfl)).1.trans ST.out.q.b5) 0).trans rfl,(zP ((MID.out g6 (.inr (.inl rfl))).1.trans ST.out.q.b6) 0).trans rfl,(zP ((MID.out g6 (.inr (.inl rfl))).1.trans ST.out.q.b6) 1).trans rfl,(zP ((MID.out g7 (.inr (.inr rfl))).1.trans ST.out.b7) 0).trans rfl,(zP ((MID.out g7 (.inr (.inr rfl))).1.trans ST.out.b7) 1).trans rfl⟩ (fun hHeld => ?_)
    clear hK K
    refine one_ (i:=4) (N:=none) #[yt,yt,yt,yt,yt,yf] rfl rfl (by kernel_rfl) (by decide) (fun K hK => ?_)
    have hq0 : wa.cell? ⟨g3,0,none⟩ = some (.slice none 0 0):=(zP N3.out 0).trans rfl
    have hq1 : wa.cell? ⟨g3,1,none⟩ = some (.slice none 0 0):=(zP N3.out 1).trans rfl
    have hf0:=blk_frozen N3.out 0
    have hf1:=blk_frozen N3.out 1
    refine skip_ (w1:=wb) (by rfl) rfl ?_ ?_
    ·rw [HB_.out];go_simp;first|done|rfl
    clear hq0 hq1 hf0 hf1 N3
    refine hK.out _ _ ⟨(zP ((MID.out g5 (.inl rfl)).2.trans ST.out.q.b5) 0).trans rfl,(zP ((MID.out g6 (.inr (.inl rfl))).2.trans ST.out.q.b6) 0).trans rfl,(zP ((MID.out g6 (.inr (.inl rfl))).2.trans ST.out.q.b6) 1).trans rfl,(zP ((MID.out g7 (.inr (.inr rfl))).2.trans ST.out.b7) 0).trans rfl,(zP ((MID.out g7 (.inr (.inr rfl))).2.trans ST.out.b7) 1).trans rfl⟩ (fun hHeld => ?_)
    clear hK K
    refine last_ (i:=5) (N:=none) #[yt,yt,yt,yt,yt,yt] rfl rfl (by kernel_rfl) (by decide) (fun K hK => ?_)
    have hq0 : wb.cell? ⟨g4,0,none⟩ = some (.slice none 0 0):=(zP N4.out 0).trans rfl
    have hq1 : wb.cell? ⟨g4,1,none⟩ = some (.slice none 0 0):=(zP N4.out 1).trans rfl
    have hf0:=blk_frozen N4.out 0
    have hf1:=blk_frozen N4.out 1
    refine skip_ (w1:=wz) (by rfl) rfl ?_ ?_
    ·rw [HZ_.out];go_simp;first|done|rfl
    clear hq0 hq1 hf0 hf1 N4
    refine hK.out _ _ ?_
    clear hK K
    clear MID
    refine done_ (by kernel_rfl) ?_
    clear HA_ HB_ HZ_
    have Z0:=zA (Kd.G_mono (base':=0) (Kd.G_step ST.out.q.gs (fun k_ h_ _ => FN.out.2.2.2.2 k_ ⟨h_.1.2.1,h_.1.2.2.1,h_.1.2.2.2.1⟩)) (fun _ h_ => h_.1.1))
    have Z1:=zA (Kd.G_mono (base':=0) (Kd.G_step ST.out.q.ga (fun k_ h_ _ => FN.out.2.2.2.2 k_ ⟨h_.1.2.1,h_.1.2.2.1,h_.1.2.2.2.1⟩)) (fun _ h_ => h_.1.1))
    have Z2:=zA (Kd.G_mono (base':=0) (Kd.G_step ST.out.q.gd (fun k_ h_ _ => FN.out.2.2.2.2 k_ ⟨h_.1.2.1,h_.1.2.2.1,h_.1.2.2.2.1⟩)) (fun _ h_ => h_.1.1))
    have Z3:=zA (Kd.G_mono (base':=0) (Kd.G_step (Kd.G_mono (base':=0) (ok':=fun k_ => okP w.heap.size (.slice none 0 0) g2 g3 g4 g5 g6 g7 k_) (Kd.G_R (base':=0) (Kd.R_bound (Kd.R_types (Kd.R_types (Kd.R_types (Kd.R_types (Kd.R_types (Kd.R_types ST.out.rb ST.out.q.b2 (by decide)) ST.out.q.b3 (by decide)) ST.out.q.b4 (by decide)) ST.out.q.b5 (by decide)) ST.out.q.b6 (by decide)) ST.out.b7 (by decide)))) (fun k_ h_ => ⟨⟨h_.2.1,h_.1.1.1.1.1.1.2,h_.1.1.1.1.1.2,h_.1.1.1.1.2,h_.1.1.1.2,h_.1.1.2⟩,by simp [Value.ownBlock],h_.1.2⟩)) (fun k_ h_ _ => FN.out.2.2.2.2 k_ ⟨h_.1.2.1,h_.1.2.2.1,h_.1.2.2.2.1⟩)) (fun _ h_ => h_.1.1))
    have Z4:=zA (Kd.G_mono (base':=0) (Kd.G_step ST.out.gb (fun k_ h_ _ => FN.out.2.2.2.2 k_ ⟨h_.1.2.1,h_.1.2.2.1,h_.1.2.2.2.1⟩)) (fun _ h_ => h_.1.1))
    clear ST
    go_wp2
    refine bodyPost_ret (results_list (rs:=[.cell 2 65,.cell 3 46,.cell 4 46]) rfl (by simp) (.cell g2 65 #[.slice As zs.length cs] (0,0) _ rfl FN.out.1.1 Try.underlying65 rfl (by kernel_rfl) (.cell g3 46 #[.slice Aa al.length ca,.slice Ad ad.length cd] (0,0) _ rfl FN.out.1.2.1 Try.underlying46 rfl (by kernel_rfl) (.cell g4 46 #[.slice Ab zl.length cb,.slice Ae ed.length ce] (0,0) _ rfl FN.out.1.2.2 Try.underlying46 rfl (by kernel_rfl) .nil)))) rfl ?_
    exact ⟨_,_,_,_,_,rfl,Z0.out,Z1.out,Z2.out,Z3.out,Z4.out,FN.out.2.1,FN.out.2.2.1,FN.out.2.2.2.1⟩
   ·
    simp only [if_true,Option.some.injEq,Prod.mk.injEq] at hh
    obtain ⟨rfl,rfl,rfl,rfl,rfl,rfl,rfl⟩:=hh
    try go_wp2
    have n_:=zA (ST.out.below (below_drew (w:=w19) (Below.refl _ _)))
    clear ST
    have ST:=n_
    clear n_
    refine start_ (n:=6) (S:=fun w' => w'.cell? ⟨g5,0,none⟩ = some (.slice As zs.length cs) ∧ w'.cell? ⟨g6,0,none⟩ = some (.slice Aa al.length ca) ∧ w'.cell? ⟨g6,1,none⟩ = some (.slice Ad ad.length cd) ∧ w'.cell? ⟨g7,0,none⟩ = some (.slice Ab zl.length cb) ∧ w'.cell? ⟨g7,1,none⟩ = some (.slice Ae ed.length ce)) (ds:=[5]) #[yf,yf,yf,yf,yf,yf] (by kernel_rfl) rfl rfl ⟨(zP ST.out.q.b5 0).trans rfl,(zP ST.out.q.b6 0).trans rfl,(zP ST.out.q.b6 1).trans rfl,(zP ST.out.b7 0).trans rfl,(zP ST.out.b7 1).trans rfl⟩ (fun hHeld => ?_)
    generalize w19.drew = wd at ST hHeld ⊢
    refine zw 0 40 hHeld ?_;refine zw 1 41 hHeld ?_;refine zw 2 42 hHeld ?_
    obtain ⟨wa,ha⟩ : ∃ wa,wa = wd.setCell ⟨g2,0,none⟩ (.slice As zs.length cs):=⟨_,rfl⟩
    obtain ⟨wb,hb⟩ : ∃ wb,wb = (wa.setCell ⟨g3,0,none⟩ (.slice Ab zl.length cb)).setCell ⟨g3,1,none⟩ (.slice Ae ed.length ce):=⟨_,rfl⟩
    obtain ⟨wz,hz⟩ : ∃ wz,wz = (wb.setCell ⟨g4,0,none⟩ (.slice Aa al.length ca)).setCell ⟨g4,1,none⟩ (.slice Ad ad.length cd):=⟨_,rfl⟩
    have FN:=zA (ST.out.fin (.slice Ab zl.length cb) (.slice Ae ed.length ce) (.slice Aa al.length ca) (.slice Ad ad.length cd) ha hb hz)
    have N3:=zA (show wa.heap[g3]? = some (.cells #[.slice none 0 0,.slice none 0 0] 46 (0,0)) from by rw [ha];exact zUb ST.out.q.b3 (p:=⟨g2,0,none⟩) (Ne.symm (blk_ne ST.out.q.b2 ST.out.q.b3 (by decide))) _)
    have N4:=zA (show wb.heap[g4]? = some (.cells #[.slice none 0 0,.slice none 0 0] 46 (0,0)) from by rw [hb,ha];exact zUb (zUb (zUb ST.out.q.b4 (p:=⟨g2,0,none⟩) (Ne.symm (blk_ne ST.out.q.b2 ST.out.q.b4 (by decide))) _) (p:=⟨g3,0,none⟩) (Ne.symm ST.out.q.n.2.1) _) (p:=⟨g3,1,none⟩) (Ne.symm ST.out.q.n.2.1) _)
    have HA_:=zA ha
    have HB_:=zA hb
    have HZ_:=zA hz
    clear ha hb hz
    have MID:=zA (ST.out.mid (.slice Ab zl.length cb) (.slice Ae ed.length ce) HA_.out HB_.out)
    refine one_ (i:=3) (N:=none) #[yt,yt,yt,yt,yf,yf] rfl rfl (by kernel_rfl) (by decide) (fun K hK => ?_)
    have hq0 : wd.cell? ⟨g2,0,none⟩ = some (.slice none 0 0):=(zP ST.out.q.b2 0).trans rfl
    have hf0:=blk_frozen ST.out.q.b2 0
    refine skip_ (w1:=wa) (by rfl) rfl ?_ ?_
    ·rw [HA_.out];go_simp;first|done|rfl
    clear hq0 hf0
    refine hK.out _ _ ⟨(zP ((MID.out g5 (.inl rfl)).1.trans ST.out.q.b5) 0).trans rfl,(zP ((MID.out g6 (.inr (.inl rfl))).1.trans ST.out.q.b6) 0).trans rfl,(zP ((MID.out g6 (.inr (.inl rfl))).1.trans ST.out.q.b6) 1).trans rfl,(zP ((MID.out g7 (.inr (.inr rfl))).1.trans ST.out.b7) 0).trans rfl,(zP ((MID.out g7 (.inr (.inr rfl))).1.trans ST.out.b7) 1).trans rfl⟩ (fun hHeld => ?_)
    clear hK K
    refine one_ (i:=4) (N:=none) #[yt,yt,yt,yt,yt,yf] rfl rfl (by kernel_rfl) (by decide) (fun K hK => ?_)
    have hq0 : wa.cell? ⟨g3,0,none⟩ = some (.slice none 0 0):=(zP N3.out 0).trans rfl
    have hq1 : wa.cell? ⟨g3,1,none⟩ = some (.slice none 0 0):=(zP N3.out 1).trans rfl
    have hf0:=blk_frozen N3.out 0
    have hf1:=blk_frozen N3.out 1
    refine skip_ (w1:=wb) (by rfl) rfl ?_ ?_
    ·rw [HB_.out];go_simp;first|done|rfl
    clear hq0 hq1 hf0 hf1 N3
    refine hK.out _ _ ⟨(zP ((MID.out g5 (.inl rfl)).2.trans ST.out.q.b5) 0).trans rfl,(zP ((MID.out g6 (.inr (.inl rfl))).2.trans ST.out.q.b6) 0).trans rfl,(zP ((MID.out g6 (.inr (.inl rfl))).2.trans ST.out.q.b6) 1).trans rfl,(zP ((MID.out g7 (.inr (.inr rfl))).2.trans ST.out.b7) 0).trans rfl,(zP ((MID.out g7 (.inr (.inr rfl))).2.trans ST.out.b7) 1).trans rfl⟩ (fun hHeld => ?_)
    clear hK K
    refine last_ (i:=5) (N:=none) #[yt,yt,yt,yt,yt,yt] rfl rfl (by kernel_rfl) (by decide) (fun K hK => ?_)
    have hq0 : wb.cell? ⟨g4,0,none⟩ = some (.slice none 0 0):=(zP N4.out 0).trans rfl
    have hq1 : wb.cell? ⟨g4,1,none⟩ = some (.slice none 0 0):=(zP N4.out 1).trans rfl
    have hf0:=blk_frozen N4.out 0
    have hf1:=blk_frozen N4.out 1
    refine skip_ (w1:=wz) (by rfl) rfl ?_ ?_
    ·rw [HZ_.out];go_simp;first|done|rfl
    clear hq0 hq1 hf0 hf1 N4
    refine hK.out _ _ ?_
    clear hK K
    clear MID
    refine done_ (by kernel_rfl) ?_
    clear HA_ HB_ HZ_
    have Z0:=zA (Kd.G_mono (base':=0) (Kd.G_step ST.out.q.gs (fun k_ h_ _ => FN.out.2.2.2.2 k_ ⟨h_.1.2.1,h_.1.2.2.1,h_.1.2.2.2.1⟩)) (fun _ h_ => h_.1.1))
    have Z1:=zA (Kd.G_mono (base':=0) (Kd.G_step (Kd.G_mono (base':=0) (ok':=fun k_ => okP w.heap.size (.slice none 0 0) g2 g3 g4 g5 g6 g7 k_) (Kd.G_R (base':=0) (Kd.R_bound (Kd.R_types (Kd.R_types (Kd.R_types (Kd.R_types (Kd.R_types (Kd.R_types ST.out.rb ST.out.q.b2 (by decide)) ST.out.q.b3 (by decide)) ST.out.q.b4 (by decide)) ST.out.q.b5 (by decide)) ST.out.q.b6 (by decide)) ST.out.b7 (by decide)))) (fun k_ h_ => ⟨⟨h_.2.1,h_.1.1.1.1.1.1.2,h_.1.1.1.1.1.2,h_.1.1.1.1.2,h_.1.1.1.2,h_.1.1.2⟩,by simp [Value.ownBlock],h_.1.2⟩)) (fun k_ h_ _ => FN.out.2.2.2.2 k_ ⟨h_.1.2.1,h_.1.2.2.1,h_.1.2.2.2.1⟩)) (fun _ h_ => h_.1.1))
    have Z2:=zA (Kd.G_mono (base':=0) (Kd.G_step ST.out.gb (fun k_ h_ _ => FN.out.2.2.2.2 k_ ⟨h_.1.2.1,h_.1.2.2.1,h_.1.2.2.2.1⟩)) (fun _ h_ => h_.1.1))
    have Z3:=zA (Kd.G_mono (base':=0) (Kd.G_step ST.out.q.ga (fun k_ h_ _ => FN.out.2.2.2.2 k_ ⟨h_.1.2.1,h_.1.2.2.1,h_.1.2.2.2.1⟩)) (fun _ h_ => h_.1.1))
    have Z4:=zA (Kd.G_mono (base':=0) (Kd.G_step ST.out.q.gd (fun k_ h_ _ => FN.out.2.2.2.2 k_ ⟨h_.1.2.1,h_.1.2.2.1,h_.1.2.2.2.1⟩)) (fun _ h_ => h_.1.1))
    clear ST
    go_wp2
    refine bodyPost_ret (results_list (rs:=[.cell 2 65,.cell 3 46,.cell 4 46]) rfl (by simp) (.cell g2 65 #[.slice As zs.length cs] (0,0) _ rfl FN.out.1.1 Try.underlying65 rfl (by kernel_rfl) (.cell g3 46 #[.slice Ab zl.length cb,.slice Ae ed.length ce] (0,0) _ rfl FN.out.1.2.1 Try.underlying46 rfl (by kernel_rfl) (.cell g4 46 #[.slice Aa al.length ca,.slice Ad ad.length cd] (0,0) _ rfl FN.out.1.2.2 Try.underlying46 rfl (by kernel_rfl) .nil)))) rfl ?_
    exact ⟨_,_,_,_,_,rfl,Z0.out,Z1.out,Z2.out,Z3.out,Z4.out,FN.out.2.1,FN.out.2.2.1,FN.out.2.2.2.1⟩

structure StW (w : World) (gx g2 g3 g4 a b d : Nat) (v0 v1 v2 v3 v4 : Value) (l0 l1 : List Int) (l2 : List S97) (l3 : List Int) (l4 : List S97) (n1 n2 : Nat) (W : World) : Prop where
 B : Below w.heap.size w W
 b2 : W.heap[g2]? = some (.cells #[.slice none 0 0] 65 (0,0))
 b3 : W.heap[g3]? = some (.cells #[.slice none 0 0,.slice none 0 0] 46 (0,0))
 b4 : W.heap[g4]? = some (.cells #[.slice none 0 0,.slice none 0 0] 46 (0,0))
 ba : W.heap[a]? = some (.cells #[v0] 65 (0,0))
 bb : W.heap[b]? = some (.cells #[v1,v2] 46 (0,0))
 bd : W.heap[d]? = some (.cells #[v3,v4] 46 (0,0))
 n : w.heap.size ≤ g2 ∧ g2 < g3 ∧ g3 < g4 ∧ g4 < gx ∧ gx < n1 ∧ n1 ≤ n2 ∧ n2 ≤ a ∧ a < b ∧ b < d ∧ d < W.heap.size
 r0 : Kd.G (Kd.int .i64) 3 W 0 (fun k => n1 ≤ k ∧ k < n2) v0 l0
 r1 : Kd.G (Kd.int .i64) 3 W 0 (fun k => n1 ≤ k ∧ k < n2) v1 l1
 r2 : Kd.G k97 97 W 0 (fun k => n1 ≤ k ∧ k < n2) v2 l2
 r3 : Kd.G (Kd.int .i64) 3 W 0 (fun k => n1 ≤ k ∧ k < n2) v3 l3
 r4 : Kd.G k97 97 W 0 (fun k => n1 ≤ k ∧ k < n2) v4 l4
section
variable {w W W1 : World} {gx g2 g3 g4 a b d n1 n2 : Nat} {v0 v1 v2 v3 v4 : Value} {l0 l1 l3 : List Int} {l2 l4 : List S97}
theorem StW.step (st : StW w gx g2 g3 g4 a b d v0 v1 v2 v3 v4 l0 l1 l2 l3 l4 n1 n2 W) (hB : Below w.heap.size w W1) (hs : W.heap.size ≤ W1.heap.size) (hm : ∀ k, k ≤ d → k ≠ gx → W1.heap[k]? = W.heap[k]?) : StW w gx g2 g3 g4 a b d v0 v1 v2 v3 v4 l0 l1 l2 l3 l4 n1 n2 W1 := by
 have n:=st.n
 have hG : ∀ k,n1 ≤ k ∧ k < n2 → k < W.heap.size → W1.heap[k]? = W.heap[k]?:=fun k hk _ => hm k (by omega) (by omega)
 exact ⟨hB,(hm g2 (by omega) (by omega)).trans st.b2,(hm g3 (by omega) (by omega)).trans st.b3,(hm g4 (by omega) (by omega)).trans st.b4,(hm a (by omega) (by omega)).trans st.ba,(hm b (by omega) (by omega)).trans st.bb,(hm d (by omega) (by omega)).trans st.bd,by omega,Kd.G_step st.r0 hG,Kd.G_step st.r1 hG,Kd.G_step st.r2 hG,Kd.G_step st.r3 hG,Kd.G_step st.r4 hG⟩
theorem StW.below (st : StW w gx g2 g3 g4 a b d v0 v1 v2 v3 v4 l0 l1 l2 l3 l4 n1 n2 W) (hb : Below W.heap.size W W1) : StW w gx g2 g3 g4 a b d v0 v1 v2 v3 v4 l0 l1 l2 l3 l4 n1 n2 W1 := st.step (below_step st.B hb) hb.size (fun k hk _ => hb.block k (by have := st.n; omega))
theorem StW.keep (st : StW w gx g2 g3 g4 a b d v0 v1 v2 v3 v4 l0 l1 l2 l3 l4 n1 n2 W) (hk : KeepBut W W1 gx none) {w0 : World} (hB : Below w0.heap.size w0 W1) (hw : Below w.heap.size w w0) : StW w gx g2 g3 g4 a b d v0 v1 v2 v3 v4 l0 l1 l2 l3 l4 n1 n2 W1 := st.step (below_step hw hB) hk.1 (fun k h1 h2 => hk.2 k (by have := st.n; omega) h2 (by simp))
theorem StW.fin (st : StW w gx g2 g3 g4 a b d v0 v1 v2 v3 v4 l0 l1 l2 l3 l4 n1 n2 W) {Wa Wb Wz : World} (h1 : Wa = W.setCell ⟨g2, 0, none⟩ v0) (h2 : Wb = (Wa.setCell ⟨g3, 0, none⟩ v1).setCell ⟨g3, 1, none⟩ v2) (h3 : Wz = (Wb.setCell ⟨g4, 0, none⟩ v3).setCell ⟨g4, 1, none⟩ v4) :
  (Wz.heap[g2]? = some (.cells #[v0] 65 (0,0)) ∧ Wz.heap[g3]? = some (.cells #[v1,v2] 46 (0,0)) ∧ Wz.heap[g4]? = some (.cells #[v3,v4] 46 (0,0))) ∧ Below w.heap.size w Wz ∧ (∀ k,k ≠ g2 ∧ k ≠ g3 ∧ k ≠ g4 → Wa.heap[k]? = W.heap[k]? ∧ Wb.heap[k]? = W.heap[k]? ∧ Wz.heap[k]? = W.heap[k]?) ∧ Wa.heap[g3]? = W.heap[g3]? ∧ Wb.heap[g4]? = W.heap[g4]?:=by
 subst h1
 subst h2
 subst h3
 have n:=st.n
 have n23 : g2 ≠ g3:=by omega
 have n24 : g2 ≠ g4:=by omega
 have n34 : g3 ≠ g4:=by omega
 have E2 : w.heap.size ≤ g2:=n.1
 have E3 : w.heap.size ≤ g3:=by omega
 have E4 : w.heap.size ≤ g4:=by omega
 refine ⟨⟨?_,?_,?_⟩,?_,fun k hk => ?_,?_,?_⟩
 ·exact zUb (zUb (zUb (zUb (blk_put st.b2 0 v0 rfl) (p:=⟨g3,0,none⟩) n23 _) (p:=⟨g3,1,none⟩) n23 _) (p:=⟨g4,0,none⟩) n24 _) (p:=⟨g4,1,none⟩) n24 _
 ·exact zUb (zUb (blk_put (cs:=#[v1,.slice none 0 0]) (blk_put (zUb st.b3 (p:=⟨g2,0,none⟩) (Ne.symm n23) _) 0 v1 rfl) 1 v2 rfl) (p:=⟨g4,0,none⟩) n34 _) (p:=⟨g4,1,none⟩) n34 _
 ·exact blk_put (cs:=#[v3,.slice none 0 0]) (blk_put (zUb (zUb (zUb st.b4 (p:=⟨g2,0,none⟩) (Ne.symm n24) _) (p:=⟨g3,0,none⟩) (Ne.symm n34) _) (p:=⟨g3,1,none⟩) (Ne.symm n34) _) 0 v3 rfl) 1 v4 rfl
 ·exact zB (zB (zB (zB (zB st.B E2) E3) E3) E4) E4
 ·have h1:=Below.heap_setCell W ⟨g2,0,none⟩ v0 k hk.1
  have h2:=(Below.heap_setCell _ ⟨g3,1,none⟩ v2 k hk.2.1).trans ((Below.heap_setCell _ ⟨g3,0,none⟩ v1 k hk.2.1).trans h1)
  exact ⟨h1,h2,(Below.heap_setCell _ ⟨g4,1,none⟩ v4 k hk.2.2).trans ((Below.heap_setCell _ ⟨g4,0,none⟩ v3 k hk.2.2).trans h2)⟩
 ·exact Below.heap_setCell W ⟨g2,0,none⟩ v0 g3 (Ne.symm n23)
 ·exact (Below.heap_setCell _ ⟨g3,1,none⟩ v2 g4 (Ne.symm n34)).trans ((Below.heap_setCell _ ⟨g3,0,none⟩ v1 g4 (Ne.symm n34)).trans (Below.heap_setCell W ⟨g2,0,none⟩ v0 g4 (Ne.symm n24)))
end

structure StL (w : World) (gf gt ga : Nat) (f0 f1 t0 t1 a0 a1 : Value) (W : World) : Prop where
 bf : W.heap[gf]? = some (.cells #[f0,f1] 46 (0,0))
 bt : W.heap[gt]? = some (.cells #[t0,t1] 46 (0,0))
 ba : W.heap[ga]? = some (.cells #[a0,a1] 97 (0,0))
 hb : Below w.heap.size w W
theorem StL.below {w : World} {gf gt ga : Nat} {f0 f1 t0 t1 a0 a1 : Value} {W W2 : World} (h : StL w gf gt ga f0 f1 t0 t1 a0 a1 W) (hb : Below W.heap.size W W2) : StL w gf gt ga f0 f1 t0 t1 a0 a1 W2 :=
 ⟨zQ h.bf hb,zQ h.bt hb,zQ h.ba hb,zJb h.hb hb⟩
theorem findSome_drop {α β : Type} (l : List α) (f : α → Option β) (i : Nat) (h : i < l.length) : (l.drop i).findSome? f = ((f l[i]).or ((l.drop (i + 1)).findSome? f)) := by
 rw [List.drop_eq_getElem_cons h,List.findSome?_cons]
 cases f l[i] <;> rfl
set_option maxHeartbeats 8000000 in
set_option maxRecDepth 100000 in
theorem l7Search_walk (Ah : Option Addr) (nh ch : Nat) (A1 : Option Addr) (c1 : Nat) (l1 : List S97) (Ai : Option Addr) (ni ci : Nat) (A2 : Option Addr) (c2 : Nat) (l2 : List S97) (hz : (l1.length ≤ 1048576 ∧ l2.length ≤ 1048576) ∧ (∀ x ∈ l1, x.f1.length ≤ 1048576) ∧ ∀ a ∈ l1, okTs a.f1) :
  ∀ (rest pre : List S97),l1 = pre ++ rest → ∀ (A3 : Option Addr) (c3 : Nat) (m : List Int) (w : World),m.length = 20 → m.length ≤ c3 → Kd.C (Kd.int .i64) w A3 m.length m → Kd.C k97 w A1 l1.length l1 → Kd.C k97 w A2 l2.length l2 →
  Calls Try.prog 136 #[.agg #[.slice Ah nh ch, .slice A1 l1.length c1], .agg #[.slice Ai ni ci, .slice A2 l2.length c2], .int .i64 (pre.length : Int), .slice A3 m.length c3] w fun e w' => ∃ (A : Option Addr) (c : Nat) (ys : List Int) (b : Bool), e = .returned (.tuple #[.slice A ys.length c, .bool b]) ∧ (Kd.C (Kd.int .i64) w' A ys.length ys ∧ ys.length ≤ c ∧ ys.length = 20) ∧ ((b = true ∧ mTry l2 rest m = some ys) ∨ (b = false ∧ mTry l2 rest m = none)) ∧ Below w.heap.size w w' := by
 intro rest
 induction rest with
 | nil =>
  intro pre he A3 c3 m w hm hc3 hr3 hr1 hr2
  have hu46:=Try.underlying46
  have hu97:=Try.underlying97
  have HZ:=zA hz
  have HE:=zA he
  have HM:=zA hm
  have HC3:=zA hc3
  have R3:=zA hr3
  have R1:=zA hr1
  have R2:=zA hr2
  have HB:=zA (Below.refl w.heap.size w)
  clear hm hc3 hr3 hr1 hr2 he hz
  have e1 : (pre.length : Int) = (l1.length : Int):=by have h:=HE.out;rw [h];simp
  go_enter Try.func136,Try.ntmps136
  go_wp2_with (first|((with_reducible refine gate_dst (N:=4) rfl ?_);refine hold ?_))
  unfold Hold
  refine zbx 4 #[.slice Ah nh ch,.slice A1 l1.length c1] 46 ?_
  intro gf hg w1 hbox hb
  have BF:=zA hbox
  replace HB:=zA (zJb HB.out hb)
  clear hbox hb hg
  go_wp2_with (first|((with_reducible refine gate_dst (N:=5) rfl ?_);refine hold ?_))
  unfold Hold
  refine zbx 5 #[.slice Ai ni ci,.slice A2 l2.length c2] 46 ?_
  intro gt hg w2 hbox hb
  have BT:=zA hbox
  replace BF:=zA (zQ BF.out hb)
  replace HB:=zA (zJb HB.out hb)
  clear hbox hb hg
  have hx1:=zc (.slice A1 l1.length c1) BF 1 rfl
  have e2 : ((pre.length : Int) == (l1.length : Int)) = true:=beq_iff_eq.mpr e1
  have e3 : decide ((pre.length : Int) = (l1.length : Int)) = true:=decide_eq_true e1
  clear e1
  go_wp2
  go_ret2
  exact ⟨A3,c3,m,true,rfl,⟨zKb R3.out HB.out,HC3.out,HM.out⟩,.inl ⟨rfl,rfl⟩,HB.out⟩
 | cons a rest ih =>
  intro pre he A3 c3 m w hm hc3 hr3 hr1 hr2
  have hu46:=Try.underlying46
  have hu97:=Try.underlying97
  have HZ:=zA hz
  have HE:=zA he
  have HM:=zA hm
  have HC3:=zA hc3
  have R3:=zA hr3
  have R1:=zA hr1
  have R2:=zA hr2
  have HB:=zA (Below.refl w.heap.size w)
  clear hm hc3 hr3 hr1 hr2 he hz
  have HI:=zA ih
  clear ih
  have HLT:=zA (show (pre.length : Int) < (l1.length : Int) from lt_of HE.out)
  have HRD:=zA (show rd_T97 l1 (pre.length : Int) = a from rdIA_of HE.out)
  have HIN:=zA (show a ∈ l1 from by rw [HE.out];simp)
  have HP:=zA (show (pre ++ [a]).length = pre.length + 1 from by simp)
  have HPE:=zA (show l1 = (pre ++ [a]) ++ rest from by rw [HE.out];simp)
  obtain ⟨ad1,Aa,ca,e_,hxa0,hxa1,hla,hia⟩:=at_T97 R1.out (pre.length : Int) (by omega) HLT.out
  cases e_
  rw [HRD.out] at hxa0 hxa1 hla hia
  have IA:=zA hia
  have LA:=zA hla
  clear hla hia
  have p5:=eq_true (show 0 ≤ (pre.length : Int) by omega)
  have q5:=eq_true HLT.out
  generalize hi_ : (pre.length : Int) = ix at hxa0 hxa1 p5 q5 HLT ⊢
  have HIX:=zA hi_
  clear hi_
  have ne1 : (ix == (l1.length : Int)) = false:=beq_eq_false_iff_ne.mpr (by have h:=HLT.out;omega)
  have ne2 : decide (ix = (l1.length : Int)) = false:=decide_eq_false (by have h:=HLT.out;omega)
  go_enter Try.func136,Try.ntmps136
  go_wp2_with (first|((with_reducible refine gate_dst (N:=4) rfl ?_);refine hold ?_))
  unfold Hold
  refine zbx 4 #[.slice Ah nh ch,.slice (some ad1) l1.length c1] 46 ?_
  intro gf hg w1 hbox hb
  have BF:=zA hbox
  replace HB:=zA (zJb HB.out hb)
  replace hxa0:=(hb.cell (World.block_lt_of_cell? _ _ hxa0)).trans hxa0
  replace hxa1:=(hb.cell (World.block_lt_of_cell? _ _ hxa1)).trans hxa1
  clear hbox hb hg
  go_wp2_with (first|((with_reducible refine gate_dst (N:=5) rfl ?_);refine hold ?_))
  unfold Hold
  refine zbx 5 #[.slice Ai ni ci,.slice A2 l2.length c2] 46 ?_
  intro gt hg w2 hbox hb
  have BT:=zA hbox
  replace BF:=zA (zQ BF.out hb)
  replace HB:=zA (zJb HB.out hb)
  replace hxa0:=(hb.cell (World.block_lt_of_cell? _ _ hxa0)).trans hxa0
  replace hxa1:=(hb.cell (World.block_lt_of_cell? _ _ hxa1)).trans hxa1
  clear hbox hb hg
  have hx1:=zc (.slice (some ad1) l1.length c1) BF 1 rfl
  go_wp2_with (first|((with_reducible refine gate_dst (N:=10) rfl ?_);refine hold ?_))
  unfold Hold
  refine zbx 10 #[.int .i64 0,.slice none 0 0] 97 ?_
  intro ga hg w3 hbox hb
  have BA_:=zA hbox
  have HG_:=zA hg
  have HB5:=zA hb
  clear hbox hg hb
  have hy0:=zc (.int .i64 0) BA_ 0 rfl
  have hy1:=zc (.slice none 0 0) BA_ 1 rfl
  have hf0:=blk_frozen BA_.out 0
  have hf1:=blk_frozen BA_.out 1
  go_wp2_with (first|((with_reducible refine gate_store (t:=97) (p:=10) rfl ?_);refine hold ?_))
  unfold Hold
  refine store_event (t:=97) (p:=10) (v:=?vo_2) (w1:=((w3.setCell ⟨ga,0,none⟩ (.int .i64 a.f0)).setCell ⟨ga,1,none⟩ (.slice Aa a.f1.length ca))) ?hgs2 ?ho2 ?hn2 ?hrs2 ?_
  case ho2 => rfl
  case hgs2 => rfl
  case hn2 => rfl
  case hrs2 => first|(go_simp;done)|(go_simp;rfl)
  intro w4 hw
  have hb : Below w2.heap.size w2 w4:=by rw [hw];exact (zB (zB HB5.out (by rw [HG_.out];exact Nat.le_refl _)) (by rw [HG_.out];exact Nat.le_refl _))
  have BN:=zA (show w4.heap[ga]? = some (.cells #[.int .i64 a.f0,.slice Aa a.f1.length ca] 97 (0,0)) from by rw [hw];exact (blk_put (cs:=#[.int .i64 a.f0,.slice none 0 0]) (blk_put (cs:=#[.int .i64 0,.slice none 0 0]) BA_.out 0 _ rfl) 1 _ rfl))
  have ST:=zA (show StL w gf gt ga (.slice Ah nh ch) (.slice (some ad1) l1.length c1) (.slice Ai ni ci) (.slice A2 l2.length c2) (.int .i64 a.f0) (.slice Aa a.f1.length ca) w4 from ⟨zQ BF.out hb,zQ BT.out hb,BN.out,zJb HB.out hb⟩)
  clear hw hb HB5 HG_ BA_ hy0 hf0 hy1 hf1
  clear BN BF BT HB hx1 hxa0 hxa1
  have hx1 : w4.cell? ⟨gt,1,none⟩ = some (.slice A2 l2.length c2):=(zP ST.out.bt 1).trans rfl
  go_wp2
  go_loopg [11] l2.length (fun kq v11 w' => ∃ x : Int,v11 = .int .i64 x ∧ Aside0 (0 ≤ x ∧ kq + x.toNat = l2.length) ∧ Aside0 ((l2.drop x.toNat).findSome? (fun b => if a.f0 = b.f0 ∧ a.f1.length = b.f1.length ∧ (mUni a.f1 b.f1 m).2 = true then mTry l2 rest (mUni a.f1 b.f1 m).1 else none) = l2.findSome? (fun b => if a.f0 = b.f0 ∧ a.f1.length = b.f1.length ∧ (mUni a.f1 b.f1 m).2 = true then mTry l2 rest (mUni a.f1 b.f1 m).1 else none)) ∧ Aside0 (StL w gf gt ga (.slice Ah nh ch) (.slice (some ad1) l1.length c1) (.slice Ai ni ci) (.slice A2 l2.length c2) (.int .i64 a.f0) (.slice Aa a.f1.length ca) w'))
  case atStart => exact ⟨0,rfl,⟨⟨Int.le_refl _,rfl⟩⟩,⟨by rw [show (0 : Int).toNat = 0 from rfl,List.drop_zero]⟩,ST⟩
  case round =>
   clear ST hx1
   obtain ⟨x,rfl,HG,HF,ST⟩:=hrel
   have hx1 : wr.cell? ⟨gt,1,none⟩ = some (.slice A2 l2.length c2):=(zP ST.out.bt 1).trans rfl
   by_cases c6 : x < (l2.length : Int)
   ·have c6b0 : decide (x < (l2.length : Int)) = true:=decide_eq_true c6
    have p5 : 0 ≤ x:=HG.out.1
    have hlt : x.toNat < l2.length:=by omega
    have HLT2:=zA hlt
    obtain ⟨ad2,Ab,cb,e_,hxb0,hxb1,hlb,hib⟩:=at_T97 (zKb R2.out ST.out.hb) x p5 c6
    cases e_
    have IB:=zA hib
    have LB:=zA hlb
    have e1 : rd_T97 l2 x = l2[x.toNat]:=by show l2.getD x.toNat _ = _;rw [List.getD_eq_getElem?_getD,List.getElem?_eq_getElem hlt];rfl
    have HFS:=zA (show (l2.drop x.toNat).findSome? (fun b => if a.f0 = b.f0 ∧ a.f1.length = b.f1.length ∧ (mUni a.f1 b.f1 m).2 = true then mTry l2 rest (mUni a.f1 b.f1 m).1 else none) = (((fun b => if a.f0 = b.f0 ∧ a.f1.length = b.f1.length ∧ (mUni a.f1 b.f1 m).2 = true then mTry l2 rest (mUni a.f1 b.f1 m).1 else none) (rd_T97 l2 x)).or ((l2.drop (x.toNat + 1)).findSome? (fun b => if a.f0 = b.f0 ∧ a.f1.length = b.f1.length ∧ (mUni a.f1 b.f1 m).2 = true then mTry l2 rest (mUni a.f1 b.f1 m).1 else none))) from by rw [e1];exact findSome_drop l2 _ x.toNat hlt)
    clear hib hlb hlt e1
    replace p5:=eq_true p5
    replace c6:=eq_true c6
    generalize rd_T97 l2 x = el at *
    go_wp2_with (first|((with_reducible refine gate_dst (N:=12) rfl ?_);refine hold ?_))
    unfold Hold
    refine zbx 12 #[.int .i64 0,.slice none 0 0] 97 ?_
    intro gb hg w7 hbox hb
    have BA_:=zA hbox
    have HG_:=zA hg
    have HB5:=zA hb
    clear hbox hg hb
    have hy0:=zc (.int .i64 0) BA_ 0 rfl
    have hy1:=zc (.slice none 0 0) BA_ 1 rfl
    have hf0:=blk_frozen BA_.out 0
    have hf1:=blk_frozen BA_.out 1
    go_wp2_with (first|((with_reducible refine gate_store (t:=97) (p:=12) rfl ?_);refine hold ?_))
    unfold Hold
    refine store_event (t:=97) (p:=12) (v:=?vo_3) (w1:=((w7.setCell ⟨gb,0,none⟩ (.int .i64 el.f0)).setCell ⟨gb,1,none⟩ (.slice Ab el.f1.length cb))) ?hgs3 ?ho3 ?hn3 ?hrs3 ?_
    case ho3 => rfl
    case hgs3 => rfl
    case hn3 => rfl
    case hrs3 => first|(go_simp;done)|(go_simp;rfl)
    intro w8 hw
    have hb : Below wr.heap.size wr w8:=by rw [hw];exact (zB (zB HB5.out (by rw [HG_.out];exact Nat.le_refl _)) (by rw [HG_.out];exact Nat.le_refl _))
    have BN:=zA (show w8.heap[gb]? = some (.cells #[.int .i64 el.f0,.slice Ab el.f1.length cb] 97 (0,0)) from by rw [hw];exact (blk_put (cs:=#[.int .i64 el.f0,.slice none 0 0]) (blk_put (cs:=#[.int .i64 0,.slice none 0 0]) BA_.out 0 _ rfl) 1 _ rfl))
    replace ST:=zA (ST.out.below hb)
    replace IB:=zA (zKb IB.out hb)
    clear hw hb HB5 HG_ BA_ hy0 hf0 hy1 hf1
    clear hx1 hxb0 hxb1
    have hx0 : w8.cell? ⟨ga,0,none⟩ = some (.int .i64 a.f0):=(zP ST.out.ba 0).trans rfl
    have hx1 : w8.cell? ⟨ga,1,none⟩ = some (.slice Aa a.f1.length ca):=(zP ST.out.ba 1).trans rfl
    have hx2:=zc (.int .i64 el.f0) BN 0 rfl
    have hx3:=zc (.slice Ab el.f1.length cb) BN 1 rfl
    by_cases d1 : a.f0 = el.f0
    ·have D1:=zA d1
     have d1a : (a.f0 != el.f0) = false:=bne_eq_false_iff_eq.mpr d1
     have d1b : (a.f0 == el.f0) = true:=beq_iff_eq.mpr d1
     have d1c : decide (a.f0 = el.f0) = true:=decide_eq_true d1
     clear d1
     by_cases d2 : (a.f1.length : Int) = (el.f1.length : Int)
     ·have D2:=zA (show a.f1.length = el.f1.length from by omega)
      have d2a : ((a.f1.length : Int) != (el.f1.length : Int)) = false:=bne_eq_false_iff_eq.mpr d2
      have d2b : ((a.f1.length : Int) == (el.f1.length : Int)) = true:=beq_iff_eq.mpr d2
      have d2c : decide ((a.f1.length : Int) = (el.f1.length : Int)) = true:=decide_eq_true d2
      clear d2
      obtain ⟨ku,hku⟩:=(l7Unify_ev a.f1 el.f1 m D2.out HM.out (HZ.out.2.2 a HIN.out) (HZ.out.2.1 a HIN.out)).rounds
      have HKU:=zA hku
      have HUL:=zA (show (mUni a.f1 el.f1 m).1.length = 20 from by rw [mUni_len];exact HM.out)
      clear hku
      go_wp2_with (first|(go_at_call 135;refine hold ?_))
      unfold Hold
      refine (spec_l7Unify.calls ku Aa ca a.f1 Ab cb el.f1 A3 c3 m _ _ _ (zKb IA.out ST.out.hb) LA.out IB.out LB.out (zKb R3.out ST.out.hb) HC3.out HKU.out).mono ?_
      rintro e w9 ⟨vu,rfl,hou,hb⟩
      obtain ⟨Au,cu,rfl⟩:=Kd.R_slice hou
      replace ST:=zA (ST.out.below hb)
      have OU:=zA hou
      clear hb hou hx0 hx1 hx2 hx3 BN IB LB HKU
      cases hu2 : (mUni a.f1 el.f1 m).2
      ·have HU2:=zA hu2
       clear hu2
       have HX:=zA (show (l2.drop (x.toNat + 1)).findSome? (fun b => if a.f0 = b.f0 ∧ a.f1.length = b.f1.length ∧ (mUni a.f1 b.f1 m).2 = true then mTry l2 rest (mUni a.f1 b.f1 m).1 else none) = l2.findSome? (fun b => if a.f0 = b.f0 ∧ a.f1.length = b.f1.length ∧ (mUni a.f1 b.f1 m).2 = true then mTry l2 rest (mUni a.f1 b.f1 m).1 else none) from by rw [← HF.out,HFS.out];rw [if_neg (by rw [HU2.out];simp)];rfl)
       go_wp2
       go_roundg (l2.length - (x.toNat + 1))
       case measure => have:=HG.out;have:=HLT2.out;omega
       case rel => exact ⟨(wrap64 (x + 1)),rfl,⟨by have:=HG.out;have:=HLT2.out;have h4:=HZ.out.1;rw [w64 (by omega) (by omega)];omega⟩,⟨by rw [w64 (by have:=HG.out;omega) (by have h4:=HZ.out.1;have:=HLT2.out;omega),show (x + 1).toNat = x.toNat + 1 by have:=HG.out;omega];exact HX.out⟩,ST⟩
      ·have HU2:=zA hu2
       clear hu2
       have HFE:=zA (show (fun b => if a.f0 = b.f0 ∧ a.f1.length = b.f1.length ∧ (mUni a.f1 b.f1 m).2 = true then mTry l2 rest (mUni a.f1 b.f1 m).1 else none) el = mTry l2 rest (mUni a.f1 el.f1 m).1 from if_pos ⟨D1.out,D2.out,HU2.out⟩)
       have hx0 : w9.cell? ⟨gf,0,none⟩ = some (.slice Ah nh ch):=(zP ST.out.bf 0).trans rfl
       have hx1 : w9.cell? ⟨gf,1,none⟩ = some (.slice (some ad1) l1.length c1):=(zP ST.out.bf 1).trans rfl
       have hx2 : w9.cell? ⟨gt,0,none⟩ = some (.slice Ai ni ci):=(zP ST.out.bt 0).trans rfl
       have hx3 : w9.cell? ⟨gt,1,none⟩ = some (.slice (some ad2) l2.length c2):=(zP ST.out.bt 1).trans rfl
       have ew : wrap64 (ix + 1) = ((pre ++ [a]).length : Int):=by rw [HP.out,← HIX.out];have h4:=HZ.out.1;have h5:=HLT.out;have h6:=HIX.out;rw [w64 (by omega) (by omega)];omega
       have EW:=zA ew
       clear ew
       go_wp2_with (first|(go_at_call 136;refine hold ?_))
       unfold Hold
       rw [EW.out]
       refine (HI.out (pre ++ [a]) HPE.out Au cu (mUni a.f1 el.f1 m).1 _ HUL.out (Kd.R_reads' OU.out).2.1 (Kd.R_reads' OU.out).2.2 (zKb R1.out ST.out.hb) (zKb R2.out ST.out.hb)).mono ?_
       rintro e w10 ⟨Ay,cy,ys,b,rfl,⟨hy1,hy2,hy3⟩,hyb,hb⟩
       replace ST:=zA (ST.out.below hb)
       clear hb hx0 hx1 hx2 hx3 OU
       have Y1:=zA hy1
       have Y2:=zA (show ys.length ≤ cy ∧ ys.length = 20 from ⟨hy2,hy3⟩)
       clear hy1 hy2 hy3
       rcases hyb with ⟨rfl,hyb⟩|⟨rfl,hyb⟩
       ·have HX:=zA (show mTry l2 (a :: rest) m = some ys from by show l2.findSome? (fun b => if a.f0 = b.f0 ∧ a.f1.length = b.f1.length ∧ (mUni a.f1 b.f1 m).2 = true then mTry l2 rest (mUni a.f1 b.f1 m).1 else none) = _;rw [← HF.out,HFS.out,HFE.out,hyb];rfl)
        clear hyb
        go_wp2
        go_ret2
        exact ⟨Ay,cy,ys,true,rfl,⟨Y1.out,Y2.out.1,Y2.out.2⟩,.inl ⟨rfl,HX.out⟩,ST.out.hb⟩
       ·have HYN:=zA hyb
        clear hyb
        have HX:=zA (show (l2.drop (x.toNat + 1)).findSome? (fun b => if a.f0 = b.f0 ∧ a.f1.length = b.f1.length ∧ (mUni a.f1 b.f1 m).2 = true then mTry l2 rest (mUni a.f1 b.f1 m).1 else none) = l2.findSome? (fun b => if a.f0 = b.f0 ∧ a.f1.length = b.f1.length ∧ (mUni a.f1 b.f1 m).2 = true then mTry l2 rest (mUni a.f1 b.f1 m).1 else none) from by rw [← HF.out,HFS.out];rw [HFE.out,HYN.out];rfl)
        go_wp2
        go_roundg (l2.length - (x.toNat + 1))
        case measure => have:=HG.out;have:=HLT2.out;omega
        case rel => exact ⟨(wrap64 (x + 1)),rfl,⟨by have:=HG.out;have:=HLT2.out;have h4:=HZ.out.1;rw [w64 (by omega) (by omega)];omega⟩,⟨by rw [w64 (by have:=HG.out;omega) (by have h4:=HZ.out.1;have:=HLT2.out;omega),show (x + 1).toNat = x.toNat + 1 by have:=HG.out;omega];exact HX.out⟩,ST⟩
     ·have D2:=zA (show ¬ a.f1.length = el.f1.length from by omega)
      have d2a : ((a.f1.length : Int) != (el.f1.length : Int)) = true:=bne_iff_ne.mpr d2
      have d2b : ((a.f1.length : Int) == (el.f1.length : Int)) = false:=beq_eq_false_iff_ne.mpr d2
      have d2c : decide ((a.f1.length : Int) = (el.f1.length : Int)) = false:=decide_eq_false d2
      clear d2
      have HX:=zA (show (l2.drop (x.toNat + 1)).findSome? (fun b => if a.f0 = b.f0 ∧ a.f1.length = b.f1.length ∧ (mUni a.f1 b.f1 m).2 = true then mTry l2 rest (mUni a.f1 b.f1 m).1 else none) = l2.findSome? (fun b => if a.f0 = b.f0 ∧ a.f1.length = b.f1.length ∧ (mUni a.f1 b.f1 m).2 = true then mTry l2 rest (mUni a.f1 b.f1 m).1 else none) from by rw [← HF.out,HFS.out];rw [if_neg (fun h => D2.out h.2.1)];rfl)
      go_wp2
      go_roundg (l2.length - (x.toNat + 1))
      case measure => have:=HG.out;have:=HLT2.out;omega
      case rel => exact ⟨(wrap64 (x + 1)),rfl,⟨by have:=HG.out;have:=HLT2.out;have h4:=HZ.out.1;rw [w64 (by omega) (by omega)];omega⟩,⟨by rw [w64 (by have:=HG.out;omega) (by have h4:=HZ.out.1;have:=HLT2.out;omega),show (x + 1).toNat = x.toNat + 1 by have:=HG.out;omega];exact HX.out⟩,ST⟩
    ·have D1:=zA d1
     have d1a : (a.f0 != el.f0) = true:=bne_iff_ne.mpr d1
     have d1b : (a.f0 == el.f0) = false:=beq_eq_false_iff_ne.mpr d1
     have d1c : decide (a.f0 = el.f0) = false:=decide_eq_false d1
     clear d1
     have HX:=zA (show (l2.drop (x.toNat + 1)).findSome? (fun b => if a.f0 = b.f0 ∧ a.f1.length = b.f1.length ∧ (mUni a.f1 b.f1 m).2 = true then mTry l2 rest (mUni a.f1 b.f1 m).1 else none) = l2.findSome? (fun b => if a.f0 = b.f0 ∧ a.f1.length = b.f1.length ∧ (mUni a.f1 b.f1 m).2 = true then mTry l2 rest (mUni a.f1 b.f1 m).1 else none) from by rw [← HF.out,HFS.out];rw [if_neg (fun h => D1.out h.1)];rfl)
     go_wp2
     go_roundg (l2.length - (x.toNat + 1))
     case measure => have:=HG.out;have:=HLT2.out;omega
     case rel => exact ⟨(wrap64 (x + 1)),rfl,⟨by have:=HG.out;have:=HLT2.out;have h4:=HZ.out.1;rw [w64 (by omega) (by omega)];omega⟩,⟨by rw [w64 (by have:=HG.out;omega) (by have h4:=HZ.out.1;have:=HLT2.out;omega),show (x + 1).toNat = x.toNat + 1 by have:=HG.out;omega];exact HX.out⟩,ST⟩
   ·have c6b0 : decide (x < (l2.length : Int)) = false:=decide_eq_false c6
    have HX:=zA (show mTry l2 (a :: rest) m = none from by show l2.findSome? (fun b => if a.f0 = b.f0 ∧ a.f1.length = b.f1.length ∧ (mUni a.f1 b.f1 m).2 = true then mTry l2 rest (mUni a.f1 b.f1 m).1 else none) = _;rw [← HF.out,List.drop_eq_nil_of_le (by omega)];rfl)
    clear c6
    go_wp2
    go_ret2
    exact ⟨A3,c3,m,false,rfl,⟨zKb R3.out ST.out.hb,HC3.out,HM.out⟩,.inr ⟨rfl,HX.out⟩,ST.out.hb⟩

theorem eqnil_in {P : Program} (d : Nat) {t e : TypeId} (hu : P.underlying t = some (.slice e)) (A : Option Addr) (n c : Nat) (W : World) : (Op.equalIn (d + 1) t (.slice A n c) (.slice none 0 0)).run P W = .ok A.isNone W := by
 unfold Op.equalIn
 cases A <;> simp only [Sem.run_bind,run_underlying hu,Result.andThen_ok] <;> rfl
theorem eqnil {P : Program} {t e : TypeId} (hu : P.underlying t = some (.slice e)) (A : Option Addr) (n c : Nat) (W : World) : (binOp BinOp.eql t (.slice A n c) (.slice none 0 0)).run P W = .ok (.bool A.isNone) W := by
 have h : (Op.equal t (.slice A n c) (.slice none 0 0)).run P W = .ok A.isNone W:=eqnil_in 9999 hu A n c W
 unfold binOp
 simp [go_sem,h]
theorem nenil {P : Program} {t e : TypeId} (hu : P.underlying t = some (.slice e)) (A : Option Addr) (n c : Nat) (W : World) : (binOp BinOp.neq t (.slice A n c) (.slice none 0 0)).run P W = .ok (.bool (!A.isNone)) W := by
 have h : (Op.equal t (.slice A n c) (.slice none 0 0)).run P W = .ok A.isNone W:=eqnil_in 9999 hu A n c W
 unfold binOp
 simp [go_sem,h]
theorem run_store_func {P : Program} {w : World} {a : Addr} {m : Mode} (fn : Fn) (first cap : Array Value) : (store a (.func fn first cap) m).run P w = stored P w a (.func fn first cap) m := run_store P w a _ m rfl
attribute [local go_sem] run_store_func

set_option maxHeartbeats 8000000 in
set_option maxRecDepth 100000 in
theorem l7Find_calls (A0_0 : Option Addr) (c0_0 : Nat) (l0_0 : List Int) (A0_1 : Option Addr) (c0_1 : Nat) (l0_1 : List (S97)) (A1_0 : Option Addr) (c1_0 : Nat) (l1_0 : List Int) (A1_1 : Option Addr) (c1_1 : Nat) (l1_1 : List (S97)) (w : World) (hr0_0 : Kd.C (Kd.int .i64) w A0_0 l0_0.length l0_0) (hc0_0 : l0_0.length ≤ c0_0) (hr0_1 : Kd.C k97 w A0_1 l0_1.length l0_1) (hc0_1 : l0_1.length ≤ c0_1) (hr1_0 : Kd.C (Kd.int .i64) w A1_0 l1_0.length l1_0) (hc1_0 : l1_0.length ≤ c1_0) (hr1_1 : Kd.C k97 w A1_1 l1_1.length l1_1) (hc1_1 : l1_1.length ≤ c1_1) (hz : (l0_0.length ≤ 1048576 ∧ l0_1.length ≤ 1048576 ∧ l1_1.length ≤ 1048576) ∧ (∀ x ∈ l0_1, x.f1.length ≤ 1048576) ∧ okTs l0_0 ∧ ∀ a ∈ l0_1, okTs a.f1) :
  Calls Try.prog 105 #[.agg #[.slice A0_0 l0_0.length c0_0, .slice A0_1 l0_1.length c0_1], .agg #[.slice A1_0 l1_0.length c1_0, .slice A1_1 l1_1.length c1_1]] w fun e w' => ∃ v : Value, e = .returned (.tuple #[v, .bool (mFind l0_0 l0_1 l1_0 l1_1).2]) ∧ Kd.R (Kd.int .i64) 3 w' w.heap.size (fun _ => True) v (mFind l0_0 l0_1 l1_0 l1_1).1 ∧ Below w.heap.size w w' := by
 obtain ⟨k0,hk0⟩:=l7Empty_ev.rounds
 have K0:=zA hk0
 clear hk0
 have hu46:=Try.underlying46
 have hnn : ∀ W : World,(binOp BinOp.eql 38 (.slice none 0 0) (.slice none 0 0)).run Try.prog W = .ok (.bool true) W:=fun W => eqnil Try.underlying38 none 0 0 W
 have hns : ∀ (g : Addr) (n c : Nat) (W : World),(binOp BinOp.eql 38 (.slice (some g) n c) (.slice none 0 0)).run Try.prog W = .ok (.bool false) W:=fun g n c W => eqnil Try.underlying38 (some g) n c W
 have hmf : ∀ (fn : Fn) (first cap : Array Value) (w : World),(Instr.makeFunc fn first cap).run Try.prog w = .ok (.func fn first cap) w:=fun _ _ _ _ => rfl
 have HR0:=zA hr0_0
 have HR1:=zA hr0_1
 have HT0:=zA hr1_0
 have HT1:=zA hr1_1
 have HC:=zA (show l0_0.length ≤ c0_0 ∧ l0_1.length ≤ c0_1 ∧ l1_0.length ≤ c1_0 ∧ l1_1.length ≤ c1_1 from ⟨hc0_0,hc0_1,hc1_0,hc1_1⟩)
 have HZ:=zA hz
 have HB:=zA (Below.refl w.heap.size w)
 clear hr0_0 hr0_1 hr1_0 hr1_1 hc0_0 hc0_1 hc1_0 hc1_1 hz
 go_enter Try.func105,Try.ntmps105
 go_wp2_with (first|((with_reducible refine gate_dst (N:=2) rfl ?_);refine hold ?_))
 unfold Hold
 refine zbx 2 #[.slice A0_0 l0_0.length c0_0,.slice A0_1 l0_1.length c0_1] 46 ?_
 intro gf hg w1 hbox hb
 have Bgf:=zA hbox
 replace HB:=zA (zJb HB.out hb)
 clear hbox hb hg
 go_wp2_with (first|((with_reducible refine gate_dst (N:=3) rfl ?_);refine hold ?_))
 unfold Hold
 refine zbx 3 #[.slice A1_0 l1_0.length c1_0,.slice A1_1 l1_1.length c1_1] 46 ?_
 intro gt hg w2 hbox hb
 have Bgt:=zA hbox
 replace Bgf:=zA (zQ Bgf.out hb)
 replace HB:=zA (zJb HB.out hb)
 clear hbox hb hg
 have hx0:=zc (.slice A0_0 l0_0.length c0_0) Bgf 0 rfl
 have hx1:=zc (.slice A1_0 l1_0.length c1_0) Bgt 0 rfl
 by_cases d1 : (l0_0.length : Int) = (l1_0.length : Int)
 ·have D1:=zA (show l0_0.length = l1_0.length from by omega)
  have d1a : ((l0_0.length : Int) != (l1_0.length : Int)) = false:=bne_eq_false_iff_eq.mpr d1
  have d1b : ((l0_0.length : Int) == (l1_0.length : Int)) = true:=beq_iff_eq.mpr d1
  have d1c : decide ((l0_0.length : Int) = (l1_0.length : Int)) = true:=decide_eq_true d1
  clear d1
  obtain ⟨ku,hku⟩:=(l7Unify_ev l0_0 l1_0 mNone D1.out mNone_len HZ.out.2.2.1 HZ.out.1.1).rounds
  have KU:=zA hku
  have HUL:=zA (show (mUni l0_0 l1_0 mNone).1.length = 20 from mUni_len _ _ _)
  clear hku
  try go_wp2
  have hD : Below w2.heap.size w2 w2.drew:=below_drew (Below.refl _ _)
  replace Bgf:=zA (zQ Bgf.out hD)
  replace Bgt:=zA (zQ Bgt.out hD)
  replace HB:=zA (zJb HB.out hD)
  clear hD hx0 hx1
  refine start_ (n:=11) (S:=fun w' => w'.cell? ⟨gf,0,none⟩ = some (.slice A0_0 l0_0.length c0_0) ∧ w'.cell? ⟨gt,0,none⟩ = some (.slice A1_0 l1_0.length c1_0)) (ds:=[]) #[yf,yf,yf,yf,yf,yf,yf,yf,yf,yf,yf] (by kernel_rfl) rfl rfl ⟨(zP Bgf.out 0).trans rfl,(zP Bgt.out 0).trans rfl⟩ (fun hHeld => ?_)
  generalize w2.drew = w3 at Bgf Bgt HB hHeld ⊢
  refine zu 0 19 ?_;refine zu 2 21 ?_;refine zw 1 20 hHeld ?_;refine zw 3 22 hHeld ?_
  refine one_ (i:=4) (N:=some 23) #[yt,yt,yt,yt,yt,yf,yf,yf,yf,yf,yf] rfl rfl (by kernel_rfl) (by decide) (fun K hK => ?_)
  refine goes_ Try.func108 (by kernel_rfl) rfl #[] (by rfl) rfl rfl (by (try simp only [zCb,zMb,zNb]);first|done|rfl) ?_
  with_reducible refine (spec_l7Empty.calls k0 mNone _ K0.out).mono ?_
  rintro e w4 ⟨ve,rfl,hoe,hb⟩
  refine ⟨_,rfl,?_⟩
  obtain ⟨Ae,ce,rfl⟩:=Kd.R_slice hoe
  have OE:=zA hoe
  replace Bgf:=zA (zQ Bgf.out hb)
  replace Bgt:=zA (zQ Bgt.out hb)
  replace HB:=zA (zJb HB.out hb)
  clear hb hoe
  refine hK.out _ _ ⟨(zP Bgf.out 0).trans rfl,(zP Bgt.out 0).trans rfl⟩ (fun hHeld => ?_)
  clear hK K
  refine norm_ (a':=?_) ?_ ?_
  rotate_left
  ·show Act.put _ (some 23) _ = _;simp only [Act.put,zO,zEb,zFb,i64_w,i32_w];rfl
  refine one_ (i:=5) (N:=some 24) #[yt,yt,yt,yt,yt,yt,yf,yf,yf,yf,yf] rfl rfl (by kernel_rfl) (by decide) (fun K hK => ?_)
  refine goes_ Try.func135 (by kernel_rfl) rfl #[.slice A0_0 l0_0.length c0_0,.slice A1_0 l1_0.length c1_0,.slice Ae mNone.length ce] (by rfl) rfl rfl (by (try simp only [zCb,zMb,zNb]);first|done|rfl) ?_
  with_reducible refine (spec_l7Unify.calls ku A0_0 c0_0 l0_0 A1_0 c1_0 l1_0 Ae ce mNone _ _ _ (zKb HR0.out HB.out) HC.out.1 (zKb HT0.out HB.out) HC.out.2.2.1 (Kd.R_reads' OE.out).2.2 (Kd.R_reads' OE.out).2.1 KU.out).mono ?_
  rintro e w5 ⟨vu,rfl,hou,hb⟩
  refine ⟨_,rfl,?_⟩
  obtain ⟨Au,cu,rfl⟩:=Kd.R_slice hou
  have OU:=zA hou
  replace Bgf:=zA (zQ Bgf.out hb)
  replace Bgt:=zA (zQ Bgt.out hb)
  replace HB:=zA (zJb HB.out hb)
  clear hb hou OE
  refine hK.out _ _ ⟨(zP Bgf.out 0).trans rfl,(zP Bgt.out 0).trans rfl⟩ (fun hHeld => ?_)
  clear hK K
  refine norm_ (a':=?_) ?_ ?_
  rotate_left
  ·show Act.put _ (some 24) _ = _;simp only [Act.put,zO,zEb,zFb,i64_w,i32_w];rfl
  refine zu 6 18 ?_;refine zu 7 25 ?_;refine zu 8 26 ?_;refine zu 9 6 ?_;refine zu 10 7 ?_
  refine done_ (by kernel_rfl) ?_
  cases hu2 : (mUni l0_0 l1_0 mNone).2
  ·have EM:=zA (show mFind l0_0 l0_1 l1_0 l1_1 = ([],false) from by unfold mFind;rw [if_neg (by rw [hu2];simp)])
   clear hu2
   go_wp2_with (first|((with_reducible refine gate_dst (N:=29) rfl ?_);refine hold ?_))
   unfold Hold
   refine Kd.R_lit (Kd.int .i64) _ 3 ?hgla (N:=29) ?hdla (xs:=([] : List Int)) (inner:=[]) (ok:=fun _ => True) (okp:=fun _ => True) ?hrla ?hpla (fun _ hk => hk) trivial (Below.refl _ _) (Nat.le_refl _) (by simp) ?_
   case hdla => rfl
   case hgla => rfl
   case hrla => first|(go_simp;done)|(go_simp;rfl)
   case hpla => exact (Reps.none _ _)
   intro vl wl ho hb hg_ hnew_
   clear hg_ hnew_
   have OL:=zA (zHb ho HB.out.size)
   have BL:=zA (zJb HB.out hb)
   clear ho hb
   go_wp2
   go_ret2
   exact ⟨_,by rw [EM.out];rfl,by rw [EM.out];exact OL.out,BL.out⟩
  ·have HU2:=zA hu2
   clear hu2
   have hx0:=zc (.slice A0_0 l0_0.length c0_0) Bgf 0 rfl
   have hx1:=zc (.slice A0_1 l0_1.length c0_1) Bgf 1 rfl
   have hx2:=zc (.slice A1_0 l1_0.length c1_0) Bgt 0 rfl
   have hx3:=zc (.slice A1_1 l1_1.length c1_1) Bgt 1 rfl
   go_wp2_with (first|(go_at_call 136;refine hold ?_))
   unfold Hold
   refine (l7Search_walk A0_0 l0_0.length c0_0 A0_1 c0_1 l0_1 A1_0 l1_0.length c1_0 A1_1 c1_1 l1_1 ⟨HZ.out.1.2,HZ.out.2.1,HZ.out.2.2.2⟩ l0_1 [] rfl Au cu (mUni l0_0 l1_0 mNone).1 _ HUL.out (Kd.R_reads' OU.out).2.1 (Kd.R_reads' OU.out).2.2 (zKb HR1.out HB.out) (zKb HT1.out HB.out)).mono ?_
   rintro e w6 ⟨Ay,cy,ys,b,rfl,⟨hy1,hy2,hy3⟩,hyb,hb⟩
   replace HB:=zA (zJb HB.out hb)
   clear hb hx0 hx1 hx2 hx3 OU Bgf Bgt
   have Y1:=zA hy1
   have Y3:=zA hy3
   clear hy1 hy2 hy3
   rcases hyb with ⟨rfl,hyb⟩|⟨rfl,hyb⟩
   ·have EM:=zA (show mFind l0_0 l0_1 l1_0 l1_1 = (ys,true) from mFind_some D1.out HU2.out hyb)
    clear hyb
    go_wp2_with (first|((with_reducible refine gate_dst (N:=40) rfl ?_);refine hold ?_))
    unfold Hold
    refine Kd.R_lit (Kd.int .i64) _ 3 ?hglc (N:=40) ?hdlc (xs:=([] : List Int)) (inner:=[]) (ok:=fun _ => True) (okp:=fun _ => True) ?hrlc ?hplc (fun _ hk => hk) trivial (Below.refl _ _) (Nat.le_refl _) (by simp) ?_
    case hdlc => rfl
    case hglc => rfl
    case hrlc => first|(go_simp;done)|(go_simp;rfl)
    case hplc => exact (Reps.none _ _)
    intro vl wl ho hb hg_ hnew_
    clear hg_ hnew_
    have OL:=zA (zHb ho HB.out.size)
    have Y2:=zA (zKb Y1.out hb)
    replace HB:=zA (zJb HB.out hb)
    clear ho hb
    go_wp2_with (first|((with_reducible refine gate_builtin (b:=.append) (xs:=#[.tmp 40,.tmp 41]) rfl ?_);at_builtin;refine hold ?_))
    unfold Hold
    refine Kd.R_append_rows (Kd.int .i64) (w0:=w) w.heap.size rfl (.tmp 40) (.tmp 41) 38 3 (.int .i64 0) 8 rfl Try.underlying38 info3 rfl (by decide) (by omega) vl [] ys _ _ _ (fun _ => True) (fun _ => False) rfl rfl ?aO ?aR (fun _ _ h => h) (fun _ h => h.elim) ?aF ?aB ?aS ?aL ?_
    case aR => exact Y2.out
    case aB => exact HB.out
    case aF => exact (fun _ _ => trivial)
    case aO => exact OL.out
    case aS => exact HB.out.size
    case aL => have:=Y3.out;simp;omega
    intro va wa ho hb hg hat
    clear hg hat
    have OA:=zA ho
    have BA:=zA hb
    clear ho hb
    go_wp2
    go_ret2
    exact ⟨_,by rw [EM.out];rfl,by rw [EM.out];exact OA.out,BA.out⟩
   ·have EM:=zA (show mFind l0_0 l0_1 l1_0 l1_1 = ([],false) from mFind_none D1.out HU2.out hyb)
    clear hyb
    go_wp2_with (first|((with_reducible refine gate_dst (N:=39) rfl ?_);refine hold ?_))
    unfold Hold
    refine Kd.R_lit (Kd.int .i64) _ 3 ?hgld (N:=39) ?hdld (xs:=([] : List Int)) (inner:=[]) (ok:=fun _ => True) (okp:=fun _ => True) ?hrld ?hpld (fun _ hk => hk) trivial (Below.refl _ _) (Nat.le_refl _) (by simp) ?_
    case hdld => rfl
    case hgld => rfl
    case hrld => first|(go_simp;done)|(go_simp;rfl)
    case hpld => exact (Reps.none _ _)
    intro vl wl ho hb hg_ hnew_
    clear hg_ hnew_
    have OL:=zA (zHb ho HB.out.size)
    have BL:=zA (zJb HB.out hb)
    clear ho hb
    go_wp2
    go_ret2
    exact ⟨_,by rw [EM.out];rfl,by rw [EM.out];exact OL.out,BL.out⟩
 ·have EM:=zA (show mFind l0_0 l0_1 l1_0 l1_1 = ([],false) from by unfold mFind;rw [if_neg (fun h => d1 (by have:=h.1;omega))])
  have d1a : ((l0_0.length : Int) != (l1_0.length : Int)) = true:=bne_iff_ne.mpr d1
  have d1b : ((l0_0.length : Int) == (l1_0.length : Int)) = false:=beq_eq_false_iff_ne.mpr d1
  have d1c : decide ((l0_0.length : Int) = (l1_0.length : Int)) = false:=decide_eq_false d1
  clear d1
  go_wp2_with (first|((with_reducible refine gate_dst (N:=17) rfl ?_);refine hold ?_))
  unfold Hold
  refine Kd.R_lit (Kd.int .i64) _ 3 ?hglz (N:=17) ?hdlz (xs:=([] : List Int)) (inner:=[]) (ok:=fun _ => True) (okp:=fun _ => True) ?hrlz ?hplz (fun _ hk => hk) trivial (Below.refl _ _) (Nat.le_refl _) (by simp) ?_
  case hdlz => rfl
  case hglz => rfl
  case hrlz => first|(go_simp;done)|(go_simp;rfl)
  case hplz => exact (Reps.none _ _)
  intro vl wl ho hb hg_ hnew_
  clear hg_ hnew_
  have OL:=zA (zHb ho HB.out.size)
  have BL:=zA (zJb HB.out hb)
  clear ho hb
  go_wp2
  go_ret2
  exact ⟨_,by rw [EM.out];rfl,by rw [EM.out];exact OL.out,BL.out⟩


end Go.Proofs.Ytanbgnjfllpkgaa.Hand
