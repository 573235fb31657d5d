/- Walks through Go functions that FnExactAnswers reaches, by hand: each call returns what is said beside it, within the bounds that the theorem names. -/
import Derived.Test.YtfelabhakgcifaaGreatQFnExactAnswersx0
import Derived.Test.YtfelabhakgcifaaGreatQFnExactAnswersx1
import Derived.Test.YtfelabhakgcifaaGreatQFnExactAnswersx2
import Derived.Test.YtfelabhakgcifaaGreatQFnExactAnswersx3
import Derived.Test.YtfelabhakgcifaaGreatQFnExactAnswersx4
import Derived.Test.YtfelabhakgcifaaGreatQFnExactAnswersx5
import Derived.Test.YtfelabhakgcifaaGreatQFnExactAnswersx6
import Derived.Test.YtfelabhakgcifaaGreatQFnExactAnswersx7
import Derived.Test.YtfelabhakgcifaaGreatQFnExactAnswersx8
import Derived.Test.YtfelabhakgcifaaGreatQFnExactAnswersx9
import Derived.Test.YtfelabhakgcifaaGreatQFnExactAnswersx10
import Derived.Test.YtfelabhakgcifaaGreatQFnExactAnswersx11
import Derived.Test.YtfelabhakgcifaaGreatQFnExactAnswersx12
import Derived.Test.YtfelabhakgcifaaGreatQFnExactAnswersx13
import Derived.Test.YtfelabhakgcifaaGreatQFnExactAnswersx14
import Derived.Test.YtfelabhakgcifaaGreatQFnExactAnswersx15
import Derived.Test.YtfelabhakgcifaaGreatQFnExactAnswersx16
import Derived.Test.YtfelabhakgcifaaGreatQFnExactAnswersx17
import Derived.Test.YtfelabhakgcifaaGreatQFnExactAnswersx18
import Derived.Test.YtfelabhakgcifaaGreatVFnExactAnswersMine
import Derived.Test.YtfelabhakgcifaaGreatPureFnExactAnswers
import Derived.Shelf.SlSortCmp.Whole1
import Derived.Shelf.SlSortCmp.KitK
import Derived.Lib.SliceRun
import Derived.Shelf.SlSortCmp.NoneTotal
import Derived.Test.YtfelabhakgcifaaGreatShelfR
set_option linter.unusedVariables false
set_option linter.unusedSimpArgs false
namespace Go.Proofs.YtfelabhakgcifaaGreat.Hand
open Go.RowKit Go.Proofs.YtfelabhakgcifaaGreat.QFnExactAnswers Go.Proofs.YtfelabhakgcifaaGreatW.PrintWords Go.Proofs.YtfelabhakgcifaaGreatW.PrintLast Go.Proofs.YtfelabhakgcifaaGreatW.PrintMore Go.Proofs.YtfelabhakgcifaaGreat.Mine Go.Proofs.YtfelabhakgcifaaGreat.Open Go.Proofs.YtfelabhakgcifaaGreat.Pure
abbrev yt := true
abbrev yf := false
attribute [local go_sem] max2_int min2_int max_two min_two max_three min_three max_four min_four

def Hold (p : Prop) : Prop := p
theorem hold {p : Prop} (h : Hold p) : p := h
theorem newR {α : Type} {d : Kd α} {e B : Nat} {W w1 : World} {ok : Nat → Prop} {v : Value} {xs : List α} (h : d.R e w1 W.heap.size ok v xs) (hB : B ≤ W.heap.size) : d.R e w1 B (fun k => (W.heap.size ≤ k ∧ k < w1.heap.size) ∧ ok k) v xs :=
 zHb (zGb (Kd.R_bound h) (fun _ hk => ⟨⟨hk.2.1,hk.2.2.1⟩,hk.1⟩)) hB
theorem newS {α : Type} {d : Kd α} {e B : Nat} {W w1 : World} {ok : Nat → Prop} {v : Value} {xs : List α} (h : Kd.S d e w1 W.heap.size ok v xs) (hB : B ≤ W.heap.size) : Kd.S d e w1 B (fun k => (W.heap.size ≤ k ∧ k < w1.heap.size) ∧ ok k) v xs :=
 zIb (zS (Kd.S_bound h) (fun _ hk => ⟨⟨hk.2.1,hk.2.2.1⟩,hk.1⟩)) hB
theorem kept_two {w : World} {g : Nat} (a b : Value) : Kept w ((w.setCell ⟨g, 0, none⟩ a).setCell ⟨g, 1, none⟩ b) (fun k => k = g) :=
 ((Kept.refl w (fun k => k = g)).setCell (.inl rfl) a).setCell (.inl rfl) b
theorem kept_one {w : World} {g : Nat} (a : Value) : Kept w (w.setCell ⟨g, 0, none⟩ a) (fun k => k = g) := (Kept.refl w (fun k => k = g)).setCell (.inl rfl) a
theorem goesC_ {P : Program} {ops : Array Oper} {Q : Exit → Act → World → Prop} {oi : Oper} {N : Option Tmp} {a : Act} {w : World} {K : Act → World → Prop} {f : FuncId} {fn : Func} {p : Operand} {as_ : Array Operand} {ts : Array TypeId} (hf : P.funcs[f]? = some fn) (hname : (fn.name == "runtime.NumGoroutine") = false) (hb : fn.body.isSome = true) (first cap args : Array Value)
  (hw : Region.wanted oi (yielded ops a.tmps) = true) (hN : oi.dst = N) (hop : oi.op = .call { callee:=.value p,args:=as_,argTypes:=ts }) (hv : a.eval p = .func (.func f) first cap) (hargs : (first ++ as_.map a.eval) ++ cap = args)
  (h : Calls P f args w fun e w' => ∃ v,e = .returned v ∧ K (a.put N v) w') : if Region.wanted oi (yielded ops a.tmps) = true then Oper.wp P oi a w K Q else K (a.put N undef) w:=by
 refine call_ f args hw hN ?_ h
 have he:=enters_ hf hname hb args w
 unfold execOp
 simp [hop,resolve,hv,Deferred.ofValue,invoke,hargs,he]

def encB (b : List Int) : List Value := (List.range 20).map (fun v => Value.int .i64 (if rd b ((20 + v : Nat) : Int) = 0 then 0 else rd b (v : Int))) ++ (List.range 20).map (fun v => Value.bool (decide (rd b ((20 + v : Nat) : Int) ≠ 0)))
theorem encB_len (b : List Int) : (encB b).length = 40 := by simp [encB]
theorem encB_val (b : List Int) (n : Nat) (hn : n < 20) : (encB b)[n]? = some (.int .i64 (if rd b ((20 + n : Nat) : Int) = 0 then 0 else rd b (n : Int))) := by
 unfold encB
 rw [List.getElem?_append_left (by simpa using hn),List.getElem?_map,List.getElem?_range hn]
 rfl
theorem encB_flag (b : List Int) (n : Nat) (hn : n < 20) : (encB b)[20 + n]? = some (.bool (decide (rd b ((20 + n : Nat) : Int) ≠ 0))) := by
 unfold encB
 rw [List.getElem?_append_right (by simp),List.getElem?_map,List.length_map,List.length_range,show 20 + n - 20 = n by omega,List.getElem?_range hn]
 rfl
theorem encB_one (b : List Int) : ∀ u ∈ encB b, u.oneCell' = true := by
 intro u hu
 unfold encB at hu
 rcases List.mem_append.1 hu with h|h
 ·obtain ⟨v,_,rfl⟩:=List.mem_map.1 h;rfl
 ·obtain ⟨v,_,rfl⟩:=List.mem_map.1 h;rfl
theorem encB_set (b : List Int) (n : Nat) (v : Int) (hn : n < 20) (hb : b.length = 40) : ((encB b).set (20 + n) (.bool true)).set n (.int .i64 v) = encB ((b.set n v).set (20 + n) 1) := by
 have hset : ∀ j : Nat,rd ((b.set n v).set (20 + n) 1) (j : Int) = if j = 20 + n then 1 else if j = n then v else rd b (j : Int):=by
  intro j
  rw [rd_set _ _ _ _ (by rw [List.length_set];omega)]
  split
  ·rfl
  ·rw [rd_set _ _ _ _ (by omega)]
 apply List.ext_getElem?
 intro j
 by_cases hj : j < 20
 ·rw [encB_val _ j hj,hset,hset]
  by_cases hjn : j = n
  ·subst hjn
   rw [List.getElem?_set_self (by simp [encB_len];omega),if_pos rfl]
   simp
  ·have a1 : ¬ (20 + j = 20 + n):=by omega
   have a2 : ¬ (20 + j = n):=by omega
   have a3 : ¬ (j = 20 + n):=by omega
   rw [List.getElem?_set_ne (Ne.symm hjn),List.getElem?_set_ne (by omega),encB_val _ j hj]
   simp only [if_neg a1,if_neg a2,if_neg a3,if_neg hjn]
 ·by_cases hj2 : j < 40
  ·obtain ⟨m,rfl⟩ : ∃ m,j = 20 + m:=⟨j - 20,by omega⟩
   rw [encB_flag _ m (by omega),hset,List.getElem?_set_ne (by omega)]
   by_cases hmn : m = n
   ·subst hmn
    rw [List.getElem?_set_self (by simp [encB_len];omega),if_pos rfl]
    simp
   ·rw [List.getElem?_set_ne (by omega),encB_flag _ m (by omega),if_neg (by omega),if_neg (by omega)]
  ·rw [List.getElem?_eq_none (by simp [encB_len];omega),List.getElem?_eq_none (by rw [encB_len];omega)]
theorem setCells_heap (g t : Nat) : ∀ (vs : List Value) (s : Nat) (w : World) (cs : Array Value), w.heap[g]? = some (.cells cs t (0, 0)) → (w.setCells g s vs).heap[g]? = some (.cells (Sort.setMany cs s vs) t (0, 0))
 | [], _, _, _, h => h
 | v :: r, s, w, cs, h => by
  rw [World.setCells,Sort.setMany]
  exact setCells_heap g t r (s + 1) _ _ (blk_put h s v rfl)
theorem setCells_kept (g : Nat) : ∀ (vs : List Value) (s : Nat) (w w1 : World), Kept w w1 (fun k => k = g) → Kept w (w1.setCells g s vs) (fun k => k = g)
 | [], _, _, _, h => h
 | v :: r, s, w, w1, h => by
  rw [World.setCells]
  exact setCells_kept g r (s + 1) w _ (h.setCell (.inl rfl) v)
theorem setCells_below (g : Nat) (w0 : World) (hg : w0.heap.size ≤ g) : ∀ (vs : List Value) (s : Nat) (w : World), Below w0.heap.size w0 w → Below w0.heap.size w0 (w.setCells g s vs)
 | [], _, _, h => h
 | v :: r, s, w, h => by
  rw [World.setCells]
  exact setCells_below g w0 hg r (s + 1) _ (zB h hg)
theorem setMany_all (cs : Array Value) (vs : List Value) (h : vs.length = cs.size) : Sort.setMany cs 0 vs = vs.toArray := by
 apply Sort.ext_get!
 ·simp [h]
 ·intro t ht
  rw [Sort.size_setMany] at ht
  rw [Sort.get_setMany vs 0 cs t ht,if_pos ⟨Nat.zero_le _,by omega⟩,Nat.sub_zero]
  simp
theorem run_store_agg {P : Program} {w : World} {g t : Nat} {cs : Array Value} (ty : TypeId) (vs : List Value) (hg : w.heap[g]? = some (.cells cs t (0, 0))) (hl : vs.length = cs.size) (h1 : ∀ u ∈ vs, u.oneCell' = true) (hi : (P.info? ty).map (·.size) = some vs.length) :
  (storeVar ty ⟨g,0,none⟩ (.agg vs.toArray)).run P w = .ok () (w.setCells g 0 vs):=by
 have hH : Sort.Holds id w g 0 cs:=by
  intro j hj
  refine ⟨?_,?_⟩
  ·simp only [World.cell?,hg,Nat.zero_add,id]
   rw [getElem!_pos cs j hj,Array.getElem?_eq_getElem hj];rfl
  ·simp only [World.frozen?,hg];simp
 have hs:=stores_of_holds P hH 0 vs (by rw [hl];omega) h1
 rw [Nat.add_zero] at hs
 cases hq : P.info? ty with
 | none => simp [hq] at hi
 | some i =>
  have hz : i.size = vs.length:=by simpa [hq] using hi
  simp [storeVar,Sem.run_bind,Value.cells,sizeOf,typeInfo,hq,hz,hs]

theorem load_run {P : Program} {a : Act} {o : Oper} {w : World} {g t : Nat} {ty : TypeId} {p : Operand} {cs : Array Value} {fr : Nat × Nat} {d : TypeDesc} (ho : o.op = .load ty p) (hp : a.eval p = .pointer (some ⟨g, 0, none⟩)) (hg : w.heap[g]? = some (.cells cs t fr)) (hu : P.underlying ty = some d) (hd : (match d with | .struct _ | .array _ _ => true | _ => false) = true) (hi : (P.info? ty).map (·.size) = some cs.size) :
  (execOp a.eval o).run P w = .ok (.value (.agg cs)) w:=by
 unfold execOp
 rw [ho]
 simp [Instr.loadAt,hp,Instr.sureAddr,Sem.run_bind,run_loadVar_row w g t ty cs fr d hg hu hd hi]
theorem store_run {P : Program} {a : Act} {o : Oper} {w : World} {g t : Nat} {ty : TypeId} {p x : Operand} {cs : Array Value} (vs : List Value) (ho : o.op = .store ty p x) (hp : a.eval p = .pointer (some ⟨g, 0, none⟩)) (hx : a.eval x = .agg vs.toArray) (hg : w.heap[g]? = some (.cells cs t (0, 0))) (hl : vs.length = cs.size) (h1 : ∀ u ∈ vs, u.oneCell' = true) (hi : (P.info? ty).map (·.size) = some vs.length) :
  (execOp a.eval o).run P w = .ok .skip (w.setCells g 0 vs):=by
 unfold execOp
 rw [ho]
 simp [Instr.storeAt,hp,hx,Instr.sureAddr,Sem.run_bind,run_store_agg ty vs hg hl h1 hi]
def mValI (b : List Int) (t : Int) : Int := if 0 ≤ t then (if rd b (20 + t) = 0 then 0 else rd b t) else -1 - t
set_option maxHeartbeats 8000000 in
set_option maxRecDepth 100000 in
theorem valueOf_walk (g : Nat) (b : List Int) (t : Int) (w : World) (hg : w.heap[g]? = some (.cells (encB b).toArray 97 (0, 0))) (ht : -80 ≤ t ∧ t ≤ 19) :
  Calls Tryz.prog 86 #[.pointer (some ⟨g, 0, none⟩), .int .i64 t] w fun e w' => e = .returned (.int .i64 (mValI b t)) ∧ Drawn0 w w' := by
 have huB:=Tryz.underlying97
 have hu88:=Tryz.underlying88
 have BG:=zA hg
 clear hg
 have EV:=zA (implIsVar_eq t)
 have EC:=zA (implConstOf_eq t)
 go_enter Tryz.func86,Tryz.ntmps86
 go_wp2_with (first|(go_at_call 79;refine hold ?_))
 unfold Hold
 refine (impl_IsVar.calls t (mIsVar t) _ EV.out).mono ?_
 rintro e w1 ⟨rfl,hd⟩
 obtain ⟨q,rfl⟩:=hd.out
 by_cases c : 0 ≤ t
 ·have hv : mIsVar t = true:=by unfold mIsVar;exact decide_eq_true ⟨c,ht.2⟩
  rw [hv]
  have hx : (w.drewN q).cell? ⟨g,t.toNat,none⟩ = some (.int .i64 (if rd b (20 + t) = 0 then 0 else rd b t)):=by
   have h1:=zP (zF BG.out q) t.toNat
   rw [h1,List.getElem?_toArray,encB_val b t.toNat (by omega),show ((20 + t.toNat : Nat) : Int) = 20 + t by omega,show ((t.toNat : Nat) : Int) = t by omega]
  have c1:=eq_true c
  have c2 : (t < 20) = True:=eq_true (by omega)
  have c3:=decide_eq_true c
  have c4 : decide (t < 20) = true:=decide_eq_true (by omega)
  have EM:=zA (show mValI b t = (if rd b (20 + t) = 0 then 0 else rd b t) by unfold mValI;rw [if_pos c])
  generalize (if rd b (20 + t) = 0 then 0 else rd b t) = x_ at hx EM
  clear hv EV EC BG
  go_wp2
  go_ret
  exact ⟨by rw [EM.out];rfl,by first|exact ⟨⟨_,rfl⟩⟩|exact Drawn0.step (Drawn0.refl _) q⟩
 ·have hv : mIsVar t = false:=by unfold mIsVar;exact decide_eq_false (fun h => c h.1)
  rw [hv]
  have EM:=zA (show mValI b t = mConstOf t by unfold mValI mConstOf;rw [if_neg c,if_pos (by omega)])
  clear hv EV BG
  go_wp2_with (first|(go_at_call 106;refine hold ?_))
  unfold Hold
  refine (impl_ConstOf.calls t (mConstOf t) _ EC.out).mono ?_
  rintro e w1 ⟨rfl,hd⟩
  obtain ⟨q2,rfl⟩:=hd.out
  go_wp2
  go_ret
  exact ⟨by rw [EM.out];rfl,⟨⟨_,rfl⟩⟩⟩
structure StM (w0 : World) (g3 g4 g5 g6 : Nat) (b : List Int) (ra : Int) (Aa : Option Addr) (ca : Nat) (la : List Int) (rf : Int) (Af : Option Addr) (cf : Nat) (lf : List Int) (W : World) : Prop where
 b3 : W.heap[g3]? = some (.cells (encB b).toArray 97 (0,0))
 b4 : W.heap[g4]? = some (.cells #[.int .i64 ra,.slice Aa la.length ca] 81 (0,0))
 b5 : W.heap[g5]? = some (.cells #[.int .i64 rf,.slice Af lf.length cf] 64 (0,0))
 b6 : W.heap[g6]? = some (.cells (encB mEmpty).toArray 97 (0,0))
 B : Below w0.heap.size w0 W
 e3 : w0.heap.size ≤ g3
 e6 : w0.heap.size ≤ g6
 n36 : g3 ≠ g6
 len : b.length = 40
theorem StM.below {w0 W W1 : World} {g3 g4 g5 g6 : Nat} {b : List Int} {ra : Int} {Aa : Option Addr} {ca : Nat} {la : List Int} {rf : Int} {Af : Option Addr} {cf : Nat} {lf : List Int} (st : StM w0 g3 g4 g5 g6 b ra Aa ca la rf Af cf lf W) (hb : Below W.heap.size W W1) : StM w0 g3 g4 g5 g6 b ra Aa ca la rf Af cf lf W1 :=
 ⟨zQ st.b3 hb,zQ st.b4 hb,zQ st.b5 hb,zQ st.b6 hb,zJb st.B hb,st.e3,st.e6,st.n36,st.len⟩
theorem StM.set {w0 W : World} {g3 g4 g5 g6 : Nat} {b : List Int} {ra : Int} {Aa : Option Addr} {ca : Nat} {la : List Int} {rf : Int} {Af : Option Addr} {cf : Nat} {lf : List Int} (st : StM w0 g3 g4 g5 g6 b ra Aa ca la rf Af cf lf W) (n : Nat) (hn : n < 20) (v : Int) :
  StM w0 g3 g4 g5 g6 ((b.set n v).set (20 + n) 1) ra Aa ca la rf Af cf lf ((W.setCell ⟨g3,20 + n,none⟩ (.bool true)).setCell ⟨g3,n,none⟩ (.int .i64 v)) :=
 ⟨by
  have h1:=blk_put (cs':=(((encB b).toArray.setIfInBounds (20 + n) (.bool true)).setIfInBounds n (.int .i64 v))) (blk_put st.b3 (20 + n) (.bool true) rfl) n (.int .i64 v) rfl
  rw [zO,zO,encB_set b n v hn st.len] at h1
  exact h1,
  zUb (zUb st.b4 (p:=⟨g3,20 + n,none⟩) (blk_ne st.b4 st.b3 (by decide)) _) (p:=⟨g3,n,none⟩) (blk_ne st.b4 st.b3 (by decide)) _,zUb (zUb st.b5 (p:=⟨g3,20 + n,none⟩) (blk_ne st.b5 st.b3 (by decide)) _) (p:=⟨g3,n,none⟩) (blk_ne st.b5 st.b3 (by decide)) _,
  zUb (zUb st.b6 (p:=⟨g3,20 + n,none⟩) (Ne.symm st.n36) _) (p:=⟨g3,n,none⟩) (Ne.symm st.n36) _,zB (zB st.B st.e3) st.e3,st.e3,st.e6,st.n36,by simpa using st.len⟩
set_option maxHeartbeats 8000000 in
set_option maxRecDepth 100000 in
theorem match_walk (b : List Int) (hb : b.length = 40) (ra : Int) (Aa : Option Addr) (ca : Nat) (la : List Int) (rf : Int) (Af : Option Addr) (cf : Nat) (lf : List Int) (w : World) (hra : Kd.C (Kd.int .i64) w Aa la.length la) (hca : la.length ≤ ca) (hrf : Kd.C (Kd.int .i64) w Af lf.length lf) (hcf : lf.length ≤ cf) (ho : ∀ t ∈ la, -80 ≤ t ∧ t ≤ 19) (hl : la.length ≤ 1048576) :
  Calls Tryz.prog 85 #[.agg (encB b).toArray, .agg #[.int .i64 ra, .slice Aa la.length ca], .agg #[.int .i64 rf, .slice Af lf.length cf]] w fun e w' => e = .returned (.tuple #[.agg (encB (mMatch ⟨ra, la⟩ ⟨rf, lf⟩ b).1).toArray, .bool (mMatch ⟨ra, la⟩ ⟨rf, lf⟩ b).2]) ∧ Below w.heap.size w w' := by
 have huB:=Tryz.underlying97
 have huA:=Tryz.underlying81
 have huF:=Tryz.underlying64
 have hu88:=Tryz.underlying88
 have hu89:=Tryz.underlying89
 have RA:=zA hra
 have RF:=zA hrf
 have HC:=zA (show la.length ≤ ca ∧ lf.length ≤ cf from ⟨hca,hcf⟩)
 have HO:=zA ho
 have HL:=zA hl
 have LB:=zA hb
 have HB:=zA (Below.refl w.heap.size w)
 obtain ⟨P,hP⟩ : ∃ P,mMatch ⟨ra,la⟩ ⟨rf,lf⟩ b = P:=⟨_,rfl⟩
 rw [hP]
 have HP:=zA hP
 clear hra hrf hca hcf ho hl hb hP
 go_enter Tryz.func85,Tryz.ntmps85
 go_wp2_with (first|((with_reducible refine gate_dst (N:=3) rfl ?_);refine hold ?_))
 unfold Hold
 refine box_event ?hgg3 (N:=3) ?hdg3 (cs:=(encB b).toArray) (t:=97) ?hrg3 ?_
 case hdg3 => rfl
 case hgg3 => rfl
 case hrg3 => first|(go_simp;done)|(go_simp;rfl)
 intro g3 hg w1 hbox hb
 have Bg3:=zA hbox
 have Eg3:=zA (show w.heap.size ≤ g3 by rw [hg];exact HB.out.size)
 replace HB:=zA (zJb HB.out hb)
 clear hbox hb hg
 go_wp2_with (first|((with_reducible refine gate_dst (N:=4) rfl ?_);refine hold ?_))
 unfold Hold
 refine box_event ?hgg4 (N:=4) ?hdg4 (cs:=#[.int .i64 ra,.slice Aa la.length ca]) (t:=81) ?hrg4 ?_
 case hdg4 => rfl
 case hgg4 => rfl
 case hrg4 => first|(go_simp;done)|(go_simp;rfl)
 intro g4 hg w2 hbox hb
 have Bg4:=zA hbox
 have Eg4:=zA (show w.heap.size ≤ g4 by rw [hg];exact HB.out.size)
 replace Bg3:=zA (zQ Bg3.out hb)
 replace HB:=zA (zJb HB.out hb)
 clear hbox hb hg
 go_wp2_with (first|((with_reducible refine gate_dst (N:=5) rfl ?_);refine hold ?_))
 unfold Hold
 refine box_event ?hgg5 (N:=5) ?hdg5 (cs:=#[.int .i64 rf,.slice Af lf.length cf]) (t:=64) ?hrg5 ?_
 case hdg5 => rfl
 case hgg5 => rfl
 case hrg5 => first|(go_simp;done)|(go_simp;rfl)
 intro g5 hg w3 hbox hb
 have Bg5:=zA hbox
 have Eg5:=zA (show w.heap.size ≤ g5 by rw [hg];exact HB.out.size)
 replace Bg3:=zA (zQ Bg3.out hb)
 replace Bg4:=zA (zQ Bg4.out hb)
 replace HB:=zA (zJb HB.out hb)
 clear hbox hb hg
 go_wp2_with (first|((with_reducible refine gate_dst (N:=6) rfl ?_);refine hold ?_))
 unfold Hold
 refine box_event ?hgg6 (N:=6) ?hdg6 (cs:=(encB mEmpty).toArray) (t:=97) ?hrg6 ?_
 case hdg6 => rfl
 case hgg6 => rfl
 case hrg6 => first|(go_simp;done)|(go_simp;rfl)
 intro g6 hg w4 hbox hb
 have Bg6:=zA hbox
 have Eg6:=zA (show w.heap.size ≤ g6 by rw [hg];exact HB.out.size)
 have N36:=zA (show g3 ≠ g6 by rw [hg];exact Nat.ne_of_lt (blk_lt Bg3.out))
 replace Bg3:=zA (zQ Bg3.out hb)
 replace Bg4:=zA (zQ Bg4.out hb)
 replace Bg5:=zA (zQ Bg5.out hb)
 replace HB:=zA (zJb HB.out hb)
 clear hbox hb hg
 have ST : Aside0 (StM w g3 g4 g5 g6 b ra Aa ca la rf Af cf lf w4):=⟨⟨Bg3.out,Bg4.out,Bg5.out,Bg6.out,HB.out,Eg3.out,Eg6.out,N36.out,LB.out⟩⟩
 clear Bg3 Bg4 Bg5 Bg6 HB Eg3 Eg4 Eg5 Eg6 N36 LB
 have hx0 : w4.cell? ⟨g4,0,none⟩ = some (.int .i64 ra):=(zP ST.out.b4 0).trans rfl
 have hx1 : w4.cell? ⟨g4,1,none⟩ = some (.slice Aa la.length ca):=(zP ST.out.b4 1).trans rfl
 have hx2 : w4.cell? ⟨g5,0,none⟩ = some (.int .i64 rf):=(zP ST.out.b5 0).trans rfl
 have hx3 : w4.cell? ⟨g5,1,none⟩ = some (.slice Af lf.length cf):=(zP ST.out.b5 1).trans rfl
 by_cases c : ra = rf
 rotate_left
 ·have c1 : (ra != rf) = true:=by simpa using c
  go_wp2_with (first|((with_reducible refine gate_dst (N:=24) rfl ?_);refine hold ?_))
  unfold Hold
  refine Kd.event_run (v:=.agg (encB b).toArray) (w1:=w4) ?hgex1 ?hrex1 ?_
  case hgex1 => rfl
  case hrex1 => exact load_run rfl rfl ST.out.b3 huB rfl (by rw [List.size_toArray,encB_len];kernel_rfl)
  go_wp2_with (first|((with_reducible refine gate_store (t:=97) (p:=6) rfl ?_);refine hold ?_))
  unfold Hold
  refine store_event (t:=97) (p:=6) (v:=?vo6x1) (w1:=w4.setCells g6 0 (encB b)) ?hgs6x1 ?hos6x1 ?hns6x1 ?hrs6x1 ?_
  case hos6x1 => rfl
  case hgs6x1 => rfl
  case hns6x1 => rfl
  case hrs6x1 => exact store_run (encB b) rfl rfl rfl ST.out.b6 (by simp [encB_len]) (encB_one _) (by rw [encB_len];kernel_rfl)
  intro wz hw
  have Z6 : Aside0 (wz.heap[g6]? = some (.cells (encB b).toArray 97 (0,0))):=⟨by rw [hw,setCells_heap g6 97 (encB b) 0 w4 _ ST.out.b6,setMany_all _ _ (by simp [encB_len])]⟩
  have ZB : Aside0 (Below w.heap.size w wz):=⟨by rw [hw];exact setCells_below g6 w ST.out.e6 _ _ _ ST.out.B⟩
  have EP:=zA (show P = (b,false) from by rw [← HP.out];unfold mMatch;rw [if_neg (fun h => c h.1)])
  clear hw ST HP
  go_wp2
  refine bodyPost_ret (results_list (rs:=[.cell 6 97,.tmp 7]) rfl (by simp) (.cell g6 97 (encB b).toArray (0,0) _ rfl Z6.out huB rfl (by rw [List.size_toArray,encB_len];kernel_rfl) (.tmp .nil))) rfl ?_
  exact ⟨by rw [EP.out];rfl,ZB.out⟩
 have c1 : (ra != rf) = false:=by simpa using c
 by_cases d : la.length = lf.length
 rotate_left
 ·have d1 : ((la.length : Int) != (lf.length : Int)) = true:=by simp;omega
  go_wp2_with (first|((with_reducible refine gate_dst (N:=24) rfl ?_);refine hold ?_))
  unfold Hold
  refine Kd.event_run (v:=.agg (encB b).toArray) (w1:=w4) ?hgex2 ?hrex2 ?_
  case hgex2 => rfl
  case hrex2 => exact load_run rfl rfl ST.out.b3 huB rfl (by rw [List.size_toArray,encB_len];kernel_rfl)
  go_wp2_with (first|((with_reducible refine gate_store (t:=97) (p:=6) rfl ?_);refine hold ?_))
  unfold Hold
  refine store_event (t:=97) (p:=6) (v:=?vo6x2) (w1:=w4.setCells g6 0 (encB b)) ?hgs6x2 ?hos6x2 ?hns6x2 ?hrs6x2 ?_
  case hos6x2 => rfl
  case hgs6x2 => rfl
  case hns6x2 => rfl
  case hrs6x2 => exact store_run (encB b) rfl rfl rfl ST.out.b6 (by simp [encB_len]) (encB_one _) (by rw [encB_len];kernel_rfl)
  intro wz hw
  have Z6 : Aside0 (wz.heap[g6]? = some (.cells (encB b).toArray 97 (0,0))):=⟨by rw [hw,setCells_heap g6 97 (encB b) 0 w4 _ ST.out.b6,setMany_all _ _ (by simp [encB_len])]⟩
  have ZB : Aside0 (Below w.heap.size w wz):=⟨by rw [hw];exact setCells_below g6 w ST.out.e6 _ _ _ ST.out.B⟩
  have EP:=zA (show P = (b,false) from by rw [← HP.out];unfold mMatch;rw [if_neg (fun h => d h.2)])
  clear hw ST HP
  go_wp2
  refine bodyPost_ret (results_list (rs:=[.cell 6 97,.tmp 7]) rfl (by simp) (.cell g6 97 (encB b).toArray (0,0) _ rfl Z6.out huB rfl (by rw [List.size_toArray,encB_len];kernel_rfl) (.tmp .nil))) rfl ?_
  exact ⟨by rw [EP.out];rfl,ZB.out⟩
 have d1 : ((la.length : Int) != (lf.length : Int)) = false:=by simp;omega
 have HM:=zA (show mBind la lf b = P from by rw [← HP.out];unfold mMatch;rw [if_pos ⟨c,d⟩])
 have HD:=zA d
 clear HP
 go_wp2
 go_loopg [28] la.length (fun kq v28 w' => ∃ (x : Nat) (bc : List Int),v28 = .int .i64 (x : Int) ∧ Aside0 (kq + x = la.length) ∧ Aside0 (mBind (la.drop x) (lf.drop x) bc = P) ∧ Aside0 (StM w g3 g4 g5 g6 bc ra Aa ca la rf Af cf lf w'))
 case atStart => exact ⟨0,b,rfl,⟨rfl⟩,⟨by simpa using HM.out⟩,ST⟩
 case round =>
  clear ST HM hx0 hx1 hx2 hx3
  obtain ⟨x,bc,rfl,HG,HM,ST⟩:=hrel
  by_cases c6 : (x : Int) < (la.length : Int)
  rotate_left
  ·have c6b:=decide_eq_false c6
   have hx : x = la.length:=by have:=HG.out;omega
   subst hx
   have HP:=zA (show (bc,true) = P from by rw [← HM.out];simp [mBind])
   clear HM
   go_wp2_with (first|((with_reducible refine gate_dst (N:=63) rfl ?_);refine hold ?_))
   unfold Hold
   refine Kd.event_run (v:=.agg (encB bc).toArray) (w1:=wr) ?hgex3 ?hrex3 ?_
   case hgex3 => rfl
   case hrex3 => exact load_run rfl rfl ST.out.b3 huB rfl (by rw [List.size_toArray,encB_len];kernel_rfl)
   go_wp2_with (first|((with_reducible refine gate_store (t:=97) (p:=6) rfl ?_);refine hold ?_))
   unfold Hold
   refine store_event (t:=97) (p:=6) (v:=?vo6x3) (w1:=wr.setCells g6 0 (encB bc)) ?hgs6x3 ?hos6x3 ?hns6x3 ?hrs6x3 ?_
   case hos6x3 => rfl
   case hgs6x3 => rfl
   case hns6x3 => rfl
   case hrs6x3 => exact store_run (encB bc) rfl rfl rfl ST.out.b6 (by simp [encB_len]) (encB_one _) (by rw [encB_len];kernel_rfl)
   intro wz hw
   have Z6 : Aside0 (wz.heap[g6]? = some (.cells (encB bc).toArray 97 (0,0))):=⟨by rw [hw,setCells_heap g6 97 (encB bc) 0 wr _ ST.out.b6,setMany_all _ _ (by simp [encB_len])]⟩
   have ZB : Aside0 (Below w.heap.size w wz):=⟨by rw [hw];exact setCells_below g6 w ST.out.e6 _ _ _ ST.out.B⟩
   have EP:=zA (show P = (bc,true) from by rw [← HP.out];skip)
   clear hw ST HP
   go_wp2
   refine bodyPost_ret (results_list (rs:=[.cell 6 97,.tmp 7]) rfl (by simp) (.cell g6 97 (encB bc).toArray (0,0) _ rfl Z6.out huB rfl (by rw [List.size_toArray,encB_len];kernel_rfl) (.tmp .nil))) rfl ?_
   exact ⟨by rw [EP.out];rfl,ZB.out⟩
  have c6b:=decide_eq_true c6
  have hxl : x < la.length:=by omega
  have hxf : x < lf.length:=by have:=HD.out;omega
  obtain ⟨t,ht⟩ : ∃ t,rd la (x : Int) = t:=⟨_,rfl⟩
  obtain ⟨v,hv⟩ : ∃ v,rd lf (x : Int) = v:=⟨_,rfl⟩
  have da : la.drop x = t :: la.drop (x + 1):=by rw [List.drop_eq_getElem_cons hxl,← ht,rdN,List.getD_eq_getElem?_getD,List.getElem?_eq_getElem hxl];rfl
  have df : lf.drop x = v :: lf.drop (x + 1):=by rw [List.drop_eq_getElem_cons hxf,← hv,rdN,List.getD_eq_getElem?_getD,List.getElem?_eq_getElem hxf];rfl
  have hmt : t ∈ la:=List.mem_of_mem_drop (i:=x) (by rw [da];exact List.mem_cons_self)
  have hT:=HO.out t hmt
  have TT:=zA hT
  have hm:=HM.out
  rw [da,df] at hm
  unfold mBind at hm
  have HM2:=zA hm
  have XL:=zA (show x < la.length ∧ x < lf.length from ⟨hxl,hxf⟩)
  obtain ⟨ad,hA,hcell⟩:=Kd.at_int (zKb RA.out ST.out.B) (x : Int) (by omega) (by omega)
  obtain ⟨af,hF,hcelf⟩:=Kd.at_int (zKb RF.out ST.out.B) (x : Int) (by omega) (by omega)
  rw [ht] at hcell
  rw [hv] at hcelf
  simp only [Int.toNat_natCast] at hcell hcelf
  subst hA
  subst hF
  have CF:=zA (show ∀ W,Below w.heap.size w W → W.cell? (af.add x) = some (.int .i64 v) from fun W hb_ => by obtain ⟨af',hF',h_⟩:=Kd.at_int (zKb RF.out hb_) (x : Int) (by omega) (by omega);injection hF' with hF';subst hF';rw [hv] at h_;simpa using h_)
  have EV:=zA (implIsVar_eq t)
  have p5 : (0 : Int) ≤ (x : Int):=Int.natCast_nonneg _
  have q5:=eq_true c6
  have r5:=eq_true p5
  have s5 : ((x : Int) < (lf.length : Int)) = True:=eq_true (by omega)
  clear HM ht hv da df hm hmt hxl hxf
  go_wp2_with (first|(go_at_call 79;refine hold ?_))
  unfold Hold
  refine (impl_IsVar.calls t (mIsVar t) _ EV.out).mono ?_
  rintro e w5 ⟨rfl,hd⟩
  replace ST:=zA (ST.out.below hd.below)
  clear hd hcell hcelf EV
  by_cases cv : 0 ≤ t
  rotate_left
  ·have hv : mIsVar t = false:=by unfold mIsVar;exact decide_eq_false (fun h => cv h.1)
   rw [hv]
   clear hv
   try go_wp2
   have HDW:=zA (ST.out.below (below_drew (Below.refl _ _)))
   clear ST
   have hel:=CF.out _ HDW.out.B
   refine start_ (n:=8) (S:=fun w' => w'.cell? ⟨g5,1,none⟩ = some (.slice (some af) lf.length cf) ∧ w'.cell? (af.add x) = some (.int .i64 v)) (ds:=[]) #[yf,yf,yf,yf,yf,yf,yf,yf] (by kernel_rfl) rfl rfl ⟨(zP HDW.out.b5 1).trans rfl,CF.out _ HDW.out.B⟩ (fun hHeld => ?_)
   generalize w5.drew = wd at HDW hHeld ⊢
   clear hel
   refine zu 0 53 ?_;refine zu 2 55 ?_;refine zw 3 56 hHeld ?_;refine zu 4 57 ?_;refine zu 5 58 ?_;refine zw 6 59 hHeld ?_
   refine one_ (i:=1) (N:=some 54) #[yt,yt,yt,yt,yt,yt,yt,yf] rfl rfl (by kernel_rfl) (by decide) (fun K hK => ?_)
   refine goes_ Tryz.func86 (by kernel_rfl) rfl #[.pointer (some ⟨g3,0,none⟩),.int .i64 t] (by rfl) rfl rfl (by (try simp only [zCb,zMb,zNb]);first|done|rfl) ?_
   with_reducible refine (valueOf_walk g3 bc t _ HDW.out.b3 TT.out).mono ?_
   rintro e w6 ⟨rfl,hd⟩
   refine ⟨_,rfl,?_⟩
   have ST:=zA (HDW.out.below hd.below)
   clear HDW hd
   refine hK.out _ _ ⟨(zP ST.out.b5 1).trans rfl,CF.out _ ST.out.B⟩ (fun hHeld => ?_)
   clear hK K
   refine norm_ (a':=?_) ?_ ?_
   rotate_left
   ·show Act.put _ (some 54) _ = _;simp only [Act.put,zO,zEb,zFb,i64_w,i32_w];rfl
   refine zu 7 60 ?_
   refine done_ (by kernel_rfl) ?_
   clear hHeld
   by_cases ce : mValI bc t = v
   ·have ce1 : (mValI bc t != v) = false:=by simpa using ce
    have HM3:=zA (show mBind (la.drop (x + 1)) (lf.drop (x + 1)) bc = P from by (have h_:=HM2.out);(have h2 : -1 - t = v:=by rw [← ce];unfold mValI;rw [if_neg (by omega)]);rw [if_pos (by omega),if_pos h2] at h_;exact h_)
    clear HM2
    go_wp2
    go_roundg (gk - 1)
    case measure => have:=HG.out;have:=XL.out;omega
    case rel => exact ⟨x + 1,bc,congrArg (Value.int .i64) (by have:=HL.out;have:=XL.out;first|omega|(unfold wrap64;omega)),⟨by have:=HG.out;have:=XL.out;omega⟩,⟨HM3.out⟩,ST⟩
   ·have ce1 : (mValI bc t != v) = true:=by simpa using ce
    have HM3:=zA (show (bc,false) = P from by (have h_:=HM2.out);(have h2 : ¬ (-1 - t = v):=fun e_ => ce (by unfold mValI;rw [if_neg (by omega)];exact e_));rw [if_pos (by omega),if_neg h2] at h_;exact h_)
    clear HM2
    have HP:=zA (show (bc,false) = P from HM3.out)
    go_wp2_with (first|((with_reducible refine gate_dst (N:=61) rfl ?_);refine hold ?_))
    unfold Hold
    refine Kd.event_run (v:=.agg (encB bc).toArray) (w1:=w6) ?hgex4 ?hrex4 ?_
    case hgex4 => rfl
    case hrex4 => exact load_run rfl rfl ST.out.b3 huB rfl (by rw [List.size_toArray,encB_len];kernel_rfl)
    go_wp2_with (first|((with_reducible refine gate_store (t:=97) (p:=6) rfl ?_);refine hold ?_))
    unfold Hold
    refine store_event (t:=97) (p:=6) (v:=?vo6x4) (w1:=w6.setCells g6 0 (encB bc)) ?hgs6x4 ?hos6x4 ?hns6x4 ?hrs6x4 ?_
    case hos6x4 => rfl
    case hgs6x4 => rfl
    case hns6x4 => rfl
    case hrs6x4 => exact store_run (encB bc) rfl rfl rfl ST.out.b6 (by simp [encB_len]) (encB_one _) (by rw [encB_len];kernel_rfl)
    intro wz hw
    have Z6 : Aside0 (wz.heap[g6]? = some (.cells (encB bc).toArray 97 (0,0))):=⟨by rw [hw,setCells_heap g6 97 (encB bc) 0 w6 _ ST.out.b6,setMany_all _ _ (by simp [encB_len])]⟩
    have ZB : Aside0 (Below w.heap.size w wz):=⟨by rw [hw];exact setCells_below g6 w ST.out.e6 _ _ _ ST.out.B⟩
    have EP:=zA (show P = (bc,false) from by rw [← HP.out];skip)
    clear hw ST HP
    go_wp2
    refine bodyPost_ret (results_list (rs:=[.cell 6 97,.tmp 7]) rfl (by simp) (.cell g6 97 (encB bc).toArray (0,0) _ rfl Z6.out huB rfl (by rw [List.size_toArray,encB_len];kernel_rfl) (.tmp .nil))) rfl ?_
    exact ⟨by rw [EP.out];rfl,ZB.out⟩
  have hv : mIsVar t = true:=by unfold mIsVar;exact decide_eq_true ⟨cv,TT.out.2⟩
  rw [hv]
  clear hv
  have hn : t.toNat < 20:=by have:=TT.out.2;omega
  have HN:=zA hn
  have ent : ((t.toNat : Nat) : Int) = t:=by omega
  have en2 : ((20 + t.toNat : Nat) : Int) = 20 + t:=by omega
  have hfl : w5.cell? ⟨g3,20 + t.toNat,none⟩ = some (.bool (decide (rd bc (20 + t) ≠ 0))):=by rw [zP ST.out.b3,List.getElem?_toArray,encB_flag bc _ hn,en2]
  have c1:=eq_true cv
  have c2 : (t < 20) = True:=eq_true (by omega)
  have c3:=decide_eq_true cv
  have c4 : decide (t < 20) = true:=decide_eq_true (by omega)
  by_cases cb : rd bc (20 + t) = 0
  rotate_left
  ·have hb1 : decide (rd bc (20 + t) ≠ 0) = true:=decide_eq_true cb
   rw [hb1] at hfl
   clear hb1
   try go_wp2
   have HDW:=zA (ST.out.below (below_drew (Below.refl _ _)))
   clear ST
   have hel:=CF.out _ HDW.out.B
   refine start_ (n:=8) (S:=fun w' => w'.cell? ⟨g5,1,none⟩ = some (.slice (some af) lf.length cf) ∧ w'.cell? (af.add x) = some (.int .i64 v)) (ds:=[]) #[yf,yf,yf,yf,yf,yf,yf,yf] (by kernel_rfl) rfl rfl ⟨(zP HDW.out.b5 1).trans rfl,CF.out _ HDW.out.B⟩ (fun hHeld => ?_)
   generalize w5.drew = wd at HDW hHeld ⊢
   clear hel
   refine zu 0 53 ?_;refine zu 2 55 ?_;refine zw 3 56 hHeld ?_;refine zu 4 57 ?_;refine zu 5 58 ?_;refine zw 6 59 hHeld ?_
   refine one_ (i:=1) (N:=some 54) #[yt,yt,yt,yt,yt,yt,yt,yf] rfl rfl (by kernel_rfl) (by decide) (fun K hK => ?_)
   refine goes_ Tryz.func86 (by kernel_rfl) rfl #[.pointer (some ⟨g3,0,none⟩),.int .i64 t] (by rfl) rfl rfl (by (try simp only [zCb,zMb,zNb]);first|done|rfl) ?_
   with_reducible refine (valueOf_walk g3 bc t _ HDW.out.b3 TT.out).mono ?_
   rintro e w6 ⟨rfl,hd⟩
   refine ⟨_,rfl,?_⟩
   have ST:=zA (HDW.out.below hd.below)
   clear HDW hd
   refine hK.out _ _ ⟨(zP ST.out.b5 1).trans rfl,CF.out _ ST.out.B⟩ (fun hHeld => ?_)
   clear hK K
   refine norm_ (a':=?_) ?_ ?_
   rotate_left
   ·show Act.put _ (some 54) _ = _;simp only [Act.put,zO,zEb,zFb,i64_w,i32_w];rfl
   refine zu 7 60 ?_
   refine done_ (by kernel_rfl) ?_
   clear hHeld
   by_cases ce : mValI bc t = v
   ·have ce1 : (mValI bc t != v) = false:=by simpa using ce
    have HM3:=zA (show mBind (la.drop (x + 1)) (lf.drop (x + 1)) bc = P from by (have h_:=HM2.out);(have h2 : rd bc t = v:=by rw [← ce];unfold mValI;rw [if_pos cv,if_neg cb]);rw [if_neg (by omega),if_neg cb,if_pos h2] at h_;exact h_)
    clear HM2
    go_wp2
    go_roundg (gk - 1)
    case measure => have:=HG.out;have:=XL.out;omega
    case rel => exact ⟨x + 1,bc,congrArg (Value.int .i64) (by have:=HL.out;have:=XL.out;first|omega|(unfold wrap64;omega)),⟨by have:=HG.out;have:=XL.out;omega⟩,⟨HM3.out⟩,ST⟩
   ·have ce1 : (mValI bc t != v) = true:=by simpa using ce
    have HM3:=zA (show (bc,false) = P from by (have h_:=HM2.out);(have h2 : ¬ (rd bc t = v):=fun e_ => ce (by unfold mValI;rw [if_pos cv,if_neg cb];exact e_));rw [if_neg (by omega),if_neg cb,if_neg h2] at h_;exact h_)
    clear HM2
    have HP:=zA (show (bc,false) = P from HM3.out)
    go_wp2_with (first|((with_reducible refine gate_dst (N:=61) rfl ?_);refine hold ?_))
    unfold Hold
    refine Kd.event_run (v:=.agg (encB bc).toArray) (w1:=w6) ?hgex5 ?hrex5 ?_
    case hgex5 => rfl
    case hrex5 => exact load_run rfl rfl ST.out.b3 huB rfl (by rw [List.size_toArray,encB_len];kernel_rfl)
    go_wp2_with (first|((with_reducible refine gate_store (t:=97) (p:=6) rfl ?_);refine hold ?_))
    unfold Hold
    refine store_event (t:=97) (p:=6) (v:=?vo6x5) (w1:=w6.setCells g6 0 (encB bc)) ?hgs6x5 ?hos6x5 ?hns6x5 ?hrs6x5 ?_
    case hos6x5 => rfl
    case hgs6x5 => rfl
    case hns6x5 => rfl
    case hrs6x5 => exact store_run (encB bc) rfl rfl rfl ST.out.b6 (by simp [encB_len]) (encB_one _) (by rw [encB_len];kernel_rfl)
    intro wz hw
    have Z6 : Aside0 (wz.heap[g6]? = some (.cells (encB bc).toArray 97 (0,0))):=⟨by rw [hw,setCells_heap g6 97 (encB bc) 0 w6 _ ST.out.b6,setMany_all _ _ (by simp [encB_len])]⟩
    have ZB : Aside0 (Below w.heap.size w wz):=⟨by rw [hw];exact setCells_below g6 w ST.out.e6 _ _ _ ST.out.B⟩
    have EP:=zA (show P = (bc,false) from by rw [← HP.out];skip)
    clear hw ST HP
    go_wp2
    refine bodyPost_ret (results_list (rs:=[.cell 6 97,.tmp 7]) rfl (by simp) (.cell g6 97 (encB bc).toArray (0,0) _ rfl Z6.out huB rfl (by rw [List.size_toArray,encB_len];kernel_rfl) (.tmp .nil))) rfl ?_
    exact ⟨by rw [EP.out];rfl,ZB.out⟩
  have hb1 : decide (rd bc (20 + t) ≠ 0) = false:=decide_eq_false (fun h => h cb)
  rw [hb1] at hfl
  clear hb1
  have HM3:=zA (show mBind (la.drop (x + 1)) (lf.drop (x + 1)) ((bc.set t.toNat v).set (20 + t.toNat) 1) = P from by have h_:=HM2.out;rw [if_neg (by omega),if_pos cb,show (20 + t).toNat = 20 + t.toNat by omega] at h_;exact h_)
  clear HM2
  have hff:=blk_frozen ST.out.b3 (20 + t.toNat)
  go_wp2_with (first|((with_reducible refine gate_store (t:=4) (p:=44) rfl ?_);refine hold ?_))
  unfold Hold
  refine store_event (t:=4) (p:=44) (v:=?vo44) (w1:=w5.setCell ⟨g3,20 + t.toNat,none⟩ (.bool true)) ?hgs44 ?hos44 ?hns44 ?hrs44 ?_
  case hos44 => rfl
  case hgs44 => rfl
  case hns44 => rfl
  case hrs44 => first|(go_simp;done)|(go_simp;rfl)
  intro w6 hw6
  have hB6 : Below w.heap.size w w6:=by rw [hw6];exact zB ST.out.B ST.out.e3
  have hx3 : w6.cell? ⟨g5,1,none⟩ = some (.slice (some af) lf.length cf):=by rw [hw6];exact (zP (zUb ST.out.b5 (p:=⟨g3,20 + t.toNat,none⟩) (blk_ne ST.out.b5 ST.out.b3 (by decide)) _) 1).trans rfl
  have hel:=CF.out _ hB6
  have h36 : w6.heap[g3]? = some (.cells ((encB bc).toArray.setIfInBounds (20 + t.toNat) (.bool true)) 97 (0,0)):=by rw [hw6];exact blk_put ST.out.b3 _ _ rfl
  have hvc : w6.cell? ⟨g3,t.toNat,none⟩ = some (.int .i64 (if rd bc ((20 + t.toNat : Nat) : Int) = 0 then 0 else rd bc (t.toNat : Int))):=by rw [zP h36,zO,List.getElem?_toArray,List.getElem?_set_ne (by omega),encB_val bc _ hn]
  have hvf:=blk_frozen h36 t.toNat
  generalize (if rd bc ((20 + t.toNat : Nat) : Int) = 0 then 0 else rd bc (t.toNat : Int)) = y_ at hvc
  have HW6:=zA hw6
  clear h36 hw6
  go_wp2_with (first|((with_reducible refine gate_store (t:=3) (p:=52) rfl ?_);refine hold ?_))
  unfold Hold
  refine store_event (t:=3) (p:=52) (v:=?vo52) (w1:=w6.setCell ⟨g3,t.toNat,none⟩ (.int .i64 v)) ?hgs52 ?hos52 ?hns52 ?hrs52 ?_
  case hos52 => rfl
  case hgs52 => rfl
  case hns52 => rfl
  case hrs52 => first|(go_simp;done)|(go_simp;rfl)
  intro w7 hw7
  have ST2 : Aside0 (StM w g3 g4 g5 g6 ((bc.set t.toNat v).set (20 + t.toNat) 1) ra (some ad) ca la rf (some af) cf lf w7):=⟨by rw [hw7,HW6.out];exact ST.out.set t.toNat hn v⟩
  clear HW6 hw7 hB6 hx3 hel hvc hvf hff hfl ST
  go_wp2
  go_roundg (gk - 1)
  case measure => have:=HG.out;have:=XL.out;omega
  case rel => exact ⟨x + 1,_,congrArg (Value.int .i64) (by have:=HL.out;have:=XL.out;first|omega|(unfold wrap64;omega)),⟨by have:=HG.out;have:=XL.out;omega⟩,HM3,ST2⟩

structure StV (w0 : World) (go : Nat) (L : List (List Int)) (W : World) : Prop where
 box : ∃ v,W.heap[go]? = some (.cells #[v] 32 (0,0)) ∧ Kd.S (Kd.slice 3 (Kd.int .i64)) 22 W w0.heap.size (fun _ => True) v L
 B : Below w0.heap.size w0 W
 ge : w0.heap.size ≤ go
theorem StV.below {w0 W W1 : World} {go : Nat} {L : List (List Int)} (st : StV w0 go L W) (hb : Below W.heap.size W W1) : StV w0 go L W1 := by
 obtain ⟨v,h1,h2⟩:=st.box
 exact ⟨⟨v,zQ h1 hb,zY h2 hb⟩,zJb st.B hb,st.ge⟩
def KT (go : Nat) (W w' : World) : Prop := W.heap.size ≤ w'.heap.size ∧ ∀ k, k < W.heap.size → k ≠ go → (∀ cells fr, W.heap[k]? ≠ some (.cells cells 22 fr)) → w'.heap[k]? = W.heap[k]?
theorem KT.refl (go : Nat) (W : World) : KT go W W := ⟨Nat.le_refl _, fun _ _ _ _ => rfl⟩
theorem KT.of_below {go : Nat} {W w' : World} (h : Below W.heap.size W w') : KT go W w' := ⟨h.size, fun k hk _ _ => h.block k hk⟩
theorem KT.trans {go : Nat} {W w1 w2 : World} (h : KT go W w1) (k : KT go w1 w2) : KT go W w2 :=
 ⟨Nat.le_trans h.1 k.1,fun i hi hn ht => by
  have h1:=h.2 i hi hn ht
  rw [← h1]
  exact k.2 i (Nat.lt_of_lt_of_le hi h.1) hn (fun cells fr => by rw [h1];exact ht cells fr)⟩
theorem KT.blk {go g : Nat} {W w' : World} {cs : Array Value} {t : TypeId} {fr : Nat × Nat} (h : KT go W w') (hb : W.heap[g]? = some (.cells cs t fr)) (hne : g ≠ go) (ht : t ≠ 22) : w'.heap[g]? = some (.cells cs t fr) := by
 rw [h.2 g (blk_lt hb) hne (fun cells fr' => by rw [hb];intro e;injection e with e;injection e with _ e _;exact ht e)]
 exact hb
theorem KT.set {go g : Nat} {W W1 : World} (h : KT go W W1) (hg : W.heap.size ≤ g) (j : Nat) (u : Value) : KT go W (W1.setCell ⟨g, j, none⟩ u) :=
 ⟨by simpa [World.setCell] using h.1,fun k hk hn ht => (Below.heap_setCell W1 ⟨g,j,none⟩ u k (show k ≠ g by omega)).trans (h.2 k hk hn ht)⟩
theorem KT.sets {go g : Nat} {W : World} (hg : W.heap.size ≤ g) : ∀ (vs : List Value) (s : Nat) (W1 : World), KT go W W1 → KT go W (W1.setCells g s vs)
 | [], _, _, h => h
 | v :: r, s, W1, h => by rw [World.setCells]; exact KT.sets hg r (s + 1) _ (h.set hg s v)
theorem KT.grown {go : Nat} {W w1 : World} {v : Value} (hg : W.grownBy w1 v.ownBlock) (hty : ∀ k, v.ownBlock = some k → ∃ cells, W.heap[k]? = some (.cells cells 22 (0, 0))) : KT go W w1 :=
 ⟨hg.size,fun k hk _ ht => hg.block k hk (fun he => by obtain ⟨cells,hc⟩:=hty k he.symm;exact ht cells (0,0) hc)⟩
theorem KT.setgo {go : Nat} {W W1 : World} (h : KT go W W1) (j : Nat) (u : Value) : KT go W (W1.setCell ⟨go, j, none⟩ u) :=
 ⟨by simpa [World.setCell] using h.1,fun k hk hn ht => (Below.heap_setCell W1 ⟨go,j,none⟩ u k (show k ≠ go from hn)).trans (h.2 k hk hn ht)⟩
theorem StV.set {w0 W : World} {go g t : Nat} {L : List (List Int)} {cs : Array Value} (st : StV w0 go L W) (hb : W.heap[g]? = some (.cells cs t (0, 0))) (h1 : 32 ≠ t) (ht : ∀ q, q ∈ 22 :: (Kd.slice 3 (Kd.int .i64)).E → q ≠ t) (hg : w0.heap.size ≤ g) (j : Nat) (u : Value) : StV w0 go L (W.setCell ⟨g, j, none⟩ u) := by
 obtain ⟨v,h2,h3⟩:=st.box
 exact ⟨⟨v,zUb h2 (p:=⟨g,j,none⟩) (blk_ne h2 hb h1) u,Kd.S_set h3 hb ht j u⟩,zB st.B hg,st.ge⟩
theorem StV.sets {w0 : World} {go g t : Nat} {L : List (List Int)} (h1 : 32 ≠ t) (ht : ∀ q, q ∈ 22 :: (Kd.slice 3 (Kd.int .i64)).E → q ≠ t) (hg : w0.heap.size ≤ g) : ∀ (vs : List Value) (s : Nat) (W : World) (cs : Array Value), StV w0 go L W → W.heap[g]? = some (.cells cs t (0, 0)) → StV w0 go L (W.setCells g s vs)
 | [], _, _, _, h, _ => h
 | v :: r, s, W, cs, h, hb => by rw [World.setCells]; exact StV.sets h1 ht hg r (s + 1) _ _ (h.set hb h1 ht hg s v) (blk_put hb s v rfl)
theorem blk_sets {g g' t : Nat} {W : World} {cs : Array Value} (hb : W.heap[g]? = some (.cells cs t (0, 0))) (hne : g ≠ g') (vs : List Value) (s : Nat) : (W.setCells g' s vs).heap[g]? = some (.cells cs t (0, 0)) :=
 ((setCells_kept g' vs s W W (Kept.refl _ _)).2 g (blk_lt hb) (fun h => hne h)).trans hb
theorem flat_take (f : S64 → List (List Int)) (d : List S64) (x : Nat) : ((d.take x).flatMap f).length ≤ (d.flatMap f).length := by
 conv => rhs;rw [← List.take_append_drop x d,List.flatMap_append,List.length_append]
 omega
theorem flat_succ (f : S64 → List (List Int)) (d : List S64) (x : Nat) (hx : x < d.length) : (d.take (x + 1)).flatMap f = (d.take x).flatMap f ++ f (d.getD x z64) := by
 rw [List.take_succ_eq_append_getElem hx,List.flatMap_append,List.flatMap_cons,List.flatMap_nil,List.append_nil,List.getD_eq_getElem?_getD,List.getElem?_eq_getElem hx]
 rfl
theorem rd_TF (l : List S64) (x : Nat) : rd_T64 l (x : Int) = l.getD x z64 := by simp [rd_T64]
theorem rd_TA (l : List S81) (x : Nat) : rd_T81 l (x : Int) = l.getD x z81 := by simp [rd_T81]
set_option maxHeartbeats 8000000 in
set_option maxRecDepth 100000 in
theorem visit_walk (w0 : World) (go : Nat) (φ : List Int → List Int) (F : FuncId) (cb : Array Value) (eF : ∀ args w, (callFunc F args).run Tryz.prog w = .ok (.enter F args) w) (hCB : ∀ (L : List (List Int)) (W : World) (b : List Int), b.length = 40 → L.length ≤ 1000000 → StV w0 go L W → Calls Tryz.prog F (#[.agg (encB b).toArray] ++ cb) W fun e w' => e = .returned (.tuple #[]) ∧ StV w0 go (L ++ [φ b]) w' ∧ KT go W w')
  (Ab : Option Addr) (cbd : Nat) (body : List S81) (Ad : Option Addr) (cd : Nat) (d : List S64) (hrb : Kd.C k81 w0 Ab body.length body) (hcb : body.length ≤ cbd) (hrd : Kd.C k64 w0 Ad d.length d) (hcd : d.length ≤ cd) (ho : ∀ a ∈ body,∀ t ∈ a.f1,-80 ≤ t ∧ t ≤ 19) (hbl : body.length ≤ 1048576) (hdl : d.length ≤ 1048576) (has : ∀ a ∈ body,a.f1.length ≤ 1048576) :
  ∀ (n i : Nat) (b : List Int) (L : List (List Int)) (W : World),i + n = body.length → b.length = 40 → StV w0 go L W → L.length + (mDfs d (body.drop i) b).length ≤ 1000000 →
  Calls Tryz.prog 67 #[.slice Ab body.length cbd, .slice Ad d.length cd, .agg (encB b).toArray, .int .i64 (i : Int), .func (.func F) #[] cb] W fun e w' => e = .returned (.tuple #[]) ∧ StV w0 go (L ++ (mDfs d (body.drop i) b).map φ) w' ∧ KT go W w' := by
 have huB:=Tryz.underlying97
 have huA:=Tryz.underlying81
 have huF:=Tryz.underlying64
 have CB:=zA hCB
 have RB:=zA hrb
 have RD:=zA hrd
 have HC:=zA (show body.length ≤ cbd ∧ d.length ≤ cd from ⟨hcb,hcd⟩)
 have HO:=zA ho
 have HS:=zA has
 have HBL:=zA (show body.length ≤ 1048576 ∧ d.length ≤ 1048576 from ⟨hbl,hdl⟩)
 clear hCB hrb hrd hcb hcd ho has hbl hdl
 intro n
 induction n with
 | zero =>
  intro i b L W hin hbl hst hsz
  have GW:=zA hst.B.size
  have ST:=zA hst
  have LB:=zA hbl
  have HI:=zA hin
  have HZ:=zA hsz
  clear hst hbl hin hsz
  go_enter Tryz.func67,Tryz.ntmps67
  go_wp2_with (first|((with_reducible refine gate_dst (N:=7) rfl ?_);refine hold ?_))
  unfold Hold
  refine box_event ?hgg7 (N:=7) ?hdg7 (cs:=(encB b).toArray) (t:=97) ?hrg7 ?_
  case hdg7 => rfl
  case hgg7 => rfl
  case hrg7 => first|(go_simp;done)|(go_simp;rfl)
  intro g7 hg w1 hbox hb
  have B7:=zA hbox
  have KW:=zA (KT.of_below (go:=go) hb)
  replace ST:=zA (ST.out.below hb)
  clear hbox hb hg
  have e1 : ((i : Int) == (body.length : Int)) = true:=by have:=HI.out;simp;omega
  go_wp2_with (first|((with_reducible refine gate_dst (N:=19) rfl ?_);refine hold ?_))
  unfold Hold
  refine Kd.event_run (v:=.agg (encB b).toArray) (w1:=w1) ?hgl6 ?hrl6 ?_
  case hgl6 => rfl
  case hrl6 => exact load_run rfl rfl B7.out huB rfl (by rw [List.size_toArray,encB_len];kernel_rfl)
  go_wp2_with (first|(go_at_fn F;refine hold ?_))
  unfold Hold
  refine (CB.out L w1 b LB.out (by have:=HZ.out;omega) ST.out).mono ?_
  rintro e w2 ⟨rfl,hs,hk⟩
  have hd : body.drop i = []:=List.drop_eq_nil_of_le (by have:=HI.out;omega)
  have SF:=zA (show StV w0 go (L ++ (mDfs d (body.drop i) b).map φ) w2 by rw [hd];exact hs)
  have KF:=zA (KW.out.trans hk)
  clear hs hk hd ST KW
  go_wp2
  (try simp only [Exit.inBlock,Exit.then])
  refine bodyPost_ret (results_none rfl _ _ _) rfl ?_
  exact ⟨rfl,SF.out,KF.out⟩
 | succ n ih =>
  have IH:=zA ih
  clear ih
  intro i b L W hin hbl hst hsz
  have GW:=zA hst.B.size
  have ST:=zA hst
  have LB:=zA hbl
  have HI:=zA hin
  have HZ:=zA hsz
  clear hst hbl hin hsz
  have hil : i < body.length:=by have:=HI.out;omega
  obtain ⟨ab,A1,c1,eab,hb0,hb1,hbl1,hbi1⟩:=at_T81 RB.out (i : Int) (by omega) (by omega)
  rw [rd_TA] at hb0 hb1 hbl1 hbi1
  simp only [Int.toNat_natCast] at hb0 hb1
  subst eab
  obtain ⟨a,ha⟩ : ∃ a,body.getD i z81 = a:=⟨_,rfl⟩
  rw [ha] at hb0 hb1 hbl1 hbi1
  obtain ⟨a0,a1⟩:=a
  dsimp only at hb0 hb1 hbl1 hbi1
  obtain ⟨a,haa⟩ : ∃ a : S81,a = ⟨a0,a1⟩:=⟨_,rfl⟩
  rw [← haa] at ha
  have ham : a ∈ body:=by rw [← ha,List.getD_eq_getElem?_getD,List.getElem?_eq_getElem hil];exact List.getElem_mem _
  have hdr : body.drop i = a :: body.drop (i + 1):=by rw [List.drop_eq_getElem_cons hil,← ha,List.getD_eq_getElem?_getD,List.getElem?_eq_getElem hil];rfl
  have CA0:=zA hb0
  have CA1:=zA hb1
  have LA:=zA hbl1
  have RA:=zA hbi1
  have OA:=zA (show ∀ t ∈ a1,-80 ≤ t ∧ t ≤ 19 from by have h_:=HO.out a ham;rw [haa] at h_;exact h_)
  have SA:=zA (show a1.length ≤ 1048576 from by have h_:=HS.out a ham;rw [haa] at h_;exact h_)
  have HIL:=zA hil
  obtain ⟨G,hG⟩ : ∃ G : S64 → List (List Int),G = fun f => if (mMatch a f b).2 = true then mDfs d (body.drop (i + 1)) (mMatch a f b).1 else []:=⟨_,rfl⟩
  have hD : mDfs d (body.drop i) b = d.flatMap G:=by rw [hdr,hG];rfl
  have HGd:=zA hG
  have hz:=HZ.out
  rw [hD] at hz ⊢
  replace HZ:=zA hz
  have HAA:=zA haa
  clear haa hb0 hb1 hbl1 hbi1 ha ham hdr hG hil hz hD
  go_enter Tryz.func67,Tryz.ntmps67
  go_wp2_with (first|((with_reducible refine gate_dst (N:=7) rfl ?_);refine hold ?_))
  unfold Hold
  refine box_event ?hgg7 (N:=7) ?hdg7 (cs:=(encB b).toArray) (t:=97) ?hrg7 ?_
  case hdg7 => rfl
  case hgg7 => rfl
  case hrg7 => first|(go_simp;done)|(go_simp;rfl)
  intro g7 hg w1 hbox hb
  have B7:=zA hbox
  have KW:=zA (KT.of_below (go:=go) hb)
  replace ST:=zA (ST.out.below hb)
  clear hbox hb hg
  have e1 : ((i : Int) == (body.length : Int)) = false:=by have:=HI.out;have:=HIL.out;simp;omega
  have N7:=zA (show g7 ≠ go from by obtain ⟨v_,h_,_⟩:=ST.out.box;exact blk_ne B7.out h_ (by decide))
  go_wp2
  go_loopg [23] d.length (fun kq v23 w' => ∃ (x : Nat),v23 = .int .i64 (x : Int) ∧ Aside0 (kq + x = d.length) ∧ Aside0 (StV w0 go (L ++ ((d.take x).flatMap G).map φ) w') ∧ Aside0 (KT go W w') ∧ Aside0 (w'.heap[g7]? = some (.cells (encB b).toArray 97 (0,0))))
  case atStart => exact ⟨0,rfl,⟨rfl⟩,⟨by simpa using ST.out⟩,KW,B7⟩
  case round =>
   clear ST KW B7
   obtain ⟨x,rfl,HG,ST,KW,B7⟩:=hrel
   have GE:=zA (show w0.heap.size ≤ W.heap.size ∧ W.heap.size ≤ wr.heap.size from ⟨GW.out,KW.out.1⟩)
   by_cases c6 : (x : Int) < (d.length : Int)
   rotate_left
   ·have c6b:=decide_eq_false c6
    have hx : x = d.length:=by have:=HG.out;omega
    subst hx
    have SF:=zA (show StV w0 go (L ++ (d.flatMap G).map φ) wr by have h_:=ST.out;rw [List.take_length] at h_;exact h_)
    clear ST
    go_wp2
    go_end0
    exact ⟨rfl,SF.out,KW.out⟩
   have c6b:=decide_eq_true c6
   have hxl : x < d.length:=by omega
   obtain ⟨ad,A2,c2,ead,hd0,hd1,hdl1,hdi1⟩:=at_T64 RD.out (x : Int) (by omega) (by omega)
   rw [rd_TF] at hd0 hd1 hdl1 hdi1
   simp only [Int.toNat_natCast] at hd0 hd1
   subst ead
   have hfs:=flat_succ G d x hxl
   obtain ⟨f,hf⟩ : ∃ f,d.getD x z64 = f:=⟨_,rfl⟩
   rw [hf] at hd0 hd1 hdl1 hdi1 hfs
   obtain ⟨f0,f1⟩:=f
   dsimp only at hd0 hd1 hdl1 hdi1
   have FS:=zA hfs
   have FT:=zA (flat_take G d (x + 1))
   have LF:=zA hdl1
   have RF:=zA hdi1
   have XL:=zA hxl
   have hx0:=(ST.out.B.cell (World.block_lt_of_cell? w0 _ hd0)).trans hd0
   have hx1:=(ST.out.B.cell (World.block_lt_of_cell? w0 _ hd1)).trans hd1
   have q5:=eq_true c6
   have r5:=eq_true (Int.natCast_nonneg x)
   clear hd0 hd1 hdl1 hdi1 hfs hf hxl
   go_wp2_with (first|((with_reducible refine gate_dst (N:=11) rfl ?_);refine hold ?_))
   unfold Hold
   refine box_event ?hgg11 (N:=11) ?hdg11 (cs:=#[.int .i64 0,.slice none 0 0]) (t:=64) ?hrg11 ?_
   case hdg11 => rfl
   case hgg11 => rfl
   case hrg11 => first|(go_simp;done)|(go_simp;rfl)
   intro g11 hg w2 hbox hb
   have B11:=zA hbox
   have N11:=zA (show wr.heap.size ≤ g11 ∧ g11 ≠ go ∧ g7 ≠ g11 from ⟨by rw [hg];exact Nat.le_refl _,by obtain ⟨v_,h_,_⟩:=(ST.out.below hb).box;exact blk_ne hbox h_ (by decide),by rw [hg];exact Nat.ne_of_lt (blk_lt B7.out)⟩)
   replace ST:=zA (ST.out.below hb)
   replace KW:=zA (KW.out.trans (KT.of_below hb))
   replace B7:=zA (zQ B7.out hb)
   clear hx0 hx1
   clear hbox hb hg
   have hc0:=zc (.int .i64 0) B11 0 rfl
   have hc1:=zc (.slice none 0 0) B11 1 rfl
   have hf0:=blk_frozen B11.out 0
   have hf1:=blk_frozen B11.out 1
   have HG0:=zA (show w0.heap.size ≤ g11 ∧ W.heap.size ≤ g11 from ⟨Nat.le_trans (show w0.heap.size ≤ wr.heap.size from Nat.le_trans GE.out.1 GE.out.2) N11.out.1,Nat.le_trans GE.out.2 N11.out.1⟩)
   go_wp2_with (first|((with_reducible refine gate_store (t:=64) (p:=11) rfl ?_);refine hold ?_))
   unfold Hold
   refine store_event (t:=64) (p:=11) (v:=?vo11) (w1:=(w2.setCell ⟨g11,0,none⟩ (.int .i64 f0)).setCell ⟨g11,1,none⟩ (.slice A2 f1.length c2)) ?hgs11 ?hos11 ?hns11 ?hrs11 ?_
   case hos11 => rfl
   case hgs11 => rfl
   case hns11 => rfl
   case hrs11 => first|(go_simp;done)|(go_simp;rfl)
   intro w3 hw
   clear hc0 hc1 hf0 hf1
   have b11:=blk_put (cs':=#[.int .i64 f0,.slice none 0 0]) B11.out 0 (.int .i64 f0) rfl
   have n_:=zA ((ST.out.set B11.out (by decide) (by decide) HG0.out.1 0 (.int .i64 f0)).set b11 (by decide) (by decide) HG0.out.1 1 (.slice A2 f1.length c2))
   rw [← hw] at n_
   replace ST:=n_
   clear n_
   have n_:=zA ((KW.out.set HG0.out.2 0 (.int .i64 f0)).set HG0.out.2 1 (.slice A2 f1.length c2))
   rw [← hw] at n_
   replace KW:=n_
   clear n_
   have n_:=zA (zUb (zUb B7.out (p:=⟨g11,0,none⟩) N11.out.2.2 (.int .i64 f0)) (p:=⟨g11,1,none⟩) N11.out.2.2 (.slice A2 f1.length c2))
   rw [← hw] at n_
   replace B7:=n_
   clear n_
   have n_:=zA (blk_put (cs':=#[.int .i64 f0,.slice A2 f1.length c2]) b11 1 (.slice A2 f1.length c2) rfl)
   rw [← hw] at n_
   replace B11:=n_
   clear n_ hw b11
   obtain ⟨M,hM⟩ : ∃ M,mMatch (⟨a0,a1⟩ : S81) (⟨f0,f1⟩ : S64) b = M:=⟨_,rfl⟩
   have MW : Aside0 (∀ W' : World,Below w0.heap.size w0 W' → Calls Tryz.prog 85 #[.agg (encB b).toArray,.agg #[.int .i64 a0,.slice A1 a1.length c1],.agg #[.int .i64 f0,.slice A2 f1.length c2]] W' fun e w' => e = .returned (.tuple #[.agg (encB M.1).toArray,.bool M.2]) ∧ Below W'.heap.size W' w') :=
    ⟨fun W' hb_ => by have h_:=match_walk b LB.out a0 A1 c1 a1 f0 A2 c2 f1 W' (zKb RA.out hb_) LA.out (zKb RF.out hb_) LF.out OA.out SA.out;rw [hM] at h_;exact h_⟩
   have ML:=zA (show M.1.length = 40 by rw [← hM,mMatch_len];exact LB.out)
   have GM:=zA (show G ⟨f0,f1⟩ = if M.2 = true then mDfs d (body.drop (i + 1)) M.1 else [] by rw [HGd.out];show (if (mMatch a ⟨f0,f1⟩ b).2 = true then _ else _) = _;rw [HAA.out,hM])
   clear hM
   obtain ⟨m,mb⟩:=M
   dsimp only at MW ML GM
   try go_wp2
   have n_:=zA (ST.out.below (below_drew (Below.refl _ _)))
   replace ST:=n_
   clear n_
   have n_:=zA (KW.out.trans (KT.of_below (go:=go) (below_drew (w:=w3) (Below.refl _ _))))
   replace KW:=n_
   clear n_
   have n_:=zA (zI B7.out)
   replace B7:=n_
   clear n_
   have n_:=zA (zI B11.out)
   replace B11:=n_
   clear n_
   refine start_ (n:=13) (S:=fun w' => w'.heap[g7]? = some (.cells (encB b).toArray 97 (0,0)) ∧ w'.cell? (ab.add (i * 2)) = some (.int .i64 a0) ∧ w'.cell? ⟨(ab.add (i * 2)).block,(ab.add (i * 2)).off + 1,none⟩ = some (.slice A1 a1.length c1) ∧ w'.cell? ⟨g11,0,none⟩ = some (.int .i64 f0) ∧ w'.cell? ⟨g11,1,none⟩ = some (.slice A2 f1.length c2)) (ds:=[]) #[yf,yf,yf,yf,yf,yf,yf,yf,yf,yf,yf,yf,yf] (by kernel_rfl) rfl rfl ⟨B7.out,(ST.out.B.cell (World.block_lt_of_cell? w0 _ CA0.out)).trans CA0.out,(ST.out.B.cell (World.block_lt_of_cell? w0 _ CA1.out)).trans CA1.out,(zP B11.out 0).trans rfl,(zP B11.out 1).trans rfl⟩ (fun hHeld => ?_)
   generalize w3.drew = wd at ST KW B7 B11 hHeld ⊢
   have p6:=eq_true HIL.out
   have p7 : ((i : Int) < (body.length : Int)) = True:=eq_true (by have:=HIL.out;omega)
   have p8:=eq_true (Int.natCast_nonneg i)
   refine take_ (i:=0) (N:=some 28) (v:=(.agg (encB b).toArray)) (a':=?_) #[yt,yf,yf,yf,yf,yf,yf,yf,yf,yf,yf,yf,yf] rfl rfl (by kernel_rfl) (fun _ _ _ h => h) (Or.inl ⟨by rfl,?_⟩) hHeld ?_ ?_
   ·rintro w' ⟨s0,s1,s2,s3,s4⟩;exact load_run rfl rfl s0 huB rfl (by rw [List.size_toArray,encB_len];kernel_rfl)
   rotate_left
   ·simp only [Act.put,zO,zEb,zFb,i64_w,i32_w];rfl
   refine zu 1 29 ?_;refine zu 2 30 ?_;refine zu 3 31 ?_;refine zw 4 32 hHeld ?_;refine zw 5 33 hHeld ?_
   refine two_ (i:=6) (j:=10) (Ni:=some 34) (Nj:=some 12) #[yt,yt,yt,yt,yt,yt,yt,yf,yf,yf,yf,yf,yf] #[yt,yt,yt,yt,yt,yt,yf,yf,yf,yf,yt,yf,yf] rfl rfl rfl rfl (by kernel_rfl) (by decide) (by decide) (fun K hK => ?_) (fun K hK => ?_)
   ·skip
    refine goes_ Tryz.func85 (by kernel_rfl) rfl #[.agg (encB b).toArray,.agg #[.int .i64 a0,.slice A1 a1.length c1],.agg #[.int .i64 f0,.slice A2 f1.length c2]] (by rfl) rfl rfl (by (try simp only [zCb,zMb,zNb]);first|done|rfl) ?_
    with_reducible refine (MW.out _ ST.out.B).mono ?_
    rintro e we ⟨rfl,hb⟩
    refine ⟨_,rfl,?_⟩
    replace ST:=zA (ST.out.below hb)
    replace KW:=zA (KW.out.trans (KT.of_below hb))
    replace B7:=zA (zQ B7.out hb)
    replace B11:=zA (zQ B11.out hb)
    clear hb
    refine hK.out _ _ ⟨B7.out,(ST.out.B.cell (World.block_lt_of_cell? w0 _ CA0.out)).trans CA0.out,(ST.out.B.cell (World.block_lt_of_cell? w0 _ CA1.out)).trans CA1.out,(zP B11.out 0).trans rfl,(zP B11.out 1).trans rfl⟩ (fun hHeld => ?_)
    clear hK K
    refine norm_ (a':=?_) ?_ ?_
    rotate_left
    ·show Act.put _ (some 34) _ = _;simp only [Act.put,zO,zEb,zFb,i64_w,i32_w];rfl
    refine zu 7 27 ?_;refine zu 8 35 ?_;refine zu 9 36 ?_
    refine one_ (i:=10) (N:=some 12) #[yt,yt,yt,yt,yt,yt,yt,yt,yt,yt,yt,yf,yf] rfl rfl (by kernel_rfl) (by decide) (fun K hK => ?_)
    refine box_step (by rfl) (N:=12) rfl (cs:=(encB mEmpty).toArray) (t:=97) ?_ ?_
    ·first|(go_simp;done)|(go_simp;rfl)
    intro g12 hg wf hbox hb
    have B12:=zA hbox
    have N12:=zA (show g12 ≠ go ∧ g7 ≠ g12 ∧ g11 ≠ g12 ∧ w0.heap.size ≤ g12 ∧ W.heap.size ≤ g12 from ⟨by obtain ⟨v_,h_,_⟩:=(ST.out.below hb).box;exact blk_ne hbox h_ (by decide),by rw [hg];exact Nat.ne_of_lt (blk_lt B7.out),by rw [hg];exact Nat.ne_of_lt (blk_lt B11.out),by rw [hg];exact ST.out.B.size,by rw [hg];exact KW.out.1⟩)
    replace ST:=zA (ST.out.below hb)
    replace KW:=zA (KW.out.trans (KT.of_below hb))
    replace B7:=zA (zQ B7.out hb)
    replace B11:=zA (zQ B11.out hb)
    clear hbox hb hg
    refine hK.out _ _ ⟨B7.out,(ST.out.B.cell (World.block_lt_of_cell? w0 _ CA0.out)).trans CA0.out,(ST.out.B.cell (World.block_lt_of_cell? w0 _ CA1.out)).trans CA1.out,(zP B11.out 0).trans rfl,(zP B11.out 1).trans rfl⟩ (fun hHeld => ?_)
    clear hK K
    refine norm_ (a':=?_) ?_ ?_
    rotate_left
    ·show Act.put _ (some 12) _ = _;simp only [Act.put,zO,zEb,zFb,i64_w,i32_w];rfl
    refine one_ (i:=11) (N:=none) #[yt,yt,yt,yt,yt,yt,yt,yt,yt,yt,yt,yt,yf] rfl rfl (by kernel_rfl) (by decide) (fun K hK => ?_)
    refine skip_ (w1:=wf.setCells g12 0 (encB m)) (by rfl) rfl ?_ ?_
    ·exact store_run (encB m) rfl rfl rfl B12.out (by simp [encB_len]) (encB_one _) (by rw [encB_len];kernel_rfl)
    have n12:=zA (show (wf.setCells g12 0 (encB m)).heap[g12]? = some (.cells (encB m).toArray 97 (0,0)) by rw [setCells_heap g12 97 (encB m) 0 wf _ B12.out,setMany_all _ _ (by simp [encB_len])])
    have nST:=zA (StV.sets (by decide) (by decide) N12.out.2.2.2.1 (encB m) 0 _ _ ST.out B12.out)
    have nKW:=zA (KT.sets N12.out.2.2.2.2 (encB m) 0 _ KW.out)
    have nB7:=zA (blk_sets B7.out N12.out.2.1 (encB m) 0)
    have nB11:=zA (blk_sets B11.out N12.out.2.2.1 (encB m) 0)
    clear ST KW B7 B11 B12
    have ST:=nST
    have KW:=nKW
    have B7:=nB7
    have B11:=nB11
    have B12:=n12
    clear nST nKW nB7 nB11 n12
    refine hK.out _ _ ⟨B7.out,(ST.out.B.cell (World.block_lt_of_cell? w0 _ CA0.out)).trans CA0.out,(ST.out.B.cell (World.block_lt_of_cell? w0 _ CA1.out)).trans CA1.out,(zP B11.out 0).trans rfl,(zP B11.out 1).trans rfl⟩ (fun hHeld => ?_)
    clear hK K
    generalize hwz : wf.setCells g12 0 (encB m) = wz at ST KW B7 B11 B12 hHeld ⊢
    clear hwz
    refine zu 12 13 ?_
    refine done_ (by kernel_rfl) ?_
    clear hHeld p6 p7 p8 MW B11
    cases mb
    ·have SF:=zA (show StV w0 go (L ++ ((d.take (x + 1)).flatMap G).map φ) wz by rw [FS.out,GM.out,if_neg (by simp),List.append_nil];exact ST.out)
     clear ST B12
     go_wp2
     go_roundg (gk - 1)
     case measure => have:=HG.out;have:=XL.out;omega
     case rel => exact ⟨x + 1,congrArg (Value.int .i64) (by have:=HBL.out;have:=XL.out;first|omega|(unfold wrap64;omega)),⟨by have:=HG.out;have:=XL.out;omega⟩,SF,KW,B7⟩
    have GM2:=zA (show G ⟨f0,f1⟩ = mDfs d (body.drop (i + 1)) m by rw [GM.out,if_pos rfl])
    clear GM
    have ZL:=zA (show (L ++ ((d.take x).flatMap G).map φ).length + (mDfs d (body.drop (i + 1)) m).length ≤ 1000000 by have h1:=HZ.out;have h2:=FT.out;rw [FS.out,List.length_append,GM2.out] at h2;rw [List.length_append,List.length_map];omega)
    go_wp2_with (first|((with_reducible refine gate_dst (N:=40) rfl ?_);refine hold ?_))
    unfold Hold
    refine Kd.event_run (v:=.agg (encB m).toArray) (w1:=wz) ?hgl7 ?hrl7 ?_
    case hgl7 => rfl
    case hrl7 => exact load_run rfl rfl B12.out huB rfl (by rw [List.size_toArray,encB_len];kernel_rfl)
    have e2 : wrap64 ((i : Int) + 1) = ((i + 1 : Nat) : Int):=by have:=HBL.out;have:=HIL.out;unfold wrap64;omega
    have E2:=zA e2
    clear e2
    go_wp2_with (first|(go_at_call 67;refine hold ?_))
    unfold Hold
    refine calls_of_args (args':=#[.slice (some ab) body.length cbd,.slice (some ad) d.length cd,.agg (encB m).toArray,.int .i64 ((i + 1 : Nat) : Int),.func (.func F) #[] cb]) (by have h_:=E2.out;first|rfl|(simp only [h_];done)|(simp;omega)) ?_
    refine (IH.out (i + 1) m _ _ (by have:=HI.out;omega) ML.out ST.out ZL.out).mono ?_
    rintro e wv ⟨rfl,hs,hk⟩
    have SF:=zA (show StV w0 go (L ++ ((d.take (x + 1)).flatMap G).map φ) wv by rw [FS.out,GM2.out,List.map_append,← List.append_assoc];exact hs)
    replace B7:=zA (hk.blk B7.out N7.out (by decide))
    replace KW:=zA (KW.out.trans hk)
    clear hs hk ST B12
    go_wp2
    go_roundg (gk - 1)
    case measure => have:=HG.out;have:=XL.out;omega
    case rel => exact ⟨x + 1,congrArg (Value.int .i64) (by have:=HBL.out;have:=XL.out;first|omega|(unfold wrap64;omega)),⟨by have:=HG.out;have:=XL.out;omega⟩,SF,KW,B7⟩
   ·skip
    refine box_step (by rfl) (N:=12) rfl (cs:=(encB mEmpty).toArray) (t:=97) ?_ ?_
    ·first|(go_simp;done)|(go_simp;rfl)
    intro g12 hg wf hbox hb
    have B12:=zA hbox
    have N12:=zA (show g12 ≠ go ∧ g7 ≠ g12 ∧ g11 ≠ g12 ∧ w0.heap.size ≤ g12 ∧ W.heap.size ≤ g12 from ⟨by obtain ⟨v_,h_,_⟩:=(ST.out.below hb).box;exact blk_ne hbox h_ (by decide),by rw [hg];exact Nat.ne_of_lt (blk_lt B7.out),by rw [hg];exact Nat.ne_of_lt (blk_lt B11.out),by rw [hg];exact ST.out.B.size,by rw [hg];exact KW.out.1⟩)
    replace ST:=zA (ST.out.below hb)
    replace KW:=zA (KW.out.trans (KT.of_below hb))
    replace B7:=zA (zQ B7.out hb)
    replace B11:=zA (zQ B11.out hb)
    clear hbox hg
    have hbb:=hb
    clear hb
    refine hK.out _ _ ⟨B7.out,(ST.out.B.cell (World.block_lt_of_cell? w0 _ CA0.out)).trans CA0.out,(ST.out.B.cell (World.block_lt_of_cell? w0 _ CA1.out)).trans CA1.out,(zP B11.out 0).trans rfl,(zP B11.out 1).trans rfl⟩ (fun hHeld => ?_)
    clear hK K
    refine norm_ (a':=?_) ?_ ?_
    rotate_left
    ·show Act.put _ (some 12) _ = _;simp only [Act.put,zO,zEb,zFb,i64_w,i32_w];rfl
    refine one_ (i:=6) (N:=some 34) #[yt,yt,yt,yt,yt,yt,yt,yf,yf,yf,yt,yf,yf] rfl rfl (by kernel_rfl) (by decide) (fun K hK => ?_)
    refine goes_ Tryz.func85 (by kernel_rfl) rfl #[.agg (encB b).toArray,.agg #[.int .i64 a0,.slice A1 a1.length c1],.agg #[.int .i64 f0,.slice A2 f1.length c2]] (by rfl) rfl rfl (by (try simp only [zCb,zMb,zNb]);first|done|rfl) ?_
    with_reducible refine (MW.out _ ST.out.B).mono ?_
    rintro e we ⟨rfl,hb⟩
    refine ⟨_,rfl,?_⟩
    replace ST:=zA (ST.out.below hb)
    replace KW:=zA (KW.out.trans (KT.of_below hb))
    replace B7:=zA (zQ B7.out hb)
    replace B11:=zA (zQ B11.out hb)
    replace B12:=zA (zQ B12.out hb)
    clear hb hbb
    refine hK.out _ _ ⟨B7.out,(ST.out.B.cell (World.block_lt_of_cell? w0 _ CA0.out)).trans CA0.out,(ST.out.B.cell (World.block_lt_of_cell? w0 _ CA1.out)).trans CA1.out,(zP B11.out 0).trans rfl,(zP B11.out 1).trans rfl⟩ (fun hHeld => ?_)
    clear hK K
    refine norm_ (a':=?_) ?_ ?_
    rotate_left
    ·show Act.put _ (some 34) _ = _;simp only [Act.put,zO,zEb,zFb,i64_w,i32_w];rfl
    refine zu 7 27 ?_;refine zu 8 35 ?_;refine zu 9 36 ?_
    refine one_ (i:=11) (N:=none) #[yt,yt,yt,yt,yt,yt,yt,yt,yt,yt,yt,yt,yf] rfl rfl (by kernel_rfl) (by decide) (fun K hK => ?_)
    refine skip_ (w1:=we.setCells g12 0 (encB m)) (by rfl) rfl ?_ ?_
    ·exact store_run (encB m) rfl rfl rfl B12.out (by simp [encB_len]) (encB_one _) (by rw [encB_len];kernel_rfl)
    have n12:=zA (show (we.setCells g12 0 (encB m)).heap[g12]? = some (.cells (encB m).toArray 97 (0,0)) by rw [setCells_heap g12 97 (encB m) 0 we _ B12.out,setMany_all _ _ (by simp [encB_len])])
    have nST:=zA (StV.sets (by decide) (by decide) N12.out.2.2.2.1 (encB m) 0 _ _ ST.out B12.out)
    have nKW:=zA (KT.sets N12.out.2.2.2.2 (encB m) 0 _ KW.out)
    have nB7:=zA (blk_sets B7.out N12.out.2.1 (encB m) 0)
    have nB11:=zA (blk_sets B11.out N12.out.2.2.1 (encB m) 0)
    clear ST KW B7 B11 B12
    have ST:=nST
    have KW:=nKW
    have B7:=nB7
    have B11:=nB11
    have B12:=n12
    clear nST nKW nB7 nB11 n12
    refine hK.out _ _ ⟨B7.out,(ST.out.B.cell (World.block_lt_of_cell? w0 _ CA0.out)).trans CA0.out,(ST.out.B.cell (World.block_lt_of_cell? w0 _ CA1.out)).trans CA1.out,(zP B11.out 0).trans rfl,(zP B11.out 1).trans rfl⟩ (fun hHeld => ?_)
    clear hK K
    generalize hwz : we.setCells g12 0 (encB m) = wz at ST KW B7 B11 B12 hHeld ⊢
    clear hwz
    refine zu 12 13 ?_
    refine done_ (by kernel_rfl) ?_
    clear hHeld p6 p7 p8 MW B11
    cases mb
    ·have SF:=zA (show StV w0 go (L ++ ((d.take (x + 1)).flatMap G).map φ) wz by rw [FS.out,GM.out,if_neg (by simp),List.append_nil];exact ST.out)
     clear ST B12
     go_wp2
     go_roundg (gk - 1)
     case measure => have:=HG.out;have:=XL.out;omega
     case rel => exact ⟨x + 1,congrArg (Value.int .i64) (by have:=HBL.out;have:=XL.out;first|omega|(unfold wrap64;omega)),⟨by have:=HG.out;have:=XL.out;omega⟩,SF,KW,B7⟩
    have GM2:=zA (show G ⟨f0,f1⟩ = mDfs d (body.drop (i + 1)) m by rw [GM.out,if_pos rfl])
    clear GM
    have ZL:=zA (show (L ++ ((d.take x).flatMap G).map φ).length + (mDfs d (body.drop (i + 1)) m).length ≤ 1000000 by have h1:=HZ.out;have h2:=FT.out;rw [FS.out,List.length_append,GM2.out] at h2;rw [List.length_append,List.length_map];omega)
    go_wp2_with (first|((with_reducible refine gate_dst (N:=40) rfl ?_);refine hold ?_))
    unfold Hold
    refine Kd.event_run (v:=.agg (encB m).toArray) (w1:=wz) ?hgl8 ?hrl8 ?_
    case hgl8 => rfl
    case hrl8 => exact load_run rfl rfl B12.out huB rfl (by rw [List.size_toArray,encB_len];kernel_rfl)
    have e2 : wrap64 ((i : Int) + 1) = ((i + 1 : Nat) : Int):=by have:=HBL.out;have:=HIL.out;unfold wrap64;omega
    have E2:=zA e2
    clear e2
    go_wp2_with (first|(go_at_call 67;refine hold ?_))
    unfold Hold
    refine calls_of_args (args':=#[.slice (some ab) body.length cbd,.slice (some ad) d.length cd,.agg (encB m).toArray,.int .i64 ((i + 1 : Nat) : Int),.func (.func F) #[] cb]) (by have h_:=E2.out;first|rfl|(simp only [h_];done)|(simp;omega)) ?_
    refine (IH.out (i + 1) m _ _ (by have:=HI.out;omega) ML.out ST.out ZL.out).mono ?_
    rintro e wv ⟨rfl,hs,hk⟩
    have SF:=zA (show StV w0 go (L ++ ((d.take (x + 1)).flatMap G).map φ) wv by rw [FS.out,GM2.out,List.map_append,← List.append_assoc];exact hs)
    replace B7:=zA (hk.blk B7.out N7.out (by decide))
    replace KW:=zA (KW.out.trans hk)
    clear hs hk ST B12
    go_wp2
    go_roundg (gk - 1)
    case measure => have:=HG.out;have:=XL.out;omega
    case rel => exact ⟨x + 1,congrArg (Value.int .i64) (by have:=HBL.out;have:=XL.out;first|omega|(unfold wrap64;omega)),⟨by have:=HG.out;have:=XL.out;omega⟩,SF,KW,B7⟩

def mTupleI (h r : List Int) : List Int := h.map (mValI r)
set_option maxHeartbeats 8000000 in
set_option maxRecDepth 100000 in
theorem tuple_walk (g : Nat) (b : List Int) (A : Option Addr) (c : Nat) (h : List Int) (w : World) (hg : w.heap[g]? = some (.cells (encB b).toArray 97 (0, 0))) (hrd : Kd.C (Kd.int .i64) w A h.length h) (hc : h.length ≤ c) (ho : ∀ t ∈ h, -80 ≤ t ∧ t ≤ 19) (hl : h.length ≤ 1048576) :
  Calls Tryz.prog 69 #[.pointer (some ⟨g, 0, none⟩), .slice A h.length c] w fun e w' => ∃ v0_ : Value, e = .returned (v0_) ∧ Kd.R (Kd.int .i64) 3 w' w.heap.size (fun _ => True) v0_ (mTupleI h b) ∧ Below w.heap.size w w' := by
 have BG:=zA hg
 have RD:=zA hrd
 have HO:=zA ho
 have HL:=zA hl
 have HB:=zA (Below.refl w.heap.size w)
 clear hg hrd ho hl hc
 go_enter Tryz.func69,Tryz.ntmps69
 go_wp2_with (first|((with_reducible refine gate_dst (N:=8) rfl ?_);refine hold ?_))
 unfold Hold
 refine Kd.R_lit (Kd.int .i64) _ 3 ?hg8 (N:=8) ?hd8 (xs:=([] : List Int)) (inner:=[]) (ok:=fun _ => True) (okp:=fun _ => True) ?hr8 ?hp8 (fun _ hk => hk) trivial (Below.refl _ _) (Nat.le_refl _) (by simp) ?_
 case hd8 => rfl
 case hg8 => rfl
 case hr8 => first|(go_simp;done)|(go_simp;rfl)
 case hp8 => exact Reps.none _ _
 intro v8 w1 ho8 hb hg_ hnew_
 clear hg_ hnew_
 have O:=zA ho8
 have n_:=zA (zJb HB.out hb)
 clear HB ho8 hb
 have HB:=n_
 clear n_
 skip
 go_wp2
 go_loopg [5,11] h.length (fun kq v5 v11 w' => ∃ (x : Nat),v11 = .int .i64 (x : Int) ∧ Aside0 (kq + x = h.length) ∧ Aside0 (Kd.R (Kd.int .i64) 3 w' w.heap.size (fun _ => True) v5 (mTupleI (h.take x) b)) ∧ Aside0 (Below w.heap.size w w'))
 case atStart => exact ⟨0,rfl,⟨rfl⟩,⟨by simpa [mTupleI] using O.out⟩,HB⟩
 case round =>
  clear O HB
  obtain ⟨x,rfl,HG,O,HB⟩:=hrel
  by_cases c6 : (x : Int) < (h.length : Int)
  rotate_left
  ·have c6b:=decide_eq_false c6
   have c6n:=eq_false (show ¬ x < h.length by omega)
   have ex:=zA (show h.take x = h from List.take_of_length_le (by omega))
   clear c6
   go_wp2
   go_ret
   exact ⟨_,rfl,by have h_:=O.out;rw [ex.out] at h_;exact h_,HB.out⟩
  have c6b:=decide_eq_true c6
  have hxl : x < h.length:=by omega
  obtain ⟨ad,ead,hx⟩:=Kd.at_int RD.out (x : Int) (by omega) c6
  simp only [Int.toNat_natCast] at hx
  subst ead
  have CX:=zA hx
  have TT:=zA (HO.out (rd h (x : Int)) (by rw [rdN,List.getD_eq_getElem?_getD,List.getElem?_eq_getElem hxl];exact List.getElem_mem _))
  have TS:=zA (show mTupleI (h.take (x + 1)) b = mTupleI (h.take x) b ++ [mValI b (rd h (x : Int))] by unfold mTupleI;rw [List.take_succ_eq_append_getElem hxl,List.map_append,rdN,List.getD_eq_getElem?_getD,List.getElem?_eq_getElem hxl];rfl)
  have TL:=zA (show (mTupleI (h.take x) b).length = x by unfold mTupleI;rw [List.length_map,zDb];omega)
  have XL:=zA hxl
  have hcx : wr.cell? (ad.add x) = some (.int .i64 (rd h (x : Int))):=(HB.out.cell (World.block_lt_of_cell? w _ CX.out)).trans CX.out
  obtain ⟨t,ht⟩ : ∃ t,rd h (x : Int) = t:=⟨_,rfl⟩
  rw [ht] at hcx TT TS CX
  have q6:=eq_true hxl
  have q7:=eq_true c6
  have q8:=eq_true (Int.natCast_nonneg x)
  clear hx hxl c6 ht
  go_wp2_with (first|(go_at_call 86;refine hold ?_))
  unfold Hold
  refine (valueOf_walk g b t _ (zQ BG.out HB.out) TT.out).mono ?_
  rintro e w2 ⟨rfl,hd⟩
  have n_:=zA (zZ O.out hd.below)
  clear O
  have O:=n_
  clear n_
  have n_:=zA (zJb HB.out hd.below)
  clear HB hd hcx
  have HB:=n_
  clear n_
  obtain ⟨u,hu⟩ : ∃ u,mValI b t = u:=⟨_,rfl⟩
  rw [hu] at TS ⊢
  clear hu
  obtain ⟨Ao,co,rfl⟩:=Kd.R_slice O.out
  go_wp2_with (first|((with_reducible refine gate_builtin (b:=.append) (xs:=#[.tmp 15,.tmp 19]) rfl ?_);at_builtin;refine hold ?_))
  unfold Hold
  refine Kd.R_append (Kd.int .i64) (w0:=w) w.heap.size rfl (.tmp 15) (.tmp 19) 22 3 (.int .i64 0) 8 rfl Tryz.underlying22 info3 rfl (by decide) (by omega) (.slice Ao (mTupleI (h.take x) b).length co) (mTupleI (h.take x) b) u [.int .i64 u] (fun _ => True) (fun _ => False) rfl rfl ?aP (fun _ hk => hk.elim) ?aF ?aO ?aB ?aS ?aL ?_
  case aP => exact rfl
  case aF => exact fun _ _ => trivial
  case aO => exact O.out
  case aB => exact HB.out
  case aS => exact HB.out.size
  case aL => rw [TL.out];have:=HL.out;have:=XL.out;omega
  intro v9 w4 ho9 hb hg_ hat_
  have O4:=zA (show Kd.R (Kd.int .i64) 3 w4 w.heap.size (fun _ => True) v9 (mTupleI (h.take (x + 1)) b) from by rw [TS.out];exact ho9)
  have HB4:=zA hb
  clear ho9 hb hg_ hat_ O HB q6 q7 q8
  go_wp2
  go_roundg (gk - 1)
  case measure => have:=HG.out;have:=XL.out;omega
  case rel => exact ⟨x + 1,congrArg (Value.int .i64) (by have:=HL.out;have:=XL.out;first|omega|(unfold wrap64;omega)),⟨by have:=HG.out;have:=XL.out;omega⟩,O4,HB4⟩
set_option maxHeartbeats 8000000 in
set_option maxRecDepth 100000 in
theorem headsCB_walk (w0 : World) (go gq : Nat) (A : Option Addr) (c : Nat) (h : List Int) (vb : Value) (hq : w0.heap[gq]? = some (.cells #[.slice A h.length c, vb] 38 (0, 0))) (hrd : Kd.C (Kd.int .i64) w0 A h.length h) (hc : h.length ≤ c) (ho : ∀ t ∈ h, -80 ≤ t ∧ t ≤ 19) (hl : h.length ≤ 1048576)
  (L : List (List Int)) (W : World) (b : List Int) (hb : b.length = 40) (hL : L.length ≤ 1000000) (hst : StV w0 go L W) :
  Calls Tryz.prog 68 #[.agg (encB b).toArray, .pointer (some ⟨go, 0, none⟩), .pointer (some ⟨gq, 0, none⟩)] W fun e w' => e = .returned (.tuple #[]) ∧ StV w0 go (L ++ [mTupleI h b]) w' ∧ KT go W w' := by
 have huB:=Tryz.underlying97
 have huQ:=Tryz.underlying38
 have ST:=zA hst
 have QB:=zA hq
 have RD:=zA hrd
 have HC:=zA hc
 have HO:=zA ho
 have HL:=zA (show L.length ≤ 1000000 ∧ h.length ≤ 1048576 from ⟨hL,hl⟩)
 clear hst hb hL hq hrd hc ho hl
 go_enter Tryz.func68,Tryz.ntmps68
 go_wp2_with (first|((with_reducible refine gate_dst (N:=3) rfl ?_);refine hold ?_))
 unfold Hold
 refine box_event ?hg2 (N:=3) ?hd2 (cs:=(encB b).toArray) (t:=97) ?hr2 ?_
 case hd2 => rfl
 case hg2 => rfl
 case hr2 => first|(go_simp;done)|(go_simp;rfl)
 intro g2 hg w1 hbox hb
 have B2:=zA hbox
 have KW:=zA (KT.of_below (go:=go) hb)
 replace ST:=zA (ST.out.below hb)
 clear hbox hb hg
 try go_wp2
 obtain ⟨v0,hv0,hs0⟩:=ST.out.box
 have BG:=zA (zI hv0)
 have OS:=zA (zN hs0)
 have HB:=zA (zJ ST.out.B)
 have GE:=zA ST.out.ge
 have n_:=zA (KW.out.trans (KT.of_below (go:=go) (below_drew (w:=w1) (Below.refl _ _))))
 clear KW
 have KW:=n_
 clear n_
 have n_:=zA (zI B2.out)
 clear B2
 have B2:=n_
 clear n_ hv0 hs0 ST
 refine start_ (n:=7) (S:=fun w' => w'.cell? ⟨go,0,none⟩ = some v0 ∧ w'.cell? ⟨gq,0,none⟩ = some (.slice A h.length c)) (ds:=[6]) #[yf,yf,yf,yf,yf,yf,yf] (by kernel_rfl) rfl rfl ⟨(zP BG.out 0).trans rfl,(zP (zQ QB.out HB.out) 0).trans rfl⟩ (fun hHeld => ?_)
 generalize w1.drew = wd at BG OS HB KW B2 hHeld ⊢
 have WS:=zA KW.out.1
 refine zw 0 4 hHeld ?_;refine zu 1 5 ?_;refine zw 2 6 hHeld ?_
 refine one_ (i:=3) (N:=some 7) #[yt,yt,yt,yt,yf,yf,yf] rfl rfl (by kernel_rfl) (by decide) (fun K hK => ?_)
 refine goes_ Tryz.func69 (by kernel_rfl) rfl #[.pointer (some ⟨g2,0,none⟩),.slice A h.length c] (by rfl) rfl rfl (by (try simp only [zCb,zMb,zNb]);first|done|rfl) ?_
 with_reducible refine (tuple_walk g2 b A c h _ B2.out (zKb RD.out HB.out) HC.out HO.out HL.out.2).mono ?_
 rintro e w2 ⟨v2,rfl,ho,hb⟩
 refine ⟨_,rfl,?_⟩
 have V2:=zA (fun k (h_ : v2.ownBlock = some k) => zW ho k h_)
 have O2:=zA (zHb ho HB.out.size)
 replace BG:=zA (zQ BG.out hb)
 replace OS:=zA (Kd.S_old OS.out hb)
 replace KW:=zA (KW.out.trans (KT.of_below hb))
 replace HB:=zA (zJb HB.out hb)
 clear ho hb B2
 obtain ⟨A2,c2,rfl⟩:=Kd.R_slice O2.out
 refine hK.out _ _ ⟨(zP BG.out 0).trans rfl,(zP (zQ QB.out HB.out) 0).trans rfl⟩ (fun hHeld => ?_)
 clear hK K
 refine norm_ (a':=?_) ?_ ?_
 rotate_left
 ·show Act.put _ (some 7) _ = _;simp only [Act.put,zO,zEb,zFb,i64_w,i32_w];rfl
 refine one_ (i:=4) (N:=some 8) #[yt,yt,yt,yt,yt,yf,yf] rfl rfl (by kernel_rfl) (by decide) (fun K hK => ?_)
 refine event_step (by rfl) (v:=.slice (some ⟨w2.heap.size,0,none⟩) 1 1) (w1:=w2.alloc (.cells #[.slice A2 (mTupleI h b).length c2] 22 (0,0))) ?_ ?_
 ·first|(go_simp;done)|(go_simp;rfl)
 refine hK.out _ _ ⟨(zP (zG BG.out _) 0).trans rfl,(zP (zQ QB.out (zK HB.out _)) 0).trans rfl⟩ (fun hHeld => ?_)
 clear hK K
 refine norm_ (a':=?_) ?_ ?_
 rotate_left
 ·show Act.put _ (some 8) _ = _;simp only [Act.put,zO,zEb,zFb,i64_w,i32_w];rfl
 refine one_ (i:=5) (N:=some 9) #[yt,yt,yt,yt,yt,yt,yf] rfl rfl (by kernel_rfl) (by decide) (fun K hK => ?_)
 refine Kd.S_append_step (Kd.slice 3 (Kd.int .i64)) (w0:=w0) (W:=w2) w0.heap.size (by rfl) (.tmp 4) (.tmp 8) 32 22 (.slice none 0 0) 24 rfl Tryz.underlying32 info22 rfl (by decide) (by omega) v0 L (mTupleI h b) [.slice A2 (mTupleI h b).length c2] (fun _ => True) (fun k_ => some k_ = (.slice A2 (mTupleI h b).length c2 : Value).ownBlock) rfl rfl ⟨_,rfl,Kd.R_tight rfl O2.out⟩ (fun k_ hk_ => ⟨trivial,(Kd.R_apart' O2.out (Kd.S_typed OS.out) (by decide)).1 k_ hk_.symm |>.2⟩) (fun _ _ => trivial) (zS OS.out (fun k_ hk_ => ⟨trivial,fun e_ => by have:=V2.out k_ e_.symm;have:=hk_.2;omega⟩)) HB.out HB.out.size (by have:=HL.out;omega) ?_
 intro v3 w4 ho hb hg hat
 clear hat
 replace BG:=zA (blk_grown BG.out hg (Kd.S_ne OS.out BG.out (by decide)))
 replace KW:=zA (KW.out.trans (KT.grown hg (Kd.S_typed OS.out)))
 clear OS
 have OS:=zA ho
 replace HB:=zA hb
 obtain ⟨A3,c3,rfl⟩:=Kd.S_slice OS.out
 clear ho hb hg O2 V2
 refine hK.out _ _ ⟨(zP BG.out 0).trans rfl,(zP (zQ QB.out HB.out) 0).trans rfl⟩ (fun hHeld => ?_)
 clear hK K
 refine norm_ (a':=?_) ?_ ?_
 rotate_left
 ·show Act.put _ (some 9) _ = _;simp only [Act.put,zO,zEb,zFb,i64_w,i32_w];rfl
 refine last_ (i:=6) (N:=none) #[yt,yt,yt,yt,yt,yt,yt] rfl rfl (by kernel_rfl) (by decide) (fun K hK => ?_)
 have hxg : w4.cell? ⟨go,0,none⟩ = some v0:=(zP BG.out 0).trans rfl
 have hfg:=blk_frozen BG.out 0
 refine skip_ (w1:=w4.setCell ⟨go,0,none⟩ (.slice A3 (L ++ [mTupleI h b]).length c3)) (by rfl) rfl ?_ ?_
 ·go_simp;first|done|rfl
 clear hxg hfg
 have SF:=zA (show StV w0 go (L ++ [mTupleI h b]) (w4.setCell ⟨go,0,none⟩ (.slice A3 (L ++ [mTupleI h b]).length c3)) from ⟨⟨_,blk_put BG.out 0 _ rfl,Kd.S_set OS.out BG.out (by decide) 0 _⟩,zB HB.out GE.out,GE.out⟩)
 have KF:=zA (KW.out.setgo 0 (.slice A3 (L ++ [mTupleI h b]).length c3))
 generalize w4.setCell ⟨go,0,none⟩ (.slice A3 (L ++ [mTupleI h b]).length c3) = wz at SF KF ⊢
 refine hK.out _ _ ?_
 clear hK K hHeld
 refine done_ (by kernel_rfl) ?_
 try go_wp2
 go_end0
 exact ⟨rfl,SF.out,KF.out⟩
set_option maxHeartbeats 8000000 in
set_option maxRecDepth 100000 in
theorem impl_heads_walk (A0_0 : Option Addr) (c0_0 : Nat) (l0_0 : List Int) (A0_1 : Option Addr) (c0_1 : Nat) (l0_1 : List (S81)) (A1 : Option Addr) (c1 : Nat) (l1 : List (S64)) (w : World) (hr0_0 : Kd.C (Kd.int .i64) w A0_0 l0_0.length l0_0) (hc0_0 : l0_0.length ≤ c0_0) (hr0_1 : Kd.C k81 w A0_1 l0_1.length l0_1) (hc0_1 : l0_1.length ≤ c0_1) (hr1 : Kd.C k64 w A1 l1.length l1) (hc1 : l1.length ≤ c1) (hh : ∀ t ∈ l0_0, -80 ≤ t ∧ t ≤ 19) (ho : ∀ a ∈ l0_1, ∀ t ∈ a.f1, -80 ≤ t ∧ t ≤ 19) (hz0 : (l0_0.length ≤ 1048576 ∧ l0_1.length ≤ 1048576 ∧ l1.length ≤ 1048576) ∧ ∀ x ∈ l0_1, x.f1.length ≤ 1048576) (hsm : (mDfs l1 l0_1 mEmpty).length ≤ 331776) :
  Calls Tryz.prog 39 #[.agg #[.slice A0_0 l0_0.length c0_0, .slice A0_1 l0_1.length c0_1], .slice A1 l1.length c1] w fun e w' => ∃ v0_ : Value, e = .returned (v0_) ∧ Kd.S (Kd.slice 3 (Kd.int .i64)) 22 w' w.heap.size (fun _ => True) v0_ ((mDfs l1 l0_1 mEmpty).map (mTupleI l0_0)) ∧ Below w.heap.size w w' := by
 have hmf : ∀ (fn : Fn) (first cap : Array Value) (w : World),(Instr.makeFunc fn first cap).run Tryz.prog w = .ok (.func fn first cap) w:=fun _ _ _ _ => rfl
 have huQ:=Tryz.underlying38
 have huB:=Tryz.underlying97
 have R0:=zA hr0_0
 have R2:=zA hr0_1
 have R3:=zA hr1
 have HC:=zA (show l0_0.length ≤ c0_0 ∧ l0_1.length ≤ c0_1 ∧ l1.length ≤ c1 from ⟨hc0_0,hc0_1,hc1⟩)
 have HZ:=zA hz0
 have HO:=zA (show (∀ t ∈ l0_0,-80 ≤ t ∧ t ≤ 19) ∧ ∀ a ∈ l0_1,∀ t ∈ a.f1,-80 ≤ t ∧ t ≤ 19 from ⟨hh,ho⟩)
 have SM:=zA hsm
 clear hr0_0 hr0_1 hr1 hc0_0 hc0_1 hc1 hz0 hh ho hsm
 go_enter Tryz.func39,Tryz.ntmps39
 go_wp2_with (first|((with_reducible refine gate_dst (N:=2) rfl ?_);refine hold ?_))
 unfold Hold
 refine box_event ?hg1 (N:=2) ?hd1 (cs:=#[.slice A0_0 l0_0.length c0_0,.slice A0_1 l0_1.length c0_1]) (t:=38) ?hr1 ?_
 case hd1 => rfl
 case hg1 => rfl
 case hr1 => first|(go_simp;done)|(go_simp;rfl)
 intro gq hg w1 hbox hb
 have Bq:=zA hbox
 have B1:=zA hb
 have HB:=zA (Below.refl w1.heap.size w1)
 clear hbox hb hg
 go_wp2_with (first|((with_reducible refine gate_dst (N:=6) rfl ?_);refine hold ?_))
 unfold Hold
 refine Kd.S_lit (Kd.slice 3 (Kd.int .i64)) _ 22 ?hg2 (N:=6) ?hd2 (xs:=([] : List (List Int))) (inner:=[]) (ok:=fun _ => True) (okp:=fun _ => True) ?hr2 ?hp2 (fun _ hk => hk) trivial (Below.refl _ _) (Nat.le_refl _) (by simp) ?_
 case hd2 => rfl
 case hg2 => rfl
 case hr2 => first|(go_simp;done)|(go_simp;rfl)
 case hp2 => exact (Reps.none _ _)
 intro v8 w3 ho hb hg_ hnew_
 have O:=zA (zIb ho HB.out.size)
 replace HB:=zA (zJb HB.out hb)
 clear ho hb hg_ hnew_
 go_wp2_with (first|((with_reducible refine gate_dst (N:=5) rfl ?_);refine hold ?_))
 unfold Hold
 refine box_event ?hg3 (N:=5) ?hd3 (cs:=#[.slice none 0 0]) (t:=32) ?hr3 ?_
 case hd3 => rfl
 case hg3 => rfl
 case hr3 => first|(go_simp;done)|(go_simp;rfl)
 intro go hg w4 hbox hb
 have Bgo:=zA hbox
 have GO:=zA (show w1.heap.size ≤ go from by rw [hg];exact HB.out.size)
 replace O:=zA (zY O.out hb)
 replace HB:=zA (zJb HB.out hb)
 clear hbox hb hg
 obtain ⟨A8,c8,rfl⟩:=Kd.S_slice O.out
 have hy0:=zc (.slice none 0 0) Bgo 0 rfl
 have hf0:=blk_frozen Bgo.out 0
 go_wp2_with (first|((with_reducible refine gate_store (t:=32) (p:=5) rfl ?_);refine hold ?_))
 unfold Hold
 refine store_event (t:=32) (p:=5) (v:=?vo1) (w1:=w4.setCell ⟨go,0,none⟩ (.slice A8 0 c8)) ?hgs1 ?hos1 ?hns1 ?hrs1 ?_
 case hos1 => rfl
 case hgs1 => rfl
 case hns1 => rfl
 case hrs1 => first|(go_simp;done)|(go_simp;rfl)
 intro w5 hw
 have ST:=zA (show StV w1 go [] w5 from by rw [hw];exact ⟨⟨_,blk_put Bgo.out 0 _ rfl,Kd.S_set O.out Bgo.out (by decide) 0 _⟩,zB HB.out GO.out,GO.out⟩)
 clear hw hy0 hf0 HB O Bgo
 have hx1 : w5.cell? ⟨gq,1,none⟩ = some (.slice A0_1 l0_1.length c0_1):=(zP (zQ Bq.out ST.out.B) 1).trans rfl
 go_wp2_with (first|(go_at_call 67;refine hold ?_))
 unfold Hold
 have eF : ∀ args w,(callFunc 68 args).run Tryz.prog w = .ok (.enter 68 args) w:=enters_of Tryz.func68 (by kernel_rfl) rfl
 refine (visit_walk w1 go (mTupleI l0_0) 68 #[.pointer (some ⟨go,0,none⟩),.pointer (some ⟨gq,0,none⟩)] eF (fun L W b hb hL hst => headsCB_walk w1 go gq A0_0 c0_0 l0_0 _ Bq.out (zKb R0.out B1.out) HC.out.1 HO.out.1 HZ.out.1.1 L W b hb hL hst) A0_1 c0_1 l0_1 A1 c1 l1 (zKb R2.out B1.out) HC.out.2.1 (zKb R3.out B1.out) HC.out.2.2 HO.out.2 HZ.out.1.2.1 HZ.out.1.2.2 HZ.out.2 l0_1.length 0 mEmpty [] _ (by omega) rfl ST.out (by have:=SM.out;simpa using Nat.le_trans this (by decide))).mono ?_
 rintro e w8 ⟨rfl,hst,-⟩
 rw [List.nil_append,List.drop_zero] at hst
 obtain ⟨vo,hvo,hso⟩:=hst.box
 have HVO:=zA hvo
 have HSO:=zA (zIb hso B1.out.size)
 have HBF:=zA (zJb B1.out hst.B)
 have hxg : w8.cell? ⟨go,0,none⟩ = some vo:=(zP HVO.out 0).trans rfl
 clear hvo hso hst ST hx1
 go_wp2
 go_ret
 exact ⟨_,rfl,HSO.out,HBF.out⟩

theorem S_perm {α : Type} {d : Kd α} {e g n cap : Nat} {w w1 : World} {base : Nat} {ok : Nat → Prop} {xs : List α} (h : Kd.S d e w base ok (.slice (some ⟨g, 0, none⟩) n cap) xs) (z : α) (σ : List Nat) (hσ : σ.Perm (List.range n)) (hg : w.grownBy w1 (some g))
  (hc : ∀ cur,w.heap[g]? = some (.cells cur e (0,0)) → n * d.sz ≤ cur.size → ∃ cur' : Array Value,w1.heap[g]? = some (.cells cur' e (0,0)) ∧ cur'.size = cur.size ∧ ∀ j i,σ[j]? = some i → ∀ t,t < d.sz → cur'.toList[j * d.sz + t]? = cur.toList[i * d.sz + t]?) :
  Kd.S d e w1 base ok (.slice (some ⟨g,0,none⟩) n cap) (σ.map fun i => xs.getD i z):=by
 obtain ⟨f,hR⟩:=h
 have hn:=(Kd.R_reads' hR).1
 rw [List.length_zipIdx] at hn
 obtain ⟨h0,inner,ho,hr⟩:=hR
 rw [List.length_zipIdx] at ho
 obtain ⟨hil,ho⟩:=ho
 rcases ho with ⟨hv,_⟩|⟨g',cap',cur,hv,hbase,hheap,hnc,hcm,hcs,htk⟩
 ·cases hv
 injection hv with ha _ hcap
 injection ha with ha
 injection ha with ha _ _
 subst ha
 subst hcap
 have htag : ∀ f : Nat → Nat,(Kd.tag f d).sz = d.sz:=fun _ => rfl
 simp only [htag] at hil hcs htk hr
 have hσl : σ.length = n:=by rw [hσ.length_eq,List.length_range]
 have hnd : σ.Nodup:=hσ.nodup_iff.2 List.nodup_range
 have hmem : ∀ i ∈ σ,i < n:=fun i hi => List.mem_range.1 (hσ.mem_iff.1 hi)
 have hle : n * d.sz ≤ cur.size:=by rw [hcs];exact Nat.mul_le_mul_right _ (by omega)
 obtain ⟨cur',hb',hs',hcc⟩:=hc cur hheap hle
 rw [← hn] at hil htk hnc
 have hml : (σ.map fun i => xs.getD i z).length = n:=by rw [List.length_map,hσl]
 refine ⟨fun b => σ.idxOf (f b),h0,cur'.toList.take (n * d.sz),?_,?_,?_⟩
 ·rw [List.length_zipIdx,hml]
  show World.ownsRow w1 base e d.sz _ n _
  refine ⟨by rw [zDb,Array.length_toList,hs'];omega,.inr ⟨g,cap,cur',rfl,hbase,hb',hnc,hcm,by rw [hs',hcs],rfl⟩⟩
 ·rw [List.length_zipIdx,hml,zDb,Array.length_toList,hs']
  show min (n * d.sz) cur.size = n * d.sz
  exact Nat.min_eq_left hle
 ·intro j p hj
  rw [List.getElem?_zipIdx,Nat.zero_add] at hj
  obtain ⟨x,hx,rfl⟩:=Option.map_eq_some_iff.1 hj
  rw [List.getElem?_map] at hx
  obtain ⟨i,hi,rfl⟩:=Option.map_eq_some_iff.1 hx
  have hin : i < n:=hmem i (List.mem_of_getElem? hi)
  have hjn : j < n:=by rw [← hσl];exact (List.getElem?_eq_some_iff.1 hi).1
  have hix : i < xs.length:=by omega
  have hM:=hr.2 i (xs[i],i) (Kd.zip_at (List.getElem?_eq_getElem hix))
  have hseg : ((cur'.toList.take (n * d.sz)).drop (j * d.sz)).take d.sz = (inner.drop (i * d.sz)).take d.sz:=by
   rw [← htk]
   apply List.ext_getElem?
   intro t
   by_cases ht : t < d.sz
   ·rw [List.getElem?_take_of_lt ht,List.getElem?_take_of_lt ht,List.getElem?_drop,List.getElem?_drop]
    have h1 : j * d.sz + t < n * d.sz:=Nat.lt_of_lt_of_le (Nat.add_lt_add_left ht _) (by rw [← Nat.succ_mul];exact Nat.mul_le_mul_right _ hjn)
    have h2 : i * d.sz + t < n * d.sz:=Nat.lt_of_lt_of_le (Nat.add_lt_add_left ht _) (by rw [← Nat.succ_mul];exact Nat.mul_le_mul_right _ hin)
    rw [List.getElem?_take_of_lt h1,List.getElem?_take_of_lt h2]
    exact hcc j i hi t ht
   ·rw [List.getElem?_take_eq_none (by omega),List.getElem?_take_eq_none (by omega)]
  have hgd : xs.getD i z = xs[i]:=by rw [List.getD_eq_getElem?_getD,List.getElem?_eq_getElem hix];rfl
  show d.M w1 base _ (xs.getD i z) (((cur'.toList.take (n * d.sz)).drop (j * d.sz)).take d.sz)
  rw [hgd,hseg]
  refine d.M_mono (fun k hk => ⟨hk.1,?_⟩) (Kd.M_step hM (fun k hk hlt => hg.block k hlt hk.1.2))
  show σ.idxOf (f k) = j
  rw [show f k = i from hk.2]
  have hjl : j < σ.length:=by omega
  have hji : σ[j] = i:=by
   rw [List.getElem?_eq_getElem hjl] at hi
   exact Option.some.inj hi
  rw [← hji]
  exact hnd.idxOf_getElem j hjl
section
open Go.Sort
variable {w : World} {e g n cap k : Nat} {cur : Array Value}
def segK (cur : Array Value) (n k i : Nat) : List Value := (cur.toList.drop (min i (n - 1) * k)).take k
theorem segK_le (hn : 0 < n) (hs : n * k ≤ cur.size) (i : Nat) : min i (n - 1) * k + k ≤ cur.size := by
 have : (min i (n - 1) + 1) * k ≤ n * k:=Nat.mul_le_mul_right _ (by omega)
 rw [Nat.add_mul,Nat.one_mul] at this
 omega
theorem segK_len (hn : 0 < n) (hs : n * k ≤ cur.size) (i : Nat) : (segK cur n k i).length = k := by
 have:=segK_le hn hs i
 unfold segK
 rw [zDb,zLb,Array.length_toList];omega
theorem segK_get (hn : 0 < n) (hs : n * k ≤ cur.size) (i t : Nat) (ht : t < k) : (segK cur n k i)[t]? = cur.toList[min i (n - 1) * k + t]? := by
 unfold segK
 rw [List.getElem?_take_of_lt ht,List.getElem?_drop]
theorem flat_seg (hn : 0 < n) (hk : 0 < k) (hs : n * k ≤ cur.size) (σ : Array Nat) (hσ : σ.size = n) (j i t : Nat) (hj : σ.toList[j]? = some i) (hi : i < n) (ht : t < k) :
  some ((flatK (segK cur n k) k σ)[j * k + t]!) = cur.toList[i * k + t]? ∧ j * k + t < (flatK (segK cur n k) k σ).size:=by
 have hjl : j < σ.size:=by
  have:=(List.getElem?_eq_some_iff.1 hj).1
  rwa [Array.length_toList] at this
 have hjt : j * k + t < σ.size * k:=Nat.lt_of_lt_of_le (Nat.add_lt_add_left ht _) (by rw [← Nat.succ_mul];exact Nat.mul_le_mul_right _ hjl)
 refine ⟨?_,by rw [size_flatK];exact hjt⟩
 rw [get_flatK _ _ _ _ hjt]
 have e1 : (j * k + t) / k = j:=by rw [Nat.add_comm,Nat.add_mul_div_right _ _ hk,Nat.div_eq_of_lt ht,Nat.zero_add]
 have e2 : (j * k + t) % k = t:=by rw [Nat.add_comm,Nat.add_mul_mod_self_right,Nat.mod_eq_of_lt ht]
 have e3 : σ[j]! = i:=by
  rw [getElem!_pos σ j hjl]
  rw [Array.getElem?_toList,Array.getElem?_eq_getElem hjl] at hj
  exact Option.some.inj hj
 rw [e1,e2,e3]
 have hl:=segK_len (k:=k) hn hs i
 have hg:=segK_get (k:=k) hn hs i t ht
 rw [show min i (n - 1) = i by omega] at hg
 rw [← hg,List.getElem!_eq_getElem?_getD,List.getElem?_eq_getElem (by omega)]
 rfl
theorem holds_seg (hn : 0 < n) (hk : 0 < k) (hb : w.heap[g]? = some (.cells cur e (0, 0))) (hs : n * k ≤ cur.size) : HoldsK (segK cur n k) k w g 0 (Array.range n) := by
 intro q hq
 rw [size_flatK,Array.size_range] at hq
 have hj : (Array.range n).toList[q / k]? = some (q / k):=by
  rw [Array.toList_range,List.getElem?_range (Nat.div_lt_of_lt_mul (by rwa [Nat.mul_comm] at hq))]
 have hd:=Nat.div_lt_of_lt_mul (show q < k * n by rwa [Nat.mul_comm] at hq)
 have hf:=(flat_seg (cur:=cur) hn hk hs (Array.range n) Array.size_range (q / k) (q / k) (q % k) hj hd (Nat.mod_lt _ hk)).1
 have e1 : q / k * k + q % k = q:=by rw [Nat.mul_comm];exact Nat.div_add_mod q k
 rw [e1] at hf
 refine ⟨?_,?_⟩
 ·show w.cell? ⟨g,0 + q,none⟩ = some (id _)
  simp only [World.cell?,hb,id,Nat.zero_add]
  rw [hf,Array.getElem?_toList];rfl
 ·simp only [World.frozen?,hb]
  simp
theorem sortK_heap (enc : Nat → List Value) (m : Nat) (σ : Array Nat) (os : Array Obj) (hb : w.heap[g]? = some (.cells cur e (0, 0))) : (sortWorldK enc k w g 0 m σ os).heap[g]? = some (.cells (putCells id 0 (flatK enc k σ) cur) e (0, 0)) := by
 have hlt:=blk_lt hb
 unfold sortWorldK putRowK putRow mapBlock grow
 show (w.heap.modify g _ ++ os)[g]? = _
 rw [Array.getElem?_append_left (by simpa using hlt),Array.getElem?_modify,if_pos rfl,hb]
 rfl
theorem sortK_grown (enc : Nat → List Value) (m : Nat) (σ : Array Nat) (os : Array Obj) : w.grownBy (sortWorldK enc k w g 0 m σ os) (some g) := by
 refine ⟨rfl,rfl,rfl,?_,fun q hq hne => ?_⟩
 ·unfold sortWorldK putRowK putRow mapBlock grow
  show w.heap.size ≤ (w.heap.modify g _ ++ os).size
  simp
 ·unfold sortWorldK putRowK putRow mapBlock grow
  show (w.heap.modify g _ ++ os)[q]? = _
  rw [Array.getElem?_append_left (by simpa using hq),Array.getElem?_modify,if_neg (fun he => hne (by rw [he]))]
theorem S_sortK {α : Type} {d : Kd α} {base : Nat} {ok : Nat → Prop} {xs : List α} (h : Kd.S d e w base ok (.slice (some ⟨g, 0, none⟩) n cap) xs) (z : α) (hn : 0 < n) (hk : 0 < d.sz) (hb : w.heap[g]? = some (.cells cur e (0, 0))) (hs : n * d.sz ≤ cur.size) (m : Nat) (os : Array Obj) (σ : Array Nat) (hσ : PermIn 0 n (Array.range n) σ) :
  Kd.S d e (sortWorldK (segK cur n d.sz) d.sz w g 0 m σ os) base ok (.slice (some ⟨g,0,none⟩) n cap) (σ.toList.map fun i => xs.getD i z):=by
 have hsz : σ.size = n:=by rw [hσ.1,Array.size_range]
 have hp : σ.toList.Perm (List.range n):=by
  have:=hσ.2.2
  rw [Array.extract_eq_self_of_le (by omega),Array.extract_eq_self_of_le (by simp),Array.toList_range] at this
  exact this
 refine S_perm h z σ.toList hp (sortK_grown _ m σ os) ?_
 intro cur2 hb2 hs2
 rw [hb] at hb2
 injection hb2 with hb2
 injection hb2 with hb2 _ _
 subst hb2
 refine ⟨_,sortK_heap _ m σ os hb,by simp [putCells],fun j i hj t ht => ?_⟩
 have hi : i < n:=List.mem_range.1 (hp.mem_iff.1 (List.mem_of_getElem? hj))
 obtain ⟨hf,hl⟩:=flat_seg (cur:=cur) hn hk hs σ hsz j i t hj hi ht
 have hlc : j * d.sz + t < cur.size:=by rw [size_flatK,hsz] at hl;omega
 rw [← hf,Array.getElem?_toList]
 unfold putCells
 rw [Array.getElem?_mapIdx,Array.getElem?_eq_getElem hlc]
 show some (if _ then _ else _) = _
 rw [if_pos ⟨Nat.zero_le _,by omega⟩]
 rfl
end
theorem S_size {α : Type} {d : Kd α} {w : World} {e g n cap base : Nat} {cur : Array Value} {ok : Nat → Prop} {xs : List α} (h : Kd.S d e w base ok (.slice (some ⟨g, 0, none⟩) n cap) xs) (hb : w.heap[g]? = some (.cells cur e (0, 0))) : n * d.sz ≤ cur.size := by
 obtain ⟨f,hR⟩:=h
 have hn:=(Kd.R_reads' hR).1
 obtain ⟨h0,inner,⟨hil,ho⟩,hr⟩:=hR
 rcases ho with ⟨hv,_⟩|⟨g',cap',cur',hv,hbase,hheap,hnc,hcm,hcs,htk⟩
 ·cases hv
 injection hv with ha _ hcap
 injection ha with ha
 injection ha with ha _ _
 subst ha
 rw [hb] at hheap
 injection hheap with hheap
 injection hheap with hheap _ _
 rw [hheap,hcs]
 exact Nat.mul_le_mul_right _ (by omega)
theorem S_seg {α : Type} {d : Kd α} {w : World} {e g n cap base : Nat} {cur : Array Value} {ok : Nat → Prop} {xs : List α} (h : Kd.S d e w base ok (.slice (some ⟨g, 0, none⟩) n cap) xs) (z : α) (hb : w.heap[g]? = some (.cells cur e (0, 0))) (hn : 0 < n) (i : Nat) :
  d.M w base (fun k => ok k ∧ k ≠ g) (xs.getD (min i (n - 1)) z) (segK cur n d.sz i):=by
 have hsz:=S_size h hb
 obtain ⟨f,hR⟩:=h
 have hnx:=(Kd.R_reads' hR).1
 rw [List.length_zipIdx] at hnx
 obtain ⟨h0,inner,⟨hil,ho⟩,hr⟩:=hR
 rcases ho with ⟨hv,_⟩|⟨g',cap',cur',hv,hbase,hheap,hnc,hcm,hcs,htk⟩
 ·cases hv
 injection hv with ha _ hcap
 injection ha with ha
 injection ha with ha _ _
 subst ha
 rw [hb] at hheap
 injection hheap with hheap
 injection hheap with hheap _ _
 subst hheap
 have htag : (Kd.tag f d).sz = d.sz:=rfl
 rw [List.length_zipIdx] at htk
 rw [htag] at htk hr
 have hix : min i (n - 1) < xs.length:=by omega
 have hM:=hr.2 (min i (n - 1)) _ (Kd.zip_at (List.getElem?_eq_getElem hix))
 have hgd : xs.getD (min i (n - 1)) z = xs[min i (n - 1)]:=by rw [List.getD_eq_getElem?_getD,List.getElem?_eq_getElem hix];rfl
 have hseg : segK cur n d.sz i = (inner.drop (min i (n - 1) * d.sz)).take d.sz:=by
  unfold segK
  rw [← htk]
  apply List.ext_getElem?
  intro t
  by_cases ht : t < d.sz
  ·rw [List.getElem?_take_of_lt ht,List.getElem?_take_of_lt ht,List.getElem?_drop,List.getElem?_drop]
   have h2 : min i (n - 1) * d.sz + t < xs.length * d.sz:=Nat.lt_of_lt_of_le (Nat.add_lt_add_left ht _) (by rw [← Nat.succ_mul];exact Nat.mul_le_mul_right _ hix)
   rw [List.getElem?_take_of_lt h2]
  ·rw [List.getElem?_take_eq_none (by omega),List.getElem?_take_eq_none (by omega)]
 rw [hgd,hseg]
 exact d.M_mono (fun k hk => ⟨hk.1.1,fun he => hk.1.2 (by rw [he];rfl)⟩) hM

section
open Go.Sort
variable {w : World} {e g n cap : Nat} {cur : Array Value}
def seg1 (cur : Array Value) (n i : Nat) : Value := cur[min i (n - 1)]!
theorem seg1_get (hn : 0 < n) (hs : n ≤ cur.size) (i : Nat) : cur[min i (n - 1)]? = some (seg1 cur n i) := by
 unfold seg1
 rw [getElem!_pos cur _ (by omega),Array.getElem?_eq_getElem (by omega)]
theorem seg1_seg (hn : 0 < n) (hs : n ≤ cur.size) (i : Nat) : segK cur n 1 i = [seg1 cur n i] := by
 have h:=seg1_get hn hs i
 have hl:=segK_len (cur:=cur) (k:=1) hn (by omega) i
 have hg:=segK_get (cur:=cur) (k:=1) hn (by omega) i 0 (by omega)
 rw [Nat.mul_one,Nat.add_zero,show cur.toList[min i (n - 1)]? = some (seg1 cur n i) from (Array.getElem?_toList ..).trans h] at hg
 obtain ⟨v,hv⟩:=List.length_eq_one_iff.1 hl
 rw [hv] at hg ⊢
 simp at hg
 rw [hg]
theorem holds_one (hn : 0 < n) (hb : w.heap[g]? = some (.cells cur e (0, 0))) (hs : n ≤ cur.size) : Holds (seg1 cur n) w g 0 (Array.range n) := by
 intro j hj
 rw [Array.size_range] at hj
 have h:=seg1_get hn hs j
 rw [show min j (n - 1) = j by omega] at h
 refine ⟨?_,?_⟩
 ·simp only [World.cell?,hb,Nat.zero_add]
  rw [h,getElem!_pos _ j (by simpa using hj),Array.getElem_range]
  rfl
 ·simp only [World.frozen?,hb]
  simp
theorem sort1_heap (enc : Nat → Value) (m : Nat) (σ : Array Nat) (os : Array Obj) (hb : w.heap[g]? = some (.cells cur e (0, 0))) : (sortWorld enc w g 0 m σ os).heap[g]? = some (.cells (putCells enc 0 σ cur) e (0, 0)) := by
 have hlt:=blk_lt hb
 unfold sortWorld putRow mapBlock grow
 show (w.heap.modify g _ ++ os)[g]? = _
 rw [Array.getElem?_append_left (by simpa using hlt),Array.getElem?_modify,if_pos rfl,hb]
 rfl
theorem sort1_grown (enc : Nat → Value) (m : Nat) (σ : Array Nat) (os : Array Obj) : w.grownBy (sortWorld enc w g 0 m σ os) (some g) := by
 refine ⟨rfl,rfl,rfl,?_,fun q hq hne => ?_⟩
 ·unfold sortWorld putRow mapBlock grow
  show w.heap.size ≤ (w.heap.modify g _ ++ os).size
  simp
 ·unfold sortWorld putRow mapBlock grow
  show (w.heap.modify g _ ++ os)[q]? = _
  rw [Array.getElem?_append_left (by simpa using hq),Array.getElem?_modify,if_neg (fun he => hne (by rw [he]))]
theorem S_sort1 {α : Type} {d : Kd α} {base : Nat} {ok : Nat → Prop} {xs : List α} (h : Kd.S d e w base ok (.slice (some ⟨g, 0, none⟩) n cap) xs) (z : α) (hn : 0 < n) (hd : d.sz = 1) (hb : w.heap[g]? = some (.cells cur e (0, 0))) (hs : n ≤ cur.size) (m : Nat) (os : Array Obj) (σ : Array Nat) (hσ : PermIn 0 n (Array.range n) σ) :
  Kd.S d e (sortWorld (seg1 cur n) w g 0 m σ os) base ok (.slice (some ⟨g,0,none⟩) n cap) (σ.toList.map fun i => xs.getD i z):=by
 have hsz : σ.size = n:=by rw [hσ.1,Array.size_range]
 have hp : σ.toList.Perm (List.range n):=by
  have:=hσ.2.2
  rw [Array.extract_eq_self_of_le (by omega),Array.extract_eq_self_of_le (by simp),Array.toList_range] at this
  exact this
 refine S_perm h z σ.toList hp (sort1_grown _ m σ os) ?_
 intro cur2 hb2 hs2
 rw [hb] at hb2
 injection hb2 with hb2
 injection hb2 with hb2 _ _
 subst hb2
 refine ⟨_,sort1_heap _ m σ os hb,by simp [putCells],fun j i hj t ht => ?_⟩
 have hi : i < n:=List.mem_range.1 (hp.mem_iff.1 (List.mem_of_getElem? hj))
 have hjl : j < σ.size:=by
  have:=(List.getElem?_eq_some_iff.1 hj).1
  rwa [Array.length_toList] at this
 have e3 : σ[j]! = i:=by
  rw [getElem!_pos σ j hjl]
  rw [Array.getElem?_toList,Array.getElem?_eq_getElem hjl] at hj
  exact Option.some.inj hj
 have ht0 : t = 0:=by omega
 subst ht0
 have hlc : j < cur.size:=by omega
 have hg:=seg1_get hn hs i
 rw [show min i (n - 1) = i by omega] at hg
 rw [hd,Nat.mul_one,Nat.add_zero,Nat.mul_one,Nat.add_zero,Array.getElem?_toList,Array.getElem?_toList,hg]
 unfold putCells
 rw [Array.getElem?_mapIdx,Array.getElem?_eq_getElem hlc]
 show some (if _ then _ else _) = _
 rw [if_pos ⟨Nat.zero_le _,by omega⟩,Nat.sub_zero,e3]
theorem cmpLays_R {base : Nat} {ok : Nat → Prop} {xs : List (List Int)} (h : Kd.S (Kd.slice 3 (Kd.int .i64)) e w base ok (.slice (some ⟨g, 0, none⟩) n cap) xs) (hb : w.heap[g]? = some (.cells cur e (0, 0))) (hn : 0 < n) (hs : ∀ x ∈ xs, x.length ≤ 1048576) :
  CmpLays1 Tryz.prog 64 #[] (seg1 cur n) (fun i j => mCmp (xs.getD (min i (n - 1)) []) (xs.getD (min j (n - 1)) [])) g 0 n w:=by
 intro m os dk hd x y
 have hg:=sort1_grown (w:=w) (g:=g) (seg1 cur n) m dk os
 have hnx : n = xs.length:=(Kd.S_reads' h).1
 have hsz : n ≤ cur.size:=by have:=S_size h hb;have e1 : (Kd.slice 3 (Kd.int .i64)).sz = 1:=rfl;rw [e1] at this;omega
 obtain ⟨vx,ex,gx⟩:=S_seg h [] hb hn x
 obtain ⟨vy,ey,gy⟩:=S_seg h [] hb hn y
 have gx':=Kd.R_step gx (w1:=sortWorld (seg1 cur n) w g 0 m dk os) (fun k hk hlt => hg.block k hlt (fun he => hk.2 (Option.some.inj he)))
 have gy':=Kd.R_step gy (w1:=sortWorld (seg1 cur n) w g 0 m dk os) (fun k hk hlt => hg.block k hlt (fun he => hk.2 (Option.some.inj he)))
 obtain ⟨Ax,cx,rfl,hlx,rx⟩:=zRb gx'
 obtain ⟨Ay,cy,rfl,hly,ry⟩:=zRb gy'
 have ex' : segK cur n 1 x = _:=ex
 have ey' : segK cur n 1 y = _:=ey
 rw [seg1_seg hn hsz] at ex' ey'
 injection ex' with ex' _
 injection ey' with ey' _
 rw [Array.append_empty,ex',ey']
 have hx : min x (n - 1) < xs.length:=by omega
 obtain ⟨k,hk⟩:=(slCompare_ev (xs.getD (min x (n - 1)) []) (xs.getD (min y (n - 1)) []) (by
  rw [List.getD_eq_getElem?_getD,List.getElem?_eq_getElem hx]
  exact Nat.le_trans (hs _ (List.getElem_mem _)) (by omega))).rounds
 refine (slices_Compare_int_int.calls k Ax cx _ Ay cy _ _ _ rx hlx ry hly hk).mono ?_
 rintro e1 w' ⟨rfl,hd⟩
 obtain ⟨q,rfl⟩:=hd.out
 exact ⟨rfl,q,#[],(grow_empty _).symm⟩
theorem sortR_walk (P : Nat → Prop) (v : Value) (xs : List (List Int)) (w0 w : World) (hB : Below w0.heap.size w0 w) (ho : Kd.S (Kd.slice 3 (Kd.int .i64)) 22 w w0.heap.size P v xs) (hl : xs.length ≤ 4398046511104) (hs : ∀ x ∈ xs, x.length ≤ 1048576) :
  Calls Tryz.prog 63 #[v, .func (.func 64) #[] #[]] w fun e w' => e = .returned (.tuple #[]) ∧ ∃ ys : List (List Int), ys.Perm xs ∧ ys.Pairwise (fun x y => mLess y x = false) ∧ Kd.S (Kd.slice 3 (Kd.int .i64)) 22 w' w0.heap.size P v ys ∧ Below w0.heap.size w0 w' ∧ w.grownBy w' v.ownBlock := by
 rcases Nat.eq_zero_or_pos xs.length with hz|hn
 ·have hx:=List.length_eq_zero_iff.1 hz
  subst hx
  obtain ⟨A,c,rfl⟩:=Kd.S_slice ho
  refine (AnyF.slices_SortFunc_none (P:=Tryz.prog) (ρ:=Tryz.sortR_ren) { Tryz.sortR with } A c (.func (.func 64) #[] #[]) w).mono ?_
  rintro e1 w' ⟨he,rfl⟩
  exact ⟨he,[],List.Perm.refl _,List.Pairwise.nil,ho,hB,rfl,rfl,rfl,Nat.le_refl _,fun _ _ _ => rfl⟩
 obtain ⟨g,cap,rfl,hge,hgl,cur,hb⟩:=Kd.S_form ho hn
 have hsz : xs.length ≤ cur.size:=by have:=S_size ho hb;have e1 : (Kd.slice 3 (Kd.int .i64)).sz = 1:=rfl;rw [e1] at this;omega
 have hlt : ∀ x y,ltOf (fun i j => mCmp (xs.getD (min i (xs.length - 1)) []) (xs.getD (min j (xs.length - 1)) [])) x y = mLess (xs.getD (min x (xs.length - 1)) []) (xs.getD (min y (xs.length - 1)) []):=fun x y => mCmp_neg _ _
 have hO : Sort.SWO (ltOf (fun i j => mCmp (xs.getD (min i (xs.length - 1)) []) (xs.getD (min j (xs.length - 1)) []))):=by
  refine ⟨fun x => ?_,fun x y z h1 h2 => ?_,fun x y z h1 h2 => ?_⟩
  ·rw [hlt];exact mLess_tot.irr _
  ·rw [hlt] at *;exact mLess_tot.tr _ _ _ h1 h2
  ·rw [hlt] at *;exact mLess_tot.nt _ _ _ h1 h2
 have eg : ∀ args w,(callFunc 64 args).run Tryz.prog w = .ok (.enter 64 args) w:=enters_of Tryz.func64 (by kernel_rfl) rfl
 have h1 : OneCell (seg1 cur xs.length):=fun i => by
  obtain ⟨vx,ex,gx⟩:=S_seg ho [] hb hn i
  have ex' : segK cur xs.length 1 i = _:=ex
  rw [seg1_seg hn hsz] at ex'
  injection ex' with ex' _
  obtain ⟨Ax,cx,rfl⟩:=Kd.R_slice gx
  rw [ex'];rfl
 have hcon:=Any.slices_SortFunc Tryz.sortR (seg1 cur xs.length) h1 _ hO 64 #[] g 0 cap (Array.range xs.length) w eg (by rw [Array.size_range];exact cmpLays_R ho hb hn hs) (holds_one hn hb hsz) hgl (by rw [Array.size_range];omega)
 rw [Array.size_range] at hcon
 refine hcon.mono ?_
 rintro e1 w' ⟨he,d',m,os,hp,hsd,rfl⟩
 have hg:=sort1_grown (w:=w) (g:=g) (seg1 cur xs.length) m d' os
 have hpl : d'.toList.Perm (List.range xs.length):=by
  have h1:=hp.1
  have:=hp.2.2
  rw [Array.size_range] at h1
  rw [Array.extract_eq_self_of_le (by omega),Array.extract_eq_self_of_le (by simp),Array.toList_range] at this
  exact this
 have hmem : ∀ i ∈ d'.toList,i < xs.length:=fun i hi => List.mem_range.1 (hpl.mem_iff.1 hi)
 have hds : d'.size = xs.length:=by rw [hp.1,Array.size_range]
 refine ⟨he,d'.toList.map fun i => xs.getD i [],?_,?_,S_sort1 ho [] hn rfl hb hsz m os d' hp,hB.grown hg hB.size (fun k hk => by injection hk with hk;omega),hg⟩
 ·have h2:=hpl.map (fun i => xs.getD i [])
  have h3 : (List.range xs.length).map (fun i => xs.getD i []) = xs:=by
   apply List.ext_getElem
   ·simp
   ·intro i h1 h2
    rw [List.getElem_map,List.getElem_range,List.getD_eq_getElem?_getD,List.getElem?_eq_getElem h2];rfl
  rwa [h3] at h2
 ·rw [List.pairwise_map,List.pairwise_iff_getElem]
  intro i j hi hj hij
  have hi' : i < d'.size:=by simpa using hi
  have hj' : j < d'.size:=by simpa using hj
  have:=hsd i j (Nat.zero_le _) hij (by omega)
  rw [hlt,getElem!_pos d' i hi',getElem!_pos d' j hj'] at this
  have m1:=hmem d'[i] (by simp)
  have m2:=hmem d'[j] (by simp)
  rw [show min d'[i] (xs.length - 1) = d'[i] by omega,show min d'[j] (xs.length - 1) = d'[j] by omega] at this
  simpa using this
end

theorem S_sub {α : Type} {d : Kd α} {e g n cap : Nat} {w w1 : World} {base : Nat} {ok : Nat → Prop} {xs : List α} (h : Kd.S d e w base ok (.slice (some ⟨g, 0, none⟩) n cap) xs) (z : α) (σ : List Nat) (hnd : σ.Nodup) (hmem : ∀ i ∈ σ, i < n) (hsl : σ.length ≤ n) (hg : w.grownBy w1 (some g))
  (hc : ∀ cur,w.heap[g]? = some (.cells cur e (0,0)) → n * d.sz ≤ cur.size → ∃ cur' : Array Value,w1.heap[g]? = some (.cells cur' e (0,0)) ∧ cur'.size = cur.size ∧ ∀ j i,σ[j]? = some i → ∀ t,t < d.sz → cur'.toList[j * d.sz + t]? = cur.toList[i * d.sz + t]?) :
  Kd.S d e w1 base ok (.slice (some ⟨g,0,none⟩) σ.length cap) (σ.map fun i => xs.getD i z):=by
 obtain ⟨f,hR⟩:=h
 have hn:=(Kd.R_reads' hR).1
 rw [List.length_zipIdx] at hn
 obtain ⟨h0,inner,ho,hr⟩:=hR
 rw [List.length_zipIdx] at ho
 obtain ⟨hil,ho⟩:=ho
 rcases ho with ⟨hv,_⟩|⟨g',cap',cur,hv,hbase,hheap,hnc,hcm,hcs,htk⟩
 ·cases hv
 injection hv with ha _ hcap
 injection ha with ha
 injection ha with ha _ _
 subst ha
 subst hcap
 have htag : ∀ f : Nat → Nat,(Kd.tag f d).sz = d.sz:=fun _ => rfl
 simp only [htag] at hil hcs htk hr
 have hle : n * d.sz ≤ cur.size:=by rw [hcs];exact Nat.mul_le_mul_right _ (by omega)
 obtain ⟨cur',hb',hs',hcc⟩:=hc cur hheap hle
 rw [← hn] at hil htk hnc
 have hle2 : σ.length * d.sz ≤ cur.size:=Nat.le_trans (Nat.mul_le_mul_right _ hsl) hle
 refine ⟨fun b => σ.idxOf (f b),h0,cur'.toList.take (σ.length * d.sz),?_,?_,?_⟩
 ·rw [List.length_zipIdx,List.length_map]
  show World.ownsRow w1 base e d.sz _ σ.length _
  refine ⟨by rw [zDb,show cur'.toList.length = cur.size from by rw [Array.length_toList,hs']];omega,.inr ⟨g,cap,cur',rfl,hbase,hb',by omega,hcm,by rw [hs',hcs],rfl⟩⟩
 ·rw [List.length_zipIdx,List.length_map,zDb,show cur'.toList.length = cur.size from by rw [Array.length_toList,hs']]
  show min (σ.length * d.sz) cur.size = σ.length * d.sz
  exact Nat.min_eq_left hle2
 ·intro j p hj
  rw [List.getElem?_zipIdx,Nat.zero_add] at hj
  obtain ⟨x,hx,rfl⟩:=Option.map_eq_some_iff.1 hj
  rw [List.getElem?_map] at hx
  obtain ⟨i,hi,rfl⟩:=Option.map_eq_some_iff.1 hx
  have hin : i < n:=hmem i (List.mem_of_getElem? hi)
  have hjl : j < σ.length:=(List.getElem?_eq_some_iff.1 hi).1
  have hix : i < xs.length:=by omega
  have hM:=hr.2 i (xs[i],i) (Kd.zip_at (List.getElem?_eq_getElem hix))
  have hseg : ((cur'.toList.take (σ.length * d.sz)).drop (j * d.sz)).take d.sz = (inner.drop (i * d.sz)).take d.sz:=by
   rw [← htk]
   apply List.ext_getElem?
   intro t
   by_cases ht : t < d.sz
   ·rw [List.getElem?_take_of_lt ht,List.getElem?_take_of_lt ht,List.getElem?_drop,List.getElem?_drop]
    have h1 : j * d.sz + t < σ.length * d.sz:=Nat.lt_of_lt_of_le (Nat.add_lt_add_left ht _) (by rw [← Nat.succ_mul];exact Nat.mul_le_mul_right _ hjl)
    have h2 : i * d.sz + t < n * d.sz:=Nat.lt_of_lt_of_le (Nat.add_lt_add_left ht _) (by rw [← Nat.succ_mul];exact Nat.mul_le_mul_right _ hin)
    rw [List.getElem?_take_of_lt h1,List.getElem?_take_of_lt h2]
    exact hcc j i hi t ht
   ·rw [List.getElem?_take_eq_none (by omega),List.getElem?_take_eq_none (by omega)]
  have hgd : xs.getD i z = xs[i]:=by rw [List.getD_eq_getElem?_getD,List.getElem?_eq_getElem hix];rfl
  show d.M w1 base _ (xs.getD i z) (((cur'.toList.take (σ.length * d.sz)).drop (j * d.sz)).take d.sz)
  rw [hgd,hseg]
  refine d.M_mono (fun k hk => ⟨hk.1,?_⟩) (Kd.M_step hM (fun k hk hlt => hg.block k hlt hk.1.2))
  show σ.idxOf (f k) = j
  rw [show f k = i from hk.2]
  have hji : σ[j] = i:=by
   rw [List.getElem?_eq_getElem hjl] at hi
   exact Option.some.inj hi
  rw [← hji]
  exact hnd.idxOf_getElem j hjl
def cellsOf (cur : Array Value) (σ : List Nat) : Array Value := (σ.map (cur[·]!) ++ cur.toList.drop σ.length).toArray
theorem cellsOf_size {cur : Array Value} {σ : List Nat} (h : σ.length ≤ cur.size) : (cellsOf cur σ).size = cur.size := by
 unfold cellsOf
 simp
 omega
theorem cellsOf_high {cur : Array Value} {σ : List Nat} {j : Nat} (h : σ.length ≤ j) : (cellsOf cur σ)[j]? = cur[j]? := by
 unfold cellsOf
 rw [List.getElem?_toArray,List.getElem?_append_right (by simpa using h),List.getElem?_drop,List.length_map,show σ.length + (j - σ.length) = j by omega,Array.getElem?_toList]
theorem cellsOf_low {cur : Array Value} {σ : List Nat} {j i : Nat} (h : σ[j]? = some i) : (cellsOf cur σ)[j]? = some cur[i]! := by
 have hj : j < σ.length:=(List.getElem?_eq_some_iff.1 h).1
 unfold cellsOf
 rw [List.getElem?_toArray,List.getElem?_append_left (by simpa using hj),List.getElem?_map,h]
 rfl
theorem cellsOf_range {cur : Array Value} {k : Nat} (h : k ≤ cur.size) : cellsOf cur (List.range k) = cur := by
 apply Array.ext_getElem?
 intro j
 by_cases hj : j < k
 ·rw [cellsOf_low (i:=j) (by rw [List.getElem?_range hj]),getElem!_pos cur j (by omega),Array.getElem?_eq_getElem (by omega)]
 ·rw [cellsOf_high (by rw [List.length_range];omega)]
theorem cellsOf_put {cur : Array Value} {σ : List Nat} (q : Nat) (h : σ.length < cur.size) : (cellsOf cur σ).setIfInBounds σ.length cur[q]! = cellsOf cur (σ ++ [q]) := by
 apply Array.ext_getElem?
 intro j
 by_cases hj : j = σ.length
 ·subst hj
  rw [Array.getElem?_setIfInBounds,if_pos rfl,if_pos (by rw [cellsOf_size (by omega)];exact h),cellsOf_low (i:=q) (by rw [List.getElem?_append_right (Nat.le_refl _),Nat.sub_self];rfl)]
 ·rw [Array.getElem?_setIfInBounds,if_neg (fun e => hj e.symm)]
  by_cases hl : j < σ.length
  ·rw [cellsOf_low (i:=σ[j]) (List.getElem?_eq_getElem hl),cellsOf_low (i:=σ[j]) (by rw [List.getElem?_append_left hl];exact List.getElem?_eq_getElem hl)]
  ·rw [cellsOf_high (by omega),cellsOf_high (by simp;omega)]
theorem setCells_grown (g : Nat) (w : World) : ∀ (vs : List Value) (s : Nat) (w1 : World), w.grownBy w1 (some g) → w.grownBy (w1.setCells g s vs) (some g)
 | [], _, _, h => h
 | v :: r, s, w1, h => by
  rw [World.setCells]
  exact setCells_grown g w r (s + 1) _ ⟨h.os,h.tape,h.output,by simpa [World.setCell] using h.size,fun k hk hn => (Below.heap_setCell w1 ⟨g,s,none⟩ v k (fun he => hn (by rw [he]))).trans (h.block k hk hn)⟩
structure StK (w wr : World) (g : Nat) (cur : Array Value) (xs : List (List Int)) (q i : Nat) : Prop where
 gr : w.grownBy wr (some g)
 hb : wr.heap[g]? = some (.cells (cellsOf cur (mKeep xs q)) 22 (0,0))
 len : (mKeep xs q).length = i
 lt : i < q
theorem grownBy_below {w wr w1 : World} {row : Option Nat} (h : w.grownBy wr row) (hb : Below wr.heap.size wr w1) : w.grownBy w1 row :=
 ⟨hb.os.trans h.os,hb.tape.trans h.tape,hb.output.trans h.output,Nat.le_trans h.size hb.size,fun k hk hn => (hb.block k (Nat.lt_of_lt_of_le hk h.size)).trans (h.block k hk hn)⟩
theorem StK.below {w wr w1 : World} {g : Nat} {cur : Array Value} {xs : List (List Int)} {q i : Nat} (st : StK w wr g cur xs q i) (hb : Below wr.heap.size wr w1) : StK w w1 g cur xs q i :=
 ⟨grownBy_below st.gr hb,zQ st.hb hb,st.len,st.lt⟩
theorem StK.cell {w wr : World} {g : Nat} {cur : Array Value} {xs : List (List Int)} {q i j : Nat} {v : Value} (st : StK w wr g cur xs q i) (h : i ≤ j) (hv : cur[j]? = some v) : wr.cell? ⟨g, j, none⟩ = some v := by
 rw [zP st.hb,cellsOf_high (by rw [st.len];exact h),hv]
theorem StK.skip {w wr : World} {g : Nat} {cur : Array Value} {xs : List (List Int)} {q i : Nat} (st : StK w wr g cur xs q i) (h : ¬ (q = 0 ∨ xs.getD q [] ≠ xs.getD (q - 1) [])) : StK w wr g cur xs (q + 1) i :=
 ⟨st.gr,by rw [mKeep_no h];exact st.hb,by rw [mKeep_no h];exact st.len,by have:=st.lt;omega⟩
theorem StK.keep {w wr : World} {g : Nat} {cur : Array Value} {xs : List (List Int)} {q i : Nat} (st : StK w wr g cur xs q i) (h : q = 0 ∨ xs.getD q [] ≠ xs.getD (q - 1) []) (hs : i < cur.size) (hg : g < w.heap.size) : StK w (wr.setCell ⟨g, i, none⟩ cur[q]!) g cur xs (q + 1) (i + 1) := by
 refine ⟨⟨st.gr.os,st.gr.tape,st.gr.output,by simpa [World.setCell] using st.gr.size,fun k hk hn => (Below.heap_setCell wr ⟨g,i,none⟩ _ k (fun he => hn (by rw [he]))).trans (st.gr.block k hk hn)⟩,?_,by rw [mKeep_yes h,List.length_append,st.len];rfl,by have:=st.lt;omega⟩
 rw [mKeep_yes h,← cellsOf_put q (by rw [st.len];exact hs),st.len]
 exact blk_set st.hb i _
set_option maxHeartbeats 8000000 in
set_option maxRecDepth 100000 in
theorem compactR_walk (P : Nat → Prop) (v : Value) (xs : List (List Int)) (w0 w : World) (hB : Below w0.heap.size w0 w) (ho : Kd.S (Kd.slice 3 (Kd.int .i64)) 22 w w0.heap.size P v xs) (hl : xs.length ≤ 4398046511104) (hs : ∀ x ∈ xs, x.length ≤ 1048576) :
  Calls Tryz.prog 65 #[v, .func (.func 66) #[] #[]] w fun e w' => ∃ v' : Value, e = .returned (v') ∧ Kd.S (Kd.slice 3 (Kd.int .i64)) 22 w' w0.heap.size P v' (mCompact xs) ∧ Below w0.heap.size w0 w' := by
 by_cases h2 : xs.length < 2
 ·obtain ⟨A,c,rfl⟩:=Kd.S_slice ho
  have HO:=zA ho
  have HB:=zA hB
  have h2b : decide ((xs.length : Int) < 2) = true:=decide_eq_true (by omega)
  have H2:=zA h2
  clear ho hB hl hs h2
  go_enter Tryz.func65,Tryz.ntmps65
  go_wp2
  go_ret
  exact ⟨_,rfl,by rw [mCompact_short H2.out];exact HO.out,HB.out⟩
 obtain ⟨g,cap,rfl,hge,hgl,cur,hb⟩:=Kd.S_form ho (by omega)
 have hn : 0 < xs.length:=by omega
 have hsz : xs.length ≤ cur.size:=by have:=S_size ho hb;have e1 : (Kd.slice 3 (Kd.int .i64)).sz = 1:=rfl;rw [e1] at this;omega
 have hcap : xs.length ≤ cap:=(Kd.S_reads' ho).2.1
 have EL : ∀ i,i < xs.length → ∃ A c,cur[i]! = .slice A (xs.getD i []).length c ∧ (xs.getD i []).length ≤ c ∧ (xs.getD i []).length ≤ 1048576 ∧ ∀ wr : World,w.grownBy wr (some g) → Kd.C (Kd.int .i64) wr A (xs.getD i []).length (xs.getD i []):=by
  intro i hi
  obtain ⟨vx,ex,gx⟩:=S_seg ho [] hb hn i
  have ex' : segK cur xs.length 1 i = _:=ex
  rw [seg1_seg hn hsz] at ex'
  injection ex' with ex' _
  unfold seg1 at ex'
  rw [show min i (xs.length - 1) = i by omega] at ex' gx
  obtain ⟨A,c,rfl,hlc,-⟩:=zRb gx
  refine ⟨A,c,ex',hlc,?_,fun wr hg => ?_⟩
  ·rw [List.getD_eq_getElem?_getD,List.getElem?_eq_getElem hi];exact hs _ (List.getElem_mem _)
  ·exact (Kd.R_reads' (Kd.R_step gx (w1:=wr) (fun k hk hlt => hg.block k hlt (fun he => hk.2 (Option.some.inj he))))).2.2
 have CU : ∀ i,i < xs.length → cur[i]? = some cur[i]!:=fun i hi => by rw [getElem!_pos cur i (by omega),Array.getElem?_eq_getElem (by omega)]
 have ELA:=zA EL
 have CUA:=zA CU
 have HO:=zA ho
 have HB:=zA hB
 have HG:=zA (show g < w.heap.size ∧ xs.length ≤ cur.size ∧ xs.length ≤ 4398046511104 ∧ xs.length ≤ cap ∧ w0.heap.size ≤ g from ⟨hgl,hsz,hl,hcap,hge⟩)
 have BG:=zA hb
 have h2b : decide ((xs.length : Int) < 2) = false:=decide_eq_false (by omega)
 have H2:=zA (show 2 ≤ xs.length by omega)
 clear ho hB hl hs EL CU hb hsz hgl hge hcap hn h2
 go_enter Tryz.func65,Tryz.ntmps65
 go_wp2
 go_loopg [5] (xs.length - 1) (fun kq v5 w' => ∃ (k : Nat),v5 = .int .i64 (k : Int) ∧ Aside0 (1 ≤ k ∧ kq + k = xs.length) ∧ Aside0 (mKeep xs k = List.range k) ∧ Aside0 (Below w.heap.size w w'))
 case atStart => exact ⟨1,rfl,⟨⟨Nat.le_refl _,by have:=H2.out;omega⟩⟩,⟨by rw [mKeep_yes (.inl rfl)];rfl⟩,⟨Below.refl _ _⟩⟩
 case round =>
  obtain ⟨k,rfl,HK,KE,HW⟩:=hrel
  by_cases c15 : (k : Int) < (xs.length : Int)
  rotate_left
  ·have c15b:=decide_eq_false c15
   have e1 : k = xs.length:=by have:=HK.out;omega
   have KE2:=zA (show mCompact xs = xs from mCompact_all (by have h_:=KE.out;rw [e1] at h_;exact h_))
   have c15n:=eq_false (show ¬ k < xs.length by omega)
   clear e1 c15
   go_wp2
   go_ret
   exact ⟨_,rfl,by rw [KE2.out];exact zY HO.out HW.out,zJb HB.out HW.out⟩
  have c15b:=decide_eq_true c15
  have hk : k < xs.length:=by omega
  have KL:=zA hk
  obtain ⟨m,hm⟩ : ∃ m,m + 1 = k:=⟨k - 1,by have:=HK.out;omega⟩
  have HM:=zA (show m + 1 = k ∧ m < xs.length from ⟨hm,by omega⟩)
  have e1 : wrap64 ((k : Int) - 1) = (m : Int):=by have:=HG.out.2.2.1;unfold wrap64;omega
  obtain ⟨Ak,ck,ek,hck,hlk,hrk⟩:=ELA.out k hk
  obtain ⟨Am,cm,em,hcm,hlm,hrm⟩:=ELA.out m (by omega)
  obtain ⟨lk,elk⟩ : ∃ lk,xs.getD k [] = lk:=⟨_,rfl⟩
  obtain ⟨lm,elm⟩ : ∃ lm,xs.getD m [] = lm:=⟨_,rfl⟩
  rw [elk] at ek hck hlk hrk
  rw [elm] at em hcm hlm hrm
  have EK:=zA elk
  have EM:=zA elm
  have FK:=zA (show lk.length ≤ ck ∧ lm.length ≤ cm from ⟨hck,hcm⟩)
  have RK:=zA hrk
  have RM:=zA hrm
  have CK:=zA (show cur[k]? = some (.slice Ak lk.length ck) by rw [CUA.out k hk,ek])
  have CM:=zA (show cur[m]? = some (.slice Am lm.length cm) by rw [CUA.out m (by omega),em])
  obtain ⟨kq,hkq⟩:=(slEqual_ev lk lm (by omega)).rounds
  obtain ⟨bq,hbq⟩ : ∃ b,decide (lk = lm) = b:=⟨_,rfl⟩
  rw [hbq] at hkq
  have BQ:=zA hbq
  clear hbq
  have KQ:=zA hkq
  have p6:=eq_true hk
  have p7 : ((k : Int) < (xs.length : Int)) = True:=eq_true c15
  have p8:=eq_true (Int.natCast_nonneg k)
  have q6 : (m < xs.length) = True:=eq_true (by omega)
  have q7 : ((m : Int) < (xs.length : Int)) = True:=eq_true (by omega)
  have q8:=eq_true (Int.natCast_nonneg m)
  clear hk hm ek hck hlk hrk em hcm hlm hrm hkq c15 elk elm
  try go_wp2
  have n_:=zA (zJb HW.out (below_drew (w:=wr) (Below.refl _ _)))
  clear HW
  have HW:=n_
  clear n_
  refine start_ (n:=11) (S:=fun w' => w'.cell? ⟨g,k,none⟩ = some (.slice Ak lk.length ck) ∧ w'.cell? ⟨g,m,none⟩ = some (.slice Am lm.length cm)) (ds:=[10]) #[yf,yf,yf,yf,yf,yf,yf,yf,yf,yf,yf] (by kernel_rfl) rfl rfl ⟨(zP (zQ BG.out HW.out) k).trans CK.out,(zP (zQ BG.out HW.out) m).trans CM.out⟩ (fun hHeld => ?_)
  generalize wr.drew = wd at HW hHeld ⊢
  refine zu 0 18 ?_;refine zu 1 19 ?_;refine zu 2 20 ?_;refine zu 3 21 ?_;refine zw 4 22 hHeld ?_;refine zu 5 23 ?_;refine zu 6 24 ?_;refine zu 7 25 ?_;refine zu 8 26 ?_;refine zw 9 27 hHeld ?_
  refine last_ (i:=10) (N:=some 28) #[yt,yt,yt,yt,yt,yt,yt,yt,yt,yt,yt] rfl rfl (by kernel_rfl) (by decide) (fun K hK => ?_)
  refine goesC_ Tryz.func66 (by kernel_rfl) rfl #[] #[] #[.slice Ak lk.length ck,.slice Am lm.length cm] (by rfl) rfl rfl (by rfl) (by (try simp only [zCb,zMb,zNb,List.append_toArray,List.nil_append,List.cons_append]);first|done|rfl) ?_
  refine (slices_Equal_int_int.calls kq _ _ _ _ _ _ _ _ (RK.out _ (grown_of_below HW.out _)) FK.out.1 (RM.out _ (grown_of_below HW.out _)) FK.out.2 KQ.out).mono ?_
  rintro e we ⟨rfl,hd⟩
  refine ⟨_,rfl,?_⟩
  have n_:=zA (zJb HW.out hd.below)
  clear HW hd
  have HW:=n_
  clear n_
  refine hK.out _ _ ?_
  clear hK K hHeld RK RM FK KQ CK CM
  refine done_ (by kernel_rfl) ?_
  clear q6 q7 q8 e1
  cases bq
  ·have cq:=of_decide_eq_false BQ.out
   have KE2:=zA (show mKeep xs (k + 1) = List.range (k + 1) by rw [mKeep_yes (.inr (by rw [show k - 1 = m by have:=HM.out.1;omega,EK.out,EM.out];exact cq)),KE.out,List.range_succ])
   clear cq KE p6 p7 p8
   go_wp2
   go_roundg (gk - 1)
   case measure => have:=HK.out;have:=KL.out;omega
   case rel => exact ⟨k + 1,congrArg (Value.int .i64) (by have:=HG.out;have:=KL.out;unfold wrap64;omega),⟨by have:=HK.out;have:=KL.out;omega⟩,KE2,HW⟩
  have cq:=zXb BQ.out
  have hno : ¬ (k = 0 ∨ xs.getD k [] ≠ xs.getD (k - 1) []):=by
   rw [show k - 1 = m by have:=HM.out.1;omega,EK.out,EM.out]
   have:=HK.out.1
   exact fun h => h.elim (fun h => by omega) (fun h => h cq)
  have SK:=zA (show StK w we g cur xs (k + 1) k from ⟨grown_of_below HW.out _,by rw [mKeep_no hno,KE.out,cellsOf_range (by have:=HG.out;have:=KL.out;omega)];exact zQ BG.out HW.out,by rw [mKeep_no hno,KE.out,List.length_range],Nat.lt_succ_self _⟩)
  obtain ⟨n2,hn2⟩ : ∃ n2,k + n2 = xs.length:=⟨xs.length - k,by have:=KL.out;omega⟩
  obtain ⟨c2,hc2⟩ : ∃ c2,k + c2 = cap:=⟨cap - k,by have:=KL.out;have:=HG.out;omega⟩
  have N2:=zA (show k + n2 = xs.length ∧ k + c2 = cap ∧ 0 < n2 from ⟨hn2,hc2,by have:=KL.out;omega⟩)
  have g1:=KL.out
  have g2:=HG.out.2.2.2.1
  have g3 : k < cap:=by omega
  have g4 : ¬ k = cap:=by omega
  have g5 : k ≤ xs.length:=by omega
  have g6 : k ≤ cap:=by omega
  clear hno cq KE HW hn2 hc2 p6 p7
  try go_wp2
  rw [show xs.length - k = n2 by have:=N2.out;omega,show cap - k = c2 by have:=N2.out;omega]
  clear g1 g2 g3 g4 g5 g6 p8 EK EM BQ
  go_loopg [5,7] n2 (fun kq v5 v7 w' => ∃ (i j : Nat),v5 = .int .i64 (i : Int) ∧ v7 = .int .i64 (j : Int) ∧ Aside0 (1 ≤ j ∧ j ≤ n2 ∧ kq + j = n2 + 1) ∧ Aside0 (StK w w' g cur xs (k + j) i))
  case atStart => exact ⟨k,1,rfl,rfl,⟨⟨Nat.le_refl _,by have:=N2.out;omega,rfl⟩⟩,SK⟩
  case round =>
   clear SK
   obtain ⟨i,j,rfl,rfl,HJ,SK⟩:=hrel
   by_cases c35 : j < n2
   rotate_left
   ·have c35b:=decide_eq_false c35
    have c35n:=eq_false c35
    have ej : k + j = xs.length:=by have:=HJ.out;have:=N2.out;omega
    have hil : i < xs.length:=by have:=SK.out.lt;omega
    have HI:=zA (show i < xs.length ∧ k + j = xs.length from ⟨hil,ej⟩)
    have hcl : ∀ ty,(Builtin.clear_ #[32] ty #[.slice (some ⟨g,i,none⟩) (xs.length - i) (cap - i)]).run Tryz.prog wr = .ok (.tuple #[]) (wr.setCells g i (List.replicate (xs.length - i) (.slice none 0 0))) :=
     fun ty => Lib.run_clear_slice wr _ _ ty _ Tryz.underlying32 Tryz.zeroValue22 rfl rfl g i _ _ (by omega) (fun q hq => by rw [SK.out.cell (by omega) (CUA.out (i + q) (by omega))];rfl) (fun q hq => blk_frozen SK.out.hb _)
    have g1:=hil
    have g2:=HG.out.2.2.2.1
    have g3 : i < cap:=by omega
    have g4 : ¬ i = cap:=by omega
    have g5 : i ≤ xs.length:=by omega
    have g6 : i ≤ cap:=by omega
    have g7:=eq_true (Int.natCast_nonneg i)
    clear ej hil c35
    go_wp2
    go_ret
    have hσ : (mKeep xs xs.length).length = i:=by have h_:=SK.out.len;rw [HI.out.2] at h_;exact h_
    have hbk:=SK.out.hb
    rw [HI.out.2] at hbk
    have hgr:=setCells_grown g w (List.replicate (xs.length - i) (.slice none 0 0)) i wr SK.out.gr
    refine ⟨.slice (some ⟨g,0,none⟩) i cap,rfl,?_,setCells_below g w0 HG.out.2.2.2.2 _ i wr (HB.out.grown SK.out.gr HB.out.size (fun k_ hk_ => by injection hk_ with hk_;have:=HG.out;omega))⟩
    have h_:=S_sub HO.out [] (mKeep xs xs.length) (mKeep_nodup _ _) (fun _ h => mKeep_lt h) (mKeep_len _ _) hgr ?_
    ·rw [hσ] at h_;exact h_
    intro cur2 hb2 hs2
    have hb3:=(Kd.S_form HO.out (by have:=H2.out;omega))
    rw [BG.out] at hb2
    injection hb2 with hb2
    injection hb2 with hb2 _ _
    subst hb2
    have hcs : (cellsOf cur (mKeep xs xs.length)).size = cur.size:=cellsOf_size (by rw [hσ];have:=HI.out;have:=HG.out;omega)
    refine ⟨_,setCells_heap g 22 _ i wr _ hbk,by rw [Sort.size_setMany,hcs],fun j2 q hj t ht => ?_⟩
    have ht0 : t = 0:=by have e1 : (Kd.slice 3 (Kd.int .i64)).sz = 1:=rfl;rw [e1] at ht;omega
    subst ht0
    have e1 : (Kd.slice 3 (Kd.int .i64)).sz = 1:=rfl
    have hj2 : j2 < i:=by have:=(List.getElem?_eq_some_iff.1 hj).1;omega
    have hq : q < xs.length:=mKeep_lt (List.mem_of_getElem? hj)
    have hlt : j2 < (cellsOf cur (mKeep xs xs.length)).size:=by rw [hcs];have:=HI.out;have:=HG.out;omega
    rw [e1,Nat.mul_one,Nat.add_zero,Nat.mul_one,Nat.add_zero,Array.getElem?_toList,Array.getElem?_toList,CUA.out q hq]
    have hg_:=Sort.get_setMany (List.replicate (xs.length - i) (.slice none 0 0)) i (cellsOf cur (mKeep xs xs.length)) j2 hlt
    rw [if_neg (by omega)] at hg_
    have hlo:=cellsOf_low (cur:=cur) hj
    rw [Array.getElem?_eq_getElem (by rw [Sort.size_setMany];exact hlt),← getElem!_pos _ j2 (by rw [Sort.size_setMany];exact hlt),hg_,getElem!_pos _ j2 hlt]
    rw [Array.getElem?_eq_getElem hlt] at hlo
    exact hlo
   have c35b:=decide_eq_true c35
   obtain ⟨m2,hm2⟩ : ∃ m2,m2 + 1 = j:=⟨j - 1,by have:=HJ.out;omega⟩
   have hq : k + j < xs.length:=by have:=N2.out;omega
   have QL:=zA hq
   have JL:=zA c35
   have HM2:=zA (show m2 + 1 = j ∧ k + m2 < xs.length from ⟨hm2,by omega⟩)
   have e1 : wrap64 ((j : Int) - 1) = (m2 : Int):=by have:=HG.out.2.2.1;unfold wrap64;omega
   obtain ⟨Aq,cq,eq,hcq,hlq,hrq⟩:=ELA.out (k + j) hq
   obtain ⟨Ap,cp,ep,hcp,hlp,hrp⟩:=ELA.out (k + m2) (by omega)
   obtain ⟨lq,elq⟩ : ∃ lq,xs.getD (k + j) [] = lq:=⟨_,rfl⟩
   obtain ⟨lp,elp⟩ : ∃ lp,xs.getD (k + m2) [] = lp:=⟨_,rfl⟩
   rw [elq] at eq hcq hlq hrq
   rw [elp] at ep hcp hlp hrp
   have EQ:=zA elq
   have EP:=zA elp
   have FQ:=zA (show lq.length ≤ cq ∧ lp.length ≤ cp from ⟨hcq,hcp⟩)
   have RQ:=zA hrq
   have RP:=zA hrp
   have VQ:=zA (show cur[k + j]! = .slice Aq lq.length cq from eq)
   have CQ:=zA (show cur[k + j]? = some (.slice Aq lq.length cq) by rw [CUA.out (k + j) hq,eq])
   have CP:=zA (show cur[k + m2]? = some (.slice Ap lp.length cp) by rw [CUA.out (k + m2) (by omega),ep])
   obtain ⟨kq,hkq⟩:=(slEqual_ev lq lp (by omega)).rounds
   obtain ⟨bq,hbq⟩ : ∃ b,decide (lq = lp) = b:=⟨_,rfl⟩
   rw [hbq] at hkq
   have BQ:=zA hbq
   have KQ:=zA hkq
   have LE:=zA (show i ≤ k + m2 by have:=SK.out.lt;omega)
   have p6:=eq_true c35
   have p7 : ((j : Int) < (n2 : Int)) = True:=eq_true (by omega)
   have p8:=eq_true (Int.natCast_nonneg j)
   have q6 : (m2 < n2) = True:=eq_true (by omega)
   have q7 : ((m2 : Int) < (n2 : Int)) = True:=eq_true (by omega)
   have q8:=eq_true (Int.natCast_nonneg m2)
   clear hbq hkq hq hm2 eq hcq hlq hrq ep hcp hlp hrp elq elp c35
   try go_wp2
   have n_:=zA (SK.out.below (below_drew (w:=wr) (Below.refl _ _)))
   clear SK
   have SK:=n_
   clear n_
   refine start_ (n:=12) (S:=fun w' => w'.cell? ⟨g,k + j,none⟩ = some (.slice Aq lq.length cq) ∧ w'.cell? ⟨g,k + m2,none⟩ = some (.slice Ap lp.length cp)) (ds:=[]) #[yf,yf,yf,yf,yf,yf,yf,yf,yf,yf,yf,yf] (by kernel_rfl) rfl rfl ⟨SK.out.cell (by have:=LE.out;have:=HM2.out;omega) CQ.out,SK.out.cell LE.out CP.out⟩ (fun hHeld => ?_)
   generalize wr.drew = wd at SK hHeld ⊢
   refine zu 0 38 ?_;refine zu 1 39 ?_;refine zu 2 40 ?_;refine zu 3 41 ?_;refine zw 4 42 hHeld ?_;refine zu 5 43 ?_;refine zu 6 44 ?_;refine zu 7 45 ?_;refine zu 8 46 ?_;refine zw 9 47 hHeld ?_
   refine one_ (i:=10) (N:=some 48) #[yt,yt,yt,yt,yt,yt,yt,yt,yt,yt,yt,yf] rfl rfl (by kernel_rfl) (by decide) (fun K hK => ?_)
   refine goesC_ Tryz.func66 (by kernel_rfl) rfl #[] #[] #[.slice Aq lq.length cq,.slice Ap lp.length cp] (by rfl) rfl rfl (by rfl) (by (try simp only [zCb,zMb,zNb,List.append_toArray,List.nil_append,List.cons_append]);first|done|rfl) ?_
   refine (slices_Equal_int_int.calls kq _ _ _ _ _ _ _ _ (RQ.out _ SK.out.gr) FQ.out.1 (RP.out _ SK.out.gr) FQ.out.2 KQ.out).mono ?_
   rintro e we2 ⟨rfl,hd⟩
   refine ⟨_,rfl,?_⟩
   have n_:=zA (SK.out.below hd.below)
   clear SK hd
   have SK:=n_
   clear n_
   refine hK.out _ _ ⟨SK.out.cell (by have:=LE.out;have:=HM2.out;omega) CQ.out,SK.out.cell LE.out CP.out⟩ (fun hHeld => ?_)
   clear hK K
   refine norm_ (a':=?_) ?_ ?_
   rotate_left
   ·show Act.put _ (some 48) _ = _;simp only [Act.put,zO,zEb,zFb,i64_w,i32_w];rfl
   refine zu 11 49 ?_
   refine done_ (by kernel_rfl) ?_
   clear hHeld RQ RP FQ KQ CP q6 q7 q8 e1
   cases bq
   rotate_left
   ·have cq2:=zXb BQ.out
    have SK2:=zA (SK.out.skip (by
     rw [show k + j - 1 = k + m2 by have:=HM2.out.1;omega,EQ.out,EP.out]
     have:=HJ.out.1
     exact fun h => h.elim (fun h => by omega) (fun h => h cq2)))
    clear SK p6 p7 p8 CQ
    go_wp2
    go_roundg (gk - 1)
    case measure => have:=HJ.out;have:=JL.out;omega
    case rel => exact ⟨i,j + 1,rfl,congrArg (Value.int .i64) (by have:=HG.out;have:=QL.out;unfold wrap64;omega),⟨by have:=HJ.out;have:=JL.out;omega⟩,SK2⟩
   have cq2:=of_decide_eq_false BQ.out
   have SK2:=zA (SK.out.keep (.inr (by rw [show k + j - 1 = k + m2 by have:=HM2.out.1;omega,EQ.out,EP.out];exact cq2)) (by have:=HG.out;have:=LE.out;have:=HM2.out;omega) HG.out.1)
   rw [VQ.out] at SK2
   have hil : i < xs.length:=by have:=LE.out;have:=HM2.out;omega
   have hxq : we2.cell? ⟨g,k + j,none⟩ = some (.slice Aq lq.length cq):=SK.out.cell (by have:=LE.out;have:=HM2.out;omega) CQ.out
   have hxi : we2.cell? ⟨g,i,none⟩ = some cur[i]!:=SK.out.cell (Nat.le_refl _) (CUA.out i hil)
   have hfi : we2.frozen? ⟨g,i,none⟩ = false:=blk_frozen SK.out.hb i
   have IL:=zA hil
   have r6:=eq_true hil
   have r7 : ((i : Int) < (xs.length : Int)) = True:=eq_true (by omega)
   have r8:=eq_true (Int.natCast_nonneg i)
   clear hil
   go_wp2_with (first|((with_reducible refine gate_store (t:=22) (p:=56) rfl ?_);refine hold ?_))
   unfold Hold
   refine store_event (t:=22) (p:=56) (v:=?vo1) (w1:=we2.setCell ⟨g,i,none⟩ (.slice Aq lq.length cq)) ?hgs1 ?hos1 ?hns1 ?hrs1 ?_
   case hos1 => rfl
   case hgs1 => rfl
   case hns1 => rfl
   case hrs1 => first|(go_simp;done)|(go_simp;rfl)
   intro w5 hw
   have SK3:=zA (show StK w w5 g cur xs (k + j + 1) (i + 1) from by rw [hw];exact SK2.out)
   clear hw hxq hxi hfi SK SK2 p6 p7 p8 r6 r7 r8 CQ
   go_wp2
   go_roundg (gk - 1)
   case measure => have:=HJ.out;have:=JL.out;omega
   case rel => exact ⟨i + 1,j + 1,congrArg (Value.int .i64) (by have:=HG.out;have:=IL.out;unfold wrap64;omega),congrArg (Value.int .i64) (by have:=HG.out;have:=QL.out;unfold wrap64;omega),⟨by have:=HJ.out;have:=JL.out;omega⟩,SK3⟩

theorem heads_eq {s h : List Int} {b : List S81} {d : List S64} (hq : mIsQuery s h b = true) : (mDfs d b mEmpty).map (mTupleI h) = mHeads d b h := by
 refine List.map_congr_left (fun r hr => ?_)
 refine List.map_congr_left (fun t ht => ?_)
 unfold mValI Pure.mVal
 by_cases c : 0 ≤ t
 ·obtain ⟨n,rfl⟩:=Int.eq_ofNat_of_zero_le c
  have hb:=head_bound hq hr n ht
  have e20 : ((20 + n : Nat) : Int) = 20 + (n : Int):=by omega
  rw [e20] at hb
  rw [if_pos c,if_neg hb,if_neg (show ¬ (n : Int) < 0 by omega)]
 ·rw [if_neg c,if_pos (by omega)]
set_option maxHeartbeats 8000000 in
set_option maxRecDepth 100000 in
theorem different_walk (P : Nat → Prop) (v : Value) (xs : List (List Int)) (w0 w : World) (hB : Below w0.heap.size w0 w) (ho : Kd.S (Kd.slice 3 (Kd.int .i64)) 22 w w0.heap.size P v xs) (hl : xs.length ≤ 4398046511104) (hs : ∀ x ∈ xs, x.length ≤ 1048576) :
  Calls Tryz.prog 38 #[v] w fun e w' => ∃ v' : Value, e = .returned (v') ∧ Kd.S (Kd.slice 3 (Kd.int .i64)) 22 w' w0.heap.size P v' (mSort true xs) ∧ Below w0.heap.size w0 w' := by
 have HO:=zA ho
 have HB:=zA hB
 have HL:=zA (show xs.length ≤ 4398046511104 ∧ ∀ x ∈ xs,x.length ≤ 1048576 from ⟨hl,hs⟩)
 clear hB ho hl hs
 go_enter Tryz.func38,Tryz.ntmps38
 go_wp2_with (first|(go_at_call 63;refine hold ?_))
 unfold Hold
 refine (sortR_walk P v xs w0 _ HB.out HO.out HL.out.1 HL.out.2).mono ?_
 rintro e w1 ⟨rfl,ys,hp,hs,ho,hb,-⟩
 have EY:=zA (compact_sort xs ys hp hs)
 have YL:=zA (show ys.length ≤ 4398046511104 ∧ ∀ x ∈ ys,x.length ≤ 1048576 from ⟨by rw [hp.length_eq];exact HL.out.1,fun x hx => HL.out.2 x (hp.mem_iff.1 hx)⟩)
 have OY:=zA ho
 clear HB HO
 have HB:=zA hb
 clear ho hb hp hs
 go_wp2_with (first|(go_at_call 65;refine hold ?_))
 unfold Hold
 refine (compactR_walk P v ys w0 _ HB.out OY.out YL.out.1 YL.out.2).mono ?_
 rintro e w2 ⟨v2,rfl,ho,hb⟩
 have O2:=zA (show Kd.S (Kd.slice 3 (Kd.int .i64)) 22 w2 w0.heap.size P v2 (mSort true xs) from by rw [← EY.out];exact ho)
 have HB2:=zA hb
 clear ho hb OY HB
 go_wp2
 go_ret
 exact ⟨_,rfl,O2.out,HB2.out⟩
set_option maxHeartbeats 8000000 in
set_option maxRecDepth 100000 in
theorem impl_Answers_calls (A0_0 : Option Addr) (c0_0 : Nat) (l0_0 : List Int) (A1_0 : Option Addr) (c1_0 : Nat) (l1_0 : List Int) (A1_1 : Option Addr) (c1_1 : Nat) (l1_1 : List (S81)) (A2 : Option Addr) (c2 : Nat) (l2 : List (S64)) (r1 : List (List Int)) (w : World) (hr0_0 : Kd.C (Kd.int .i64) w A0_0 l0_0.length l0_0) (hc0_0 : l0_0.length ≤ c0_0) (hr1_0 : Kd.C (Kd.int .i64) w A1_0 l1_0.length l1_0) (hc1_0 : l1_0.length ≤ c1_0) (hr1_1 : Kd.C k81 w A1_1 l1_1.length l1_1) (hc1_1 : l1_1.length ≤ c1_1) (hr2 : Kd.C k64 w A2 l2.length l2) (hc2 : l2.length ≤ c2) (hz0 : (l0_0.length ≤ 1048576 ∧ l1_0.length ≤ 1048576 ∧ l1_1.length ≤ 1048576 ∧ l2.length ≤ 1048576) ∧ (∀ x ∈ l1_1, x.f1.length ≤ 1048576) ∧ ∀ x ∈ l2, x.f1.length ≤ 1048576) (h : mAnswers l0_0 l1_0 l1_1 l2 = r1) :
  Calls Tryz.prog 12 #[.agg #[.slice A0_0 l0_0.length c0_0], .agg #[.slice A1_0 l1_0.length c1_0, .slice A1_1 l1_1.length c1_1], .slice A2 l2.length c2] w fun e w' => ∃ v0_ : Value, e = .returned (v0_) ∧ Kd.S (Kd.slice 3 (Kd.int .i64)) 22 w' w.heap.size (fun _ => True) v0_ r1 ∧ Below w.heap.size w w' := by
 obtain ⟨⟨z0,z1,z2,z3⟩,zs,zd⟩:=hz0
 obtain ⟨k1,hk1⟩:=(implIsQuery_ev l0_0 l1_0 l1_1 z0 z1 z2 zs).rounds
 obtain ⟨k2,hk2⟩:=(implIsDb_ev l0_0 l2 z0 z3 zd).rounds
 have huS:=Tryz.underlying34
 have huQ:=Tryz.underlying38
 have OQ:=zA (fun h_ : mIsQuery l0_0 l1_0 l1_1 = true => (⟨okB h_,heads_eq (d:=l2) h_⟩ : _ ∧ _))
 have OD:=zA (fun (h_ : mIsQuery l0_0 l1_0 l1_1 = true) (h2_ : mIsDb l0_0 l2 = true) => dfs_small h_ h2_ mEmpty)
 unfold mAnswers at h
 generalize mIsQuery l0_0 l1_0 l1_1 = b1 at hk1 h OQ OD
 generalize mIsDb l0_0 l2 = b2 at hk2 h OD
 have HN:=zA (fun h_ : (b1 && b2) = false => show r1 = [] by rw [← h,h_];rfl)
 have HY:=zA (fun h_ : (b1 && b2) = true => show r1 = mSort true (mHeads l2 l1_1 l1_0) by rw [← h,h_];rfl)
 have K1:=zA hk1
 have K2:=zA hk2
 have R0:=zA hr0_0
 have R1:=zA hr1_0
 have R2:=zA hr1_1
 have R3:=zA hr2
 have HC:=zA (show l0_0.length ≤ c0_0 ∧ l1_0.length ≤ c1_0 ∧ l1_1.length ≤ c1_1 ∧ l2.length ≤ c2 from ⟨hc0_0,hc1_0,hc1_1,hc2⟩)
 have HZ:=zA (show (l1_0.length ≤ 1048576 ∧ l1_1.length ≤ 1048576 ∧ l2.length ≤ 1048576) ∧ (∀ x ∈ l1_1,x.f1.length ≤ 1048576) from ⟨⟨z1,z2,z3⟩,zs⟩)
 have HB:=zA (Below.refl w.heap.size w)
 clear hk1 hk2 hr0_0 hr1_0 hr1_1 hr2 hc0_0 hc1_0 hc1_1 hc2 z0 z1 z2 z3 zs zd h
 go_enter Tryz.func12,Tryz.ntmps12
 go_wp2_with (first|((with_reducible refine gate_dst (N:=3) rfl ?_);refine hold ?_))
 unfold Hold
 refine box_event ?hg0 (N:=3) ?hd0 (cs:=#[.slice A0_0 l0_0.length c0_0]) (t:=34) ?hr0 ?_
 case hd0 => rfl
 case hg0 => rfl
 case hr0 => first|(go_simp;done)|(go_simp;rfl)
 intro g0 hg w1 hbox hb
 have Bg0:=zA hbox
 replace HB:=zA (zJb HB.out hb)
 clear hbox hb hg
 go_wp2_with (first|((with_reducible refine gate_dst (N:=4) rfl ?_);refine hold ?_))
 unfold Hold
 refine box_event ?hg1 (N:=4) ?hd1 (cs:=#[.slice A1_0 l1_0.length c1_0,.slice A1_1 l1_1.length c1_1]) (t:=38) ?hr1 ?_
 case hd1 => rfl
 case hg1 => rfl
 case hr1 => first|(go_simp;done)|(go_simp;rfl)
 intro g1 hg w5 hbox hb
 have Bg1:=zA hbox
 replace Bg0:=zA (zQ Bg0.out hb)
 replace HB:=zA (zJb HB.out hb)
 clear hbox hb hg
 have hx0:=zc (.slice A0_0 l0_0.length c0_0) Bg0 0 rfl
 have hx1:=zc (.slice A1_0 l1_0.length c1_0) Bg1 0 rfl
 have hx2:=zc (.slice A1_1 l1_1.length c1_1) Bg1 1 rfl
 go_wp2_with (first|(go_at_call 36;refine hold ?_))
 unfold Hold
 refine (impl_IsQuery.calls k1 _ _ l0_0 _ _ l1_0 _ _ l1_1 b1 _ (zKb R0.out HB.out) HC.out.1 (zKb R1.out HB.out) HC.out.2.1 (zKb R2.out HB.out) HC.out.2.2.1 K1.out).mono ?_
 rintro e w6 ⟨rfl,hb⟩
 replace HB:=zA (zJb HB.out hb)
 replace Bg0:=zA (zQ Bg0.out hb)
 replace Bg1:=zA (zQ Bg1.out hb)
 clear hb hx0 hx1 hx2 K1
 cases b1
 ·have EN:=zA (HN.out (by rfl))
  clear HN HY OQ OD
  go_wp2_with (first|((with_reducible refine gate_dst (N:=17) rfl ?_);refine hold ?_))
  unfold Hold
  refine Kd.S_lit (Kd.slice 3 (Kd.int .i64)) _ 22 ?hg2 (N:=17) ?hd2 (xs:=([] : List (List Int))) (inner:=[]) (ok:=fun _ => True) (okp:=fun _ => True) ?hr2 ?hp2 (fun _ hk => hk) trivial (Below.refl _ _) (Nat.le_refl _) (by simp) ?_
  case hd2 => rfl
  case hg2 => rfl
  case hr2 => first|(go_simp;done)|(go_simp;rfl)
  case hp2 => exact (Reps.none _ _)
  intro v8 w7 ho hb hg_ hnew_
  have O:=zA (zIb ho HB.out.size)
  replace HB:=zA (zJb HB.out hb)
  clear ho hb hg_ hnew_
  go_wp2
  go_ret
  exact ⟨_,rfl,by rw [EN.out];exact O.out,HB.out⟩
 have hx0:=zc (.slice A0_0 l0_0.length c0_0) Bg0 0 rfl
 go_wp2_with (first|(go_at_call 37;refine hold ?_))
 unfold Hold
 refine (impl_IsDatabase.calls k2 _ _ l0_0 _ _ l2 b2 _ (zKb R0.out HB.out) HC.out.1 (zKb R3.out HB.out) HC.out.2.2.2 K2.out).mono ?_
 rintro e w7 ⟨rfl,hb⟩
 replace HB:=zA (zJb HB.out hb)
 replace Bg0:=zA (zQ Bg0.out hb)
 replace Bg1:=zA (zQ Bg1.out hb)
 clear hb hx0 K2
 cases b2
 ·have EN:=zA (HN.out (by rfl))
  clear HN HY OQ OD
  go_wp2_with (first|((with_reducible refine gate_dst (N:=17) rfl ?_);refine hold ?_))
  unfold Hold
  refine Kd.S_lit (Kd.slice 3 (Kd.int .i64)) _ 22 ?hg2 (N:=17) ?hd2 (xs:=([] : List (List Int))) (inner:=[]) (ok:=fun _ => True) (okp:=fun _ => True) ?hr2 ?hp2 (fun _ hk => hk) trivial (Below.refl _ _) (Nat.le_refl _) (by simp) ?_
  case hd2 => rfl
  case hg2 => rfl
  case hr2 => first|(go_simp;done)|(go_simp;rfl)
  case hp2 => exact (Reps.none _ _)
  intro v8 w8 ho hb hg_ hnew_
  have O:=zA (zIb ho HB.out.size)
  replace HB:=zA (zJb HB.out hb)
  clear ho hb hg_ hnew_
  go_wp2
  go_ret
  exact ⟨_,rfl,by rw [EN.out];exact O.out,HB.out⟩
 have EY:=zA (HY.out rfl)
 have OQ1:=zA (OQ.out trivial)
 have OD1:=zA (OD.out trivial rfl)
 clear HN HY OQ OD
 have hx1:=zc (.slice A1_0 l1_0.length c1_0) Bg1 0 rfl
 have hx2:=zc (.slice A1_1 l1_1.length c1_1) Bg1 1 rfl
 go_wp2_with (first|(go_at_call 39;refine hold ?_))
 unfold Hold
 refine (impl_heads_walk A1_0 c1_0 l1_0 A1_1 c1_1 l1_1 A2 c2 l2 _ (zKb R1.out HB.out) HC.out.2.1 (zKb R2.out HB.out) HC.out.2.2.1 (zKb R3.out HB.out) HC.out.2.2.2 OQ1.out.1.2.2.2 OQ1.out.1.1 HZ.out OD1.out).mono ?_
 rintro e w8 ⟨v8,rfl,ho,hb⟩
 rw [OQ1.out.2] at ho
 have O:=zA (zIb ho HB.out.size)
 replace HB:=zA (zJb HB.out hb)
 clear ho hb hx1 hx2
 go_wp2_with (first|(go_at_call 38;refine hold ?_))
 unfold Hold
 refine (different_walk (fun _ => True) v8 (mHeads l2 l1_1 l1_0) w _ HB.out O.out (by rw [mHeads_len];have:=OD1.out;omega) (fun x hx => by rw [mHeads_mem hx];exact HZ.out.1.1)).mono ?_
 rintro e w9 ⟨v9,rfl,ho,hb⟩
 have O9:=zA (show Kd.S (Kd.slice 3 (Kd.int .i64)) 22 w9 w.heap.size (fun _ => True) v9 r1 from by rw [EY.out];exact ho)
 have HB9:=zA hb
 clear ho hb O HB
 go_wp2
 go_ret
 exact ⟨_,rfl,O9.out,HB9.out⟩

theorem mMatch_no {a : S81} {f : S64} {b : List Int} (h : ¬ (a.f0 = f.f0 ∧ a.f1.length = f.f1.length)) : mMatch a f b = (b, false) := by unfold mMatch; rw [if_neg h]
theorem mMatch_yes {a : S81} {f : S64} {b : List Int} (h : a.f0 = f.f0 ∧ a.f1.length = f.f1.length) : mMatch a f b = mBind a.f1 f.f1 b := by unfold mMatch; rw [if_pos h]
theorem R_KT {go base : Nat} {W w' : World} {v : Value} {xs : List Int} {L : List (List Int)} {w0 : World} (h : Kd.R (Kd.int .i64) 3 W base (fun _ => True) v xs) (hk : KT go W w') (st : StV w0 go L W) : Kd.R (Kd.int .i64) 3 w' base (fun _ => True) v xs := by
 obtain ⟨u,hu,_⟩:=st.box
 refine zGb (Kd.R_step (Kd.R_tight rfl h) (fun k hk2 hlt => ?_)) (fun _ _ => trivial)
 obtain ⟨cells,hc⟩:=Kd.R_typed h k hk2.symm
 exact hk.2 k hlt (blk_ne hc hu (by decide)) (fun c2 fr he => by rw [hc] at he;injection he with he;injection he with _ he _;exact absurd he (by decide))
set_option maxHeartbeats 8000000 in
set_option maxRecDepth 100000 in
theorem l6Search_walk (w0 : World) (go : Nat) (Ah : Option Addr) (ch hn : Nat) (Ab : Option Addr) (cbd : Nat) (body : List S81) (Ad : Option Addr) (cd : Nat) (d : List S64) (hrb : Kd.C k81 w0 Ab body.length body) (hcb : body.length ≤ cbd) (hrd : Kd.C k64 w0 Ad d.length d) (hcd : d.length ≤ cd) (ho : ∀ a ∈ body, ∀ t ∈ a.f1, -80 ≤ t ∧ t ≤ 19) (hbl : body.length ≤ 1048576) (hdl : d.length ≤ 1048576) (has : ∀ a ∈ body, a.f1.length ≤ 1048576) :
  ∀ (n i : Nat) (b : List Int) (vb : Value) (L : List (List Int)) (W : World),i + n = body.length → b.length = 40 → Kd.R (Kd.int .i64) 3 W w0.heap.size (fun _ => True) vb b → StV w0 go L W → L.length + (mDfs d (body.drop i) b).length ≤ 1000000 →
  Calls Tryz.prog 75 #[.agg #[.slice Ah hn ch, .slice Ab body.length cbd], .slice Ad d.length cd, .int .i64 (i : Int), vb, .pointer (some ⟨go, 0, none⟩)] W fun e w' => e = .returned (.tuple #[]) ∧ StV w0 go (L ++ (mDfs d (body.drop i) b).map (fun r => r.take 20)) w' ∧ KT go W w' := by
 have huA:=Tryz.underlying81
 have huF:=Tryz.underlying64
 have huQ:=Tryz.underlying38
 have RB:=zA hrb
 have RD:=zA hrd
 have HC:=zA (show body.length ≤ cbd ∧ d.length ≤ cd from ⟨hcb,hcd⟩)
 have HO:=zA ho
 have HS:=zA has
 have HBL:=zA (show body.length ≤ 1048576 ∧ d.length ≤ 1048576 from ⟨hbl,hdl⟩)
 clear hrb hrd hcb hcd ho has hbl hdl
 intro n
 induction n with
 | zero =>
  intro i b vb L W hin hbl hvb hst hsz
  have GW:=zA hst.B.size
  have ST:=zA hst
  have VB:=zA hvb
  have LB:=zA hbl
  have HI:=zA hin
  have HZ:=zA hsz
  clear hst hbl hin hsz hvb
  have hd : body.drop i = []:=List.drop_eq_nil_of_le (by have:=HI.out;omega)
  rw [hd]
  clear hd
  obtain ⟨Av,cv,rfl⟩:=Kd.R_slice VB.out
  go_enter Tryz.func75,Tryz.ntmps75
  go_wp2_with (first|((with_reducible refine gate_dst (N:=5) rfl ?_);refine hold ?_))
  unfold Hold
  refine box_event ?hg5 (N:=5) ?hd5 (cs:=#[.slice Ah hn ch,.slice Ab body.length cbd]) (t:=38) ?hr5 ?_
  case hd5 => rfl
  case hg5 => rfl
  case hr5 => first|(go_simp;done)|(go_simp;rfl)
  intro g5 hg w1 hbox hb
  have B5:=zA hbox
  have KW:=zA (KT.of_below (go:=go) hb)
  have N5:=zA (show g5 ≠ go from by obtain ⟨v_,h_,_⟩:=(ST.out.below hb).box;exact blk_ne hbox h_ (by decide))
  replace VB:=zA (zZ VB.out hb)
  replace ST:=zA (ST.out.below hb)
  clear hbox hb hg
  have hx1:=zc (.slice Ab body.length cbd) B5 1 rfl
  have e1 : ((i : Int) == (body.length : Int)) = true:=by have:=HI.out;simp;omega
  try go_wp2
  obtain ⟨v0,hv0,hs0⟩:=ST.out.box
  have BG:=zA (zI hv0)
  have OS:=zA (zN hs0)
  have HB:=zA (zJ ST.out.B)
  have GE:=zA ST.out.ge
  have n_:=zA (zH VB.out)
  clear VB
  have VB:=n_
  clear n_
  have n_:=zA (KW.out.trans (KT.of_below (go:=go) (below_drew (w:=w1) (Below.refl _ _))))
  clear KW
  have KW:=n_
  clear n_ hv0 hs0 ST hx1
  have p20 : (20 : Int) ≤ (cv : Int):=by have:=(Kd.R_reads' VB.out).2.1;have:=LB.out;omega
  have q20:=eq_true p20
  have q21 : (20 ≤ cv) = True:=eq_true (by omega)
  refine start_ (n:=12) (S:=fun w' => w'.cell? ⟨go,0,none⟩ = some v0) (ds:=[11]) #[yf,yf,yf,yf,yf,yf,yf,yf,yf,yf,yf,yf] (by kernel_rfl) rfl rfl ((zP BG.out 0).trans rfl) (fun hHeld => ?_)
  generalize w1.drew = wd at BG OS HB VB KW hHeld ⊢
  have WS:=zA KW.out.1
  refine zu 0 18 ?_;refine zu 1 19 ?_;refine zu 2 20 ?_;refine zw 3 21 hHeld ?_;refine zu 5 23 ?_;refine zu 6 24 ?_
  refine one_ (i:=4) (N:=some 22) #[yt,yt,yt,yt,yt,yt,yt,yf,yf,yf,yf,yf] rfl rfl (by kernel_rfl) (by decide) (fun K hK => ?_)
  refine Kd.R_lit_step (Kd.int .i64) _ 3 (by rfl) (N:=22) rfl (xs:=([] : List Int)) (inner:=[]) (ok:=fun _ => True) (okp:=fun _ => True) ?_ ?_ (fun _ hk => hk) trivial (Below.refl _ _) (Nat.le_refl _) (by simp) ?_
  ·first|(go_simp;done)|(go_simp;rfl)
  ·exact Reps.none _ _
  intro v1 w2 ho hb hg_ hnew_
  clear hg_ hnew_
  have V1:=zA (fun k (h_ : v1.ownBlock = some k) => zW ho k h_)
  have O1:=zA (zHb ho HB.out.size)
  replace BG:=zA (zQ BG.out hb)
  replace OS:=zA (Kd.S_old OS.out hb)
  replace VB:=zA (zZ VB.out hb)
  replace KW:=zA (KW.out.trans (KT.of_below hb))
  have ZD:=zA hb.size
  replace HB:=zA (zJb HB.out hb)
  clear ho hb
  refine hK.out _ _ ((zP BG.out 0).trans rfl) (fun hHeld => ?_)
  clear hK K
  refine norm_ (a':=?_) ?_ ?_
  rotate_left
  ·show Act.put _ (some 22) _ = _;simp only [Act.put,zO,zEb,zFb,i64_w,i32_w];rfl
  refine one_ (i:=7) (N:=some 25) #[yt,yt,yt,yt,yt,yt,yt,yt,yf,yf,yf,yf] rfl rfl (by kernel_rfl) (by decide) (fun K hK => ?_)
  refine Kd.R_append_rows_step (Kd.int .i64) (Rr:=(Kd.int .i64).K w2) (w0:=w0) w0.heap.size (by rfl) (.tmp 22) (.tmp 24) 22 3 (.int .i64 0) 8 rfl Tryz.underlying22 info3 rfl (by decide) (by omega) v1 [] (b.take 20) Av 20 cv (fun _ => True) (fun _ => False) rfl rfl O1.out ?_ (fun _ _ h_ => h_) (fun _ h_ => h_.elim) (fun _ _ => trivial) HB.out HB.out.size (by simp) ?_
  ·have h_:=Kd.C_take (m:=20) (Kd.R_reads' VB.out).2.2 (by have:=LB.out;omega)
   have e_ : (b.take 20).length = 20:=by rw [zDb,LB.out];rfl
   rw [e_] at h_
   exact h_
  intro v2 w3 ho hb hg hat
  rw [List.nil_append] at ho
  have V2:=zA (fun k (h_ : v2.ownBlock = some k) => show wd.heap.size ≤ k from by rcases hat with e_|⟨q_,e_,hq_⟩;exact V1.out k (e_ ▸ h_);rw [h_] at e_;injection e_ with e_;have:=ZD.out;omega)
  have O2:=zA ho
  replace BG:=zA (blk_grown BG.out hg (Kd.R_ne O1.out BG.out (by decide)))
  replace OS:=zA (Kd.S_grown OS.out hg (fun k_ hk_ he_ => by have:=V1.out k_ he_.symm;have:=hk_.2;omega))
  have TY1:=zA (Kd.R_typed O1.out)
  replace HB:=zA hb
  obtain ⟨A2,c2,rfl⟩:=Kd.R_slice O2.out
  replace KW:=zA (show KT go W w3 from ⟨Nat.le_trans KW.out.1 hg.size,fun k hk hn ht => by rw [hg.block k (Nat.lt_of_lt_of_le hk KW.out.1) (fun he => by have h1:=V1.out k he.symm;have h2:=WS.out;omega)];exact KW.out.2 k hk hn ht⟩)
  clear ho hb hg hat O1 V1 TY1
  refine hK.out _ _ ((zP BG.out 0).trans rfl) (fun hHeld => ?_)
  clear hK K
  refine norm_ (a':=?_) ?_ ?_
  rotate_left
  ·show Act.put _ (some 25) _ = _;simp only [Act.put,zO,zEb,zFb,i64_w,i32_w];rfl
  refine one_ (i:=8) (N:=some 26) #[yt,yt,yt,yt,yt,yt,yt,yt,yt,yf,yf,yf] rfl rfl (by kernel_rfl) (by decide) (fun K hK => ?_)
  refine event_step (by rfl) (v:=.slice (some ⟨w3.heap.size,0,none⟩) 1 1) (w1:=w3.alloc (.cells #[.slice A2 (b.take 20).length c2] 22 (0,0))) ?_ ?_
  ·first|(go_simp;done)|(go_simp;rfl)
  refine hK.out _ _ ((zP (zG BG.out _) 0).trans rfl) (fun hHeld => ?_)
  clear hK K
  refine norm_ (a':=?_) ?_ ?_
  rotate_left
  ·show Act.put _ (some 26) _ = _;simp only [Act.put,zO,zEb,zFb,i64_w,i32_w];rfl
  refine one_ (i:=9) (N:=some 27) #[yt,yt,yt,yt,yt,yt,yt,yt,yt,yt,yf,yf] rfl rfl (by kernel_rfl) (by decide) (fun K hK => ?_)
  refine Kd.S_append_step (Kd.slice 3 (Kd.int .i64)) (w0:=w0) (W:=w3) w0.heap.size (by rfl) (.tmp 21) (.tmp 26) 32 22 (.slice none 0 0) 24 rfl Tryz.underlying32 info22 rfl (by decide) (by omega) v0 L (b.take 20) [.slice A2 (b.take 20).length c2] (fun _ => True) (fun k_ => some k_ = (.slice A2 (b.take 20).length c2 : Value).ownBlock) rfl rfl ⟨_,rfl,Kd.R_tight rfl O2.out⟩ (fun k_ hk_ => ⟨trivial,(Kd.R_apart' O2.out (Kd.S_typed OS.out) (by decide)).1 k_ hk_.symm |>.2⟩) (fun _ _ => trivial) (zS OS.out (fun k_ hk_ => ⟨trivial,fun e_ => by have:=V2.out k_ e_.symm;have:=hk_.2;omega⟩)) HB.out HB.out.size (by have:=HZ.out;omega) ?_
  intro v3 w4 ho hb hg hat
  clear hat
  replace BG:=zA (blk_grown BG.out hg (Kd.S_ne OS.out BG.out (by decide)))
  replace KW:=zA (KW.out.trans (KT.grown hg (Kd.S_typed OS.out)))
  clear OS
  have OS:=zA ho
  replace HB:=zA hb
  obtain ⟨A3,c3,rfl⟩:=Kd.S_slice OS.out
  clear ho hb hg O2 V2
  refine hK.out _ _ ((zP BG.out 0).trans rfl) (fun hHeld => ?_)
  clear hK K
  refine norm_ (a':=?_) ?_ ?_
  rotate_left
  ·show Act.put _ (some 27) _ = _;simp only [Act.put,zO,zEb,zFb,i64_w,i32_w];rfl
  refine zu 10 28 ?_
  refine last_ (i:=11) (N:=none) #[yt,yt,yt,yt,yt,yt,yt,yt,yt,yt,yt,yt] rfl rfl (by kernel_rfl) (by decide) (fun K hK => ?_)
  have hxg : w4.cell? ⟨go,0,none⟩ = some v0:=(zP BG.out 0).trans rfl
  have hfg:=blk_frozen BG.out 0
  refine skip_ (w1:=w4.setCell ⟨go,0,none⟩ (.slice A3 (L ++ [b.take 20]).length c3)) (by rfl) rfl ?_ ?_
  ·go_simp;first|done|rfl
  clear hxg hfg
  have SF:=zA (show StV w0 go (L ++ [b.take 20]) (w4.setCell ⟨go,0,none⟩ (.slice A3 (L ++ [b.take 20]).length c3)) from ⟨⟨_,blk_put BG.out 0 _ rfl,Kd.S_set OS.out BG.out (by decide) 0 _⟩,zB HB.out GE.out,GE.out⟩)
  have KF:=zA (KW.out.setgo 0 (.slice A3 (L ++ [b.take 20]).length c3))
  generalize w4.setCell ⟨go,0,none⟩ (.slice A3 (L ++ [b.take 20]).length c3) = wz at SF KF ⊢
  refine hK.out _ _ ?_
  clear hK K hHeld
  refine done_ (by kernel_rfl) ?_
  go_wp2
  (try simp only [Exit.inBlock,Exit.then])
  refine bodyPost_ret (results_none rfl _ _ _) rfl ?_
  exact ⟨rfl,SF.out,KF.out⟩
 | succ n ih =>
  have IH:=zA ih
  clear ih
  intro i b vb L W hin hbl hvb hst hsz
  have GW:=zA hst.B.size
  have ST:=zA hst
  have VB:=zA hvb
  have LB:=zA hbl
  have HI:=zA hin
  have HZ:=zA hsz
  clear hst hbl hin hsz hvb
  have hil : i < body.length:=by have:=HI.out;omega
  obtain ⟨ab,A1,c1,eab,hb0,hb1,hbl1,hbi1⟩:=at_T81 RB.out (i : Int) (by omega) (by omega)
  rw [rd_TA] at hb0 hb1 hbl1 hbi1
  simp only [Int.toNat_natCast] at hb0 hb1
  subst eab
  obtain ⟨a,ha⟩ : ∃ a,body.getD i z81 = a:=⟨_,rfl⟩
  rw [ha] at hb0 hb1 hbl1 hbi1
  obtain ⟨a0,a1⟩:=a
  dsimp only at hb0 hb1 hbl1 hbi1
  obtain ⟨a,haa⟩ : ∃ a : S81,a = ⟨a0,a1⟩:=⟨_,rfl⟩
  rw [← haa] at ha
  have ham : a ∈ body:=by rw [← ha,List.getD_eq_getElem?_getD,List.getElem?_eq_getElem hil];exact List.getElem_mem _
  have hdr : body.drop i = a :: body.drop (i + 1):=by rw [List.drop_eq_getElem_cons hil,← ha,List.getD_eq_getElem?_getD,List.getElem?_eq_getElem hil];rfl
  have CA0:=zA hb0
  have CA1:=zA hb1
  have LA:=zA hbl1
  have RA:=zA hbi1
  have OA:=zA (show ∀ t ∈ a1,-80 ≤ t ∧ t ≤ 19 from by have h_:=HO.out a ham;rw [haa] at h_;exact h_)
  have SA:=zA (show a1.length ≤ 1048576 from by have h_:=HS.out a ham;rw [haa] at h_;exact h_)
  have HIL:=zA hil
  obtain ⟨G,hG⟩ : ∃ G : S64 → List (List Int),G = fun f => if (mMatch a f b).2 = true then mDfs d (body.drop (i + 1)) (mMatch a f b).1 else []:=⟨_,rfl⟩
  have hD : mDfs d (body.drop i) b = d.flatMap G:=by rw [hdr,hG];rfl
  have HGd:=zA hG
  have hz:=HZ.out
  rw [hD] at hz ⊢
  replace HZ:=zA hz
  have HAA:=zA haa
  clear haa hb0 hb1 hbl1 hbi1 ha ham hdr hG hil hz hD
  obtain ⟨Av,cv,rfl⟩:=Kd.R_slice VB.out
  go_enter Tryz.func75,Tryz.ntmps75
  go_wp2_with (first|((with_reducible refine gate_dst (N:=5) rfl ?_);refine hold ?_))
  unfold Hold
  refine box_event ?hg5 (N:=5) ?hd5 (cs:=#[.slice Ah hn ch,.slice (some ab) body.length cbd]) (t:=38) ?hr5 ?_
  case hd5 => rfl
  case hg5 => rfl
  case hr5 => first|(go_simp;done)|(go_simp;rfl)
  intro g5 hg w1 hbox hb
  have B5:=zA hbox
  have KW:=zA (KT.of_below (go:=go) hb)
  have N5:=zA (show g5 ≠ go from by obtain ⟨v_,h_,_⟩:=(ST.out.below hb).box;exact blk_ne hbox h_ (by decide))
  replace VB:=zA (zZ VB.out hb)
  replace ST:=zA (ST.out.below hb)
  clear hbox hb hg
  have hx1:=zc (.slice (some ab) body.length cbd) B5 1 rfl
  have e1 : ((i : Int) == (body.length : Int)) = false:=by have:=HI.out;have:=HIL.out;simp;omega
  go_wp2
  go_loopg [10] d.length (fun kq v10 w' => ∃ (x : Nat),v10 = .int .i64 (x : Int) ∧ Aside0 (kq + x = d.length) ∧ Aside0 (StV w0 go (L ++ ((d.take x).flatMap G).map (fun r => r.take 20)) w') ∧ Aside0 (KT go W w') ∧ Aside0 (w'.heap[g5]? = some (.cells #[.slice Ah hn ch,.slice (some ab) body.length cbd] 38 (0,0))) ∧ Aside0 (Kd.R (Kd.int .i64) 3 w' w0.heap.size (fun _ => True) (.slice Av b.length cv) b))
  case atStart => exact ⟨0,rfl,⟨rfl⟩,⟨by simpa using ST.out⟩,KW,B5,VB⟩
  case round =>
   clear ST KW B5 VB hx1
   obtain ⟨x,rfl,HG,ST,KW,B5,VB⟩:=hrel
   by_cases c6 : (x : Int) < (d.length : Int)
   rotate_left
   ·have c6b:=decide_eq_false c6
    have hx : x = d.length:=by have:=HG.out;omega
    subst hx
    have SF:=zA (show StV w0 go (L ++ (d.flatMap G).map (fun r => r.take 20)) wr by have h_:=ST.out;rw [List.take_length] at h_;exact h_)
    clear ST
    go_wp2
    go_end0
    exact ⟨rfl,SF.out,KW.out⟩
   have c6b:=decide_eq_true c6
   have hxl : x < d.length:=by omega
   obtain ⟨ad,A2,c2,ead,hd0,hd1,hdl1,hdi1⟩:=at_T64 RD.out (x : Int) (by omega) (by omega)
   rw [rd_TF] at hd0 hd1 hdl1 hdi1
   simp only [Int.toNat_natCast] at hd0 hd1
   subst ead
   have hfs:=flat_succ G d x hxl
   obtain ⟨f,hf⟩ : ∃ f,d.getD x z64 = f:=⟨_,rfl⟩
   rw [hf] at hd0 hd1 hdl1 hdi1 hfs
   obtain ⟨f0,f1⟩:=f
   dsimp only at hd0 hd1 hdl1 hdi1
   have FS:=zA hfs
   have FT:=zA (flat_take G d (x + 1))
   have LF:=zA hdl1
   have RF:=zA hdi1
   have XL:=zA hxl
   have CF0:=zA hd0
   have CF1:=zA hd1
   clear hd0 hd1 hdl1 hdi1 hfs hf hxl
   have GM0:=zA (show G ⟨f0,f1⟩ = if (mMatch (⟨a0,a1⟩ : S81) ⟨f0,f1⟩ b).2 = true then mDfs d (body.drop (i + 1)) (mMatch (⟨a0,a1⟩ : S81) ⟨f0,f1⟩ b).1 else [] by rw [HGd.out];show (if (mMatch a ⟨f0,f1⟩ b).2 = true then _ else _) = _;rw [HAA.out])
   try go_wp2
   have n_:=zA (ST.out.below (below_drew (Below.refl _ _)))
   replace ST:=n_
   clear n_
   have n_:=zA (KW.out.trans (KT.of_below (go:=go) (below_drew (w:=wr) (Below.refl _ _))))
   replace KW:=n_
   clear n_
   have n_:=zA (zI B5.out)
   replace B5:=n_
   clear n_
   have n_:=zA (zH VB.out)
   replace VB:=n_
   clear n_
   by_cases g0 : f0 = a0
   rotate_left
   ·have g0b : (f0 != a0) = true:=by simpa using g0
    have GN:=zA (show G ⟨f0,f1⟩ = [] by rw [GM0.out,mMatch_no (fun h => g0 h.1.symm)];simp)
    refine start_ (n:=28) (S:=fun w' => w'.cell? ⟨g5,1,none⟩ = some (.slice (some ab) body.length cbd) ∧ w'.cell? (ab.add (i * 2)) = some (.int .i64 a0) ∧ w'.cell? ⟨(ab.add (i * 2)).block,(ab.add (i * 2)).off + 1,none⟩ = some (.slice A1 a1.length c1) ∧ w'.cell? (ad.add (x * 2)) = some (.int .i64 f0) ∧ w'.cell? ⟨(ad.add (x * 2)).block,(ad.add (x * 2)).off + 1,none⟩ = some (.slice A2 f1.length c2)) (ds:=[]) #[yf,yf,yf,yf,yf,yf,yf,yf,yf,yf,yf,yf,yf,yf,yf,yf,yf,yf,yf,yf,yf,yf,yf,yf,yf,yf,yf,yf] (by kernel_rfl) rfl rfl ⟨(zP B5.out 1).trans rfl,(ST.out.B.cell (World.block_lt_of_cell? w0 _ CA0.out)).trans CA0.out,(ST.out.B.cell (World.block_lt_of_cell? w0 _ CA1.out)).trans CA1.out,(ST.out.B.cell (World.block_lt_of_cell? w0 _ CF0.out)).trans CF0.out,(ST.out.B.cell (World.block_lt_of_cell? w0 _ CF1.out)).trans CF1.out⟩ (fun hHeld => ?_)
    generalize wr.drew = wd at ST KW B5 VB hHeld ⊢
    have p6:=eq_true HIL.out
    have p7 : ((i : Int) < (body.length : Int)) = True:=eq_true (by have:=HIL.out;omega)
    have p8:=eq_true (Int.natCast_nonneg i)
    have q6:=eq_true XL.out
    have q7:=eq_true c6
    have q8:=eq_true (Int.natCast_nonneg x)
    refine zu 0 35 ?_;refine zu 1 36 ?_;refine zu 2 37 ?_;refine zu 3 38 ?_;refine zw 4 39 hHeld ?_;refine zu 5 40 ?_;refine zw 6 41 hHeld ?_;refine zu 7 42 ?_;refine zu 8 43 ?_;refine zu 9 44 ?_;refine zw 10 45 hHeld ?_;refine zu 11 46 ?_;refine zu 12 47 ?_;refine zo 13 48 ?_;refine zo 14 49 ?_;refine zo 15 50 ?_;refine zo 16 51 ?_;refine zo 17 52 ?_;refine zo 18 53 ?_;refine zo 19 54 ?_;refine zo 20 55 ?_;refine zo 21 56 ?_;refine zo 22 57 ?_;refine zo 23 58 ?_;refine zo 24 59 ?_;refine zo 25 60 ?_;refine zo 26 61 ?_;refine zu 27 62 ?_
    refine done_ (by kernel_rfl) ?_
    clear hHeld p6 p7 p8 q6 q7 q8
    have SF:=zA (show StV w0 go (L ++ ((d.take (x + 1)).flatMap G).map (fun r => r.take 20)) wd by rw [FS.out,GN.out,List.append_nil];exact ST.out)
    clear ST
    go_wp2
    go_roundg (gk - 1)
    case measure => have:=HG.out;have:=XL.out;omega
    case rel => exact ⟨x + 1,congrArg (Value.int .i64) (by have:=HBL.out;have:=XL.out;first|omega|(unfold wrap64;omega)),⟨by have:=HG.out;have:=XL.out;omega⟩,SF,KW,B5,VB⟩
   have g0b : (f0 != a0) = false:=by simpa using g0
   by_cases g1 : f1.length = a1.length
   rotate_left
   ·have g1b : ((f1.length : Int) != (a1.length : Int)) = true:=by simp;omega
    have GN:=zA (show G ⟨f0,f1⟩ = [] by rw [GM0.out,mMatch_no (fun h => g1 h.2.symm)];simp)
    refine start_ (n:=28) (S:=fun w' => w'.cell? ⟨g5,1,none⟩ = some (.slice (some ab) body.length cbd) ∧ w'.cell? (ab.add (i * 2)) = some (.int .i64 a0) ∧ w'.cell? ⟨(ab.add (i * 2)).block,(ab.add (i * 2)).off + 1,none⟩ = some (.slice A1 a1.length c1) ∧ w'.cell? (ad.add (x * 2)) = some (.int .i64 f0) ∧ w'.cell? ⟨(ad.add (x * 2)).block,(ad.add (x * 2)).off + 1,none⟩ = some (.slice A2 f1.length c2)) (ds:=[]) #[yf,yf,yf,yf,yf,yf,yf,yf,yf,yf,yf,yf,yf,yf,yf,yf,yf,yf,yf,yf,yf,yf,yf,yf,yf,yf,yf,yf] (by kernel_rfl) rfl rfl ⟨(zP B5.out 1).trans rfl,(ST.out.B.cell (World.block_lt_of_cell? w0 _ CA0.out)).trans CA0.out,(ST.out.B.cell (World.block_lt_of_cell? w0 _ CA1.out)).trans CA1.out,(ST.out.B.cell (World.block_lt_of_cell? w0 _ CF0.out)).trans CF0.out,(ST.out.B.cell (World.block_lt_of_cell? w0 _ CF1.out)).trans CF1.out⟩ (fun hHeld => ?_)
    generalize wr.drew = wd at ST KW B5 VB hHeld ⊢
    have p6:=eq_true HIL.out
    have p7 : ((i : Int) < (body.length : Int)) = True:=eq_true (by have:=HIL.out;omega)
    have p8:=eq_true (Int.natCast_nonneg i)
    have q6:=eq_true XL.out
    have q7:=eq_true c6
    have q8:=eq_true (Int.natCast_nonneg x)
    refine zu 0 35 ?_;refine zu 1 36 ?_;refine zu 2 37 ?_;refine zu 3 38 ?_;refine zw 4 39 hHeld ?_;refine zu 5 40 ?_;refine zw 6 41 hHeld ?_;refine zu 7 42 ?_;refine zu 8 43 ?_;refine zu 9 44 ?_;refine zw 10 45 hHeld ?_;refine zu 11 46 ?_;refine zu 12 47 ?_;refine zu 13 48 ?_;refine zu 14 49 ?_;refine zu 15 50 ?_;refine zu 16 51 ?_;refine zw 17 52 hHeld ?_;refine zu 18 53 ?_;refine zu 19 54 ?_;refine zw 20 55 hHeld ?_;refine zu 21 56 ?_;refine zu 22 57 ?_;refine zu 23 58 ?_;refine zw 24 59 hHeld ?_;refine zu 25 60 ?_;refine zu 26 61 ?_;refine zu 27 62 ?_
    refine done_ (by kernel_rfl) ?_
    clear hHeld p6 p7 p8 q6 q7 q8
    have SF:=zA (show StV w0 go (L ++ ((d.take (x + 1)).flatMap G).map (fun r => r.take 20)) wd by rw [FS.out,GN.out,List.append_nil];exact ST.out)
    clear ST
    go_wp2
    go_roundg (gk - 1)
    case measure => have:=HG.out;have:=XL.out;omega
    case rel => exact ⟨x + 1,congrArg (Value.int .i64) (by have:=HBL.out;have:=XL.out;first|omega|(unfold wrap64;omega)),⟨by have:=HG.out;have:=XL.out;omega⟩,SF,KW,B5,VB⟩
   have g1b : ((f1.length : Int) != (a1.length : Int)) = false:=by simp;omega
   obtain ⟨kb,hkb⟩:=(l6Bind_ev a1 f1 b SA.out g1.symm LB.out (fun t ht => ⟨by have:=OA.out t ht;omega,by have:=OA.out t ht;omega⟩)).rounds
   have KB:=zA hkb
   clear hkb
   have GM:=zA (show G ⟨f0,f1⟩ = if (mBind a1 f1 b).2 = true then mDfs d (body.drop (i + 1)) (mBind a1 f1 b).1 else [] by rw [GM0.out,mMatch_yes ⟨g0.symm,g1.symm⟩])
   have ML:=zA (show (mBind a1 f1 b).1.length = 40 by rw [mBind_len];exact LB.out)
   obtain ⟨M,hM⟩ : ∃ M,mBind a1 f1 b = M:=⟨_,rfl⟩
   rw [hM] at KB GM ML
   clear hM GM0
   obtain ⟨m,mb⟩:=M
   dsimp only at GM ML
   clear g0 g1
   refine start_ (n:=28) (S:=fun w' => w'.cell? ⟨g5,1,none⟩ = some (.slice (some ab) body.length cbd) ∧ w'.cell? (ab.add (i * 2)) = some (.int .i64 a0) ∧ w'.cell? ⟨(ab.add (i * 2)).block,(ab.add (i * 2)).off + 1,none⟩ = some (.slice A1 a1.length c1) ∧ w'.cell? (ad.add (x * 2)) = some (.int .i64 f0) ∧ w'.cell? ⟨(ad.add (x * 2)).block,(ad.add (x * 2)).off + 1,none⟩ = some (.slice A2 f1.length c2)) (ds:=[]) #[yf,yf,yf,yf,yf,yf,yf,yf,yf,yf,yf,yf,yf,yf,yf,yf,yf,yf,yf,yf,yf,yf,yf,yf,yf,yf,yf,yf] (by kernel_rfl) rfl rfl ⟨(zP B5.out 1).trans rfl,(ST.out.B.cell (World.block_lt_of_cell? w0 _ CA0.out)).trans CA0.out,(ST.out.B.cell (World.block_lt_of_cell? w0 _ CA1.out)).trans CA1.out,(ST.out.B.cell (World.block_lt_of_cell? w0 _ CF0.out)).trans CF0.out,(ST.out.B.cell (World.block_lt_of_cell? w0 _ CF1.out)).trans CF1.out⟩ (fun hHeld => ?_)
   generalize wr.drew = wd at ST KW B5 VB hHeld ⊢
   have p6:=eq_true HIL.out
   have p7 : ((i : Int) < (body.length : Int)) = True:=eq_true (by have:=HIL.out;omega)
   have p8:=eq_true (Int.natCast_nonneg i)
   have q6:=eq_true XL.out
   have q7:=eq_true c6
   have q8:=eq_true (Int.natCast_nonneg x)
   refine zu 0 35 ?_;refine zu 1 36 ?_;refine zu 2 37 ?_;refine zu 3 38 ?_;refine zw 4 39 hHeld ?_;refine zu 5 40 ?_;refine zw 6 41 hHeld ?_;refine zu 7 42 ?_;refine zu 8 43 ?_;refine zu 9 44 ?_;refine zw 10 45 hHeld ?_;refine zu 11 46 ?_;refine zu 12 47 ?_;refine zu 13 48 ?_;refine zu 14 49 ?_;refine zu 15 50 ?_;refine zu 16 51 ?_;refine zw 17 52 hHeld ?_;refine zu 18 53 ?_;refine zu 19 54 ?_;refine zw 20 55 hHeld ?_;refine zu 21 56 ?_;refine zu 22 57 ?_;refine zu 23 58 ?_;refine zw 24 59 hHeld ?_;refine zu 25 60 ?_;refine zu 26 61 ?_;refine zu 27 62 ?_
   refine done_ (by kernel_rfl) ?_
   clear hHeld p6 p7 p8 q6 q7 q8
   try go_wp2
   have n_:=zA (ST.out.below (below_drew (Below.refl _ _)))
   replace ST:=n_
   clear n_
   have n_:=zA (KW.out.trans (KT.of_below (go:=go) (below_drew (w:=wd) (Below.refl _ _))))
   replace KW:=n_
   clear n_
   have n_:=zA (zI B5.out)
   replace B5:=n_
   clear n_
   have n_:=zA (zH VB.out)
   replace VB:=n_
   clear n_
   refine start_ (n:=18) (S:=fun w' => w'.cell? ⟨g5,1,none⟩ = some (.slice (some ab) body.length cbd) ∧ w'.cell? (ab.add (i * 2)) = some (.int .i64 a0) ∧ w'.cell? ⟨(ab.add (i * 2)).block,(ab.add (i * 2)).off + 1,none⟩ = some (.slice A1 a1.length c1) ∧ w'.cell? (ad.add (x * 2)) = some (.int .i64 f0) ∧ w'.cell? ⟨(ad.add (x * 2)).block,(ad.add (x * 2)).off + 1,none⟩ = some (.slice A2 f1.length c2)) (ds:=[]) #[yf,yf,yf,yf,yf,yf,yf,yf,yf,yf,yf,yf,yf,yf,yf,yf,yf,yf] (by kernel_rfl) rfl rfl ⟨(zP B5.out 1).trans rfl,(ST.out.B.cell (World.block_lt_of_cell? w0 _ CA0.out)).trans CA0.out,(ST.out.B.cell (World.block_lt_of_cell? w0 _ CA1.out)).trans CA1.out,(ST.out.B.cell (World.block_lt_of_cell? w0 _ CF0.out)).trans CF0.out,(ST.out.B.cell (World.block_lt_of_cell? w0 _ CF1.out)).trans CF1.out⟩ (fun hHeld => ?_)
   generalize wd.drew = we at ST KW B5 VB hHeld ⊢
   have p6:=eq_true HIL.out
   have p7 : ((i : Int) < (body.length : Int)) = True:=eq_true (by have:=HIL.out;omega)
   have p8:=eq_true (Int.natCast_nonneg i)
   have q6:=eq_true XL.out
   have q7:=eq_true c6
   have q8:=eq_true (Int.natCast_nonneg x)
   refine zu 0 64 ?_;refine zw 1 65 hHeld ?_;refine zu 2 66 ?_;refine zu 3 67 ?_;refine zu 4 68 ?_;refine zw 5 69 hHeld ?_;refine zu 6 70 ?_;refine zu 7 71 ?_;refine zu 8 72 ?_;refine zu 9 73 ?_;refine zw 10 74 hHeld ?_;refine zu 11 75 ?_
   refine one_ (i:=12) (N:=some 76) #[yt,yt,yt,yt,yt,yt,yt,yt,yt,yt,yt,yt,yt,yf,yf,yf,yf,yf] rfl rfl (by kernel_rfl) (by decide) (fun K hK => ?_)
   refine goes_ Tryz.func93 (by kernel_rfl) rfl #[.slice A1 a1.length c1,.slice A2 f1.length c2,.slice Av b.length cv] (by rfl) rfl rfl (by (try simp only [zCb,zMb,zNb]);first|done|rfl) ?_
   with_reducible refine (spec_l6Bind.calls kb A1 c1 a1 A2 c2 f1 Av cv b m mb _ (zKb RA.out ST.out.B) LA.out (zKb RF.out ST.out.B) LF.out (Kd.R_reads' VB.out).2.2 (Kd.R_reads' VB.out).2.1 KB.out).mono ?_
   rintro e wf ⟨vm,rfl,hom,hb⟩
   refine ⟨_,rfl,?_⟩
   have OM:=zA (zHb hom ST.out.B.size)
   replace ST:=zA (ST.out.below hb)
   replace KW:=zA (KW.out.trans (KT.of_below hb))
   replace B5:=zA (zQ B5.out hb)
   replace VB:=zA (zZ VB.out hb)
   clear hom hb
   refine hK.out _ _ ⟨(zP B5.out 1).trans rfl,(ST.out.B.cell (World.block_lt_of_cell? w0 _ CA0.out)).trans CA0.out,(ST.out.B.cell (World.block_lt_of_cell? w0 _ CA1.out)).trans CA1.out,(ST.out.B.cell (World.block_lt_of_cell? w0 _ CF0.out)).trans CF0.out,(ST.out.B.cell (World.block_lt_of_cell? w0 _ CF1.out)).trans CF1.out⟩ (fun hHeld => ?_)
   clear hK K
   refine norm_ (a':=?_) ?_ ?_
   rotate_left
   ·show Act.put _ (some 76) _ = _;simp only [Act.put,zO,zEb,zFb,i64_w,i32_w];rfl
   refine zu 13 63 ?_;refine zu 14 77 ?_;refine zu 15 78 ?_;refine zu 16 11 ?_;refine zu 17 12 ?_
   refine done_ (by kernel_rfl) ?_
   clear hHeld p6 p7 p8 q6 q7 q8
   cases mb
   ·have GN:=zA (show G ⟨f0,f1⟩ = [] by rw [GM.out,if_neg (by simp)])
    have SF:=zA (show StV w0 go (L ++ ((d.take (x + 1)).flatMap G).map (fun r => r.take 20)) wf by rw [FS.out,GN.out,List.append_nil];exact ST.out)
    clear ST
    go_wp2
    go_roundg (gk - 1)
    case measure => have:=HG.out;have:=XL.out;omega
    case rel => exact ⟨x + 1,congrArg (Value.int .i64) (by have:=HBL.out;have:=XL.out;first|omega|(unfold wrap64;omega)),⟨by have:=HG.out;have:=XL.out;omega⟩,SF,KW,B5,VB⟩
   have GM2:=zA (show G ⟨f0,f1⟩ = mDfs d (body.drop (i + 1)) m by rw [GM.out,if_pos rfl])
   clear GM
   have ZL:=zA (show (L ++ ((d.take x).flatMap G).map (fun r => r.take 20)).length + (mDfs d (body.drop (i + 1)) m).length ≤ 1000000 by have h1:=HZ.out;have h2:=FT.out;rw [FS.out,List.length_append,GM2.out] at h2;rw [List.length_append,List.length_map];omega)
   have hx0:=zc (.slice Ah hn ch) B5 0 rfl
   have hx1:=zc (.slice (some ab) body.length cbd) B5 1 rfl
   have e2 : wrap64 ((i : Int) + 1) = ((i + 1 : Nat) : Int):=by have:=HBL.out;have:=HIL.out;unfold wrap64;omega
   have E2:=zA e2
   clear e2
   have N5':=N5.out
   go_wp2_with (first|(go_at_call 75;refine hold ?_))
   unfold Hold
   refine calls_of_args (args':=#[.agg #[.slice Ah hn ch,.slice (some ab) body.length cbd],.slice (some ad) d.length cd,.int .i64 ((i + 1 : Nat) : Int),vm,.pointer (some ⟨go,0,none⟩)]) (by have h_:=E2.out;first|rfl|(simp only [h_];done)|(simp;omega)) ?_
   refine (IH.out (i + 1) m _ _ _ (by have:=HI.out;omega) ML.out OM.out ST.out ZL.out).mono ?_
   rintro e wv ⟨rfl,hs,hk⟩
   have SF:=zA (show StV w0 go (L ++ ((d.take (x + 1)).flatMap G).map (fun r => r.take 20)) wv by rw [FS.out,GM2.out,List.map_append,← List.append_assoc];exact hs)
   replace B5:=zA (hk.blk B5.out N5' (by decide))
   replace VB:=zA (R_KT VB.out hk ST.out)
   replace KW:=zA (KW.out.trans hk)
   clear hs hk ST hx0 hx1
   go_wp2
   go_roundg (gk - 1)
   case measure => have:=HG.out;have:=XL.out;omega
   case rel => exact ⟨x + 1,congrArg (Value.int .i64) (by have:=HBL.out;have:=XL.out;first|omega|(unfold wrap64;omega)),⟨by have:=HG.out;have:=XL.out;omega⟩,SF,KW,B5,VB⟩

theorem newN {α : Type} {d : Kd α} {e B : Nat} {W w1 : World} {v : Value} {xs : List α} (h : Kd.N d e w1 W.heap.size (fun k_ => (W.heap.size ≤ k_)) v xs) (hB : B ≤ W.heap.size) : Kd.N d e w1 B (fun k => (W.heap.size ≤ k ∧ k < w1.heap.size) ∧ True) v xs :=
 Kd.N_lower (Kd.N_mono (Kd.N_bound h) (fun _ hk => ⟨hk,trivial⟩)) hB
set_option maxHeartbeats 8000000 in
set_option maxRecDepth 100000 in
theorem spec_l6Raw_calls (A0_0 : Option Addr) (c0_0 : Nat) (l0_0 : List Int) (A0_1 : Option Addr) (c0_1 : Nat) (l0_1 : List (S81)) (A1 : Option Addr) (c1 : Nat) (l1 : List (S64)) (w : World) (hr0_1 : Kd.C k81 w A0_1 l0_1.length l0_1) (hc0_1 : l0_1.length ≤ c0_1) (hr1 : Kd.C k64 w A1 l1.length l1) (hc1 : l1.length ≤ c1) (ho : ∀ a ∈ l0_1, ∀ t ∈ a.f1, -80 ≤ t ∧ t ≤ 19) (hz0 : (l0_1.length ≤ 1048576 ∧ l1.length ≤ 1048576) ∧ ∀ x ∈ l0_1, x.f1.length ≤ 1048576) (hsm : (mDfs l1 l0_1 mEmpty).length ≤ 331776) :
  Calls Tryz.prog 54 #[.agg #[.slice A0_0 l0_0.length c0_0, .slice A0_1 l0_1.length c0_1], .slice A1 l1.length c1] w fun e w' => ∃ v0_ : Value, e = .returned (v0_) ∧ Kd.N (Kd.slice 3 (Kd.int .i64)) 22 w' w.heap.size (fun k_ => (w.heap.size ≤ k_)) v0_ (mSort true (mBinds l1 l0_1)) ∧ Below w.heap.size w w' := by
 obtain ⟨k1,hk1⟩:=l6Empty_ev.rounds
 obtain ⟨k2,hk2⟩:=(l6Sort_ev (mBinds l1 l0_1) true (by rw [mBinds_len];omega) (fun x hx => by rw [mBinds_mem hx];decide)).rounds
 have huQ:=Tryz.underlying38
 have K1:=zA hk1
 have K2:=zA hk2
 have R2:=zA hr0_1
 have R3:=zA hr1
 have HC:=zA (show l0_1.length ≤ c0_1 ∧ l1.length ≤ c1 from ⟨hc0_1,hc1⟩)
 have HZ:=zA hz0
 have HO:=zA ho
 have SM:=zA hsm
 have HB:=zA (Below.refl w.heap.size w)
 clear hk1 hk2 hr0_1 hr1 hc0_1 hc1 hz0 ho hsm
 go_enter Tryz.func54,Tryz.ntmps54
 go_wp2_with (first|((with_reducible refine gate_dst (N:=2) rfl ?_);refine hold ?_))
 unfold Hold
 refine box_event ?hg1 (N:=2) ?hd1 (cs:=#[.slice A0_0 l0_0.length c0_0,.slice A0_1 l0_1.length c0_1]) (t:=38) ?hr1 ?_
 case hd1 => rfl
 case hg1 => rfl
 case hr1 => first|(go_simp;done)|(go_simp;rfl)
 intro g1 hg w2 hbox hb
 have Bg1:=zA hbox
 replace HB:=zA (zJb HB.out hb)
 clear hbox hb hg
 go_wp2_with (first|((with_reducible refine gate_dst (N:=6) rfl ?_);refine hold ?_))
 unfold Hold
 refine Kd.S_lit (Kd.slice 3 (Kd.int .i64)) _ 22 ?hg2 (N:=6) ?hd2 (xs:=([] : List (List Int))) (inner:=[]) (ok:=fun _ => True) (okp:=fun _ => True) ?hr2 ?hp2 (fun _ hk => hk) trivial (Below.refl _ _) (Nat.le_refl _) (by simp) ?_
 case hd2 => rfl
 case hg2 => rfl
 case hr2 => first|(go_simp;done)|(go_simp;rfl)
 case hp2 => exact (Reps.none _ _)
 intro v8 w3 ho hb hg_ hnew_
 have O:=zA (zIb ho HB.out.size)
 replace Bg1:=zA (zQ Bg1.out hb)
 replace HB:=zA (zJb HB.out hb)
 clear ho hb hg_ hnew_
 go_wp2_with (first|((with_reducible refine gate_dst (N:=5) rfl ?_);refine hold ?_))
 unfold Hold
 refine box_event ?hg3 (N:=5) ?hd3 (cs:=#[.slice none 0 0]) (t:=32) ?hr3 ?_
 case hd3 => rfl
 case hg3 => rfl
 case hr3 => first|(go_simp;done)|(go_simp;rfl)
 intro go hg w4 hbox hb
 have Bgo:=zA hbox
 have GO:=zA (show w.heap.size ≤ go from by rw [hg];exact HB.out.size)
 have NE:=zA (show g1 ≠ go from by rw [hg];have:=blk_lt Bg1.out;omega)
 replace O:=zA (zY O.out hb)
 replace Bg1:=zA (zQ Bg1.out hb)
 replace HB:=zA (zJb HB.out hb)
 clear hbox hb hg
 obtain ⟨A8,c8,rfl⟩:=Kd.S_slice O.out
 have hy0:=zc (.slice none 0 0) Bgo 0 rfl
 have hf0:=blk_frozen Bgo.out 0
 go_wp2_with (first|((with_reducible refine gate_store (t:=32) (p:=5) rfl ?_);refine hold ?_))
 unfold Hold
 refine store_event (t:=32) (p:=5) (v:=?vo1) (w1:=w4.setCell ⟨go,0,none⟩ (.slice A8 0 c8)) ?hgs1 ?hos1 ?hns1 ?hrs1 ?_
 case hos1 => rfl
 case hgs1 => rfl
 case hns1 => rfl
 case hrs1 => first|(go_simp;done)|(go_simp;rfl)
 intro w5 hw
 have ST:=zA (show StV w go [] w5 from by rw [hw];exact ⟨⟨_,blk_put Bgo.out 0 _ rfl,Kd.S_set O.out Bgo.out (by decide) 0 _⟩,zB HB.out GO.out,GO.out⟩)
 replace Bg1:=zA (show w5.heap[g1]? = some (.cells #[.slice A0_0 l0_0.length c0_0,.slice A0_1 l0_1.length c0_1] 38 (0,0)) from by rw [hw];exact zUb Bg1.out (p:=⟨go,0,none⟩) NE.out _)
 clear hw hy0 hf0 HB O Bgo NE
 try go_wp2
 have n_:=zA (ST.out.below (below_drew (w:=w5) (Below.refl _ _)))
 replace ST:=n_
 clear n_
 have n_:=zA (zI Bg1.out)
 replace Bg1:=n_
 clear n_
 refine start_ (n:=4) (S:=fun w' => w'.cell? ⟨g1,0,none⟩ = some (.slice A0_0 l0_0.length c0_0) ∧ w'.cell? ⟨g1,1,none⟩ = some (.slice A0_1 l0_1.length c0_1)) (ds:=[3]) #[yf,yf,yf,yf] (by kernel_rfl) rfl rfl ⟨(zP Bg1.out 0).trans rfl,(zP Bg1.out 1).trans rfl⟩ (fun hHeld => ?_)
 generalize w5.drew = wd at ST Bg1 hHeld ⊢
 refine zw 0 7 hHeld ?_;refine zu 1 8 ?_
 refine one_ (i:=2) (N:=some 9) #[yt,yt,yt,yf] rfl rfl (by kernel_rfl) (by decide) (fun K hK => ?_)
 refine goes_ Tryz.func76 (by kernel_rfl) rfl #[] (by rfl) rfl rfl (by (try simp only [zCb,zMb,zNb]);first|done|rfl) ?_
 with_reducible refine (spec_l6Empty.calls k1 mEmpty _ K1.out).mono ?_
 rintro e wf ⟨vm,rfl,hom,hb⟩
 refine ⟨_,rfl,?_⟩
 have OM:=zA (zHb hom ST.out.B.size)
 replace ST:=zA (ST.out.below hb)
 replace Bg1:=zA (zQ Bg1.out hb)
 clear hom hb
 refine hK.out _ _ ⟨(zP Bg1.out 0).trans rfl,(zP Bg1.out 1).trans rfl⟩ (fun hHeld => ?_)
 clear hK K
 refine norm_ (a':=?_) ?_ ?_
 rotate_left
 ·show Act.put _ (some 9) _ = _;simp only [Act.put,zO,zEb,zFb,i64_w,i32_w];rfl
 refine last_ (i:=3) (N:=some 10) #[yt,yt,yt,yt] rfl rfl (by kernel_rfl) (by decide) (fun K hK => ?_)
 refine goes_ Tryz.func75 (by kernel_rfl) rfl #[.agg #[.slice A0_0 l0_0.length c0_0,.slice A0_1 l0_1.length c0_1],.slice A1 l1.length c1,.int .i64 0,vm,.pointer (some ⟨go,0,none⟩)] (by rfl) rfl rfl (by (try simp only [zCb,zMb,zNb]);first|done|rfl) ?_
 refine (l6Search_walk w go A0_0 c0_0 l0_0.length A0_1 c0_1 l0_1 A1 c1 l1 R2.out HC.out.1 R3.out HC.out.2 HO.out HZ.out.1.1 HZ.out.1.2 HZ.out.2 l0_1.length 0 mEmpty vm [] _ (by omega) rfl OM.out ST.out (by have:=SM.out;simpa using Nat.le_trans this (by decide))).mono ?_
 rintro e wz ⟨rfl,hst,-⟩
 refine ⟨_,rfl,?_⟩
 have EM:=zA (show ([] : List (List Int)) ++ (mDfs l1 (l0_1.drop 0) mEmpty).map (fun r => r.take 20) = mBinds l1 l0_1 from by rw [List.nil_append,List.drop_zero];rfl)
 rw [EM.out] at hst
 have SZ:=zA hst
 clear hst ST Bg1 EM OM
 refine hK.out _ _ ?_
 clear hK K hHeld
 refine done_ (by kernel_rfl) ?_
 obtain ⟨vo,hvo,hso⟩:=SZ.out.box
 have HVO:=zA hvo
 have HSO:=zA hso
 have HB:=zA SZ.out.B
 clear hvo hso SZ
 obtain ⟨Ao,co,rfl⟩:=Kd.S_slice HSO.out
 have hxg : wz.cell? ⟨go,0,none⟩ = some (.slice Ao (mBinds l1 l0_1).length co):=(zP HVO.out 0).trans rfl
 go_wp2_with (first|(go_at_call 30;refine hold ?_))
 unfold Hold
 refine (spec_l6Sort.calls k2 _ _ (mBinds l1 l0_1) true _ _ (Kd.S_reads' HSO.out).2.2 (Kd.S_reads' HSO.out).2.1 K2.out).mono ?_
 rintro e w9 ⟨v9,rfl,ho9,hb⟩
 have O9:=zA (Kd.N_mono (Kd.N_lower ho9 HB.out.size) (fun k_ hk_ => Nat.le_trans HB.out.size hk_))
 replace HB:=zA (zJb HB.out hb)
 clear ho9 hb
 go_wp2
 go_ret
 exact ⟨_,rfl,O9.out,HB.out⟩
set_option maxHeartbeats 8000000 in
set_option maxRecDepth 100000 in
theorem spec_Bindings_calls (A0_0 : Option Addr) (c0_0 : Nat) (l0_0 : List Int) (A1_0 : Option Addr) (c1_0 : Nat) (l1_0 : List Int) (A1_1 : Option Addr) (c1_1 : Nat) (l1_1 : List (S81)) (A2 : Option Addr) (c2 : Nat) (l2 : List (S64)) (r1 : List (List Int)) (w : World) (hr0_0 : Kd.C (Kd.int .i64) w A0_0 l0_0.length l0_0) (hc0_0 : l0_0.length ≤ c0_0) (hr1_0 : Kd.C (Kd.int .i64) w A1_0 l1_0.length l1_0) (hc1_0 : l1_0.length ≤ c1_0) (hr1_1 : Kd.C k81 w A1_1 l1_1.length l1_1) (hc1_1 : l1_1.length ≤ c1_1) (hr2 : Kd.C k64 w A2 l2.length l2) (hc2 : l2.length ≤ c2) (hz0 : (l0_0.length ≤ 1048576 ∧ l1_0.length ≤ 1048576 ∧ l1_1.length ≤ 1048576 ∧ l2.length ≤ 1048576) ∧ (∀ x ∈ l1_1, x.f1.length ≤ 1048576) ∧ ∀ x ∈ l2, x.f1.length ≤ 1048576) (h : mBindings l0_0 l1_0 l1_1 l2 = r1) :
  Calls Tryz.prog 32 #[.agg #[.slice A0_0 l0_0.length c0_0], .agg #[.slice A1_0 l1_0.length c1_0, .slice A1_1 l1_1.length c1_1], .slice A2 l2.length c2] w fun e w' => ∃ v0_ : Value, e = .returned (v0_) ∧ Kd.N (Kd.slice 3 (Kd.int .i64)) 22 w' w.heap.size (fun k_ => (w.heap.size ≤ k_)) v0_ r1 ∧ Below w.heap.size w w' := by
 obtain ⟨⟨z0,z1,z2,z3⟩,zs,zd⟩:=hz0
 obtain ⟨k1,hk1⟩:=(specIsQuery_ev l0_0 l1_0 l1_1 z0 z1 z2 zs).rounds
 obtain ⟨k2,hk2⟩:=(specIsDb_ev l0_0 l2 z0 z3 zd).rounds
 have huS:=Tryz.underlying34
 have huQ:=Tryz.underlying38
 have OQ:=zA (fun h_ : mIsQuery l0_0 l1_0 l1_1 = true => okB h_)
 have OD:=zA (fun (h_ : mIsQuery l0_0 l1_0 l1_1 = true) (h2_ : mIsDb l0_0 l2 = true) => dfs_small h_ h2_ mEmpty)
 unfold mBindings at h
 generalize mIsQuery l0_0 l1_0 l1_1 = b1 at hk1 h OQ OD
 generalize mIsDb l0_0 l2 = b2 at hk2 h OD
 have HN:=zA (fun h_ : (b1 && b2) = false => show r1 = [] by rw [← h,h_];rfl)
 have HY:=zA (fun h_ : (b1 && b2) = true => show r1 = mSort true (mBinds l2 l1_1) by rw [← h,h_];rfl)
 have K1:=zA hk1
 have K2:=zA hk2
 have R0:=zA hr0_0
 have R1:=zA hr1_0
 have R2:=zA hr1_1
 have R3:=zA hr2
 have HC:=zA (show l0_0.length ≤ c0_0 ∧ l1_0.length ≤ c1_0 ∧ l1_1.length ≤ c1_1 ∧ l2.length ≤ c2 from ⟨hc0_0,hc1_0,hc1_1,hc2⟩)
 have HZ:=zA (show (l1_1.length ≤ 1048576 ∧ l2.length ≤ 1048576) ∧ (∀ x ∈ l1_1,x.f1.length ≤ 1048576) from ⟨⟨z2,z3⟩,zs⟩)
 have HB:=zA (Below.refl w.heap.size w)
 clear hk1 hk2 hr0_0 hr1_0 hr1_1 hr2 hc0_0 hc1_0 hc1_1 hc2 z0 z1 z2 z3 zs zd h
 go_enter Tryz.func32,Tryz.ntmps32
 go_wp2_with (first|((with_reducible refine gate_dst (N:=3) rfl ?_);refine hold ?_))
 unfold Hold
 refine box_event ?hg0 (N:=3) ?hd0 (cs:=#[.slice A0_0 l0_0.length c0_0]) (t:=34) ?hr0 ?_
 case hd0 => rfl
 case hg0 => rfl
 case hr0 => first|(go_simp;done)|(go_simp;rfl)
 intro g0 hg w1 hbox hb
 have Bg0:=zA hbox
 replace HB:=zA (zJb HB.out hb)
 clear hbox hb hg
 go_wp2_with (first|((with_reducible refine gate_dst (N:=4) rfl ?_);refine hold ?_))
 unfold Hold
 refine box_event ?hg1 (N:=4) ?hd1 (cs:=#[.slice A1_0 l1_0.length c1_0,.slice A1_1 l1_1.length c1_1]) (t:=38) ?hr1 ?_
 case hd1 => rfl
 case hg1 => rfl
 case hr1 => first|(go_simp;done)|(go_simp;rfl)
 intro g1 hg w5 hbox hb
 have Bg1:=zA hbox
 replace Bg0:=zA (zQ Bg0.out hb)
 replace HB:=zA (zJb HB.out hb)
 clear hbox hb hg
 have hx0:=zc (.slice A0_0 l0_0.length c0_0) Bg0 0 rfl
 have hx1:=zc (.slice A1_0 l1_0.length c1_0) Bg1 0 rfl
 have hx2:=zc (.slice A1_1 l1_1.length c1_1) Bg1 1 rfl
 go_wp2_with (first|(go_at_call 52;refine hold ?_))
 unfold Hold
 refine (spec_IsQuery.calls k1 _ _ l0_0 _ _ l1_0 _ _ l1_1 b1 _ (zKb R0.out HB.out) HC.out.1 (zKb R1.out HB.out) HC.out.2.1 (zKb R2.out HB.out) HC.out.2.2.1 K1.out).mono ?_
 rintro e w6 ⟨rfl,hb⟩
 replace HB:=zA (zJb HB.out hb)
 replace Bg0:=zA (zQ Bg0.out hb)
 replace Bg1:=zA (zQ Bg1.out hb)
 clear hb hx0 hx1 hx2 K1
 cases b1
 ·have EN:=zA (HN.out (by rfl))
  clear HN HY OQ OD
  go_wp2_with (first|((with_reducible refine gate_dst (N:=17) rfl ?_);refine hold ?_))
  unfold Hold
  refine Kd.N_lit (Kd.slice 3 (Kd.int .i64)) _ 22 ?hg2 (N':=17) ?hd2 (xs:=([] : List (List Int))) (inner:=[]) (ok:=(fun k_ => (w.heap.size ≤ k_))) (okp:=(fun k_ => (w.heap.size ≤ k_))) ?hr2 ?hp2 (fun _ hk => hk) HB.out.size (Below.refl _ _) (Nat.le_refl _) (by simp) ?_
  case hd2 => rfl
  case hg2 => rfl
  case hr2 => first|(go_simp;done)|(go_simp;rfl)
  case hp2 => exact (Reps.none _ _)
  intro v8 w7 ho hb hg_ hnew_
  have O:=zA (Kd.N_lower ho HB.out.size)
  replace HB:=zA (zJb HB.out hb)
  clear ho hb hg_ hnew_
  go_wp2
  go_ret
  exact ⟨_,rfl,by rw [EN.out];exact O.out,HB.out⟩
 have hx0:=zc (.slice A0_0 l0_0.length c0_0) Bg0 0 rfl
 go_wp2_with (first|(go_at_call 53;refine hold ?_))
 unfold Hold
 refine (spec_IsDatabase.calls k2 _ _ l0_0 _ _ l2 b2 _ (zKb R0.out HB.out) HC.out.1 (zKb R3.out HB.out) HC.out.2.2.2 K2.out).mono ?_
 rintro e w7 ⟨rfl,hb⟩
 replace HB:=zA (zJb HB.out hb)
 replace Bg0:=zA (zQ Bg0.out hb)
 replace Bg1:=zA (zQ Bg1.out hb)
 clear hb hx0 K2
 cases b2
 ·have EN:=zA (HN.out (by rfl))
  clear HN HY OQ OD
  go_wp2_with (first|((with_reducible refine gate_dst (N:=17) rfl ?_);refine hold ?_))
  unfold Hold
  refine Kd.N_lit (Kd.slice 3 (Kd.int .i64)) _ 22 ?hg2 (N':=17) ?hd2 (xs:=([] : List (List Int))) (inner:=[]) (ok:=(fun k_ => (w.heap.size ≤ k_))) (okp:=(fun k_ => (w.heap.size ≤ k_))) ?hr2 ?hp2 (fun _ hk => hk) HB.out.size (Below.refl _ _) (Nat.le_refl _) (by simp) ?_
  case hd2 => rfl
  case hg2 => rfl
  case hr2 => first|(go_simp;done)|(go_simp;rfl)
  case hp2 => exact (Reps.none _ _)
  intro v8 w8 ho hb hg_ hnew_
  have O:=zA (Kd.N_lower ho HB.out.size)
  replace HB:=zA (zJb HB.out hb)
  clear ho hb hg_ hnew_
  go_wp2
  go_ret
  exact ⟨_,rfl,by rw [EN.out];exact O.out,HB.out⟩
 have EY:=zA (HY.out rfl)
 have OQ1:=zA (OQ.out trivial)
 have OD1:=zA (OD.out trivial rfl)
 clear HN HY OQ OD
 have hx1:=zc (.slice A1_0 l1_0.length c1_0) Bg1 0 rfl
 have hx2:=zc (.slice A1_1 l1_1.length c1_1) Bg1 1 rfl
 go_wp2_with (first|(go_at_call 54;refine hold ?_))
 unfold Hold
 refine (spec_l6Raw_calls A1_0 c1_0 l1_0 A1_1 c1_1 l1_1 A2 c2 l2 _ (zKb R2.out HB.out) HC.out.2.2.1 (zKb R3.out HB.out) HC.out.2.2.2 OQ1.out.1 HZ.out OD1.out).mono ?_
 rintro e w8 ⟨v8,rfl,ho,hb⟩
 have O:=zA (Kd.N_mono (Kd.N_lower ho HB.out.size) (fun k_ hk_ => Nat.le_trans HB.out.size hk_))
 replace HB:=zA (zJb HB.out hb)
 clear ho hb hx1 hx2
 go_wp2
 go_ret
 exact ⟨_,rfl,by rw [EY.out];exact O.out,HB.out⟩

set_option maxHeartbeats 8000000 in
set_option maxRecDepth 100000 in
theorem spec_Answers_calls (A0_0 : Option Addr) (c0_0 : Nat) (l0_0 : List Int) (A1_0 : Option Addr) (c1_0 : Nat) (l1_0 : List Int) (A1_1 : Option Addr) (c1_1 : Nat) (l1_1 : List (S81)) (A2 : Option Addr) (c2 : Nat) (l2 : List (S64)) (r1 : List (List Int)) (w : World) (hr0_0 : Kd.C (Kd.int .i64) w A0_0 l0_0.length l0_0) (hc0_0 : l0_0.length ≤ c0_0) (hr1_0 : Kd.C (Kd.int .i64) w A1_0 l1_0.length l1_0) (hc1_0 : l1_0.length ≤ c1_0) (hr1_1 : Kd.C k81 w A1_1 l1_1.length l1_1) (hc1_1 : l1_1.length ≤ c1_1) (hr2 : Kd.C k64 w A2 l2.length l2) (hc2 : l2.length ≤ c2) (hz0 : (l0_0.length ≤ 1048576 ∧ l1_0.length ≤ 1048576 ∧ l1_1.length ≤ 1048576 ∧ l2.length ≤ 1048576) ∧ (∀ x ∈ l1_1, x.f1.length ≤ 1048576) ∧ ∀ x ∈ l2, x.f1.length ≤ 1048576) (h : mAnswers l0_0 l1_0 l1_1 l2 = r1) :
  Calls Tryz.prog 8 #[.agg #[.slice A0_0 l0_0.length c0_0], .agg #[.slice A1_0 l1_0.length c1_0, .slice A1_1 l1_1.length c1_1], .slice A2 l2.length c2] w fun e w' => ∃ v0_ : Value, e = .returned (v0_) ∧ Kd.N (Kd.slice 3 (Kd.int .i64)) 22 w' w.heap.size (fun k_ => (w.heap.size ≤ k_)) v0_ r1 ∧ Below w.heap.size w w' := by
 obtain ⟨g0,g1⟩:=mBindings_small l0_0 l1_0 l1_1 l2
 obtain ⟨k1,hk1⟩:=(l6Heads_ev l1_0 l1_1 (mBindings l0_0 l1_0 l1_1 l2) hz0.1.2.1 (fun hne => (okB (mBindings_query hne)).2.2.2) (by omega) g1).rounds
 obtain ⟨k2,hk2⟩:=(l6Sort_ev ((mBindings l0_0 l1_0 l1_1 l2).map (mTuple l1_0)) true (by rw [List.length_map];omega) (fun x hx => by
  obtain ⟨y,_,rfl⟩:=List.mem_map.1 hx
  have:=hz0.1.2.1
  simp only [mTuple,List.length_map];omega)).rounds
 rw [answers_spec,h] at hk2
 have huS:=Tryz.underlying34
 have huQ:=Tryz.underlying38
 generalize hB : mBindings l0_0 l1_0 l1_1 l2 = B at hk1 hk2 g0 g1
 generalize hT : B.map (mTuple l1_0) = T at hk1 hk2
 have EB:=zA hB
 have K1:=zA hk1
 have K2:=zA hk2
 have R0:=zA hr0_0
 have R1:=zA hr1_0
 have R2:=zA hr1_1
 have R3:=zA hr2
 have HC:=zA (show l0_0.length ≤ c0_0 ∧ l1_0.length ≤ c1_0 ∧ l1_1.length ≤ c1_1 ∧ l2.length ≤ c2 from ⟨hc0_0,hc1_0,hc1_1,hc2⟩)
 have HZ:=zA hz0
 have HB:=zA (Below.refl w.heap.size w)
 clear hk1 hk2 hr0_0 hr1_0 hr1_1 hr2 hc0_0 hc1_0 hc1_1 hc2 hz0 h hB hT g0 g1
 go_enter Tryz.func8,Tryz.ntmps8
 go_wp2_with (first|((with_reducible refine gate_dst (N:=3) rfl ?_);refine hold ?_))
 unfold Hold
 refine box_event ?hg0 (N:=3) ?hd0 (cs:=#[.slice A0_0 l0_0.length c0_0]) (t:=34) ?hr0 ?_
 case hd0 => rfl
 case hg0 => rfl
 case hr0 => first|(go_simp;done)|(go_simp;rfl)
 intro g0 hg w1 hbox hb
 have Bg0:=zA hbox
 replace HB:=zA (zJb HB.out hb)
 clear hbox hb hg
 go_wp2_with (first|((with_reducible refine gate_dst (N:=4) rfl ?_);refine hold ?_))
 unfold Hold
 refine box_event ?hg1 (N:=4) ?hd1 (cs:=#[.slice A1_0 l1_0.length c1_0,.slice A1_1 l1_1.length c1_1]) (t:=38) ?hr1 ?_
 case hd1 => rfl
 case hg1 => rfl
 case hr1 => first|(go_simp;done)|(go_simp;rfl)
 intro g1 hg w5 hbox hb
 have Bg1:=zA hbox
 replace Bg0:=zA (zQ Bg0.out hb)
 replace HB:=zA (zJb HB.out hb)
 clear hbox hb hg
 try go_wp2
 have n_:=zA (zJ HB.out)
 clear HB
 have HB:=n_
 clear n_
 have n_:=zA (zI Bg0.out)
 clear Bg0
 have Bg0:=n_
 clear n_
 have n_:=zA (zI Bg1.out)
 clear Bg1
 have Bg1:=n_
 clear n_
 refine start_ (n:=8) (S:=fun w' => w'.cell? ⟨g0,0,none⟩ = some (.slice A0_0 l0_0.length c0_0) ∧ w'.cell? ⟨g1,0,none⟩ = some (.slice A1_0 l1_0.length c1_0) ∧ w'.cell? ⟨g1,1,none⟩ = some (.slice A1_1 l1_1.length c1_1)) (ds:=[]) #[yf,yf,yf,yf,yf,yf,yf,yf] (by kernel_rfl) rfl rfl ⟨(zP Bg0.out 0).trans rfl,(zP Bg1.out 0).trans rfl,(zP Bg1.out 1).trans rfl⟩ (fun hHeld => ?_)
 generalize w5.drew = wd at HB Bg0 Bg1 hHeld ⊢
 refine zw 0 7 hHeld ?_;refine zw 1 8 hHeld ?_;refine zw 2 9 hHeld ?_;refine zu 3 10 ?_
 refine one_ (i:=4) (N:=some 11) #[yt,yt,yt,yt,yt,yf,yf,yf] rfl rfl (by kernel_rfl) (by decide) (fun K hK => ?_)
 refine goes_ Tryz.func32 (by kernel_rfl) rfl #[.agg #[.slice A0_0 l0_0.length c0_0],.agg #[.slice A1_0 l1_0.length c1_0,.slice A1_1 l1_1.length c1_1],.slice A2 l2.length c2] (by rfl) rfl rfl (by (try simp only [zCb,zMb,zNb]);first|done|rfl) ?_
 with_reducible refine (spec_Bindings_calls A0_0 c0_0 l0_0 A1_0 c1_0 l1_0 A1_1 c1_1 l1_1 A2 c2 l2 B _ (zKb R0.out HB.out) HC.out.1 (zKb R1.out HB.out) HC.out.2.1 (zKb R2.out HB.out) HC.out.2.2.1 (zKb R3.out HB.out) HC.out.2.2.2 HZ.out EB.out).mono ?_
 rintro e w6 ⟨v1,rfl,ho,hb⟩
 refine ⟨_,rfl,?_⟩
 have O1:=zA ho
 replace HB:=zA (zJb HB.out hb)
 replace Bg0:=zA (zQ Bg0.out hb)
 replace Bg1:=zA (zQ Bg1.out hb)
 clear ho hb
 obtain ⟨A3,c3,rfl⟩:=Kd.N_slice O1.out
 refine hK.out _ _ ⟨(zP Bg0.out 0).trans rfl,(zP Bg1.out 0).trans rfl,(zP Bg1.out 1).trans rfl⟩ (fun hHeld => ?_)
 clear hK K
 refine norm_ (a':=?_) ?_ ?_
 rotate_left
 ·show Act.put _ (some 11) _ = _;simp only [Act.put,zO,zEb,zFb,i64_w,i32_w];rfl
 refine one_ (i:=5) (N:=some 12) #[yt,yt,yt,yt,yt,yt,yf,yf] rfl rfl (by kernel_rfl) (by decide) (fun K hK => ?_)
 refine goes_ Tryz.func31 (by kernel_rfl) rfl #[.agg #[.slice A1_0 l1_0.length c1_0,.slice A1_1 l1_1.length c1_1],.slice A3 B.length c3] (by rfl) rfl rfl (by (try simp only [zCb,zMb,zNb]);first|done|rfl) ?_
 with_reducible refine (spec_l6Heads.calls k1 A1_0 c1_0 l1_0 A1_1 c1_1 l1_1 A3 c3 B T _ (zKb R1.out HB.out) HC.out.2.1 (zKb R2.out HB.out) HC.out.2.2.1 (Kd.N_reads' O1.out).2.2 (Kd.N_reads' O1.out).2.1 K1.out).mono ?_
 rintro e w7 ⟨v2,rfl,ho,hb⟩
 refine ⟨_,rfl,?_⟩
 have O2:=zA ho
 replace HB:=zA (zJb HB.out hb)
 replace Bg0:=zA (zQ Bg0.out hb)
 replace Bg1:=zA (zQ Bg1.out hb)
 clear ho hb O1
 obtain ⟨A4,c4,rfl⟩:=Kd.S_slice O2.out
 refine hK.out _ _ ⟨(zP Bg0.out 0).trans rfl,(zP Bg1.out 0).trans rfl,(zP Bg1.out 1).trans rfl⟩ (fun hHeld => ?_)
 clear hK K
 refine norm_ (a':=?_) ?_ ?_
 rotate_left
 ·show Act.put _ (some 12) _ = _;simp only [Act.put,zO,zEb,zFb,i64_w,i32_w];rfl
 refine one_ (i:=6) (N:=some 13) #[yt,yt,yt,yt,yt,yt,yt,yf] rfl rfl (by kernel_rfl) (by decide) (fun K hK => ?_)
 refine goes_ Tryz.func30 (by kernel_rfl) rfl #[.slice A4 T.length c4,.bool true] (by rfl) rfl rfl (by (try simp only [zCb,zMb,zNb]);first|done|rfl) ?_
 with_reducible refine (spec_l6Sort.calls k2 A4 c4 T true r1 _ (Kd.S_reads' O2.out).2.2 (Kd.S_reads' O2.out).2.1 K2.out).mono ?_
 rintro e w8 ⟨v3,rfl,ho,hb⟩
 refine ⟨_,rfl,?_⟩
 have O3:=zA (Kd.N_mono (Kd.N_lower ho HB.out.size) (fun k_ hk_ => Nat.le_trans HB.out.size hk_))
 replace HB:=zA (zJb HB.out hb)
 replace Bg0:=zA (zQ Bg0.out hb)
 replace Bg1:=zA (zQ Bg1.out hb)
 clear ho hb O2
 refine hK.out _ _ ⟨(zP Bg0.out 0).trans rfl,(zP Bg1.out 0).trans rfl,(zP Bg1.out 1).trans rfl⟩ (fun hHeld => ?_)
 clear hK K
 refine norm_ (a':=?_) ?_ ?_
 rotate_left
 ·show Act.put _ (some 13) _ = _;simp only [Act.put,zO,zEb,zFb,i64_w,i32_w];rfl
 refine zu 7 6 ?_
 refine done_ (by kernel_rfl) ?_
 clear hHeld
 go_wp2
 go_ret
 exact ⟨_,rfl,O3.out,HB.out⟩

def mkR : List (List Int) → Int → List (List Int) × Int
 | [], m => ([], m)
 | x :: xs, m => (mMarks m x.length :: (mkR xs (m + (x.length : Int))).1, (mkR xs (m + (x.length : Int))).2)
def szR : List (List Int) → Nat
 | [] => 0
 | x :: xs => x.length + szR xs
theorem mkR_len : ∀ (l : List (List Int)) (m : Int), (mkR l m).1.length = l.length
 | [], _ => rfl
 | x :: xs, m => by simp [mkR, mkR_len xs]
theorem mkR_end : ∀ (l : List (List Int)) (m : Int), (mkR l m).2 = m + (szR l : Int)
 | [], m => by simp [mkR, szR]
 | x :: xs, m => by simp [mkR, szR, mkR_end xs]; omega
structure AtR (l xs : List (List Int)) (m q : Int) (i : Nat) : Prop where
 len : xs.length = l.length
 le : i ≤ l.length
 lo : 0 ≤ q
 hi : q + (szR (xs.drop i) : Int) ≤ 4611686018427387904
 fst : xs.take i ++ (mkR (xs.drop i) q).1 = (mkR l m).1
 snd : (mkR (xs.drop i) q).2 = (mkR l m).2
theorem AtR.start {l : List (List Int)} {m : Int} (h0 : 0 ≤ m) (h1 : m + (szR l : Int) ≤ 4611686018427387904) : AtR l l m m 0 := ⟨rfl, Nat.zero_le _, h0, by simpa using h1, by simp, by simp⟩
theorem AtR.drop {l xs : List (List Int)} {m q : Int} {i : Nat} (h : AtR l xs m q i) (hi : i < l.length) : xs.drop i = xs.getD i [] :: xs.drop (i + 1) := by
 have hx : i < xs.length:=by rw [h.len];exact hi
 rw [List.drop_eq_getElem_cons hx,List.getD_eq_getElem?_getD,List.getElem?_eq_getElem hx];rfl
theorem AtR.more {l xs : List (List Int)} {m q : Int} {i : Nat} (h : AtR l xs m q i) (hi : i < l.length) : q + ((xs.getD i []).length : Int) ≤ 4611686018427387904 := by
 have:=h.hi;rw [h.drop hi] at this;simp only [szR] at this;omega
theorem AtR.step {l xs : List (List Int)} {m q : Int} {i : Nat} (h : AtR l xs m q i) (hi : i < l.length) :
  AtR l (xs.set i (mMarks q (xs.getD i []).length)) m (q + ((xs.getD i []).length : Int)) (i + 1):=by
 have hx : i < xs.length:=by rw [h.len];exact hi
 have hd : (xs.set i (mMarks q (xs.getD i []).length)).drop (i + 1) = xs.drop (i + 1):=by
  rw [List.drop_set_of_lt (by omega)]
 have hb:=h.hi
 have hf:=h.fst
 have hs:=h.snd
 rw [h.drop hi] at hb hf hs
 simp only [szR,mkR] at hb hf hs
 refine ⟨by simp [h.len],by omega,by have:=h.lo;omega,by rw [hd];omega,?_,by rw [hd];exact hs⟩
 rw [hd,← hf]
 rw [List.take_succ_eq_append_getElem (by simpa using hx),List.take_set_of_le (Nat.le_refl _)]
 simp
theorem AtR.done {l xs : List (List Int)} {m q : Int} {i : Nat} (h : AtR l xs m q i) (hi : ¬ i < l.length) : xs = (mkR l m).1 ∧ q = (mkR l m).2 := by
 have he : xs.drop i = []:=List.drop_eq_nil_of_le (by rw [h.len];omega)
 have hf:=h.fst
 have hs:=h.snd
 rw [he] at hf hs
 simp only [mkR,List.append_nil] at hf hs
 rw [List.take_of_length_le (by rw [h.len];omega)] at hf
 exact ⟨hf,hs⟩
set_option maxHeartbeats 8000000 in
set_option maxRecDepth 100000 in
theorem markIntSS_walk (P : Nat → Prop) (u : Value) (l : List (List Int)) (m : Int) (w0 w : World) (hB : Below w0.heap.size w0 w) (ho : Kd.S (Kd.slice 3 (Kd.int .i64)) 22 w w0.heap.size P u l) (h0 : 0 ≤ m) (h1 : m + (szR l : Int) ≤ 4611686018427387904) (hl : l.length ≤ 17592186044416) (hla : ∀ x ∈ l, x.length ≤ 17592186044416) :
  Calls Tryz.prog 20 #[u, .int .i64 m] w fun e w' => e = .returned (.int .i64 (mkR l m).2) ∧ Kd.S (Kd.slice 3 (Kd.int .i64)) 22 w' w0.heap.size P u (mkR l m).1 ∧ Below w0.heap.size w0 w' ∧ Kept w w' P := by
 obtain ⟨A,c,rfl⟩:=Kd.S_slice ho
 have HO:=zA ho
 have HB:=zA hB
 have HK:=zA (Kept.refl w P)
 have HI:=zA (AtR.start h0 h1)
 have HL:=zA hl
 have HF:=zA hla
 clear ho hB h0 h1 hl hla
 go_enter Tryz.func20,Tryz.ntmps20
 go_wp2
 go_loopg [1,5] l.length (fun kq v1 v5 w' => ∃ (xs : List (List Int)) (q x : Int),v1 = .int .i64 q ∧ v5 = .int .i64 x ∧ Aside0 (0 ≤ x ∧ kq + x.toNat = l.length) ∧ Aside0 (AtR l xs m q x.toNat) ∧ Aside0 (xs.length = l.length ∧ ∀ x ∈ xs,x.length ≤ 17592186044416) ∧ Aside0 (Kd.S (Kd.slice 3 (Kd.int .i64)) 22 w' w0.heap.size P (.slice A l.length c) xs) ∧ Aside0 (Kept w w' P) ∧ Aside0 (Below w0.heap.size w0 w'))
 case atStart => exact ⟨l,m,0,rfl,rfl,⟨⟨Int.le_refl _,rfl⟩⟩,HI,⟨⟨rfl,HF.out⟩⟩,HO,HK,HB⟩
 case round =>
  clear HI HF HO HK HB
  obtain ⟨xs,q,x,rfl,rfl,HG,HI,HF,HO,HK,HB⟩:=hrel
  by_cases c6 : x < (l.length : Int)
  ·have c6b0 : decide (x < (l.length : Int)) = true:=decide_eq_true c6
   have p5 : 0 ≤ x:=HG.out.1
   have hlt : x.toNat < l.length:=by omega
   have HT:=zA hlt
   have hxl:=HF.out.1
   have hb0:=HI.out.more hlt
   have hb1:=HI.out.lo
   have hfl : (xs.getD x.toNat []).length ≤ 17592186044416:=by
    rw [List.getD_eq_getElem?_getD,List.getElem?_eq_getElem (by omega)]
    exact HF.out.2 _ (List.getElem_mem _)
   obtain ⟨km,hkm⟩:=(markIntS_ev (xs.getD x.toNat []) q (by omega) (by omega) hfl).rounds
   have HM:=zA hkm
   have e2 : wrap64 (x + 1) = x + 1:=by have:=HL.out;unfold wrap64;omega
   have E2:=zA e2
   obtain ⟨go,co,eo,gb,gl,cl,hgo⟩:=Kd.S_form HO.out (by omega)
   injection eo with ea en ec
   subst ea;subst ec
   clear en
   obtain ⟨oki,ce,hcl,hM,hcc,hfr,hoki,hH⟩:=Kd.S_elem HO.out [] x p5 c6
   obtain ⟨vj,rfl,gj⟩:=hM
   have hx0 : wr.cell? ⟨go,x.toNat,none⟩ = some vj:=by
    have h_:=hcc 0 _ rfl
    have e_ : (Kd.slice 3 (Kd.int .i64)).sz = 1:=rfl
    rw [e_,Nat.mul_one,Nat.add_zero] at h_
    exact h_
   have HH:=zA hH
   have GJ:=zA gj
   have HW:=zA (fun k hk => (hoki k hk).1)
   clear hcl hcc hfr hoki hH gj e2 hkm hgo gb gl cl hb0 hb1 hfl hxl hlt HO
   go_wp2_with (first|(go_at_call 43;refine hold ?_))
   unfold Hold
   refine (laws_markIntS.calls km (fun k => some k = vj.ownBlock) vj (xs.getD x.toNat []) _ _ _ w0 _ HB.out (Kd.R_tight rfl GJ.out) HM.out).mono ?_
   rintro e w2 ⟨rfl,hr,hb2,hk2⟩
   have HB2:=zA hb2
   have HK2:=zA (HK.out.then_ hk2 (fun k hk => .inl (HW.out k (GJ.out.1 k hk.symm))))
   have hM2 : (Kd.slice 3 (Kd.int .i64)).M w2 w0.heap.size oki (mMarks q (xs.getD x.toNat []).length) [vj]:=⟨vj,rfl,zGb (Kd.R_tight rfl hr) (fun k hk => GJ.out.1 k hk.symm)⟩
   have hs2:=Kd.H_back (Kd.H_kept HH.out hk2 (fun k hk hn h2 => hn (GJ.out.1 k h2.symm))) hM2 (fun _ hk => hk)
   have HO2:=zA hs2
   have HI2:=zA (HI.out.step HT.out)
   have HF2 : Aside0 ((xs.set x.toNat (mMarks q (xs.getD x.toNat []).length)).length = l.length ∧ ∀ y ∈ (xs.set x.toNat (mMarks q (xs.getD x.toNat []).length)),y.length ≤ 17592186044416):=by
    have hlt:=HT.out
    have hfl : (xs.getD x.toNat []).length ≤ 17592186044416:=by
     rw [List.getD_eq_getElem?_getD,List.getElem?_eq_getElem (by rw [HF.out.1];exact hlt)]
     exact HF.out.2 _ (List.getElem_mem _)
    refine ⟨⟨by simp [HF.out.1],fun y hy => ?_⟩⟩
    rcases List.mem_or_eq_of_mem_set hy with h|h
    ·exact HF.out.2 y h
    ·rw [h,mMarks_length];exact hfl
   clear HB HK HH GJ hr hb2 hk2 hM2 hs2 hx0 HW
   go_wp2
   go_roundg (gk - 1)
   case measure => have:=HG.out;have:=HT.out;omega
   case rel => exact ⟨_,_,(wrap64 (x + 1)),rfl,rfl,⟨by have:=HG.out;have:=HT.out;rw [E2.out];omega⟩,⟨by rw [E2.out,show (x + 1).toNat = x.toNat + 1 by have:=HG.out;omega];exact HI2.out⟩,HF2,HO2,HK2,HB2⟩
  ·have c6b0 : decide (x < (l.length : Int)) = false:=decide_eq_false c6
   have hd:=HI.out.done (by omega)
   have HD:=zA hd
   clear hd c6
   go_wp2
   go_ret
   exact ⟨by rw [← HD.out.2];rfl,by rw [← HD.out.1];exact HO.out,HB.out,HK.out⟩
theorem markIntSS_calls (P0_ : Nat → Prop) (u9000_ : Value) (l0 : List (List Int)) (a1 : Int) (r1 : Int) (r2 : List (List Int)) (w0 w : World) (hB : Below w0.heap.size w0 w) (ho0 : Kd.S (Kd.slice 3 (Kd.int .i64)) 22 w w0.heap.size P0_ u9000_ l0) (hz0 : (0 ≤ a1 ∧ a1 + (szR l0 : Int) ≤ 4611686018427387904) ∧ l0.length ≤ 17592186044416 ∧ ∀ x ∈ l0, x.length ≤ 17592186044416) (h : mkR l0 a1 = (r2, r1)) :
  Calls Tryz.prog 20 #[u9000_, .int .i64 a1] w fun e w' => e = .returned (.int .i64 r1) ∧ Kd.S (Kd.slice 3 (Kd.int .i64)) 22 w' w0.heap.size (fun k_ => P0_ k_) u9000_ r2 ∧ Below w0.heap.size w0 w' ∧ Kept w w' (fun k_ => P0_ k_) := by
 have e:=markIntSS_walk P0_ u9000_ l0 a1 w0 w hB ho0 hz0.1.1 hz0.1.2 hz0.2.1 hz0.2.2
 rw [h] at e
 exact e
theorem szR_le {B : Nat} : ∀ (l : List (List Int)), (∀ x ∈ l, x.length ≤ B) → szR l ≤ l.length * B
 | [], _ => by simp [szR]
 | x :: xs, h => by
  have h1:=szR_le xs (fun y hy => h y (List.mem_cons_of_mem _ hy))
  have h2:=h x List.mem_cons_self
  simp only [szR,List.length_cons,Nat.add_mul]
  omega
theorem markR_ok (d : List (List Int)) (m : Int) (hl : d.length ≤ 1048576) (hs : ∀ x ∈ d, x.length ≤ 1048576) (h0 : 0 ≤ m) (h1 : m ≤ 4000000000000000) :
  ((0 ≤ m ∧ m + (szR d : Int) ≤ 4611686018427387904) ∧ d.length ≤ 17592186044416 ∧ ∀ x ∈ d,x.length ≤ 17592186044416) ∧ m ≤ (mkR d m).2 ∧ (mkR d m).2 ≤ m + 1099512676352:=by
 have hz : szR d ≤ 1099512676352:=by
  have h:=szR_le d hs
  have h2 : d.length * 1048576 ≤ 1048576 * 1048576:=Nat.mul_le_mul_right _ hl
  omega
 have he : (mkR d m).2 = m + (szR d : Int):=mkR_end d m
 exact ⟨⟨⟨h0,by omega⟩,by omega,fun x hx => by have:=hs x hx;omega⟩,by rw [he];omega,by rw [he];omega⟩
theorem heldIntSS_l0 : ∀ (l pre : List (List Int)) (m : Int), 0 ≤ m → m + (szR l : Int) ≤ 4611686018427387904 → pre.length + l.length ≤ 17592186044416 → (∀ x ∈ l, x.length ≤ 17592186044416) →
  Ev (fun k => laws_heldIntSS.l0 k (pre ++ (mkR l m).1) m (pre.length : Int)) (mkR l m).2
 | [], pre, m, h0, h1, h, hs => by
  refine evn fun k => ?_
  simp only [laws_heldIntSS.l0,mkR,List.append_nil]
  rw [if_neg (end_not _)]
 | x :: xs, pre, m, h0, h1, h, hs => by
  have hx:=hs x List.mem_cons_self
  simp only [szR] at h1
  simp only [List.length_cons] at h
  have r:=heldIntSS_l0 xs (pre ++ [mMarks m x.length]) (m + (x.length : Int)) (by omega) (by omega) (by simp;omega) (fun y hy => hs y (List.mem_cons_of_mem _ hy))
  simp only [mkR]
  have e2 : wrap64 ((pre.length : Int) + 1) = ((pre ++ [mMarks m x.length]).length : Int):=iw (by omega)
  have e3 : rd_L1 (pre ++ mMarks m x.length :: (mkR xs (m + (x.length : Int))).1) (pre.length : Int) = mMarks m x.length:=by simp [rd_L1]
  refine Ev.step (fun k => laws_heldIntSS.l0.eq_2 ..) ?_
  simp only [if_pos (mid_lt _ _ _),if_pos (len_nonneg _),e3,e2]
  refine evb (heldIntS_ev m x.length (by omega) (by omega) hx) ?_
  have hn : ¬ (m + (x.length : Int) < 0):=by omega
  simp only [if_neg hn]
  rw [app1]
  exact r
theorem heldIntSS_ev (l : List (List Int)) (m : Int) (hl : l.length ≤ 1048576) (hs : ∀ x ∈ l, x.length ≤ 1048576) (h0 : 0 ≤ m) (h1 : m ≤ 4000000000000000) : Ev (fun k => laws_heldIntSS.f k (mkR l m).1 m) (mkR l m).2 := by
 have h:=markR_ok l m hl hs h0 h1
 exact heldIntSS_l0 l [] m h0 h.1.1.2 (by simp;omega) h.1.2.2

def mkF : List S64 → Int → List S64 × Int
 | [], m => ([], m)
 | x :: xs, m => (⟨m, mMarks (m + 1) x.f1.length⟩ :: (mkF xs (m + 1 + (x.f1.length : Int))).1, (mkF xs (m + 1 + (x.f1.length : Int))).2)
def szF : List S64 → Nat
 | [] => 0
 | x :: xs => x.f1.length + 1 + szF xs
theorem mkF_len : ∀ (l : List S64) (m : Int), (mkF l m).1.length = l.length
 | [], _ => rfl
 | x :: xs, m => by simp [mkF, mkF_len xs]
theorem mkF_end : ∀ (l : List S64) (m : Int), (mkF l m).2 = m + (szF l : Int)
 | [], m => by simp [mkF, szF]
 | x :: xs, m => by simp [mkF, szF, mkF_end xs]; omega
structure AtF (l xs : List S64) (m q : Int) (i : Nat) : Prop where
 len : xs.length = l.length
 le : i ≤ l.length
 lo : 0 ≤ q
 hi : q + (szF (xs.drop i) : Int) ≤ 4611686018427387904
 fst : xs.take i ++ (mkF (xs.drop i) q).1 = (mkF l m).1
 snd : (mkF (xs.drop i) q).2 = (mkF l m).2
theorem AtF.start {l : List S64} {m : Int} (h0 : 0 ≤ m) (h1 : m + (szF l : Int) ≤ 4611686018427387904) : AtF l l m m 0 := ⟨rfl, Nat.zero_le _, h0, by simpa using h1, by simp, by simp⟩
theorem AtF.drop {l xs : List S64} {m q : Int} {i : Nat} (h : AtF l xs m q i) (hi : i < l.length) : xs.drop i = xs.getD i z64 :: xs.drop (i + 1) := by
 have hx : i < xs.length:=by rw [h.len];exact hi
 rw [List.drop_eq_getElem_cons hx,List.getD_eq_getElem?_getD,List.getElem?_eq_getElem hx];rfl
theorem AtF.more {l xs : List S64} {m q : Int} {i : Nat} (h : AtF l xs m q i) (hi : i < l.length) : q + 1 + ((xs.getD i z64).f1.length : Int) ≤ 4611686018427387904 := by
 have:=h.hi;rw [h.drop hi] at this;simp only [szF] at this;omega
theorem AtF.step {l xs : List S64} {m q : Int} {i : Nat} (h : AtF l xs m q i) (hi : i < l.length) :
  AtF l ((xs.set i ⟨q,(xs.getD i z64).f1⟩).set i ⟨q,mMarks (q + 1) (xs.getD i z64).f1.length⟩) m (q + 1 + ((xs.getD i z64).f1.length : Int)) (i + 1):=by
 have hx : i < xs.length:=by rw [h.len];exact hi
 have hd : (((xs.set i ⟨q,(xs.getD i z64).f1⟩).set i ⟨q,mMarks (q + 1) (xs.getD i z64).f1.length⟩)).drop (i + 1) = xs.drop (i + 1):=by
  rw [List.drop_set_of_lt (by omega),List.drop_set_of_lt (by omega)]
 have hb:=h.hi
 have hf:=h.fst
 have hs:=h.snd
 rw [h.drop hi] at hb hf hs
 simp only [szF,mkF] at hb hf hs
 refine ⟨by simp [h.len],by omega,by have:=h.lo;omega,by rw [hd];omega,?_,by rw [hd];exact hs⟩
 rw [hd,← hf]
 rw [List.take_succ_eq_append_getElem (by simpa using hx),List.take_set_of_le (Nat.le_refl _),List.take_set_of_le (Nat.le_refl _)]
 simp
theorem AtF.done {l xs : List S64} {m q : Int} {i : Nat} (h : AtF l xs m q i) (hi : ¬ i < l.length) : xs = (mkF l m).1 ∧ q = (mkF l m).2 := by
 have he : xs.drop i = []:=List.drop_eq_nil_of_le (by rw [h.len];omega)
 have hf:=h.fst
 have hs:=h.snd
 rw [he] at hf hs
 simp only [mkF,List.append_nil] at hf hs
 rw [List.take_of_length_le (by rw [h.len];omega)] at hf
 exact ⟨hf,hs⟩
set_option maxHeartbeats 8000000 in
set_option maxRecDepth 100000 in
theorem markFactS_walk (P : Nat → Prop) (u : Value) (l : List S64) (m : Int) (w0 w : World) (hB : Below w0.heap.size w0 w) (ho : Kd.S k64 64 w w0.heap.size P u l) (h0 : 0 ≤ m) (h1 : m + (szF l : Int) ≤ 4611686018427387904) (hl : l.length ≤ 17592186044416) (hla : ∀ x ∈ l, x.f1.length ≤ 17592186044416) :
  Calls Tryz.prog 19 #[u, .int .i64 m] w fun e w' => e = .returned (.int .i64 (mkF l m).2) ∧ Kd.S k64 64 w' w0.heap.size P u (mkF l m).1 ∧ Below w0.heap.size w0 w' ∧ Kept w w' P := by
 have hu64:=Tryz.underlying64
 obtain ⟨A,c,rfl⟩:=Kd.S_slice ho
 have HO:=zA ho
 have HB:=zA hB
 have HK:=zA (Kept.refl w P)
 have HI:=zA (AtF.start h0 h1)
 have HL:=zA hl
 have HF:=zA hla
 clear ho hB h0 h1 hl hla
 go_enter Tryz.func19,Tryz.ntmps19
 go_wp2
 go_loopg [1,5] l.length (fun kq v1 v5 w' => ∃ (xs : List S64) (q x : Int),v1 = .int .i64 q ∧ v5 = .int .i64 x ∧ Aside0 (0 ≤ x ∧ kq + x.toNat = l.length) ∧ Aside0 (AtF l xs m q x.toNat) ∧ Aside0 (xs.length = l.length ∧ ∀ x ∈ xs,x.f1.length ≤ 17592186044416) ∧ Aside0 (Kd.S k64 64 w' w0.heap.size P (.slice A l.length c) xs) ∧ Aside0 (Kept w w' P) ∧ Aside0 (Below w0.heap.size w0 w'))
 case atStart => exact ⟨l,m,0,rfl,rfl,⟨⟨Int.le_refl _,rfl⟩⟩,HI,⟨⟨rfl,HF.out⟩⟩,HO,HK,HB⟩
 case round =>
  clear HI HF HO HK HB
  obtain ⟨xs,q,x,rfl,rfl,HG,HI,HF,HO,HK,HB⟩:=hrel
  by_cases c6 : x < (l.length : Int)
  ·have c6b0 : decide (x < (l.length : Int)) = true:=decide_eq_true c6
   have p5 : 0 ≤ x:=HG.out.1
   have hlt : x.toNat < l.length:=by omega
   have HT:=zA hlt
   have hxl:=HF.out.1
   have hb0:=HI.out.more hlt
   have hb1:=HI.out.lo
   have hfl : (xs.getD x.toNat z64).f1.length ≤ 17592186044416:=by
    rw [List.getD_eq_getElem?_getD,List.getElem?_eq_getElem (by omega)]
    exact HF.out.2 _ (List.getElem_mem _)
   obtain ⟨km,hkm⟩:=(markIntS_ev (xs.getD x.toNat z64).f1 (q + 1) (by omega) (by omega) hfl).rounds
   have HM:=zA hkm
   have e1 : wrap64 (q + 1) = q + 1:=by unfold wrap64;omega
   have e2 : wrap64 (x + 1) = x + 1:=by have:=HL.out;unfold wrap64;omega
   have E1:=zA e1
   have E2:=zA e2
   obtain ⟨go,co,eo,gb,gl,cl,hgo⟩:=Kd.S_form HO.out (by omega)
   injection eo with ea en ec
   subst ea;subst ec
   clear en
   obtain ⟨oki,ce,hcl,hM,hcc,hfr,hoki,hH⟩:=Kd.S_elem HO.out z64 x p5 c6
   obtain ⟨ve,rfl,ge⟩:=k64_openM hM
   have hx0 : wr.cell? ⟨go,x.toNat * 2,none⟩ = some (.int .i64 (xs.getD x.toNat z64).f0):=hcc 0 _ rfl
   have hf0 : wr.frozen? ⟨go,x.toNat * 2,none⟩ = false:=hfr 0
   have HH:=zA hH
   have GE:=zA ge
   have PG:=zA (show P go from (Kd.S_R HO.out).1 go rfl)
   have HW:=zA (fun k hk => (hoki k hk).1)
   clear hcl hM hcc hfr hoki hH ge e1 e2 hkm hgo gb gl cl hb0 hb1 hfl hxl hlt HO
   go_wp2_with (first|((with_reducible refine gate_store (t:=3) (p:=16) rfl ?_);refine hold ?_))
   unfold Hold
   refine Kd.H_store k64 w0.heap.size rfl rfl 3 _ _ rfl 64 x 0 xs (⟨q,(xs.getD x.toNat z64).f1⟩ : S64) (.int .i64 q) [.int .i64 q] _ P oki oki rfl rfl rfl rfl rfl (by simp [Value.oneCell']) HH.out p5 c6 (show 1 ≤ 2 from by decide) (k64_mkM _ _ _ (⟨q,(xs.getD x.toNat z64).f1⟩ : S64) GE.out) (fun _ h_ => h_) HB.out ?_
   intro w1 hs hb hg
   have HB1:=zA hb
   have HK1:=zA (Kept.of_grown hg HK.out (fun k he => .inl (by injection he with he;subst he;exact PG.out)))
   have hlt:=HT.out
   have hg0 : (xs.set x.toNat (⟨q,(xs.getD x.toNat z64).f1⟩ : S64)).getD x.toNat z64 = ⟨q,(xs.getD x.toNat z64).f1⟩:=by
    rw [List.getD_eq_getElem?_getD,List.getElem?_set_self (by rw [HF.out.1];exact hlt)];rfl
   obtain ⟨okj,cj,hclj,hMj,hccj,hokj,hHj⟩:=Kd.S_lend hs z64 x p5 c6
   rw [hg0] at hMj
   obtain ⟨vj,rfl,gj⟩:=k64_openM hMj
   have hx1 : w1.cell? ⟨go,x.toNat * 2 + 1,none⟩ = some vj:=hccj 1 _ rfl
   have GJ:=zA (show Kd.R (Kd.int .i64) 3 w1 w0.heap.size okj vj (xs.getD x.toNat z64).f1 from gj)
   have HHJ:=zA hHj
   have HWJ:=zA (fun k hk => (hokj k hk).1)
   clear HB HK hs hb hg HH GE HW hclj hMj hccj hokj hHj gj hlt hx0 hf0 hg0
   go_wp2_with (first|(go_at_call 43;refine hold ?_))
   unfold Hold
   refine (laws_markIntS.calls km (fun k => some k = vj.ownBlock) vj (xs.getD x.toNat z64).f1 _ _ _ w0 _ HB1.out (Kd.R_tight rfl GJ.out) (by rw [E1.out];exact HM.out)).mono ?_
   rintro e w2 ⟨rfl,hr,hb2,hk2⟩
   have HB2:=zA hb2
   have HK2:=zA (HK1.out.then_ hk2 (fun k hk => .inl (HWJ.out k (GJ.out.1 k hk.symm))))
   have hM2:=k64_mkM w2 w0.heap.size okj (⟨q,mMarks (q + 1) (xs.getD x.toNat z64).f1.length⟩ : S64) (zGb (Kd.R_tight rfl hr) (fun k hk => GJ.out.1 k hk.symm))
   have hs2:=Kd.H_back (Kd.H_kept HHJ.out hk2 (fun k hk hn h2 => hn (GJ.out.1 k h2.symm))) hM2 (fun _ hk => hk)
   have HO2:=zA hs2
   have HI2:=zA (HI.out.step HT.out)
   have HF2 : Aside0 (((xs.set x.toNat (⟨q,(xs.getD x.toNat z64).f1⟩ : S64)).set x.toNat ⟨q,mMarks (q + 1) (xs.getD x.toNat z64).f1.length⟩).length = l.length ∧ ∀ y ∈ ((xs.set x.toNat (⟨q,(xs.getD x.toNat z64).f1⟩ : S64)).set x.toNat ⟨q,mMarks (q + 1) (xs.getD x.toNat z64).f1.length⟩),y.f1.length ≤ 17592186044416):=by
    have hlt:=HT.out
    have hfl : (xs.getD x.toNat z64).f1.length ≤ 17592186044416:=by
     rw [List.getD_eq_getElem?_getD,List.getElem?_eq_getElem (by rw [HF.out.1];exact hlt)]
     exact HF.out.2 _ (List.getElem_mem _)
    refine ⟨⟨by simp [HF.out.1],fun y hy => ?_⟩⟩
    rcases List.mem_or_eq_of_mem_set hy with h|h
    ·rcases List.mem_or_eq_of_mem_set h with h|h
     ·exact HF.out.2 y h
     ·rw [h];exact hfl
    ·rw [h];show (mMarks _ _).length ≤ _;rw [mMarks_length];exact hfl
   clear HB1 HK1 HHJ GJ hr hb2 hk2 hM2 hs2 hx1 HWJ
   go_wp2
   go_roundg (gk - 1)
   case measure => have:=HG.out;have:=HT.out;omega
   case rel => exact ⟨_,_,(wrap64 (x + 1)),rfl,rfl,⟨by have:=HG.out;have:=HT.out;rw [E2.out];omega⟩,⟨by rw [E2.out,show (x + 1).toNat = x.toNat + 1 by have:=HG.out;omega];exact HI2.out⟩,HF2,HO2,HK2,HB2⟩
  ·have c6b0 : decide (x < (l.length : Int)) = false:=decide_eq_false c6
   have hd:=HI.out.done (by omega)
   have HD:=zA hd
   clear hd c6
   go_wp2
   go_ret
   exact ⟨by rw [← HD.out.2];rfl,by rw [← HD.out.1];exact HO.out,HB.out,HK.out⟩
theorem markFactS_calls (P0_ : Nat → Prop) (u9000_ : Value) (l0 : List S64) (a1 : Int) (r1 : Int) (r2 : List S64) (w0 w : World) (hB : Below w0.heap.size w0 w) (ho0 : Kd.S k64 64 w w0.heap.size P0_ u9000_ l0) (hz0 : (0 ≤ a1 ∧ a1 + (szF l0 : Int) ≤ 4611686018427387904) ∧ l0.length ≤ 17592186044416 ∧ ∀ x ∈ l0, x.f1.length ≤ 17592186044416) (h : mkF l0 a1 = (r2, r1)) :
  Calls Tryz.prog 19 #[u9000_, .int .i64 a1] w fun e w' => e = .returned (.int .i64 r1) ∧ Kd.S k64 64 w' w0.heap.size (fun k_ => P0_ k_) u9000_ r2 ∧ Below w0.heap.size w0 w' ∧ Kept w w' (fun k_ => P0_ k_) := by
 have e:=markFactS_walk P0_ u9000_ l0 a1 w0 w hB ho0 hz0.1.1 hz0.1.2 hz0.2.1 hz0.2.2
 rw [h] at e
 exact e

theorem szF_le {B : Nat} : ∀ (l : List S64), (∀ x ∈ l, x.f1.length ≤ B) → szF l ≤ l.length * (B + 1)
 | [], _ => by simp [szF]
 | x :: xs, h => by
  have h1:=szF_le xs (fun y hy => h y (List.mem_cons_of_mem _ hy))
  have h2:=h x List.mem_cons_self
  simp only [szF,List.length_cons,Nat.add_mul]
  omega
theorem szF_small (l : List S64) (hl : l.length ≤ 1048576) (hs : ∀ x ∈ l, x.f1.length ≤ 1048576) : szF l ≤ 1099512676352 := by
 have h:=szF_le l hs
 have h2 : l.length * (1048576 + 1) ≤ 1048576 * (1048576 + 1):=Nat.mul_le_mul_right _ hl
 omega
theorem markF_ok (d : List S64) (m : Int) (hl : d.length ≤ 1048576) (hs : ∀ x ∈ d, x.f1.length ≤ 1048576) (h0 : 0 ≤ m) (h1 : m ≤ 4000000000000000) :
  ((0 ≤ m ∧ m + (szF d : Int) ≤ 4611686018427387904) ∧ d.length ≤ 17592186044416 ∧ ∀ x ∈ d,x.f1.length ≤ 17592186044416) ∧ m ≤ (mkF d m).2 ∧ (mkF d m).2 ≤ m + 1099512676352:=by
 have hz:=szF_small d hl hs
 have he : (mkF d m).2 = m + (szF d : Int):=mkF_end d m
 exact ⟨⟨⟨h0,by omega⟩,by omega,fun x hx => by have:=hs x hx;omega⟩,by rw [he];omega,by rw [he];omega⟩

def mkA : List S81 → Int → List S81 × Int
 | [], m => ([], m)
 | x :: xs, m => (⟨m, mMarks (m + 1) x.f1.length⟩ :: (mkA xs (m + 1 + (x.f1.length : Int))).1, (mkA xs (m + 1 + (x.f1.length : Int))).2)
def szA : List S81 → Nat
 | [] => 0
 | x :: xs => x.f1.length + 1 + szA xs
theorem mkA_len : ∀ (l : List S81) (m : Int), (mkA l m).1.length = l.length
 | [], _ => rfl
 | x :: xs, m => by simp [mkA, mkA_len xs]
theorem mkA_end : ∀ (l : List S81) (m : Int), (mkA l m).2 = m + (szA l : Int)
 | [], m => by simp [mkA, szA]
 | x :: xs, m => by simp [mkA, szA, mkA_end xs]; omega
structure AtA (l xs : List S81) (m q : Int) (i : Nat) : Prop where
 len : xs.length = l.length
 le : i ≤ l.length
 lo : 0 ≤ q
 hi : q + (szA (xs.drop i) : Int) ≤ 4611686018427387904
 fst : xs.take i ++ (mkA (xs.drop i) q).1 = (mkA l m).1
 snd : (mkA (xs.drop i) q).2 = (mkA l m).2
theorem AtA.start {l : List S81} {m : Int} (h0 : 0 ≤ m) (h1 : m + (szA l : Int) ≤ 4611686018427387904) : AtA l l m m 0 := ⟨rfl, Nat.zero_le _, h0, by simpa using h1, by simp, by simp⟩
theorem AtA.drop {l xs : List S81} {m q : Int} {i : Nat} (h : AtA l xs m q i) (hi : i < l.length) : xs.drop i = xs.getD i z81 :: xs.drop (i + 1) := by
 have hx : i < xs.length:=by rw [h.len];exact hi
 rw [List.drop_eq_getElem_cons hx,List.getD_eq_getElem?_getD,List.getElem?_eq_getElem hx];rfl
theorem AtA.more {l xs : List S81} {m q : Int} {i : Nat} (h : AtA l xs m q i) (hi : i < l.length) : q + 1 + ((xs.getD i z81).f1.length : Int) ≤ 4611686018427387904 := by
 have:=h.hi;rw [h.drop hi] at this;simp only [szA] at this;omega
theorem AtA.step {l xs : List S81} {m q : Int} {i : Nat} (h : AtA l xs m q i) (hi : i < l.length) :
  AtA l ((xs.set i ⟨q,(xs.getD i z81).f1⟩).set i ⟨q,mMarks (q + 1) (xs.getD i z81).f1.length⟩) m (q + 1 + ((xs.getD i z81).f1.length : Int)) (i + 1):=by
 have hx : i < xs.length:=by rw [h.len];exact hi
 have hd : (((xs.set i ⟨q,(xs.getD i z81).f1⟩).set i ⟨q,mMarks (q + 1) (xs.getD i z81).f1.length⟩)).drop (i + 1) = xs.drop (i + 1):=by
  rw [List.drop_set_of_lt (by omega),List.drop_set_of_lt (by omega)]
 have hb:=h.hi
 have hf:=h.fst
 have hs:=h.snd
 rw [h.drop hi] at hb hf hs
 simp only [szA,mkA] at hb hf hs
 refine ⟨by simp [h.len],by omega,by have:=h.lo;omega,by rw [hd];omega,?_,by rw [hd];exact hs⟩
 rw [hd,← hf]
 rw [List.take_succ_eq_append_getElem (by simpa using hx),List.take_set_of_le (Nat.le_refl _),List.take_set_of_le (Nat.le_refl _)]
 simp
theorem AtA.done {l xs : List S81} {m q : Int} {i : Nat} (h : AtA l xs m q i) (hi : ¬ i < l.length) : xs = (mkA l m).1 ∧ q = (mkA l m).2 := by
 have he : xs.drop i = []:=List.drop_eq_nil_of_le (by rw [h.len];omega)
 have hf:=h.fst
 have hs:=h.snd
 rw [he] at hf hs
 simp only [mkA,List.append_nil] at hf hs
 rw [List.take_of_length_le (by rw [h.len];omega)] at hf
 exact ⟨hf,hs⟩
set_option maxHeartbeats 8000000 in
set_option maxRecDepth 100000 in
theorem markAtomS_walk (P : Nat → Prop) (u : Value) (l : List S81) (m : Int) (w0 w : World) (hB : Below w0.heap.size w0 w) (ho : Kd.S k81 81 w w0.heap.size P u l) (h0 : 0 ≤ m) (h1 : m + (szA l : Int) ≤ 4611686018427387904) (hl : l.length ≤ 17592186044416) (hla : ∀ x ∈ l, x.f1.length ≤ 17592186044416) :
  Calls Tryz.prog 44 #[u, .int .i64 m] w fun e w' => e = .returned (.int .i64 (mkA l m).2) ∧ Kd.S k81 81 w' w0.heap.size P u (mkA l m).1 ∧ Below w0.heap.size w0 w' ∧ Kept w w' P := by
 have hu81:=Tryz.underlying81
 obtain ⟨A,c,rfl⟩:=Kd.S_slice ho
 have HO:=zA ho
 have HB:=zA hB
 have HK:=zA (Kept.refl w P)
 have HI:=zA (AtA.start h0 h1)
 have HL:=zA hl
 have HF:=zA hla
 clear ho hB h0 h1 hl hla
 go_enter Tryz.func44,Tryz.ntmps44
 go_wp2
 go_loopg [1,5] l.length (fun kq v1 v5 w' => ∃ (xs : List S81) (q x : Int),v1 = .int .i64 q ∧ v5 = .int .i64 x ∧ Aside0 (0 ≤ x ∧ kq + x.toNat = l.length) ∧ Aside0 (AtA l xs m q x.toNat) ∧ Aside0 (xs.length = l.length ∧ ∀ x ∈ xs,x.f1.length ≤ 17592186044416) ∧ Aside0 (Kd.S k81 81 w' w0.heap.size P (.slice A l.length c) xs) ∧ Aside0 (Kept w w' P) ∧ Aside0 (Below w0.heap.size w0 w'))
 case atStart => exact ⟨l,m,0,rfl,rfl,⟨⟨Int.le_refl _,rfl⟩⟩,HI,⟨⟨rfl,HF.out⟩⟩,HO,HK,HB⟩
 case round =>
  clear HI HF HO HK HB
  obtain ⟨xs,q,x,rfl,rfl,HG,HI,HF,HO,HK,HB⟩:=hrel
  by_cases c6 : x < (l.length : Int)
  ·have c6b0 : decide (x < (l.length : Int)) = true:=decide_eq_true c6
   have p5 : 0 ≤ x:=HG.out.1
   have hlt : x.toNat < l.length:=by omega
   have HT:=zA hlt
   have hxl:=HF.out.1
   have hb0:=HI.out.more hlt
   have hb1:=HI.out.lo
   have hfl : (xs.getD x.toNat z81).f1.length ≤ 17592186044416:=by
    rw [List.getD_eq_getElem?_getD,List.getElem?_eq_getElem (by omega)]
    exact HF.out.2 _ (List.getElem_mem _)
   obtain ⟨km,hkm⟩:=(markIntS_ev (xs.getD x.toNat z81).f1 (q + 1) (by omega) (by omega) hfl).rounds
   have HM:=zA hkm
   have e1 : wrap64 (q + 1) = q + 1:=by unfold wrap64;omega
   have e2 : wrap64 (x + 1) = x + 1:=by have:=HL.out;unfold wrap64;omega
   have E1:=zA e1
   have E2:=zA e2
   obtain ⟨go,co,eo,gb,gl,cl,hgo⟩:=Kd.S_form HO.out (by omega)
   injection eo with ea en ec
   subst ea;subst ec
   clear en
   obtain ⟨oki,ce,hcl,hM,hcc,hfr,hoki,hH⟩:=Kd.S_elem HO.out z81 x p5 c6
   obtain ⟨ve,rfl,ge⟩:=k81_openM hM
   have hx0 : wr.cell? ⟨go,x.toNat * 2,none⟩ = some (.int .i64 (xs.getD x.toNat z81).f0):=hcc 0 _ rfl
   have hf0 : wr.frozen? ⟨go,x.toNat * 2,none⟩ = false:=hfr 0
   have HH:=zA hH
   have GE:=zA ge
   have PG:=zA (show P go from (Kd.S_R HO.out).1 go rfl)
   have HW:=zA (fun k hk => (hoki k hk).1)
   clear hcl hM hcc hfr hoki hH ge e1 e2 hkm hgo gb gl cl hb0 hb1 hfl hxl hlt HO
   go_wp2_with (first|((with_reducible refine gate_store (t:=3) (p:=16) rfl ?_);refine hold ?_))
   unfold Hold
   refine Kd.H_store k81 w0.heap.size rfl rfl 3 _ _ rfl 81 x 0 xs (⟨q,(xs.getD x.toNat z81).f1⟩ : S81) (.int .i64 q) [.int .i64 q] _ P oki oki rfl rfl rfl rfl rfl (by simp [Value.oneCell']) HH.out p5 c6 (show 1 ≤ 2 from by decide) (k81_mkM _ _ _ (⟨q,(xs.getD x.toNat z81).f1⟩ : S81) GE.out) (fun _ h_ => h_) HB.out ?_
   intro w1 hs hb hg
   have HB1:=zA hb
   have HK1:=zA (Kept.of_grown hg HK.out (fun k he => .inl (by injection he with he;subst he;exact PG.out)))
   have hlt:=HT.out
   have hg0 : (xs.set x.toNat (⟨q,(xs.getD x.toNat z81).f1⟩ : S81)).getD x.toNat z81 = ⟨q,(xs.getD x.toNat z81).f1⟩:=by
    rw [List.getD_eq_getElem?_getD,List.getElem?_set_self (by rw [HF.out.1];exact hlt)];rfl
   obtain ⟨okj,cj,hclj,hMj,hccj,hokj,hHj⟩:=Kd.S_lend hs z81 x p5 c6
   rw [hg0] at hMj
   obtain ⟨vj,rfl,gj⟩:=k81_openM hMj
   have hx1 : w1.cell? ⟨go,x.toNat * 2 + 1,none⟩ = some vj:=hccj 1 _ rfl
   have GJ:=zA (show Kd.R (Kd.int .i64) 3 w1 w0.heap.size okj vj (xs.getD x.toNat z81).f1 from gj)
   have HHJ:=zA hHj
   have HWJ:=zA (fun k hk => (hokj k hk).1)
   clear HB HK hs hb hg HH GE HW hclj hMj hccj hokj hHj gj hlt hx0 hf0 hg0
   go_wp2_with (first|(go_at_call 43;refine hold ?_))
   unfold Hold
   refine (laws_markIntS.calls km (fun k => some k = vj.ownBlock) vj (xs.getD x.toNat z81).f1 _ _ _ w0 _ HB1.out (Kd.R_tight rfl GJ.out) (by rw [E1.out];exact HM.out)).mono ?_
   rintro e w2 ⟨rfl,hr,hb2,hk2⟩
   have HB2:=zA hb2
   have HK2:=zA (HK1.out.then_ hk2 (fun k hk => .inl (HWJ.out k (GJ.out.1 k hk.symm))))
   have hM2:=k81_mkM w2 w0.heap.size okj (⟨q,mMarks (q + 1) (xs.getD x.toNat z81).f1.length⟩ : S81) (zGb (Kd.R_tight rfl hr) (fun k hk => GJ.out.1 k hk.symm))
   have hs2:=Kd.H_back (Kd.H_kept HHJ.out hk2 (fun k hk hn h2 => hn (GJ.out.1 k h2.symm))) hM2 (fun _ hk => hk)
   have HO2:=zA hs2
   have HI2:=zA (HI.out.step HT.out)
   have HF2 : Aside0 (((xs.set x.toNat (⟨q,(xs.getD x.toNat z81).f1⟩ : S81)).set x.toNat ⟨q,mMarks (q + 1) (xs.getD x.toNat z81).f1.length⟩).length = l.length ∧ ∀ y ∈ ((xs.set x.toNat (⟨q,(xs.getD x.toNat z81).f1⟩ : S81)).set x.toNat ⟨q,mMarks (q + 1) (xs.getD x.toNat z81).f1.length⟩),y.f1.length ≤ 17592186044416):=by
    have hlt:=HT.out
    have hfl : (xs.getD x.toNat z81).f1.length ≤ 17592186044416:=by
     rw [List.getD_eq_getElem?_getD,List.getElem?_eq_getElem (by rw [HF.out.1];exact hlt)]
     exact HF.out.2 _ (List.getElem_mem _)
    refine ⟨⟨by simp [HF.out.1],fun y hy => ?_⟩⟩
    rcases List.mem_or_eq_of_mem_set hy with h|h
    ·rcases List.mem_or_eq_of_mem_set h with h|h
     ·exact HF.out.2 y h
     ·rw [h];exact hfl
    ·rw [h];show (mMarks _ _).length ≤ _;rw [mMarks_length];exact hfl
   clear HB1 HK1 HHJ GJ hr hb2 hk2 hM2 hs2 hx1 HWJ
   go_wp2
   go_roundg (gk - 1)
   case measure => have:=HG.out;have:=HT.out;omega
   case rel => exact ⟨_,_,(wrap64 (x + 1)),rfl,rfl,⟨by have:=HG.out;have:=HT.out;rw [E2.out];omega⟩,⟨by rw [E2.out,show (x + 1).toNat = x.toNat + 1 by have:=HG.out;omega];exact HI2.out⟩,HF2,HO2,HK2,HB2⟩
  ·have c6b0 : decide (x < (l.length : Int)) = false:=decide_eq_false c6
   have hd:=HI.out.done (by omega)
   have HD:=zA hd
   clear hd c6
   go_wp2
   go_ret
   exact ⟨by rw [← HD.out.2];rfl,by rw [← HD.out.1];exact HO.out,HB.out,HK.out⟩
theorem markAtomS_calls (P0_ : Nat → Prop) (u9000_ : Value) (l0 : List S81) (a1 : Int) (r1 : Int) (r2 : List S81) (w0 w : World) (hB : Below w0.heap.size w0 w) (ho0 : Kd.S k81 81 w w0.heap.size P0_ u9000_ l0) (hz0 : (0 ≤ a1 ∧ a1 + (szA l0 : Int) ≤ 4611686018427387904) ∧ l0.length ≤ 17592186044416 ∧ ∀ x ∈ l0, x.f1.length ≤ 17592186044416) (h : mkA l0 a1 = (r2, r1)) :
  Calls Tryz.prog 44 #[u9000_, .int .i64 a1] w fun e w' => e = .returned (.int .i64 r1) ∧ Kd.S k81 81 w' w0.heap.size (fun k_ => P0_ k_) u9000_ r2 ∧ Below w0.heap.size w0 w' ∧ Kept w w' (fun k_ => P0_ k_) := by
 have e:=markAtomS_walk P0_ u9000_ l0 a1 w0 w hB ho0 hz0.1.1 hz0.1.2 hz0.2.1 hz0.2.2
 rw [h] at e
 exact e

def mkQ (h : List Int) (d : List S81) (m : Int) : Int × List Int × List S81 := ((mkA d (m + (h.length : Int))).2, mMarks m h.length, (mkA d (m + (h.length : Int))).1)
set_option maxHeartbeats 8000000 in
set_option maxRecDepth 100000 in
theorem markQuery_calls (P0_0_ : Nat → Prop) (u9000_ u9001_ : Value) (l0_0 : List Int) (l0_1 : List S81) (a1 : Int) (r1 : Int) (r2 : List Int) (r3 : List S81) (w0 w : World) (hB : Below w0.heap.size w0 w) (ho0_0 : Kd.R (Kd.int .i64) 3 w w0.heap.size P0_0_ u9000_ l0_0) (ho0_1 : Kd.S k81 81 w w0.heap.size (fun k_ => P0_0_ k_ ∧ some k_ ≠ (u9000_ : Value).ownBlock) u9001_ l0_1) (hz0 : (0 ≤ a1 ∧ a1 + (l0_0.length : Int) + (szA l0_1 : Int) ≤ 4611686018427387904) ∧ l0_0.length ≤ 17592186044416 ∧ l0_1.length ≤ 17592186044416 ∧ ∀ x ∈ l0_1, x.f1.length ≤ 17592186044416) (h : mkQ l0_0 l0_1 a1 = (r1, r2, r3)) :
  Calls Tryz.prog 18 #[.agg #[u9000_, u9001_], .int .i64 a1] w fun e w' => e = .returned (.int .i64 r1) ∧ Kd.R (Kd.int .i64) 3 w' w0.heap.size (fun k_ => P0_0_ k_) u9000_ r2 ∧ Kd.S k81 81 w' w0.heap.size (fun k_ => P0_0_ k_ ∧ some k_ ≠ (u9000_ : Value).ownBlock) u9001_ r3 ∧ Below w0.heap.size w0 w' ∧ Kept w w' (fun k_ => P0_0_ k_) := by
 injection h with h1 h2
 injection h2 with h2 h3
 subst h1;subst h2;subst h3
 obtain ⟨A0,c0,rfl⟩:=Kd.R_slice ho0_0
 obtain ⟨A1,c1,rfl⟩:=Kd.S_slice ho0_1
 obtain ⟨km,hkm⟩:=(markIntS_ev l0_0 a1 hz0.1.1 (by have:=hz0.1.2;omega) hz0.2.1).rounds
 have HM:=zA hkm
 have HA:=zA ho0_0
 have HS:=zA ho0_1
 have HZ:=zA hz0
 have HB:=zA hB
 clear hkm ho0_0 ho0_1 hz0 hB
 have hu:=Tryz.underlying38
 go_enter Tryz.func18,Tryz.ntmps18
 go_wp2_with (first|((with_reducible refine gate_dst (N:=2) rfl ?_);refine hold ?_))
 unfold Hold
 refine box_event ?hg (N:=2) ?hd (cs:=#[.slice A0 l0_0.length c0,.slice A1 l0_1.length c1]) (t:=38) ?hr ?_
 case hd => rfl
 case hg => rfl
 case hr => first|(go_simp;done)|(go_simp;rfl)
 intro g hg w1 hbox hb
 have BX:=zA hbox
 have HK:=zA (Kept.of_below hb (fun k_ => P0_0_ k_))
 have GG:=zA (show w.heap.size ≤ g from by rw [hg];exact Nat.le_refl _)
 have n1:=zA (Kd.R_bound (zZ HA.out hb))
 have n2:=zA (zY HS.out hb)
 have n3:=zA (zJb HB.out hb)
 have LT_:=zA (zOb HA.out)
 clear HA HS HB hbox hb hg
 have hx0:=zc (.slice A0 l0_0.length c0) BX 0 rfl
 have hx1:=zc (.slice A1 l0_1.length c1) BX 1 rfl
 go_wp2_with (first|(go_at_call 43;refine hold ?_))
 unfold Hold
 refine (laws_markIntS.calls km (fun k => some k = (Value.slice A0 l0_0.length c0).ownBlock) _ l0_0 a1 _ _ w0 _ n3.out (Kd.R_tight rfl (zGb n1.out (fun _ h => h.1))) HM.out).mono ?_
 rintro e w2 ⟨rfl,hr,hb2,hk2⟩
 have GA:=zA (show ∀ k,some k = (Value.slice A0 l0_0.length c0).ownBlock → P0_0_ k from fun k hk => (n1.out.1 k hk.symm).1)
 have GL:=zA (show ∀ k,some k = (Value.slice A0 l0_0.length c0).ownBlock → k < w.heap.size from fun k hk => LT_.out k hk.symm)
 have m1:=zA (Kd.R_tight rfl hr)
 have m2:=zA (Kd.S_kept n2.out hk2 (fun k h1 h2 => h1.2 h2))
 have m3:=zA hb2
 have m4:=zA (HK.out.then_ hk2 (fun k h => .inl (GA.out k h)))
 have m5:=zA (blk_kept BX.out hk2 (fun h => by have h1:=GL.out _ h;have h2:=GG.out;omega))
 clear n1 n2 n3 HK BX hr hb2 hk2 hx0 hx1 LT_
 have hx0 : w2.cell? ⟨g,0,none⟩ = some (.slice A0 l0_0.length c0):=(zP m5.out 0).trans rfl
 have hx1 : w2.cell? ⟨g,1,none⟩ = some (.slice A1 l0_1.length c1):=(zP m5.out 1).trans rfl
 go_wp2_with (first|(go_at_call 44;refine hold ?_))
 unfold Hold
 refine (markAtomS_walk (fun k_ => P0_0_ k_ ∧ some k_ ≠ (Value.slice A0 l0_0.length c0).ownBlock) _ l0_1 (a1 + (l0_0.length : Int)) w0 _ m3.out m2.out (by have:=HZ.out.1;omega) (by have:=HZ.out.1.2;omega) HZ.out.2.2.1 HZ.out.2.2.2).mono ?_
 rintro e w3 ⟨rfl,hs3,hb3,hk3⟩
 have q1:=zA (zGb (Kd.R_kept m1.out hk3 (fun k h1 h2 => h2.2 h1)) (fun k hk => GA.out k hk))
 have q2:=zA hs3
 have q3:=zA hb3
 have q4:=zA (m4.out.then_ hk3 (fun k h => .inl h.1))
 clear m1 m2 m3 m4 m5 hs3 hb3 hk3 hx0 hx1
 go_wp2
 go_ret
 exact ⟨rfl,q1.out,q2.out,q3.out,q4.out⟩

theorem szA_le {B : Nat} : ∀ (l : List S81), (∀ x ∈ l, x.f1.length ≤ B) → szA l ≤ l.length * (B + 1)
 | [], _ => by simp [szA]
 | x :: xs, h => by
  have h1:=szA_le xs (fun y hy => h y (List.mem_cons_of_mem _ hy))
  have h2:=h x List.mem_cons_self
  simp only [szA,List.length_cons,Nat.add_mul]
  omega
theorem szA_small (l : List S81) (hl : l.length ≤ 1048576) (hs : ∀ x ∈ l, x.f1.length ≤ 1048576) : szA l ≤ 1099512676352 := by
 have h:=szA_le l hs
 have h2 : l.length * (1048576 + 1) ≤ 1048576 * (1048576 + 1):=Nat.mul_le_mul_right _ hl
 omega
theorem markQ_ok (h : List Int) (d : List S81) (m : Int) (hh : h.length ≤ 1048576) (hl : d.length ≤ 1048576) (hs : ∀ x ∈ d, x.f1.length ≤ 1048576) (h0 : 0 ≤ m) (h1 : m ≤ 4000000000000000) :
  ((0 ≤ m ∧ m + (h.length : Int) + (szA d : Int) ≤ 4611686018427387904) ∧ h.length ≤ 17592186044416 ∧ d.length ≤ 17592186044416 ∧ ∀ x ∈ d,x.f1.length ≤ 17592186044416) ∧ m ≤ (mkQ h d m).1 ∧ (mkQ h d m).1 ≤ m + 1099513724928:=by
 have hz:=szA_small d hl hs
 have he : (mkQ h d m).1 = m + (h.length : Int) + (szA d : Int):=by show (mkA d _).2 = _;rw [mkA_end]
 exact ⟨⟨⟨h0,by omega⟩,by omega,by omega,fun x hx => by have:=hs x hx;omega⟩,by rw [he];omega,by rw [he];omega⟩

theorem markSchema_ev (l : List Int) (m : Int) (h0 : 0 ≤ m) (h1 : m ≤ 4611686018427387904) (h : l.length ≤ 17592186044416) : Ev (fun k => laws_markSchema.f k l m) (m + (l.length : Int), mMarks m l.length) := by
 unfold laws_markSchema.f
 exact evb (markIntS_ev l m h0 h1 h) (evc fun k => rfl)


end Go.Proofs.YtfelabhakgcifaaGreat.Hand
