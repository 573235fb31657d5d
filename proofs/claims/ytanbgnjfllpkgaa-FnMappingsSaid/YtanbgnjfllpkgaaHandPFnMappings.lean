/- Walks through Go functions that FnMappings reaches, by hand: each call returns what is said beside it, within the bounds that the theorem names. -/
import Derived.Test.YtanbgnjfllpkgaaQFnMappingsx0
import Derived.Test.YtanbgnjfllpkgaaQFnMappingsx1
import Derived.Test.YtanbgnjfllpkgaaQFnMappingsx2
import Derived.Test.YtanbgnjfllpkgaaQFnMappingsx3
import Derived.Test.YtanbgnjfllpkgaaQFnMappingsx4
import Derived.Test.YtanbgnjfllpkgaaQFnMappingsx5
import Derived.Test.YtanbgnjfllpkgaaQFnMappingsx6
import Derived.Test.YtanbgnjfllpkgaaQFnMappingsx7
import Derived.Test.YtanbgnjfllpkgaaQFnMappingsx8
import Derived.Test.YtanbgnjfllpkgaaQFnMappingsx9
import Derived.Test.YtanbgnjfllpkgaaQFnMappingsx10
import Derived.Test.YtanbgnjfllpkgaaQFnMappingsx11
import Derived.Test.YtanbgnjfllpkgaaQFnMappingsx12
import Derived.Test.YtanbgnjfllpkgaaQFnMappingsx13
import Derived.Test.YtanbgnjfllpkgaaQFnMappingsx14
import Derived.Test.YtanbgnjfllpkgaaQFnMappingsx15
import Derived.Test.YtanbgnjfllpkgaaQFnMappingsx16
import Derived.Test.YtanbgnjfllpkgaaVFnMappingsMine
import Derived.Test.YtanbgnjfllpkgaaPureFnMappings
import Derived.Deep.CutBlock
import Derived.Test.YtanbgnjfllpkgaaHandOFnMappings
set_option linter.unusedVariables false
set_option linter.unusedSimpArgs false
namespace Go.Proofs.Ytanbgnjfllpkgaa.Hand
open Go.RowKit Go.Proofs.Ytanbgnjfllpkgaa.QFnMappings Go.Proofs.YtanbgnjfllpkgaaW.PrintWords Go.Proofs.YtanbgnjfllpkgaaW.PrintLast Go.Proofs.YtanbgnjfllpkgaaW.PrintMore Go.Proofs.Ytanbgnjfllpkgaa.Mine Go.Proofs.Ytanbgnjfllpkgaa.Open Go.Proofs.Ytanbgnjfllpkgaa.Pure
attribute [local go_sem] max2_int min2_int max_two min_two max_three min_three max_four min_four
attribute [local go_sem] run_store_func
set_option maxHeartbeats 8000000 in
set_option maxRecDepth 100000 in
theorem send_calls (P : Nat → Prop) (u : Value) (m : List Int) (t a : Int) (w0 w : World) (hB : Below w0.heap.size w0 w) (ho : Kd.R (Kd.int .i64) 3 w w0.heap.size P u m) (hm : m.length = 20) (ht : t < 20) :
  Calls Try.prog 137 #[u, .int .i64 t, .int .i64 a] w fun e w' => e = .returned (.bool (mSend m t a).isSome) ∧ Kd.R (Kd.int .i64) 3 w' w0.heap.size P u ((mSend m t a).getD m) ∧ Below w0.heap.size w0 w' ∧ Kept w w' P := by
 obtain ⟨go,co,rfl,gb,gl,cl,hgo⟩:=Kd.R_form ho (by omega)
 have HO:=zA ho
 have HB:=zA hB
 have HM:=zA hm
 have HV:=zA (implIsVar_eq3 t)
 clear ho hB gl cl hgo hm
 have GB:=zA gb
 clear gb
 by_cases c1 : t < 0
 ·have ES:=zA (show mSend m t a = if t = a then some m else none from by unfold mSend;rw [if_pos c1])
  have HV2:=zA (show impl_IsVar.f t = some false from by rw [HV.out];congr 1;simp [mIsVar];omega)
  clear c1 ht HV
  go_enter Try.func137,Try.ntmps137
  go_wp2_with (first|(go_at_call 112;refine hold ?_))
  unfold Hold
  refine (impl_IsVar.calls t false _ HV2.out).mono ?_
  rintro e w1 ⟨rfl,hd⟩
  replace HB:=zA (zJb HB.out hd.below)
  replace HO:=zA (zZ HO.out hd.below)
  have HK:=zA (Kept.of_below hd.below P)
  clear hd
  by_cases c2 : t = a
  ·have E2:=zA (show mSend m t a = some m from by rw [ES.out,if_pos c2])
   have c2a : (t != a) = false:=bne_eq_false_iff_eq.mpr c2
   have c2b : (t == a) = true:=beq_iff_eq.mpr c2
   have c2c : decide (t = a) = true:=decide_eq_true c2
   clear c2 ES
   go_wp2
   go_ret
   exact ⟨by rw [E2.out];first|rfl|(simp;done),by rw [E2.out];exact HO.out,HB.out,HK.out⟩
  ·have E2:=zA (show mSend m t a = none from by rw [ES.out,if_neg c2])
   have c2a : (t != a) = true:=bne_iff_ne.mpr c2
   have c2b : (t == a) = false:=beq_eq_false_iff_ne.mpr c2
   have c2c : decide (t = a) = false:=decide_eq_false c2
   clear c2 ES
   go_wp2
   go_ret
   exact ⟨by rw [E2.out];first|rfl|(simp;done),by rw [E2.out];exact HO.out,HB.out,HK.out⟩
 ·have ES:=zA (show mSend m t a = if rd m t = -1000 then some (m.set t.toNat a) else if rd m t = a then some m else none from by unfold mSend;rw [if_neg c1])
  have HV2:=zA (show impl_IsVar.f t = some true from by rw [HV.out];congr 1;simp [mIsVar];omega)
  have p5 : 0 ≤ t:=by omega
  have c6 : t < (m.length : Int):=by have:=HM.out;omega
  clear c1 ht HV
  go_enter Try.func137,Try.ntmps137
  go_wp2_with (first|(go_at_call 112;refine hold ?_))
  unfold Hold
  refine (impl_IsVar.calls t true _ HV2.out).mono ?_
  rintro e w1 ⟨rfl,hd⟩
  replace HB:=zA (zJb HB.out hd.below)
  replace HO:=zA (zZ HO.out hd.below)
  have HK:=zA (Kept.of_below hd.below P)
  clear hd
  obtain ⟨hx0,hf0⟩:=Kd.R_celln 0 HO.out t p5 c6
  replace hx0 : w1.cell? ⟨go,t.toNat,none⟩ = some (.int .i64 (rd m t)):=hx0
  have q5:=eq_true p5
  have q6:=eq_true c6
  by_cases c3 : rd m t = -1000
  ·have E2:=zA (show mSend m t a = some (m.set t.toNat a) from by rw [ES.out,if_pos c3])
   have c3a : (rd m t != -1000) = false:=bne_eq_false_iff_eq.mpr c3
   have c3b : (rd m t == -1000) = true:=beq_iff_eq.mpr c3
   have c3c : decide (rd m t = -1000) = true:=decide_eq_true c3
   have HPP:=zA (Kd.R_putg HO.out t a)
   have PG:=zA (show P go from HO.out.1 go rfl)
   clear c3 ES
   go_wp2_with (first|((with_reducible refine gate_store (t:=3) (p:=21) rfl ?_);refine hold ?_))
   unfold Hold
   refine store_event (t:=3) (p:=21) (v:=?vo_s) (w1:=(w1.setCell ⟨go,t.toNat,none⟩ (.int .i64 a))) ?hgs ?ho ?hn ?hr ?_
   case ho => rfl
   case hgs => rfl
   case hn => rfl
   case hr => first|(go_simp;done)|(go_simp;rfl)
   intro w2 hw
   have H2:=zA (show Kd.R (Kd.int .i64) 3 w2 w0.heap.size P (.slice (some ⟨go,0,none⟩) m.length co) (m.set t.toNat a) from by rw [hw];exact HPP.out.1)
   have B2:=zA (show Below w0.heap.size w0 w2 from by rw [hw];exact zB HB.out GB.out)
   have K2:=zA (show Kept w w2 P from by rw [hw];exact Kept.of_grown HPP.out.2 HK.out (fun k he => .inl (by injection he with he;subst he;exact PG.out)))
   have c7 : t < ((m.set t.toNat a).length : Int):=by simpa using c6
   have hx2 : w2.cell? ⟨go,t.toNat,none⟩ = some (.int .i64 a):=by
    have h1:=(Kd.R_celln 0 H2.out t p5 c6).1
    rw [show rdOf 0 (m.set t.toNat a) t = a from by show (m.set t.toNat a).getD t.toNat 0 = a;rw [List.getD_eq_getElem?_getD,List.getElem?_set_self (by omega)];rfl] at h1
    exact h1
   clear hx0 hf0 hw HB HK HO HPP
   have e1 : (a == a) = true:=by simp
   have e2 : decide (a = a) = true:=by simp
   go_wp2
   go_ret
   exact ⟨by rw [E2.out];first|rfl|(simp;done),by rw [E2.out];exact H2.out,B2.out,K2.out⟩
  ·have c3a : (rd m t != -1000) = true:=bne_iff_ne.mpr c3
   have c3b : (rd m t == -1000) = false:=beq_eq_false_iff_ne.mpr c3
   have c3c : decide (rd m t = -1000) = false:=decide_eq_false c3
   by_cases c2 : rd m t = a
   ·have E2:=zA (show mSend m t a = some m from by rw [ES.out,if_neg c3,if_pos c2])
    have c2a : (rd m t != a) = false:=bne_eq_false_iff_eq.mpr c2
    have c2b : (rd m t == a) = true:=beq_iff_eq.mpr c2
    have c2c : decide (rd m t = a) = true:=decide_eq_true c2
    clear c2 ES c3
    go_wp2
    go_ret
    exact ⟨by rw [E2.out];first|rfl|(simp;done),by rw [E2.out];exact HO.out,HB.out,HK.out⟩
   ·have E2:=zA (show mSend m t a = none from by rw [ES.out,if_neg c3,if_neg c2])
    have c2a : (rd m t != a) = true:=bne_iff_ne.mpr c2
    have c2b : (rd m t == a) = false:=beq_eq_false_iff_ne.mpr c2
    have c2c : decide (rd m t = a) = false:=decide_eq_false c2
    clear c2 ES c3
    go_wp2
    go_ret
    exact ⟨by rw [E2.out];first|rfl|(simp;done),by rw [E2.out];exact HO.out,HB.out,HK.out⟩

structure StT (w : World) (gf gt gy ga : Nat) (f0 f1 t0 t1 y0 a0 a1 : Value) (W : World) : Prop where
 bf : W.heap[gf]? = some (.cells #[f0,f1] 46 (0,0))
 bt : W.heap[gt]? = some (.cells #[t0,t1] 46 (0,0))
 bY : W.heap[gy]? = some (.cells #[y0] 138 (0,0))
 ba : W.heap[ga]? = some (.cells #[a0,a1] 97 (0,0))
 hb : Below w.heap.size w W
theorem StT.below {w : World} {gf gt gy ga : Nat} {f0 f1 t0 t1 y0 a0 a1 : Value} {W W2 : World} (h : StT w gf gt gy ga f0 f1 t0 t1 y0 a0 a1 W) (hb : Below W.heap.size W W2) : StT w gf gt gy ga f0 f1 t0 t1 y0 a0 a1 W2 :=
 ⟨zQ h.bf hb,zQ h.bt hb,zQ h.bY hb,zQ h.ba hb,zJb h.hb hb⟩
theorem StT.kept {w : World} {gf gt gy ga n : Nat} {f0 f1 t0 t1 y0 a0 a1 : Value} {W W2 : World} (h : StT w gf gt gy ga f0 f1 t0 t1 y0 a0 a1 W) (hk : Kept W W2 (fun k => n ≤ k)) (hb : Below w.heap.size w W2) (hf : gf < n) (ht : gt < n) (hy : gy < n) (ha : ga < n) : StT w gf gt gy ga f0 f1 t0 t1 y0 a0 a1 W2 :=
 ⟨blk_kept h.bf hk (by omega),blk_kept h.bt hk (by omega),blk_kept h.bY hk (by omega),blk_kept h.ba hk (by omega),hb⟩
theorem findSome_drop2 {α β : Type} (l : List α) (f : α → Option β) (i : Nat) (h : i < l.length) : (l.drop i).findSome? f = ((f l[i]).or ((l.drop (i + 1)).findSome? f)) := by
 rw [List.drop_eq_getElem_cons h,List.findSome?_cons]
 cases f l[i] <;> rfl
def InvU (ts us m m' : List Int) (j : Nat) (b : Bool) : Prop := (b = true ∧ mUni (ts.drop j) (us.drop j) m' = mUni ts us m) ∨ (b = false ∧ mUni ts us m = (m', false))
theorem InvU.step {ts us m m' : List Int} {j : Nat} (h : InvU ts us m m' j true) (ht : j < ts.length) (hu : j < us.length) : InvU ts us m ((mSend m' ts[j] us[j]).getD m') (j + 1) (mSend m' ts[j] us[j]).isSome := by
 rcases h with ⟨_,h⟩|⟨h,_⟩
 ·rw [List.drop_eq_getElem_cons ht,List.drop_eq_getElem_cons hu] at h
  simp only [mUni] at h
  cases e : mSend m' ts[j] us[j] with
  | none => rw [e] at h; exact .inr ⟨rfl, h.symm⟩
  | some m2 => rw [e] at h; exact .inl ⟨rfl, h⟩
 ·cases h
theorem InvU.keep {ts us m m' : List Int} {j : Nat} (h : InvU ts us m m' j false) : InvU ts us m m' (j + 1) false := by
 rcases h with ⟨h,_⟩|h
 ·cases h
 ·exact .inr h
theorem InvU.done {ts us m m' : List Int} {j : Nat} {b : Bool} (h : InvU ts us m m' j b) (ht : ts.length ≤ j) : mUni ts us m = (m', b) := by
 rcases h with ⟨hb,h⟩|⟨hb,h⟩
 ·rw [hb,← h,List.drop_eq_nil_of_le ht];cases us.drop j <;> rfl
 ·rw [hb,h]
set_option maxHeartbeats 8000000 in
set_option maxRecDepth 100000 in
theorem try_walk (Ah : Option Addr) (nh ch : Nat) (A1 : Option Addr) (c1 : Nat) (l1 : List S97) (Ai : Option Addr) (ni ci : Nat) (A2 : Option Addr) (c2 : Nat) (l2 : List S97) (gf gt gy B : Nat) (hz : (l1.length ≤ 1048576 ∧ l2.length ≤ 1048576) ∧ (∀ x ∈ l1, x.f1.length ≤ 1048576) ∧ ∀ a ∈ l1, okTs a.f1) :
  ∀ (rest pre : List S97),l1 = pre ++ rest → ∀ (A3 : Option Addr) (c3 : Nat) (m : List Int) (w : World),m.length = 20 → B ≤ w.heap.size → Kd.R (Kd.int .i64) 3 w B (fun _ => True) (.slice A3 m.length c3) m → Kd.C k97 w A1 l1.length l1 → Kd.C k97 w A2 l2.length l2 →
  w.heap[gf]? = some (.cells #[.slice Ah nh ch,.slice A1 l1.length c1] 46 (0,0)) → w.heap[gt]? = some (.cells #[.slice Ai ni ci,.slice A2 l2.length c2] 46 (0,0)) → w.heap[gy]? = some (.cells #[.func (.func 138) #[] #[.pointer (some ⟨gf,0,none⟩),.pointer (some ⟨gt,0,none⟩),.pointer (some ⟨gy,0,none⟩)]] 138 (0,0)) →
  Calls Try.prog 138 #[.slice A3 m.length c3, .int .i64 (pre.length : Int), .pointer (some ⟨gf, 0, none⟩), .pointer (some ⟨gt, 0, none⟩), .pointer (some ⟨gy, 0, none⟩)] w fun e w' => ∃ v : Value, e = .returned v ∧ ((∃ ys : List Int, mTry l2 rest m = some ys ∧ Kd.R (Kd.int .i64) 3 w' B (fun _ => True) v ys ∧ ys.length = 20) ∨ (v = .slice none 0 0 ∧ mTry l2 rest m = none)) ∧ Below w.heap.size w w' := by
 intro rest
 induction rest with
 | nil =>
  intro pre he A3 c3 m w hm hBw hr3 hr1 hr2 hbf hbt hby
  have hnn : ∀ W : World,(binOp BinOp.neq 38 (.slice none 0 0) (.slice none 0 0)).run Try.prog W = .ok (.bool false) W:=fun W => nenil Try.underlying38 none 0 0 W
  have hns : ∀ (g : Addr) (n c : Nat) (W : World),(binOp BinOp.neq 38 (.slice (some g) n c) (.slice none 0 0)).run Try.prog W = .ok (.bool true) W:=fun g n c W => nenil Try.underlying38 (some g) n c W
  have hu46:=Try.underlying46
  have hu97:=Try.underlying97
  have HZ:=zA hz
  have HE:=zA he
  have HM:=zA hm
  have HBW:=zA hBw
  have R3:=zA hr3
  have R1:=zA hr1
  have R2:=zA hr2
  have HB:=zA (Below.refl w.heap.size w)
  have BF:=zA hbf
  have BT:=zA hbt
  have BY:=zA hby
  clear hm hBw hr3 hr1 hr2 he hz hbf hbt hby
  have e1 : (pre.length : Int) = (l1.length : Int):=by have h:=HE.out;rw [h];simp
  have hx1:=zc (.slice A1 l1.length c1) BF 1 rfl
  go_enter Try.func138,Try.ntmps138
  have e2 : ((pre.length : Int) == (l1.length : Int)) = true:=beq_iff_eq.mpr e1
  have e3 : decide ((pre.length : Int) = (l1.length : Int)) = true:=decide_eq_true e1
  clear e1
  go_wp2
  go_ret
  exact ⟨_,rfl,.inl ⟨m,rfl,R3.out,HM.out⟩,HB.out⟩
 | cons a rest ih =>
  intro pre he A3 c3 m w hm hBw hr3 hr1 hr2 hbf hbt hby
  have hnn : ∀ W : World,(binOp BinOp.neq 38 (.slice none 0 0) (.slice none 0 0)).run Try.prog W = .ok (.bool false) W:=fun W => nenil Try.underlying38 none 0 0 W
  have hns : ∀ (g : Addr) (n c : Nat) (W : World),(binOp BinOp.neq 38 (.slice (some g) n c) (.slice none 0 0)).run Try.prog W = .ok (.bool true) W:=fun g n c W => nenil Try.underlying38 (some g) n c W
  have hu46:=Try.underlying46
  have hu97:=Try.underlying97
  have HZ:=zA hz
  have HE:=zA he
  have HM:=zA hm
  have HBW:=zA hBw
  have R3:=zA hr3
  have R1:=zA hr1
  have R2:=zA hr2
  have HB:=zA (Below.refl w.heap.size w)
  have BF:=zA hbf
  have BT:=zA hbt
  have BY:=zA hby
  clear hm hBw hr3 hr1 hr2 he hz hbf hbt hby
  have HI:=zA ih
  clear ih
  have HLT:=zA (show (pre.length : Int) < (l1.length : Int) from lt_of HE.out)
  have HRD:=zA (show rd_T97 l1 (pre.length : Int) = a from rdIA_of HE.out)
  have HIN:=zA (show a ∈ l1 from by rw [HE.out];simp)
  have HP:=zA (show (pre ++ [a]).length = pre.length + 1 from by simp)
  have HPE:=zA (show l1 = (pre ++ [a]) ++ rest from by rw [HE.out];simp)
  obtain ⟨ad1,Aa,ca,e_,hxa0,hxa1,hla,hia⟩:=at_T97 R1.out (pre.length : Int) (by omega) HLT.out
  cases e_
  rw [HRD.out] at hxa0 hxa1 hla hia
  have IA:=zA hia
  have LA:=zA hla
  clear hla hia
  have p5:=eq_true (show 0 ≤ (pre.length : Int) by omega)
  have q5:=eq_true HLT.out
  generalize hi_ : (pre.length : Int) = ix at hxa0 hxa1 p5 q5 HLT ⊢
  have HIX:=zA hi_
  clear hi_
  have ne1 : (ix == (l1.length : Int)) = false:=beq_eq_false_iff_ne.mpr (by have h:=HLT.out;omega)
  have ne2 : decide (ix = (l1.length : Int)) = false:=decide_eq_false (by have h:=HLT.out;omega)
  have hx1:=zc (.slice (some ad1) l1.length c1) BF 1 rfl
  go_enter Try.func138,Try.ntmps138
  go_wp2_with (first|((with_reducible refine gate_dst (N:=8) rfl ?_);refine hold ?_))
  unfold Hold
  refine zbx 8 #[.int .i64 0,.slice none 0 0] 97 ?_
  intro ga hg w3 hbox hb
  have BA_:=zA hbox
  have HG_:=zA hg
  have HB5:=zA hb
  clear hbox hg hb
  have hy0:=zc (.int .i64 0) BA_ 0 rfl
  have hy1:=zc (.slice none 0 0) BA_ 1 rfl
  have hf0:=blk_frozen BA_.out 0
  have hf1:=blk_frozen BA_.out 1
  go_wp2_with (first|((with_reducible refine gate_store (t:=97) (p:=8) rfl ?_);refine hold ?_))
  unfold Hold
  refine store_event (t:=97) (p:=8) (v:=?vo_2) (w1:=((w3.setCell ⟨ga,0,none⟩ (.int .i64 a.f0)).setCell ⟨ga,1,none⟩ (.slice Aa a.f1.length ca))) ?hgs2 ?ho2 ?hn2 ?hrs2 ?_
  case ho2 => rfl
  case hgs2 => rfl
  case hn2 => rfl
  case hrs2 => first|(go_simp;done)|(go_simp;rfl)
  intro w4 hw
  have hb : Below w.heap.size w w4:=by rw [hw];exact (zB (zB HB5.out (by rw [HG_.out];exact Nat.le_refl _)) (by rw [HG_.out];exact Nat.le_refl _))
  have BN:=zA (show w4.heap[ga]? = some (.cells #[.int .i64 a.f0,.slice Aa a.f1.length ca] 97 (0,0)) from by rw [hw];exact (blk_put (cs:=#[.int .i64 a.f0,.slice none 0 0]) (blk_put (cs:=#[.int .i64 0,.slice none 0 0]) BA_.out 0 _ rfl) 1 _ rfl))
  have ST:=zA (show StT w gf gt gy ga (.slice Ah nh ch) (.slice (some ad1) l1.length c1) (.slice Ai ni ci) (.slice A2 l2.length c2) (.func (.func 138) #[] #[.pointer (some ⟨gf,0,none⟩),.pointer (some ⟨gt,0,none⟩),.pointer (some ⟨gy,0,none⟩)]) (.int .i64 a.f0) (.slice Aa a.f1.length ca) w4 from ⟨zQ BF.out hb,zQ BT.out hb,zQ BY.out hb,BN.out,zJb HB.out hb⟩)
  clear hw hb HB5 HG_ BA_ hy0 hf0 hy1 hf1
  clear BN BF BT BY HB hx1 hxa0 hxa1
  have hx1 : w4.cell? ⟨gt,1,none⟩ = some (.slice A2 l2.length c2):=(zP ST.out.bt 1).trans rfl
  go_wp2
  go_loopg [30] l2.length (fun kq v30 w' => ∃ x : Int,v30 = .int .i64 x ∧ Aside0 (0 ≤ x ∧ kq + x.toNat = l2.length) ∧ Aside0 ((l2.drop x.toNat).findSome? (fun b => if a.f0 = b.f0 ∧ a.f1.length = b.f1.length ∧ (mUni a.f1 b.f1 m).2 = true then mTry l2 rest (mUni a.f1 b.f1 m).1 else none) = l2.findSome? (fun b => if a.f0 = b.f0 ∧ a.f1.length = b.f1.length ∧ (mUni a.f1 b.f1 m).2 = true then mTry l2 rest (mUni a.f1 b.f1 m).1 else none)) ∧ Aside0 (StT w gf gt gy ga (.slice Ah nh ch) (.slice (some ad1) l1.length c1) (.slice Ai ni ci) (.slice A2 l2.length c2) (.func (.func 138) #[] #[.pointer (some ⟨gf,0,none⟩),.pointer (some ⟨gt,0,none⟩),.pointer (some ⟨gy,0,none⟩)]) (.int .i64 a.f0) (.slice Aa a.f1.length ca) w'))
  case atStart => exact ⟨0,rfl,⟨⟨Int.le_refl _,rfl⟩⟩,⟨by rw [show (0 : Int).toNat = 0 from rfl,List.drop_zero]⟩,ST⟩
  case round =>
   clear ST hx1
   obtain ⟨x,rfl,HG,HF,ST⟩:=hrel
   by_cases c6 : x < (l2.length : Int)
   ·have c6b0 : decide (x < (l2.length : Int)) = true:=decide_eq_true c6
    have p5 : 0 ≤ x:=HG.out.1
    have hlt : x.toNat < l2.length:=by omega
    have HLT2:=zA hlt
    obtain ⟨ad2,Ab,cb,e_,hxb0,hxb1,hlb,hib⟩:=at_T97 R2.out x p5 c6
    cases e_
    have IB:=zA hib
    have LB:=zA hlb
    replace hxb0:=(ST.out.hb.cell (World.block_lt_of_cell? w _ hxb0)).trans hxb0
    replace hxb1:=(ST.out.hb.cell (World.block_lt_of_cell? w _ hxb1)).trans hxb1
    have e1 : rd_T97 l2 x = l2[x.toNat]:=by show l2.getD x.toNat _ = _;rw [List.getD_eq_getElem?_getD,List.getElem?_eq_getElem hlt];rfl
    have HFS:=zA (show (l2.drop x.toNat).findSome? (fun b => if a.f0 = b.f0 ∧ a.f1.length = b.f1.length ∧ (mUni a.f1 b.f1 m).2 = true then mTry l2 rest (mUni a.f1 b.f1 m).1 else none) = (((fun b => if a.f0 = b.f0 ∧ a.f1.length = b.f1.length ∧ (mUni a.f1 b.f1 m).2 = true then mTry l2 rest (mUni a.f1 b.f1 m).1 else none) (rd_T97 l2 x)).or ((l2.drop (x.toNat + 1)).findSome? (fun b => if a.f0 = b.f0 ∧ a.f1.length = b.f1.length ∧ (mUni a.f1 b.f1 m).2 = true then mTry l2 rest (mUni a.f1 b.f1 m).1 else none))) from by rw [e1];exact findSome_drop2 l2 _ x.toNat hlt)
    clear hib hlb hlt e1
    replace p5:=eq_true p5
    replace c6:=eq_true c6
    generalize rd_T97 l2 x = el at *
    go_wp2_with (first|((with_reducible refine gate_dst (N:=10) rfl ?_);refine hold ?_))
    unfold Hold
    refine zbx 10 #[.int .i64 0,.slice none 0 0] 97 ?_
    intro gb hg w7 hbox hb
    have BA_:=zA hbox
    have HG_:=zA hg
    have HB5:=zA hb
    clear hbox hg hb
    have hy0:=zc (.int .i64 0) BA_ 0 rfl
    have hy1:=zc (.slice none 0 0) BA_ 1 rfl
    have hf0:=blk_frozen BA_.out 0
    have hf1:=blk_frozen BA_.out 1
    go_wp2_with (first|((with_reducible refine gate_store (t:=97) (p:=10) rfl ?_);refine hold ?_))
    unfold Hold
    refine store_event (t:=97) (p:=10) (v:=?vo_3) (w1:=((w7.setCell ⟨gb,0,none⟩ (.int .i64 el.f0)).setCell ⟨gb,1,none⟩ (.slice Ab el.f1.length cb))) ?hgs3 ?ho3 ?hn3 ?hrs3 ?_
    case ho3 => rfl
    case hgs3 => rfl
    case hn3 => rfl
    case hrs3 => first|(go_simp;done)|(go_simp;rfl)
    intro w8 hw
    have hb : Below wr.heap.size wr w8:=by rw [hw];exact (zB (zB HB5.out (by rw [HG_.out];exact Nat.le_refl _)) (by rw [HG_.out];exact Nat.le_refl _))
    have BN:=zA (show w8.heap[gb]? = some (.cells #[.int .i64 el.f0,.slice Ab el.f1.length cb] 97 (0,0)) from by rw [hw];exact (blk_put (cs:=#[.int .i64 el.f0,.slice none 0 0]) (blk_put (cs:=#[.int .i64 0,.slice none 0 0]) BA_.out 0 _ rfl) 1 _ rfl))
    replace ST:=zA (ST.out.below hb)
    clear hw hb HB5 HG_ BA_ hy0 hf0 hy1 hf1
    clear hxb0 hxb1
    have hx0 : w8.cell? ⟨ga,0,none⟩ = some (.int .i64 a.f0):=(zP ST.out.ba 0).trans rfl
    have hx1 : w8.cell? ⟨ga,1,none⟩ = some (.slice Aa a.f1.length ca):=(zP ST.out.ba 1).trans rfl
    have hx2:=zc (.int .i64 el.f0) BN 0 rfl
    have hx3:=zc (.slice Ab el.f1.length cb) BN 1 rfl
    by_cases d1 : a.f0 = el.f0
    ·have D1:=zA d1
     have d1a : (a.f0 != el.f0) = false:=bne_eq_false_iff_eq.mpr d1
     have d1b : (a.f0 == el.f0) = true:=beq_iff_eq.mpr d1
     have d1c : decide (a.f0 = el.f0) = true:=decide_eq_true d1
     clear d1
     by_cases d2 : (a.f1.length : Int) = (el.f1.length : Int)
     ·have D2:=zA (show a.f1.length = el.f1.length from by omega)
      have d2a : ((a.f1.length : Int) != (el.f1.length : Int)) = false:=bne_eq_false_iff_eq.mpr d2
      have d2b : ((a.f1.length : Int) == (el.f1.length : Int)) = true:=beq_iff_eq.mpr d2
      have d2c : decide ((a.f1.length : Int) = (el.f1.length : Int)) = true:=decide_eq_true d2
      clear d2
      obtain ⟨n9,hn9⟩ : ∃ n9 : Nat,n9 = w8.heap.size:=⟨_,rfl⟩
      have GL:=zA (show (gf < n9 ∧ gt < n9 ∧ gy < n9 ∧ ga < n9) ∧ gb < n9 ∧ w.heap.size ≤ n9 from by rw [hn9];exact ⟨⟨blk_lt ST.out.bf,blk_lt ST.out.bt,blk_lt ST.out.bY,blk_lt ST.out.ba⟩,blk_lt BN.out,ST.out.hb.size⟩)
      go_wp2_with (first|(go_at_call 139;refine hold ?_))
      unfold Hold
      refine (impl_copyInts.calls A3 c3 m m _ (zKb (Kd.R_reads' R3.out).2.2 ST.out.hb) (Kd.R_reads' R3.out).2.1 (copyInts_eq m (by have:=HM.out;omega))).mono ?_
      rintro e w9 ⟨vn,rfl,hon,hb⟩
      have ON:=zA (show Kd.R (Kd.int .i64) 3 w9 w.heap.size (fun k => n9 ≤ k) vn m from zGb (newR hon ST.out.hb.size) (fun k hk => by rw [hn9];exact hk.1.1))
      replace ST:=zA (ST.out.below hb)
      replace BN:=zA (zQ BN.out hb)
      clear hon hb hx0 hx1 hx2 hx3 hn9
      have hx1 : w9.cell? ⟨ga,1,none⟩ = some (.slice Aa a.f1.length ca):=(zP ST.out.ba 1).trans rfl
      go_wp2
      go_loopg [12,53] a.f1.length (fun kq v12 v53 w' => ∃ (bq : Bool) (j : Int) (mq : List Int),v12 = .bool bq ∧ v53 = .int .i64 j ∧ Aside0 (0 ≤ j ∧ kq + j.toNat = a.f1.length) ∧ Aside0 (InvU a.f1 el.f1 m mq j.toNat bq ∧ mq.length = 20) ∧ Aside0 (Kd.R (Kd.int .i64) 3 w' w.heap.size (fun k => n9 ≤ k) vn mq) ∧ Aside0 (w'.heap[gb]? = some (.cells #[.int .i64 el.f0,.slice Ab el.f1.length cb] 97 (0,0))) ∧ Aside0 (StT w gf gt gy ga (.slice Ah nh ch) (.slice (some ad1) l1.length c1) (.slice Ai ni ci) (.slice (some ad2) l2.length c2) (.func (.func 138) #[] #[.pointer (some ⟨gf,0,none⟩),.pointer (some ⟨gt,0,none⟩),.pointer (some ⟨gy,0,none⟩)]) (.int .i64 a.f0) (.slice Aa a.f1.length ca) w'))
      case atStart => exact ⟨true,0,m,rfl,rfl,⟨⟨Int.le_refl _,rfl⟩⟩,⟨⟨.inl ⟨rfl,by rw [show (0 : Int).toNat = 0 from rfl,List.drop_zero,List.drop_zero]⟩,HM.out⟩⟩,ON,BN,ST⟩
      case round =>
       clear ON BN ST hx1
       obtain ⟨bq,j,mq,rfl,rfl,HG2,HV,ON,BN,ST⟩:=hrel
       by_cases c8 : j < (a.f1.length : Int)
       ·have c8b0 : decide (j < (a.f1.length : Int)) = true:=decide_eq_true c8
        have p7 : 0 ≤ j:=HG2.out.1
        have hlt : j.toNat < a.f1.length:=by omega
        have HLT3:=zA hlt
        obtain ⟨ad3,e_,hxt⟩:=Kd.at_int IA.out j p7 c8
        replace hxt:=(ST.out.hb.cell (World.block_lt_of_cell? w _ hxt)).trans hxt
        have c9 : j < (el.f1.length : Int):=by have:=D2.out;omega
        obtain ⟨ad4,e4_,hxu⟩:=Kd.at_int IB.out j p7 c9
        replace hxu:=(ST.out.hb.cell (World.block_lt_of_cell? w _ hxu)).trans hxu
        have et : rd a.f1 j = a.f1[j.toNat]:=by show a.f1.getD j.toNat 0 = _;rw [List.getD_eq_getElem?_getD,List.getElem?_eq_getElem hlt];rfl
        have eu : rd el.f1 j = el.f1[j.toNat]'(by have:=D2.out;omega):=by show el.f1.getD j.toNat 0 = _;rw [List.getD_eq_getElem?_getD,List.getElem?_eq_getElem (by have:=D2.out;omega)];rfl
        have OKT:=zA (show rd a.f1 j < 20 from by rw [et];exact HZ.out.2.2 a HIN.out _ (List.getElem_mem _))
        cases e_
        cases e4_
        replace p7:=eq_true p7
        replace c8:=eq_true c8
        replace c9:=eq_true c9
        cases bq
        ·have HV2:=zA (show InvU a.f1 el.f1 m mq (j.toNat + 1) false ∧ mq.length = 20 from ⟨HV.out.1.keep,HV.out.2⟩)
         go_wp2
         go_roundg (a.f1.length - (j.toNat + 1))
         case measure => have:=HG2.out;have:=HLT3.out;omega
         case rel => exact ⟨false,(wrap64 (j + 1)),mq,rfl,rfl,⟨by have:=HG2.out;have:=HLT3.out;have h4:=HZ.out.2.1 a HIN.out;rw [w64 (by omega) (by omega)];omega⟩,⟨by rw [w64 (by have:=HG2.out;omega) (by have h4:=HZ.out.2.1 a HIN.out;have:=HLT3.out;omega),show (j + 1).toNat = j.toNat + 1 by have:=HG2.out;omega];exact HV2.out⟩,ON,BN,ST⟩
        ·have HV2:=zA (show InvU a.f1 el.f1 m ((mSend mq (rd a.f1 j) (rd el.f1 j)).getD mq) (j.toNat + 1) (mSend mq (rd a.f1 j) (rd el.f1 j)).isSome ∧ ((mSend mq (rd a.f1 j) (rd el.f1 j)).getD mq).length = 20 from ⟨by rw [et,eu];exact HV.out.1.step _ _,by cases e : mSend mq (rd a.f1 j) (rd el.f1 j) with|none => exact HV.out.2|some m2 => exact (mSend_len e).trans HV.out.2⟩)
         clear et eu hlt
         have hx3:=zc (.slice (some ad4) el.f1.length cb) BN 1 rfl
         obtain ⟨An,cn,rfl⟩:=Kd.R_slice ON.out
         go_wp2_with (first|(go_at_call 137;refine hold ?_))
         unfold Hold
         refine (send_calls (fun k => n9 ≤ k) (.slice An mq.length cn) mq (rd a.f1 j) (rd el.f1 j) w _ ST.out.hb ON.out HV.out.2 OKT.out).mono ?_
         rintro e w10 ⟨rfl,hor,hbr,hkr⟩
         replace ST:=zA (ST.out.kept hkr hbr GL.out.1.1 GL.out.1.2.1 GL.out.1.2.2.1 GL.out.1.2.2.2)
         replace BN:=zA (blk_kept BN.out hkr (by have:=GL.out.2.1;omega))
         replace ON:=zA hor
         clear hor hbr hkr hxt hxu hx3
         generalize (mSend mq (rd a.f1 j) (rd el.f1 j)).isSome = b2 at HV2 ⊢
         generalize (mSend mq (rd a.f1 j) (rd el.f1 j)).getD mq = m2 at HV2 ON
         go_wp2
         go_roundg (a.f1.length - (j.toNat + 1))
         case measure => have:=HG2.out;have:=HLT3.out;omega
         case rel => exact ⟨b2,(wrap64 (j + 1)),m2,rfl,rfl,⟨by have:=HG2.out;have:=HLT3.out;have h4:=HZ.out.2.1 a HIN.out;rw [w64 (by omega) (by omega)];omega⟩,⟨by rw [w64 (by have:=HG2.out;omega) (by have h4:=HZ.out.2.1 a HIN.out;have:=HLT3.out;omega),show (j + 1).toNat = j.toNat + 1 by have:=HG2.out;omega];exact HV2.out⟩,ON,BN,ST⟩
       ·have c8b0 : decide (j < (a.f1.length : Int)) = false:=decide_eq_false c8
        have HU:=zA (show mUni a.f1 el.f1 m = (mq,bq) from HV.out.1.done (by have:=HG2.out.1;omega))
        clear c8
        cases bq
        ·have HU2:=zA (show (mUni a.f1 el.f1 m).2 = false from by rw [HU.out])
         have HX:=zA (show (l2.drop (x.toNat + 1)).findSome? (fun b => if a.f0 = b.f0 ∧ a.f1.length = b.f1.length ∧ (mUni a.f1 b.f1 m).2 = true then mTry l2 rest (mUni a.f1 b.f1 m).1 else none) = l2.findSome? (fun b => if a.f0 = b.f0 ∧ a.f1.length = b.f1.length ∧ (mUni a.f1 b.f1 m).2 = true then mTry l2 rest (mUni a.f1 b.f1 m).1 else none) from by rw [← HF.out,HFS.out];rw [if_neg (by rw [HU2.out];simp)];rfl)
         go_wp2
         go_roundg (l2.length - (x.toNat + 1))
         case measure => have:=HG.out;have:=HLT2.out;omega
         case rel => exact ⟨(wrap64 (x + 1)),rfl,⟨by have:=HG.out;have:=HLT2.out;have h4:=HZ.out.1;rw [w64 (by omega) (by omega)];omega⟩,⟨by rw [w64 (by have:=HG.out;omega) (by have h4:=HZ.out.1;have:=HLT2.out;omega),show (x + 1).toNat = x.toNat + 1 by have:=HG.out;omega];exact HX.out⟩,ST⟩
        ·have HFE:=zA (show (fun b => if a.f0 = b.f0 ∧ a.f1.length = b.f1.length ∧ (mUni a.f1 b.f1 m).2 = true then mTry l2 rest (mUni a.f1 b.f1 m).1 else none) el = mTry l2 rest mq from by simp only [];rw [HU.out];exact if_pos ⟨D1.out,D2.out,rfl⟩)
         have hx0 : wr.cell? ⟨gy,0,none⟩ = some (.func (.func 138) #[] #[.pointer (some ⟨gf,0,none⟩),.pointer (some ⟨gt,0,none⟩),.pointer (some ⟨gy,0,none⟩)]):=(zP ST.out.bY 0).trans rfl
         obtain ⟨An,cn,rfl⟩:=Kd.R_slice ON.out
         have ew : wrap64 (ix + 1) = ((pre ++ [a]).length : Int):=by rw [HP.out,← HIX.out];have h4:=HZ.out.1;have h5:=HLT.out;have h6:=HIX.out;rw [w64 (by omega) (by omega)];omega
         have EW:=zA ew
         clear ew
         go_wp2_with (first|(go_at_call 138;refine hold ?_))
         unfold Hold
         rw [EW.out]
         refine (HI.out (pre ++ [a]) HPE.out An cn mq wr HV.out.2 (Nat.le_trans HBW.out ST.out.hb.size) (zHb (zGb ON.out (fun _ _ => trivial)) HBW.out) (zKb R1.out ST.out.hb) (zKb R2.out ST.out.hb) ST.out.bf ST.out.bt ST.out.bY).mono ?_
         rintro e w11 ⟨vy,rfl,hyb,hb⟩
         replace ST:=zA (ST.out.below hb)
         clear hb hx0
         rcases hyb with ⟨ys,hy1,hy2,hy3⟩|⟨rfl,hyb⟩
         ·have HX:=zA (show mTry l2 (a :: rest) m = some ys from by show l2.findSome? (fun b => if a.f0 = b.f0 ∧ a.f1.length = b.f1.length ∧ (mUni a.f1 b.f1 m).2 = true then mTry l2 rest (mUni a.f1 b.f1 m).1 else none) = _;rw [← HF.out,HFS.out,HFE.out,hy1];rfl)
          obtain ⟨gg,cg,rfl,_,_,_,_⟩:=Kd.R_form hy2 (by omega)
          have Y2:=zA hy2
          have Y3:=zA hy3
          clear hy1 hy2 hy3
          go_wp2
          go_ret
          exact ⟨_,rfl,.inl ⟨ys,HX.out,Y2.out,Y3.out⟩,ST.out.hb⟩
         ·have HYN:=zA hyb
          clear hyb
          have HX:=zA (show (l2.drop (x.toNat + 1)).findSome? (fun b => if a.f0 = b.f0 ∧ a.f1.length = b.f1.length ∧ (mUni a.f1 b.f1 m).2 = true then mTry l2 rest (mUni a.f1 b.f1 m).1 else none) = l2.findSome? (fun b => if a.f0 = b.f0 ∧ a.f1.length = b.f1.length ∧ (mUni a.f1 b.f1 m).2 = true then mTry l2 rest (mUni a.f1 b.f1 m).1 else none) from by rw [← HF.out,HFS.out];rw [HFE.out,HYN.out];rfl)
          go_wp2
          go_roundg (l2.length - (x.toNat + 1))
          case measure => have:=HG.out;have:=HLT2.out;omega
          case rel => exact ⟨(wrap64 (x + 1)),rfl,⟨by have:=HG.out;have:=HLT2.out;have h4:=HZ.out.1;rw [w64 (by omega) (by omega)];omega⟩,⟨by rw [w64 (by have:=HG.out;omega) (by have h4:=HZ.out.1;have:=HLT2.out;omega),show (x + 1).toNat = x.toNat + 1 by have:=HG.out;omega];exact HX.out⟩,ST⟩
     ·have D2:=zA (show ¬ a.f1.length = el.f1.length from by omega)
      have d2a : ((a.f1.length : Int) != (el.f1.length : Int)) = true:=bne_iff_ne.mpr d2
      have d2b : ((a.f1.length : Int) == (el.f1.length : Int)) = false:=beq_eq_false_iff_ne.mpr d2
      have d2c : decide ((a.f1.length : Int) = (el.f1.length : Int)) = false:=decide_eq_false d2
      clear d2
      have HX:=zA (show (l2.drop (x.toNat + 1)).findSome? (fun b => if a.f0 = b.f0 ∧ a.f1.length = b.f1.length ∧ (mUni a.f1 b.f1 m).2 = true then mTry l2 rest (mUni a.f1 b.f1 m).1 else none) = l2.findSome? (fun b => if a.f0 = b.f0 ∧ a.f1.length = b.f1.length ∧ (mUni a.f1 b.f1 m).2 = true then mTry l2 rest (mUni a.f1 b.f1 m).1 else none) from by rw [← HF.out,HFS.out];rw [if_neg (fun h => D2.out h.2.1)];rfl)
      go_wp2
      go_roundg (l2.length - (x.toNat + 1))
      case measure => have:=HG.out;have:=HLT2.out;omega
      case rel => exact ⟨(wrap64 (x + 1)),rfl,⟨by have:=HG.out;have:=HLT2.out;have h4:=HZ.out.1;rw [w64 (by omega) (by omega)];omega⟩,⟨by rw [w64 (by have:=HG.out;omega) (by have h4:=HZ.out.1;have:=HLT2.out;omega),show (x + 1).toNat = x.toNat + 1 by have:=HG.out;omega];exact HX.out⟩,ST⟩
    ·have D1:=zA d1
     have d1a : (a.f0 != el.f0) = true:=bne_iff_ne.mpr d1
     have d1b : (a.f0 == el.f0) = false:=beq_eq_false_iff_ne.mpr d1
     have d1c : decide (a.f0 = el.f0) = false:=decide_eq_false d1
     clear d1
     have HX:=zA (show (l2.drop (x.toNat + 1)).findSome? (fun b => if a.f0 = b.f0 ∧ a.f1.length = b.f1.length ∧ (mUni a.f1 b.f1 m).2 = true then mTry l2 rest (mUni a.f1 b.f1 m).1 else none) = l2.findSome? (fun b => if a.f0 = b.f0 ∧ a.f1.length = b.f1.length ∧ (mUni a.f1 b.f1 m).2 = true then mTry l2 rest (mUni a.f1 b.f1 m).1 else none) from by rw [← HF.out,HFS.out];rw [if_neg (fun h => D1.out h.1)];rfl)
     go_wp2
     go_roundg (l2.length - (x.toNat + 1))
     case measure => have:=HG.out;have:=HLT2.out;omega
     case rel => exact ⟨(wrap64 (x + 1)),rfl,⟨by have:=HG.out;have:=HLT2.out;have h4:=HZ.out.1;rw [w64 (by omega) (by omega)];omega⟩,⟨by rw [w64 (by have:=HG.out;omega) (by have h4:=HZ.out.1;have:=HLT2.out;omega),show (x + 1).toNat = x.toNat + 1 by have:=HG.out;omega];exact HX.out⟩,ST⟩
   ·have c6b0 : decide (x < (l2.length : Int)) = false:=decide_eq_false c6
    have HX:=zA (show mTry l2 (a :: rest) m = none from by show l2.findSome? (fun b => if a.f0 = b.f0 ∧ a.f1.length = b.f1.length ∧ (mUni a.f1 b.f1 m).2 = true then mTry l2 rest (mUni a.f1 b.f1 m).1 else none) = _;rw [← HF.out,List.drop_eq_nil_of_le (by omega)];rfl)
    clear c6
    go_wp2
    go_ret
    exact ⟨_,rfl,.inr ⟨rfl,HX.out⟩,ST.out.hb⟩

def upto {α : Type} (f : α → α) (l : List α) (i : Nat) : List α := (l.take i).map f ++ l.drop i
theorem upto_0 {α : Type} (f : α → α) (l : List α) : upto f l 0 = l := by simp [upto]
theorem upto_len {α : Type} (f : α → α) (l : List α) (i : Nat) : (upto f l i).length = l.length := by simp [upto]; omega
theorem upto_end {α : Type} (f : α → α) (l : List α) (i : Nat) (h : l.length ≤ i) : upto f l i = l.map f := by simp [upto, List.take_of_length_le h, List.drop_eq_nil_of_le h]
theorem upto_get {α : Type} (f : α → α) (l : List α) (i : Nat) (z : α) : (upto f l i).getD i z = l.getD i z := by
 unfold upto
 by_cases h : i < l.length
 ·rw [List.getD_eq_getElem?_getD,List.getElem?_append_right (by simp;omega),List.getD_eq_getElem?_getD]
  simp [Nat.min_eq_left (Nat.le_of_lt h)]
 ·rw [List.getD_eq_getElem?_getD,List.getD_eq_getElem?_getD,List.getElem?_eq_none (by simp;omega),List.getElem?_eq_none (by omega)]
theorem upto_step {α : Type} (f : α → α) (l : List α) (i : Nat) (z : α) (h : i < l.length) : (upto f l i).set i (f (l.getD i z)) = upto f l (i + 1) := by
 unfold upto
 rw [List.set_append_right _ _ (by simp;omega)]
 simp only [List.length_map,zDb,Nat.min_eq_left (Nat.le_of_lt h),Nat.sub_self]
 rw [List.drop_eq_getElem_cons h,zEb,List.take_succ_eq_append_getElem h,List.map_append,List.getD_eq_getElem?_getD,List.getElem?_eq_getElem h]
 simp

set_option maxHeartbeats 8000000 in
set_option maxRecDepth 100000 in
theorem mapping_calls (A0_0 : Option Addr) (c0_0 : Nat) (l0_0 : List Int) (A0_1 : Option Addr) (c0_1 : Nat) (l0_1 : List (S97)) (A1_0 : Option Addr) (c1_0 : Nat) (l1_0 : List Int) (A1_1 : Option Addr) (c1_1 : Nat) (l1_1 : List (S97)) (w : World) (hr0_0 : Kd.C (Kd.int .i64) w A0_0 l0_0.length l0_0) (hc0_0 : l0_0.length ≤ c0_0) (hr0_1 : Kd.C k97 w A0_1 l0_1.length l0_1) (hc0_1 : l0_1.length ≤ c0_1) (hr1_0 : Kd.C (Kd.int .i64) w A1_0 l1_0.length l1_0) (hc1_0 : l1_0.length ≤ c1_0) (hr1_1 : Kd.C k97 w A1_1 l1_1.length l1_1) (hc1_1 : l1_1.length ≤ c1_1) (hz : (l0_0.length ≤ 1048576 ∧ l0_1.length ≤ 1048576 ∧ l1_1.length ≤ 1048576) ∧ (∀ x ∈ l0_1, x.f1.length ≤ 1048576) ∧ okTs l0_0 ∧ ∀ a ∈ l0_1, okTs a.f1) :
  Calls Try.prog 106 #[.agg #[.slice A0_0 l0_0.length c0_0, .slice A0_1 l0_1.length c0_1], .agg #[.slice A1_0 l1_0.length c1_0, .slice A1_1 l1_1.length c1_1]] w fun e w' => ∃ v : Value, e = .returned (.tuple #[v, .bool (mFind l0_0 l0_1 l1_0 l1_1).2]) ∧ Kd.R (Kd.int .i64) 3 w' w.heap.size (fun _ => True) v (mFind l0_0 l0_1 l1_0 l1_1).1 ∧ Below w.heap.size w w' := by
 have hu46:=Try.underlying46
 have hnn : ∀ W : World,(binOp BinOp.eql 38 (.slice none 0 0) (.slice none 0 0)).run Try.prog W = .ok (.bool true) W:=fun W => eqnil Try.underlying38 none 0 0 W
 have hns : ∀ (g : Addr) (n c : Nat) (W : World),(binOp BinOp.eql 38 (.slice (some g) n c) (.slice none 0 0)).run Try.prog W = .ok (.bool false) W:=fun g n c W => eqnil Try.underlying38 (some g) n c W
 have hmf : ∀ (fn : Fn) (first cap : Array Value) (w : World),(Instr.makeFunc fn first cap).run Try.prog w = .ok (.func fn first cap) w:=fun _ _ _ _ => rfl
 have HR0:=zA hr0_0
 have HR1:=zA hr0_1
 have HT0:=zA hr1_0
 have HT1:=zA hr1_1
 have HC:=zA (show l0_0.length ≤ c0_0 ∧ l0_1.length ≤ c0_1 ∧ l1_0.length ≤ c1_0 ∧ l1_1.length ≤ c1_1 from ⟨hc0_0,hc0_1,hc1_0,hc1_1⟩)
 have HZ:=zA hz
 have HB:=zA (Below.refl w.heap.size w)
 clear hr0_0 hr0_1 hr1_0 hr1_1 hc0_0 hc0_1 hc1_0 hc1_1 hz
 go_enter Try.func106,Try.ntmps106
 go_wp2_with (first|((with_reducible refine gate_dst (N:=2) rfl ?_);refine hold ?_))
 unfold Hold
 refine zbx 2 #[.slice A0_0 l0_0.length c0_0,.slice A0_1 l0_1.length c0_1] 46 ?_
 intro gf hg w1 hbox hb
 have Bgf:=zA hbox
 replace HB:=zA (zJb HB.out hb)
 clear hbox hb hg
 go_wp2_with (first|((with_reducible refine gate_dst (N:=3) rfl ?_);refine hold ?_))
 unfold Hold
 refine zbx 3 #[.slice A1_0 l1_0.length c1_0,.slice A1_1 l1_1.length c1_1] 46 ?_
 intro gt hg w2 hbox hb
 have Bgt:=zA hbox
 replace Bgf:=zA (zQ Bgf.out hb)
 replace HB:=zA (zJb HB.out hb)
 clear hbox hb hg
 have hx0:=zc (.slice A0_0 l0_0.length c0_0) Bgf 0 rfl
 have hx1:=zc (.slice A1_0 l1_0.length c1_0) Bgt 0 rfl
 by_cases d1 : (l0_0.length : Int) = (l1_0.length : Int)
 ·have D1:=zA (show l0_0.length = l1_0.length from by omega)
  have d1a : ((l0_0.length : Int) != (l1_0.length : Int)) = false:=bne_eq_false_iff_eq.mpr d1
  have d1b : ((l0_0.length : Int) == (l1_0.length : Int)) = true:=beq_iff_eq.mpr d1
  have d1c : decide ((l0_0.length : Int) = (l1_0.length : Int)) = true:=decide_eq_true d1
  clear d1
  obtain ⟨n3,hn3⟩ : ∃ n3 : Nat,n3 = w2.heap.size:=⟨_,rfl⟩
  have GL:=zA (show (gf < n3 ∧ gt < n3) ∧ w.heap.size ≤ n3 from by rw [hn3];exact ⟨⟨blk_lt Bgf.out,blk_lt Bgt.out⟩,HB.out.size⟩)
  go_wp2_with (first|((with_reducible refine gate_dst (N:=20) rfl ?_);refine hold ?_))
  unfold Hold
  refine Kd.R_make (Kd.int .i64) _ 3 rfl (N:=20) rfl 38 _ _ rfl (20 : Int) rfl rfl Try.underlying38 (.int .i64 0) 8 info3 rfl (by decide) (by omega) 0 (ok:=fun _ => True) (okp:=fun _ => True) rfl (fun _ hk => hk) trivial (by decide) (by decide) (Below.refl _ _) (Nat.le_refl _) ?_
  intro vm w3 ho hb hg_ hnew_
  clear hg_ hnew_
  have OM:=zA (show Kd.R (Kd.int .i64) 3 w3 w.heap.size (fun k => n3 ≤ k) vm (List.replicate 20 0) from zGb (newR ho HB.out.size) (fun k hk => by rw [hn3];exact hk.1.1))
  replace Bgf:=zA (zQ Bgf.out hb)
  replace Bgt:=zA (zQ Bgt.out hb)
  replace HB:=zA (zJb HB.out hb)
  clear ho hb hx0 hx1 hn3
  obtain ⟨Am,cm,rfl⟩:=Kd.R_slice OM.out
  have hl20 : (List.replicate 20 (0 : Int)).length = 20:=rfl
  rw [hl20] at OM
  rw [hl20]
  clear hl20
  go_wp2
  go_loopg [23] 20 (fun kq v23 w' => ∃ x : Int,v23 = .int .i64 x ∧ Aside0 (0 ≤ x ∧ kq + x.toNat = 20) ∧ Aside0 (Kd.R (Kd.int .i64) 3 w' w.heap.size (fun k => n3 ≤ k) (.slice Am 20 cm) (upto (fun _ => -1000) (List.replicate 20 0) x.toNat)) ∧ Aside0 (w'.heap[gf]? = some (.cells #[.slice A0_0 l0_0.length c0_0,.slice A0_1 l0_1.length c0_1] 46 (0,0))) ∧ Aside0 (w'.heap[gt]? = some (.cells #[.slice A1_0 l1_0.length c1_0,.slice A1_1 l1_1.length c1_1] 46 (0,0))) ∧ Aside0 (Below w.heap.size w w'))
  case atStart => exact ⟨0,rfl,⟨⟨Int.le_refl _,rfl⟩⟩,⟨by rw [show (0 : Int).toNat = 0 from rfl,upto_0];exact OM.out⟩,Bgf,Bgt,HB⟩
  case round =>
   clear OM Bgf Bgt HB
   obtain ⟨x,rfl,HG,OM,Bgf,Bgt,HB⟩:=hrel
   by_cases c6 : x < 20
   ·have c6b0 : decide (x < 20) = true:=decide_eq_true c6
    have p5 : 0 ≤ x:=HG.out.1
    have hlt : x.toNat < (List.replicate 20 (0 : Int)).length:=by rw [List.length_replicate];omega
    obtain ⟨go,co,eo,gb,gl,cl,hgo⟩:=Kd.R_form OM.out (by rw [upto_len];decide)
    injection eo with ea en ec
    subst ea;subst ec
    clear en gl cl hgo
    have GB:=zA gb
    have NG:=zA (show n3 ≤ go from OM.out.1 go rfl)
    clear gb
    obtain ⟨hx5,hf5⟩:=Kd.R_celln 0 OM.out x p5 c6
    have HP:=zA (Kd.R_putg OM.out x (-1000))
    have HS:=zA (upto_step (fun _ : Int => (-1000 : Int)) (List.replicate 20 0) x.toNat 0 hlt)
    have HLT:=zA (show x.toNat < 20 from by omega)
    clear hlt
    replace p5:=eq_true p5
    replace c6:=eq_true c6
    go_wp2_with (first|((with_reducible refine gate_store (t:=3) (p:=28) rfl ?_);refine hold ?_))
    unfold Hold
    refine store_event (t:=3) (p:=28) (v:=?vo_m) (w1:=(wr.setCell ⟨go,x.toNat,none⟩ (.int .i64 (-1000)))) ?hgm ?hom ?hnm ?hrm ?_
    case hom => rfl
    case hgm => rfl
    case hnm => rfl
    case hrm => first|(go_simp;done)|(go_simp;rfl)
    intro w4 hw
    have hk : Kept wr w4 (fun k => n3 ≤ k):=by rw [hw];exact Kept.of_grown HP.out.2 (Kept.refl _ _) (fun k he => .inl (by injection he with he;subst he;exact NG.out))
    have OM2:=zA (show Kd.R (Kd.int .i64) 3 w4 w.heap.size (fun k => n3 ≤ k) (.slice (some ⟨go,0,none⟩) 20 cm) (upto (fun _ => -1000) (List.replicate 20 0) (x.toNat + 1)) from by rw [hw,← HS.out];exact HP.out.1)
    replace Bgf:=zA (blk_kept Bgf.out hk (by have:=GL.out;omega))
    replace Bgt:=zA (blk_kept Bgt.out hk (by have:=GL.out;omega))
    replace HB:=zA (show Below w.heap.size w w4 from by rw [hw];exact zB HB.out GB.out)
    clear hk hw OM HP hx5 hf5
    go_wp2
    go_roundg (20 - (x.toNat + 1))
    case measure => have:=HG.out;have:=HLT.out;omega
    case rel => exact ⟨(wrap64 (x + 1)),rfl,⟨by have:=HG.out;have:=HLT.out;rw [w64 (by omega) (by omega)];omega⟩,⟨by rw [w64 (by have:=HG.out;omega) (by have:=HLT.out;omega),show (x + 1).toNat = x.toNat + 1 by have:=HG.out;omega];exact OM2.out⟩,Bgf,Bgt,HB⟩
   ·have c6b0 : decide (x < 20) = false:=decide_eq_false c6
    have ON:=zA (show Kd.R (Kd.int .i64) 3 wr w.heap.size (fun k => n3 ≤ k) (.slice Am 20 cm) mNone from by have h:=OM.out;rw [upto_end _ _ _ (by rw [List.length_replicate];omega)] at h;exact h)
    clear c6 OM HG
    have hx0:=zc (.slice A0_0 l0_0.length c0_0) Bgf 0 rfl
    go_wp2
    go_loopg [33] l0_0.length (fun kq v33 w' => ∃ (j : Int) (mq : List Int),v33 = .int .i64 j ∧ Aside0 (0 ≤ j ∧ kq + j.toNat = l0_0.length) ∧ Aside0 (InvU l0_0 l1_0 mNone mq j.toNat true ∧ mq.length = 20) ∧ Aside0 (Kd.R (Kd.int .i64) 3 w' w.heap.size (fun k => n3 ≤ k) (.slice Am 20 cm) mq) ∧ Aside0 (w'.heap[gf]? = some (.cells #[.slice A0_0 l0_0.length c0_0,.slice A0_1 l0_1.length c0_1] 46 (0,0))) ∧ Aside0 (w'.heap[gt]? = some (.cells #[.slice A1_0 l1_0.length c1_0,.slice A1_1 l1_1.length c1_1] 46 (0,0))) ∧ Aside0 (Below w.heap.size w w'))
    case atStart => exact ⟨0,mNone,rfl,⟨⟨Int.le_refl _,rfl⟩⟩,⟨⟨.inl ⟨rfl,by rw [show (0 : Int).toNat = 0 from rfl,List.drop_zero,List.drop_zero]⟩,mNone_len⟩⟩,ON,Bgf,Bgt,HB⟩
    case round =>
     clear ON Bgf Bgt HB hx0
     obtain ⟨j,mq,rfl,HG,HV,ON,Bgf,Bgt,HB⟩:=hrel
     by_cases c8 : j < (l0_0.length : Int)
     ·have c8b0 : decide (j < (l0_0.length : Int)) = true:=decide_eq_true c8
      have p7 : 0 ≤ j:=HG.out.1
      have hlt : j.toNat < l0_0.length:=by omega
      have HLT3:=zA hlt
      obtain ⟨ad3,e_,hxt⟩:=Kd.at_int HR0.out j p7 c8
      replace hxt:=zhx HB hxt
      have c9 : j < (l1_0.length : Int):=by have:=D1.out;omega
      obtain ⟨ad4,e4_,hxu⟩:=Kd.at_int HT0.out j p7 c9
      replace hxu:=zhx HB hxu
      have et : rd l0_0 j = l0_0[j.toNat]:=by show l0_0.getD j.toNat 0 = _;rw [List.getD_eq_getElem?_getD,List.getElem?_eq_getElem hlt];rfl
      have eu : rd l1_0 j = l1_0[j.toNat]'(by have:=D1.out;omega):=by show l1_0.getD j.toNat 0 = _;rw [List.getD_eq_getElem?_getD,List.getElem?_eq_getElem (by have:=D1.out;omega)];rfl
      have OKT:=zA (show rd l0_0 j < 20 from by rw [et];exact HZ.out.2.2.1 _ (List.getElem_mem _))
      cases e_
      cases e4_
      replace p7:=eq_true p7
      replace c8:=eq_true c8
      replace c9:=eq_true c9
      have HV2:=zA (show InvU l0_0 l1_0 mNone ((mSend mq (rd l0_0 j) (rd l1_0 j)).getD mq) (j.toNat + 1) (mSend mq (rd l0_0 j) (rd l1_0 j)).isSome ∧ ((mSend mq (rd l0_0 j) (rd l1_0 j)).getD mq).length = 20 from ⟨by rw [et,eu];exact HV.out.1.step _ _,by cases e : mSend mq (rd l0_0 j) (rd l1_0 j) with|none => exact HV.out.2|some m2 => exact (mSend_len e).trans HV.out.2⟩)
      clear et eu hlt
      have hx1:=zc (.slice (some ad4) l1_0.length c1_0) Bgt 0 rfl
      go_wp2_with (first|(go_at_call 137;refine hold ?_))
      unfold Hold
      refine (send_calls (fun k => n3 ≤ k) (.slice Am 20 cm) mq (rd l0_0 j) (rd l1_0 j) w _ HB.out ON.out HV.out.2 OKT.out).mono ?_
      rintro e w10 ⟨rfl,hor,hbr,hkr⟩
      replace Bgf:=zA (blk_kept Bgf.out hkr (by have:=GL.out;omega))
      replace Bgt:=zA (blk_kept Bgt.out hkr (by have:=GL.out;omega))
      replace HB:=zA hbr
      replace ON:=zA hor
      clear hor hbr hkr hxt hxu hx1
      generalize (mSend mq (rd l0_0 j) (rd l1_0 j)).getD mq = m2 at HV2 ON
      cases hb2 : (mSend mq (rd l0_0 j) (rd l1_0 j)).isSome
      ·have HF:=zA (show (mUni l0_0 l1_0 mNone).2 = false from by have h:=HV2.out.1;rw [hb2] at h;rcases h with ⟨h,_⟩|⟨_,h⟩ <;> first|cases h|rw [h])
       have EM:=zA (show mFind l0_0 l0_1 l1_0 l1_1 = ([],false) from by unfold mFind;rw [if_neg (by rw [HF.out];simp)])
       clear hb2
       go_wp2_with (first|((with_reducible refine gate_dst (N:=47) rfl ?_);refine hold ?_))
       unfold Hold
       refine Kd.R_lit (Kd.int .i64) _ 3 ?hglb (N:=47) ?hdlb (xs:=([] : List Int)) (inner:=[]) (ok:=fun _ => True) (okp:=fun _ => True) ?hrlb ?hplb (fun _ hk => hk) trivial (Below.refl _ _) (Nat.le_refl _) (by simp) ?_
       case hdlb => rfl
       case hglb => rfl
       case hrlb => first|(go_simp;done)|(go_simp;rfl)
       case hplb => exact (Reps.none _ _)
       intro vl wl ho hb hg_ hnew_
       clear hg_ hnew_
       have OL:=zA (zHb ho HB.out.size)
       have BL:=zA (zJb HB.out hb)
       clear ho hb
       go_wp2
       go_ret2
       exact ⟨_,by rw [EM.out];rfl,by rw [EM.out];exact OL.out,BL.out⟩
      ·have HV3:=zA (show InvU l0_0 l1_0 mNone m2 (j.toNat + 1) true ∧ m2.length = 20 from ⟨by have h:=HV2.out.1;rw [hb2] at h;exact h,HV2.out.2⟩)
       clear hb2 HV2
       go_wp2
       go_roundg (l0_0.length - (j.toNat + 1))
       case measure => have:=HG.out;have:=HLT3.out;omega
       case rel => exact ⟨(wrap64 (j + 1)),m2,rfl,⟨by have:=HG.out;have:=HLT3.out;have h4:=HZ.out.1.1;rw [w64 (by omega) (by omega)];omega⟩,⟨by rw [w64 (by have:=HG.out;omega) (by have h4:=HZ.out.1.1;have:=HLT3.out;omega),show (j + 1).toNat = j.toNat + 1 by have:=HG.out;omega];exact HV3.out⟩,ON,Bgf,Bgt,HB⟩
     ·have c8b0 : decide (j < (l0_0.length : Int)) = false:=decide_eq_false c8
      have HU:=zA (show mUni l0_0 l1_0 mNone = (mq,true) from HV.out.1.done (by have:=HG.out.1;omega))
      clear c8
      have OQ:=zA (show Kd.R (Kd.int .i64) 3 wr w.heap.size (fun _ => True) (.slice Am mq.length cm) mq from by rw [HV.out.2];exact zGb ON.out (fun _ _ => trivial))
      clear ON
      go_wp2_with (first|((with_reducible refine gate_dst (N:=10) rfl ?_);refine hold ?_))
      unfold Hold
      refine zbx 10 #[.nilFunc] 138 ?_
      intro gy hg w5 hbox hb
      have BY0:=zA hbox
      have HG_:=zA hg
      have HB5:=zA hb
      clear hbox hg hb
      have hy0 : w5.cell? ⟨gy,0,none⟩ = some .nilFunc:=(zP BY0.out 0).trans rfl
      have hf0:=blk_frozen BY0.out 0
      go_wp2_with (first|((with_reducible refine gate_store (t:=138) (p:=10) rfl ?_);refine hold ?_))
      unfold Hold
      refine store_event (t:=138) (p:=10) (v:=?vo_y) (w1:=(w5.setCell ⟨gy,0,none⟩ (.func (.func 138) #[] #[.pointer (some ⟨gf,0,none⟩),.pointer (some ⟨gt,0,none⟩),.pointer (some ⟨gy,0,none⟩)]))) ?hgsy ?hosy ?hnsy ?hrsy ?_
      case hosy => rfl
      case hgsy => rfl
      case hnsy => rfl
      case hrsy => first|(go_simp;done)|(go_simp;rfl)
      intro w6 hw
      have hb : Below wr.heap.size wr w6:=by rw [hw];exact zB HB5.out (by rw [HG_.out];exact Nat.le_refl _)
      have BY:=zA (show w6.heap[gy]? = some (.cells #[.func (.func 138) #[] #[.pointer (some ⟨gf,0,none⟩),.pointer (some ⟨gt,0,none⟩),.pointer (some ⟨gy,0,none⟩)]] 138 (0,0)) from by rw [hw];exact blk_put (cs:=#[.nilFunc]) BY0.out 0 _ rfl)
      replace Bgf:=zA (zQ Bgf.out hb)
      replace Bgt:=zA (zQ Bgt.out hb)
      replace HB:=zA (zJb HB.out hb)
      replace OQ:=zA (zZ OQ.out hb)
      clear hw hb BY0 HG_ HB5 hy0 hf0
      have hx0:=zc (.func (.func 138) #[] #[.pointer (some ⟨gf,0,none⟩),.pointer (some ⟨gt,0,none⟩),.pointer (some ⟨gy,0,none⟩)]) BY 0 rfl
      go_wp2_with (first|(go_at_call 138;refine hold ?_))
      unfold Hold
      rw [show (20 : Nat) = mq.length from HV.out.2.symm]
      refine (try_walk A0_0 l0_0.length c0_0 A0_1 c0_1 l0_1 A1_0 l1_0.length c1_0 A1_1 c1_1 l1_1 gf gt gy w.heap.size ⟨HZ.out.1.2,HZ.out.2.1,HZ.out.2.2.2⟩ l0_1 [] rfl Am cm mq w6 HV.out.2 HB.out.size OQ.out (zKb HR1.out HB.out) (zKb HT1.out HB.out) Bgf.out Bgt.out BY.out).mono ?_
      rintro e w7 ⟨vy,rfl,hyb,hb⟩
      replace HB:=zA (zJb HB.out hb)
      clear hb hx0 BY Bgf Bgt OQ
      rcases hyb with ⟨ys,hy1,hy2,hy3⟩|⟨rfl,hyb⟩
      ·have EM:=zA (show mFind l0_0 l0_1 l1_0 l1_1 = (ys,true) from mFind_some D1.out (by rw [HU.out]) (by rw [HU.out];exact hy1))
       obtain ⟨gg,cg,rfl,_,_,_,_⟩:=Kd.R_form hy2 (by omega)
       have Y2:=zA hy2
       clear hy1 hy2 hy3
       go_wp2
       go_ret2
       exact ⟨_,by rw [EM.out];rfl,by rw [EM.out];exact Y2.out,HB.out⟩
      ·have EM:=zA (show mFind l0_0 l0_1 l1_0 l1_1 = ([],false) from mFind_none D1.out (by rw [HU.out]) (by rw [HU.out];exact hyb))
       clear hyb
       go_wp2_with (first|((with_reducible refine gate_dst (N:=55) rfl ?_);refine hold ?_))
       unfold Hold
       refine Kd.R_lit (Kd.int .i64) _ 3 ?hgle (N:=55) ?hdle (xs:=([] : List Int)) (inner:=[]) (ok:=fun _ => True) (okp:=fun _ => True) ?hrle ?hple (fun _ hk => hk) trivial (Below.refl _ _) (Nat.le_refl _) (by simp) ?_
       case hdle => rfl
       case hgle => rfl
       case hrle => first|(go_simp;done)|(go_simp;rfl)
       case hple => exact (Reps.none _ _)
       intro vl wl ho hb hg_ hnew_
       clear hg_ hnew_
       have OL:=zA (zHb ho HB.out.size)
       have BL:=zA (zJb HB.out hb)
       clear ho hb
       go_wp2
       go_ret2
       exact ⟨_,by rw [EM.out];rfl,by rw [EM.out];exact OL.out,BL.out⟩
 ·have EM:=zA (show mFind l0_0 l0_1 l1_0 l1_1 = ([],false) from by unfold mFind;rw [if_neg (fun h => d1 (by have:=h.1;omega))])
  have d1a : ((l0_0.length : Int) != (l1_0.length : Int)) = true:=bne_iff_ne.mpr d1
  have d1b : ((l0_0.length : Int) == (l1_0.length : Int)) = false:=beq_eq_false_iff_ne.mpr d1
  have d1c : decide ((l0_0.length : Int) = (l1_0.length : Int)) = false:=decide_eq_false d1
  clear d1
  go_wp2_with (first|((with_reducible refine gate_dst (N:=19) rfl ?_);refine hold ?_))
  unfold Hold
  refine Kd.R_lit (Kd.int .i64) _ 3 ?hglz (N:=19) ?hdlz (xs:=([] : List Int)) (inner:=[]) (ok:=fun _ => True) (okp:=fun _ => True) ?hrlz ?hplz (fun _ hk => hk) trivial (Below.refl _ _) (Nat.le_refl _) (by simp) ?_
  case hdlz => rfl
  case hglz => rfl
  case hrlz => first|(go_simp;done)|(go_simp;rfl)
  case hplz => exact (Reps.none _ _)
  intro vl wl ho hb hg_ hnew_
  clear hg_ hnew_
  have OL:=zA (zHb ho HB.out.size)
  have BL:=zA (zJb HB.out hb)
  clear ho hb
  go_wp2
  go_ret2
  exact ⟨_,by rw [EM.out];rfl,by rw [EM.out];exact OL.out,BL.out⟩

set_option maxHeartbeats 8000000 in
set_option maxRecDepth 100000 in
theorem spec_FindMapping_calls (A0_0 : Option Addr) (c0_0 : Nat) (l0_0 : List Int) (A1_0 : Option Addr) (c1_0 : Nat) (l1_0 : List Int) (A1_1 : Option Addr) (c1_1 : Nat) (l1_1 : List (S97)) (A2_0 : Option Addr) (c2_0 : Nat) (l2_0 : List Int) (A2_1 : Option Addr) (c2_1 : Nat) (l2_1 : List (S97)) (r1 : List Int) (r2 : Bool) (w : World) (hr0_0 : Kd.C (Kd.int .i64) w A0_0 l0_0.length l0_0) (hc0_0 : l0_0.length ≤ c0_0) (hr1_0 : Kd.C (Kd.int .i64) w A1_0 l1_0.length l1_0) (hc1_0 : l1_0.length ≤ c1_0) (hr1_1 : Kd.C k97 w A1_1 l1_1.length l1_1) (hc1_1 : l1_1.length ≤ c1_1) (hr2_0 : Kd.C (Kd.int .i64) w A2_0 l2_0.length l2_0) (hc2_0 : l2_0.length ≤ c2_0) (hr2_1 : Kd.C k97 w A2_1 l2_1.length l2_1) (hc2_1 : l2_1.length ≤ c2_1) (hz0 : (l0_0.length ≤ 1048576 ∧ l1_0.length ≤ 1048576 ∧ l1_1.length ≤ 1048576 ∧ l2_0.length ≤ 1048576 ∧ l2_1.length ≤ 1048576) ∧ (∀ x ∈ l1_1, x.f1.length ≤ 1048576) ∧ ∀ x ∈ l2_1, x.f1.length ≤ 1048576) (h : mFindQ l0_0 l1_0 l1_1 l2_0 l2_1 = (r1, r2)) :
  Calls Try.prog 56 #[.agg #[.slice A0_0 l0_0.length c0_0], .agg #[.slice A1_0 l1_0.length c1_0, .slice A1_1 l1_1.length c1_1], .agg #[.slice A2_0 l2_0.length c2_0, .slice A2_1 l2_1.length c2_1]] w fun e w' => ∃ v0_ : Value, e = .returned (.tuple #[v0_, .bool r2]) ∧ Kd.R (Kd.int .i64) 3 w' w.heap.size (fun _ => True) v0_ r1 ∧ Below w.heap.size w w' := by
 obtain ⟨⟨z0,z1,z2,z3,z4⟩,zs1,zs2⟩:=hz0
 obtain ⟨k1,hk1⟩:=(specIsQuery_ev l0_0 l1_0 l1_1 z0 z1 z2 zs1).rounds
 obtain ⟨k2,hk2⟩:=(specIsQuery_ev l0_0 l2_0 l2_1 z0 z3 z4 zs2).rounds
 have hu65:=Try.underlying65
 have hu46:=Try.underlying46
 have HZ:=zA (show (l1_0.length ≤ 1048576 ∧ l1_1.length ≤ 1048576 ∧ l2_1.length ≤ 1048576) ∧ ∀ x ∈ l1_1,x.f1.length ≤ 1048576 from ⟨⟨z1,z2,z4⟩,zs1⟩)
 have HOQ:=zA (fun h_ : mIsQuery l0_0 l1_0 l1_1 = true => okQ h_)
 unfold mFindQ at h
 generalize mIsQuery l0_0 l1_0 l1_1 = b1 at hk1 h HOQ
 generalize mIsQuery l0_0 l2_0 l2_1 = b2 at hk2 h
 have K1:=zA hk1
 have K2:=zA hk2
 have R0:=zA hr0_0
 have R1:=zA hr1_0
 have R2:=zA hr1_1
 have R3:=zA hr2_0
 have R4:=zA hr2_1
 have HC:=zA (show l0_0.length ≤ c0_0 ∧ l1_0.length ≤ c1_0 ∧ l1_1.length ≤ c1_1 ∧ l2_0.length ≤ c2_0 ∧ l2_1.length ≤ c2_1 from ⟨hc0_0,hc1_0,hc1_1,hc2_0,hc2_1⟩)
 have HB:=zA (Below.refl w.heap.size w)
 have HE:=zA h
 clear hk1 hk2 hr0_0 hr1_0 hr1_1 hr2_0 hr2_1 hc0_0 hc1_0 hc1_1 hc2_0 hc2_1 z0 z1 z2 z3 z4 zs1 zs2 h
 go_enter Try.func56,Try.ntmps56
 go_wp2_with (first|((with_reducible refine gate_dst (N:=3) rfl ?_);refine hold ?_))
 unfold Hold
 refine zbx 3 #[.slice A0_0 l0_0.length c0_0] 65 ?_
 intro g0 hg w1 hbox hb
 have Bg0:=zA hbox
 replace HB:=zA (zJb HB.out hb)
 clear hbox hb hg
 go_wp2_with (first|((with_reducible refine gate_dst (N:=4) rfl ?_);refine hold ?_))
 unfold Hold
 refine zbx 4 #[.slice A1_0 l1_0.length c1_0,.slice A1_1 l1_1.length c1_1] 46 ?_
 intro g1 hg w2 hbox hb
 have Bg1:=zA hbox
 replace Bg0:=zA (zQ Bg0.out hb)
 replace HB:=zA (zJb HB.out hb)
 clear hbox hb hg
 go_wp2_with (first|((with_reducible refine gate_dst (N:=5) rfl ?_);refine hold ?_))
 unfold Hold
 refine zbx 5 #[.slice A2_0 l2_0.length c2_0,.slice A2_1 l2_1.length c2_1] 46 ?_
 intro g2 hg w3 hbox hb
 have Bg2:=zA hbox
 replace Bg0:=zA (zQ Bg0.out hb)
 replace Bg1:=zA (zQ Bg1.out hb)
 replace HB:=zA (zJb HB.out hb)
 clear hbox hb hg
 have hx0:=zc (.slice A0_0 l0_0.length c0_0) Bg0 0 rfl
 have hx1:=zc (.slice A1_0 l1_0.length c1_0) Bg1 0 rfl
 have hx2:=zc (.slice A1_1 l1_1.length c1_1) Bg1 1 rfl
 go_wp2_with (first|(go_at_call 101;refine hold ?_))
 unfold Hold
 refine (spec_IsQuery.calls k1 _ _ l0_0 _ _ l1_0 _ _ l1_1 b1 _ (zKb R0.out HB.out) HC.out.1 (zKb R1.out HB.out) HC.out.2.1 (zKb R2.out HB.out) HC.out.2.2.1 K1.out).mono ?_
 rintro e w4 ⟨rfl,hb⟩
 replace Bg0:=zA (zQ Bg0.out hb)
 replace Bg1:=zA (zQ Bg1.out hb)
 replace Bg2:=zA (zQ Bg2.out hb)
 replace HB:=zA (zJb HB.out hb)
 clear hb
 clear hx0 hx1 hx2
 cases b1
 ·have EM:=zA (show r1 = [] ∧ r2 = false from by have h:=HE.out;rw [if_neg (by simp)] at h;injection h with h1 h2;exact ⟨h1.symm,h2.symm⟩)
  go_wp2_with (first|((with_reducible refine gate_dst (N:=20) rfl ?_);refine hold ?_))
  unfold Hold
  refine Kd.R_lit (Kd.int .i64) _ 3 ?hglp (N:=20) ?hdlp (xs:=([] : List Int)) (inner:=[]) (ok:=fun _ => True) (okp:=fun _ => True) ?hrlp ?hplp (fun _ hk => hk) trivial (Below.refl _ _) (Nat.le_refl _) (by simp) ?_
  case hdlp => rfl
  case hglp => rfl
  case hrlp => first|(go_simp;done)|(go_simp;rfl)
  case hplp => exact (Reps.none _ _)
  intro vl wl ho hb hg_ hnew_
  clear hg_ hnew_
  have OL:=zA (zHb ho HB.out.size)
  have BL:=zA (zJb HB.out hb)
  clear ho hb
  go_wp2
  go_ret2
  exact ⟨_,by rw [EM.out.2];rfl,by rw [EM.out.1];exact OL.out,BL.out⟩
 have hx0:=zc (.slice A0_0 l0_0.length c0_0) Bg0 0 rfl
 have hx1:=zc (.slice A2_0 l2_0.length c2_0) Bg2 0 rfl
 have hx2:=zc (.slice A2_1 l2_1.length c2_1) Bg2 1 rfl
 go_wp2_with (first|(go_at_call 101;refine hold ?_))
 unfold Hold
 refine (spec_IsQuery.calls k2 _ _ l0_0 _ _ l2_0 _ _ l2_1 b2 _ (zKb R0.out HB.out) HC.out.1 (zKb R3.out HB.out) HC.out.2.2.2.1 (zKb R4.out HB.out) HC.out.2.2.2.2 K2.out).mono ?_
 rintro e w5 ⟨rfl,hb⟩
 replace Bg1:=zA (zQ Bg1.out hb)
 replace Bg2:=zA (zQ Bg2.out hb)
 replace HB:=zA (zJb HB.out hb)
 clear hb Bg0
 clear hx0 hx1 hx2
 cases b2
 ·have EM:=zA (show r1 = [] ∧ r2 = false from by have h:=HE.out;rw [if_neg (by simp)] at h;injection h with h1 h2;exact ⟨h1.symm,h2.symm⟩)
  go_wp2_with (first|((with_reducible refine gate_dst (N:=20) rfl ?_);refine hold ?_))
  unfold Hold
  refine Kd.R_lit (Kd.int .i64) _ 3 ?hglq (N:=20) ?hdlq (xs:=([] : List Int)) (inner:=[]) (ok:=fun _ => True) (okp:=fun _ => True) ?hrlq ?hplq (fun _ hk => hk) trivial (Below.refl _ _) (Nat.le_refl _) (by simp) ?_
  case hdlq => rfl
  case hglq => rfl
  case hrlq => first|(go_simp;done)|(go_simp;rfl)
  case hplq => exact (Reps.none _ _)
  intro vl wl ho hb hg_ hnew_
  clear hg_ hnew_
  have OL:=zA (zHb ho HB.out.size)
  have BL:=zA (zJb HB.out hb)
  clear ho hb
  go_wp2
  go_ret2
  exact ⟨_,by rw [EM.out.2];rfl,by rw [EM.out.1];exact OL.out,BL.out⟩
 have hx0:=zc (.slice A1_0 l1_0.length c1_0) Bg1 0 rfl
 have hx1:=zc (.slice A1_1 l1_1.length c1_1) Bg1 1 rfl
 have hx2:=zc (.slice A2_0 l2_0.length c2_0) Bg2 0 rfl
 have hx3:=zc (.slice A2_1 l2_1.length c2_1) Bg2 1 rfl
 have OQ:=zA (HOQ.out (by trivial))
 have EF:=zA (show (mFind l1_0 l1_1 l2_0 l2_1).1 = r1 ∧ (mFind l1_0 l1_1 l2_0 l2_1).2 = r2 from by have h:=HE.out;rw [if_pos ⟨by trivial,by trivial⟩] at h;rw [h];exact ⟨rfl,rfl⟩)
 clear HOQ HE
 go_wp2_with (first|(go_at_call 105;refine hold ?_))
 unfold Hold
 refine (l7Find_calls _ _ l1_0 _ _ l1_1 _ _ l2_0 _ _ l2_1 _ (zKb R1.out HB.out) HC.out.2.1 (zKb R2.out HB.out) HC.out.2.2.1 (zKb R3.out HB.out) HC.out.2.2.2.1 (zKb R4.out HB.out) HC.out.2.2.2.2 ⟨HZ.out.1,HZ.out.2,OQ.out.1,OQ.out.2.1⟩).mono ?_
 rintro e w6 ⟨v0,rfl,ho,hb⟩
 rw [EF.out.1] at ho
 have O:=zA (zHb ho HB.out.size)
 replace HB:=zA (zJb HB.out hb)
 clear hb ho
 clear hx0 hx1 hx2 hx3
 obtain ⟨A_,c_,rfl⟩:=Kd.R_slice O.out
 rw [EF.out.2]
 go_wp2
 go_ret2
 exact ⟨_,rfl,O.out,HB.out⟩
set_option maxHeartbeats 8000000 in
set_option maxRecDepth 100000 in
theorem impl_FindMapping_calls (A0_0 : Option Addr) (c0_0 : Nat) (l0_0 : List Int) (A1_0 : Option Addr) (c1_0 : Nat) (l1_0 : List Int) (A1_1 : Option Addr) (c1_1 : Nat) (l1_1 : List (S97)) (A2_0 : Option Addr) (c2_0 : Nat) (l2_0 : List Int) (A2_1 : Option Addr) (c2_1 : Nat) (l2_1 : List (S97)) (r1 : List Int) (r2 : Bool) (w : World) (hr0_0 : Kd.C (Kd.int .i64) w A0_0 l0_0.length l0_0) (hc0_0 : l0_0.length ≤ c0_0) (hr1_0 : Kd.C (Kd.int .i64) w A1_0 l1_0.length l1_0) (hc1_0 : l1_0.length ≤ c1_0) (hr1_1 : Kd.C k97 w A1_1 l1_1.length l1_1) (hc1_1 : l1_1.length ≤ c1_1) (hr2_0 : Kd.C (Kd.int .i64) w A2_0 l2_0.length l2_0) (hc2_0 : l2_0.length ≤ c2_0) (hr2_1 : Kd.C k97 w A2_1 l2_1.length l2_1) (hc2_1 : l2_1.length ≤ c2_1) (hz0 : (l0_0.length ≤ 1048576 ∧ l1_0.length ≤ 1048576 ∧ l1_1.length ≤ 1048576 ∧ l2_0.length ≤ 1048576 ∧ l2_1.length ≤ 1048576) ∧ (∀ x ∈ l1_1, x.f1.length ≤ 1048576) ∧ ∀ x ∈ l2_1, x.f1.length ≤ 1048576) (h : mFindQ l0_0 l1_0 l1_1 l2_0 l2_1 = (r1, r2)) :
  Calls Try.prog 57 #[.agg #[.slice A0_0 l0_0.length c0_0], .agg #[.slice A1_0 l1_0.length c1_0, .slice A1_1 l1_1.length c1_1], .agg #[.slice A2_0 l2_0.length c2_0, .slice A2_1 l2_1.length c2_1]] w fun e w' => ∃ v0_ : Value, e = .returned (.tuple #[v0_, .bool r2]) ∧ Kd.R (Kd.int .i64) 3 w' w.heap.size (fun _ => True) v0_ r1 ∧ Below w.heap.size w w' := by
 obtain ⟨⟨z0,z1,z2,z3,z4⟩,zs1,zs2⟩:=hz0
 obtain ⟨k1,hk1⟩:=(implIsQuery_ev l0_0 l1_0 l1_1 z0 z1 z2 zs1).rounds
 obtain ⟨k2,hk2⟩:=(implIsQuery_ev l0_0 l2_0 l2_1 z0 z3 z4 zs2).rounds
 have hu65:=Try.underlying65
 have hu46:=Try.underlying46
 have HZ:=zA (show (l1_0.length ≤ 1048576 ∧ l1_1.length ≤ 1048576 ∧ l2_1.length ≤ 1048576) ∧ ∀ x ∈ l1_1,x.f1.length ≤ 1048576 from ⟨⟨z1,z2,z4⟩,zs1⟩)
 have HOQ:=zA (fun h_ : mIsQuery l0_0 l1_0 l1_1 = true => okQ h_)
 unfold mFindQ at h
 generalize mIsQuery l0_0 l1_0 l1_1 = b1 at hk1 h HOQ
 generalize mIsQuery l0_0 l2_0 l2_1 = b2 at hk2 h
 have K1:=zA hk1
 have K2:=zA hk2
 have R0:=zA hr0_0
 have R1:=zA hr1_0
 have R2:=zA hr1_1
 have R3:=zA hr2_0
 have R4:=zA hr2_1
 have HC:=zA (show l0_0.length ≤ c0_0 ∧ l1_0.length ≤ c1_0 ∧ l1_1.length ≤ c1_1 ∧ l2_0.length ≤ c2_0 ∧ l2_1.length ≤ c2_1 from ⟨hc0_0,hc1_0,hc1_1,hc2_0,hc2_1⟩)
 have HB:=zA (Below.refl w.heap.size w)
 have HE:=zA h
 clear hk1 hk2 hr0_0 hr1_0 hr1_1 hr2_0 hr2_1 hc0_0 hc1_0 hc1_1 hc2_0 hc2_1 z0 z1 z2 z3 z4 zs1 zs2 h
 go_enter Try.func57,Try.ntmps57
 go_wp2_with (first|((with_reducible refine gate_dst (N:=3) rfl ?_);refine hold ?_))
 unfold Hold
 refine zbx 3 #[.slice A0_0 l0_0.length c0_0] 65 ?_
 intro g0 hg w1 hbox hb
 have Bg0:=zA hbox
 replace HB:=zA (zJb HB.out hb)
 clear hbox hb hg
 go_wp2_with (first|((with_reducible refine gate_dst (N:=4) rfl ?_);refine hold ?_))
 unfold Hold
 refine zbx 4 #[.slice A1_0 l1_0.length c1_0,.slice A1_1 l1_1.length c1_1] 46 ?_
 intro g1 hg w2 hbox hb
 have Bg1:=zA hbox
 replace Bg0:=zA (zQ Bg0.out hb)
 replace HB:=zA (zJb HB.out hb)
 clear hbox hb hg
 go_wp2_with (first|((with_reducible refine gate_dst (N:=5) rfl ?_);refine hold ?_))
 unfold Hold
 refine zbx 5 #[.slice A2_0 l2_0.length c2_0,.slice A2_1 l2_1.length c2_1] 46 ?_
 intro g2 hg w3 hbox hb
 have Bg2:=zA hbox
 replace Bg0:=zA (zQ Bg0.out hb)
 replace Bg1:=zA (zQ Bg1.out hb)
 replace HB:=zA (zJb HB.out hb)
 clear hbox hb hg
 have hx0:=zc (.slice A0_0 l0_0.length c0_0) Bg0 0 rfl
 have hx1:=zc (.slice A1_0 l1_0.length c1_0) Bg1 0 rfl
 have hx2:=zc (.slice A1_1 l1_1.length c1_1) Bg1 1 rfl
 go_wp2_with (first|(go_at_call 103;refine hold ?_))
 unfold Hold
 refine (impl_IsQuery.calls k1 _ _ l0_0 _ _ l1_0 _ _ l1_1 b1 _ (zKb R0.out HB.out) HC.out.1 (zKb R1.out HB.out) HC.out.2.1 (zKb R2.out HB.out) HC.out.2.2.1 K1.out).mono ?_
 rintro e w4 ⟨rfl,hb⟩
 replace Bg0:=zA (zQ Bg0.out hb)
 replace Bg1:=zA (zQ Bg1.out hb)
 replace Bg2:=zA (zQ Bg2.out hb)
 replace HB:=zA (zJb HB.out hb)
 clear hb
 clear hx0 hx1 hx2
 cases b1
 ·have EM:=zA (show r1 = [] ∧ r2 = false from by have h:=HE.out;rw [if_neg (by simp)] at h;injection h with h1 h2;exact ⟨h1.symm,h2.symm⟩)
  go_wp2_with (first|((with_reducible refine gate_dst (N:=18) rfl ?_);refine hold ?_))
  unfold Hold
  refine Kd.R_lit (Kd.int .i64) _ 3 ?hglp (N:=18) ?hdlp (xs:=([] : List Int)) (inner:=[]) (ok:=fun _ => True) (okp:=fun _ => True) ?hrlp ?hplp (fun _ hk => hk) trivial (Below.refl _ _) (Nat.le_refl _) (by simp) ?_
  case hdlp => rfl
  case hglp => rfl
  case hrlp => first|(go_simp;done)|(go_simp;rfl)
  case hplp => exact (Reps.none _ _)
  intro vl wl ho hb hg_ hnew_
  clear hg_ hnew_
  have OL:=zA (zHb ho HB.out.size)
  have BL:=zA (zJb HB.out hb)
  clear ho hb
  go_wp2
  go_ret2
  exact ⟨_,by rw [EM.out.2];rfl,by rw [EM.out.1];exact OL.out,BL.out⟩
 have hx0:=zc (.slice A0_0 l0_0.length c0_0) Bg0 0 rfl
 have hx1:=zc (.slice A2_0 l2_0.length c2_0) Bg2 0 rfl
 have hx2:=zc (.slice A2_1 l2_1.length c2_1) Bg2 1 rfl
 go_wp2_with (first|(go_at_call 103;refine hold ?_))
 unfold Hold
 refine (impl_IsQuery.calls k2 _ _ l0_0 _ _ l2_0 _ _ l2_1 b2 _ (zKb R0.out HB.out) HC.out.1 (zKb R3.out HB.out) HC.out.2.2.2.1 (zKb R4.out HB.out) HC.out.2.2.2.2 K2.out).mono ?_
 rintro e w5 ⟨rfl,hb⟩
 replace Bg1:=zA (zQ Bg1.out hb)
 replace Bg2:=zA (zQ Bg2.out hb)
 replace HB:=zA (zJb HB.out hb)
 clear hb Bg0
 clear hx0 hx1 hx2
 cases b2
 ·have EM:=zA (show r1 = [] ∧ r2 = false from by have h:=HE.out;rw [if_neg (by simp)] at h;injection h with h1 h2;exact ⟨h1.symm,h2.symm⟩)
  go_wp2_with (first|((with_reducible refine gate_dst (N:=18) rfl ?_);refine hold ?_))
  unfold Hold
  refine Kd.R_lit (Kd.int .i64) _ 3 ?hglq (N:=18) ?hdlq (xs:=([] : List Int)) (inner:=[]) (ok:=fun _ => True) (okp:=fun _ => True) ?hrlq ?hplq (fun _ hk => hk) trivial (Below.refl _ _) (Nat.le_refl _) (by simp) ?_
  case hdlq => rfl
  case hglq => rfl
  case hrlq => first|(go_simp;done)|(go_simp;rfl)
  case hplq => exact (Reps.none _ _)
  intro vl wl ho hb hg_ hnew_
  clear hg_ hnew_
  have OL:=zA (zHb ho HB.out.size)
  have BL:=zA (zJb HB.out hb)
  clear ho hb
  go_wp2
  go_ret2
  exact ⟨_,by rw [EM.out.2];rfl,by rw [EM.out.1];exact OL.out,BL.out⟩
 have hx0:=zc (.slice A1_0 l1_0.length c1_0) Bg1 0 rfl
 have hx1:=zc (.slice A1_1 l1_1.length c1_1) Bg1 1 rfl
 have hx2:=zc (.slice A2_0 l2_0.length c2_0) Bg2 0 rfl
 have hx3:=zc (.slice A2_1 l2_1.length c2_1) Bg2 1 rfl
 have OQ:=zA (HOQ.out (by trivial))
 have EF:=zA (show (mFind l1_0 l1_1 l2_0 l2_1).1 = r1 ∧ (mFind l1_0 l1_1 l2_0 l2_1).2 = r2 from by have h:=HE.out;rw [if_pos ⟨by trivial,by trivial⟩] at h;rw [h];exact ⟨rfl,rfl⟩)
 clear HOQ HE
 go_wp2_with (first|(go_at_call 106;refine hold ?_))
 unfold Hold
 refine (mapping_calls _ _ l1_0 _ _ l1_1 _ _ l2_0 _ _ l2_1 _ (zKb R1.out HB.out) HC.out.2.1 (zKb R2.out HB.out) HC.out.2.2.1 (zKb R3.out HB.out) HC.out.2.2.2.1 (zKb R4.out HB.out) HC.out.2.2.2.2 ⟨HZ.out.1,HZ.out.2,OQ.out.1,OQ.out.2.1⟩).mono ?_
 rintro e w6 ⟨v0,rfl,ho,hb⟩
 rw [EF.out.1] at ho
 have O:=zA (zHb ho HB.out.size)
 replace HB:=zA (zJb HB.out hb)
 clear hb ho
 clear hx0 hx1 hx2 hx3
 obtain ⟨A_,c_,rfl⟩:=Kd.R_slice O.out
 rw [EF.out.2]
 go_wp2
 go_ret2
 exact ⟨_,rfl,O.out,HB.out⟩

theorem filled {w W Wa Wb Wd : World} {gx g2 g3 g4 a b d n1 n2 : Nat} {v0 v1 v2 v3 v4 : Value} {l0 l1 : List Int} {l2 : List S97} {l3 : List Int} {l4 : List S97} (st : StW w gx g2 g3 g4 a b d (.slice none 0 0) (.slice none 0 0) (.slice none 0 0) (.slice none 0 0) (.slice none 0 0) [] [] [] [] [] n1 n2 W)
  (r0 : Kd.G (Kd.int .i64) 3 W 0 (fun k => n1 ≤ k ∧ k < n2) v0 l0) (r1 : Kd.G (Kd.int .i64) 3 W 0 (fun k => n1 ≤ k ∧ k < n2) v1 l1) (r2 : Kd.G k97 97 W 0 (fun k => n1 ≤ k ∧ k < n2) v2 l2) (r3 : Kd.G (Kd.int .i64) 3 W 0 (fun k => n1 ≤ k ∧ k < n2) v3 l3) (r4 : Kd.G k97 97 W 0 (fun k => n1 ≤ k ∧ k < n2) v4 l4)
  (h1 : Wa = W.setCell ⟨a,0,none⟩ v0) (h2 : Wb = (Wa.setCell ⟨b,0,none⟩ v1).setCell ⟨b,1,none⟩ v2) (h3 : Wd = (Wb.setCell ⟨d,0,none⟩ v3).setCell ⟨d,1,none⟩ v4) :
  StW w gx g2 g3 g4 a b d v0 v1 v2 v3 v4 l0 l1 l2 l3 l4 n1 n2 Wd ∧ Wa.heap[b]? = W.heap[b]? ∧ Wb.heap[d]? = W.heap[d]? ∧ ∀ {w0 : World} {c : List Int} {i h : Int},IsS121 w0 W gx c i h → IsS121 w0 Wd gx c i h:=by
 subst h1
 subst h2
 subst h3
 have n:=st.n
 have nab : a ≠ b:=by omega
 have nad : a ≠ d:=by omega
 have nbd : b ≠ d:=by omega
 have E : w.heap.size ≤ a ∧ w.heap.size ≤ b ∧ w.heap.size ≤ d:=by omega
 have hm : ∀ k,k ≠ a ∧ k ≠ b ∧ k ≠ d → ((((W.setCell ⟨a,0,none⟩ v0).setCell ⟨b,0,none⟩ v1).setCell ⟨b,1,none⟩ v2).setCell ⟨d,0,none⟩ v3 |>.setCell ⟨d,1,none⟩ v4).heap[k]? = W.heap[k]?:=fun k hk =>
  (Below.heap_setCell _ ⟨d,1,none⟩ v4 k hk.2.2).trans ((Below.heap_setCell _ ⟨d,0,none⟩ v3 k hk.2.2).trans ((Below.heap_setCell _ ⟨b,1,none⟩ v2 k hk.2.1).trans ((Below.heap_setCell _ ⟨b,0,none⟩ v1 k hk.2.1).trans (Below.heap_setCell W ⟨a,0,none⟩ v0 k hk.1))))
 have hG : ∀ k,n1 ≤ k ∧ k < n2 → k < W.heap.size → _:=fun k hk _ => hm k (by omega)
 refine ⟨⟨zB (zB (zB (zB (zB st.B E.1) E.2.1) E.2.1) E.2.2) E.2.2,(hm g2 (by omega)).trans st.b2,(hm g3 (by omega)).trans st.b3,(hm g4 (by omega)).trans st.b4,?_,?_,?_,by simpa [World.setCell] using n,Kd.G_step r0 hG,Kd.G_step r1 hG,Kd.G_step r2 hG,Kd.G_step r3 hG,Kd.G_step r4 hG⟩,?_,?_,fun hi => ?_⟩
 ·exact zUb (zUb (zUb (zUb (blk_put st.ba 0 v0 rfl) (p:=⟨b,0,none⟩) nab _) (p:=⟨b,1,none⟩) nab _) (p:=⟨d,0,none⟩) nad _) (p:=⟨d,1,none⟩) nad _
 ·exact zUb (zUb (blk_put (cs:=#[v1,.slice none 0 0]) (blk_put (zUb st.bb (p:=⟨a,0,none⟩) (Ne.symm nab) _) 0 v1 rfl) 1 v2 rfl) (p:=⟨d,0,none⟩) nbd _) (p:=⟨d,1,none⟩) nbd _
 ·exact blk_put (cs:=#[v3,.slice none 0 0]) (blk_put (zUb (zUb (zUb st.bd (p:=⟨a,0,none⟩) (Ne.symm nad) _) (p:=⟨b,0,none⟩) (Ne.symm nbd) _) (p:=⟨b,1,none⟩) (Ne.symm nbd) _) 0 v3 rfl) 1 v4 rfl
 ·exact Below.heap_setCell W ⟨a,0,none⟩ v0 b (Ne.symm nab)
 ·exact (Below.heap_setCell _ ⟨b,1,none⟩ v2 d (Ne.symm nbd)).trans ((Below.heap_setCell _ ⟨b,0,none⟩ v1 d (Ne.symm nbd)).trans (Below.heap_setCell W ⟨a,0,none⟩ v0 d (Ne.symm nad)))
 ·have xa : gx ≠ a:=by omega
  have xb : gx ≠ b:=by omega
  have xd : gx ≠ d:=by omega
  exact IsS121.far (IsS121.far (IsS121.far (IsS121.far (IsS121.far hi (p:=⟨a,0,none⟩) xa _) (p:=⟨b,0,none⟩) xb _) (p:=⟨b,1,none⟩) xb _) (p:=⟨d,0,none⟩) xd _) (p:=⟨d,1,none⟩) xd _
set_option maxHeartbeats 8000000 in
set_option maxRecDepth 100000 in
theorem spec_DrawFindMapping_calls (k : Nat) (A0 : Option Addr) (c0 : Nat) (l0 : List Int) (r1 : List Int) (r2 : List Int) (r3 : List (S97)) (r4 : List Int) (r5 : List (S97)) (w : World) (hr0 : Kd.C (Kd.int .u8) w A0 l0.length l0) (hc0 : l0.length ≤ c0) (h : drawFind_f k l0 = some (r1, r2, r3, r4, r5)) :
  Calls Try.prog 60 #[.slice A0 l0.length c0] w fun e w' => ∃ v0_ v1_ v2_ v3_ v4_ : Value, e = .returned (.tuple #[.agg #[v0_], .agg #[v1_, v2_], .agg #[v3_, v4_]]) ∧ Kd.G (Kd.int .i64) 3 w' w.heap.size (fun k_ => (w.heap.size ≤ k_)) v0_ r1 ∧ Kd.G (Kd.int .i64) 3 w' w.heap.size (fun k_ => (w.heap.size ≤ k_)) v1_ r2 ∧ Kd.G k97 97 w' w.heap.size (fun k_ => (w.heap.size ≤ k_)) v2_ r3 ∧ Kd.G (Kd.int .i64) 3 w' w.heap.size (fun k_ => (w.heap.size ≤ k_)) v3_ r4 ∧ Kd.G k97 97 w' w.heap.size (fun k_ => (w.heap.size ≤ k_)) v4_ r5 ∧ Below w.heap.size w w' := by
 have huS:=Try.underlying65
 have huQ:=Try.underlying46
 unfold drawFind_f at h
 obtain ⟨⟨c,i0,h0⟩,a1,h⟩:=Option.bind_eq_some_iff.1 h
 try dsimp only at a1 h
 have T1:=zA a1
 clear a1
 obtain ⟨⟨p0,p1,p2,p3,p4,i1,h1⟩,a2,h⟩:=Option.bind_eq_some_iff.1 h
 try dsimp only at a2 h
 have T2:=zA a2
 clear a2
 have HH:=zA h
 have HR:=zA hr0
 have HC:=zA hc0
 have HB:=zA (Below.refl w.heap.size w)
 clear h hr0 hc0
 go_enter Try.func60,Try.ntmps60
 go_wp2_with (first|((with_reducible refine gate_dst (N:=2) rfl ?_);refine hold ?_))
 unfold Hold
 refine zbx 2 #[.slice none 0 0] 65 ?_
 intro g2 hg w1 hbox hb
 have Bg2:=zA hbox
 have Eg2:=zA (show w.heap.size ≤ g2 ∧ g2 < w1.heap.size by rw [hg];exact ⟨HB.out.size,by rw [← hg];exact blk_lt hbox⟩)
 replace HB:=zA (zJb HB.out hb)
 clear hbox hb hg
 go_wp2_with (first|((with_reducible refine gate_dst (N:=3) rfl ?_);refine hold ?_))
 unfold Hold
 refine zbx 3 #[.slice none 0 0,.slice none 0 0] 46 ?_
 intro g3 hg w2 hbox hb
 have Bg3:=zA hbox
 have Eg3:=zA (show g2 < g3 ∧ g3 < w2.heap.size by rw [hg];exact ⟨blk_lt Bg2.out,by rw [← hg];exact blk_lt hbox⟩)
 replace Bg2:=zA (zQ Bg2.out hb)
 replace HB:=zA (zJb HB.out hb)
 clear hbox hb hg
 go_wp2_with (first|((with_reducible refine gate_dst (N:=4) rfl ?_);refine hold ?_))
 unfold Hold
 refine zbx 4 #[.slice none 0 0,.slice none 0 0] 46 ?_
 intro g4 hg w3 hbox hb
 have Bg4:=zA hbox
 have Eg4:=zA (show g3 < g4 ∧ g4 < w3.heap.size by rw [hg];exact ⟨blk_lt Bg3.out,by rw [← hg];exact blk_lt hbox⟩)
 replace Bg2:=zA (zQ Bg2.out hb)
 replace Bg3:=zA (zQ Bg3.out hb)
 replace HB:=zA (zJb HB.out hb)
 clear hbox hb hg
 go_wp2_with (first|(go_at_call 75;refine hold ?_))
 unfold Hold
 refine (spec_l1New.calls k A0 c0 l0 c i0 h0 _ _ (Below.refl _ _) (zKb HR.out HB.out) HC.out T1.out).mono ?_
 rintro e w4 ⟨gx,rfl,hi,hb3,hb⟩
 have HI:=zA hi
 have H3:=zA hb3
 have W3:=zA HB.out
 replace Bg2:=zA (zQ Bg2.out hb)
 replace Bg3:=zA (zQ Bg3.out hb)
 replace Bg4:=zA (zQ Bg4.out hb)
 replace HB:=zA (zJb HB.out hb)
 have GX:=zA (show g4 < gx ∧ gx < w4.heap.size from ⟨Nat.lt_of_lt_of_le Eg4.out.2 (IsS121.ge hi),IsS121.lt hi⟩)
 clear hi hb3 hb T1
 go_wp2_with (first|(go_at_call 107;refine hold ?_))
 unfold Hold
 refine (l7Pair_walk k gx c i0 h0 p0 p1 p2 p3 p4 i1 h1 _ _ HI.out H3.out T2.out).mono ?_
 rintro e w5 ⟨v0,v1,v2,v3,v4,rfl,q0,q1,q2,q3,q4,hi,hb3,hk⟩
 have HT:=zA hk.1
 replace Bg2:=zA (KeepBut.blk hk Bg2.out (Ne.symm (IsS121.ne_blk HI.out Bg2.out (by decide))) (by simp))
 replace Bg3:=zA (KeepBut.blk hk Bg3.out (Ne.symm (IsS121.ne_blk HI.out Bg3.out (by decide))) (by simp))
 replace Bg4:=zA (KeepBut.blk hk Bg4.out (Ne.symm (IsS121.ne_blk HI.out Bg4.out (by decide))) (by simp))
 replace HI:=zA hi
 replace H3:=zA hb3
 replace HB:=zA (zJb W3.out hb3)
 have R0:=zA (Kd.G_bound q0)
 obtain ⟨A0_,d0,rfl⟩:=Kd.G_slice q0
 have R1:=zA (Kd.G_bound q1)
 obtain ⟨A1_,d1,rfl⟩:=Kd.G_slice q1
 have R2:=zA (Kd.G_bound q2)
 obtain ⟨A2_,d2,rfl⟩:=Kd.G_slice q2
 have R3:=zA (Kd.G_bound q3)
 obtain ⟨A3_,d3,rfl⟩:=Kd.G_slice q3
 have R4:=zA (Kd.G_bound q4)
 obtain ⟨A4_,d4,rfl⟩:=Kd.G_slice q4
 clear q0 q1 q2 q3 q4 hi hb3 hk T2
 go_wp2_with (first|((with_reducible refine gate_dst (N:=5) rfl ?_);refine hold ?_))
 unfold Hold
 refine zbx 5 #[.slice none 0 0] 65 ?_
 intro ga hg w6 hbox hb
 have Bga:=zA hbox
 have Ega:=zA (show w5.heap.size ≤ ga ∧ ga < w6.heap.size by rw [hg];exact ⟨Nat.le_refl _,by rw [← hg];exact blk_lt hbox⟩)
 replace Bg2:=zA (zQ Bg2.out hb)
 replace Bg3:=zA (zQ Bg3.out hb)
 replace Bg4:=zA (zQ Bg4.out hb)
 replace R0:=zA (Kd.G_below R0.out hb)
 replace R1:=zA (Kd.G_below R1.out hb)
 replace R2:=zA (Kd.G_below R2.out hb)
 replace R3:=zA (Kd.G_below R3.out hb)
 replace R4:=zA (Kd.G_below R4.out hb)
 replace HI:=zA (IsS121.below HI.out hb)
 replace H3:=zA (zJb H3.out hb)
 replace HB:=zA (zJb HB.out hb)
 clear hbox hb hg
 go_wp2_with (first|((with_reducible refine gate_dst (N:=6) rfl ?_);refine hold ?_))
 unfold Hold
 refine zbx 6 #[.slice none 0 0,.slice none 0 0] 46 ?_
 intro gb hg w7 hbox hb
 have Bgb:=zA hbox
 have Egb:=zA (show ga < gb ∧ gb < w7.heap.size by rw [hg];exact ⟨blk_lt Bga.out,by rw [← hg];exact blk_lt hbox⟩)
 replace Bg2:=zA (zQ Bg2.out hb)
 replace Bg3:=zA (zQ Bg3.out hb)
 replace Bg4:=zA (zQ Bg4.out hb)
 replace Bga:=zA (zQ Bga.out hb)
 replace R0:=zA (Kd.G_below R0.out hb)
 replace R1:=zA (Kd.G_below R1.out hb)
 replace R2:=zA (Kd.G_below R2.out hb)
 replace R3:=zA (Kd.G_below R3.out hb)
 replace R4:=zA (Kd.G_below R4.out hb)
 replace HI:=zA (IsS121.below HI.out hb)
 replace H3:=zA (zJb H3.out hb)
 replace HB:=zA (zJb HB.out hb)
 clear hbox hb hg
 go_wp2_with (first|((with_reducible refine gate_dst (N:=7) rfl ?_);refine hold ?_))
 unfold Hold
 refine zbx 7 #[.slice none 0 0,.slice none 0 0] 46 ?_
 intro gd hg w8 hbox hb
 have Bgd:=zA hbox
 have Egd:=zA (show gb < gd ∧ gd < w8.heap.size by rw [hg];exact ⟨blk_lt Bgb.out,by rw [← hg];exact blk_lt hbox⟩)
 replace Bg2:=zA (zQ Bg2.out hb)
 replace Bg3:=zA (zQ Bg3.out hb)
 replace Bg4:=zA (zQ Bg4.out hb)
 replace Bga:=zA (zQ Bga.out hb)
 replace Bgb:=zA (zQ Bgb.out hb)
 replace R0:=zA (Kd.G_below R0.out hb)
 replace R1:=zA (Kd.G_below R1.out hb)
 replace R2:=zA (Kd.G_below R2.out hb)
 replace R3:=zA (Kd.G_below R3.out hb)
 replace R4:=zA (Kd.G_below R4.out hb)
 replace HI:=zA (IsS121.below HI.out hb)
 replace H3:=zA (zJb H3.out hb)
 replace HB:=zA (zJb HB.out hb)
 clear hbox hb hg
 have SW:=zA (show StW w gx g2 g3 g4 ga gb gd (.slice none 0 0) (.slice none 0 0) (.slice none 0 0) (.slice none 0 0) (.slice none 0 0) [] [] [] [] [] w4.heap.size w5.heap.size w8 from ⟨HB.out,Bg2.out,Bg3.out,Bg4.out,Bga.out,Bgb.out,Bgd.out,by have:=Eg2.out;have:=Eg3.out;have:=Eg4.out;have:=GX.out;have:=HT.out;have:=Ega.out;have:=Egb.out;have:=Egd.out;omega,⟨_,_,rfl,Nat.le_refl _,Kd.F_nil _ _ _⟩,⟨_,_,rfl,Nat.le_refl _,Kd.F_nil _ _ _⟩,⟨_,_,rfl,Nat.le_refl _,Kd.F_nil _ _ _⟩,⟨_,_,rfl,Nat.le_refl _,Kd.F_nil _ _ _⟩,⟨_,_,rfl,Nat.le_refl _,Kd.F_nil _ _ _⟩⟩)
 obtain ⟨wa,ha⟩ : ∃ wa,wa = w8.setCell ⟨ga,0,none⟩ (.slice A0_ p0.length d0):=⟨_,rfl⟩
 obtain ⟨wb,hb⟩ : ∃ wb,wb = (wa.setCell ⟨gb,0,none⟩ (.slice A1_ p1.length d1)).setCell ⟨gb,1,none⟩ (.slice A2_ p2.length d2):=⟨_,rfl⟩
 obtain ⟨wd,hd⟩ : ∃ wd,wd = (wb.setCell ⟨gd,0,none⟩ (.slice A3_ p3.length d3)).setCell ⟨gd,1,none⟩ (.slice A4_ p4.length d4):=⟨_,rfl⟩
 have NA:=zA (filled SW.out R0.out R1.out R2.out R3.out R4.out ha hb hd)
 have HI2:=zA (NA.out.2.2.2 HI.out)
 have H32:=zA (show Below w3.heap.size w3 wd from by rw [hd,hb,ha];have h_ : w3.heap.size ≤ ga ∧ w3.heap.size ≤ gb ∧ w3.heap.size ≤ gd:=(by have:=IsS121.ge HI.out;have:=GX.out;have:=HT.out;have:=Ega.out;have:=Egb.out;have:=Egd.out;omega);exact zB (zB (zB (zB (zB H3.out h_.1) h_.2.1) h_.2.1) h_.2.2) h_.2.2)
 have HA_:=zA ha
 have HB_:=zA hb
 have HD_:=zA hd
 clear ha hb hd HI H3 HB R0 R1 R2 R3 R4 Bg2 Bg3 Bg4 Bga Bgb Bgd Eg2 Eg3 Eg4 Ega Egb Egd HT
 have hy0 : w8.cell? ⟨ga,0,none⟩ = some (.slice none 0 0):=(zP SW.out.ba 0).trans rfl
 have hf0:=blk_frozen SW.out.ba 0
 go_wp2_with (first|((with_reducible refine gate_store (t:=65) (p:=5) rfl ?_);refine hold ?_))
 unfold Hold
 refine store_event (t:=65) (p:=5) (v:=?vm0) (w1:=wa) ?hgm0 ?hom0 ?hnm0 ?hrm0 ?_
 case hom0 => rfl
 case hgm0 => rfl
 case hnm0 => rfl
 case hrm0 => rw [HA_.out];first|(go_simp;done)|(go_simp;rfl)
 intro w_ h_
 subst w_
 clear hy0 hf0
 have hy0 : wa.cell? ⟨gb,0,none⟩ = some (.slice none 0 0):=(zP (NA.out.2.1.trans SW.out.bb) 0).trans rfl
 have hf0:=blk_frozen (NA.out.2.1.trans SW.out.bb) 0
 have hy1 : wa.cell? ⟨gb,1,none⟩ = some (.slice none 0 0):=(zP (NA.out.2.1.trans SW.out.bb) 1).trans rfl
 have hf1:=blk_frozen (NA.out.2.1.trans SW.out.bb) 1
 go_wp2_with (first|((with_reducible refine gate_store (t:=46) (p:=6) rfl ?_);refine hold ?_))
 unfold Hold
 refine store_event (t:=46) (p:=6) (v:=?vm1) (w1:=wb) ?hgm1 ?hom1 ?hnm1 ?hrm1 ?_
 case hom1 => rfl
 case hgm1 => rfl
 case hnm1 => rfl
 case hrm1 => rw [HB_.out];first|(go_simp;done)|(go_simp;rfl)
 intro w_ h_
 subst w_
 clear hy0 hf0 hy1 hf1
 have hy0 : wb.cell? ⟨gd,0,none⟩ = some (.slice none 0 0):=(zP (NA.out.2.2.1.trans SW.out.bd) 0).trans rfl
 have hf0:=blk_frozen (NA.out.2.2.1.trans SW.out.bd) 0
 have hy1 : wb.cell? ⟨gd,1,none⟩ = some (.slice none 0 0):=(zP (NA.out.2.2.1.trans SW.out.bd) 1).trans rfl
 have hf1:=blk_frozen (NA.out.2.2.1.trans SW.out.bd) 1
 go_wp2_with (first|((with_reducible refine gate_store (t:=46) (p:=7) rfl ?_);refine hold ?_))
 unfold Hold
 refine store_event (t:=46) (p:=7) (v:=?vm2) (w1:=wd) ?hgm2 ?hom2 ?hnm2 ?hrm2 ?_
 case hom2 => rfl
 case hgm2 => rfl
 case hnm2 => rfl
 case hrm2 => rw [HD_.out];first|(go_simp;done)|(go_simp;rfl)
 intro w_ h_
 subst w_
 clear hy0 hf0 hy1 hf1
 have ST:=zA NA.out.1
 clear NA SW HA_ HB_ HD_
 have hh:=HH.out
 simp only [Option.some.injEq,Prod.mk.injEq] at hh
 obtain ⟨rfl,rfl,rfl,rfl,rfl⟩:=hh
 clear HH HI2 H32 W3 GX
 try go_wp2
 have n_:=zA (ST.out.below (below_drew (w:=wd) (Below.refl _ _)))
 clear ST
 have ST:=n_
 clear n_
 refine start_ (n:=6) (S:=fun w' => w'.cell? ⟨ga,0,none⟩ = some (.slice A0_ p0.length d0) ∧ w'.cell? ⟨gb,0,none⟩ = some (.slice A1_ p1.length d1) ∧ w'.cell? ⟨gb,1,none⟩ = some (.slice A2_ p2.length d2) ∧ w'.cell? ⟨gd,0,none⟩ = some (.slice A3_ p3.length d3) ∧ w'.cell? ⟨gd,1,none⟩ = some (.slice A4_ p4.length d4)) (ds:=[]) #[yf,yf,yf,yf,yf,yf] (by kernel_rfl) rfl rfl ⟨(zP ST.out.ba 0).trans rfl,(zP ST.out.bb 0).trans rfl,(zP ST.out.bb 1).trans rfl,(zP ST.out.bd 0).trans rfl,(zP ST.out.bd 1).trans rfl⟩ (fun hHeld => ?_)
 generalize wd.drew = wt at ST  hHeld ⊢
 refine zw 0 15 hHeld ?_;refine zw 1 16 hHeld ?_;refine zw 2 17 hHeld ?_
 obtain ⟨wp,hp⟩ : ∃ wp,wp = wt.setCell ⟨g2,0,none⟩ (.slice A0_ p0.length d0):=⟨_,rfl⟩
 obtain ⟨wq,hq⟩ : ∃ wq,wq = (wp.setCell ⟨g3,0,none⟩ (.slice A1_ p1.length d1)).setCell ⟨g3,1,none⟩ (.slice A2_ p2.length d2):=⟨_,rfl⟩
 obtain ⟨wz,hz⟩ : ∃ wz,wz = (wq.setCell ⟨g4,0,none⟩ (.slice A3_ p3.length d3)).setCell ⟨g4,1,none⟩ (.slice A4_ p4.length d4):=⟨_,rfl⟩
 have FN:=zA (ST.out.fin hp hq hz)
 have HP_:=zA hp
 have HQ_:=zA hq
 have HZ_:=zA hz
 clear hp hq hz
 have OFF:=zA (show (ga ≠ g2 ∧ ga ≠ g3 ∧ ga ≠ g4) ∧ (gb ≠ g2 ∧ gb ≠ g3 ∧ gb ≠ g4) ∧ (gd ≠ g2 ∧ gd ≠ g3 ∧ gd ≠ g4) by have:=ST.out.n;omega)
 refine one_ (i:=3) (N:=none) #[yt,yt,yt,yt,yf,yf] rfl rfl (by kernel_rfl) (by decide) (fun K hK => ?_)
 have hq0 : wt.cell? ⟨g2,0,none⟩ = some (.slice none 0 0):=(zP ST.out.b2 0).trans rfl
 have hf0:=blk_frozen ST.out.b2 0
 refine skip_ (w1:=wp) (by rfl) rfl ?_ ?_
 ·rw [HP_.out];go_simp;first|done|rfl
 clear hq0 hf0
 refine hK.out _ _ ⟨(zP ((FN.out.2.2.1 _ OFF.out.1).1.trans ST.out.ba) 0).trans rfl,(zP ((FN.out.2.2.1 _ OFF.out.2.1).1.trans ST.out.bb) 0).trans rfl,(zP ((FN.out.2.2.1 _ OFF.out.2.1).1.trans ST.out.bb) 1).trans rfl,(zP ((FN.out.2.2.1 _ OFF.out.2.2).1.trans ST.out.bd) 0).trans rfl,(zP ((FN.out.2.2.1 _ OFF.out.2.2).1.trans ST.out.bd) 1).trans rfl⟩ (fun hHeld => ?_)
 clear hK K
 refine one_ (i:=4) (N:=none) #[yt,yt,yt,yt,yt,yf] rfl rfl (by kernel_rfl) (by decide) (fun K hK => ?_)
 have hq0 : wp.cell? ⟨g3,0,none⟩ = some (.slice none 0 0):=(zP (FN.out.2.2.2.1.trans ST.out.b3) 0).trans rfl
 have hq1 : wp.cell? ⟨g3,1,none⟩ = some (.slice none 0 0):=(zP (FN.out.2.2.2.1.trans ST.out.b3) 1).trans rfl
 have hf0:=blk_frozen (FN.out.2.2.2.1.trans ST.out.b3) 0
 have hf1:=blk_frozen (FN.out.2.2.2.1.trans ST.out.b3) 1
 refine skip_ (w1:=wq) (by rfl) rfl ?_ ?_
 ·rw [HQ_.out];go_simp;first|done|rfl
 clear hq0 hq1 hf0 hf1
 refine hK.out _ _ ⟨(zP ((FN.out.2.2.1 _ OFF.out.1).2.1.trans ST.out.ba) 0).trans rfl,(zP ((FN.out.2.2.1 _ OFF.out.2.1).2.1.trans ST.out.bb) 0).trans rfl,(zP ((FN.out.2.2.1 _ OFF.out.2.1).2.1.trans ST.out.bb) 1).trans rfl,(zP ((FN.out.2.2.1 _ OFF.out.2.2).2.1.trans ST.out.bd) 0).trans rfl,(zP ((FN.out.2.2.1 _ OFF.out.2.2).2.1.trans ST.out.bd) 1).trans rfl⟩ (fun hHeld => ?_)
 clear hK K
 refine one_ (i:=5) (N:=none) #[yt,yt,yt,yt,yt,yt] rfl rfl (by kernel_rfl) (by decide) (fun K hK => ?_)
 have hq0 : wq.cell? ⟨g4,0,none⟩ = some (.slice none 0 0):=(zP (FN.out.2.2.2.2.trans ST.out.b4) 0).trans rfl
 have hq1 : wq.cell? ⟨g4,1,none⟩ = some (.slice none 0 0):=(zP (FN.out.2.2.2.2.trans ST.out.b4) 1).trans rfl
 have hf0:=blk_frozen (FN.out.2.2.2.2.trans ST.out.b4) 0
 have hf1:=blk_frozen (FN.out.2.2.2.2.trans ST.out.b4) 1
 refine skip_ (w1:=wz) (by rfl) rfl ?_ ?_
 ·rw [HZ_.out];go_simp;first|done|rfl
 clear hq0 hq1 hf0 hf1
 refine hK.out _ _ ⟨(zP ((FN.out.2.2.1 _ OFF.out.1).2.2.trans ST.out.ba) 0).trans rfl,(zP ((FN.out.2.2.1 _ OFF.out.2.1).2.2.trans ST.out.bb) 0).trans rfl,(zP ((FN.out.2.2.1 _ OFF.out.2.1).2.2.trans ST.out.bb) 1).trans rfl,(zP ((FN.out.2.2.1 _ OFF.out.2.2).2.2.trans ST.out.bd) 0).trans rfl,(zP ((FN.out.2.2.1 _ OFF.out.2.2).2.2.trans ST.out.bd) 1).trans rfl⟩ (fun hHeld => ?_)
 clear hK K
 refine done_ (by kernel_rfl) ?_
 clear hHeld HP_ HQ_ HZ_
 have Z0:=zA (Kd.G_mono (base':=w.heap.size) (ok':=fun k_ => (w.heap.size ≤ k_)) (Kd.G_step ST.out.r0 (fun k_ h_ _ => (FN.out.2.2.1 k_ (by have:=ST.out.n;omega)).2.2)) (fun k_ h_ => by have:=ST.out.n;omega))
 have Z1:=zA (Kd.G_mono (base':=w.heap.size) (ok':=fun k_ => (w.heap.size ≤ k_)) (Kd.G_step ST.out.r1 (fun k_ h_ _ => (FN.out.2.2.1 k_ (by have:=ST.out.n;omega)).2.2)) (fun k_ h_ => by have:=ST.out.n;omega))
 have Z2:=zA (Kd.G_mono (base':=w.heap.size) (ok':=fun k_ => (w.heap.size ≤ k_)) (Kd.G_step ST.out.r2 (fun k_ h_ _ => (FN.out.2.2.1 k_ (by have:=ST.out.n;omega)).2.2)) (fun k_ h_ => by have:=ST.out.n;omega))
 have Z3:=zA (Kd.G_mono (base':=w.heap.size) (ok':=fun k_ => (w.heap.size ≤ k_)) (Kd.G_step ST.out.r3 (fun k_ h_ _ => (FN.out.2.2.1 k_ (by have:=ST.out.n;omega)).2.2)) (fun k_ h_ => by have:=ST.out.n;omega))
 have Z4:=zA (Kd.G_mono (base':=w.heap.size) (ok':=fun k_ => (w.heap.size ≤ k_)) (Kd.G_step ST.out.r4 (fun k_ h_ _ => (FN.out.2.2.1 k_ (by have:=ST.out.n;omega)).2.2)) (fun k_ h_ => by have:=ST.out.n;omega))
 clear ST OFF
 go_wp2
 refine bodyPost_ret (results_list (rs:=[.cell 2 65,.cell 3 46,.cell 4 46]) rfl (by simp) (.cell g2 65 #[.slice A0_ p0.length d0] (0,0) _ rfl FN.out.1.1 Try.underlying65 rfl (by kernel_rfl) (.cell g3 46 #[.slice A1_ p1.length d1,.slice A2_ p2.length d2] (0,0) _ rfl FN.out.1.2.1 Try.underlying46 rfl (by kernel_rfl) (.cell g4 46 #[.slice A3_ p3.length d3,.slice A4_ p4.length d4] (0,0) _ rfl FN.out.1.2.2 Try.underlying46 rfl (by kernel_rfl) .nil)))) rfl ?_
 exact ⟨_,_,_,_,_,rfl,Z0.out,Z1.out,Z2.out,Z3.out,Z4.out,FN.out.2.1⟩
set_option maxHeartbeats 8000000 in
set_option maxRecDepth 100000 in
theorem spec_DrawIsMapping_calls (k : Nat) (A0 : Option Addr) (c0 : Nat) (l0 : List Int) (r1 : List Int) (r2 : List Int) (r3 : List (S97)) (r4 : List Int) (r5 : List (S97)) (r6 : List Int) (w : World) (hr0 : Kd.C (Kd.int .u8) w A0 l0.length l0) (hc0 : l0.length ≤ c0) (hz0 : (r1.length ≤ 1048576 ∧ r2.length ≤ 1048576 ∧ r3.length ≤ 1048576 ∧ r4.length ≤ 1048576 ∧ r5.length ≤ 1048576) ∧ (∀ x ∈ r3, x.f1.length ≤ 1048576) ∧ ∀ x ∈ r5, x.f1.length ≤ 1048576) (h : drawIs_f k l0 = some (r1, r2, r3, r4, r5, r6)) :
  Calls Try.prog 63 #[.slice A0 l0.length c0] w fun e w' => ∃ v0_ v1_ v2_ v3_ v4_ v5_ : Value, e = .returned (.tuple #[.agg #[v0_], .agg #[v1_, v2_], .agg #[v3_, v4_], v5_]) ∧ Kd.G (Kd.int .i64) 3 w' w.heap.size (fun k_ => (w.heap.size ≤ k_)) v0_ r1 ∧ Kd.G (Kd.int .i64) 3 w' w.heap.size (fun k_ => (w.heap.size ≤ k_)) v1_ r2 ∧ Kd.G k97 97 w' w.heap.size (fun k_ => (w.heap.size ≤ k_)) v2_ r3 ∧ Kd.G (Kd.int .i64) 3 w' w.heap.size (fun k_ => (w.heap.size ≤ k_)) v3_ r4 ∧ Kd.G k97 97 w' w.heap.size (fun k_ => (w.heap.size ≤ k_)) v4_ r5 ∧ Kd.G (Kd.int .i64) 3 w' w.heap.size (fun k_ => (w.heap.size ≤ k_)) v5_ r6 ∧ Below w.heap.size w w' := by
 have ZH:=zA hz0
 clear hz0
 have huS:=Try.underlying65
 have huQ:=Try.underlying46
 unfold drawIs_f at h
 obtain ⟨⟨c,i0,h0⟩,a1,h⟩:=Option.bind_eq_some_iff.1 h
 try dsimp only at a1 h
 have T1:=zA a1
 clear a1
 obtain ⟨⟨p0,p1,p2,p3,p4,i1,h1⟩,a2,h⟩:=Option.bind_eq_some_iff.1 h
 try dsimp only at a2 h
 have T2:=zA a2
 clear a2
 have HH:=zA h
 have HR:=zA hr0
 have HC:=zA hc0
 have HB:=zA (Below.refl w.heap.size w)
 clear h hr0 hc0
 go_enter Try.func63,Try.ntmps63
 go_wp2_with (first|((with_reducible refine gate_dst (N:=2) rfl ?_);refine hold ?_))
 unfold Hold
 refine zbx 2 #[.slice none 0 0] 65 ?_
 intro g2 hg w1 hbox hb
 have Bg2:=zA hbox
 have Eg2:=zA (show w.heap.size ≤ g2 ∧ g2 < w1.heap.size by rw [hg];exact ⟨HB.out.size,by rw [← hg];exact blk_lt hbox⟩)
 replace HB:=zA (zJb HB.out hb)
 clear hbox hb hg
 go_wp2_with (first|((with_reducible refine gate_dst (N:=3) rfl ?_);refine hold ?_))
 unfold Hold
 refine zbx 3 #[.slice none 0 0,.slice none 0 0] 46 ?_
 intro g3 hg w2 hbox hb
 have Bg3:=zA hbox
 have Eg3:=zA (show g2 < g3 ∧ g3 < w2.heap.size by rw [hg];exact ⟨blk_lt Bg2.out,by rw [← hg];exact blk_lt hbox⟩)
 replace Bg2:=zA (zQ Bg2.out hb)
 replace HB:=zA (zJb HB.out hb)
 clear hbox hb hg
 go_wp2_with (first|((with_reducible refine gate_dst (N:=4) rfl ?_);refine hold ?_))
 unfold Hold
 refine zbx 4 #[.slice none 0 0,.slice none 0 0] 46 ?_
 intro g4 hg w3 hbox hb
 have Bg4:=zA hbox
 have Eg4:=zA (show g3 < g4 ∧ g4 < w3.heap.size by rw [hg];exact ⟨blk_lt Bg3.out,by rw [← hg];exact blk_lt hbox⟩)
 replace Bg2:=zA (zQ Bg2.out hb)
 replace Bg3:=zA (zQ Bg3.out hb)
 replace HB:=zA (zJb HB.out hb)
 clear hbox hb hg
 go_wp2_with (first|(go_at_call 75;refine hold ?_))
 unfold Hold
 refine (spec_l1New.calls k A0 c0 l0 c i0 h0 _ _ (Below.refl _ _) (zKb HR.out HB.out) HC.out T1.out).mono ?_
 rintro e w4 ⟨gx,rfl,hi,hb3,hb⟩
 have HI:=zA hi
 have H3:=zA hb3
 have W3:=zA HB.out
 replace Bg2:=zA (zQ Bg2.out hb)
 replace Bg3:=zA (zQ Bg3.out hb)
 replace Bg4:=zA (zQ Bg4.out hb)
 replace HB:=zA (zJb HB.out hb)
 have GX:=zA (show g4 < gx ∧ gx < w4.heap.size from ⟨Nat.lt_of_lt_of_le Eg4.out.2 (IsS121.ge hi),IsS121.lt hi⟩)
 clear hi hb3 hb T1
 go_wp2_with (first|(go_at_call 107;refine hold ?_))
 unfold Hold
 refine (l7Pair_walk k gx c i0 h0 p0 p1 p2 p3 p4 i1 h1 _ _ HI.out H3.out T2.out).mono ?_
 rintro e w5 ⟨v0,v1,v2,v3,v4,rfl,q0,q1,q2,q3,q4,hi,hb3,hk⟩
 have HT:=zA hk.1
 replace Bg2:=zA (KeepBut.blk hk Bg2.out (Ne.symm (IsS121.ne_blk HI.out Bg2.out (by decide))) (by simp))
 replace Bg3:=zA (KeepBut.blk hk Bg3.out (Ne.symm (IsS121.ne_blk HI.out Bg3.out (by decide))) (by simp))
 replace Bg4:=zA (KeepBut.blk hk Bg4.out (Ne.symm (IsS121.ne_blk HI.out Bg4.out (by decide))) (by simp))
 replace HI:=zA hi
 replace H3:=zA hb3
 replace HB:=zA (zJb W3.out hb3)
 have R0:=zA (Kd.G_bound q0)
 obtain ⟨A0_,d0,rfl⟩:=Kd.G_slice q0
 have R1:=zA (Kd.G_bound q1)
 obtain ⟨A1_,d1,rfl⟩:=Kd.G_slice q1
 have R2:=zA (Kd.G_bound q2)
 obtain ⟨A2_,d2,rfl⟩:=Kd.G_slice q2
 have R3:=zA (Kd.G_bound q3)
 obtain ⟨A3_,d3,rfl⟩:=Kd.G_slice q3
 have R4:=zA (Kd.G_bound q4)
 obtain ⟨A4_,d4,rfl⟩:=Kd.G_slice q4
 clear q0 q1 q2 q3 q4 hi hb3 hk T2
 go_wp2_with (first|((with_reducible refine gate_dst (N:=7) rfl ?_);refine hold ?_))
 unfold Hold
 refine zbx 7 #[.slice none 0 0] 65 ?_
 intro ga hg w6 hbox hb
 have Bga:=zA hbox
 have Ega:=zA (show w5.heap.size ≤ ga ∧ ga < w6.heap.size by rw [hg];exact ⟨Nat.le_refl _,by rw [← hg];exact blk_lt hbox⟩)
 replace Bg2:=zA (zQ Bg2.out hb)
 replace Bg3:=zA (zQ Bg3.out hb)
 replace Bg4:=zA (zQ Bg4.out hb)
 replace R0:=zA (Kd.G_below R0.out hb)
 replace R1:=zA (Kd.G_below R1.out hb)
 replace R2:=zA (Kd.G_below R2.out hb)
 replace R3:=zA (Kd.G_below R3.out hb)
 replace R4:=zA (Kd.G_below R4.out hb)
 replace HI:=zA (IsS121.below HI.out hb)
 replace H3:=zA (zJb H3.out hb)
 replace HB:=zA (zJb HB.out hb)
 clear hbox hb hg
 go_wp2_with (first|((with_reducible refine gate_dst (N:=8) rfl ?_);refine hold ?_))
 unfold Hold
 refine zbx 8 #[.slice none 0 0,.slice none 0 0] 46 ?_
 intro gb hg w7 hbox hb
 have Bgb:=zA hbox
 have Egb:=zA (show ga < gb ∧ gb < w7.heap.size by rw [hg];exact ⟨blk_lt Bga.out,by rw [← hg];exact blk_lt hbox⟩)
 replace Bg2:=zA (zQ Bg2.out hb)
 replace Bg3:=zA (zQ Bg3.out hb)
 replace Bg4:=zA (zQ Bg4.out hb)
 replace Bga:=zA (zQ Bga.out hb)
 replace R0:=zA (Kd.G_below R0.out hb)
 replace R1:=zA (Kd.G_below R1.out hb)
 replace R2:=zA (Kd.G_below R2.out hb)
 replace R3:=zA (Kd.G_below R3.out hb)
 replace R4:=zA (Kd.G_below R4.out hb)
 replace HI:=zA (IsS121.below HI.out hb)
 replace H3:=zA (zJb H3.out hb)
 replace HB:=zA (zJb HB.out hb)
 clear hbox hb hg
 go_wp2_with (first|((with_reducible refine gate_dst (N:=9) rfl ?_);refine hold ?_))
 unfold Hold
 refine zbx 9 #[.slice none 0 0,.slice none 0 0] 46 ?_
 intro gd hg w8 hbox hb
 have Bgd:=zA hbox
 have Egd:=zA (show gb < gd ∧ gd < w8.heap.size by rw [hg];exact ⟨blk_lt Bgb.out,by rw [← hg];exact blk_lt hbox⟩)
 replace Bg2:=zA (zQ Bg2.out hb)
 replace Bg3:=zA (zQ Bg3.out hb)
 replace Bg4:=zA (zQ Bg4.out hb)
 replace Bga:=zA (zQ Bga.out hb)
 replace Bgb:=zA (zQ Bgb.out hb)
 replace R0:=zA (Kd.G_below R0.out hb)
 replace R1:=zA (Kd.G_below R1.out hb)
 replace R2:=zA (Kd.G_below R2.out hb)
 replace R3:=zA (Kd.G_below R3.out hb)
 replace R4:=zA (Kd.G_below R4.out hb)
 replace HI:=zA (IsS121.below HI.out hb)
 replace H3:=zA (zJb H3.out hb)
 replace HB:=zA (zJb HB.out hb)
 clear hbox hb hg
 have SW:=zA (show StW w gx g2 g3 g4 ga gb gd (.slice none 0 0) (.slice none 0 0) (.slice none 0 0) (.slice none 0 0) (.slice none 0 0) [] [] [] [] [] w4.heap.size w5.heap.size w8 from ⟨HB.out,Bg2.out,Bg3.out,Bg4.out,Bga.out,Bgb.out,Bgd.out,by have:=Eg2.out;have:=Eg3.out;have:=Eg4.out;have:=GX.out;have:=HT.out;have:=Ega.out;have:=Egb.out;have:=Egd.out;omega,⟨_,_,rfl,Nat.le_refl _,Kd.F_nil _ _ _⟩,⟨_,_,rfl,Nat.le_refl _,Kd.F_nil _ _ _⟩,⟨_,_,rfl,Nat.le_refl _,Kd.F_nil _ _ _⟩,⟨_,_,rfl,Nat.le_refl _,Kd.F_nil _ _ _⟩,⟨_,_,rfl,Nat.le_refl _,Kd.F_nil _ _ _⟩⟩)
 obtain ⟨wa,ha⟩ : ∃ wa,wa = w8.setCell ⟨ga,0,none⟩ (.slice A0_ p0.length d0):=⟨_,rfl⟩
 obtain ⟨wb,hb⟩ : ∃ wb,wb = (wa.setCell ⟨gb,0,none⟩ (.slice A1_ p1.length d1)).setCell ⟨gb,1,none⟩ (.slice A2_ p2.length d2):=⟨_,rfl⟩
 obtain ⟨wd,hd⟩ : ∃ wd,wd = (wb.setCell ⟨gd,0,none⟩ (.slice A3_ p3.length d3)).setCell ⟨gd,1,none⟩ (.slice A4_ p4.length d4):=⟨_,rfl⟩
 have NA:=zA (filled SW.out R0.out R1.out R2.out R3.out R4.out ha hb hd)
 have HI2:=zA (NA.out.2.2.2 HI.out)
 have H32:=zA (show Below w3.heap.size w3 wd from by rw [hd,hb,ha];have h_ : w3.heap.size ≤ ga ∧ w3.heap.size ≤ gb ∧ w3.heap.size ≤ gd:=(by have:=IsS121.ge HI.out;have:=GX.out;have:=HT.out;have:=Ega.out;have:=Egb.out;have:=Egd.out;omega);exact zB (zB (zB (zB (zB H3.out h_.1) h_.2.1) h_.2.1) h_.2.2) h_.2.2)
 have HA_:=zA ha
 have HB_:=zA hb
 have HD_:=zA hd
 clear ha hb hd HI H3 HB R0 R1 R2 R3 R4 Bg2 Bg3 Bg4 Bga Bgb Bgd Eg2 Eg3 Eg4 Ega Egb Egd HT
 have hy0 : w8.cell? ⟨ga,0,none⟩ = some (.slice none 0 0):=(zP SW.out.ba 0).trans rfl
 have hf0:=blk_frozen SW.out.ba 0
 go_wp2_with (first|((with_reducible refine gate_store (t:=65) (p:=7) rfl ?_);refine hold ?_))
 unfold Hold
 refine store_event (t:=65) (p:=7) (v:=?vm0) (w1:=wa) ?hgm0 ?hom0 ?hnm0 ?hrm0 ?_
 case hom0 => rfl
 case hgm0 => rfl
 case hnm0 => rfl
 case hrm0 => rw [HA_.out];first|(go_simp;done)|(go_simp;rfl)
 intro w_ h_
 subst w_
 clear hy0 hf0
 have hy0 : wa.cell? ⟨gb,0,none⟩ = some (.slice none 0 0):=(zP (NA.out.2.1.trans SW.out.bb) 0).trans rfl
 have hf0:=blk_frozen (NA.out.2.1.trans SW.out.bb) 0
 have hy1 : wa.cell? ⟨gb,1,none⟩ = some (.slice none 0 0):=(zP (NA.out.2.1.trans SW.out.bb) 1).trans rfl
 have hf1:=blk_frozen (NA.out.2.1.trans SW.out.bb) 1
 go_wp2_with (first|((with_reducible refine gate_store (t:=46) (p:=8) rfl ?_);refine hold ?_))
 unfold Hold
 refine store_event (t:=46) (p:=8) (v:=?vm1) (w1:=wb) ?hgm1 ?hom1 ?hnm1 ?hrm1 ?_
 case hom1 => rfl
 case hgm1 => rfl
 case hnm1 => rfl
 case hrm1 => rw [HB_.out];first|(go_simp;done)|(go_simp;rfl)
 intro w_ h_
 subst w_
 clear hy0 hf0 hy1 hf1
 have hy0 : wb.cell? ⟨gd,0,none⟩ = some (.slice none 0 0):=(zP (NA.out.2.2.1.trans SW.out.bd) 0).trans rfl
 have hf0:=blk_frozen (NA.out.2.2.1.trans SW.out.bd) 0
 have hy1 : wb.cell? ⟨gd,1,none⟩ = some (.slice none 0 0):=(zP (NA.out.2.2.1.trans SW.out.bd) 1).trans rfl
 have hf1:=blk_frozen (NA.out.2.2.1.trans SW.out.bd) 1
 go_wp2_with (first|((with_reducible refine gate_store (t:=46) (p:=9) rfl ?_);refine hold ?_))
 unfold Hold
 refine store_event (t:=46) (p:=9) (v:=?vm2) (w1:=wd) ?hgm2 ?hom2 ?hnm2 ?hrm2 ?_
 case hom2 => rfl
 case hgm2 => rfl
 case hnm2 => rfl
 case hrm2 => rw [HD_.out];first|(go_simp;done)|(go_simp;rfl)
 intro w_ h_
 subst w_
 clear hy0 hf0 hy1 hf1
 have ST:=zA NA.out.1
 clear NA SW HA_ HB_ HD_
 have hh:=HH.out
 clear HH
 obtain ⟨⟨o,i2,h2⟩,a3,hh⟩:=Option.bind_eq_some_iff.1 hh
 try dsimp only at a3 hh
 have T3:=zA a3
 clear a3
 obtain ⟨⟨m,i3,h3⟩,a4,hh⟩:=Option.bind_eq_some_iff.1 hh
 try dsimp only at a4 hh
 have T4:=zA a4
 clear a4
 obtain ⟨⟨u,i4,h4⟩,a5,hh⟩:=Option.bind_eq_some_iff.1 hh
 try dsimp only at a5 hh
 have T5:=zA a5
 clear a5
 simp only [Option.some.injEq,Prod.mk.injEq] at hh
 obtain ⟨rfl,rfl,rfl,rfl,rfl,e6⟩:=hh
 have E6:=zA e6
 clear e6
 obtain ⟨mq,hmq⟩ : ∃ q,mFindQ p0 p1 p2 p3 p4 = q:=⟨_,rfl⟩
 have MQ:=zA hmq
 have ML:=zA (theM_len p0 p1 p2 p3 p4)
 rw [hmq] at T4 ML
 clear hmq
 obtain ⟨m0,is⟩:=mq
 have hx0 : wd.cell? ⟨ga,0,none⟩ = some (.slice A0_ p0.length d0):=(zP ST.out.ba 0).trans rfl
 have hx1 : wd.cell? ⟨gb,0,none⟩ = some (.slice A1_ p1.length d1):=(zP ST.out.bb 0).trans rfl
 have hx2 : wd.cell? ⟨gb,1,none⟩ = some (.slice A2_ p2.length d2):=(zP ST.out.bb 1).trans rfl
 have hx3 : wd.cell? ⟨gd,0,none⟩ = some (.slice A3_ p3.length d3):=(zP ST.out.bd 0).trans rfl
 have hx4 : wd.cell? ⟨gd,1,none⟩ = some (.slice A4_ p4.length d4):=(zP ST.out.bd 1).trans rfl
 go_wp2_with (first|(go_at_call 56;refine hold ?_))
 unfold Hold
 refine (spec_FindMapping_calls A0_ d0 p0 A1_ d1 p1 A2_ d2 p2 A3_ d3 p3 A4_ d4 p4 m0 is _ (Kd.G_reads' ST.out.r0).2.2 (Kd.G_reads' ST.out.r0).2.1 (Kd.G_reads' ST.out.r1).2.2 (Kd.G_reads' ST.out.r1).2.1 (Kd.G_reads' ST.out.r2).2.2 (Kd.G_reads' ST.out.r2).2.1 (Kd.G_reads' ST.out.r3).2.2 (Kd.G_reads' ST.out.r3).2.1 (Kd.G_reads' ST.out.r4).2.2 (Kd.G_reads' ST.out.r4).2.1 ZH.out MQ.out).mono ?_
 have DL:=zA (show gd + 1 ≤ wd.heap.size from ST.out.n.2.2.2.2.2.2.2.2.2)
 rintro e wf ⟨vm,rfl,ho,hb⟩
 have RM:=zA (show Kd.R (Kd.int .i64) 3 wf wd.heap.size (fun _ => True) vm m0 from ho)
 replace ST:=zA (ST.out.below hb)
 replace HI2:=zA (IsS121.below HI2.out hb)
 replace H32:=zA (zJb H32.out hb)
 have SZ:=zA ST.out.n.2.2.2.2.2.2.2.2.2
 clear ho hb hx0 hx1 hx2 hx3 hx4
 obtain ⟨Am,dm,rfl⟩:=Kd.R_slice RM.out
 go_upto_if 28 with fail
 try simp only [Act.put,zO,zEb,zFb]
 go_cut [10] (fun v10 wc => Aside0 (StW w gx g2 g3 g4 ga gb gd (.slice A0_ p0.length d0) (.slice A1_ p1.length d1) (.slice A2_ p2.length d2) (.slice A3_ p3.length d3) (.slice A4_ p4.length d4) p0 p1 p2 p3 p4 w4.heap.size w5.heap.size wc) ∧ Aside0 (IsS121 w3 wc gx c i1 h1) ∧ Aside0 (Below w3.heap.size w3 wc) ∧ Aside0 (Kd.R (Kd.int .i64) 3 wc (gd + 1) (fun _ => True) v10 (theM (m0,is))))
 case first =>
  cases is
  ·
   go_wp2_with (first|(go_at_call 108;refine hold ?_))
   unfold Hold
   obtain ⟨ke,hke⟩:=l7Empty_ev.rounds
   refine (spec_l7Empty.calls ke mNone _ hke).mono ?_
   rintro e wg ⟨vn,rfl,ho,hb⟩
   replace ST:=zA (ST.out.below hb)
   replace HI2:=zA (IsS121.below HI2.out hb)
   replace H32:=zA (zJb H32.out hb)
   have RN:=zA (zHb ho (show gd + 1 ≤ wf.heap.size from SZ.out))
   obtain ⟨An,dn,rfl⟩:=Kd.R_slice ho
   clear ho hb
   go_wp2
   go_meet
   case rel => exact ⟨ST,HI2,H32,RN⟩
  ·
   go_wp2
   go_meet
   case rel => exact ⟨ST,HI2,H32,⟨zHb RM.out DL.out⟩⟩
 case rest =>
  clear ST HI2 H32 RM MQ
  obtain ⟨ST,HI2,H32,RM⟩:=hcut
  generalize theM (m0,is) = mm at T4 ML RM
  obtain ⟨Am,dm,rfl⟩:=Kd.R_slice RM.out
  go_wp2_with (first|(go_at_call 109;refine hold ?_))
  unfold Hold
  refine (spec_l1Once.calls gx c i1 h1 3 o i2 h2 _ _ HI2.out H32.out T3.out).mono ?_
  rintro e wh ⟨rfl,hi,hb,hk⟩
  replace ST:=zA (ST.out.keep hk hb W3.out)
  replace RM:=zA (zGb (Kd.R_keep (IsS121.apart HI2.out RM.out (by decide)) hk (fun _ h_ => h_.2)) (ok':=fun _ => True) (fun _ _ => trivial))
  replace HI2:=zA hi
  replace H32:=zA hb
  clear hi hb hk T3
  go_upto_if 31 with fail
  try simp only [Act.put,zO,zEb,zFb]
  go_cut [] (fun wc => Aside0 (StW w gx g2 g3 g4 ga gb gd (.slice A0_ p0.length d0) (.slice A1_ p1.length d1) (.slice A2_ p2.length d2) (.slice A3_ p3.length d3) (.slice A4_ p4.length d4) p0 p1 p2 p3 p4 w4.heap.size w5.heap.size wc) ∧ Aside0 (IsS121 w3 wc gx c i3 h3) ∧ Aside0 (Below w3.heap.size w3 wc) ∧ Aside0 (Kd.R (Kd.int .i64) 3 wc (gd + 1) (fun _ => True) (.slice Am mm.length dm) m))
  case first =>
   have hx:=T4.out
   unfold touch at hx
   cases o
   ·
    simp only [Bool.false_eq_true,if_false,Option.some.injEq,Prod.mk.injEq] at hx
    obtain ⟨rfl,rfl,rfl⟩:=hx
    go_wp2
    go_meet
    case rel => exact ⟨ST,HI2,H32,RM⟩
   ·
    rw [if_pos rfl] at hx
    obtain ⟨⟨x,i5,h5⟩,a6,hx⟩:=Option.bind_eq_some_iff.1 hx
    try dsimp only at a6 hx
    have T6:=zA a6
    obtain ⟨⟨t,i6,h6⟩,a7,hx⟩:=Option.bind_eq_some_iff.1 hx
    try dsimp only at a7 hx
    have T7:=zA a7
    clear a6 a7
    by_cases hc : 0 ≤ x ∧ x < (mm.length : Int)
    rotate_left
    ·
     rw [if_neg hc] at hx
     cases hx
    rw [if_pos hc] at hx
    simp only [Option.some.injEq,Prod.mk.injEq] at hx
    obtain ⟨rfl,rfl,rfl⟩:=hx
    have HX:=zA hc
    clear hc
    go_wp2_with (first|(go_at_call 79;refine hold ?_))
    unfold Hold
    refine (spec_l1Below.calls gx c i2 h2 (mm.length : Int) x i5 h5 _ _ HI2.out H32.out T6.out).mono ?_
    rintro e wi ⟨rfl,hi,hb,hk⟩
    replace ST:=zA (ST.out.keep hk hb W3.out)
    replace RM:=zA (zGb (Kd.R_keep (IsS121.apart HI2.out RM.out (by decide)) hk (fun _ h_ => h_.2)) (ok':=fun _ => True) (fun _ _ => trivial))
    replace HI2:=zA hi
    replace H32:=zA hb
    clear hi hb hk T6
    go_wp2_with (first|(go_at_call 110;refine hold ?_))
    unfold Hold
    refine (spec_l2Any.calls gx c i5 h5 t i6 h6 _ _ HI2.out H32.out T7.out).mono ?_
    rintro e wj ⟨rfl,hi,hb,hk⟩
    replace ST:=zA (ST.out.keep hk hb W3.out)
    replace RM:=zA (zGb (Kd.R_keep (IsS121.apart HI2.out RM.out (by decide)) hk (fun _ h_ => h_.2)) (ok':=fun _ => True) (fun _ _ => trivial))
    replace HI2:=zA hi
    replace H32:=zA hb
    clear hi hb hk T7
    have hx0:=HX.out.1
    have hx1:=HX.out.2
    obtain ⟨gm,cm,e_,hge,-,cur,-⟩:=Kd.R_form RM.out (by omega)
    injection e_ with e1 _ e3
    subst e1
    subst e3
    have GE:=zA hge
    have KR:=zA (show KeepBut wj wj gx none from KeepBut.refl _ _ _)
    obtain ⟨cc,hcl,hM,hcc,hfr⟩:=Kd.R_elem RM.out 0 x hx0 hx1
    obtain ⟨vv,rfl⟩:=List.length_eq_one_iff.1 hcl
    have hq0 : wj.cell? ⟨gm,x.toNat,none⟩ = some vv:=by have h_:=hcc 0 vv rfl;have e_ : (Kd.int .i64).sz = 1:=rfl;rw [e_,Nat.mul_one,Nat.add_zero] at h_;exact h_
    have p0_:=eq_true hx0
    have p1_:=eq_true hx1
    clear hge hcl hM hfr
    go_wp2_with (first|((with_reducible refine gate_store (t:=3) (p:=39) rfl ?_);refine hold ?_))
    unfold Hold
    refine Kd.R_store (Kd.int .i64) (w0:=wj) (gd + 1) rfl rfl 3 _ _ rfl 3 x 0 mm t (.int .i64 t) [.int .i64 t] [vv] (fun _ => True) (fun _ => False) rfl ?so rfl rfl rfl ?s1 RM.out hx0 hx1 rfl hcc (Nat.le_refl _) rfl (fun _ h_ => h_.elim) (Below.refl _ _) ?_
    case so => show _ = x.toNat * 1 + 0;simp
    case s1 => intro q hq;rw [List.mem_singleton.1 hq];rfl
    intro wk ho hb hg
    have ST2:=zA (ST.out.step (ST.out.B.grown hg ST.out.B.size (fun k_ h_ => by injection h_ with h_;have:=ST.out.n;have:=GE.out;omega)) hg.size (fun k_ h1_ h2_ => hg.block k_ (by have:=ST.out.n;omega) (fun e_ => by injection e_ with e_;have:=GE.out;omega)))
    have HI3:=zA (IsS121.grown HI2.out hg (fun e_ => by injection e_ with e_;have:=GE.out;have:=ST.out.n;omega))
    have H33:=zA (H32.out.grown hg H32.out.size (fun k_ h_ => by injection h_ with h_;have:=GE.out;have:=ST.out.n;have:=IsS121.ge HI2.out;omega))
    have RM2:=zA ho
    clear ho hb hg hq0 p0_ p1_ hx0 hx1 hcc ST HI2 H32 RM KR
    go_wp2
    go_meet
    case rel => exact ⟨ST2,HI3,H33,RM2⟩
  case rest =>
   clear ST HI2 H32 RM
   obtain ⟨ST,HI2,H32,RM⟩:=hcut
   have LM:=zA (Kd.R_reads' RM.out)
   go_wp2_with (first|(go_at_call 109;refine hold ?_))
   unfold Hold
   refine (spec_l1Once.calls gx c i3 h3 14 u i4 h4 _ _ HI2.out H32.out T5.out).mono ?_
   rintro e wl ⟨rfl,hi,hb,hk⟩
   replace ST:=zA (ST.out.keep hk hb W3.out)
   replace RM:=zA (zGb (Kd.R_keep (IsS121.apart HI2.out RM.out (by decide)) hk (fun _ h_ => h_.2)) (ok':=fun _ => True) (fun _ _ => trivial))
   replace HI2:=zA hi
   replace H32:=zA hb
   clear hi hb hk T5
   have ML2:=zA (show m.length = 20 from by have:=ML.out;have:=LM.out.1;omega)
   have e6:=E6.out
   clear E6 T4
   cases u
   ·
    simp only [Bool.false_eq_true,if_false] at e6
    subst e6
    have GM:=zA (Kd.G_mono (base':=0) (ok':=fun k_ => gd < k_) (Kd.G_R (base':=0) (Kd.R_bound RM.out)) (fun k_ h_ => h_.2.1))
    clear RM HI2 H32
    try go_wp2
    have n_:=zA (ST.out.below (below_drew (w:=wl) (Below.refl _ _)))
    clear ST
    have ST:=n_
    clear n_
    have n_:=zA (Kd.G_drew GM.out)
    clear GM
    have GM:=n_
    clear n_
    refine start_ (n:=8) (S:=fun w' => w'.cell? ⟨ga,0,none⟩ = some (.slice A0_ p0.length d0) ∧ w'.cell? ⟨gb,0,none⟩ = some (.slice A1_ p1.length d1) ∧ w'.cell? ⟨gb,1,none⟩ = some (.slice A2_ p2.length d2) ∧ w'.cell? ⟨gd,0,none⟩ = some (.slice A3_ p3.length d3) ∧ w'.cell? ⟨gd,1,none⟩ = some (.slice A4_ p4.length d4)) (ds:=[]) #[yf,yf,yf,yf,yf,yf,yf,yf] (by kernel_rfl) rfl rfl ⟨(zP ST.out.ba 0).trans rfl,(zP ST.out.bb 0).trans rfl,(zP ST.out.bb 1).trans rfl,(zP ST.out.bd 0).trans rfl,(zP ST.out.bd 1).trans rfl⟩ (fun hHeld => ?_)
    generalize wl.drew = wt at ST GM hHeld ⊢
    refine zw 0 44 hHeld ?_;refine zw 1 45 hHeld ?_;refine zw 2 46 hHeld ?_;refine zu 3 47 ?_
    obtain ⟨wp,hp⟩ : ∃ wp,wp = wt.setCell ⟨g2,0,none⟩ (.slice A0_ p0.length d0):=⟨_,rfl⟩
    obtain ⟨wq,hq⟩ : ∃ wq,wq = (wp.setCell ⟨g3,0,none⟩ (.slice A1_ p1.length d1)).setCell ⟨g3,1,none⟩ (.slice A2_ p2.length d2):=⟨_,rfl⟩
    obtain ⟨wz,hz⟩ : ∃ wz,wz = (wq.setCell ⟨g4,0,none⟩ (.slice A3_ p3.length d3)).setCell ⟨g4,1,none⟩ (.slice A4_ p4.length d4):=⟨_,rfl⟩
    have FN:=zA (ST.out.fin hp hq hz)
    have HP_:=zA hp
    have HQ_:=zA hq
    have HZ_:=zA hz
    clear hp hq hz
    have OFF:=zA (show (ga ≠ g2 ∧ ga ≠ g3 ∧ ga ≠ g4) ∧ (gb ≠ g2 ∧ gb ≠ g3 ∧ gb ≠ g4) ∧ (gd ≠ g2 ∧ gd ≠ g3 ∧ gd ≠ g4) by have:=ST.out.n;omega)
    refine one_ (i:=4) (N:=none) #[yt,yt,yt,yt,yt,yf,yf,yf] rfl rfl (by kernel_rfl) (by decide) (fun K hK => ?_)
    have hq0 : wt.cell? ⟨g2,0,none⟩ = some (.slice none 0 0):=(zP ST.out.b2 0).trans rfl
    have hf0:=blk_frozen ST.out.b2 0
    refine skip_ (w1:=wp) (by rfl) rfl ?_ ?_
    ·rw [HP_.out];go_simp;first|done|rfl
    clear hq0 hf0
    refine hK.out _ _ ⟨(zP ((FN.out.2.2.1 _ OFF.out.1).1.trans ST.out.ba) 0).trans rfl,(zP ((FN.out.2.2.1 _ OFF.out.2.1).1.trans ST.out.bb) 0).trans rfl,(zP ((FN.out.2.2.1 _ OFF.out.2.1).1.trans ST.out.bb) 1).trans rfl,(zP ((FN.out.2.2.1 _ OFF.out.2.2).1.trans ST.out.bd) 0).trans rfl,(zP ((FN.out.2.2.1 _ OFF.out.2.2).1.trans ST.out.bd) 1).trans rfl⟩ (fun hHeld => ?_)
    clear hK K
    refine one_ (i:=5) (N:=none) #[yt,yt,yt,yt,yt,yt,yf,yf] rfl rfl (by kernel_rfl) (by decide) (fun K hK => ?_)
    have hq0 : wp.cell? ⟨g3,0,none⟩ = some (.slice none 0 0):=(zP (FN.out.2.2.2.1.trans ST.out.b3) 0).trans rfl
    have hq1 : wp.cell? ⟨g3,1,none⟩ = some (.slice none 0 0):=(zP (FN.out.2.2.2.1.trans ST.out.b3) 1).trans rfl
    have hf0:=blk_frozen (FN.out.2.2.2.1.trans ST.out.b3) 0
    have hf1:=blk_frozen (FN.out.2.2.2.1.trans ST.out.b3) 1
    refine skip_ (w1:=wq) (by rfl) rfl ?_ ?_
    ·rw [HQ_.out];go_simp;first|done|rfl
    clear hq0 hq1 hf0 hf1
    refine hK.out _ _ ⟨(zP ((FN.out.2.2.1 _ OFF.out.1).2.1.trans ST.out.ba) 0).trans rfl,(zP ((FN.out.2.2.1 _ OFF.out.2.1).2.1.trans ST.out.bb) 0).trans rfl,(zP ((FN.out.2.2.1 _ OFF.out.2.1).2.1.trans ST.out.bb) 1).trans rfl,(zP ((FN.out.2.2.1 _ OFF.out.2.2).2.1.trans ST.out.bd) 0).trans rfl,(zP ((FN.out.2.2.1 _ OFF.out.2.2).2.1.trans ST.out.bd) 1).trans rfl⟩ (fun hHeld => ?_)
    clear hK K
    refine one_ (i:=6) (N:=none) #[yt,yt,yt,yt,yt,yt,yt,yf] rfl rfl (by kernel_rfl) (by decide) (fun K hK => ?_)
    have hq0 : wq.cell? ⟨g4,0,none⟩ = some (.slice none 0 0):=(zP (FN.out.2.2.2.2.trans ST.out.b4) 0).trans rfl
    have hq1 : wq.cell? ⟨g4,1,none⟩ = some (.slice none 0 0):=(zP (FN.out.2.2.2.2.trans ST.out.b4) 1).trans rfl
    have hf0:=blk_frozen (FN.out.2.2.2.2.trans ST.out.b4) 0
    have hf1:=blk_frozen (FN.out.2.2.2.2.trans ST.out.b4) 1
    refine skip_ (w1:=wz) (by rfl) rfl ?_ ?_
    ·rw [HZ_.out];go_simp;first|done|rfl
    clear hq0 hq1 hf0 hf1
    refine hK.out _ _ ⟨(zP ((FN.out.2.2.1 _ OFF.out.1).2.2.trans ST.out.ba) 0).trans rfl,(zP ((FN.out.2.2.1 _ OFF.out.2.1).2.2.trans ST.out.bb) 0).trans rfl,(zP ((FN.out.2.2.1 _ OFF.out.2.1).2.2.trans ST.out.bb) 1).trans rfl,(zP ((FN.out.2.2.1 _ OFF.out.2.2).2.2.trans ST.out.bd) 0).trans rfl,(zP ((FN.out.2.2.1 _ OFF.out.2.2).2.2.trans ST.out.bd) 1).trans rfl⟩ (fun hHeld => ?_)
    clear hK K
    refine zu 7 5 ?_
    refine done_ (by kernel_rfl) ?_
    clear hHeld HP_ HQ_ HZ_
    have Z0:=zA (Kd.G_mono (base':=w.heap.size) (ok':=fun k_ => (w.heap.size ≤ k_)) (Kd.G_step ST.out.r0 (fun k_ h_ _ => (FN.out.2.2.1 k_ (by have:=ST.out.n;omega)).2.2)) (fun k_ h_ => by have:=ST.out.n;omega))
    have Z1:=zA (Kd.G_mono (base':=w.heap.size) (ok':=fun k_ => (w.heap.size ≤ k_)) (Kd.G_step ST.out.r1 (fun k_ h_ _ => (FN.out.2.2.1 k_ (by have:=ST.out.n;omega)).2.2)) (fun k_ h_ => by have:=ST.out.n;omega))
    have Z2:=zA (Kd.G_mono (base':=w.heap.size) (ok':=fun k_ => (w.heap.size ≤ k_)) (Kd.G_step ST.out.r2 (fun k_ h_ _ => (FN.out.2.2.1 k_ (by have:=ST.out.n;omega)).2.2)) (fun k_ h_ => by have:=ST.out.n;omega))
    have Z3:=zA (Kd.G_mono (base':=w.heap.size) (ok':=fun k_ => (w.heap.size ≤ k_)) (Kd.G_step ST.out.r3 (fun k_ h_ _ => (FN.out.2.2.1 k_ (by have:=ST.out.n;omega)).2.2)) (fun k_ h_ => by have:=ST.out.n;omega))
    have Z4:=zA (Kd.G_mono (base':=w.heap.size) (ok':=fun k_ => (w.heap.size ≤ k_)) (Kd.G_step ST.out.r4 (fun k_ h_ _ => (FN.out.2.2.1 k_ (by have:=ST.out.n;omega)).2.2)) (fun k_ h_ => by have:=ST.out.n;omega))
    have n_:=zA (Kd.G_mono (base':=w.heap.size) (ok':=fun k_ => (w.heap.size ≤ k_)) (Kd.G_step GM.out (fun k_ h_ _ => (FN.out.2.2.1 k_ (by have:=ST.out.n;omega)).2.2)) (fun k_ h_ => by have:=ST.out.n;omega))
    clear GM
    have GM:=n_
    clear n_
    clear ST OFF
    go_wp2
    refine bodyPost_ret (results_list (rs:=[.cell 2 65,.cell 3 46,.cell 4 46,.tmp 5]) rfl (by simp) (.cell g2 65 #[.slice A0_ p0.length d0] (0,0) _ rfl FN.out.1.1 Try.underlying65 rfl (by kernel_rfl) (.cell g3 46 #[.slice A1_ p1.length d1,.slice A2_ p2.length d2] (0,0) _ rfl FN.out.1.2.1 Try.underlying46 rfl (by kernel_rfl) (.cell g4 46 #[.slice A3_ p3.length d3,.slice A4_ p4.length d4] (0,0) _ rfl FN.out.1.2.2 Try.underlying46 rfl (by kernel_rfl) (.tmp .nil))))) rfl ?_
    exact ⟨_,_,_,_,_,_,rfl,Z0.out,Z1.out,Z2.out,Z3.out,Z4.out,GM.out,FN.out.2.1⟩
   ·
    rw [if_pos rfl] at e6
    subst e6
    obtain ⟨gm,cm,e_,-,-,cur,-⟩:=Kd.R_form RM.out (by have:=ML2.out;omega)
    injection e_ with e1 e2 e3
    subst e1
    subst e3
    obtain ⟨ti,hti,hts_⟩:=Option.map_eq_some_iff.1 info3
    have hts : ti.size = 1:=by simp only [Prod.mk.injEq] at hts_;exact hts_.2.1
    have hcut2:=cut_tail (P:=Try.prog) 38 3 Try.underlying38 hti 1 hts gm mm.length dm (by have:=ML.out;omega) LM.out.2.1
    have GM:=zA (Kd.G_mono (base':=0) (ok':=fun k_ => gd < k_) (Kd.G_tail (Kd.G_R (base':=0) (Kd.R_bound RM.out)) (by have:=ML.out;omega)) (fun k_ h_ => h_.2.1))
    clear RM HI2 H32 hti hts hts_ ti e2
    try go_wp2
    have n_:=zA (ST.out.below (below_drew (w:=wl) (Below.refl _ _)))
    clear ST
    have ST:=n_
    clear n_
    have n_:=zA (Kd.G_drew GM.out)
    clear GM
    have GM:=n_
    clear n_
    refine start_ (n:=8) (S:=fun w' => w'.cell? ⟨ga,0,none⟩ = some (.slice A0_ p0.length d0) ∧ w'.cell? ⟨gb,0,none⟩ = some (.slice A1_ p1.length d1) ∧ w'.cell? ⟨gb,1,none⟩ = some (.slice A2_ p2.length d2) ∧ w'.cell? ⟨gd,0,none⟩ = some (.slice A3_ p3.length d3) ∧ w'.cell? ⟨gd,1,none⟩ = some (.slice A4_ p4.length d4)) (ds:=[]) #[yf,yf,yf,yf,yf,yf,yf,yf] (by kernel_rfl) rfl rfl ⟨(zP ST.out.ba 0).trans rfl,(zP ST.out.bb 0).trans rfl,(zP ST.out.bb 1).trans rfl,(zP ST.out.bd 0).trans rfl,(zP ST.out.bd 1).trans rfl⟩ (fun hHeld => ?_)
    generalize wl.drew = wt at ST GM hHeld ⊢
    refine zw 0 44 hHeld ?_;refine zw 1 45 hHeld ?_;refine zw 2 46 hHeld ?_;refine zu 3 47 ?_
    obtain ⟨wp,hp⟩ : ∃ wp,wp = wt.setCell ⟨g2,0,none⟩ (.slice A0_ p0.length d0):=⟨_,rfl⟩
    obtain ⟨wq,hq⟩ : ∃ wq,wq = (wp.setCell ⟨g3,0,none⟩ (.slice A1_ p1.length d1)).setCell ⟨g3,1,none⟩ (.slice A2_ p2.length d2):=⟨_,rfl⟩
    obtain ⟨wz,hz⟩ : ∃ wz,wz = (wq.setCell ⟨g4,0,none⟩ (.slice A3_ p3.length d3)).setCell ⟨g4,1,none⟩ (.slice A4_ p4.length d4):=⟨_,rfl⟩
    have FN:=zA (ST.out.fin hp hq hz)
    have HP_:=zA hp
    have HQ_:=zA hq
    have HZ_:=zA hz
    clear hp hq hz
    have OFF:=zA (show (ga ≠ g2 ∧ ga ≠ g3 ∧ ga ≠ g4) ∧ (gb ≠ g2 ∧ gb ≠ g3 ∧ gb ≠ g4) ∧ (gd ≠ g2 ∧ gd ≠ g3 ∧ gd ≠ g4) by have:=ST.out.n;omega)
    refine one_ (i:=4) (N:=none) #[yt,yt,yt,yt,yt,yf,yf,yf] rfl rfl (by kernel_rfl) (by decide) (fun K hK => ?_)
    have hq0 : wt.cell? ⟨g2,0,none⟩ = some (.slice none 0 0):=(zP ST.out.b2 0).trans rfl
    have hf0:=blk_frozen ST.out.b2 0
    refine skip_ (w1:=wp) (by rfl) rfl ?_ ?_
    ·rw [HP_.out];go_simp;first|done|rfl
    clear hq0 hf0
    refine hK.out _ _ ⟨(zP ((FN.out.2.2.1 _ OFF.out.1).1.trans ST.out.ba) 0).trans rfl,(zP ((FN.out.2.2.1 _ OFF.out.2.1).1.trans ST.out.bb) 0).trans rfl,(zP ((FN.out.2.2.1 _ OFF.out.2.1).1.trans ST.out.bb) 1).trans rfl,(zP ((FN.out.2.2.1 _ OFF.out.2.2).1.trans ST.out.bd) 0).trans rfl,(zP ((FN.out.2.2.1 _ OFF.out.2.2).1.trans ST.out.bd) 1).trans rfl⟩ (fun hHeld => ?_)
    clear hK K
    refine one_ (i:=5) (N:=none) #[yt,yt,yt,yt,yt,yt,yf,yf] rfl rfl (by kernel_rfl) (by decide) (fun K hK => ?_)
    have hq0 : wp.cell? ⟨g3,0,none⟩ = some (.slice none 0 0):=(zP (FN.out.2.2.2.1.trans ST.out.b3) 0).trans rfl
    have hq1 : wp.cell? ⟨g3,1,none⟩ = some (.slice none 0 0):=(zP (FN.out.2.2.2.1.trans ST.out.b3) 1).trans rfl
    have hf0:=blk_frozen (FN.out.2.2.2.1.trans ST.out.b3) 0
    have hf1:=blk_frozen (FN.out.2.2.2.1.trans ST.out.b3) 1
    refine skip_ (w1:=wq) (by rfl) rfl ?_ ?_
    ·rw [HQ_.out];go_simp;first|done|rfl
    clear hq0 hq1 hf0 hf1
    refine hK.out _ _ ⟨(zP ((FN.out.2.2.1 _ OFF.out.1).2.1.trans ST.out.ba) 0).trans rfl,(zP ((FN.out.2.2.1 _ OFF.out.2.1).2.1.trans ST.out.bb) 0).trans rfl,(zP ((FN.out.2.2.1 _ OFF.out.2.1).2.1.trans ST.out.bb) 1).trans rfl,(zP ((FN.out.2.2.1 _ OFF.out.2.2).2.1.trans ST.out.bd) 0).trans rfl,(zP ((FN.out.2.2.1 _ OFF.out.2.2).2.1.trans ST.out.bd) 1).trans rfl⟩ (fun hHeld => ?_)
    clear hK K
    refine one_ (i:=6) (N:=none) #[yt,yt,yt,yt,yt,yt,yt,yf] rfl rfl (by kernel_rfl) (by decide) (fun K hK => ?_)
    have hq0 : wq.cell? ⟨g4,0,none⟩ = some (.slice none 0 0):=(zP (FN.out.2.2.2.2.trans ST.out.b4) 0).trans rfl
    have hq1 : wq.cell? ⟨g4,1,none⟩ = some (.slice none 0 0):=(zP (FN.out.2.2.2.2.trans ST.out.b4) 1).trans rfl
    have hf0:=blk_frozen (FN.out.2.2.2.2.trans ST.out.b4) 0
    have hf1:=blk_frozen (FN.out.2.2.2.2.trans ST.out.b4) 1
    refine skip_ (w1:=wz) (by rfl) rfl ?_ ?_
    ·rw [HZ_.out];go_simp;first|done|rfl
    clear hq0 hq1 hf0 hf1
    refine hK.out _ _ ⟨(zP ((FN.out.2.2.1 _ OFF.out.1).2.2.trans ST.out.ba) 0).trans rfl,(zP ((FN.out.2.2.1 _ OFF.out.2.1).2.2.trans ST.out.bb) 0).trans rfl,(zP ((FN.out.2.2.1 _ OFF.out.2.1).2.2.trans ST.out.bb) 1).trans rfl,(zP ((FN.out.2.2.1 _ OFF.out.2.2).2.2.trans ST.out.bd) 0).trans rfl,(zP ((FN.out.2.2.1 _ OFF.out.2.2).2.2.trans ST.out.bd) 1).trans rfl⟩ (fun hHeld => ?_)
    clear hK K
    refine zu 7 5 ?_
    refine done_ (by kernel_rfl) ?_
    clear hHeld HP_ HQ_ HZ_
    have Z0:=zA (Kd.G_mono (base':=w.heap.size) (ok':=fun k_ => (w.heap.size ≤ k_)) (Kd.G_step ST.out.r0 (fun k_ h_ _ => (FN.out.2.2.1 k_ (by have:=ST.out.n;omega)).2.2)) (fun k_ h_ => by have:=ST.out.n;omega))
    have Z1:=zA (Kd.G_mono (base':=w.heap.size) (ok':=fun k_ => (w.heap.size ≤ k_)) (Kd.G_step ST.out.r1 (fun k_ h_ _ => (FN.out.2.2.1 k_ (by have:=ST.out.n;omega)).2.2)) (fun k_ h_ => by have:=ST.out.n;omega))
    have Z2:=zA (Kd.G_mono (base':=w.heap.size) (ok':=fun k_ => (w.heap.size ≤ k_)) (Kd.G_step ST.out.r2 (fun k_ h_ _ => (FN.out.2.2.1 k_ (by have:=ST.out.n;omega)).2.2)) (fun k_ h_ => by have:=ST.out.n;omega))
    have Z3:=zA (Kd.G_mono (base':=w.heap.size) (ok':=fun k_ => (w.heap.size ≤ k_)) (Kd.G_step ST.out.r3 (fun k_ h_ _ => (FN.out.2.2.1 k_ (by have:=ST.out.n;omega)).2.2)) (fun k_ h_ => by have:=ST.out.n;omega))
    have Z4:=zA (Kd.G_mono (base':=w.heap.size) (ok':=fun k_ => (w.heap.size ≤ k_)) (Kd.G_step ST.out.r4 (fun k_ h_ _ => (FN.out.2.2.1 k_ (by have:=ST.out.n;omega)).2.2)) (fun k_ h_ => by have:=ST.out.n;omega))
    have n_:=zA (Kd.G_mono (base':=w.heap.size) (ok':=fun k_ => (w.heap.size ≤ k_)) (Kd.G_step GM.out (fun k_ h_ _ => (FN.out.2.2.1 k_ (by have:=ST.out.n;omega)).2.2)) (fun k_ h_ => by have:=ST.out.n;omega))
    clear GM
    have GM:=n_
    clear n_
    clear ST OFF
    go_wp2
    refine bodyPost_ret (results_list (rs:=[.cell 2 65,.cell 3 46,.cell 4 46,.tmp 5]) rfl (by simp) (.cell g2 65 #[.slice A0_ p0.length d0] (0,0) _ rfl FN.out.1.1 Try.underlying65 rfl (by kernel_rfl) (.cell g3 46 #[.slice A1_ p1.length d1,.slice A2_ p2.length d2] (0,0) _ rfl FN.out.1.2.1 Try.underlying46 rfl (by kernel_rfl) (.cell g4 46 #[.slice A3_ p3.length d3,.slice A4_ p4.length d4] (0,0) _ rfl FN.out.1.2.2 Try.underlying46 rfl (by kernel_rfl) (.tmp .nil))))) rfl ?_
    exact ⟨_,_,_,_,_,_,rfl,Z0.out,Z1.out,Z2.out,Z3.out,Z4.out,GM.out,FN.out.2.1⟩

set_option maxHeartbeats 8000000 in
set_option maxRecDepth 100000 in
theorem maps1_calls (g : Nat) (A : Option Addr) (c : Nat) (m : List Int) (t : Int) (w : World) (hB : w.heap[g]? = some (.cells #[.slice A m.length c] 38 (0, 0))) (hr : Kd.C (Kd.int .i64) w A m.length m) (hc : m.length ≤ c) (hm : m.length ≤ 1048576) :
  Calls Try.prog 132 #[.int .i64 t, .pointer (some ⟨g, 0, none⟩)] w fun e w' => e = .returned (.int .i64 (mApply m t)) ∧ Drawn0 w w' := by
 have hx0 : w.cell? ⟨g,0,none⟩ = some (.slice A m.length c):=(zP hB 0).trans rfl
 have HR:=zA hr
 have HC:=zA hc
 have HM:=zA hm
 clear hB hr hc hm
 go_enter Try.func132,Try.ntmps132
 go_wp2_with (first|(go_at_call 67;refine hold ?_))
 unfold Hold
 refine (impl_ApplyMapping.calls A c m t _ _ HR.out HC.out (implApply_eq m t (by have:=HM.out;omega))).mono ?_
 rintro e w' ⟨rfl,⟨nd,rfl⟩⟩
 go_wp2
 go_ret
 exact ⟨rfl,zdr⟩
set_option maxHeartbeats 8000000 in
set_option maxRecDepth 100000 in
theorem maps2_calls (g : Nat) (ra : Int) (Aa : Option Addr) (ca : Nat) (la : List Int) (rb : Int) (Ab : Option Addr) (cb : Nat) (lb : List Int) (w : World) (hB : w.heap[g]? = some (.cells #[.int .i64 ra, .slice Aa la.length ca] 97 (0, 0))) (hra : Kd.C (Kd.int .i64) w Aa la.length la) (hca : la.length ≤ ca) (hrb : Kd.C (Kd.int .i64) w Ab lb.length lb) (hcb : lb.length ≤ cb) (hla : la.length ≤ 1048576) :
  Calls Try.prog 134 #[.agg #[.int .i64 rb, .slice Ab lb.length cb], .pointer (some ⟨g, 0, none⟩)] w fun e w' => e = .returned (.bool (decide (ra = rb ∧ la = lb))) ∧ Below w.heap.size w w' := by
 have hu:=Try.underlying97
 obtain ⟨km,hkm⟩:=(implEqAtoms_ev ra la rb lb (by omega)).rounds
 have HM:=zA hkm
 have BT:=zA hB
 have RA:=zA hra
 have RB:=zA hrb
 have CA:=zA hca
 have CB:=zA hcb
 have HB:=zA (Below.refl w.heap.size w)
 clear hkm hB hra hrb hca hcb hla
 go_enter Try.func134,Try.ntmps134
 go_wp2_with (first|((with_reducible refine gate_dst (N:=2) rfl ?_);refine hold ?_))
 unfold Hold
 refine zbx 2 #[.int .i64 rb,.slice Ab lb.length cb] 97 ?_
 intro gb hg w1 hbox hb
 have BQ:=zA hbox
 replace BT:=zA (zQ BT.out hb)
 replace HB:=zA (zJb HB.out hb)
 clear hbox hb hg
 have hx0:=zc (.int .i64 rb) BQ 0 rfl
 have hx1:=zc (.slice Ab lb.length cb) BQ 1 rfl
 have hy0:=zc (.int .i64 ra) BT 0 rfl
 have hy1:=zc (.slice Aa la.length ca) BT 1 rfl
 go_wp2_with (first|(go_at_call 88;refine hold ?_))
 unfold Hold
 refine (impl_EqualAtoms.calls km ra Aa ca la rb Ab cb lb _ _ (zKb RA.out HB.out) CA.out (zKb RB.out HB.out) CB.out HM.out).mono ?_
 rintro e w2 ⟨rfl,hb⟩
 replace HB:=zA (zJb HB.out hb)
 clear hb hx0 hx1 hy0 hy1 BQ BT RA RB HM
 go_wp2
 go_ret
 exact ⟨by rw [Bool.decide_and];rfl,HB.out⟩
set_option maxHeartbeats 8000000 in
set_option maxRecDepth 100000 in
theorem indexF_calls (g : Nat) (ra : Int) (Aa : Option Addr) (ca : Nat) (la : List Int) (A : Option Addr) (c : Nat) (l : List S97) (w : World) (hB : w.heap[g]? = some (.cells #[.int .i64 ra, .slice Aa la.length ca] 97 (0, 0))) (hra : Kd.C (Kd.int .i64) w Aa la.length la) (hca : la.length ≤ ca) (hr : Kd.C k97 w A l.length l) (hc : l.length ≤ c) (hl : l.length ≤ 1048576) (hla : la.length ≤ 1048576) :
  Calls Try.prog 155 #[.slice A l.length c, .func (.func 134) #[] #[.pointer (some ⟨g, 0, none⟩)]] w fun e w' => ∃ i : Int, e = .returned (.int .i64 i) ∧ decide (0 ≤ i) = mHit l ⟨ra, la⟩ ∧ Below w.heap.size w w' := by
 have hu:=Try.underlying97
 have BT:=zA hB
 have RA:=zA hra
 have CA:=zA hca
 have HR:=zA hr
 have HL:=zA (show l.length ≤ 1048576 ∧ la.length ≤ 1048576 from ⟨hl,hla⟩)
 have HB:=zA (Below.refl w.heap.size w)
 clear hB hra hca hr hl hla hc
 go_enter Try.func155,Try.ntmps155
 go_wp2
 go_loopg [8] l.length (fun kq v8 w' => ∃ x : Int,v8 = .int .i64 x ∧ Aside0 (0 ≤ x ∧ kq + x.toNat = l.length) ∧ Aside0 (mHit (l.drop x.toNat) ⟨ra,la⟩ = mHit l ⟨ra,la⟩) ∧ Aside0 (Below w.heap.size w w'))
 case atStart => exact ⟨0,rfl,⟨⟨Int.le_refl _,rfl⟩⟩,⟨by rw [show (0 : Int).toNat = 0 from rfl,List.drop_zero]⟩,HB⟩
 case round =>
  clear HB
  obtain ⟨x,rfl,HG,HI,HB⟩:=hrel
  by_cases c6 : x < (l.length : Int)
  ·have c6b0 : decide (x < (l.length : Int)) = true:=decide_eq_true c6
   have p5 : 0 ≤ x:=HG.out.1
   have hlt : x.toNat < l.length:=by omega
   have HLT:=zA hlt
   obtain ⟨ad,A1,c1,e_,hx0,hx1,hl1,hi1⟩:=at_T97 HR.out x p5 c6
   cases e_
   replace hx0:=zhx HB hx0
   replace hx1:=zhx HB hx1
   have HI1:=zA hi1
   have HL1:=zA hl1
   have HIN:=zA (show mHit (l.drop x.toNat) ⟨ra,la⟩ = (decide (ra = (rd_T97 l x).f0 ∧ la = (rd_T97 l x).f1) || mHit (l.drop (x.toNat + 1)) ⟨ra,la⟩) from by
    rw [List.drop_eq_getElem_cons hlt]
    have e1 : rd_T97 l x = l[x.toNat]:=by show l.getD x.toNat _ = _;rw [List.getD_eq_getElem?_getD,List.getElem?_eq_getElem hlt];rfl
    rw [e1];simp only [mHit,List.any_cons])
   clear hi1 hl1 hlt
   replace p5:=eq_true p5
   replace c6:=eq_true c6
   generalize rd_T97 l x = el at *
   go_wp2_with (first|(go_at_call 134;refine hold ?_))
   unfold Hold
   refine (maps2_calls g ra Aa ca la el.f0 A1 c1 el.f1 _ (zQ BT.out HB.out) (zKb RA.out HB.out) CA.out (zKb HI1.out HB.out) HL1.out HL.out.2).mono ?_
   rintro e w2 ⟨rfl,hb⟩
   replace HB:=zA (zJb HB.out hb)
   clear hb hx0 hx1
   by_cases cc : ra = el.f0 ∧ la = el.f1
   ·have HX:=zA (show mHit l ⟨ra,la⟩ = true from by rw [← HI.out,HIN.out,decide_eq_true cc];rfl)
    rw [decide_eq_true cc]
    clear cc
    go_wp2
    go_ret
    exact ⟨x,rfl,by rw [HX.out];exact decide_eq_true HG.out.1,HB.out⟩
   ·have HX:=zA (show mHit (l.drop (x.toNat + 1)) ⟨ra,la⟩ = mHit l ⟨ra,la⟩ from by rw [← HI.out,HIN.out,decide_eq_false cc];rfl)
    rw [decide_eq_false cc]
    clear cc
    go_wp2
    go_roundg (gk - 1)
    case measure => have:=HG.out;have:=HLT.out;omega
    case rel => exact ⟨(wrap64 (x + 1)),rfl,⟨by have:=HG.out;have:=HLT.out;have h3:=HL.out.1;rw [w64 (by omega) (by omega)];omega⟩,⟨by rw [w64 (by have:=HG.out;omega) (by have h3:=HL.out.1;have:=HLT.out;omega),show (x + 1).toNat = x.toNat + 1 by have:=HG.out;omega];exact HX.out⟩,HB⟩
  ·have c6b0 : decide (x < (l.length : Int)) = false:=decide_eq_false c6
   have HX:=zA (show mHit l ⟨ra,la⟩ = false from by rw [← HI.out,List.drop_eq_nil_of_le (by omega)];rfl)
   clear c6
   go_wp2
   go_ret
   exact ⟨-1,rfl,by rw [HX.out];rfl,HB.out⟩
set_option maxHeartbeats 8000000 in
set_option maxRecDepth 100000 in
theorem containsF_calls (g : Nat) (ra : Int) (Aa : Option Addr) (ca : Nat) (la : List Int) (A : Option Addr) (c : Nat) (l : List S97) (w : World) (hB : w.heap[g]? = some (.cells #[.int .i64 ra, .slice Aa la.length ca] 97 (0, 0))) (hra : Kd.C (Kd.int .i64) w Aa la.length la) (hca : la.length ≤ ca) (hr : Kd.C k97 w A l.length l) (hc : l.length ≤ c) (hl : l.length ≤ 1048576) (hla : la.length ≤ 1048576) :
  Calls Try.prog 133 #[.slice A l.length c, .func (.func 134) #[] #[.pointer (some ⟨g, 0, none⟩)]] w fun e w' => e = .returned (.bool (mHit l ⟨ra, la⟩)) ∧ Below w.heap.size w w' := by
 have BT:=zA hB
 have RA:=zA hra
 have CA:=zA hca
 have HR:=zA hr
 have HC:=zA hc
 have HL:=zA (show l.length ≤ 1048576 ∧ la.length ≤ 1048576 from ⟨hl,hla⟩)
 clear hB hra hca hr hl hla hc
 go_enter Try.func133,Try.ntmps133
 go_wp2_with (first|(go_at_call 155;refine hold ?_))
 unfold Hold
 refine (indexF_calls g ra Aa ca la A c l _ BT.out RA.out CA.out HR.out HC.out HL.out.1 HL.out.2).mono ?_
 rintro e w2 ⟨i,rfl,hi,hb⟩
 have HI:=zA hi
 have HB:=zA hb
 clear hi hb
 go_wp2
 go_ret
 exact ⟨by rw [← HI.out];rfl,HB.out⟩

structure StC (w : World) (n2 n3 gx gr : Nat) (v0 v1 : Value) (xs : List Int) (ys : List S97) (W : World) : Prop where
 r0 : Kd.R (Kd.int .i64) 3 W w.heap.size (fun k => n2 ≤ k ∧ k < n3) v0 xs
 r1 : Kd.S k97 97 W w.heap.size (fun k => (n2 ≤ k ∧ k < n3) ∧ some k ≠ (v0 : Value).ownBlock) v1 ys
 bx : W.heap[gx]? = some (.cells #[v0,v1] 46 (0,0))
 br : W.heap[gr]? = some (.cells #[.slice none 0 0,.slice none 0 0] 46 (0,0))
 hb : Below w.heap.size w W
theorem StC.below {w : World} {n2 n3 gx gr : Nat} {v0 v1 : Value} {xs : List Int} {ys : List S97} {W W2 : World} (h : StC w n2 n3 gx gr v0 v1 xs ys W) (hb : Below W.heap.size W W2) : StC w n2 n3 gx gr v0 v1 xs ys W2 :=
 ⟨zZ h.r0 hb,zY h.r1 hb,zQ h.bx hb,zQ h.br hb,zJb h.hb hb⟩
structure StD (w : World) (n2 n3 gx gr ga : Nat) (v0 v1 vj : Value) (xs : List Int) (ys : List S97) (i : Int) (okj : Nat → Prop) (f0 : Int) (as_ : List Int) (W : World) : Prop where
 r0 : Kd.R (Kd.int .i64) 3 W w.heap.size (fun k => some k = (v0 : Value).ownBlock) v0 xs
 r1 : Kd.H k97 97 W w.heap.size (fun k => (n2 ≤ k ∧ k < n3) ∧ some k ≠ (v0 : Value).ownBlock) v1 ys i okj [.int .i64 f0,vj]
 rj : Kd.R (Kd.int .i64) 3 W w.heap.size okj vj as_
 bx : W.heap[gx]? = some (.cells #[v0,v1] 46 (0,0))
 br : W.heap[gr]? = some (.cells #[.slice none 0 0,.slice none 0 0] 46 (0,0))
 ba : W.heap[ga]? = some (.cells #[.int .i64 f0,vj] 97 (0,0))
 hb : Below w.heap.size w W
theorem StD.below {w : World} {n2 n3 gx gr ga : Nat} {v0 v1 vj : Value} {xs : List Int} {ys : List S97} {i : Int} {okj : Nat → Prop} {f0 : Int} {as_ : List Int} {W W2 : World} (h : StD w n2 n3 gx gr ga v0 v1 vj xs ys i okj f0 as_ W) (hb : Below W.heap.size W W2) : StD w n2 n3 gx gr ga v0 v1 vj xs ys i okj f0 as_ W2 :=
 ⟨zZ h.r0 hb,Kd.H_kept h.r1 (Kept.of_below hb (fun _ => False)) (fun _ _ _ h => h),zZ h.rj hb,zQ h.bx hb,zQ h.br hb,zQ h.ba hb,zJb h.hb hb⟩
set_option maxHeartbeats 8000000 in
set_option maxRecDepth 100000 in
theorem changed_calls (A0 : Option Addr) (c0 : Nat) (l0 : List Int) (A1 : Option Addr) (c1 : Nat) (l1 : List S97) (F : FuncId) (fn : Func) (hf : Try.prog.funcs[F]? = some fn) (hname : (fn.name == "runtime.NumGoroutine") = false) (hbd : fn.body.isSome = true) (cv : Value) (f : Int → Int) (w : World) (hcl : ∀ W, Below w.heap.size w W → ∀ t, Calls Try.prog F #[.int .i64 t, cv] W fun e w' => e = .returned (.int .i64 (f t)) ∧ Drawn0 W w') (hr0 : Kd.C (Kd.int .i64) w A0 l0.length l0) (hc0 : l0.length ≤ c0) (hr1 : Kd.C k97 w A1 l1.length l1) (hc1 : l1.length ≤ c1)
  (hh : l0.length ≤ 1048576) (hl : l1.length ≤ 1048576) (hs : ∀ x ∈ l1,x.f1.length ≤ 1048576) :
  Calls Try.prog 97 #[.agg #[.slice A0 l0.length c0, .slice A1 l1.length c1], .func (.func F) #[] #[cv]] w fun e w' => ∃ v0 v1 : Value, e = .returned (.agg #[v0, v1]) ∧ Kd.R (Kd.int .i64) 3 w' w.heap.size (fun _ => True) v0 (l0.map f) ∧ Kd.S k97 97 w' w.heap.size (fun k_ => some k_ ≠ (v0 : Value).ownBlock) v1 (l1.map (tF f)) ∧ Below w.heap.size w w' := by
 have hu46:=Try.underlying46
 have hu97:=Try.underlying97
 obtain ⟨km,hkm⟩:=(copyQuery_ev l0 l1 hh hl hs).rounds
 have HM:=zA hkm
 have R0:=zA hr0
 have R1:=zA hr1
 have HCL:=zA hcl
 have HS:=zA hs
 have HH:=zA (show l0.length ≤ 1048576 ∧ l1.length ≤ 1048576 from ⟨hh,hl⟩)
 have HC0:=zA hc0
 have HC1:=zA hc1
 have HB:=zA (Below.refl w.heap.size w)
 clear hkm hr0 hr1 hcl hs hh hl hc0 hc1
 go_enter Try.func97,Try.ntmps97
 go_wp2_with (first|((with_reducible refine gate_dst (N:=2) rfl ?_);refine hold ?_))
 unfold Hold
 refine zbx 2 #[.slice A0 l0.length c0,.slice A1 l1.length c1] 46 ?_
 intro gq hg w1 hbox hb
 have BQ:=zA hbox
 have n1:=zA (zJb HB.out hb)
 clear HB hbox hb hg
 have HB:=n1
 clear n1
 go_wp2_with (first|((with_reducible refine gate_dst (N:=4) rfl ?_);refine hold ?_))
 unfold Hold
 refine zbx 4 #[.slice none 0 0,.slice none 0 0] 46 ?_
 intro gr hg w2 hbox hb
 have BR:=zA hbox
 have n1:=zA (zJb HB.out hb)
 have n2:=zA (zQ BQ.out hb)
 have GR:=zA (show w.heap.size ≤ gr from by rw [hg];exact HB.out.size)
 clear HB hbox hb hg BQ
 have HB:=n1
 have BQ:=n2
 clear n1 n2
 have hx0:=zc (.slice A0 l0.length c0) BQ 0 rfl
 have hx1:=zc (.slice A1 l1.length c1) BQ 1 rfl
 go_wp2_with (first|(go_at_call 125;refine hold ?_))
 unfold Hold
 refine (impl_copyQuery.calls km _ _ l0 _ _ l1 l0 l1 _ (zKb R0.out HB.out) HC0.out (zKb R1.out HB.out) HC1.out HM.out).mono ?_
 rintro e w3 ⟨v0,v1,rfl,ho0,ho1,hb⟩
 obtain ⟨B0,d0,rfl⟩:=Kd.R_slice ho0
 obtain ⟨B1,d1,rfl⟩:=Kd.S_slice ho1
 have N2 : ∃ n2 : Nat,n2 = w2.heap.size:=⟨_,rfl⟩
 obtain ⟨n2,hn2⟩:=N2
 have N3 : ∃ n3 : Nat,n3 = w3.heap.size:=⟨_,rfl⟩
 obtain ⟨n3,hn3⟩:=N3
 have q0:=zA (show Kd.R (Kd.int .i64) 3 w3 w.heap.size (fun k => n2 ≤ k ∧ k < n3) _ l0 from zGb (newR ho0 HB.out.size) (fun k hk => by rw [hn2,hn3];exact hk.1))
 have q1:=zA (show Kd.S k97 97 w3 w.heap.size (fun k => (n2 ≤ k ∧ k < n3) ∧ some k ≠ (Value.slice B0 l0.length d0).ownBlock) _ l1 from zS (newS ho1 HB.out.size) (fun k hk => by rw [hn2,hn3];exact hk))
 have q2:=zA (zQ BR.out hb)
 have q3:=zA (zJb HB.out hb)
 have GR2:=zA (show gr < n2 from by rw [hn2];exact blk_lt BR.out)
 have G3:=zA (show w.heap.size ≤ n2 ∧ n2 ≤ n3 from by rw [hn2,hn3];exact ⟨HB.out.size,hb.size⟩)
 clear HB BR BQ hx0 hx1 ho0 ho1 hb R0 R1 HC0 HC1 HM hn2
 go_wp2_with (first|((with_reducible refine gate_dst (N:=5) rfl ?_);refine hold ?_))
 unfold Hold
 refine zbx 5 #[.slice none 0 0,.slice none 0 0] 46 ?_
 intro gx hg w4 hbox hb
 have BX:=zA hbox
 have GX:=zA (show n3 ≤ gx from by rw [hg,hn3];exact Nat.le_refl _)
 replace q0:=zA (zZ q0.out hb)
 replace q1:=zA (zY q1.out hb)
 replace q2:=zA (zQ q2.out hb)
 replace q3:=zA (zJb q3.out hb)
 clear hbox hb hg hn3
 have hy0:=zc (.slice none 0 0) BX 0 rfl
 have hy1:=zc (.slice none 0 0) BX 1 rfl
 have hf0:=blk_frozen BX.out 0
 have hf1:=blk_frozen BX.out 1
 go_wp2_with (first|((with_reducible refine gate_store (t:=46) (p:=5) rfl ?_);refine hold ?_))
 unfold Hold
 refine store_event (t:=46) (p:=5) (v:=?vo_s5) (w1:=((w4.setCell ⟨gx,0,none⟩ (.slice B0 l0.length d0)).setCell ⟨gx,1,none⟩ (.slice B1 l1.length d1))) ?hg5 ?ho5 ?hn5 ?hr5 ?_
 case ho5 => rfl
 case hg5 => rfl
 case hn5 => rfl
 case hr5 => first|(go_simp;done)|(go_simp;rfl)
 intro w5 hw
 have hk : Kept w4 w5 (fun k => k = gx):=by rw [hw];exact kept_two _ _
 have ST:=zA (show StC w n2 n3 gx gr (.slice B0 l0.length d0) (.slice B1 l1.length d1) l0 l1 w5 from
  ⟨Kd.R_kept q0.out hk (fun k h1 h2 => by have:=GX.out;omega),Kd.S_kept q1.out hk (fun k h1 h2 => by have:=GX.out;omega),
   by rw [hw];exact blk_put (cs:=#[.slice B0 l0.length d0,.slice none 0 0]) (blk_put (cs:=#[.slice none 0 0,.slice none 0 0]) BX.out 0 _ rfl) 1 _ rfl,
   blk_kept q2.out hk (fun h => by have h1:=GX.out;have h2:=GR2.out;have h3:=G3.out;omega),
   by rw [hw];exact zB (zB q3.out (by have h1:=GX.out;have h3:=G3.out;show w.heap.size ≤ gx;omega)) (by have h1:=GX.out;have h3:=G3.out;show w.heap.size ≤ gx;omega)⟩)
 clear q0 q1 q2 q3 hk hw BX hy0 hy1 hf0 hf1
 have hx0 : w5.cell? ⟨gx,0,none⟩ = some (.slice B0 l0.length d0):=(zP ST.out.bx 0).trans rfl
 have hx1 : w5.cell? ⟨gx,1,none⟩ = some (.slice B1 l1.length d1):=(zP ST.out.bx 1).trans rfl
 go_wp2
 go_loopg [17] l0.length (fun kq v17 w' => ∃ x : Int,v17 = .int .i64 x ∧ Aside0 (0 ≤ x ∧ kq + x.toNat = l0.length) ∧ Aside0 (StC w n2 n3 gx gr (.slice B0 l0.length d0) (.slice B1 l1.length d1) (upto f l0 x.toNat) l1 w'))
 case atStart => exact ⟨0,rfl,⟨⟨Int.le_refl _,rfl⟩⟩,⟨by rw [show (0 : Int).toNat = 0 from rfl,upto_0];exact ST.out⟩⟩
 case round =>
  clear ST
  obtain ⟨x,rfl,HG,ST⟩:=hrel
  by_cases c6 : x < (l0.length : Int)
  ·have c6b0 : decide (x < (l0.length : Int)) = true:=decide_eq_true c6
   have p5 : 0 ≤ x:=HG.out.1
   have hlt : x.toNat < l0.length:=by omega
   have HLT:=zA hlt
   obtain ⟨go,co,eo,gb,gl,cl,hgo⟩:=Kd.R_form ST.out.r0 (by rw [upto_len];omega)
   injection eo with ea en ec
   subst ea;subst ec
   clear en gb gl cl hgo
   have hx5 : wr.cell? ⟨go,x.toNat,none⟩ = some (.int .i64 (rd l0 x)):=by
    have h1:=(Kd.R_celln 0 ST.out.r0 x p5 c6).1
    rw [show rdOf 0 (upto f l0 x.toNat) x = rd l0 x from upto_get _ _ _ _] at h1
    exact h1
   have q5:=eq_true c6
   have r5:=eq_true p5
   clear hlt
   try go_wp2
   have HDW:=zA (ST.out.below (below_drew (Below.refl _ _)))
   refine start_ (n:=8) (S:=fun w' => w'.cell? ⟨gx,0,none⟩ = some (.slice (some ⟨go,0,none⟩) l0.length d0)) (ds:=[]) #[yf,yf,yf,yf,yf,yf,yf,yf] (by kernel_rfl) rfl rfl ((zP HDW.out.bx 0).trans rfl) (fun hHeld => ?_)
   generalize wr.drew = w6 at HDW hHeld ⊢
   refine zu 0 22 ?_;refine zu 2 24 ?_;refine zu 3 25 ?_;refine zu 4 26 ?_;refine zw 1 23 hHeld ?_
   refine one_ (i:=5) (N:=some 27) #[yt,yt,yt,yt,yt,yt,yf,yf] rfl rfl (by kernel_rfl) (by decide) (fun K hK => ?_)
   refine goesC_ hf hname hbd #[] #[cv] #[.int .i64 (rd l0 x),cv] (by rfl) rfl rfl (by rfl) (by (try simp only [zCb,zMb,zNb,List.append_toArray,List.nil_append,List.cons_append]);first|done|rfl) ?_
   refine (HCL.out w6 HDW.out.hb _).mono ?_
   rintro e w7 ⟨rfl,hd⟩
   refine ⟨_,rfl,?_⟩
   have HD7:=zA (HDW.out.below hd.below)
   clear HDW hd
   refine hK.out _ _ ((zP HD7.out.bx 0).trans rfl) (fun hHeld => ?_)
   clear hK K
   refine norm_ (a':=?_) ?_ ?_
   rotate_left
   ·show Act.put _ (some 27) _ = _;simp only [Act.put,zO,zEb,zFb,i64_w,i32_w];rfl
   refine zu 6 28 ?_
   refine one_ (i:=7) (N:=none) #[yt,yt,yt,yt,yt,yt,yt,yt] rfl rfl (by kernel_rfl) (by decide) (fun K hK => ?_)
   have hc7:=Kd.R_celln 0 HD7.out.r0 x p5 c6
   have hx7:=hc7.1
   have hf7:=hc7.2
   clear hc7
   have HP:=Kd.R_putg HD7.out.r0 x (f (rd l0 x))
   have hk : Kept w7 (w7.setCell ⟨go,x.toNat,none⟩ (.int .i64 (f (rd l0 x)))) (fun k => some k = (Value.slice (some ⟨go,0,none⟩) l0.length d0).ownBlock):=Kept.of_grown HP.2 (Kept.refl _ _) (fun k he => .inl he.symm)
   have GO:=HD7.out.r0.1 go rfl
   have HE:=zA (show StC w n2 n3 gx gr (.slice (some ⟨go,0,none⟩) l0.length d0) (.slice B1 l1.length d1) (upto f l0 (x.toNat + 1)) l1 (w7.setCell ⟨go,x.toNat,none⟩ (.int .i64 (f (rd l0 x)))) from
    ⟨by rw [← upto_step (f) l0 x.toNat 0 HLT.out];exact HP.1,Kd.S_kept HD7.out.r1 hk (fun k h1 h2 => h1.2 h2),
     blk_kept HD7.out.bx hk (fun h => by injection h with h_;have h : _ = go:=h_;have h1:=GX.out;omega),blk_kept HD7.out.br hk (fun h => by injection h with h_;have h : _ = go:=h_;have h1:=GR2.out;omega),zB HD7.out.hb (by have h3:=G3.out;show w.heap.size ≤ go;omega)⟩)
   clear HP hk GO HD7
   refine skip_ (w1:=?_) (by rfl) rfl ?_ ?_
   rotate_left
   ·go_simp;rfl
   refine hK.out _ _ ((zP HE.out.bx 0).trans rfl) (fun _ => ?_)
   clear hK K
   refine done_ (by kernel_rfl) ?_
   go_wp2
   go_roundg (gk - 1)
   case measure => have:=HG.out;have:=HLT.out;omega
   case rel => exact ⟨(wrap64 (x + 1)),rfl,⟨by have:=HG.out;have:=HLT.out;have h3:=HH.out.1;rw [w64 (by omega) (by omega)];omega⟩,⟨by rw [w64 (by have:=HG.out;omega) (by have h3:=HH.out.1;have:=HLT.out;omega),show (x + 1).toNat = x.toNat + 1 by have:=HG.out;omega];exact HE.out⟩⟩
  ·have c6b0 : decide (x < (l0.length : Int)) = false:=decide_eq_false c6
   have HX:=zA (show upto f l0 x.toNat = l0.map (f) from upto_end _ _ _ (by omega))
   clear c6
   have SU:=zA (show StC w n2 n3 gx gr (.slice B0 l0.length d0) (.slice B1 l1.length d1) (l0.map f) l1 wr from by rw [← HX.out];exact ST.out)
   have hx0 : wr.cell? ⟨gx,0,none⟩ = some (.slice B0 l0.length d0):=(zP SU.out.bx 0).trans rfl
   have hx1 : wr.cell? ⟨gx,1,none⟩ = some (.slice B1 l1.length d1):=(zP SU.out.bx 1).trans rfl
   clear ST HX HG
   go_wp2
   go_loopg [33] l1.length (fun kq v33 w' => ∃ y : Int,v33 = .int .i64 y ∧ Aside0 (0 ≤ y ∧ kq + y.toNat = l1.length) ∧ Aside0 (StC w n2 n3 gx gr (.slice B0 l0.length d0) (.slice B1 l1.length d1) (l0.map f) (upto (tF f) l1 y.toNat) w'))
   case atStart => exact ⟨0,rfl,⟨⟨Int.le_refl _,rfl⟩⟩,⟨by rw [show (0 : Int).toNat = 0 from rfl,upto_0];exact SU.out⟩⟩
   case round =>
    clear SU c6b0 hx0 hx1
    obtain ⟨y,rfl,HG,ST⟩:=hrel
    by_cases c6 : y < (l1.length : Int)
    ·have c6b0 : decide (y < (l1.length : Int)) = true:=decide_eq_true c6
     have p5 : 0 ≤ y:=HG.out.1
     have hlt : y.toNat < l1.length:=by omega
     have HLT:=zA hlt
     obtain ⟨go,co,eo,gb,gl,cl,hgo⟩:=Kd.S_form ST.out.r1 (by rw [upto_len];omega)
     injection eo with ea en ec
     subst ea;subst ec
     clear en gb gl cl hgo
     obtain ⟨okj,cj,hclj,hMj,hccj,hokj,hHj⟩:=Kd.S_lend ST.out.r1 z97 y p5 c6
     rw [upto_get] at hMj
     have hin : l1.getD y.toNat z97 ∈ l1:=by rw [List.getD_eq_getElem?_getD,List.getElem?_eq_getElem hlt];exact List.getElem_mem _
     have hsm:=HS.out _ hin
     have HEL:=zA (upto_step (tF f) l1 y.toNat z97 hlt)
     generalize l1.getD y.toNat z97 = el at hMj hsm HEL
     obtain ⟨f0,fl⟩:=el
     obtain ⟨vj,rfl,gj⟩:=k97_openM hMj
     have HSM:=zA (show fl.length ≤ 1048576 from hsm)
     have hx0 : wr.cell? ⟨go,y.toNat * 2,none⟩ = some (.int .i64 f0):=hccj 0 _ rfl
     have hx1 : wr.cell? ⟨go,y.toNat * 2 + 1,none⟩ = some vj:=hccj 1 _ rfl
     have RJ:=zA (show Kd.R (Kd.int .i64) 3 wr w.heap.size okj vj fl from gj)
     have RH:=zA hHj
     have HOK:=zA (fun k hk => (hokj k hk).1.1)
     have HOK2:=zA (fun k hk => (hokj k hk).1.2)
     obtain ⟨B2,d2,rfl⟩:=Kd.R_slice gj
     have q5:=eq_true c6
     have r5:=eq_true p5
     clear hlt hclj hMj hccj hokj hHj gj hin hsm
     go_wp2_with (first|((with_reducible refine gate_dst (N:=9) rfl ?_);refine hold ?_))
     unfold Hold
     refine zbx 9 #[.int .i64 0,.slice none 0 0] 97 ?_
     intro ga hg w6 hbox hb
     have BA:=zA hbox
     have GA:=zA (show n3 ≤ ga from by rw [hg];have h1:=GX.out;have h2:=blk_lt ST.out.bx;omega)
     have GXA:=zA (show gx < ga from by rw [hg];exact blk_lt ST.out.bx)
     replace ST:=zA (ST.out.below hb)
     replace RJ:=zA (zZ RJ.out hb)
     replace RH:=zA (Kd.H_kept RH.out (Kept.of_below hb (fun _ => False)) (fun _ _ _ h => h))
     clear hbox hb hg hx0 hx1
     have hy0:=zc (.int .i64 0) BA 0 rfl
     have hy1:=zc (.slice none 0 0) BA 1 rfl
     have hf0:=blk_frozen BA.out 0
     have hf1:=blk_frozen BA.out 1
     go_wp2_with (first|((with_reducible refine gate_store (t:=97) (p:=9) rfl ?_);refine hold ?_))
     unfold Hold
     refine store_event (t:=97) (p:=9) (v:=?vo_s8) (w1:=((w6.setCell ⟨ga,0,none⟩ (.int .i64 f0)).setCell ⟨ga,1,none⟩ (.slice B2 fl.length d2))) ?hg8 ?ho8 ?hn8 ?hr8 ?_
     case ho8 => rfl
     case hg8 => rfl
     case hn8 => rfl
     case hr8 => first|(go_simp;done)|(go_simp;rfl)
     intro w8 hw
     have hk : Kept w6 w8 (fun k => k = ga):=by rw [hw];exact kept_two _ _
     have OWN:=zA (fun k (hk : some k = (Value.slice B0 l0.length d0).ownBlock) => ST.out.r0.1 k hk.symm)
     have SD:=zA (show StD w n2 n3 gx gr ga (.slice B0 l0.length d0) (.slice (some ⟨go,0,none⟩) l1.length d1) (.slice B2 fl.length d2) (l0.map f) (upto (tF f) l1 y.toNat) y okj f0 fl w8 from
      ⟨Kd.R_kept (Kd.R_tight rfl ST.out.r0) hk (fun k h1 h2 => by have h3:=OWN.out k h1;have h4:=GA.out;omega),Kd.H_kept RH.out hk (fun k h1 h2 h3 => by have h4:=GA.out;omega),Kd.R_kept RJ.out hk (fun k h1 h3 => by have h4:=GA.out;have h5:=HOK.out k h1;omega),
       blk_kept ST.out.bx hk (fun h => by have h1:=GXA.out;omega),blk_kept ST.out.br hk (fun h => by have h1:=GA.out;have h2:=GR2.out;have h3:=G3.out;omega),
       by rw [hw];exact blk_put (cs:=#[.int .i64 f0,.slice none 0 0]) (blk_put (cs:=#[.int .i64 0,.slice none 0 0]) BA.out 0 _ rfl) 1 _ rfl,
       by rw [hw];exact zB (zB ST.out.hb (by have h1:=GA.out;have h3:=G3.out;show w.heap.size ≤ ga;omega)) (by have h1:=GA.out;have h3:=G3.out;show w.heap.size ≤ ga;omega)⟩)
     clear ST RJ RH hk hw BA hy0 hy1 hf0 hf1
     have hx1 : w8.cell? ⟨ga,1,none⟩ = some (.slice B2 fl.length d2):=(zP SD.out.ba 1).trans rfl
     go_wp2
     go_loopg [40] fl.length (fun kq v40 w' => ∃ x : Int,v40 = .int .i64 x ∧ Aside0 (0 ≤ x ∧ kq + x.toNat = fl.length) ∧ Aside0 (StD w n2 n3 gx gr ga (.slice B0 l0.length d0) (.slice (some ⟨go,0,none⟩) l1.length d1) (.slice B2 fl.length d2) (l0.map f) (upto (tF f) l1 y.toNat) y okj f0 (upto f fl x.toNat) w'))
     case atStart => exact ⟨0,rfl,⟨⟨Int.le_refl _,rfl⟩⟩,⟨by rw [show (0 : Int).toNat = 0 from rfl,upto_0];exact SD.out⟩⟩
     case round =>
      clear SD c6b0 hx1
      obtain ⟨x,rfl,HG2,ST⟩:=hrel
      by_cases c8 : x < (fl.length : Int)
      ·have c8b0 : decide (x < (fl.length : Int)) = true:=decide_eq_true c8
       have p7 : 0 ≤ x:=HG2.out.1
       have hlt : x.toNat < fl.length:=by omega
       have HLT2:=zA hlt
       obtain ⟨gj,co,eo,gb,gl,cl,hgo⟩:=Kd.R_form ST.out.rj (by rw [upto_len];omega)
       injection eo with ea en ec
       subst ea;subst ec
       clear en gb gl cl hgo
       have hx5 : wr.cell? ⟨gj,x.toNat,none⟩ = some (.int .i64 (rd fl x)):=by
        have h1:=(Kd.R_celln 0 ST.out.rj x p7 c8).1
        rw [show rdOf 0 (upto f fl x.toNat) x = rd fl x from upto_get _ _ _ _] at h1
        exact h1
       have q7:=eq_true c8
       have r7:=eq_true p7
       clear hlt
       try go_wp2
       have HDW:=zA (ST.out.below (below_drew (Below.refl _ _)))
       refine start_ (n:=8) (S:=fun w' => w'.cell? ⟨ga,1,none⟩ = some (.slice (some ⟨gj,0,none⟩) fl.length d2)) (ds:=[]) #[yf,yf,yf,yf,yf,yf,yf,yf] (by kernel_rfl) rfl rfl ((zP HDW.out.ba 1).trans rfl) (fun hHeld => ?_)
       generalize wr.drew = w9 at HDW hHeld ⊢
       refine zu 0 45 ?_;refine zu 2 47 ?_;refine zu 3 48 ?_;refine zu 4 49 ?_;refine zw 1 46 hHeld ?_
       refine one_ (i:=5) (N:=some 50) #[yt,yt,yt,yt,yt,yt,yf,yf] rfl rfl (by kernel_rfl) (by decide) (fun K hK => ?_)
       refine goesC_ hf hname hbd #[] #[cv] #[.int .i64 (rd fl x),cv] (by rfl) rfl rfl (by rfl) (by (try simp only [zCb,zMb,zNb,List.append_toArray,List.nil_append,List.cons_append]);first|done|rfl) ?_
       refine (HCL.out w9 HDW.out.hb _).mono ?_
       rintro e w10 ⟨rfl,hd⟩
       refine ⟨_,rfl,?_⟩
       have HD7:=zA (HDW.out.below hd.below)
       clear HDW hd
       refine hK.out _ _ ((zP HD7.out.ba 1).trans rfl) (fun hHeld => ?_)
       clear hK K
       refine norm_ (a':=?_) ?_ ?_
       rotate_left
       ·show Act.put _ (some 50) _ = _;simp only [Act.put,zO,zEb,zFb,i64_w,i32_w];rfl
       refine zu 6 51 ?_
       refine one_ (i:=7) (N:=none) #[yt,yt,yt,yt,yt,yt,yt,yt] rfl rfl (by kernel_rfl) (by decide) (fun K hK => ?_)
       have hc7:=Kd.R_celln 0 HD7.out.rj x p7 c8
       have hx7:=hc7.1
       have hf7:=hc7.2
       clear hc7
       have HP:=Kd.R_putg HD7.out.rj x (f (rd fl x))
       have hk : Kept w10 (w10.setCell ⟨gj,x.toNat,none⟩ (.int .i64 (f (rd fl x)))) (fun k => some k = (Value.slice (some ⟨gj,0,none⟩) fl.length d2).ownBlock):=Kept.of_grown HP.2 (Kept.refl _ _) (fun k he => .inl he.symm)
       have GO:=HOK.out gj (HD7.out.rj.1 gj rfl)
       have HE:=zA (show StD w n2 n3 gx gr ga (.slice B0 l0.length d0) (.slice (some ⟨go,0,none⟩) l1.length d1) (.slice (some ⟨gj,0,none⟩) fl.length d2) (l0.map f) (upto (tF f) l1 y.toNat) y okj f0 (upto f fl (x.toNat + 1)) (w10.setCell ⟨gj,x.toNat,none⟩ (.int .i64 (f (rd fl x)))) from
        ⟨Kd.R_kept HD7.out.r0 hk (fun k h1 h2 => by injection h2 with h_;have h : k = gj:=h_;subst h;exact HOK2.out _ (HD7.out.rj.1 _ rfl) h1),Kd.H_kept HD7.out.r1 hk (fun k h1 h2 h3 => by injection h3 with h_;have h : k = gj:=h_;subst h;exact h2 (HD7.out.rj.1 _ rfl)),by rw [← upto_step (f) fl x.toNat 0 HLT2.out];exact HP.1,
         blk_kept HD7.out.bx hk (fun h => by injection h with h_;have h : _ = gj:=h_;have h1:=GX.out;omega),blk_kept HD7.out.br hk (fun h => by injection h with h_;have h : _ = gj:=h_;have h1:=GR2.out;omega),blk_kept HD7.out.ba hk (fun h => by injection h with h_;have h : _ = gj:=h_;have h1:=GA.out;omega),zB HD7.out.hb (by have h3:=G3.out;show w.heap.size ≤ gj;omega)⟩)
       clear HP hk GO HD7
       refine skip_ (w1:=?_) (by rfl) rfl ?_ ?_
       rotate_left
       ·go_simp;rfl
       refine hK.out _ _ ((zP HE.out.ba 1).trans rfl) (fun _ => ?_)
       clear hK K
       refine done_ (by kernel_rfl) ?_
       go_wp2
       go_roundg (fl.length - (x.toNat + 1))
       case measure => have:=HG2.out;have:=HLT2.out;omega
       case rel => exact ⟨(wrap64 (x + 1)),rfl,⟨by have:=HG2.out;have:=HLT2.out;have h3:=HSM.out;rw [w64 (by omega) (by omega)];omega⟩,⟨by rw [w64 (by have:=HG2.out;omega) (by have h3:=HSM.out;have:=HLT2.out;omega),show (x + 1).toNat = x.toNat + 1 by have:=HG2.out;omega];exact HE.out⟩⟩
      ·have c8b0 : decide (x < (fl.length : Int)) = false:=decide_eq_false c8
       have HX:=zA (show upto f fl x.toNat = fl.map (f) from upto_end _ _ _ (by omega))
       have SN:=zA (show StC w n2 n3 gx gr (.slice B0 l0.length d0) (.slice (some ⟨go,0,none⟩) l1.length d1) (l0.map f) (upto (tF f) l1 (y.toNat + 1)) wr from
        ⟨zGb ST.out.r0 (fun k hk => OWN.out k hk),by rw [← HEL.out];exact Kd.H_back ST.out.r1 (k97_mkM wr w.heap.size okj (tF f ⟨f0,fl⟩) (show Kd.R (Kd.int .i64) 3 wr w.heap.size okj _ (fl.map f) from by rw [← HX.out];exact ST.out.rj)) (fun _ hk => hk),ST.out.bx,ST.out.br,ST.out.hb⟩)
       clear ST HX c8
       go_wp2
       go_roundg (l1.length - (y.toNat + 1))
       case measure => have:=HG.out;have:=HLT.out;omega
       case rel => exact ⟨(wrap64 (y + 1)),rfl,⟨by have:=HG.out;have:=HLT.out;have h3:=HH.out.2;rw [w64 (by omega) (by omega)];omega⟩,⟨by rw [w64 (by have:=HG.out;omega) (by have h3:=HH.out.2;have:=HLT.out;omega),show (y + 1).toNat = y.toNat + 1 by have:=HG.out;omega];exact SN.out⟩⟩
    ·have c6b0 : decide (y < (l1.length : Int)) = false:=decide_eq_false c6
     have HX:=zA (show upto (tF f) l1 y.toNat = l1.map (tF f) from upto_end _ _ _ (by omega))
     clear c6
     have SU:=zA (show StC w n2 n3 gx gr (.slice B0 l0.length d0) (.slice B1 l1.length d1) (l0.map f) (l1.map (tF f)) wr from by rw [← HX.out];exact ST.out)
     have hx0 : wr.cell? ⟨gx,0,none⟩ = some (.slice B0 l0.length d0):=(zP SU.out.bx 0).trans rfl
     have hx1 : wr.cell? ⟨gx,1,none⟩ = some (.slice B1 l1.length d1):=(zP SU.out.bx 1).trans rfl
     have hy0 : wr.cell? ⟨gr,0,none⟩ = some (.slice none 0 0):=(zP SU.out.br 0).trans rfl
     have hy1 : wr.cell? ⟨gr,1,none⟩ = some (.slice none 0 0):=(zP SU.out.br 1).trans rfl
     have hf0:=blk_frozen SU.out.br 0
     have hf1:=blk_frozen SU.out.br 1
     clear ST HX HG
     go_wp2
     refine bodyPost_ret (results_cell_row rfl _ _ gr 46 #[.slice B0 l0.length d0,.slice B1 l1.length d1] (0,0) _ rfl (blk_put (cs:=#[.slice B0 l0.length d0,.slice none 0 0]) (blk_put (cs:=#[.slice none 0 0,.slice none 0 0]) SU.out.br 0 _ rfl) 1 _ rfl) Try.underlying46 rfl (by kernel_rfl)) rfl ?_
     have hk : Kept wr ((wr.setCell ⟨gr,0,none⟩ (.slice B0 l0.length d0)).setCell ⟨gr,1,none⟩ (.slice B1 l1.length d1)) (fun k => k = gr):=kept_two _ _
     have h2:=GR2.out
     have h3:=GR.out
     exact ⟨_,_,rfl,zGb (Kd.R_kept SU.out.r0 hk (fun k h1 h4 => by omega)) (fun _ _ => trivial),zS (Kd.S_kept SU.out.r1 hk (fun k h1 h4 => by omega)) (fun _ h => h.2),zB (zB SU.out.hb h3) h3⟩

structure StM (w : World) (gi gt : Nat) (v0 v1 : Value) (xs : List Int) (ys : List S97) (t0 t1 : Value) (W : World) : Prop where
 r0 : Kd.R (Kd.int .i64) 3 W w.heap.size (fun _ => True) v0 xs
 r1 : Kd.S k97 97 W w.heap.size (fun k_ => some k_ ≠ (v0 : Value).ownBlock) v1 ys
 bi : W.heap[gi]? = some (.cells #[v0,v1] 46 (0,0))
 bt : W.heap[gt]? = some (.cells #[t0,t1] 46 (0,0))
 hb : Below w.heap.size w W
theorem StM.below {w : World} {gi gt : Nat} {v0 v1 t0 t1 : Value} {xs : List Int} {ys : List S97} {W W2 : World} (h : StM w gi gt v0 v1 xs ys t0 t1 W) (hb : Below W.heap.size W W2) : StM w gi gt v0 v1 xs ys t0 t1 W2 :=
 ⟨zZ h.r0 hb,zY h.r1 hb,zQ h.bi hb,zQ h.bt hb,zJb h.hb hb⟩
set_option maxHeartbeats 8000000 in
set_option maxRecDepth 100000 in
theorem maps_calls (A0_0 : Option Addr) (c0_0 : Nat) (l0_0 : List Int) (A0_1 : Option Addr) (c0_1 : Nat) (l0_1 : List (S97)) (A1_0 : Option Addr) (c1_0 : Nat) (l1_0 : List Int) (A1_1 : Option Addr) (c1_1 : Nat) (l1_1 : List (S97)) (A2 : Option Addr) (c2 : Nat) (l2 : List Int) (w : World) (hr0_0 : Kd.C (Kd.int .i64) w A0_0 l0_0.length l0_0) (hc0_0 : l0_0.length ≤ c0_0) (hr0_1 : Kd.C k97 w A0_1 l0_1.length l0_1) (hc0_1 : l0_1.length ≤ c0_1) (hr1_0 : Kd.C (Kd.int .i64) w A1_0 l1_0.length l1_0) (hc1_0 : l1_0.length ≤ c1_0) (hr1_1 : Kd.C k97 w A1_1 l1_1.length l1_1) (hc1_1 : l1_1.length ≤ c1_1) (hr2 : Kd.C (Kd.int .i64) w A2 l2.length l2) (hc2 : l2.length ≤ c2)
  (hz : (l0_0.length ≤ 1048576 ∧ l0_1.length ≤ 1048576 ∧ l1_1.length ≤ 1048576 ∧ l2.length ≤ 1048576) ∧ ∀ x ∈ l0_1,x.f1.length ≤ 1048576) :
  Calls Try.prog 104 #[.agg #[.slice A0_0 l0_0.length c0_0, .slice A0_1 l0_1.length c0_1], .agg #[.slice A1_0 l1_0.length c1_0, .slice A1_1 l1_1.length c1_1], .slice A2 l2.length c2] w fun e w' => e = .returned (.bool (mMaps l0_0 l0_1 l1_0 l1_1 l2)) ∧ Below w.heap.size w w' := by
 have hmf : ∀ (fn : Fn) (first cap : Array Value) (w : World),(Instr.makeFunc fn first cap).run Try.prog w = .ok (.func fn first cap) w:=fun _ _ _ _ => rfl
 have hu46:=Try.underlying46
 have hu97:=Try.underlying97
 obtain ⟨ks,hks⟩:=(slEqual_ev (l0_0.map (mApply l2)) l1_0 (by simp;omega)).rounds
 have HSE:=zA hks
 have HR0:=zA hr0_0
 have HR1:=zA hr0_1
 have HT0:=zA hr1_0
 have HT1:=zA hr1_1
 have HR2:=zA hr2
 have HC:=zA (show l0_0.length ≤ c0_0 ∧ l0_1.length ≤ c0_1 ∧ l1_0.length ≤ c1_0 ∧ l1_1.length ≤ c1_1 ∧ l2.length ≤ c2 from ⟨hc0_0,hc0_1,hc1_0,hc1_1,hc2⟩)
 have HZ:=zA hz
 have HB:=zA (Below.refl w.heap.size w)
 clear hks hr0_0 hr0_1 hr1_0 hr1_1 hr2 hc0_0 hc0_1 hc1_0 hc1_1 hc2 hz
 go_enter Try.func104,Try.ntmps104
 go_wp2_with (first|((with_reducible refine gate_dst (N:=3) rfl ?_);refine hold ?_))
 unfold Hold
 refine zbx 3 #[.slice A0_0 l0_0.length c0_0,.slice A0_1 l0_1.length c0_1] 46 ?_
 intro gq hg w1 hbox hb
 have BQ:=zA hbox
 replace HB:=zA (zJb HB.out hb)
 clear hbox hb hg
 go_wp2_with (first|((with_reducible refine gate_dst (N:=4) rfl ?_);refine hold ?_))
 unfold Hold
 refine zbx 4 #[.slice A1_0 l1_0.length c1_0,.slice A1_1 l1_1.length c1_1] 46 ?_
 intro gt hg w2 hbox hb
 have BT:=zA hbox
 replace BQ:=zA (zQ BQ.out hb)
 replace HB:=zA (zJb HB.out hb)
 clear hbox hb hg
 go_wp2_with (first|((with_reducible refine gate_dst (N:=5) rfl ?_);refine hold ?_))
 unfold Hold
 refine zbx 5 #[.slice A2 l2.length c2] 38 ?_
 intro gm hg w3 hbox hb
 have BM:=zA hbox
 replace BQ:=zA (zQ BQ.out hb)
 replace BT:=zA (zQ BT.out hb)
 replace HB:=zA (zJb HB.out hb)
 clear hbox hb hg
 have hm0:=zc (.slice A2 l2.length c2) BM 0 rfl
 have hx0:=zc (.slice A0_0 l0_0.length c0_0) BQ 0 rfl
 have hx1:=zc (.slice A0_1 l0_1.length c0_1) BQ 1 rfl
 by_cases c20 : (l2.length : Int) = 20
 ·have c20b : ((l2.length : Int) != 20) = false:=bne_eq_false_iff_eq.mpr c20
  have c20c : ((l2.length : Int) == 20) = true:=beq_iff_eq.mpr c20
  have c20d : decide ((l2.length : Int) = 20) = true:=decide_eq_true c20
  have EM:=zA (show mMaps l0_0 l0_1 l1_0 l1_1 l2 = (decide (l0_0.map (mApply l2) = l1_0) && (l0_1.map (tF (mApply l2))).all (fun a => mHit l1_1 a)) from by
   unfold mMaps;rw [decide_eq_true (show l2.length = 20 by omega),List.all_map];rfl)
  clear c20
  go_wp2_with (first|(go_at_call 97;refine hold ?_))
  unfold Hold
  refine (changed_calls _ _ l0_0 _ _ l0_1 132 _ Try.func132 (by kernel_rfl) rfl (.pointer (some ⟨gm,0,none⟩)) (mApply l2) _ (fun W hW t => maps1_calls gm A2 c2 l2 t W (zQ BM.out hW) (zKb (zKb HR2.out HB.out) hW) HC.out.2.2.2.2 HZ.out.1.2.2.2) (zKb HR0.out HB.out) HC.out.1 (zKb HR1.out HB.out) HC.out.2.1 HZ.out.1.1 HZ.out.1.2.1 HZ.out.2).mono ?_
  rintro e w4 ⟨v0,v1,rfl,ho0,ho1,hb⟩
  have HN:=zA (show (l0_0.map (mApply l2)).length = l0_0.length ∧ (l0_1.map (tF (mApply l2))).length = l0_1.length from ⟨by simp,by simp⟩)
  have HSM:=zA (show ∀ x ∈ l0_1.map (tF (mApply l2)),x.f1.length ≤ 1048576 from by
   intro x hx;obtain ⟨y,hy,rfl⟩:=List.mem_map.1 hx;simpa [tF] using HZ.out.2 y hy)
  generalize l0_0.map (mApply l2) = xs at ho0 HN EM HSE
  generalize l0_1.map (tF (mApply l2)) = ys at ho1 HN EM HSM
  obtain ⟨B0,d0,rfl⟩:=Kd.R_slice ho0
  obtain ⟨B1,d1,rfl⟩:=Kd.S_slice ho1
  have q0:=zA (zHb ho0 HB.out.size)
  have q1:=zA (zIb ho1 HB.out.size)
  replace BT:=zA (zQ BT.out hb)
  replace HB:=zA (zJb HB.out hb)
  clear ho0 ho1 hb hx0 hx1 hm0 HR0 HR1 HR2 BQ BM
  go_wp2_with (first|((with_reducible refine gate_dst (N:=7) rfl ?_);refine hold ?_))
  unfold Hold
  refine zbx 7 #[.slice none 0 0,.slice none 0 0] 46 ?_
  intro gi hg w5 hbox hb
  have BI:=zA hbox
  have HG_:=zA hg
  have HB5:=zA hb
  clear hbox hg hb
  have hy0:=zc (.slice none 0 0) BI 0 rfl
  have hy1:=zc (.slice none 0 0) BI 1 rfl
  have hf0:=blk_frozen BI.out 0
  have hf1:=blk_frozen BI.out 1
  go_wp2_with (first|((with_reducible refine gate_store (t:=46) (p:=7) rfl ?_);refine hold ?_))
  unfold Hold
  refine store_event (t:=46) (p:=7) (v:=?vo_s5) (w1:=((w5.setCell ⟨gi,0,none⟩ (.slice B0 xs.length d0)).setCell ⟨gi,1,none⟩ (.slice B1 ys.length d1))) ?hg5 ?ho5 ?hn5 ?hr5 ?_
  case ho5 => rfl
  case hg5 => rfl
  case hn5 => rfl
  case hr5 => first|(go_simp;done)|(go_simp;rfl)
  intro w6 hw
  have hb : Below w4.heap.size w4 w6:=by rw [hw];exact zB (zB HB5.out (by rw [HG_.out];exact Nat.le_refl _)) (by rw [HG_.out];exact Nat.le_refl _)
  have ST:=zA (show StM w gi gt (.slice B0 xs.length d0) (.slice B1 ys.length d1) xs ys (.slice A1_0 l1_0.length c1_0) (.slice A1_1 l1_1.length c1_1) w6 from
   ⟨zZ q0.out hb,zY q1.out hb,by rw [hw];exact blk_put (cs:=#[.slice B0 xs.length d0,.slice none 0 0]) (blk_put (cs:=#[.slice none 0 0,.slice none 0 0]) BI.out 0 _ rfl) 1 _ rfl,zQ BT.out hb,zJb HB.out hb⟩)
  clear q0 q1 hw hb BI BT HB HB5 HG_ hy0 hy1 hf0 hf1
  have hx0 : w6.cell? ⟨gi,0,none⟩ = some (.slice B0 xs.length d0):=(zP ST.out.bi 0).trans rfl
  have hx1 : w6.cell? ⟨gi,1,none⟩ = some (.slice B1 ys.length d1):=(zP ST.out.bi 1).trans rfl
  go_wp2
  go_loopg [19] ys.length (fun kq v19 w' => ∃ x : Int,v19 = .int .i64 x ∧ Aside0 (0 ≤ x ∧ kq + x.toNat = ys.length) ∧ Aside0 ((ys.drop x.toNat).all (fun a => mHit l1_1 a) = ys.all (fun a => mHit l1_1 a)) ∧ Aside0 (StM w gi gt (.slice B0 xs.length d0) (.slice B1 ys.length d1) xs ys (.slice A1_0 l1_0.length c1_0) (.slice A1_1 l1_1.length c1_1) w'))
  case atStart => exact ⟨0,rfl,⟨⟨Int.le_refl _,rfl⟩⟩,⟨by rw [show (0 : Int).toNat = 0 from rfl,List.drop_zero]⟩,ST⟩
  case round =>
   clear ST hx0 hx1
   obtain ⟨x,rfl,HG,HI,ST⟩:=hrel
   by_cases c6 : x < (ys.length : Int)
   ·have c6b0 : decide (x < (ys.length : Int)) = true:=decide_eq_true c6
    have p5 : 0 ≤ x:=HG.out.1
    have hlt : x.toNat < ys.length:=by omega
    have HLT:=zA hlt
    obtain ⟨ad,A3,c3,e_,hx0,hx1,hl3,hi3⟩:=at_T97 (Kd.S_reads' ST.out.r1).2.2 x p5 c6
    cases e_
    have HI3:=zA hi3
    have HL3:=zA hl3
    have e1 : rd_T97 ys x = ys[x.toNat]:=by show ys.getD x.toNat _ = _;rw [List.getD_eq_getElem?_getD,List.getElem?_eq_getElem hlt];rfl
    have HIN:=zA (show (ys.drop x.toNat).all (fun a => mHit l1_1 a) = (mHit l1_1 (rd_T97 ys x) && (ys.drop (x.toNat + 1)).all (fun a => mHit l1_1 a)) from by
     rw [List.drop_eq_getElem_cons hlt,e1];simp only [List.all_cons])
    have HSX:=zA (show (rd_T97 ys x).f1.length ≤ 1048576 from by rw [e1];exact HSM.out _ (List.getElem_mem _))
    clear hi3 hl3 hlt e1
    replace p5:=eq_true p5
    replace c6:=eq_true c6
    generalize rd_T97 ys x = el at *
    go_wp2_with (first|((with_reducible refine gate_dst (N:=9) rfl ?_);refine hold ?_))
    unfold Hold
    refine zbx 9 #[.int .i64 0,.slice none 0 0] 97 ?_
    intro ga hg w7 hbox hb
    have BA:=zA hbox
    have HG_:=zA hg
    have HB5:=zA hb
    clear hbox hg hb hx0 hx1
    have hy0:=zc (.int .i64 0) BA 0 rfl
    have hy1:=zc (.slice none 0 0) BA 1 rfl
    have hf0:=blk_frozen BA.out 0
    have hf1:=blk_frozen BA.out 1
    go_wp2_with (first|((with_reducible refine gate_store (t:=97) (p:=9) rfl ?_);refine hold ?_))
    unfold Hold
    refine store_event (t:=97) (p:=9) (v:=?vo_s8) (w1:=((w7.setCell ⟨ga,0,none⟩ (.int .i64 el.f0)).setCell ⟨ga,1,none⟩ (.slice A3 el.f1.length c3))) ?hg8 ?ho8 ?hn8 ?hr8 ?_
    case ho8 => rfl
    case hg8 => rfl
    case hn8 => rfl
    case hr8 => first|(go_simp;done)|(go_simp;rfl)
    intro w8 hw
    have hb : Below wr.heap.size wr w8:=by rw [hw];exact zB (zB HB5.out (by rw [HG_.out];exact Nat.le_refl _)) (by rw [HG_.out];exact Nat.le_refl _)
    replace ST:=zA (ST.out.below hb)
    replace HI3:=zA (zKb HI3.out hb)
    replace BA:=zA (show w8.heap[ga]? = some (.cells #[.int .i64 el.f0,.slice A3 el.f1.length c3] 97 (0,0)) from by rw [hw];exact blk_put (cs:=#[.int .i64 el.f0,.slice none 0 0]) (blk_put (cs:=#[.int .i64 0,.slice none 0 0]) BA.out 0 _ rfl) 1 _ rfl)
    clear hw hb HB5 HG_ hy0 hy1 hf0 hf1
    have hx0 : w8.cell? ⟨gt,0,none⟩ = some (.slice A1_0 l1_0.length c1_0):=(zP ST.out.bt 0).trans rfl
    have hx1 : w8.cell? ⟨gt,1,none⟩ = some (.slice A1_1 l1_1.length c1_1):=(zP ST.out.bt 1).trans rfl
    go_wp2_with (first|(go_at_call 133;refine hold ?_))
    unfold Hold
    refine (containsF_calls ga el.f0 A3 c3 el.f1 A1_1 c1_1 l1_1 _ BA.out HI3.out HL3.out (zKb HT1.out ST.out.hb) HC.out.2.2.2.1 HZ.out.1.2.2.1 HSX.out).mono ?_
    rintro e w9 ⟨rfl,hb⟩
    replace ST:=zA (ST.out.below hb)
    clear hb hx0 hx1 BA HI3
    cases hm : mHit l1_1 ⟨el.f0,el.f1⟩
    ·have HX:=zA (show mMaps l0_0 l0_1 l1_0 l1_1 l2 = false from by rw [EM.out,← HI.out,HIN.out,show mHit l1_1 el = false from hm];simp)
     clear hm
     go_wp2
     go_ret
     exact ⟨by rw [HX.out];rfl,ST.out.hb⟩
    ·have HX:=zA (show (ys.drop (x.toNat + 1)).all (fun a => mHit l1_1 a) = ys.all (fun a => mHit l1_1 a) from by rw [← HI.out,HIN.out,show mHit l1_1 el = true from hm];rfl)
     clear hm
     go_wp2
     go_roundg (gk - 1)
     case measure => have:=HG.out;have:=HLT.out;omega
     case rel => exact ⟨(wrap64 (x + 1)),rfl,⟨by have:=HG.out;have:=HLT.out;have h3:=HN.out;have h4:=HZ.out.1;rw [w64 (by omega) (by omega)];omega⟩,⟨by rw [w64 (by have:=HG.out;omega) (by have h3:=HN.out;have h4:=HZ.out.1;have:=HLT.out;omega),show (x + 1).toNat = x.toNat + 1 by have:=HG.out;omega];exact HX.out⟩,ST⟩
   ·have c6b0 : decide (x < (ys.length : Int)) = false:=decide_eq_false c6
    have HX:=zA (show mMaps l0_0 l0_1 l1_0 l1_1 l2 = decide (xs = l1_0) from by rw [EM.out,← HI.out,List.drop_eq_nil_of_le (by omega)];simp)
    clear c6
    have hx0 : wr.cell? ⟨gi,0,none⟩ = some (.slice B0 xs.length d0):=(zP ST.out.bi 0).trans rfl
    have hx1 : wr.cell? ⟨gt,0,none⟩ = some (.slice A1_0 l1_0.length c1_0):=(zP ST.out.bt 0).trans rfl
    go_wp2_with (first|(go_at_call 86;refine hold ?_))
    unfold Hold
    refine (slices_Equal_int_int.calls ks _ _ xs _ _ l1_0 _ _ (Kd.R_reads' ST.out.r0).2.2 (Kd.R_reads' ST.out.r0).2.1 (zKb HT0.out ST.out.hb) HC.out.2.2.1 HSE.out).mono ?_
    rintro e w9 ⟨rfl,hd⟩
    replace ST:=zA (ST.out.below hd.below)
    clear hd hx0 hx1
    go_wp2
    go_ret
    exact ⟨by rw [HX.out];rfl,ST.out.hb⟩
 ·have c20b : ((l2.length : Int) != 20) = true:=bne_iff_ne.mpr c20
  have c20c : ((l2.length : Int) == 20) = false:=beq_eq_false_iff_ne.mpr c20
  have c20d : decide ((l2.length : Int) = 20) = false:=decide_eq_false c20
  have EM:=zA (show mMaps l0_0 l0_1 l1_0 l1_1 l2 = false from by unfold mMaps;rw [decide_eq_false (show ¬ l2.length = 20 by omega)];rfl)
  clear c20
  go_wp2
  go_ret
  exact ⟨by rw [EM.out];rfl,HB.out⟩

set_option maxHeartbeats 8000000 in
set_option maxRecDepth 100000 in
theorem impl_IsMapping_calls (A0_0 : Option Addr) (c0_0 : Nat) (l0_0 : List Int) (A1_0 : Option Addr) (c1_0 : Nat) (l1_0 : List Int) (A1_1 : Option Addr) (c1_1 : Nat) (l1_1 : List (S97)) (A2_0 : Option Addr) (c2_0 : Nat) (l2_0 : List Int) (A2_1 : Option Addr) (c2_1 : Nat) (l2_1 : List (S97)) (A3 : Option Addr) (c3 : Nat) (l3 : List Int) (r : Bool) (w : World) (hr0_0 : Kd.C (Kd.int .i64) w A0_0 l0_0.length l0_0) (hc0_0 : l0_0.length ≤ c0_0) (hr1_0 : Kd.C (Kd.int .i64) w A1_0 l1_0.length l1_0) (hc1_0 : l1_0.length ≤ c1_0) (hr1_1 : Kd.C k97 w A1_1 l1_1.length l1_1) (hc1_1 : l1_1.length ≤ c1_1) (hr2_0 : Kd.C (Kd.int .i64) w A2_0 l2_0.length l2_0) (hc2_0 : l2_0.length ≤ c2_0) (hr2_1 : Kd.C k97 w A2_1 l2_1.length l2_1) (hc2_1 : l2_1.length ≤ c2_1) (hr3 : Kd.C (Kd.int .i64) w A3 l3.length l3) (hc3 : l3.length ≤ c3) (hz0 : (l0_0.length ≤ 1048576 ∧ l1_0.length ≤ 1048576 ∧ l1_1.length ≤ 1048576 ∧ l2_0.length ≤ 1048576 ∧ l2_1.length ≤ 1048576 ∧ l3.length ≤ 1048576) ∧ (∀ x ∈ l1_1, x.f1.length ≤ 1048576) ∧ ∀ x ∈ l2_1, x.f1.length ≤ 1048576) (h : mIsMap l0_0 l1_0 l1_1 l2_0 l2_1 l3 = r) :
  Calls Try.prog 50 #[.agg #[.slice A0_0 l0_0.length c0_0], .agg #[.slice A1_0 l1_0.length c1_0, .slice A1_1 l1_1.length c1_1], .agg #[.slice A2_0 l2_0.length c2_0, .slice A2_1 l2_1.length c2_1], .slice A3 l3.length c3] w fun e w' => e = .returned (.bool r) ∧ Below w.heap.size w w' := by
 obtain ⟨⟨z0,z1,z2,z3,z4,z5⟩,zs1,zs2⟩:=hz0
 obtain ⟨k1,hk1⟩:=(implIsQuery_ev l0_0 l1_0 l1_1 z0 z1 z2 zs1).rounds
 obtain ⟨k2,hk2⟩:=(implIsQuery_ev l0_0 l2_0 l2_1 z0 z3 z4 zs2).rounds
 have hu65:=Try.underlying65
 have hu46:=Try.underlying46
 have HZ:=zA (show (l1_0.length ≤ 1048576 ∧ l1_1.length ≤ 1048576 ∧ l2_1.length ≤ 1048576 ∧ l3.length ≤ 1048576) ∧ ∀ x ∈ l1_1,x.f1.length ≤ 1048576 from ⟨⟨z1,z2,z4,z5⟩,zs1⟩)
 unfold mIsMap at h
 generalize mIsQuery l0_0 l1_0 l1_1 = b1 at hk1 h
 generalize mIsQuery l0_0 l2_0 l2_1 = b2 at hk2 h
 have K1:=zA hk1
 have K2:=zA hk2
 have R0:=zA hr0_0
 have R1:=zA hr1_0
 have R2:=zA hr1_1
 have R3:=zA hr2_0
 have R4:=zA hr2_1
 have R5:=zA hr3
 have HC:=zA (show l0_0.length ≤ c0_0 ∧ l1_0.length ≤ c1_0 ∧ l1_1.length ≤ c1_1 ∧ l2_0.length ≤ c2_0 ∧ l2_1.length ≤ c2_1 ∧ l3.length ≤ c3 from ⟨hc0_0,hc1_0,hc1_1,hc2_0,hc2_1,hc3⟩)
 have HB:=zA (Below.refl w.heap.size w)
 have HE:=zA h
 clear hk1 hk2 hr0_0 hr1_0 hr1_1 hr2_0 hr2_1 hr3 hc0_0 hc1_0 hc1_1 hc2_0 hc2_1 hc3 z0 z1 z2 z3 z4 z5 zs1 zs2 h
 go_enter Try.func50,Try.ntmps50
 go_wp2_with (first|((with_reducible refine gate_dst (N:=4) rfl ?_);refine hold ?_))
 unfold Hold
 refine zbx 4 #[.slice A0_0 l0_0.length c0_0] 65 ?_
 intro g0 hg w1 hbox hb
 have B0:=zA hbox
 replace HB:=zA (zJb HB.out hb)
 clear hbox hb hg
 go_wp2_with (first|((with_reducible refine gate_dst (N:=5) rfl ?_);refine hold ?_))
 unfold Hold
 refine zbx 5 #[.slice A1_0 l1_0.length c1_0,.slice A1_1 l1_1.length c1_1] 46 ?_
 intro g1 hg w2 hbox hb
 have B1:=zA hbox
 replace B0:=zA (zQ B0.out hb)
 replace HB:=zA (zJb HB.out hb)
 clear hbox hb hg
 go_wp2_with (first|((with_reducible refine gate_dst (N:=6) rfl ?_);refine hold ?_))
 unfold Hold
 refine zbx 6 #[.slice A2_0 l2_0.length c2_0,.slice A2_1 l2_1.length c2_1] 46 ?_
 intro g2 hg w3 hbox hb
 have B2:=zA hbox
 replace B0:=zA (zQ B0.out hb)
 replace B1:=zA (zQ B1.out hb)
 replace HB:=zA (zJb HB.out hb)
 clear hbox hb hg
 have hx0:=zc (.slice A0_0 l0_0.length c0_0) B0 0 rfl
 have hx1:=zc (.slice A1_0 l1_0.length c1_0) B1 0 rfl
 have hx2:=zc (.slice A1_1 l1_1.length c1_1) B1 1 rfl
 go_wp2_with (first|(go_at_call 103;refine hold ?_))
 unfold Hold
 refine (impl_IsQuery.calls k1 _ _ l0_0 _ _ l1_0 _ _ l1_1 b1 _ (zKb R0.out HB.out) HC.out.1 (zKb R1.out HB.out) HC.out.2.1 (zKb R2.out HB.out) HC.out.2.2.1 K1.out).mono ?_
 rintro e w4 ⟨rfl,hb⟩
 replace B0:=zA (zQ B0.out hb)
 replace B1:=zA (zQ B1.out hb)
 replace B2:=zA (zQ B2.out hb)
 replace HB:=zA (zJb HB.out hb)
 clear hb hx0 hx1 hx2
 cases b1
 ·have HX:=zA (show r = false from by rw [← HE.out];rfl)
  go_wp2
  go_ret
  exact ⟨by rw [HX.out];rfl,HB.out⟩
 have hx0:=zc (.slice A0_0 l0_0.length c0_0) B0 0 rfl
 have hx1:=zc (.slice A2_0 l2_0.length c2_0) B2 0 rfl
 have hx2:=zc (.slice A2_1 l2_1.length c2_1) B2 1 rfl
 go_wp2_with (first|(go_at_call 103;refine hold ?_))
 unfold Hold
 refine (impl_IsQuery.calls k2 _ _ l0_0 _ _ l2_0 _ _ l2_1 b2 _ (zKb R0.out HB.out) HC.out.1 (zKb R3.out HB.out) HC.out.2.2.2.1 (zKb R4.out HB.out) HC.out.2.2.2.2.1 K2.out).mono ?_
 rintro e w5 ⟨rfl,hb⟩
 replace B1:=zA (zQ B1.out hb)
 replace B2:=zA (zQ B2.out hb)
 replace HB:=zA (zJb HB.out hb)
 clear hb hx0 hx1 hx2 B0
 cases b2
 ·have HX:=zA (show r = false from by rw [← HE.out];rfl)
  go_wp2
  go_ret
  exact ⟨by rw [HX.out];rfl,HB.out⟩
 have hx1:=zc (.slice A1_0 l1_0.length c1_0) B1 0 rfl
 have hx2:=zc (.slice A1_1 l1_1.length c1_1) B1 1 rfl
 have hx3:=zc (.slice A2_0 l2_0.length c2_0) B2 0 rfl
 have hx4:=zc (.slice A2_1 l2_1.length c2_1) B2 1 rfl
 go_wp2_with (first|(go_at_call 104;refine hold ?_))
 unfold Hold
 refine (maps_calls _ _ l1_0 _ _ l1_1 _ _ l2_0 _ _ l2_1 _ _ l3 _ (zKb R1.out HB.out) HC.out.2.1 (zKb R2.out HB.out) HC.out.2.2.1 (zKb R3.out HB.out) HC.out.2.2.2.1 (zKb R4.out HB.out) HC.out.2.2.2.2.1 (zKb R5.out HB.out) HC.out.2.2.2.2.2 HZ.out).mono ?_
 rintro e w6 ⟨rfl,hb⟩
 replace HB:=zA (zJb HB.out hb)
 clear hb hx1 hx2 hx3 hx4 B1 B2
 have HX:=zA (show r = mMaps l1_0 l1_1 l2_0 l2_1 l3 from by rw [← HE.out];rfl)
 clear HE
 go_wp2
 go_ret
 exact ⟨by rw [HX.out];rfl,HB.out⟩


end Go.Proofs.Ytanbgnjfllpkgaa.Hand
