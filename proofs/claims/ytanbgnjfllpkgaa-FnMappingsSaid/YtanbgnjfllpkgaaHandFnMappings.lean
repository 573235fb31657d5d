/- Walks through Go functions that FnMappings reaches, by hand: each call returns what is said beside it, within the bounds that the theorem names. -/
import Derived.Test.YtanbgnjfllpkgaaQFnMappingsx0
import Derived.Test.YtanbgnjfllpkgaaQFnMappingsx1
import Derived.Test.YtanbgnjfllpkgaaQFnMappingsx2
import Derived.Test.YtanbgnjfllpkgaaQFnMappingsx3
import Derived.Test.YtanbgnjfllpkgaaQFnMappingsx4
import Derived.Test.YtanbgnjfllpkgaaQFnMappingsx5
import Derived.Test.YtanbgnjfllpkgaaQFnMappingsx6
import Derived.Test.YtanbgnjfllpkgaaQFnMappingsx7
import Derived.Test.YtanbgnjfllpkgaaQFnMappingsx8
import Derived.Test.YtanbgnjfllpkgaaQFnMappingsx9
import Derived.Test.YtanbgnjfllpkgaaQFnMappingsx10
import Derived.Test.YtanbgnjfllpkgaaQFnMappingsx11
import Derived.Test.YtanbgnjfllpkgaaQFnMappingsx12
import Derived.Test.YtanbgnjfllpkgaaQFnMappingsx13
import Derived.Test.YtanbgnjfllpkgaaQFnMappingsx14
import Derived.Test.YtanbgnjfllpkgaaQFnMappingsx15
import Derived.Test.YtanbgnjfllpkgaaQFnMappingsx16
import Derived.Test.YtanbgnjfllpkgaaVFnMappingsMine
import Derived.Test.YtanbgnjfllpkgaaPureFnMappings
import Derived.Deep.CutBlock
import Derived.Test.YtanbgnjfllpkgaaHandPFnMappings
set_option linter.unusedVariables false
set_option linter.unusedSimpArgs false
namespace Go.Proofs.Ytanbgnjfllpkgaa.Hand
open Go.RowKit Go.Proofs.Ytanbgnjfllpkgaa.QFnMappings Go.Proofs.YtanbgnjfllpkgaaW.PrintWords Go.Proofs.YtanbgnjfllpkgaaW.PrintLast Go.Proofs.YtanbgnjfllpkgaaW.PrintMore Go.Proofs.Ytanbgnjfllpkgaa.Mine Go.Proofs.Ytanbgnjfllpkgaa.Open Go.Proofs.Ytanbgnjfllpkgaa.Pure
attribute [local go_sem] max2_int min2_int max_two min_two max_three min_three max_four min_four

-- drop: impl_send
set_option maxHeartbeats 8000000 in
set_option maxRecDepth 100000 in
theorem laws_FnMappings_walk_big (A0 : Option Addr) (c0 : Nat) (l0 : List Int) (w : World) (hr0 : Kd.C (Kd.int .u8) w A0 l0.length l0) (hc0 : l0.length ≤ c0)
  (e0 : laws_big.f l0 = some true) :
  Calls Try.prog 13 #[.slice A0 l0.length c0] w fun e w' => e = .returned (.bool true) ∧ Below w.heap.size w w' := by
 have H0:=zA hr0
 have HC0:=zA hc0
 clear hr0 hc0
 have Ee0:=zA e0;clear e0
 have HB:=zA (Below.refl w.heap.size w)
 go_enter Try.func13,Try.ntmps13
 go_wp2_with (first|(go_at_call 18;refine hold ?_))
 unfold Hold
 refine (laws_big.calls _ _ l0 true _ (zKb H0.out HB.out) HC0.out Ee0.out).mono ?_
 rintro e w1_ ⟨rfl,hd⟩
 have hb:=hd.below;clear hd
 have Z1_:=zA (show w.heap.size ≤ w1_.heap.size from hb.size)
 replace HB:=zA (zJb HB.out hb)
 clear hb
 go_wp2
 go_ret
 exact ⟨rfl,HB.out⟩
structure StV (w : World) (a b d : Nat) (u0 u1 u2 u3 u4 v0 v1 v2 v3 v4 : Value) (l0 l1 : List Int) (l2 : List S97) (l3 : List Int) (l4 : List S97) (n1 n2 : Nat) (W : World) : Prop where
 B : Below w.heap.size w W
 ba : W.heap[a]? = some (.cells #[u0] 65 (0,0))
 bb : W.heap[b]? = some (.cells #[u1,u2] 46 (0,0))
 bd : W.heap[d]? = some (.cells #[u3,u4] 46 (0,0))
 n : w.heap.size ≤ n1 ∧ w.heap.size ≤ n2 ∧ n2 ≤ a ∧ a < b ∧ b < d ∧ d < W.heap.size
 r0 : Kd.G (Kd.int .i64) 3 W 0 (fun k => n1 ≤ k ∧ k < n2) v0 l0
 r1 : Kd.G (Kd.int .i64) 3 W 0 (fun k => n1 ≤ k ∧ k < n2) v1 l1
 r2 : Kd.G k97 97 W 0 (fun k => n1 ≤ k ∧ k < n2) v2 l2
 r3 : Kd.G (Kd.int .i64) 3 W 0 (fun k => n1 ≤ k ∧ k < n2) v3 l3
 r4 : Kd.G k97 97 W 0 (fun k => n1 ≤ k ∧ k < n2) v4 l4
theorem StV.below {w W Wa : World} {a b d n1 n2 : Nat} {u0 u1 u2 u3 u4 v0 v1 v2 v3 v4 : Value} {l0 l1 : List Int} {l2 : List S97} {l3 : List Int} {l4 : List S97} (st : StV w a b d u0 u1 u2 u3 u4 v0 v1 v2 v3 v4 l0 l1 l2 l3 l4 n1 n2 W) (hb : Below W.heap.size W Wa) : StV w a b d u0 u1 u2 u3 u4 v0 v1 v2 v3 v4 l0 l1 l2 l3 l4 n1 n2 Wa :=
 ⟨zJb st.B hb,zQ st.ba hb,zQ st.bb hb,zQ st.bd hb,by have:=st.n;have:=hb.size;omega,Kd.G_below st.r0 hb,Kd.G_below st.r1 hb,Kd.G_below st.r2 hb,Kd.G_below st.r3 hb,Kd.G_below st.r4 hb⟩
theorem StV.fill {w W Wa Wb Wd : World} {a b d n1 n2 : Nat} {v0 v1 v2 v3 v4 : Value} {l0 l1 : List Int} {l2 : List S97} {l3 : List Int} {l4 : List S97} (st : StV w a b d (.slice none 0 0) (.slice none 0 0) (.slice none 0 0) (.slice none 0 0) (.slice none 0 0)  v0 v1 v2 v3 v4 l0 l1 l2 l3 l4 n1 n2 W)
  (h1 : Wa = W.setCell ⟨a,0,none⟩ v0) (h2 : Wb = (Wa.setCell ⟨b,0,none⟩ v1).setCell ⟨b,1,none⟩ v2) (h3 : Wd = (Wb.setCell ⟨d,0,none⟩ v3).setCell ⟨d,1,none⟩ v4) :
  StV w a b d v0 v1 v2 v3 v4 v0 v1 v2 v3 v4 l0 l1 l2 l3 l4 n1 n2 Wd ∧ Wa.heap[b]? = W.heap[b]? ∧ Wb.heap[d]? = W.heap[d]? ∧ ∀ k,k ≠ a ∧ k ≠ b ∧ k ≠ d → Wd.heap[k]? = W.heap[k]?:=by
 subst h1
 subst h2
 subst h3
 have n:=st.n
 have nab : a ≠ b:=by omega
 have nad : a ≠ d:=by omega
 have nbd : b ≠ d:=by omega
 have E : w.heap.size ≤ a ∧ w.heap.size ≤ b ∧ w.heap.size ≤ d:=by omega
 have hm : ∀ k,k ≠ a ∧ k ≠ b ∧ k ≠ d → ((((W.setCell ⟨a,0,none⟩ v0).setCell ⟨b,0,none⟩ v1).setCell ⟨b,1,none⟩ v2).setCell ⟨d,0,none⟩ v3 |>.setCell ⟨d,1,none⟩ v4).heap[k]? = W.heap[k]?:=fun k hk =>
  (Below.heap_setCell _ ⟨d,1,none⟩ v4 k hk.2.2).trans ((Below.heap_setCell _ ⟨d,0,none⟩ v3 k hk.2.2).trans ((Below.heap_setCell _ ⟨b,1,none⟩ v2 k hk.2.1).trans ((Below.heap_setCell _ ⟨b,0,none⟩ v1 k hk.2.1).trans (Below.heap_setCell W ⟨a,0,none⟩ v0 k hk.1))))
 have hG : ∀ k,n1 ≤ k ∧ k < n2 → k < W.heap.size → _:=fun k hk _ => hm k (by omega)
 refine ⟨⟨zB (zB (zB (zB (zB st.B E.1) E.2.1) E.2.1) E.2.2) E.2.2,?_,?_,?_,by simpa [World.setCell] using n,Kd.G_step st.r0 hG,Kd.G_step st.r1 hG,Kd.G_step st.r2 hG,Kd.G_step st.r3 hG,Kd.G_step st.r4 hG⟩,?_,?_,hm⟩
 ·exact zUb (zUb (zUb (zUb (blk_put st.ba 0 v0 rfl) (p:=⟨b,0,none⟩) nab _) (p:=⟨b,1,none⟩) nab _) (p:=⟨d,0,none⟩) nad _) (p:=⟨d,1,none⟩) nad _
 ·exact zUb (zUb (blk_put (cs:=#[v1,.slice none 0 0]) (blk_put (zUb st.bb (p:=⟨a,0,none⟩) (Ne.symm nab) _) 0 v1 rfl) 1 v2 rfl) (p:=⟨d,0,none⟩) nbd _) (p:=⟨d,1,none⟩) nbd _
 ·exact blk_put (cs:=#[v3,.slice none 0 0]) (blk_put (zUb (zUb (zUb st.bd (p:=⟨a,0,none⟩) (Ne.symm nad) _) (p:=⟨b,0,none⟩) (Ne.symm nbd) _) (p:=⟨b,1,none⟩) (Ne.symm nbd) _) 0 v3 rfl) 1 v4 rfl
 ·exact Below.heap_setCell W ⟨a,0,none⟩ v0 b (Ne.symm nab)
 ·exact (Below.heap_setCell _ ⟨b,1,none⟩ v2 d (Ne.symm nbd)).trans ((Below.heap_setCell _ ⟨b,0,none⟩ v1 d (Ne.symm nbd)).trans (Below.heap_setCell W ⟨a,0,none⟩ v0 d (Ne.symm nad)))
set_option maxHeartbeats 8000000 in
set_option maxRecDepth 100000 in
theorem FnMappings_calls (A0 : Option Addr) (c0 : Nat) (l0 : List Int) (w : World) (hr0 : Kd.C (Kd.int .u8) w A0 l0.length l0) (hc0 : l0.length ≤ c0) (_w0 : (WfL WfB) l0) :
  Calls Try.prog 13 #[.slice A0 l0.length c0] w fun e w' => e = .returned (.bool true) ∧ Below w.heap.size w w' := by
 by_cases hb : (l0.length : Int) > 1048576
 ·exact laws_FnMappings_walk_big _ _ l0 w hr0 hc0 (by unfold laws_big.f;rw [decide_eq_true hb])
 have hl : l0.length ≤ 1048576:=by omega
 obtain ⟨s,l,d,l2,d2,ed,hs,⟨q1,q2,q3⟩,p1,p2,p3⟩:=drawFind_ok l0 hl
 obtain ⟨t,m,e,m2,e2,n,ei,ht,⟨u1,u2,u3⟩,⟨v1,v2,v3⟩,hn⟩:=drawIs_ok l0 hl
 obtain ⟨ma,ta,ea,ha⟩:=drawApply_ok l0 hl
 obtain ⟨mc,nc,ec,h1,h2⟩:=drawCompose_ok l0 hl
 obtain ⟨mf,ef,hf⟩:=drawFormat_ok l0 hl
 have h20:=mFindQ_20 (s:=s) (h:=l) (d:=d) (h2:=l2) (d2:=d2)
 have hz:=mFindQ_none (s:=s) (h:=l) (d:=d) (h2:=l2) (d2:=d2)
 obtain ⟨P,hP⟩ : ∃ P,mFindQ s l d l2 d2 = P:=⟨_,rfl⟩
 rw [hP] at h20 hz
 obtain ⟨x,bI⟩:=P
 simp only [] at h20 hz
 have hx : x.length ≤ 1048576:=by
  cases bI
  ·rw [hz rfl];simp
  ·have:=h20 rfl;omega
 have hr : ∃ r xr,bI = true → mFindQ s l2 d2 l2 d2 = (r,true) ∧ mIsMap s l d l2 d2 x = true ∧ mIsMap s l d l2 d2 xr = true ∧ (∃ k,impl_ComposeMappings.f k x r = some xr) ∧ xr.length ≤ 1048576:=by
  cases bI
  ·exact ⟨[],[],fun h => by cases h⟩
  ·obtain ⟨r,h1,h2,h3⟩:=maps_law hP
   have h4:=mFindQ_20 (s:=s) (h:=l2) (d:=d2) (h2:=l2) (d2:=d2)
   rw [h1] at h4
   have h5 : r.length = 20:=h4 rfl
   exact ⟨r,x.map (mComp r),fun _ => ⟨h1,h2,h3,(implComp_ev x r (by omega) (by omega)).rounds,by rw [List.length_map];exact hx⟩⟩
 obtain ⟨r,xr,hr⟩:=hr
 have same : ∀ a : List Int,a.length ≤ 1048576 → ∃ k,laws_sameInts.f k a a = some true:=fun a h => by
  have e:=sameInts_ev a a h
  rw [decide_eq_true rfl] at e
  exact e.rounds
 obtain ⟨cc,hc⟩ : ∃ cc,mc.map (mComp nc) = cc:=⟨_,rfl⟩
 have hcl : cc.length ≤ 1048576:=by rw [← hc,List.length_map];omega
 obtain ⟨tx,hx2⟩ : ∃ tx,mMapEnd [] (mPieces 0 mf) = tx:=⟨_,rfl⟩
 obtain ⟨im,f9⟩ : ∃ im,mIsMap t m e m2 e2 n = im:=⟨_,rfl⟩
 obtain ⟨ap,hap⟩ : ∃ ap,mApply ma ta = ap:=⟨_,rfl⟩
 have f11:=implApply_eq ma ta (by omega)
 have f12:=specApply_eq ma ta (by omega)
 have f13:=implComp_ev mc nc (by omega) (by omega)
 have f14:=specComp_ev mc nc (by omega) (by omega)
 have f16:=implMap_l0 mf (by omega)
 have f17:=specMap_l0 mf (by omega)
 have f10:=specIsMapping_ev t m e m2 e2 n ht (by omega) u1 u2 u3 v1 v2 v3
 rw [hap] at f11 f12
 rw [hc] at f13 f14
 rw [hx2] at f16 f17
 rw [f9] at f10
 have F0:=zA (show laws_big.f l0 = some false from by unfold laws_big.f;rw [decide_eq_false hb])
 have F2:=zA hP
 have F3:=zA hr
 have F9:=zA f9
 have F11:=zA f11
 have F12:=zA f12
 obtain ⟨k1,h_⟩:=ed.rounds
 have F1:=zA h_
 clear h_
 obtain ⟨k4,h_⟩:=same x hx
 have F4:=zA h_
 clear h_
 obtain ⟨k5,h_⟩:=ei.rounds
 have F5:=zA h_
 clear h_
 obtain ⟨k6,h_⟩:=ea.rounds
 have F6:=zA h_
 clear h_
 obtain ⟨k7,h_⟩:=ec.rounds
 have F7:=zA h_
 clear h_
 obtain ⟨k8,h_⟩:=ef.rounds
 have F8:=zA h_
 clear h_
 obtain ⟨k10,h_⟩:=f10.rounds
 have F10:=zA h_
 clear h_
 obtain ⟨k13,h_⟩:=f13.rounds
 have F13:=zA h_
 clear h_
 obtain ⟨k14,h_⟩:=f14.rounds
 have F14:=zA h_
 clear h_
 obtain ⟨k15,h_⟩:=same cc hcl
 have F15:=zA h_
 clear h_
 obtain ⟨k16,h_⟩:=f16.rounds
 have F16:=zA h_
 clear h_
 obtain ⟨k17,h_⟩:=f17.rounds
 have F17:=zA h_
 clear h_
 have Z1:=zA (show (s.length ≤ 1048576 ∧ l.length ≤ 1048576 ∧ d.length ≤ 1048576 ∧ l2.length ≤ 1048576 ∧ d2.length ≤ 1048576) ∧ (∀ x ∈ d,x.f1.length ≤ 1048576) ∧ ∀ x ∈ d2,x.f1.length ≤ 1048576 from ⟨⟨hs,q1,q2,p1,p2⟩,q3,p3⟩)
 have Z2:=zA (show ∀ y : List Int,y.length ≤ 1048576 → (s.length ≤ 1048576 ∧ l.length ≤ 1048576 ∧ d.length ≤ 1048576 ∧ l2.length ≤ 1048576 ∧ d2.length ≤ 1048576 ∧ y.length ≤ 1048576) ∧ (∀ x ∈ d,x.f1.length ≤ 1048576) ∧ ∀ x ∈ d2,x.f1.length ≤ 1048576 from fun _ h => ⟨⟨hs,q1,q2,p1,p2,h⟩,q3,p3⟩)
 have Z3:=zA (show (s.length ≤ 1048576 ∧ l2.length ≤ 1048576 ∧ d2.length ≤ 1048576 ∧ l2.length ≤ 1048576 ∧ d2.length ≤ 1048576) ∧ (∀ x ∈ d2,x.f1.length ≤ 1048576) ∧ ∀ x ∈ d2,x.f1.length ≤ 1048576 from ⟨⟨hs,p1,p2,p1,p2⟩,p3,p3⟩)
 have Z5:=zA (show (t.length ≤ 1048576 ∧ m.length ≤ 1048576 ∧ e.length ≤ 1048576 ∧ m2.length ≤ 1048576 ∧ e2.length ≤ 1048576) ∧ (∀ x ∈ e,x.f1.length ≤ 1048576) ∧ ∀ x ∈ e2,x.f1.length ≤ 1048576 from ⟨⟨ht,u1,u2,v1,v2⟩,u3,v3⟩)
 have Z6:=zA (show (t.length ≤ 1048576 ∧ m.length ≤ 1048576 ∧ e.length ≤ 1048576 ∧ m2.length ≤ 1048576 ∧ e2.length ≤ 1048576 ∧ n.length ≤ 1048576) ∧ (∀ x ∈ e,x.f1.length ≤ 1048576) ∧ ∀ x ∈ e2,x.f1.length ≤ 1048576 from ⟨⟨ht,u1,u2,v1,v2,by omega⟩,u3,v3⟩)
 have HX:=zA hx
 have H0:=zA hr0
 have HC0:=zA hc0
 have HB:=zA (Below.refl w.heap.size w)
 have hu65:=Try.underlying65
 have hu46:=Try.underlying46
 clear hb hl ed hs q1 q2 q3 p1 p2 p3 ei ht u1 u2 u3 v1 v2 v3 hn ea ha ec h1 h2 ef hf h20 hz hP hx hr same hc hcl hx2 f9 hap f11 f12 f13 f14 f16 f17 f10 hr0 hc0
 go_enter Try.func13,Try.ntmps13
 go_wp2_with (first|(go_at_call 18;refine hold ?_))
 unfold Hold
 refine (laws_big.calls _ _ l0 false _ (zKb H0.out HB.out) HC0.out F0.out).mono ?_
 rintro e_ w1 ⟨rfl,hd⟩
 replace HB:=zA (zJb HB.out hd.below)
 clear hd
 go_wp2_with (first|(go_at_call 60;refine hold ?_))
 unfold Hold
 have S1:=zA HB.out.size
 refine (spec_DrawFindMapping_calls k1 _ _ l0 s l d l2 d2 _ (zKb H0.out HB.out) HC0.out F1.out).mono ?_
 rintro e_ x0 ⟨v0,v1,v2,v3,v4,rfl,o0,o1,o2,o3,o4,hb⟩
 replace S1:=zA (show w.heap.size ≤ w1.heap.size ∧ w1.heap.size ≤ x0.heap.size from ⟨S1.out,hb.size⟩)
 have R0:=zA (Kd.G_bound o0)
 obtain ⟨A1_,c1_,rfl⟩:=Kd.G_slice o0
 have R1:=zA (Kd.G_bound o1)
 obtain ⟨A2_,c2_,rfl⟩:=Kd.G_slice o1
 have R2:=zA (Kd.G_bound o2)
 obtain ⟨A3_,c3_,rfl⟩:=Kd.G_slice o2
 have R3:=zA (Kd.G_bound o3)
 obtain ⟨A4_,c4_,rfl⟩:=Kd.G_slice o3
 have R4:=zA (Kd.G_bound o4)
 obtain ⟨A5_,c5_,rfl⟩:=Kd.G_slice o4
 replace HB:=zA (zJb HB.out hb)
 clear hb o0 o1 o2 o3 o4
 go_wp2_with (first|((with_reducible refine gate_dst (N:=3) rfl ?_);refine hold ?_))
 unfold Hold
 refine zbx 3 #[.slice none 0 0] 65 ?_
 intro ga hg x1 hbox hb
 have Bga:=zA hbox
 have Ega:=zA (show x0.heap.size ≤ ga ∧ ga < x1.heap.size by rw [hg];exact ⟨Nat.le_refl _,by rw [← hg];exact blk_lt hbox⟩)
 replace R0:=zA (Kd.G_below R0.out hb)
 replace R1:=zA (Kd.G_below R1.out hb)
 replace R2:=zA (Kd.G_below R2.out hb)
 replace R3:=zA (Kd.G_below R3.out hb)
 replace R4:=zA (Kd.G_below R4.out hb)
 replace HB:=zA (zJb HB.out hb)
 clear hbox hb hg
 go_wp2_with (first|((with_reducible refine gate_dst (N:=4) rfl ?_);refine hold ?_))
 unfold Hold
 refine zbx 4 #[.slice none 0 0,.slice none 0 0] 46 ?_
 intro gb hg x2 hbox hb
 have Bgb:=zA hbox
 have Egb:=zA (show ga + 1 ≤ gb ∧ gb < x2.heap.size by rw [hg];exact ⟨blk_lt Bga.out,by rw [← hg];exact blk_lt hbox⟩)
 replace Bga:=zA (zQ Bga.out hb)
 replace R0:=zA (Kd.G_below R0.out hb)
 replace R1:=zA (Kd.G_below R1.out hb)
 replace R2:=zA (Kd.G_below R2.out hb)
 replace R3:=zA (Kd.G_below R3.out hb)
 replace R4:=zA (Kd.G_below R4.out hb)
 replace HB:=zA (zJb HB.out hb)
 clear hbox hb hg
 go_wp2_with (first|((with_reducible refine gate_dst (N:=5) rfl ?_);refine hold ?_))
 unfold Hold
 refine zbx 5 #[.slice none 0 0,.slice none 0 0] 46 ?_
 intro gd hg x3 hbox hb
 have Bgd:=zA hbox
 have Egd:=zA (show gb + 1 ≤ gd ∧ gd < x3.heap.size by rw [hg];exact ⟨blk_lt Bgb.out,by rw [← hg];exact blk_lt hbox⟩)
 replace Bga:=zA (zQ Bga.out hb)
 replace Bgb:=zA (zQ Bgb.out hb)
 replace R0:=zA (Kd.G_below R0.out hb)
 replace R1:=zA (Kd.G_below R1.out hb)
 replace R2:=zA (Kd.G_below R2.out hb)
 replace R3:=zA (Kd.G_below R3.out hb)
 replace R4:=zA (Kd.G_below R4.out hb)
 replace HB:=zA (zJb HB.out hb)
 clear hbox hb hg
 have SV:=zA (show StV w ga gb gd (.slice none 0 0) (.slice none 0 0) (.slice none 0 0) (.slice none 0 0) (.slice none 0 0) (.slice A1_ s.length c1_) (.slice A2_ l.length c2_) (.slice A3_ d.length c3_) (.slice A4_ l2.length c4_) (.slice A5_ d2.length c5_) s l d l2 d2 _ _ x3 from ⟨HB.out,Bga.out,Bgb.out,Bgd.out,by have:=S1.out;have:=Ega.out;have:=Egb.out;have:=Egd.out;omega,R0.out,R1.out,R2.out,R3.out,R4.out⟩)
 obtain ⟨wa,ha⟩ : ∃ wa,wa = x3.setCell ⟨ga,0,none⟩ (.slice A1_ s.length c1_):=⟨_,rfl⟩
 obtain ⟨wb,hb⟩ : ∃ wb,wb = (wa.setCell ⟨gb,0,none⟩ (.slice A2_ l.length c2_)).setCell ⟨gb,1,none⟩ (.slice A3_ d.length c3_):=⟨_,rfl⟩
 obtain ⟨wd,hd⟩ : ∃ wd,wd = (wb.setCell ⟨gd,0,none⟩ (.slice A4_ l2.length c4_)).setCell ⟨gd,1,none⟩ (.slice A5_ d2.length c5_):=⟨_,rfl⟩
 have NA:=zA (SV.out.fill ha hb hd)
 have HA_:=zA ha
 have HB_:=zA hb
 have HD_:=zA hd
 clear ha hb hd HB R0 R1 R2 R3 R4 Bga Bgb Bgd Ega Egb Egd S1
 have hy0 : x3.cell? ⟨ga,0,none⟩ = some (.slice none 0 0):=(zP SV.out.ba 0).trans rfl
 have hf0:=blk_frozen SV.out.ba 0
 go_wp2_with (first|((with_reducible refine gate_store (t:=65) (p:=3) rfl ?_);refine hold ?_))
 unfold Hold
 refine store_event (t:=65) (p:=3) (v:=?vp0) (w1:=wa) ?hgp0 ?hop0 ?hnp0 ?hrp0 ?_
 case hop0 => rfl
 case hgp0 => rfl
 case hnp0 => rfl
 case hrp0 => rw [HA_.out];first|(go_simp;done)|(go_simp;rfl)
 intro w_ h_
 subst w_
 clear hy0 hf0
 have hy0 : wa.cell? ⟨gb,0,none⟩ = some (.slice none 0 0):=(zP (NA.out.2.1.trans SV.out.bb) 0).trans rfl
 have hf0:=blk_frozen (NA.out.2.1.trans SV.out.bb) 0
 have hy1 : wa.cell? ⟨gb,1,none⟩ = some (.slice none 0 0):=(zP (NA.out.2.1.trans SV.out.bb) 1).trans rfl
 have hf1:=blk_frozen (NA.out.2.1.trans SV.out.bb) 1
 go_wp2_with (first|((with_reducible refine gate_store (t:=46) (p:=4) rfl ?_);refine hold ?_))
 unfold Hold
 refine store_event (t:=46) (p:=4) (v:=?vp1) (w1:=wb) ?hgp1 ?hop1 ?hnp1 ?hrp1 ?_
 case hop1 => rfl
 case hgp1 => rfl
 case hnp1 => rfl
 case hrp1 => rw [HB_.out];first|(go_simp;done)|(go_simp;rfl)
 intro w_ h_
 subst w_
 clear hy0 hf0 hy1 hf1
 have hy0 : wb.cell? ⟨gd,0,none⟩ = some (.slice none 0 0):=(zP (NA.out.2.2.1.trans SV.out.bd) 0).trans rfl
 have hf0:=blk_frozen (NA.out.2.2.1.trans SV.out.bd) 0
 have hy1 : wb.cell? ⟨gd,1,none⟩ = some (.slice none 0 0):=(zP (NA.out.2.2.1.trans SV.out.bd) 1).trans rfl
 have hf1:=blk_frozen (NA.out.2.2.1.trans SV.out.bd) 1
 go_wp2_with (first|((with_reducible refine gate_store (t:=46) (p:=5) rfl ?_);refine hold ?_))
 unfold Hold
 refine store_event (t:=46) (p:=5) (v:=?vp2) (w1:=wd) ?hgp2 ?hop2 ?hnp2 ?hrp2 ?_
 case hop2 => rfl
 case hgp2 => rfl
 case hnp2 => rfl
 case hrp2 => rw [HD_.out];first|(go_simp;done)|(go_simp;rfl)
 intro w_ h_
 subst w_
 clear hy0 hf0 hy1 hf1
 replace SV:=zA NA.out.1
 clear NA HA_ HB_ HD_
 have hx0 : wd.cell? ⟨ga,0,none⟩ = some (.slice A1_ s.length c1_):=(zP SV.out.ba 0).trans rfl
 have hx1 : wd.cell? ⟨gb,0,none⟩ = some (.slice A2_ l.length c2_):=(zP SV.out.bb 0).trans rfl
 have hx2 : wd.cell? ⟨gb,1,none⟩ = some (.slice A3_ d.length c3_):=(zP SV.out.bb 1).trans rfl
 have hx3 : wd.cell? ⟨gd,0,none⟩ = some (.slice A4_ l2.length c4_):=(zP SV.out.bd 0).trans rfl
 have hx4 : wd.cell? ⟨gd,1,none⟩ = some (.slice A5_ d2.length c5_):=(zP SV.out.bd 1).trans rfl
 go_wp2_with (first|(go_at_call 57;refine hold ?_))
 unfold Hold
 refine (impl_FindMapping_calls A1_ c1_ s A2_ c2_ l A3_ c3_ d A4_ c4_ l2 A5_ c5_ d2 x bI _ (Kd.G_reads' SV.out.r0).2.2 (Kd.G_reads' SV.out.r0).2.1 (Kd.G_reads' SV.out.r1).2.2 (Kd.G_reads' SV.out.r1).2.1 (Kd.G_reads' SV.out.r2).2.2 (Kd.G_reads' SV.out.r2).2.1 (Kd.G_reads' SV.out.r3).2.2 (Kd.G_reads' SV.out.r3).2.1 (Kd.G_reads' SV.out.r4).2.2 (Kd.G_reads' SV.out.r4).2.1 Z1.out F2.out).mono ?_
 rintro e_ y1 ⟨vm,rfl,ho,hb⟩
 have RM:=zA (show Kd.R (Kd.int .i64) 3 y1 0 (fun _ => True) vm x from zHb ho (Nat.zero_le _))
 obtain ⟨ARM,dRM,rfl⟩:=Kd.R_slice ho
 replace SV:=zA (SV.out.below hb)
 clear hx0 hx1 hx2 hx3 hx4 ho hb
 have hx0 : y1.cell? ⟨ga,0,none⟩ = some (.slice A1_ s.length c1_):=(zP SV.out.ba 0).trans rfl
 have hx1 : y1.cell? ⟨gb,0,none⟩ = some (.slice A2_ l.length c2_):=(zP SV.out.bb 0).trans rfl
 have hx2 : y1.cell? ⟨gb,1,none⟩ = some (.slice A3_ d.length c3_):=(zP SV.out.bb 1).trans rfl
 have hx3 : y1.cell? ⟨gd,0,none⟩ = some (.slice A4_ l2.length c4_):=(zP SV.out.bd 0).trans rfl
 have hx4 : y1.cell? ⟨gd,1,none⟩ = some (.slice A5_ d2.length c5_):=(zP SV.out.bd 1).trans rfl
 go_wp2_with (first|(go_at_call 56;refine hold ?_))
 unfold Hold
 refine (spec_FindMapping_calls A1_ c1_ s A2_ c2_ l A3_ c3_ d A4_ c4_ l2 A5_ c5_ d2 x bI _ (Kd.G_reads' SV.out.r0).2.2 (Kd.G_reads' SV.out.r0).2.1 (Kd.G_reads' SV.out.r1).2.2 (Kd.G_reads' SV.out.r1).2.1 (Kd.G_reads' SV.out.r2).2.2 (Kd.G_reads' SV.out.r2).2.1 (Kd.G_reads' SV.out.r3).2.2 (Kd.G_reads' SV.out.r3).2.1 (Kd.G_reads' SV.out.r4).2.2 (Kd.G_reads' SV.out.r4).2.1 Z1.out F2.out).mono ?_
 rintro e_ y2 ⟨vm,rfl,ho,hb⟩
 have RN:=zA (show Kd.R (Kd.int .i64) 3 y2 0 (fun _ => True) vm x from zHb ho (Nat.zero_le _))
 obtain ⟨ARN,dRN,rfl⟩:=Kd.R_slice ho
 replace SV:=zA (SV.out.below hb)
 replace RM:=zA (zZ RM.out hb)
 clear hx0 hx1 hx2 hx3 hx4 ho hb
 go_wp2_with (first|(go_at_call 61;refine hold ?_))
 unfold Hold
 refine (laws_sameInts.calls k4 _ _ x _ _ x true _ (Kd.R_reads' RM.out).2.2 (Kd.R_reads' RM.out).2.1 (Kd.R_reads' RN.out).2.2 (Kd.R_reads' RN.out).2.1 F4.out).mono ?_
 rintro e_ y3 ⟨rfl,hd⟩
 replace RM:=zA (zZ RM.out hd.below)
 replace SV:=zA (SV.out.below hd.below)
 clear hd RN
 go_upto_if 52 with fail
 try simp only [Act.put,zO,zEb,zFb]
 go_cut [] (fun wc => Aside0 (Below w.heap.size w wc))
 case first =>
  cases bI
  ·
   go_wp2
   go_meet
   case rel => exact ⟨SV.out.B⟩
  ·
   have F3':=zA (F3.out rfl)
   have hx0 : y3.cell? ⟨ga,0,none⟩ = some (.slice A1_ s.length c1_):=(zP SV.out.ba 0).trans rfl
   have hx1 : y3.cell? ⟨gb,0,none⟩ = some (.slice A2_ l.length c2_):=(zP SV.out.bb 0).trans rfl
   have hx2 : y3.cell? ⟨gb,1,none⟩ = some (.slice A3_ d.length c3_):=(zP SV.out.bb 1).trans rfl
   have hx3 : y3.cell? ⟨gd,0,none⟩ = some (.slice A4_ l2.length c4_):=(zP SV.out.bd 0).trans rfl
   have hx4 : y3.cell? ⟨gd,1,none⟩ = some (.slice A5_ d2.length c5_):=(zP SV.out.bd 1).trans rfl
   go_wp2_with (first|(go_at_call 57;refine hold ?_))
   unfold Hold
   refine (impl_FindMapping_calls A1_ c1_ s A4_ c4_ l2 A5_ c5_ d2 A4_ c4_ l2 A5_ c5_ d2 r true _ (Kd.G_reads' SV.out.r0).2.2 (Kd.G_reads' SV.out.r0).2.1 (Kd.G_reads' SV.out.r3).2.2 (Kd.G_reads' SV.out.r3).2.1 (Kd.G_reads' SV.out.r4).2.2 (Kd.G_reads' SV.out.r4).2.1 (Kd.G_reads' SV.out.r3).2.2 (Kd.G_reads' SV.out.r3).2.1 (Kd.G_reads' SV.out.r4).2.2 (Kd.G_reads' SV.out.r4).2.1 Z3.out F3'.out.1).mono ?_
   rintro e_ y4 ⟨vm,rfl,ho,hb⟩
   have RS:=zA (show Kd.R (Kd.int .i64) 3 y4 0 (fun _ => True) vm r from zHb ho (Nat.zero_le _))
   obtain ⟨ARS,dRS,rfl⟩:=Kd.R_slice ho
   replace SV:=zA (SV.out.below hb)
   replace RM:=zA (zZ RM.out hb)
   clear hx0 hx1 hx2 hx3 hx4 ho hb
   try go_wp2
   have n_:=zA (SV.out.below (below_drew (w:=y4) (Below.refl _ _)))
   clear SV
   have SV:=n_
   clear n_
   have n_:=zA (zH RM.out)
   clear RM
   have RM:=n_
   clear n_
   have n_:=zA (zH RS.out)
   clear RS
   have RS:=n_
   clear n_
   refine start_ (n:=20) (S:=fun w' => w'.cell? ⟨ga,0,none⟩ = some (.slice A1_ s.length c1_) ∧ w'.cell? ⟨gb,0,none⟩ = some (.slice A2_ l.length c2_) ∧ w'.cell? ⟨gb,1,none⟩ = some (.slice A3_ d.length c3_) ∧ w'.cell? ⟨gd,0,none⟩ = some (.slice A4_ l2.length c4_) ∧ w'.cell? ⟨gd,1,none⟩ = some (.slice A5_ d2.length c5_)) (ds:=[]) #[yf,yf,yf,yf,yf,yf,yf,yf,yf,yf,yf,yf,yf,yf,yf,yf,yf,yf,yf,yf] (by kernel_rfl) rfl rfl ⟨(zP SV.out.ba 0).trans rfl,(zP SV.out.bb 0).trans rfl,(zP SV.out.bb 1).trans rfl,(zP SV.out.bd 0).trans rfl,(zP SV.out.bd 1).trans rfl⟩ (fun hHeld => ?_)
   generalize y4.drew = wt at SV RM RS hHeld ⊢
   refine zu 0 60 ?_;refine zu 1 61 ?_;refine zu 2 62 ?_;refine zw 3 63 hHeld ?_;refine zw 4 64 hHeld ?_;refine zw 5 65 hHeld ?_;refine zu 6 66 ?_
   refine one_ (i:=7) (N:=some 67) #[yt,yt,yt,yt,yt,yt,yt,yt,yf,yf,yf,yf,yf,yf,yf,yf,yf,yf,yf,yf] rfl rfl (by kernel_rfl) (by decide) (fun K hK => ?_)
   refine goes_ Try.func50 (by kernel_rfl) rfl #[.agg #[.slice A1_ s.length c1_],.agg #[.slice A2_ l.length c2_,.slice A3_ d.length c3_],.agg #[.slice A4_ l2.length c4_,.slice A5_ d2.length c5_],.slice ARM x.length dRM] (by rfl) rfl rfl (by (try simp only [zCb,zMb,zNb]);first|done|rfl) ?_
   with_reducible refine (impl_IsMapping_calls A1_ c1_ s A2_ c2_ l A3_ c3_ d A4_ c4_ l2 A5_ c5_ d2 _ _ x true _ (Kd.G_reads' SV.out.r0).2.2 (Kd.G_reads' SV.out.r0).2.1 (Kd.G_reads' SV.out.r1).2.2 (Kd.G_reads' SV.out.r1).2.1 (Kd.G_reads' SV.out.r2).2.2 (Kd.G_reads' SV.out.r2).2.1 (Kd.G_reads' SV.out.r3).2.2 (Kd.G_reads' SV.out.r3).2.1 (Kd.G_reads' SV.out.r4).2.2 (Kd.G_reads' SV.out.r4).2.1 (Kd.R_reads' RM.out).2.2 (Kd.R_reads' RM.out).2.1 (Z2.out x HX.out) F3'.out.2.1).mono ?_
   rintro e_ wn ⟨rfl,hb⟩
   refine ⟨_,rfl,?_⟩
   replace SV:=zA (SV.out.below hb)
   replace RM:=zA (zZ RM.out hb)
   replace RS:=zA (zZ RS.out hb)
   clear hb
   refine hK.out _ _ ⟨(zP SV.out.ba 0).trans rfl,(zP SV.out.bb 0).trans rfl,(zP SV.out.bb 1).trans rfl,(zP SV.out.bd 0).trans rfl,(zP SV.out.bd 1).trans rfl⟩ (fun hHeld => ?_)
   clear hK K
   refine norm_ (a':=?_) ?_ ?_
   rotate_left
   ·show Act.put _ (some 67) _ = _;simp only [Act.put,zO,zEb,zFb,i64_w,i32_w];rfl
   refine zu 8 68 ?_;refine zu 9 69 ?_;refine zu 10 70 ?_;refine zw 11 71 hHeld ?_;refine zw 12 72 hHeld ?_;refine zw 13 73 hHeld ?_;refine zu 14 74 ?_;refine zu 15 75 ?_
   obtain ⟨k20,h_⟩:=F3'.out.2.2.2.1
   have F20:=zA h_
   clear h_
   refine one_ (i:=16) (N:=some 76) #[yt,yt,yt,yt,yt,yt,yt,yt,yt,yt,yt,yt,yt,yt,yt,yt,yt,yf,yf,yf] rfl rfl (by kernel_rfl) (by decide) (fun K hK => ?_)
   refine goes_ Try.func62 (by kernel_rfl) rfl #[.slice ARM x.length dRM,.slice ARS r.length dRS] (by rfl) rfl rfl (by (try simp only [zCb,zMb,zNb]);first|done|rfl) ?_
   with_reducible refine (impl_ComposeMappings.calls k20 _ _ x _ _ r xr _ (Kd.R_reads' RM.out).2.2 (Kd.R_reads' RM.out).2.1 (Kd.R_reads' RS.out).2.2 (Kd.R_reads' RS.out).2.1 F20.out).mono ?_
   rintro e_ wn ⟨vm,rfl,ho,hb⟩
   refine ⟨_,rfl,?_⟩
   replace SV:=zA (SV.out.below hb)
   have RC:=zA (show Kd.R (Kd.int .i64) 3 wn 0 (fun _ => True) vm xr from zHb ho (Nat.zero_le _))
   obtain ⟨ARC,dRC,rfl⟩:=Kd.R_slice ho
   clear ho RM RS
   clear hb
   refine hK.out _ _ ⟨(zP SV.out.ba 0).trans rfl,(zP SV.out.bb 0).trans rfl,(zP SV.out.bb 1).trans rfl,(zP SV.out.bd 0).trans rfl,(zP SV.out.bd 1).trans rfl⟩ (fun hHeld => ?_)
   clear hK K
   refine norm_ (a':=?_) ?_ ?_
   rotate_left
   ·show Act.put _ (some 76) _ = _;simp only [Act.put,zO,zEb,zFb,i64_w,i32_w];rfl
   refine one_ (i:=17) (N:=some 77) #[yt,yt,yt,yt,yt,yt,yt,yt,yt,yt,yt,yt,yt,yt,yt,yt,yt,yt,yf,yf] rfl rfl (by kernel_rfl) (by decide) (fun K hK => ?_)
   refine goes_ Try.func50 (by kernel_rfl) rfl #[.agg #[.slice A1_ s.length c1_],.agg #[.slice A2_ l.length c2_,.slice A3_ d.length c3_],.agg #[.slice A4_ l2.length c4_,.slice A5_ d2.length c5_],.slice ARC xr.length dRC] (by rfl) rfl rfl (by (try simp only [zCb,zMb,zNb]);first|done|rfl) ?_
   with_reducible refine (impl_IsMapping_calls A1_ c1_ s A2_ c2_ l A3_ c3_ d A4_ c4_ l2 A5_ c5_ d2 _ _ xr true _ (Kd.G_reads' SV.out.r0).2.2 (Kd.G_reads' SV.out.r0).2.1 (Kd.G_reads' SV.out.r1).2.2 (Kd.G_reads' SV.out.r1).2.1 (Kd.G_reads' SV.out.r2).2.2 (Kd.G_reads' SV.out.r2).2.1 (Kd.G_reads' SV.out.r3).2.2 (Kd.G_reads' SV.out.r3).2.1 (Kd.G_reads' SV.out.r4).2.2 (Kd.G_reads' SV.out.r4).2.1 (Kd.R_reads' RC.out).2.2 (Kd.R_reads' RC.out).2.1 (Z2.out xr F3'.out.2.2.2.2) F3'.out.2.2.1).mono ?_
   rintro e_ wn ⟨rfl,hb⟩
   refine ⟨_,rfl,?_⟩
   replace SV:=zA (SV.out.below hb)
   clear hb
   refine hK.out _ _ ⟨(zP SV.out.ba 0).trans rfl,(zP SV.out.bb 0).trans rfl,(zP SV.out.bb 1).trans rfl,(zP SV.out.bd 0).trans rfl,(zP SV.out.bd 1).trans rfl⟩ (fun hHeld => ?_)
   clear hK K
   refine norm_ (a':=?_) ?_ ?_
   rotate_left
   ·show Act.put _ (some 77) _ = _;simp only [Act.put,zO,zEb,zFb,i64_w,i32_w];rfl
   refine zu 18 78 ?_;refine zu 19 79 ?_
   refine done_ (by kernel_rfl) ?_
   clear hHeld RC F20
   go_wp2
   go_meet
   case rel => exact ⟨SV.out.B⟩
 case rest =>
  clear SV RM F3 F2 F4 Z1 Z2 Z3
  have HB:=hcut
  go_wp2_with (first|(go_at_call 63;refine hold ?_))
  unfold Hold
  have S1:=zA HB.out.size
  refine (spec_DrawIsMapping_calls k5 _ _ l0 t m e m2 e2 n _ (zKb H0.out HB.out) HC0.out Z5.out F5.out).mono ?_
  rintro e_ x0 ⟨v0,v1,v2,v3,v4,v5,rfl,o0,o1,o2,o3,o4,o5,hb⟩
  replace S1:=zA (show w.heap.size ≤ wc.heap.size ∧ wc.heap.size ≤ x0.heap.size from ⟨S1.out,hb.size⟩)
  have R0:=zA (Kd.G_bound o0)
  obtain ⟨A1_,c1_,rfl⟩:=Kd.G_slice o0
  have R1:=zA (Kd.G_bound o1)
  obtain ⟨A2_,c2_,rfl⟩:=Kd.G_slice o1
  have R2:=zA (Kd.G_bound o2)
  obtain ⟨A3_,c3_,rfl⟩:=Kd.G_slice o2
  have R3:=zA (Kd.G_bound o3)
  obtain ⟨A4_,c4_,rfl⟩:=Kd.G_slice o3
  have R4:=zA (Kd.G_bound o4)
  obtain ⟨A5_,c5_,rfl⟩:=Kd.G_slice o4
  have KN:=zA (Kd.G_bound o5)
  obtain ⟨AK,dK,rfl⟩:=Kd.G_slice o5
  replace HB:=zA (zJb HB.out hb)
  clear hb o0 o1 o2 o3 o4 o5
  go_wp2_with (first|((with_reducible refine gate_dst (N:=12) rfl ?_);refine hold ?_))
  unfold Hold
  refine zbx 12 #[.slice none 0 0] 65 ?_
  intro ga hg x1 hbox hb
  have Bga:=zA hbox
  have Ega:=zA (show x0.heap.size ≤ ga ∧ ga < x1.heap.size by rw [hg];exact ⟨Nat.le_refl _,by rw [← hg];exact blk_lt hbox⟩)
  replace R0:=zA (Kd.G_below R0.out hb)
  replace R1:=zA (Kd.G_below R1.out hb)
  replace R2:=zA (Kd.G_below R2.out hb)
  replace R3:=zA (Kd.G_below R3.out hb)
  replace R4:=zA (Kd.G_below R4.out hb)
  replace KN:=zA (Kd.G_below KN.out hb)
  replace HB:=zA (zJb HB.out hb)
  clear hbox hb hg
  go_wp2_with (first|((with_reducible refine gate_dst (N:=13) rfl ?_);refine hold ?_))
  unfold Hold
  refine zbx 13 #[.slice none 0 0,.slice none 0 0] 46 ?_
  intro gb hg x2 hbox hb
  have Bgb:=zA hbox
  have Egb:=zA (show ga + 1 ≤ gb ∧ gb < x2.heap.size by rw [hg];exact ⟨blk_lt Bga.out,by rw [← hg];exact blk_lt hbox⟩)
  replace Bga:=zA (zQ Bga.out hb)
  replace R0:=zA (Kd.G_below R0.out hb)
  replace R1:=zA (Kd.G_below R1.out hb)
  replace R2:=zA (Kd.G_below R2.out hb)
  replace R3:=zA (Kd.G_below R3.out hb)
  replace R4:=zA (Kd.G_below R4.out hb)
  replace KN:=zA (Kd.G_below KN.out hb)
  replace HB:=zA (zJb HB.out hb)
  clear hbox hb hg
  go_wp2_with (first|((with_reducible refine gate_dst (N:=14) rfl ?_);refine hold ?_))
  unfold Hold
  refine zbx 14 #[.slice none 0 0,.slice none 0 0] 46 ?_
  intro gd hg x3 hbox hb
  have Bgd:=zA hbox
  have Egd:=zA (show gb + 1 ≤ gd ∧ gd < x3.heap.size by rw [hg];exact ⟨blk_lt Bgb.out,by rw [← hg];exact blk_lt hbox⟩)
  replace Bga:=zA (zQ Bga.out hb)
  replace Bgb:=zA (zQ Bgb.out hb)
  replace R0:=zA (Kd.G_below R0.out hb)
  replace R1:=zA (Kd.G_below R1.out hb)
  replace R2:=zA (Kd.G_below R2.out hb)
  replace R3:=zA (Kd.G_below R3.out hb)
  replace R4:=zA (Kd.G_below R4.out hb)
  replace KN:=zA (Kd.G_below KN.out hb)
  replace HB:=zA (zJb HB.out hb)
  clear hbox hb hg
  have SV:=zA (show StV w ga gb gd (.slice none 0 0) (.slice none 0 0) (.slice none 0 0) (.slice none 0 0) (.slice none 0 0) (.slice A1_ t.length c1_) (.slice A2_ m.length c2_) (.slice A3_ e.length c3_) (.slice A4_ m2.length c4_) (.slice A5_ e2.length c5_) t m e m2 e2 _ _ x3 from ⟨HB.out,Bga.out,Bgb.out,Bgd.out,by have:=S1.out;have:=Ega.out;have:=Egb.out;have:=Egd.out;omega,R0.out,R1.out,R2.out,R3.out,R4.out⟩)
  obtain ⟨wa,ha⟩ : ∃ wa,wa = x3.setCell ⟨ga,0,none⟩ (.slice A1_ t.length c1_):=⟨_,rfl⟩
  obtain ⟨wb,hb⟩ : ∃ wb,wb = (wa.setCell ⟨gb,0,none⟩ (.slice A2_ m.length c2_)).setCell ⟨gb,1,none⟩ (.slice A3_ e.length c3_):=⟨_,rfl⟩
  obtain ⟨wd,hd⟩ : ∃ wd,wd = (wb.setCell ⟨gd,0,none⟩ (.slice A4_ m2.length c4_)).setCell ⟨gd,1,none⟩ (.slice A5_ e2.length c5_):=⟨_,rfl⟩
  have NA:=zA (SV.out.fill ha hb hd)
  replace KN:=zA (Kd.G_step KN.out (fun k_ h_ _ => NA.out.2.2.2 k_ (by have:=Ega.out;have:=Egb.out;have:=Egd.out;omega)))
  have HA_:=zA ha
  have HB_:=zA hb
  have HD_:=zA hd
  clear ha hb hd HB R0 R1 R2 R3 R4 Bga Bgb Bgd Ega Egb Egd S1
  have hy0 : x3.cell? ⟨ga,0,none⟩ = some (.slice none 0 0):=(zP SV.out.ba 0).trans rfl
  have hf0:=blk_frozen SV.out.ba 0
  go_wp2_with (first|((with_reducible refine gate_store (t:=65) (p:=12) rfl ?_);refine hold ?_))
  unfold Hold
  refine store_event (t:=65) (p:=12) (v:=?vq0) (w1:=wa) ?hgq0 ?hoq0 ?hnq0 ?hrq0 ?_
  case hoq0 => rfl
  case hgq0 => rfl
  case hnq0 => rfl
  case hrq0 => rw [HA_.out];first|(go_simp;done)|(go_simp;rfl)
  intro w_ h_
  subst w_
  clear hy0 hf0
  have hy0 : wa.cell? ⟨gb,0,none⟩ = some (.slice none 0 0):=(zP (NA.out.2.1.trans SV.out.bb) 0).trans rfl
  have hf0:=blk_frozen (NA.out.2.1.trans SV.out.bb) 0
  have hy1 : wa.cell? ⟨gb,1,none⟩ = some (.slice none 0 0):=(zP (NA.out.2.1.trans SV.out.bb) 1).trans rfl
  have hf1:=blk_frozen (NA.out.2.1.trans SV.out.bb) 1
  go_wp2_with (first|((with_reducible refine gate_store (t:=46) (p:=13) rfl ?_);refine hold ?_))
  unfold Hold
  refine store_event (t:=46) (p:=13) (v:=?vq1) (w1:=wb) ?hgq1 ?hoq1 ?hnq1 ?hrq1 ?_
  case hoq1 => rfl
  case hgq1 => rfl
  case hnq1 => rfl
  case hrq1 => rw [HB_.out];first|(go_simp;done)|(go_simp;rfl)
  intro w_ h_
  subst w_
  clear hy0 hf0 hy1 hf1
  have hy0 : wb.cell? ⟨gd,0,none⟩ = some (.slice none 0 0):=(zP (NA.out.2.2.1.trans SV.out.bd) 0).trans rfl
  have hf0:=blk_frozen (NA.out.2.2.1.trans SV.out.bd) 0
  have hy1 : wb.cell? ⟨gd,1,none⟩ = some (.slice none 0 0):=(zP (NA.out.2.2.1.trans SV.out.bd) 1).trans rfl
  have hf1:=blk_frozen (NA.out.2.2.1.trans SV.out.bd) 1
  go_wp2_with (first|((with_reducible refine gate_store (t:=46) (p:=14) rfl ?_);refine hold ?_))
  unfold Hold
  refine store_event (t:=46) (p:=14) (v:=?vq2) (w1:=wd) ?hgq2 ?hoq2 ?hnq2 ?hrq2 ?_
  case hoq2 => rfl
  case hgq2 => rfl
  case hnq2 => rfl
  case hrq2 => rw [HD_.out];first|(go_simp;done)|(go_simp;rfl)
  intro w_ h_
  subst w_
  clear hy0 hf0 hy1 hf1
  replace SV:=zA NA.out.1
  clear NA HA_ HB_ HD_
  go_wp2_with (first|(go_at_call 64;refine hold ?_))
  unfold Hold
  refine (spec_DrawApplyMapping.calls k6 _ _ l0 ma ta _ (zKb H0.out SV.out.B) HC0.out F6.out).mono ?_
  rintro e_ y1 ⟨vRA,rfl,oRA,hb⟩
  have RA:=zA (show Kd.R (Kd.int .i64) 3 y1 0 (fun _ => True) vRA ma from zGb (zHb oRA (Nat.zero_le _)) (fun _ _ => trivial))
  obtain ⟨ARA,dRA,rfl⟩:=Kd.R_slice oRA
  replace SV:=zA (SV.out.below hb)
  replace KN:=zA (Kd.G_below KN.out hb)
  clear hb oRA
  go_wp2_with (first|(go_at_call 65;refine hold ?_))
  unfold Hold
  refine (spec_DrawComposeMappings.calls k7 _ _ l0 mc nc _ (zKb H0.out SV.out.B) HC0.out F7.out).mono ?_
  rintro e_ y2 ⟨vRB,vRC,rfl,oRB,oRC,hb⟩
  have RB:=zA (show Kd.R (Kd.int .i64) 3 y2 0 (fun _ => True) vRB mc from zGb (zHb oRB (Nat.zero_le _)) (fun _ _ => trivial))
  obtain ⟨ARB,dRB,rfl⟩:=Kd.R_slice oRB
  have RC:=zA (show Kd.R (Kd.int .i64) 3 y2 0 (fun _ => True) vRC nc from zGb (zHb oRC (Nat.zero_le _)) (fun _ _ => trivial))
  obtain ⟨ARC,dRC,rfl⟩:=Kd.R_slice oRC
  replace SV:=zA (SV.out.below hb)
  replace KN:=zA (Kd.G_below KN.out hb)
  replace RA:=zA (zZ RA.out hb)
  clear hb oRB oRC
  go_wp2_with (first|(go_at_call 66;refine hold ?_))
  unfold Hold
  refine (spec_DrawFormatMapping.calls k8 _ _ l0 mf _ (zKb H0.out SV.out.B) HC0.out F8.out).mono ?_
  rintro e_ y3 ⟨vRF,rfl,oRF,hb⟩
  have RF:=zA (show Kd.R (Kd.int .i64) 3 y3 0 (fun _ => True) vRF mf from zGb (zHb oRF (Nat.zero_le _)) (fun _ _ => trivial))
  obtain ⟨ARF,dRF,rfl⟩:=Kd.R_slice oRF
  replace SV:=zA (SV.out.below hb)
  replace KN:=zA (Kd.G_below KN.out hb)
  replace RA:=zA (zZ RA.out hb)
  replace RB:=zA (zZ RB.out hb)
  replace RC:=zA (zZ RC.out hb)
  clear hb oRF
  try go_wp2
  have n_:=zA (SV.out.below (below_drew (w:=y3) (Below.refl _ _)))
  clear SV
  have SV:=n_
  clear n_
  have n_:=zA (Kd.G_drew KN.out)
  clear KN
  have KN:=n_
  clear n_
  have n_:=zA (zH RA.out)
  clear RA
  have RA:=n_
  clear n_
  have n_:=zA (zH RB.out)
  clear RB
  have RB:=n_
  clear n_
  have n_:=zA (zH RC.out)
  clear RC
  have RC:=n_
  clear n_
  have n_:=zA (zH RF.out)
  clear RF
  have RF:=n_
  clear n_
  refine start_ (n:=37) (S:=fun w' => w'.cell? ⟨ga,0,none⟩ = some (.slice A1_ t.length c1_) ∧ w'.cell? ⟨gb,0,none⟩ = some (.slice A2_ m.length c2_) ∧ w'.cell? ⟨gb,1,none⟩ = some (.slice A3_ e.length c3_) ∧ w'.cell? ⟨gd,0,none⟩ = some (.slice A4_ m2.length c4_) ∧ w'.cell? ⟨gd,1,none⟩ = some (.slice A5_ e2.length c5_)) (ds:=[]) #[yf,yf,yf,yf,yf,yf,yf,yf,yf,yf,yf,yf,yf,yf,yf,yf,yf,yf,yf,yf,yf,yf,yf,yf,yf,yf,yf,yf,yf,yf,yf,yf,yf,yf,yf,yf,yf] (by kernel_rfl) rfl rfl ⟨(zP SV.out.ba 0).trans rfl,(zP SV.out.bb 0).trans rfl,(zP SV.out.bb 1).trans rfl,(zP SV.out.bd 0).trans rfl,(zP SV.out.bd 1).trans rfl⟩ (fun hHeld => ?_)
  generalize y3.drew = wt at SV KN RA RB RC RF hHeld ⊢
  refine zw 0 99 hHeld ?_;refine zw 1 100 hHeld ?_;refine zw 2 101 hHeld ?_;refine zu 3 102 ?_;refine zw 5 104 hHeld ?_;refine zw 6 105 hHeld ?_;refine zw 7 106 hHeld ?_;refine zu 8 107 ?_
  refine one_ (i:=4) (N:=some 103) #[yt,yt,yt,yt,yt,yt,yt,yt,yt,yf,yf,yf,yf,yf,yf,yf,yf,yf,yf,yf,yf,yf,yf,yf,yf,yf,yf,yf,yf,yf,yf,yf,yf,yf,yf,yf,yf] rfl rfl (by kernel_rfl) (by decide) (fun K hK => ?_)
  refine goes_ Try.func50 (by kernel_rfl) rfl #[.agg #[.slice A1_ t.length c1_],.agg #[.slice A2_ m.length c2_,.slice A3_ e.length c3_],.agg #[.slice A4_ m2.length c4_,.slice A5_ e2.length c5_],.slice AK n.length dK] (by rfl) rfl rfl (by (try simp only [zCb,zMb,zNb]);first|done|rfl) ?_
  with_reducible refine (impl_IsMapping_calls A1_ c1_ t A2_ c2_ m A3_ c3_ e A4_ c4_ m2 A5_ c5_ e2 _ _ n im _ (Kd.G_reads' SV.out.r0).2.2 (Kd.G_reads' SV.out.r0).2.1 (Kd.G_reads' SV.out.r1).2.2 (Kd.G_reads' SV.out.r1).2.1 (Kd.G_reads' SV.out.r2).2.2 (Kd.G_reads' SV.out.r2).2.1 (Kd.G_reads' SV.out.r3).2.2 (Kd.G_reads' SV.out.r3).2.1 (Kd.G_reads' SV.out.r4).2.2 (Kd.G_reads' SV.out.r4).2.1 (Kd.G_reads' KN.out).2.2 (Kd.G_reads' KN.out).2.1 Z6.out F9.out).mono ?_
  rintro e_ wn ⟨rfl,hb⟩
  refine ⟨_,rfl,?_⟩
  replace SV:=zA (SV.out.below hb)
  replace KN:=zA (Kd.G_below KN.out hb)
  replace RA:=zA (zZ RA.out hb)
  replace RB:=zA (zZ RB.out hb)
  replace RC:=zA (zZ RC.out hb)
  replace RF:=zA (zZ RF.out hb)
  clear hb
  refine hK.out _ _ ⟨(zP SV.out.ba 0).trans rfl,(zP SV.out.bb 0).trans rfl,(zP SV.out.bb 1).trans rfl,(zP SV.out.bd 0).trans rfl,(zP SV.out.bd 1).trans rfl⟩ (fun hHeld => ?_)
  clear hK K
  refine norm_ (a':=?_) ?_ ?_
  rotate_left
  ·show Act.put _ (some 103) _ = _;simp only [Act.put,zO,zEb,zFb,i64_w,i32_w];rfl
  refine one_ (i:=9) (N:=some 108) #[yt,yt,yt,yt,yt,yt,yt,yt,yt,yt,yf,yf,yf,yf,yf,yf,yf,yf,yf,yf,yf,yf,yf,yf,yf,yf,yf,yf,yf,yf,yf,yf,yf,yf,yf,yf,yf] rfl rfl (by kernel_rfl) (by decide) (fun K hK => ?_)
  refine goes_ Try.func48 (by kernel_rfl) rfl #[.agg #[.slice A1_ t.length c1_],.agg #[.slice A2_ m.length c2_,.slice A3_ e.length c3_],.agg #[.slice A4_ m2.length c4_,.slice A5_ e2.length c5_],.slice AK n.length dK] (by rfl) rfl rfl (by (try simp only [zCb,zMb,zNb]);first|done|rfl) ?_
  with_reducible refine (spec_IsMapping.calls k10 A1_ c1_ t A2_ c2_ m A3_ c3_ e A4_ c4_ m2 A5_ c5_ e2 _ _ n im _ (Kd.G_reads' SV.out.r0).2.2 (Kd.G_reads' SV.out.r0).2.1 (Kd.G_reads' SV.out.r1).2.2 (Kd.G_reads' SV.out.r1).2.1 (Kd.G_reads' SV.out.r2).2.2 (Kd.G_reads' SV.out.r2).2.1 (Kd.G_reads' SV.out.r3).2.2 (Kd.G_reads' SV.out.r3).2.1 (Kd.G_reads' SV.out.r4).2.2 (Kd.G_reads' SV.out.r4).2.1 (Kd.G_reads' KN.out).2.2 (Kd.G_reads' KN.out).2.1 F10.out).mono ?_
  rintro e_ wn ⟨rfl,hb⟩
  refine ⟨_,rfl,?_⟩
  replace SV:=zA (SV.out.below hb)
  clear KN
  replace RA:=zA (zZ RA.out hb)
  replace RB:=zA (zZ RB.out hb)
  replace RC:=zA (zZ RC.out hb)
  replace RF:=zA (zZ RF.out hb)
  clear hb
  refine hK.out _ _ ⟨(zP SV.out.ba 0).trans rfl,(zP SV.out.bb 0).trans rfl,(zP SV.out.bb 1).trans rfl,(zP SV.out.bd 0).trans rfl,(zP SV.out.bd 1).trans rfl⟩ (fun hHeld => ?_)
  clear hK K
  refine norm_ (a':=?_) ?_ ?_
  rotate_left
  ·show Act.put _ (some 108) _ = _;simp only [Act.put,zO,zEb,zFb,i64_w,i32_w];rfl
  refine pure_ (i:=10) (N:=some 109) (v:=?_) (a':=?_) #[yt,yt,yt,yt,yt,yt,yt,yt,yt,yt,yt,yf,yf,yf,yf,yf,yf,yf,yf,yf,yf,yf,yf,yf,yf,yf,yf,yf,yf,yf,yf,yf,yf,yf,yf,yf,yf] rfl rfl (by kernel_rfl) (fun _ _ _ h => h) (Or.inl ⟨by rfl,?_⟩) ?_ ?_
  rotate_left
  ·intro w';go_simp;(try simp only [bne_self_eq_false,beq_self_eq_true]);with_reducible rfl
  rotate_left
  ·simp only [Act.put,zO,zEb,zFb,i64_w,i32_w];rfl
  refine zu 11 110 ?_;refine zu 12 111 ?_;refine zu 13 112 ?_;refine zu 15 114 ?_;refine zu 16 115 ?_
  refine one_ (i:=14) (N:=some 113) #[yt,yt,yt,yt,yt,yt,yt,yt,yt,yt,yt,yt,yt,yt,yt,yt,yt,yf,yf,yf,yf,yf,yf,yf,yf,yf,yf,yf,yf,yf,yf,yf,yf,yf,yf,yf,yf] rfl rfl (by kernel_rfl) (by decide) (fun K hK => ?_)
  refine goes_ Try.func67 (by kernel_rfl) rfl #[.slice ARA ma.length dRA,.int .i64 ta] (by rfl) rfl rfl (by (try simp only [zCb,zMb,zNb]);first|done|rfl) ?_
  with_reducible refine (impl_ApplyMapping.calls _ _ ma ta ap _ (Kd.R_reads' RA.out).2.2 (Kd.R_reads' RA.out).2.1 F11.out).mono ?_
  rintro e_ wn ⟨rfl,hd⟩
  refine ⟨_,rfl,?_⟩
  have hb:=hd.below
  clear hd
  replace SV:=zA (SV.out.below hb)
  replace RA:=zA (zZ RA.out hb)
  replace RB:=zA (zZ RB.out hb)
  replace RC:=zA (zZ RC.out hb)
  replace RF:=zA (zZ RF.out hb)
  clear hb
  refine hK.out _ _ ⟨(zP SV.out.ba 0).trans rfl,(zP SV.out.bb 0).trans rfl,(zP SV.out.bb 1).trans rfl,(zP SV.out.bd 0).trans rfl,(zP SV.out.bd 1).trans rfl⟩ (fun hHeld => ?_)
  clear hK K
  refine norm_ (a':=?_) ?_ ?_
  rotate_left
  ·show Act.put _ (some 113) _ = _;simp only [Act.put,zO,zEb,zFb,i64_w,i32_w];rfl
  refine one_ (i:=17) (N:=some 116) #[yt,yt,yt,yt,yt,yt,yt,yt,yt,yt,yt,yt,yt,yt,yt,yt,yt,yt,yf,yf,yf,yf,yf,yf,yf,yf,yf,yf,yf,yf,yf,yf,yf,yf,yf,yf,yf] rfl rfl (by kernel_rfl) (by decide) (fun K hK => ?_)
  refine goes_ Try.func68 (by kernel_rfl) rfl #[.slice ARA ma.length dRA,.int .i64 ta] (by rfl) rfl rfl (by (try simp only [zCb,zMb,zNb]);first|done|rfl) ?_
  with_reducible refine (spec_ApplyMapping.calls _ _ ma ta ap _ (Kd.R_reads' RA.out).2.2 (Kd.R_reads' RA.out).2.1 F12.out).mono ?_
  rintro e_ wn ⟨rfl,hd⟩
  refine ⟨_,rfl,?_⟩
  have hb:=hd.below
  clear hd
  replace SV:=zA (SV.out.below hb)
  clear RA
  replace RB:=zA (zZ RB.out hb)
  replace RC:=zA (zZ RC.out hb)
  replace RF:=zA (zZ RF.out hb)
  clear hb
  refine hK.out _ _ ⟨(zP SV.out.ba 0).trans rfl,(zP SV.out.bb 0).trans rfl,(zP SV.out.bb 1).trans rfl,(zP SV.out.bd 0).trans rfl,(zP SV.out.bd 1).trans rfl⟩ (fun hHeld => ?_)
  clear hK K
  refine norm_ (a':=?_) ?_ ?_
  rotate_left
  ·show Act.put _ (some 116) _ = _;simp only [Act.put,zO,zEb,zFb,i64_w,i32_w];rfl
  refine pure_ (i:=18) (N:=some 117) (v:=?_) (a':=?_) #[yt,yt,yt,yt,yt,yt,yt,yt,yt,yt,yt,yt,yt,yt,yt,yt,yt,yt,yt,yf,yf,yf,yf,yf,yf,yf,yf,yf,yf,yf,yf,yf,yf,yf,yf,yf,yf] rfl rfl (by kernel_rfl) (fun _ _ _ h => h) (Or.inl ⟨by rfl,?_⟩) ?_ ?_
  rotate_left
  ·intro w';go_simp;(try simp only [bne_self_eq_false,beq_self_eq_true]);with_reducible rfl
  rotate_left
  ·simp only [Act.put,zO,zEb,zFb,i64_w,i32_w];rfl
  refine zu 19 118 ?_;refine zu 20 119 ?_;refine zu 21 120 ?_;refine zu 22 121 ?_;refine zu 24 123 ?_;refine zu 25 124 ?_
  refine one_ (i:=23) (N:=some 122) #[yt,yt,yt,yt,yt,yt,yt,yt,yt,yt,yt,yt,yt,yt,yt,yt,yt,yt,yt,yt,yt,yt,yt,yt,yt,yt,yf,yf,yf,yf,yf,yf,yf,yf,yf,yf,yf] rfl rfl (by kernel_rfl) (by decide) (fun K hK => ?_)
  refine goes_ Try.func62 (by kernel_rfl) rfl #[.slice ARB mc.length dRB,.slice ARC nc.length dRC] (by rfl) rfl rfl (by (try simp only [zCb,zMb,zNb]);first|done|rfl) ?_
  with_reducible refine (impl_ComposeMappings.calls k13 _ _ mc _ _ nc cc _ (Kd.R_reads' RB.out).2.2 (Kd.R_reads' RB.out).2.1 (Kd.R_reads' RC.out).2.2 (Kd.R_reads' RC.out).2.1 F13.out).mono ?_
  rintro e_ wn ⟨vm,rfl,ho,hb⟩
  refine ⟨_,rfl,?_⟩
  replace SV:=zA (SV.out.below hb)
  have R1:=zA (show Kd.R (Kd.int .i64) 3 wn 0 (fun _ => True) vm cc from zHb ho (Nat.zero_le _))
  obtain ⟨AR1,dR1,rfl⟩:=Kd.R_slice ho
  clear ho
  replace RB:=zA (zZ RB.out hb)
  replace RC:=zA (zZ RC.out hb)
  replace RF:=zA (zZ RF.out hb)
  clear hb
  refine hK.out _ _ ⟨(zP SV.out.ba 0).trans rfl,(zP SV.out.bb 0).trans rfl,(zP SV.out.bb 1).trans rfl,(zP SV.out.bd 0).trans rfl,(zP SV.out.bd 1).trans rfl⟩ (fun hHeld => ?_)
  clear hK K
  refine norm_ (a':=?_) ?_ ?_
  rotate_left
  ·show Act.put _ (some 122) _ = _;simp only [Act.put,zO,zEb,zFb,i64_w,i32_w];rfl
  refine one_ (i:=26) (N:=some 125) #[yt,yt,yt,yt,yt,yt,yt,yt,yt,yt,yt,yt,yt,yt,yt,yt,yt,yt,yt,yt,yt,yt,yt,yt,yt,yt,yt,yf,yf,yf,yf,yf,yf,yf,yf,yf,yf] rfl rfl (by kernel_rfl) (by decide) (fun K hK => ?_)
  refine goes_ Try.func69 (by kernel_rfl) rfl #[.slice ARB mc.length dRB,.slice ARC nc.length dRC] (by rfl) rfl rfl (by (try simp only [zCb,zMb,zNb]);first|done|rfl) ?_
  with_reducible refine (spec_ComposeMappings.calls k14 _ _ mc _ _ nc cc _ (Kd.R_reads' RB.out).2.2 (Kd.R_reads' RB.out).2.1 (Kd.R_reads' RC.out).2.2 (Kd.R_reads' RC.out).2.1 F14.out).mono ?_
  rintro e_ wn ⟨vm,rfl,ho,hb⟩
  refine ⟨_,rfl,?_⟩
  replace SV:=zA (SV.out.below hb)
  have R2:=zA (show Kd.R (Kd.int .i64) 3 wn 0 (fun _ => True) vm cc from zHb ho (Nat.zero_le _))
  obtain ⟨AR2,dR2,rfl⟩:=Kd.R_slice ho
  clear ho
  clear RB RC
  replace R1:=zA (zZ R1.out hb)
  replace RF:=zA (zZ RF.out hb)
  clear hb
  refine hK.out _ _ ⟨(zP SV.out.ba 0).trans rfl,(zP SV.out.bb 0).trans rfl,(zP SV.out.bb 1).trans rfl,(zP SV.out.bd 0).trans rfl,(zP SV.out.bd 1).trans rfl⟩ (fun hHeld => ?_)
  clear hK K
  refine norm_ (a':=?_) ?_ ?_
  rotate_left
  ·show Act.put _ (some 125) _ = _;simp only [Act.put,zO,zEb,zFb,i64_w,i32_w];rfl
  refine one_ (i:=27) (N:=some 126) #[yt,yt,yt,yt,yt,yt,yt,yt,yt,yt,yt,yt,yt,yt,yt,yt,yt,yt,yt,yt,yt,yt,yt,yt,yt,yt,yt,yt,yf,yf,yf,yf,yf,yf,yf,yf,yf] rfl rfl (by kernel_rfl) (by decide) (fun K hK => ?_)
  refine goes_ Try.func61 (by kernel_rfl) rfl #[.slice AR1 cc.length dR1,.slice AR2 cc.length dR2] (by rfl) rfl rfl (by (try simp only [zCb,zMb,zNb]);first|done|rfl) ?_
  with_reducible refine (laws_sameInts.calls k15 _ _ cc _ _ cc true _ (Kd.R_reads' R1.out).2.2 (Kd.R_reads' R1.out).2.1 (Kd.R_reads' R2.out).2.2 (Kd.R_reads' R2.out).2.1 F15.out).mono ?_
  rintro e_ wn ⟨rfl,hd⟩
  refine ⟨_,rfl,?_⟩
  have hb:=hd.below
  clear hd
  replace SV:=zA (SV.out.below hb)
  clear R1 R2
  replace RF:=zA (zZ RF.out hb)
  clear hb
  refine hK.out _ _ ⟨(zP SV.out.ba 0).trans rfl,(zP SV.out.bb 0).trans rfl,(zP SV.out.bb 1).trans rfl,(zP SV.out.bd 0).trans rfl,(zP SV.out.bd 1).trans rfl⟩ (fun hHeld => ?_)
  clear hK K
  refine norm_ (a':=?_) ?_ ?_
  rotate_left
  ·show Act.put _ (some 126) _ = _;simp only [Act.put,zO,zEb,zFb,i64_w,i32_w];rfl
  refine zu 28 127 ?_;refine zu 29 128 ?_;refine zu 30 129 ?_;refine zu 32 131 ?_
  refine one_ (i:=31) (N:=some 130) #[yt,yt,yt,yt,yt,yt,yt,yt,yt,yt,yt,yt,yt,yt,yt,yt,yt,yt,yt,yt,yt,yt,yt,yt,yt,yt,yt,yt,yt,yt,yt,yt,yt,yf,yf,yf,yf] rfl rfl (by kernel_rfl) (by decide) (fun K hK => ?_)
  refine goes_ Try.func70 (by kernel_rfl) rfl #[.slice ARF mf.length dRF] (by rfl) rfl rfl (by (try simp only [zCb,zMb,zNb]);first|done|rfl) ?_
  with_reducible refine (impl_FormatMapping.calls k16 _ _ mf tx _ (Kd.R_reads' RF.out).2.2 (Kd.R_reads' RF.out).2.1 F16.out).mono ?_
  rintro e_ wn ⟨rfl,hb⟩
  refine ⟨_,rfl,?_⟩
  replace SV:=zA (SV.out.below hb)
  replace RF:=zA (zZ RF.out hb)
  clear hb
  refine hK.out _ _ ⟨(zP SV.out.ba 0).trans rfl,(zP SV.out.bb 0).trans rfl,(zP SV.out.bb 1).trans rfl,(zP SV.out.bd 0).trans rfl,(zP SV.out.bd 1).trans rfl⟩ (fun hHeld => ?_)
  clear hK K
  refine norm_ (a':=?_) ?_ ?_
  rotate_left
  ·show Act.put _ (some 130) _ = _;simp only [Act.put,zO,zEb,zFb,i64_w,i32_w];rfl
  refine one_ (i:=33) (N:=some 132) #[yt,yt,yt,yt,yt,yt,yt,yt,yt,yt,yt,yt,yt,yt,yt,yt,yt,yt,yt,yt,yt,yt,yt,yt,yt,yt,yt,yt,yt,yt,yt,yt,yt,yt,yf,yf,yf] rfl rfl (by kernel_rfl) (by decide) (fun K hK => ?_)
  refine goes_ Try.func71 (by kernel_rfl) rfl #[.slice ARF mf.length dRF] (by rfl) rfl rfl (by (try simp only [zCb,zMb,zNb]);first|done|rfl) ?_
  with_reducible refine (spec_FormatMapping.calls k17 _ _ mf tx _ (Kd.R_reads' RF.out).2.2 (Kd.R_reads' RF.out).2.1 F17.out).mono ?_
  rintro e_ wn ⟨rfl,hb⟩
  refine ⟨_,rfl,?_⟩
  replace SV:=zA (SV.out.below hb)
  clear RF
  clear hb
  refine hK.out _ _ ⟨(zP SV.out.ba 0).trans rfl,(zP SV.out.bb 0).trans rfl,(zP SV.out.bb 1).trans rfl,(zP SV.out.bd 0).trans rfl,(zP SV.out.bd 1).trans rfl⟩ (fun hHeld => ?_)
  clear hK K
  refine norm_ (a':=?_) ?_ ?_
  rotate_left
  ·show Act.put _ (some 132) _ = _;simp only [Act.put,zO,zEb,zFb,i64_w,i32_w];rfl
  refine pure_ (i:=34) (N:=some 133) (v:=?_) (a':=?_) #[yt,yt,yt,yt,yt,yt,yt,yt,yt,yt,yt,yt,yt,yt,yt,yt,yt,yt,yt,yt,yt,yt,yt,yt,yt,yt,yt,yt,yt,yt,yt,yt,yt,yt,yt,yf,yf] rfl rfl (by kernel_rfl) (fun _ _ _ h => h) (Or.inl ⟨by rfl,?_⟩) ?_ ?_
  rotate_left
  ·intro w';go_simp;(try simp only [bne_self_eq_false,beq_self_eq_true]);with_reducible rfl
  rotate_left
  ·simp only [Act.put,zO,zEb,zFb,i64_w,i32_w];rfl
  refine zu 35 134 ?_;refine zu 36 2 ?_
  refine done_ (by kernel_rfl) ?_
  clear hHeld
  go_wp2
  go_ret
  exact ⟨rfl,SV.out.B⟩


end Go.Proofs.Ytanbgnjfllpkgaa.Hand
