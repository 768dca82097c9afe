/- Regions whose operations may run in many orders: the invariant and the end. No program occurs here; conditions: what the theorems name. -/
import Derived.Test.YteenbnljpddleaaGreatDoorEvU
namespace Go.Ev
open Go
section
variable {P:Program} {Γ:Ctx} {g g0 g':Gh} {β β':Nat→Option Nat} {w w0 w':World} {a:Act} {s s':Fr} {o:Oper} {B N n:Nat} {H Hb Hb':List Entry} {Xf Xf':Nat→List Cell} {α:Type} {all:List Oper} {S:Nat→Prop} {fi:FI} {st:Nat→Fr}
structure Inv (Γ:Ctx)(fi:FI)(all:List Oper)(st:Nat→Fr)(S:Nat→Prop)(B:Nat)(g0:Gh)(w0:World)(g:Gh)(β:Nat→Option Nat)(Xf:Nat→List Cell)(Hb:List Entry)(a:Act)(w:World):Prop where
 defers:a.defers=[]
 len:(st 0).T.length≤a.tmps.size
 tmp:∀ t,∃ m,m≤all.length∧(∀ i o,all[i]?=some o→o.dst=some t→(S i↔i < m))∧SlotR g β w ((st m).slot t) (a.eval (.tmp t))
 box:∀ b,∃ m,m≤all.length∧(∀ i o,all[i]?=some o→touch fi all o=some b→(S i↔i < m))∧Xf b=(st m).X.getD b []
 heap:∃ m,m≤all.length∧(∀ i o,all[i]?=some o→(qcd Γ fi all).eff.getD i 0=2→(S i↔i < m))∧Hb=(st m).H
 mem:Mem g β B Xf Hb w
 go:Go1 g0 g w0 w
 blk:∀ t b,β t=some b→w0.heap.size≤b
 unmade:∀ i o d,all[i]?=some o→¬ S i→madeOf fi o=some d→β d=none
def Steady (Γ:Ctx)(fi:FI)(all:List Oper)(st:Nat→Fr):Prop:=∀ (i:Nat) o,all[i]?=some o→Stays fi all ((qcd Γ fi all).free.getD i false) o (st i) (st (i+1))
theorem Steady.slot (h:Steady Γ fi all st){m k t:Nat}(hm:m≤all.length)(hk:k≤all.length)(hv:∀ i o,all[i]?=some o→o.dst=some t→(i < m↔i < k)):(st m).slot t=(st k).slot t:=by
 refine qakc (val:=fun k=>(st k).slot t) (wr:=fun i=>∃ o,all[i]?=some o∧o.dst=some t) (n:=all.length) (fun i hi hw=>?_) hm hk fun i _ ⟨o,h1,h2⟩=>hv i o h1 h2
 have ho:=List.getElem?_eq_getElem hi
 exact(h i _ ho).slot t fun e=>hw ⟨_,ho,e⟩
theorem Steady.box (h:Steady Γ fi all st){m k b:Nat}(hm:m≤all.length)(hk:k≤all.length)(hv:∀ i o,all[i]?=some o→touch fi all o=some b→(i < m↔i < k)):(st m).X.getD b []=(st k).X.getD b []:=by
 refine qakc (val:=fun k=>(st k).X.getD b []) (wr:=fun i=>∃ o,all[i]?=some o∧touch fi all o=some b) (n:=all.length) (fun i hi hw=>?_) hm hk fun i _ ⟨o,h1,h2⟩=>hv i o h1 h2
 have ho:=List.getElem?_eq_getElem hi
 exact(h i _ ho).box b fun e=>hw ⟨_,ho,e⟩
theorem Steady.heap (h:Steady Γ fi all st){m k:Nat}(hm:m≤all.length)(hk:k≤all.length)(hv:∀ i o,all[i]?=some o→(qcd Γ fi all).eff.getD i 0=2→(i < m↔i < k)):(st m).H=(st k).H:=by
 refine qakc (val:=fun k=>(st k).H) (wr:=fun i=>∃ o,all[i]?=some o∧(qcd Γ fi all).eff.getD i 0=2) (n:=all.length) (fun i hi hw=>?_) hm hk fun i _ ⟨o,h1,h2⟩=>hv i o h1 h2
 have ho:=List.getElem?_eq_getElem hi
 exact(h i _ ho).heap (qkib ho fun e=>hw ⟨_,ho,e⟩)
theorem Steady.lens (h:Steady Γ fi all st)(k:Nat)(hk:k≤all.length):(st k).T.length=(st 0).T.length∧(st k).X.length=(st 0).X.length:=by
 induction k with
 | zero=>exact⟨rfl,rfl⟩
 | succ k ih=>
  have ho:=List.getElem?_eq_getElem (show k < all.length by omega)
  have hs:=h k _ ho
  exact⟨hs.tlen.trans (ih (by omega)).1,hs.xlen.trans (ih (by omega)).2⟩
structure Ready (Γ:Ctx)(fi:FI)(all:List Oper)(S:Nat→Prop)(i:Nat)(o:Oper):Prop where
 reg:qcoc (qcd Γ fi all) all=true
 nodup:nodupB (makes fi all)=true
 closed:Closed all S
 at':all[i]?=some o
 new:¬ S i
 edges:∀ e∈o.after.toList,Region.binds .any e=true→S e.on
theorem Ready.lt {i:Nat}(h:Ready Γ fi all S i o):i < all.length:=(List.getElem?_eq_some_iff.1 h.at').1
theorem Ready.name {i x k:Nat}{ok:Oper}(h:Ready Γ fi all S i o)(hx:x∈readsOf all o∨x∈qcu fi all o)(hok:all[k]?=some ok)(hk:x∈qcu fi all ok)(hne:k≠i):S k↔k < i:=
 qeed h.reg h.closed h.at' hok h.new h.edges hne hx hk
theorem Inv.tmp_at (hi:Inv Γ fi all st S B g0 w0 g β Xf Hb a w)(hs:Steady Γ fi all st){i:Nat}(h:Ready Γ fi all S i o){t:Nat}(ht:2*t∈readsOf all o∨2*t∈qcu fi all o):SlotR g β w ((st i).slot t) (a.eval (.tmp t)):=by
 obtain⟨m,h1,h2,h3⟩:=hi.tmp t
 rw[hs.slot (m:=i) (k:=m) (Nat.le_of_lt h.lt) h1 fun k ok hok hd=>?_]
 ·exact h3
 ·by_cases e:k=i
  ·subst e
   exact⟨fun hh=>absurd hh (Nat.lt_irrefl _),fun hh=>absurd ((h2 k ok hok hd).2 hh) h.new⟩
  ·rw[← h2 k ok hok hd]
   exact(h.name ht hok (qgl.2 hd) e).symm
theorem Inv.box_at (hi:Inv Γ fi all st S B g0 w0 g β Xf Hb a w)(hs:Steady Γ fi all st){i:Nat}(h:Ready Γ fi all S i o){b:Nat}(hb:2*b+1∈readsOf all o∨2*b+1∈qcu fi all o):Xf b=(st i).X.getD b []:=by
 obtain⟨m,h1,h2,h3⟩:=hi.box b
 rw[h3]
 refine hs.box h1 (Nat.le_of_lt h.lt) fun k ok hok hd=>?_
 by_cases e:k=i
 ·subst e
  exact⟨fun hh=>absurd ((h2 k ok hok hd).2 hh) h.new,fun hh=>absurd hh (Nat.lt_irrefl _)⟩
 ·rw[← h2 k ok hok hd]
  exact h.name hb hok (qeo.2 hd) e
theorem Inv.heap_at (hi:Inv Γ fi all st S B g0 w0 g β Xf Hb a w)(hs:Steady Γ fi all st){i:Nat}(h:Ready Γ fi all S i o)(he:(qcd Γ fi all).eff.getD i 0=1∨(qcd Γ fi all).eff.getD i 0=2):Hb=(st i).H:=by
 obtain⟨m,h1,h2,h3⟩:=hi.heap
 rw[h3]
 refine hs.heap h1 (Nat.le_of_lt h.lt) fun k ok hok hd=>?_
 by_cases e:k=i
 ·subst e
  exact⟨fun hh=>absurd ((h2 k ok hok hd).2 hh) h.new,fun hh=>absurd hh (Nat.lt_irrefl _)⟩
 ·rw[← h2 k ok hok hd]
  exact qxfb h.reg h.closed h.at' hok h.new h.edges e he hd
theorem Inv.next (hi:Inv Γ fi all st S B g0 w0 g β Xf Hb a w)(hs:Steady Γ fi all st){i:Nat}(h:Ready Γ fi all S i o){v:Slot}{v':Value}{s1:Fr}(hst:st (i+1)=s1.put o.dst v)
  (hv:SlotR g' β' w' v v') (hgo:GoX (fun k=>∃ t,β t=some k) g g' w w') (hβ:∀ t b,β t=some b→β' t=some b) (hβ2:∀ t b,β' t=some b→β t=some b∨(madeOf fi o=some t∧w.heap.size≤b))
  (hm:Mem g' β' B Xf' Hb' w') (hX1:∀ b,touch fi all o≠some b→Xf' b=Xf b) (hX2:∀ b,touch fi all o=some b→Xf' b=(st (i+1)).X.getD b [])
  (hH1:(qcd Γ fi all).eff.getD i 0≠2→Hb'=Hb) (hH2:(qcd Γ fi all).eff.getD i 0=2→Hb'=(st (i+1)).H):
  Inv Γ fi all st (fun k=>S k∨k=i) B g0 w0 g' β' Xf' Hb' (a.put o.dst v') w':=by
 have hlt:=h.lt
 have wr:∀ {x:Nat},x∈qcu fi all o→∀ k ok,all[k]?=some ok→x∈qcu fi all ok→((S k∨k=i)↔k < i+1):=by
  intro x hx k ok hok hk
  by_cases e:k=i
  ·subst e;exact⟨fun _=>by omega,fun _=>.inr rfl⟩
  ·have:=h.name (.inr hx) hok hk e
   rw[this]
   exact⟨fun hh=>by rcases hh with hh | hh<;>omega,fun hh=>.inl (by omega)⟩
 have nw:∀ {m k:Nat},k≠i→(S k↔k < m)→((S k∨k=i)↔k < m):=fun hne hh=>by rw[← hh];exact⟨fun h=>h.resolve_right hne,.inl⟩
 refine⟨by rw[put_defers];exact hi.defers,by rw[qvd];exact hi.len,fun t=>?_,fun b=>?_,?_,hm,hi.go.trans' hgo fun k ⟨t,hk⟩=>.inr (hi.blk t k hk),fun t b hb=>?_,fun k ok d hok hk hd=>?_⟩
 ·by_cases hd:o.dst=some t
  ·refine⟨i+1,hlt,fun k ok hok hk=>wr (qgl.2 hd) k ok hok (qgl.2 hk),?_⟩
   rw[hst,qhpb,eval_put]
   by_cases hl:t < s1.T.length
   ·have hl2:s1.T.length=(st 0).T.length:=by
     have:=(hs.lens (i+1) hlt).1
     rw[hst,qszc] at this
     exact this
    rw[if_pos ⟨hd,hl⟩,if_pos ⟨hd,Nat.lt_of_lt_of_le hl (by rw[hl2];exact hi.len)⟩]
    exact hv
   ·rw[if_neg fun hh=>hl hh.2]
    have:s1.slot t=.undef:=by simp[Fr.slot,List.getD_eq_getElem?_getD,List.getElem?_eq_none (Nat.le_of_not_lt hl)]
    rw[this]
    exact .undef _
  ·obtain⟨m,h1,h2,h3⟩:=hi.tmp t
   refine⟨m,h1,fun k ok hok hk=>nw (fun e=>hd ?_) (h2 k ok hok hk),?_⟩
   ·subst e
    rw[h.at'] at hok
    simp only[Option.some.injEq] at hok
    rw[hok];exact hk
   ·rw[eval_put,if_neg fun hh=>hd hh.1]
    exact h3.mono hgo.le hβ hgo.keep
 ·by_cases hd:touch fi all o=some b
  ·exact⟨i+1,hlt,fun k ok hok hk=>wr (qeo.2 hd) k ok hok (qeo.2 hk),hX2 b hd⟩
  ·obtain⟨m,h1,h2,h3⟩:=hi.box b
   refine⟨m,h1,fun k ok hok hk=>nw (fun e=>hd ?_) (h2 k ok hok hk),by rw[hX1 b hd];exact h3⟩
   subst e
   rw[h.at'] at hok
   simp only[Option.some.injEq] at hok
   rw[hok];exact hk
 ·by_cases he:(qcd Γ fi all).eff.getD i 0=2
  ·refine⟨i+1,hlt,fun k ok hok hk=>?_,hH2 he⟩
   by_cases e:k=i
   ·subst e;exact⟨fun _=>by omega,fun _=>.inr rfl⟩
   ·have:=qxfb h.reg h.closed h.at' hok h.new h.edges e (.inr he) hk
    rw[this]
    exact⟨fun hh=>by rcases hh with hh | hh<;>omega,fun hh=>.inl (by omega)⟩
  ·obtain⟨m,h1,h2,h3⟩:=hi.heap
   exact⟨m,h1,fun k ok hok hk=>nw (fun e=>he (by rw[← e];exact hk)) (h2 k ok hok hk),by rw[hH1 he];exact h3⟩
 ·rcases hβ2 t b hb with hb | ⟨_,hb⟩
  ·exact hi.blk t b hb
  ·exact Nat.le_trans hi.go.size hb
 ·have hne:k≠i:=fun e=>hk (.inr e)
  have hS:¬ S k:=fun e=>hk (.inl e)
  have h0:=hi.unmade k ok d hok hS hd
  cases hb:β' d with
  | none=>rfl
  | some b=>
   rcases hβ2 d b hb with hb | ⟨hm,_⟩
   ·rw[h0] at hb;simp at hb
   ·exact absurd (qbfd h.nodup hok h.at' hd hm) hne
theorem Inv.run {ev:FuncId→List AV→List Entry→Option Res}{Ok:Nat→World→Prop}(hΓ:CtxOk P Γ)(hF:FiOk P Γ)(hcall:qsw P Γ ev Ok)(hS:Stable Ok)(hN:∀ d∈fi.locs,d < N)(h0:Ok B w0)(hh:HR g0 B H w0)(hB:B≤w0.heap.size)
  (hi:Inv Γ fi all st S B g0 w0 g β Xf Hb a w) (hs:Steady Γ fi all st) (hX:(st 0).X.length=N) {i:Nat} (h:Ready Γ fi all S i o) {v:Slot} {s1:Fr} (hst:st (i+1)=s1.put o.dst v)
  (he:qedb Γ fi ev all ((qcd Γ fi all).free.getD i false) o (st i) pair=some (v,s1)) (Qx:Exit→Act→World→Prop):
  o.wp P a w (fun a' w'=>∃ g' β' Xf' Hb',Inv Γ fi all st (fun k=>S k∨k=i) B g0 w0 g' β' Xf' Hb' a' w') Qx:=by
 have hlook:Looks g β w (st i) a o.op.operands.toList:=fun t ht=>hi.tmp_at hs h (.inl (qawb ht))
 have hxlen:=(hs.lens i (Nat.le_of_lt h.lt)).2.trans hX
 have hbox:∀ b,qayc all o=some b→Xf b=(st i).X.getD b []:=fun b hb=>hi.box_at hs h (.inl (qbgb hb))
 have hmade:∀ d,madeOf fi o=some d→β d=none:=fun d hd=>hi.unmade i o d h.at' h.new hd
 have hOk:=hS.go h0 hh hB hi.go
 cases hf:(qcd Γ fi all).free.getD i false with
 | true=>
  rw[hf] at he
  obtain⟨s2,h1,h2,rfl⟩:=qaxb he
  have hne:(qcd Γ fi all).eff.getD i 0≠2:=by
   rw[qiab h.at']
   rw[qnd h.at'] at hf
   unfold qzud
   rw[hf]
   simp
  have:=op_ok (s:=(st i).setH []) (Hb:=Hb) (Hb':=Hb) (Xf:=Xf) hΓ hF hcall h1 (by show ∀ d∈fi.locs,d < (st i).X.length;rw[hxlen];exact hN) hOk hlook hi.mem (.inr ⟨qanb h.at' hf,rfl,h2,rfl⟩) hbox hmade Qx
  refine Oper.wp_mono (fun a' w' hp=>?_) this
  obtain⟨v',rfl,g',β',p1,p2,p3,p4,p5,_⟩:=hp
  refine⟨g',β',_,_,hi.next hs h hst p1 p3 p4 p5 p2 (fun b hb=>?_) (fun b hb=>?_) (fun _=>rfl) (fun hh=>absurd hh hne)⟩
  ·cases ht:touch fi all o with
   | none=>rfl
   | some c=>exact qbw _ _ _ _ fun e=>hb (by rw[ht,e])
  ·rw[hst,qbzb,hb]
   exact upd_same _ _ _
 | false=>
  rw[hf] at he
  have he:evOp Γ fi ev all o (st i) pair=some (v,s1):=he
  have hee:=qte h.at' hf
  have hHb:=hi.heap_at hs h hee
  have:=op_ok (s:=st i) (Hb:=Hb) (Hb':=s1.H) (Xf:=Xf) hΓ hF hcall he (by rw[hxlen];exact hN) hOk hlook hi.mem (.inl ⟨hHb,rfl⟩) hbox hmade Qx
  refine Oper.wp_mono (fun a' w' hp=>?_) this
  obtain⟨v',rfl,g',β',p1,p2,p3,p4,p5,_⟩:=hp
  refine⟨g',β',_,_,hi.next hs h hst p1 p3 p4 p5 p2 (fun b hb=>?_) (fun b hb=>?_) (fun hne=>?_) (fun _=>?_)⟩
  ·cases ht:touch fi all o with
   | none=>rfl
   | some c=>exact qbw _ _ _ _ fun e=>hb (by rw[ht,e])
  ·rw[hst,qbzb,hb]
   exact upd_same _ _ _
  ·have h1:=(hs i o h.at').heap (qkib h.at' hne)
   rw[hst,qcqc] at h1
   rw[h1,hHb]
  ·rw[hst,qcqc]
theorem Inv.pass (hi:Inv Γ fi all st S B g0 w0 g β Xf Hb a w)(hs:Steady Γ fi all st){i:Nat}(h:Ready Γ fi all S i o)(hst:st (i+1)=(st i).put o.dst .skip):
  Inv Γ fi all st (fun k=>S k∨k=i) B g0 w0 g β Xf Hb (a.put o.dst undef) w:=
 hi.next hs h hst .skip (.refl _ g w) (fun _ _ h=>h) (fun _ _ h=>.inl h) hi.mem (fun _ _=>rfl) (fun b hb=>by rw[hst,qbzb];exact hi.box_at hs h (.inr (qeo.2 hb))) (fun _=>rfl)
  (fun he=>by rw[hst,qcqc];exact hi.heap_at hs h (.inr he))
end
end Go.Ev
