/- Regions whose operations may run in many orders: the invariant and the end. No program occurs here; conditions: what the theorems name. -/
import Derived.Test.YteofbfalngmmeaaGreatDoorEvU
namespace Go.Ev
open Go
section
variable {P:Program} {Γ:Ctx} {g g0 g':Gh} {β β':Nat→Option Nat} {w w0 w':World} {a:Act} {s s':Fr} {o:Oper} {B N n:Nat} {H Hb Hb':List Entry} {Xf Xf':Nat→List Cell} {α:Type} {all:List Oper} {S:Nat→Prop} {fi:FI} {st:Nat→Fr}
structure Inv (Γ:Ctx)(fi:FI)(all:List Oper)(st:Nat→Fr)(S:Nat→Prop)(B:Nat)(g0:Gh)(w0:World)(g:Gh)(β:Nat→Option Nat)(Xf:Nat→List Cell)(Hb:List Entry)(a:Act)(w:World):Prop where
 defers:a.defers=[]
 len:(st 0).T.length≤a.tmps.size
 tmp:∀ t,∃ m,m≤all.length∧(∀ i o,all[i]?=some o→o.dst=some t→(S i↔i < m))∧SlotR g β w ((st m).slot t) (a.eval (.tmp t))
 box:∀ b,∃ m,m≤all.length∧(∀ i o,all[i]?=some o→touch fi all o=some b→(S i↔i < m))∧Xf b=(st m).X.getD b []
 heap:∃ m,m≤all.length∧(∀ i o,all[i]?=some o→(qay Γ fi all).eff.getD i 0=2→(S i↔i < m))∧Hb=(st m).H
 mem:Mem g β B Xf Hb w
 go:Go1 g0 g w0 w
 blk:∀ t b,β t=some b→w0.heap.size≤b
 unmade:∀ i o d,all[i]?=some o→¬ S i→madeOf fi o=some d→β d=none
def Steady (Γ:Ctx)(fi:FI)(all:List Oper)(st:Nat→Fr):Prop:=∀ (i:Nat) o,all[i]?=some o→Stays fi all ((qay Γ fi all).free.getD i false) o (st i) (st (i+1))
theorem Steady.slot (h:Steady Γ fi all st){m k t:Nat}(hm:m≤all.length)(hk:k≤all.length)(hv:∀ i o,all[i]?=some o→o.dst=some t→(i < m↔i < k)):(st m).slot t=(st k).slot t:=by
 refine qojb (val:=fun k=>(st k).slot t) (wr:=fun i=>∃ o,all[i]?=some o∧o.dst=some t) (n:=all.length) (fun i hi hw=>?_) hm hk fun i _ ⟨o,h1,h2⟩=>hv i o h1 h2
 have ho:=List.getElem?_eq_getElem hi
 exact(h i _ ho).slot t fun e=>hw ⟨_,ho,e⟩
theorem Steady.box (h:Steady Γ fi all st){m k b:Nat}(hm:m≤all.length)(hk:k≤all.length)(hv:∀ i o,all[i]?=some o→touch fi all o=some b→(i < m↔i < k)):(st m).X.getD b []=(st k).X.getD b []:=by
 refine qojb (val:=fun k=>(st k).X.getD b []) (wr:=fun i=>∃ o,all[i]?=some o∧touch fi all o=some b) (n:=all.length) (fun i hi hw=>?_) hm hk fun i _ ⟨o,h1,h2⟩=>hv i o h1 h2
 have ho:=List.getElem?_eq_getElem hi
 exact(h i _ ho).box b fun e=>hw ⟨_,ho,e⟩
theorem Steady.heap (h:Steady Γ fi all st){m k:Nat}(hm:m≤all.length)(hk:k≤all.length)(hv:∀ i o,all[i]?=some o→(qay Γ fi all).eff.getD i 0=2→(i < m↔i < k)):(st m).H=(st k).H:=by
 refine qojb (val:=fun k=>(st k).H) (wr:=fun i=>∃ o,all[i]?=some o∧(qay Γ fi all).eff.getD i 0=2) (n:=all.length) (fun i hi hw=>?_) hm hk fun i _ ⟨o,h1,h2⟩=>hv i o h1 h2
 have ho:=List.getElem?_eq_getElem hi
 exact(h i _ ho).heap (qhfb ho fun e=>hw ⟨_,ho,e⟩)
theorem Steady.lens (h:Steady Γ fi all st)(k:Nat)(hk:k≤all.length):(st k).T.length=(st 0).T.length∧(st k).X.length=(st 0).X.length:=by
 induction k with
 | zero=>exact⟨rfl,rfl⟩
 | succ k ih=>
  have ho:=List.getElem?_eq_getElem (show k < all.length by omega)
  have hs:=h k _ ho
  exact⟨hs.tlen.trans (ih (by omega)).1,hs.xlen.trans (ih (by omega)).2⟩
structure Ready (Γ:Ctx)(fi:FI)(all:List Oper)(S:Nat→Prop)(i:Nat)(o:Oper):Prop where
 reg:qlob (qay Γ fi all) all=true
 nodup:nodupB (makes fi all)=true
 closed:Closed all S
 at':all[i]?=some o
 new:¬ S i
 edges:∀ e∈o.after.toList,Region.binds .any e=true→S e.on
theorem Ready.lt {i:Nat}(h:Ready Γ fi all S i o):i < all.length:=(List.getElem?_eq_some_iff.1 h.at').1
theorem Ready.name {i x k:Nat}{ok:Oper}(h:Ready Γ fi all S i o)(hx:x∈readsOf all o∨x∈qcl fi all o)(hok:all[k]?=some ok)(hk:x∈qcl fi all ok)(hne:k≠i):S k↔k < i:=
 qoic h.reg h.closed h.at' hok h.new h.edges hne hx hk
theorem Inv.tmp_at (hi:Inv Γ fi all st S B g0 w0 g β Xf Hb a w)(hs:Steady Γ fi all st){i:Nat}(h:Ready Γ fi all S i o){t:Nat}(ht:2*t∈readsOf all o∨2*t∈qcl fi all o):SlotR g β w ((st i).slot t) (a.eval (.tmp t)):=by
 obtain⟨m,h1,h2,h3⟩:=hi.tmp t
 rw[hs.slot (m:=i) (k:=m) (Nat.le_of_lt h.lt) h1 fun k ok hok hd=>?_]
 ·exact h3
 ·by_cases e:k=i
  ·subst e
   exact⟨fun hh=>absurd hh (Nat.lt_irrefl _),fun hh=>absurd ((h2 k ok hok hd).2 hh) h.new⟩
  ·rw[← h2 k ok hok hd]
   exact(h.name ht hok (qfy.2 hd) e).symm
theorem Inv.box_at (hi:Inv Γ fi all st S B g0 w0 g β Xf Hb a w)(hs:Steady Γ fi all st){i:Nat}(h:Ready Γ fi all S i o){b:Nat}(hb:2*b+1∈readsOf all o∨2*b+1∈qcl fi all o):Xf b=(st i).X.getD b []:=by
 obtain⟨m,h1,h2,h3⟩:=hi.box b
 rw[h3]
 refine hs.box h1 (Nat.le_of_lt h.lt) fun k ok hok hd=>?_
 by_cases e:k=i
 ·subst e
  exact⟨fun hh=>absurd ((h2 k ok hok hd).2 hh) h.new,fun hh=>absurd hh (Nat.lt_irrefl _)⟩
 ·rw[← h2 k ok hok hd]
  exact h.name hb hok (qel.2 hd) e
theorem Inv.heap_at (hi:Inv Γ fi all st S B g0 w0 g β Xf Hb a w)(hs:Steady Γ fi all st){i:Nat}(h:Ready Γ fi all S i o)(he:(qay Γ fi all).eff.getD i 0=1∨(qay Γ fi all).eff.getD i 0=2):Hb=(st i).H:=by
 obtain⟨m,h1,h2,h3⟩:=hi.heap
 rw[h3]
 refine hs.heap h1 (Nat.le_of_lt h.lt) fun k ok hok hd=>?_
 by_cases e:k=i
 ·subst e
  exact⟨fun hh=>absurd ((h2 k ok hok hd).2 hh) h.new,fun hh=>absurd hh (Nat.lt_irrefl _)⟩
 ·rw[← h2 k ok hok hd]
  exact qncb h.reg h.closed h.at' hok h.new h.edges e he hd
theorem Inv.next (hi:Inv Γ fi all st S B g0 w0 g β Xf Hb a w)(hs:Steady Γ fi all st){i:Nat}(h:Ready Γ fi all S i o){v:Slot}{v':Value}{s1:Fr}(hst:st (i+1)=s1.put o.dst v)
  (hv:SlotR g' β' w' v v') (hgo:GoX (fun k=>∃ t,β t=some k) g g' w w') (hβ:∀ t b,β t=some b→β' t=some b) (hβ2:∀ t b,β' t=some b→β t=some b∨(madeOf fi o=some t∧w.heap.size≤b))
  (hm:Mem g' β' B Xf' Hb' w') (hX1:∀ b,touch fi all o≠some b→Xf' b=Xf b) (hX2:∀ b,touch fi all o=some b→Xf' b=(st (i+1)).X.getD b [])
  (hH1:(qay Γ fi all).eff.getD i 0≠2→Hb'=Hb) (hH2:(qay Γ fi all).eff.getD i 0=2→Hb'=(st (i+1)).H):
  Inv Γ fi all st (fun k=>S k∨k=i) B g0 w0 g' β' Xf' Hb' (a.put o.dst v') w':=by
 have hlt:=h.lt
 have wr:∀ {x:Nat},x∈qcl fi all o→∀ k ok,all[k]?=some ok→x∈qcl fi all ok→((S k∨k=i)↔k < i+1):=by
  intro x hx k ok hok hk
  by_cases e:k=i
  ·subst e;exact⟨fun _=>by omega,fun _=>.inr rfl⟩
  ·have:=h.name (.inr hx) hok hk e
   rw[this]
   exact⟨fun hh=>by rcases hh with hh | hh<;>omega,fun hh=>.inl (by omega)⟩
 have nw:∀ {m k:Nat},k≠i→(S k↔k < m)→((S k∨k=i)↔k < m):=fun hne hh=>by rw[← hh];exact⟨fun h=>h.resolve_right hne,.inl⟩
 refine⟨by rw[put_defers];exact hi.defers,by rw[qtr];exact hi.len,fun t=>?_,fun b=>?_,?_,hm,hi.go.trans' hgo fun k ⟨t,hk⟩=>.inr (hi.blk t k hk),fun t b hb=>?_,fun k ok d hok hk hd=>?_⟩
 ·by_cases hd:o.dst=some t
  ·refine⟨i+1,hlt,fun k ok hok hk=>wr (qfy.2 hd) k ok hok (qfy.2 hk),?_⟩
   rw[hst,qazb,eval_put]
   by_cases hl:t < s1.T.length
   ·have hl2:s1.T.length=(st 0).T.length:=by
     have:=(hs.lens (i+1) hlt).1
     rw[hst,qfdc] at this
     exact this
    rw[if_pos ⟨hd,hl⟩,if_pos ⟨hd,Nat.lt_of_lt_of_le hl (by rw[hl2];exact hi.len)⟩]
    exact hv
   ·rw[if_neg fun hh=>hl hh.2]
    have:s1.slot t=.undef:=by simp[Fr.slot,List.getD_eq_getElem?_getD,List.getElem?_eq_none (Nat.le_of_not_lt hl)]
    rw[this]
    exact .undef _
  ·obtain⟨m,h1,h2,h3⟩:=hi.tmp t
   refine⟨m,h1,fun k ok hok hk=>nw (fun e=>hd ?_) (h2 k ok hok hk),?_⟩
   ·subst e
    rw[h.at'] at hok
    simp only[Option.some.injEq] at hok
    rw[hok];exact hk
   ·rw[eval_put,if_neg fun hh=>hd hh.1]
    exact h3.mono hgo.le hβ hgo.keep
 ·by_cases hd:touch fi all o=some b
  ·exact⟨i+1,hlt,fun k ok hok hk=>wr (qel.2 hd) k ok hok (qel.2 hk),hX2 b hd⟩
  ·obtain⟨m,h1,h2,h3⟩:=hi.box b
   refine⟨m,h1,fun k ok hok hk=>nw (fun e=>hd ?_) (h2 k ok hok hk),by rw[hX1 b hd];exact h3⟩
   subst e
   rw[h.at'] at hok
   simp only[Option.some.injEq] at hok
   rw[hok];exact hk
 ·by_cases he:(qay Γ fi all).eff.getD i 0=2
  ·refine⟨i+1,hlt,fun k ok hok hk=>?_,hH2 he⟩
   by_cases e:k=i
   ·subst e;exact⟨fun _=>by omega,fun _=>.inr rfl⟩
   ·have:=qncb h.reg h.closed h.at' hok h.new h.edges e (.inr he) hk
    rw[this]
    exact⟨fun hh=>by rcases hh with hh | hh<;>omega,fun hh=>.inl (by omega)⟩
  ·obtain⟨m,h1,h2,h3⟩:=hi.heap
   exact⟨m,h1,fun k ok hok hk=>nw (fun e=>he (by rw[← e];exact hk)) (h2 k ok hok hk),by rw[hH1 he];exact h3⟩
 ·rcases hβ2 t b hb with hb | ⟨_,hb⟩
  ·exact hi.blk t b hb
  ·exact Nat.le_trans hi.go.size hb
 ·have hne:k≠i:=fun e=>hk (.inr e)
  have hS:¬ S k:=fun e=>hk (.inl e)
  have h0:=hi.unmade k ok d hok hS hd
  cases hb:β' d with
  | none=>rfl
  | some b=>
   rcases hβ2 d b hb with hb | ⟨hm,_⟩
   ·rw[h0] at hb;simp at hb
   ·exact absurd (qqoc h.nodup hok h.at' hd hm) hne
def qklb (Γ:Ctx)(fi:FI)(ev:FuncId→List AV→List Entry→Option Res)(all:List Oper)(st:Nat→Fr)(i:Nat)(o:Oper)(v:Slot):Prop:=(∃ t x,o.op=.load t x)∧(qay Γ fi all).free.getD i false=true∧∀ m,m≤all.length→(∀ j,j < all.length→(qay Γ fi all).eff.getD j 0=2→(j < i→before (qay Γ fi all).anc j i=true→j < m)∧(i < j→before (qay Γ fi all).anc i j=true→m≤j))→∃ s2,evOp Γ fi ev all o ((st i).setH (st m).H) pair=some (v,s2)
theorem qxcb {ev:FuncId→List AV→List Entry→Option Res}{hs':List (Nat×List Entry)}{v:Slot}{s1:Fr}(hs:Steady Γ fi all st){i:Nat}(ho:all[i]?=some o)(hl:qlu Γ fi (qay Γ fi all) all i o=true)
  (he:evOp Γ fi ev all o (st i) pair=some (v,s1))
  (h1:∀ j,j < all.length→(qay Γ fi all).eff.getD j 0=2→(j,(st j).H)∈hs') (h2:(all.length,(st all.length).H)∈hs')
  (hc:∀ x∈hs',qsbc (qay Γ fi all) all.length i x.1=true→∃ s2,evOp Γ fi ev all o ((st i).setH x.2) pair=some (v,s2)):qklb Γ fi ev all st i o v:=by
 have hi:=(List.getElem?_eq_some_iff.1 ho).1
 unfold qlu at hl
 simp only[Bool.and_eq_true] at hl
 obtain⟨_,hf,hop⟩:=hl
 refine⟨?_,hf,fun m hm hr=>?_⟩
 ·split at hop
  ·exact⟨_,_,by assumption⟩
  ·simp at hop
 have next:∀ (d m:Nat),m+d=all.length→∃ k,m≤k∧k≤all.length∧(k,(st k).H)∈hs'∧∀ j,m≤j→j < k→(qay Γ fi all).eff.getD j 0≠2:=by
  intro d
  induction d with
  | zero=>intro m hm;exact⟨m,Nat.le_refl _,by omega,by rw[show m=all.length by omega];exact h2,fun j h1 h2=>by omega⟩
  | succ d ih=>
   intro m hm
   by_cases e:(qay Γ fi all).eff.getD m 0=2
   ·exact⟨m,Nat.le_refl _,by omega,h1 m (by omega) e,fun j h1 h2=>by omega⟩
   ·obtain⟨k,k1,k2,k3,k4⟩:=ih (m+1) (by omega)
    refine⟨k,by omega,k2,k3,fun j hj hk=>?_⟩
    by_cases ej:j=m
    ·rw[ej];exact e
    ·exact k4 j (by omega) hk
 obtain⟨k,k1,k2,k3,k4⟩:=next (all.length - m) m (by omega)
 have hH:(st m).H=(st k).H:=hs.heap hm k2 fun j oj _ hj=>⟨fun h=>by omega,fun h=>by
  apply Classical.byContradiction
  intro hn
  exact k4 j (by omega) h hj⟩
 rw[hH]
 cases hn:qsbc (qay Γ fi all) all.length i k with
 | true=>exact hc _ k3 hn
 | false=>
  have hfirst:((List.range all.length).all fun j=>!((qay Γ fi all).eff.getD j 0==2)||((!(decide (j < i)&&before (qay Γ fi all).anc j i)||decide (j < k))&&(!(decide (i < j)&&before (qay Γ fi all).anc i j)||decide (k≤j))))=true:=by
   rw[List.all_eq_true]
   intro j hj
   have hj:=List.mem_range.1 hj
   cases he2:(qay Γ fi all).eff.getD j 0==2 with
   | false=>rfl
   | true=>
    have he2:(qay Γ fi all).eff.getD j 0=2:=by simpa using he2
    obtain⟨r1,r2⟩:=hr j hj he2
    have q1:j < i→before (qay Γ fi all).anc j i=true→j < k:=fun a b=>Nat.lt_of_lt_of_le (r1 a b) k1
    have q2:i < j→before (qay Γ fi all).anc i j=true→k≤j:=fun a b=>by
     have:=r2 a b
     apply Classical.byContradiction
     intro hn
     exact k4 j this (by omega) he2
    simp only[Bool.not_true,Bool.false_or,Bool.and_eq_true,Bool.or_eq_true,Bool.not_eq_true',Bool.and_eq_false_iff,decide_eq_false_iff_not,decide_eq_true_eq]
    constructor
    ·by_cases a:j < i
     ·cases b:before (qay Γ fi all).anc j i
      ·exact .inl (.inr rfl)
      ·exact .inr (q1 a b)
     ·exact .inl (.inl a)
    ·by_cases a:i < j
     ·cases b:before (qay Γ fi all).anc i j
      ·exact .inl (.inr rfl)
      ·exact .inr (q2 a b)
     ·exact .inl (.inl a)
  unfold qsbc at hn
  rw[hfirst,Bool.true_and,List.any_eq_false] at hn
  have hH2:(st k).H=(st i).H:=hs.heap k2 (Nat.le_of_lt hi) fun j oj hoj hj=>by
   have hjl:=(List.getElem?_eq_some_iff.1 hoj).1
   have:=hn j (List.mem_range.2 hjl)
   rw[hj] at this
   simp only[beq_self_eq_true,Bool.true_and,Bool.or_eq_true,Bool.and_eq_true,decide_eq_true_eq,not_or,not_and] at this
   constructor
   ·intro h
    apply Classical.byContradiction
    intro hh
    exact this.2 (by omega) h
   ·intro h
    apply Classical.byContradiction
    intro hh
    exact this.1 (by omega) h
  rw[hH2]
  exact⟨s1,he⟩
theorem Inv.run {ev:FuncId→List AV→List Entry→Option Res}{Ok:Nat→World→Prop}(hΓ:CtxOk P Γ)(hF:FiOk P Γ)(hcall:qlx P Γ ev Ok)(hS:Stable Ok)(hN:∀ d∈fi.locs,d < N)(h0:Ok B w0)(hh:HR g0 B H w0)(hB:B≤w0.heap.size)
  (hi:Inv Γ fi all st S B g0 w0 g β Xf Hb a w) (hs:Steady Γ fi all st) (hX:(st 0).X.length=N) {i:Nat} (h:Ready Γ fi all S i o) {v:Slot} {s1:Fr} (hst:st (i+1)=s1.put o.dst v) {fl:Bool}
  (he:qrt Γ fi ev all fl o (st i) pair=some (v,s1)) (hfl:(qay Γ fi all).free.getD i false=fl∨qklb Γ fi ev all st i o v) (Qx:Exit→Act→World→Prop):
  o.wp P a w (fun a' w'=>∃ g' β' Xf' Hb',Inv Γ fi all st (fun k=>S k∨k=i) B g0 w0 g' β' Xf' Hb' a' w') Qx:=by
 have hlook:Looks g β w (st i) a o.op.operands.toList:=fun t ht=>hi.tmp_at hs h (.inl (qyw ht))
 have hxlen:=(hs.lens i (Nat.le_of_lt h.lt)).2.trans hX
 have hbox:∀ b,qlqb all o=some b→Xf b=(st i).X.getD b []:=fun b hb=>hi.box_at hs h (.inl (qvf hb))
 have hmade:∀ d,madeOf fi o=some d→β d=none:=fun d hd=>hi.unmade i o d h.at' h.new hd
 have hOk:=hS.go h0 hh hB hi.go
 rcases hfl with hfl | ⟨⟨t,x,ho⟩,hf,hlo⟩
 rotate_left
 ·obtain⟨m,h1,h2,h3⟩:=hi.heap
  obtain⟨s2,hev⟩:=hlo m h1 fun j hj hj2=>by
   obtain⟨oj,hoj⟩:∃ oj,all[j]?=some oj:=⟨_,List.getElem?_eq_getElem hj⟩
   exact⟨fun hlt hb=>(h2 j oj hoj hj2).1 (qbmc h.reg h.closed i o h.at' h.edges j hlt hb),fun hlt hb=>by
    apply Classical.byContradiction
    intro hn
    have hSj:=(h2 j oj hoj hj2).2 (by omega)
    exact h.new (qbmc h.reg h.closed j oj hoj (h.closed j oj hoj hSj) i hlt hb)⟩
  rw[← h3] at hev
  have hH2:s2.H=Hb:=qehb ho v s2 hev
  have hne:(qay Γ fi all).eff.getD i 0≠2:=by
   rw[qte h.at']
   rw[qiw h.at'] at hf
   unfold qsic
   rw[hf]
   simp
  have htouch:touch fi all o=none:=by simp[touch,madeOf,ho]
  have:=qerd (s:=(st i).setH Hb) (Hb:=Hb) (Hb':=s2.H) (Xf:=Xf) hΓ hF hcall hev (by show ∀ d∈fi.locs,d < (st i).X.length;rw[hxlen];exact hN) hOk hlook hi.mem (.inl ⟨rfl,rfl⟩) hbox hmade Qx
  refine Oper.wp_mono (fun a' w' hp=>?_) this
  obtain⟨v',rfl,g',β',p1,p2,p3,p4,p5,_⟩:=hp
  refine⟨g',β',_,_,hi.next hs h hst p1 p3 p4 p5 p2 (fun b hb=>?_) (fun b hb=>?_) (fun _=>hH2) (fun hh=>absurd hh hne)⟩
  ·rw[htouch]
   rfl
  ·rw[htouch] at hb
   simp at hb
 subst hfl
 cases hf:(qay Γ fi all).free.getD i false with
 | true=>
  rw[hf] at he
  obtain⟨s2,h1,h2,rfl⟩:=qxa he
  have hne:(qay Γ fi all).eff.getD i 0≠2:=by
   rw[qte h.at']
   rw[qiw h.at'] at hf
   unfold qsic
   rw[hf]
   simp
  have:=qerd (s:=(st i).setH []) (Hb:=Hb) (Hb':=Hb) (Xf:=Xf) hΓ hF hcall h1 (by show ∀ d∈fi.locs,d < (st i).X.length;rw[hxlen];exact hN) hOk hlook hi.mem (.inr ⟨qxb h.at' hf,rfl,h2,rfl⟩) hbox hmade Qx
  refine Oper.wp_mono (fun a' w' hp=>?_) this
  obtain⟨v',rfl,g',β',p1,p2,p3,p4,p5,_⟩:=hp
  refine⟨g',β',_,_,hi.next hs h hst p1 p3 p4 p5 p2 (fun b hb=>?_) (fun b hb=>?_) (fun _=>rfl) (fun hh=>absurd hh hne)⟩
  ·cases ht:touch fi all o with
   | none=>rfl
   | some c=>exact qbl _ _ _ _ fun e=>hb (by rw[ht,e])
  ·rw[hst,qym,hb]
   exact upd_same _ _ _
 | false=>
  rw[hf] at he
  have he:evOp Γ fi ev all o (st i) pair=some (v,s1):=he
  have hee:=qqk h.at' hf
  have hHb:=hi.heap_at hs h hee
  have:=qerd (s:=st i) (Hb:=Hb) (Hb':=s1.H) (Xf:=Xf) hΓ hF hcall he (by rw[hxlen];exact hN) hOk hlook hi.mem (.inl ⟨hHb,rfl⟩) hbox hmade Qx
  refine Oper.wp_mono (fun a' w' hp=>?_) this
  obtain⟨v',rfl,g',β',p1,p2,p3,p4,p5,_⟩:=hp
  refine⟨g',β',_,_,hi.next hs h hst p1 p3 p4 p5 p2 (fun b hb=>?_) (fun b hb=>?_) (fun hne=>?_) (fun _=>?_)⟩
  ·cases ht:touch fi all o with
   | none=>rfl
   | some c=>exact qbl _ _ _ _ fun e=>hb (by rw[ht,e])
  ·rw[hst,qym,hb]
   exact upd_same _ _ _
  ·have h1:=(hs i o h.at').heap (qhfb h.at' hne)
   rw[hst,qssb] at h1
   rw[h1,hHb]
  ·rw[hst,qssb]
theorem Inv.pass (hi:Inv Γ fi all st S B g0 w0 g β Xf Hb a w)(hs:Steady Γ fi all st){i:Nat}(h:Ready Γ fi all S i o)(hst:st (i+1)=(st i).put o.dst .skip):
  Inv Γ fi all st (fun k=>S k∨k=i) B g0 w0 g β Xf Hb (a.put o.dst undef) w:=
 hi.next hs h hst .skip (.refl _ g w) (fun _ _ h=>h) (fun _ _ h=>.inl h) hi.mem (fun _ _=>rfl) (fun b hb=>by rw[hst,qym];exact hi.box_at hs h (.inr (qel.2 hb))) (fun _=>rfl)
  (fun he=>by rw[hst,qssb];exact hi.heap_at hs h (.inr he))
end
end Go.Ev
