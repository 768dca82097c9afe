/- Soundness of the evaluator's operations that make memory. No program occurs here; conditions: what each lemma names. -/
import Derived.Test.YteofbfalngmmeaaGreatDoorEvG
namespace Go.Ev
open Go
def upd {α:Type}(f:Nat→α)(i:Nat)(v:α):Nat→α:=fun j=>if j=i then v else f j
theorem upd_same {α:Type}(f:Nat→α)(i:Nat)(v:α):upd f i v i=v:=by simp[upd]
theorem qbl {α:Type}(f:Nat→α)(i j:Nat)(v:α)(h:j≠i):upd f i v j=f j:=by simp[upd,h]
section
variable {P:Program} {Γ:Ctx} {g:Gh} {β:Nat→Option Nat} {w:World} {a:Act} {s:Fr} {α:Type} {r:α} {o:Oper} {B:Nat} {H Hb:List Entry} {Xf:Nat→List Cell}
theorem Mem.go1 (hm:Mem g β B Xf Hb w)(ob:Obj):Go1 g g w (w.alloc ob):=
 .alloc g w ob g (.refl g) (fun id o' h=>.inl ⟨id,o',h,rfl⟩) (fun _ _ h=>.inl h) hm.heap.plt
theorem EntR.alloc {g':Gh}{e:Entry}{ow:Own}{ob:Obj}(h:EntR g w B e ow)(k:Go1 g g' w (w.alloc ob))(hp:∀ j,g'.prot ow.blk j→g.prot ow.blk j):EntR g' (w.alloc ob) B e ow:=
 h.keep k.le k.keep (alloc_old w ob _ h.lt) hp
theorem Mem.alloc (hm:Mem g β B Xf Hb w)(ob:Obj):Mem g β B Xf Hb (w.alloc ob):=by
 have k:=hm.go1 ob
 refine hm.boxes k ⟨fun id o ho=>?_,hm.heap.inj,fun b j h=>Nat.lt_of_lt_of_le (hm.heap.plt b j h) k.size,hm.heap.bldSame rfl fun id o ho=>?_⟩
 ·obtain⟨e,h1,h2⟩:=hm.heap.ent id o ho
  exact⟨e,h1,h2.alloc k fun _ h=>h⟩
 ·obtain⟨e,h1,h2⟩:=hm.heap.ent id o ho
  exact alloc_old w ob _ h2.lt
theorem Mem.box_new (hm:Mem g β B Xf Hb w){d:Nat}(hd:β d=none){cs:List Cell}{vs:List Value}(hv:RL g w cs vs)(t:TypeId):
  Mem g (upd β d (some w.heap.size)) B (upd Xf d cs) Hb (w.alloc (.cells vs.toArray t)):=by
 have k:=hm.go1 (.cells vs.toArray t)
 have hm':=hm.alloc (.cells vs.toArray t)
 refine⟨hm'.heap,fun u blk hu=>?_,fun u v b hu hv=>?_,fun u b id o hu ho=>?_,hm'.size⟩
 ·by_cases e:u=d
  ·subst e
   rw[upd_same] at hu
   simp only[Option.some.injEq] at hu
   subst hu
   rw[upd_same]
   refine⟨hm.size,⟨vs.toArray,t,(0,0),qiz _ _ _,by simpa using hv.mono k.le k.keep,fun j _=>qih _ _ _ _⟩,fun j hj=>?_⟩
   have:=hm.heap.plt _ _ hj
   omega
  ·rw[qbl _ _ _ _ e] at hu ⊢
   exact hm'.box u blk hu
 ·by_cases e1:u=d<;>by_cases e2:v=d
  ·rw[e1,e2]
  ·subst e1
   rw[upd_same] at hu
   rw[qbl _ _ _ _ e2] at hv
   have:=(hm.box v b hv).lt
   simp only[Option.some.injEq] at hu
   omega
  ·subst e2
   rw[upd_same] at hv
   rw[qbl _ _ _ _ e1] at hu
   have:=(hm.box u b hu).lt
   simp only[Option.some.injEq] at hv
   omega
  ·rw[qbl _ _ _ _ e1] at hu
   rw[qbl _ _ _ _ e2] at hv
   exact hm.inj u v b hu hv
 ·by_cases e:u=d
  ·subst e
   rw[upd_same] at hu
   simp only[Option.some.injEq] at hu
   obtain⟨en,h1,h2⟩:=hm.heap.ent id o ho
   have:=h2.lt
   omega
  ·rw[qbl _ _ _ _ e] at hu
   exact hm'.sep u b id o hu ho
def Gh.put (g:Gh)(id:Nat)(o:Own):Gh:=⟨upd g.own id (some o),g.prot⟩
theorem qfpc {id:Nat}{o0:Own}{H':List Entry}{w':World}(h:HR g B H w)(hn:∀ o1,g.own id=some o1→o1.kd=0)(h0:o0.kd=0)(hH:∀ i,i≠id→H'[i]?=H[i]?)(hw:∀ i o,g.own i=some o→i≠id→w'.heap[o.blk]?=w.heap[o.blk]?):
  ∀ i o,(g.put id o0).own i=some o→o.kd=4→BldR (g.put id o0) w' H' i o:=by
 have other:∀ i,i≠id→(g.put id o0).own i=g.own i:=fun i e=>qbl _ _ _ _ e
 refine h.bldKeep (fun i o h1 h2=>?_) fun i o h1 h2=>?_
 ·have e:i≠id:=by
   intro e
   subst e
   have:upd g.own i (some o0) i=some o:=h1
   rw[upd_same] at this
   simp only[Option.some.injEq] at this
   subst this
   omega
  rw[other i e] at h1
  refine⟨h1,fun e' he=>⟨e',by rw[hH i e];exact he,rfl⟩,fun o2 h3 h4=>?_⟩
  rw[other (i+1) fun e2=>?_]
  ·exact h3
  ·have:=hn o2 (by rw[← e2];exact h3)
   omega
 ·refine hw i o h1 fun e=>?_
  have:=hn o (by rw[← e];exact h1)
  omega
theorem Gh.put_le {id:Nat}(hn:g.own id=none)(o:Own):g.Le (g.put id o):=by
 refine⟨fun _ _ h=>h,fun i o' hi=>⟨o',?_,Nat.le_refl _,fun _=>rfl⟩⟩
 have:i≠id:=fun e=>by rw[e,hn] at hi;simp at hi
 show upd g.own id (some o) i=_
 rw[qbl _ _ _ _ this];exact hi
theorem Mem.own_new (hm:Mem g β B Xf Hb w){id:Nat}(hn:g.own id=none){e:Entry}(he:Hb[id]?=some e){vs:List Value}{rest:List Value}{sz:Nat}(hsz:e.sz=sz)
  (hrow:∀ row∈e.rows,row.length=sz) (hv:RL g w e.rows.flatten vs) (t:TypeId):
  let o:Own:=⟨w.heap.size,0,sz,vs.length+rest.length,e.ep,0⟩
  Mem (g.put id o) β B Xf Hb (w.alloc (.cells (vs++rest).toArray t))∧Go1 g (g.put id o) w (w.alloc (.cells (vs++rest).toArray t)):=by
 intro o
 have hle:=Gh.put_le hn o
 have hown:∀ i o',(g.put id o).own i=some o'→(i=id∧o'=o)∨(i≠id∧g.own i=some o'):=by
  intro i o' hi
  by_cases e:i=id
  ·subst e
   have:upd g.own i (some o) i=some o':=hi
   rw[upd_same] at this
   simp only[Option.some.injEq] at this
   exact .inl ⟨rfl,this.symm⟩
  ·have:upd g.own id (some o) i=some o':=hi
   rw[qbl _ _ _ _ e] at this
   exact .inr ⟨e,this⟩
 have k:Go1 g (g.put id o) w (w.alloc (.cells (vs++rest).toArray t)):=by
  refine .alloc g w _ _ hle (fun i o' hi=>?_) (fun _ _ h=>.inl h) hm.heap.plt
  rcases hown i o' hi with⟨_,rfl⟩ | ⟨_,h⟩
  ·exact .inr rfl
  ·exact .inl ⟨i,o',h,rfl⟩
 refine⟨hm.boxes k ⟨fun i o' hi=>?_,fun i j o1 o2 h1 h2 hb=>?_,fun b j h=>Nat.lt_of_lt_of_le (hm.heap.plt b j h) k.size,qfpc hm.heap (fun o1 h=>by rw[hn] at h;simp at h) rfl (fun _ _=>rfl) fun i o' h _=>?_⟩,k⟩
 ·rcases hown i o' hi with⟨rfl,rfl⟩ | ⟨_,h⟩
  ·refine⟨e,he,hm.size,hsz,rfl,by simp[o],fun _=>?_,fun h=>by simp[o] at h,fun j hj=>?_⟩
   ·have hfl:=qbf hrow
    have hlen:vs.length=e.rows.length*sz:=by rw[hv.length,hfl]
    refine⟨(vs++rest).toArray,t,(0,0),qiz _ _ _,by simp[o];omega,by simp[o],hrow,fun j _=>qih _ _ _ _,fun i j row cl h1 h2=>?_⟩
    obtain⟨v,h3,h4⟩:=hv.get (qfk hrow h1 h2)
    refine⟨v,?_,h4.mono k.le k.keep⟩
    have hlt:=(List.getElem?_eq_some_iff.1 h3).1
    simp only[o,Nat.zero_add,List.getElem?_toArray]
    rw[List.getElem?_append_left hlt,h3]
   ·have:=hm.heap.plt _ _ hj
    simp only[o] at this
    omega
  ·obtain⟨en,h1,h2⟩:=hm.heap.ent i o' h
   exact⟨en,h1,h2.alloc k fun _ h=>h⟩
 ·rcases hown i o1 h1 with⟨rfl,rfl⟩ | ⟨e1,h1'⟩<;>rcases hown j o2 h2 with⟨rfl,rfl⟩ | ⟨e2,h2'⟩
  ·rfl
  ·obtain⟨en,_,h3⟩:=hm.heap.ent j o2 h2'
   have:=h3.lt
   simp only[o] at hb
   omega
  ·obtain⟨en,_,h3⟩:=hm.heap.ent i o1 h1'
   have:=h3.lt
   simp only[o] at hb
   omega
  ·exact hm.heap.inj i j o1 o2 h1' h2' hb
 ·obtain⟨en,_,h3⟩:=hm.heap.ent i o' h
  exact alloc_old w _ _ h3.lt
def Gh.prot1 (g:Gh)(b:Nat):Gh:=⟨g.own,fun x j=>g.prot x j∨x=b⟩
theorem Mem.lst_new (hm:Mem g β B Xf Hb w)(ob:Obj):
  Mem (g.prot1 w.heap.size) β B Xf Hb (w.alloc ob)∧Go1 g (g.prot1 w.heap.size) w (w.alloc ob):=by
 have hle:g.Le (g.prot1 w.heap.size):=⟨fun _ _ h=>.inl h,fun _ o h=>⟨o,h,Nat.le_refl _,fun _=>rfl⟩⟩
 have k:Go1 g (g.prot1 w.heap.size) w (w.alloc ob):=.alloc g w _ _ hle (fun i o' hi=>.inl ⟨i,o',hi,rfl⟩) (fun _ _ h=>h) hm.heap.plt
 refine⟨hm.boxes k ⟨fun i o' hi=>?_,hm.heap.inj,fun b j h=>?_,hm.heap.bldSame rfl fun i o' hi=>?_⟩,k⟩
 ·obtain⟨en,h1,h2⟩:=hm.heap.ent i o' hi
  exact⟨en,h1,h2.alloc k fun j h=>h.resolve_right (by have:=h2.lt;omega)⟩
 ·rcases h with h | h
  ·exact Nat.lt_of_lt_of_le (hm.heap.plt b j h) k.size
  ·rw[h];simp
 ·obtain⟨en,h1,h2⟩:=hm.heap.ent i o' hi
  exact alloc_old w ob _ h2.lt
theorem Post.mk {g':Gh}{β':Nat→Option Nat}{v:Slot}{v':Value}{w':World}{Xf':Nat→List Cell}{H' Hb':List Entry}{made:Option Nat}(h1:SlotR g' β' w' v v')(h2:Mem g' β' B Xf' Hb' w')
  (h3:GoX (fun k=>∃ t,β t=some k) g g' w w')
  (h4:∀ t b,β t=some b→β' t=some b) (h5:∀ t b,β' t=some b→β t=some b∨(made=some t∧w.heap.size≤b)) (h6:∀ id o,g'.own id=some o→(∃ o0,g.own id=some o0)∨(H.length≤id∧id < H'.length)∨True):
  Post g β B Xf' H H' Hb' w made v v' w':=⟨g',β',h1,h2,h3,h4,h5,h6⟩
theorem qod (t:TypeId)(v:Value):(newVar t v).run P w=.ok ⟨w.heap.size,0,none⟩ (w.alloc (.cells v.cells t)):=by
 simp[newVar,newRow,newObj,Sem.run]
theorem qrc {id:Nat}{o o':Own}{i:Nat}(h:(g.put id o).own i=some o'):(∃ o0,g.own i=some o0)∨i=id:=by
 by_cases e:i=id
 ·exact .inr e
 ·have:upd g.own id (some o) i=some o':=h
  rw[qbl _ _ _ _ e] at this
  exact .inl ⟨o',this⟩
theorem qhv (v:Value):v.cells.toList.toArray=v.cells:=by simp
theorem qebc (hm:Mem g β B Xf Hb w)(t:TypeId){q:Ty}{v:Value}{cs:List Cell}(hv:RL g w cs v.cells.toList)(hl:cs.length=q.size):
  (∀ d,β d=none→Post g β B (upd Xf d cs) H H Hb w (some d) (.loc d 0) (.pointer (some ⟨w.heap.size,0,none⟩)) (w.alloc (.cells v.cells t)))∧
  (HLe (H++[⟨q.size,[cs],0,false⟩]) Hb→g.own H.length=none→Post g β B Xf H (H++[⟨q.size,[cs],0,false⟩]) Hb w none (.av (.one (.ptr H.length q.size 0 0 0))) (.pointer (some ⟨w.heap.size,0,none⟩)) (w.alloc (.cells v.cells t))):=by
 refine⟨fun d hd=>?_,fun hH hn=>?_⟩
 ·have h1:=hm.box_new hd hv t
  have k:=hm.go1 (.cells v.cells t)
  rw[qhv] at h1
  refine .mk (.loc d 0 _ (upd_same _ _ _)) h1 (.weaken k) (fun u b hu=>?_) (fun u b hu=>?_) fun id o ho=>.inl ⟨o,ho⟩
  ·rw[qbl _ _ _ _ fun e=>by rw[e,hd] at hu;simp at hu];exact hu
  ·by_cases e:u=d
   ·subst e
    rw[upd_same] at hu
    simp only[Option.some.injEq] at hu
    exact .inr ⟨rfl,by omega⟩
   ·rw[qbl _ _ _ _ e] at hu;exact .inl hu
 ·obtain⟨e',h1,h2,h3,h4,h5⟩:=hH H.length ⟨q.size,[cs],0,false⟩ (by simp)
  obtain⟨m1,m2⟩:=hm.own_new hn h1 (rest:=[]) (sz:=q.size) h2 (by rw[h3];simp[hl]) (by rw[h3];simpa using hv) t
  simp only[List.append_nil,qhv] at m1 m2
  refine .mk (.mk1 (.ptr _ _ _ _ _ _ _ (upd_same _ _ _) (Nat.zero_le _) (fun _=>⟨rfl,by simp⟩) fun _=>rfl)) m1 (.weaken m2) (fun _ _ h=>h) (fun _ _ h=>.inl h) fun id o ho=>?_
  rcases qrc ho with h | h
  ·exact .inl h
  ·exact .inr (by rw[h];simp)
theorem qqx {e:TypeId}{q:Ty}{d:Nat}(hΓ:CtxOk P Γ)(ho:o.op=.alloc e)(hq:Γ.ty e=some q)(hm:Mem g β B Xf Hb w):
  (β d=none→qea P a o w (Post g β B (upd Xf d q.zero) H H Hb w (some d) (.loc d 0)))∧
  (HLe (H++[⟨q.size,[q.zero],0,false⟩]) Hb→g.own H.length=none→qea P a o w (Post g β B Xf H (H++[⟨q.size,[q.zero],0,false⟩]) Hb w none (.av (.one (.ptr H.length q.size 0 0 0))))):=by
 have hq':=hΓ.ty _ _ hq
 obtain⟨z,hz,rz⟩:=hq'.run_zero (w:=w)
 have h:=qebc (H:=H) hm e (q:=q) (v:=z) (rz.map fun c v hh=>hh.r g w) hq'.zero
 have hrun:(execOp a.eval o).run P w=.ok (.value (.pointer (some ⟨w.heap.size,0,none⟩))) (w.alloc (.cells z.cells e)):=by
  simp[execOp,ho,Instr.alloc,hz,qod]
 exact⟨fun hd=>.value hrun (h.1 d hd),fun h1 h2=>.value hrun (h.2 h1 h2)⟩
theorem qflb {e:TypeId}{q:Ty}{d:Nat}{x:Operand}{v:AV}(ho:o.op=.box e x)(hl:Looks g β w s a o.op.operands.toList)(hx:opd Γ s e x=.av v)(hsz:v.cells.length=q.size)(hm:Mem g β B Xf Hb w):
  (β d=none→qea P a o w (Post g β B (upd Xf d v.cells) H H Hb w (some d) (.loc d 0)))∧
  (HLe (H++[⟨q.size,[v.cells],0,false⟩]) Hb→g.own H.length=none→qea P a o w (Post g β B Xf H (H++[⟨q.size,[v.cells],0,false⟩]) Hb w none (.av (.one (.ptr H.length q.size 0 0 0))))):=by
 have h1:=qfg (Γ:=Γ) hl e (x:=x) (by simp[ho,Op.operands])
 rw[hx] at h1
 have h:=qebc (H:=H) hm e (q:=q) (v:=a.eval x) h1.av'.cells hsz
 have hrun:(execOp a.eval o).run P w=.ok (.value (.pointer (some ⟨w.heap.size,0,none⟩))) (w.alloc (.cells (a.eval x).cells e)):=by
  simp[execOp,ho,Instr.box,qod]
 exact⟨fun hd=>.value hrun (h.1 d hd),fun h1 h2=>.value hrun (h.2 h1 h2)⟩
theorem qwl {c c':Cell}{v:Value}(h:R g w c v)(hp:qfkb c=some c'):c'=c∧Pur c:=by
 unfold qfkb at hp
 split at hp
 ·simp only[Option.some.injEq] at hp;subst hp;exact⟨rfl,.sc _⟩
 ·simp only[Option.some.injEq] at hp;subst hp;exact⟨rfl,h.lstPur⟩
 ·simp at hp
theorem qijb {sz n:Nat}{cs:List Cell}(h:cs.length=n*sz):(chunks sz n cs).length=n∧(∀ row∈chunks sz n cs,row.length=sz)∧(chunks sz n cs).flatten=cs:=by
 induction n generalizing cs with
 | zero=>simp at h;simp[chunks,h]
 | succ n ih=>
  rw[Nat.add_mul] at h
  obtain⟨h1,h2,h3⟩:=ih (cs:=cs.drop sz) (by simp;omega)
  simp only[chunks,List.length_cons,h1,List.flatten_cons,h3,List.take_append_drop,List.mem_cons,forall_eq_or_imp,true_and,and_true]
  exact⟨by simp;omega,h2⟩
theorem qwh {sz n:Nat}{row:List Cell}{zs:List Value}(h:RL g w row zs)(hl:row.length=sz):
  RL g w (qdd n row).flatten ((List.range (n*sz)).map fun i=>(zs.toArray)[i % zs.toArray.size]!):=by
 have hz:zs.length=sz:=by rw[h.length,hl]
 refine RL.of_get ?_ fun i c v h1 h2=>?_
 ·rw[List.length_map,List.length_range,qbf (sz:=sz) (by intro r hr;rw[qdd] at hr;rw[List.eq_of_mem_replicate hr,hl])]
  simp[qdd]
 ·by_cases hs:0 < sz
  ·obtain⟨r,h3,h4⟩:=qnc (sz:=sz) (by intro r hr;rw[qdd] at hr;rw[List.eq_of_mem_replicate hr,hl]) h1 hs
   have hr:r=row:=by
    rw[qdd] at h3
    exact List.eq_of_mem_replicate (List.mem_of_getElem? h3)
   subst hr
   obtain⟨u,h5,h6⟩:=h.get h4
   rw[List.getElem?_map] at h2
   cases hi:(List.range (n*sz))[i]? with
   | none=>rw[hi] at h2;simp at h2
   | some j=>
    rw[hi] at h2
    have:j=i:=by
     have:=List.getElem?_eq_some_iff.1 hi
     obtain⟨h7,h8⟩:=this
     simp at h8
     exact h8.symm
    subst this
    simp only[Option.map_some,Option.some.injEq] at h2
    have hlt:=(List.getElem?_eq_some_iff.1 h5).1
    have e:(zs.toArray)[j % zs.toArray.size]! =u:=by
     have e1:zs.toArray.size=sz:=by simpa using hz
     rw[e1]
     have:(zs.toArray)[j % sz]?=some u:=by simpa using h5
     rw[getElem!_def,this]
    rw[← h2,e]
    exact h6
  ·have hs0:sz=0:=by omega
   have:(qdd n row).flatten.length=0:=by
    rw[qbf (sz:=sz) (by intro r hr;rw[qdd] at hr;rw[List.eq_of_mem_replicate hr,hl]),hs0,Nat.mul_zero]
   rw[List.length_eq_zero_iff.1 this] at h1
   simp at h1
theorem qgy (t:TypeId)(c:Array Value):(newRow t c).run P w=.ok ⟨w.heap.size,0,none⟩ (w.alloc (.cells c t)):=by
 simp[newRow,newObj,Sem.run]
end
end Go.Ev
