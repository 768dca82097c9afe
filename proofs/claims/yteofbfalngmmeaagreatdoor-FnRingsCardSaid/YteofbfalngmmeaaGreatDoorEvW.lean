/- Maps and builders of the evaluator: how they are made, what a map is asked, what is written into it. No program occurs here; conditions: what each lemma names. -/
import Derived.Test.YteofbfalngmmeaaGreatDoorEvM
import Derived.MapKept
set_option linter.unusedVariables false
set_option linter.unusedSimpArgs false
namespace Go.Ev
open Go Go.MapKept
section
variable {P:Program} {Γ:Ctx} {g:Gh} {β:Nat→Option Nat} {w:World} {a:Act} {s:Fr} {α:Type} {r:α} {o:Oper} {B:Nat} {H Hb:List Entry} {Xf:Nat→List Cell}
theorem BldR.keep {g g':Gh}{w w':World}{H H':List Entry}{id:Nat}{o:Own}(hb:BldR g w H id o)(he:∀ e,H[id]?=some e→∃ e',H'[id]?=some e'∧e'.rows=e.rows)
  (h2:∀ o2,g.own (id+1)=some o2→o2.kd=3→g'.own (id+1)=some o2) (hw:w'.heap[o.blk]?=w.heap[o.blk]?) (hw2:∀ o2,g.own (id+1)=some o2→o2.kd=3→w'.heap[o2.blk]?=w.heap[o2.blk]?):BldR g' w' H' id o:=by
 obtain⟨l,p,v,en,m1,m2,m3,m4,m5,m6⟩:=hb
 obtain⟨e',n1,n2⟩:=he en m1
 refine⟨l,p,v,e',n1,n2.trans m2,m3,hw.trans m4,⟨m5.1,?_⟩,fun k hk=>?_⟩
 ·rcases m5.2 with q | ⟨gg,cap,cur,q1,q2,q3,q4⟩
  ·exact .inl q
  ·obtain⟨o2,r1,r2,r3⟩:=m6 gg (by rw[q1];rfl)
   refine .inr ⟨gg,cap,cur,q1,q2,?_,q4⟩
   rw[← r3,hw2 o2 r1 r2,r3]
   exact q3
 ·obtain⟨o2,r1,r2,r3⟩:=m6 k hk
  exact⟨o2,h2 o2 r1 r2,r2,r3⟩
theorem Mem.own_obj (hm:Mem g β B Xf Hb w){id:Nat}(hn:g.own id=none){e:Entry}(he:Hb[id]?=some e){ob:Obj}{o:Own}(hb:o.blk=w.heap.size)(hsz:e.sz=o.sz)(hep:e.ep=o.ep)(h0:o.kd≠0)
  (hmp:o.kd=1→∃ (es:Array MapEntry) (clock:Nat),ob=.map es clock∧All2 MapR e.rows es.toList) (hbld:o.kd=4→BldR (g.put id o) (w.alloc ob) Hb id o):
  Mem (g.put id o) β B Xf Hb (w.alloc ob)∧Go1 g (g.put id o) w (w.alloc ob):=by
 have hle:=Gh.put_le hn o
 have hown:∀ i o',(g.put id o).own i=some o'→(i=id∧o'=o)∨(i≠id∧g.own i=some o'):=by
  intro i o' hi
  by_cases e:i=id
  ·subst e
   have:upd g.own i (some o) i=some o':=hi
   rw[upd_same] at this
   simp only[Option.some.injEq] at this
   exact .inl ⟨rfl,this.symm⟩
  ·have:upd g.own id (some o) i=some o':=hi
   rw[qbl _ _ _ _ e] at this
   exact .inr ⟨e,this⟩
 have k:Go1 g (g.put id o) w (w.alloc ob):=by
  refine .alloc g w _ _ hle (fun i o' hi=>?_) (fun _ _ h=>.inl h) hm.heap.plt
  rcases hown i o' hi with⟨_,rfl⟩ | ⟨_,h⟩
  ·exact .inr hb
  ·exact .inl ⟨i,o',h,rfl⟩
 refine⟨hm.boxes k ⟨fun i o' hi=>?_,fun i j o1 o2 h1 h2 hbb=>?_,fun b j h=>Nat.lt_of_lt_of_le (hm.heap.plt b j h) k.size,fun i o' hi hk=>?_⟩,k⟩
 ·rcases hown i o' hi with⟨rfl,rfl⟩ | ⟨_,h⟩
  ·refine⟨e,he,by rw[hb];exact hm.size,hsz,hep,by rw[hb];show w.heap.size < (w.heap.push ob).size;rw[Array.size_push];exact Nat.lt_succ_self _,fun h=>absurd h h0,fun h=>?_,fun j hj=>?_⟩
   ·obtain⟨es,clock,h1,h2⟩:=hmp h
    exact⟨es,clock,by rw[hb,(heap_alloc w ob).1,h1],h2⟩
   ·have:=hm.heap.plt _ _ hj
    omega
  ·obtain⟨en,h1,h2⟩:=hm.heap.ent i o' h
   exact⟨en,h1,h2.alloc k fun _ h=>h⟩
 ·rcases hown i o1 h1 with⟨rfl,rfl⟩ | ⟨e1,h1'⟩<;>rcases hown j o2 h2 with⟨rfl,rfl⟩ | ⟨e2,h2'⟩
  ·rfl
  ·obtain⟨en,_,h3⟩:=hm.heap.ent j o2 h2'
   have:=h3.lt
   omega
  ·obtain⟨en,_,h3⟩:=hm.heap.ent i o1 h1'
   have:=h3.lt
   omega
  ·exact hm.heap.inj i j o1 o2 h1' h2' hbb
 ·rcases hown i o' hi with⟨rfl,rfl⟩ | ⟨_,h⟩
  ·exact hbld hk
  ·have hal:∀ i o1,g.own i=some o1→(w.alloc ob).heap[o1.blk]?=w.heap[o1.blk]?:=fun i o1 h1=>by
    obtain⟨en,_,h3⟩:=hm.heap.ent i o1 h1
    exact alloc_old w ob _ h3.lt
   refine(hm.heap.bld i o' h hk).keep (fun e he=>⟨e,he,rfl⟩) (fun o2 h1 _=>?_) (hal i o' h) fun o2 h1 _=>hal _ o2 h1
   refine(qbl _ _ _ _ fun e=>?_).trans h1
   rw[e,hn] at h1
   simp at h1
theorem qcbd {e b:TypeId}{q:Ty}(hΓ:CtxOk P Γ)(ho:o.op=.alloc e)(hq:Γ.ty e=some q)(hb:q.kd=.bld b)(hm:Mem g β B Xf H w):
  qea P a o w (Post g β B Xf H (H++[⟨1,[[.sc (.string ⟨#[]⟩)]],0,false⟩,⟨1,[],0,false⟩]) (H++[⟨1,[[.sc (.string ⟨#[]⟩)]],0,false⟩,⟨1,[],0,false⟩]) w none
   (.av (.one (.bl e b H.length 0)))):=by
 have hk:=(hΓ.ty _ _ hq).kd
 rw[hb] at hk
 obtain⟨_,i,hi,hz⟩:=hk
 have hrun:(execOp a.eval o).run P w=.ok (.value (.pointer (some ⟨w.heap.size,0,none⟩))) (w.alloc (.cells #[.pointer none,.slice none 0 0] e)):=by
  have:(zeroValue e).run P w=.ok (.agg #[.pointer none,.slice none 0 0]) w:=by simp[zeroValue,typeInfo,hi,hz]
  simp[execOp,ho,Instr.alloc,this,qod,Value.cells]
 refine .value hrun ?_
 have hmm:=hm.more (.append H [⟨1,[[.sc (.string ⟨#[]⟩)]],0,false⟩,⟨1,[],0,false⟩])
 have hn:g.own H.length=none:=hm.fresh (Nat.le_refl _)
 have hn1:g.own (H.length+1)=none:=hm.fresh (by omega)
 have hee:(H++[(⟨1,[[.sc (.string ⟨#[]⟩)]],0,false⟩:Entry),⟨1,[],0,false⟩])[H.length]?=some ⟨1,[[.sc (.string ⟨#[]⟩)]],0,false⟩:=by simp
 obtain⟨m1,m2⟩:=hmm.own_obj hn hee (ob:=.cells #[.pointer none,.slice none 0 0] e) (o:=⟨w.heap.size,e,1,b,0,4⟩) rfl rfl rfl (by simp) (by simp)
  (fun _=>⟨[],.pointer none,.slice none 0 0,_,hee,rfl,.inl rfl,qiz _ _ _,⟨by simp,.inl ⟨rfl,rfl⟩⟩,fun k hk=>by simp[Value.ownBlock] at hk⟩)
 refine .mk (.mk1 (.bl _ _ _ _ _ _ (upd_same _ _ _) (Nat.le_refl _) fun _=>⟨rfl,rfl,rfl,rfl⟩)) m1 (.weaken m2) (fun _ _ h=>h) (fun _ _ h=>.inl h) fun id o ho=>?_
 rcases qrc ho with h | h
 ·exact .inl h
 ·exact .inr (by rw[h];simp)
theorem qvuc {t:TypeId}(ho:o.op=.makeMap t none)(hm:Mem g β B Xf H w):
  qea P a o w (Post g β B Xf H (H++[⟨2,[],0,false⟩]) (H++[⟨2,[],0,false⟩]) w none (.av (.one (.mp H.length 0)))):=by
 have hrun:(execOp a.eval o).run P w=.ok (.value (.map (some w.heap.size))) (w.alloc (.map #[] 0)):=by
  simp[execOp,ho,Instr.makeMap,Result.andThen]
 refine .value hrun ?_
 have hmm:=hm.more (.append H [⟨2,[],0,false⟩])
 have hn:g.own H.length=none:=hm.fresh (Nat.le_refl _)
 have hee:(H++[(⟨2,[],0,false⟩:Entry)])[H.length]?=some ⟨2,[],0,false⟩:=by simp
 obtain⟨m1,m2⟩:=hmm.own_obj hn hee (ob:=.map #[] 0) (o:=⟨w.heap.size,0,2,0,0,1⟩) rfl rfl rfl (by simp) (fun _=>⟨#[],0,rfl,All2.nil⟩) (by simp)
 refine .mk (.mk1 (.mp _ _ _ _ (upd_same _ _ _) (Nat.le_refl _) fun _=>⟨rfl,rfl⟩)) m1 (.weaken m2) (fun _ _ h=>h) (fun _ _ h=>.inl h) fun id o ho=>?_
 rcases qrc ho with h | h
 ·exact .inl h
 ·exact .inr (by rw[h];simp)
theorem qqv {t:TypeId}(hΓ:CtxOk P Γ)(h:qjyb Γ t=true):∃ k e,P.underlying t=some (.map k e)∧P.underlying k=some .string∧∀ w:World,(zeroValue e).run P w=.ok (.int .i64 0) w:=by
 unfold qjyb at h
 split at h
 ·rename_i k e _ _ _ _ ht
  split at h
  ·rename_i hk he
   have h1:=(hΓ.ty _ _ ht).kd
   have h2:=(hΓ.ty _ _ hk).kd
   exact⟨k,e,h1,h2,(hΓ.ty _ _ he).zero_int rfl rfl⟩
  ·simp at h
 ·simp at h
theorem qizb {rows:List (List Cell)}{es:List MapEntry}(h:All2 MapR rows es){k:ByteArray}{n:Int}(hg:qvr rows k=some n):
  ∀ i,(Instr.findNow .string (.string k) es i=some none∧n=0)∨∃ j,Instr.findNow .string (.string k) es i=some (some (j,.int .i64 n)):=by
 induction h generalizing n with
 | nil=>intro i;simp[qvr] at hg;exact .inl ⟨rfl,hg.symm⟩
 | cons hr _ ih=>
  obtain⟨k',m,rfl,e1,e2⟩:=hr
  intro i
  simp only[qvr] at hg
  by_cases hk:k'=k
  ·rw[(bytes_beq _ _).2 hk] at hg
   simp only[cond_true,Option.some.injEq] at hg
   refine .inr ⟨i,?_⟩
   simp[Instr.findNow,e1,e2,Instr.sameNow,(bytes_beq _ _).2 hk.symm,hg]
  ·have hb:(k'==k)=false:=by cases h:(k'==k);rfl;exact absurd ((bytes_beq _ _).1 h) hk
   have hb':(k==k')=false:=by cases h:(k==k');rfl;exact absurd ((bytes_beq _ _).1 h).symm hk
   rw[hb] at hg
   simp only[cond_false] at hg
   simp only[Instr.findNow,e1,Instr.sameNow,hb']
   exact ih hg (i+1)
theorem qknb {rows rows':List (List Cell)}{es:List MapEntry}(h:All2 MapR rows es){k:ByteArray}{n:Int}(hg:qyh rows k n=some rows'):
  ∀ i,(Instr.findNow .string (.string k) es i=some none∧∀ b,All2 MapR rows' (es++[⟨.string k,.int .i64 n,b⟩]))∨
   ∃ j e,Instr.findNow .string (.string k) es i=some (some (i+j,e.val))∧es[j]?=some e∧e.key=.string k∧All2 MapR rows' (es.set j {e with key:=.string k,val:=.int .i64 n}):=by
 induction h generalizing rows' with
 | nil=>
  intro i
  simp only[qyh,Option.some.injEq] at hg
  subst hg
  exact .inl ⟨rfl,fun b=>.cons ⟨_,_,rfl,rfl,rfl⟩ .nil⟩
 | cons hr ht ih=>
  obtain⟨k',m,rfl,e1,e2⟩:=hr
  rename_i e es _
  intro i
  simp only[qyh] at hg
  by_cases hk:k'=k
  ·rw[(bytes_beq _ _).2 hk] at hg
   simp only[cond_true,Option.some.injEq] at hg
   subst hg
   refine .inr ⟨0,e,?_,rfl,by rw[e1,hk],.cons ⟨k,n,by rw[hk],rfl,rfl⟩ ht⟩
   simp[Instr.findNow,e1,Instr.sameNow,(bytes_beq _ _).2 hk.symm]
  ·have hb:(k'==k)=false:=by cases h:(k'==k);rfl;exact absurd ((bytes_beq _ _).1 h) hk
   have hb':(k==k')=false:=by cases h:(k==k');rfl;exact absurd ((bytes_beq _ _).1 h).symm hk
   rw[hb] at hg
   simp only[cond_false,Option.map_eq_some_iff] at hg
   obtain⟨q,hq,rfl⟩:=hg
   simp only[Instr.findNow,e1,Instr.sameNow,hb']
   rcases ih hq (i+1) with⟨h1,h2⟩ | ⟨j,e',h1,h2,h3,h4⟩
   ·exact .inl ⟨h1,fun b=>.cons ⟨_,_,rfl,e1,e2⟩ (h2 b)⟩
   ·exact .inr ⟨j+1,e',by rw[h1];congr 3;omega,h2,h3,.cons ⟨_,_,rfl,e1,e2⟩ h4⟩
theorem qzwc (hm:Mem g β B Xf H w){id ep:Nat}{en:Entry}(he:entry? H id ep=some en){v:Value}(hv:R g w (.mp id ep) v):
  ∃ (b:Nat) (ow:Own) (es:Array MapEntry) (clock:Nat),v=.map (some b)∧g.own id=some ow∧ow.blk=b∧ow.kd=1∧ow.ep=ep∧H[id]?=some en∧EntR g w B en ow∧w.heap[b]?=some (.map es clock)∧All2 MapR en.rows es.toList:=by
 cases hv with
 | mp _ _ b ow hown hle hcur=>
  obtain⟨e',q1,q2,q3,q4,q5,q6⟩:=hm.heap.at (.refl H) he hown
  have hee:=(qgt he).1
  rw[hee] at q1
  simp only[Option.some.injEq] at q1
  subst q1
  obtain⟨hk,hb⟩:=hcur q6
  obtain⟨es,clock,h1,h2⟩:=q5.mp hk
  exact⟨b,ow,es,clock,rfl,hown,hb,hk,q6.symm,hee,q5,by rw[← hb];exact h1,h2⟩
theorem qceb {t:TypeId}{x i:Operand}{id ep:Nat}{k:ByteArray}{n:Int}(hΓ:CtxOk P Γ)(ho:o.op=.lookup t x i false)(hl:Looks g β w s a o.op.operands.toList)(ht:qjyb Γ t=true)
  (hx:opd Γ s 0 x=.av (.one (.mp id ep))) (hi:opd Γ s 0 i=.av (.one (.sc (.string k)))) (hg:qdsd H id ep k=some n) (hm:Mem g β B Xf H w):
  qea P a o w (Post g β B Xf H H H w none (.av (.one (.sc (.int .i64 n))))):=by
 have h1:=qfg (Γ:=Γ) hl 0 (x:=x) (by simp[ho,Op.operands])
 have h2:=qfg (Γ:=Γ) hl 0 (x:=i) (by simp[ho,Op.operands])
 rw[hx] at h1
 rw[hi] at h2
 obtain⟨en,he,hg⟩:=Option.bind_eq_some_iff.1 hg
 obtain⟨b,ow,es,clock,e1,_,_,_,_,_,_,hh,hr⟩:=qzwc hm he h1.one
 obtain⟨kt,et,u1,u2,u3⟩:=qqv hΓ ht
 have hk:IsKey .string (.string k):=trivial
 have hrun:(execOp a.eval o).run P w=.ok (.value (.int .i64 n)) w:=by
  rcases qizb hr hg 0 with⟨hf,hn⟩ | ⟨j,hf⟩
  ·simp[execOp,ho,Instr.lookup,e1,h2.sc,run_underlying u1,MapKept.run_getObj_map hh,run_checkKey u2 hk,run_findKey u2 hf,u3,Result.andThen,hn]
  ·simp[execOp,ho,Instr.lookup,e1,h2.sc,run_underlying u1,MapKept.run_getObj_map hh,run_checkKey u2 hk,run_findKey u2 hf,Result.andThen]
 exact .value hrun ⟨g,β,.mk1 (.sc _ rfl),hm,.refl _ g w,fun _ _ h=>h,fun _ _ h=>.inl h,fun _ o h=>.inl ⟨o,h⟩⟩
theorem qnkb {H:List Entry}{c:Cell}{k:ByteArray}{n:Int}(h:qlb H c k=some n):∃ id ep,c=.mp id ep∧qdsd H id ep k=some n:=by
 unfold qlb at h
 split at h
 ·exact⟨_,_,rfl,h⟩
 ·simp at h
theorem qjob {H H':List Entry}{c:Cell}{k:ByteArray}{n:Int}(h:qls H c k n=some H'):∃ id ep,c=.mp id ep∧qsvb H id ep k n=some H':=by
 unfold qls at h
 split at h
 ·exact⟨_,_,rfl,h⟩
 ·simp at h
theorem Mem.map_write (hm:Mem g β B Xf H w){id:Nat}{ow:Own}(hid:g.own id=some ow){e:Entry}(he:H[id]?=some e)(hkd:ow.kd=1)(hfr:e.fr=false){es:Array MapEntry}{clock:Nat}{ob:Obj}(hob:w.heap[ow.blk]?=some ob)
  {rows':List (List Cell)} (hr:All2 MapR rows' es.toList) (hcl:∀ j,w.cell? ⟨ow.blk,j,none⟩=none):
  Mem g β B Xf (H.set id ⟨e.sz,rows',e.ep,false⟩) {w with heap:=w.heap.setIfInBounds ow.blk (.map es clock)}∧GoX (fun k=>∃ t,β t=some k) g g w {w with heap:=w.heap.setIfInBounds ow.blk (.map es clock)}:=by
 obtain⟨e',h1,h2⟩:=hm.heap.ent id ow hid
 rw[he] at h1
 simp only[Option.some.injEq] at h1
 subst h1
 obtain⟨s1,s2⟩:=heap_set (o':=.map es clock) hob
 have hpr:∀ j,¬ g.prot ow.blk j:=fun j hj=>by have:=(h2.pr j hj).1;rw[hfr] at this;simp at this
 have k:Go1 g g w {w with heap:=w.heap.setIfInBounds ow.blk (.map es clock)}:=by
  refine⟨.refl g,fun x y hx=>?_,by simp,fun k hk hx hn=>s2 k fun e=>hn id ow hid e.symm,fun i oo h=>.inl ⟨i,oo,h,rfl⟩,fun _ _ h=>.inl h,rfl,rfl,rfl⟩
  exact cell_of_heap (s2 x fun e=>hpr y (by rw[← e];exact hx)) y
 refine⟨hm.boxes k ⟨fun i oo hi=>?_,hm.heap.inj,fun x j h=>Nat.lt_of_lt_of_le (hm.heap.plt x j h) k.size,?_⟩,.weaken k⟩
 rotate_left
 ·refine hm.heap.bldKeep (fun i oo h1 h2=>⟨h1,fun e' he'=>?_,fun _ h _=>h⟩) fun i oo h1 h2=>s2 _ fun h=>?_
  ·refine⟨e',?_,rfl⟩
   rw[List.getElem?_set_ne fun h=>?_]
   ·exact he'
   ·subst h
    rw[hid] at h1
    simp only[Option.some.injEq] at h1
    subst h1
    omega
  ·have:=hm.heap.inj i id oo ow h1 hid h
   subst this
   rw[hid] at h1
   simp only[Option.some.injEq] at h1
   subst h1
   omega
 by_cases hii:i=id
 ·subst hii
  rw[hid] at hi
  simp only[Option.some.injEq] at hi
  subst hi
  have hlt:=(List.getElem?_eq_some_iff.1 he).1
  exact⟨⟨e.sz,rows',e.ep,false⟩,by rw[List.getElem?_set_self hlt],h2.lo,h2.sz,h2.ep,by simpa using h2.lt,fun h=>by omega,fun _=>⟨es,clock,s1,hr⟩,fun j hj=>absurd hj (hpr j)⟩
 ·obtain⟨e',h3,h4⟩:=hm.heap.ent i oo hi
  exact⟨e',by rw[List.getElem?_set_ne (fun h=>hii h.symm)];exact h3,h4.keep k.le k.keep (s2 _ fun h=>hii (hm.heap.inj i id oo ow hi hid h)) fun _ h=>h⟩
theorem qslb {es:Array MapEntry}{j:Nat}{e:MapEntry}(h:es.toList[j]?=some e)(f:MapEntry→MapEntry):(es.modify j f).toList=es.toList.set j (f e):=by
 rw[Array.toList_modify]
 apply List.ext_getElem?
 intro i
 rw[List.getElem?_modify,List.getElem?_set]
 by_cases hij:j=i
 ·subst hij
  have hlt:=(List.getElem?_eq_some_iff.1 h).1
  rw[h]
  simp at hlt
  simp[hlt]
 ·simp[hij]
theorem qqh {t:TypeId}{x i y:Operand}{id ep:Nat}{k:ByteArray}{n:Int}{H':List Entry}(hΓ:CtxOk P Γ)(ho:o.op=.mapUpdate t x i y)(hl:Looks g β w s a o.op.operands.toList)(ht:qjyb Γ t=true)
  (hx:opd Γ s 0 x=.av (.one (.mp id ep))) (hi:opd Γ s 0 i=.av (.one (.sc (.string k)))) (hy:opd Γ s 0 y=.av (.one (.sc (.int .i64 n)))) (hg:qsvb H id ep k n=some H') (hm:Mem g β B Xf H w):
  qea P a o w (Post g β B Xf H H' H' w none .undef):=by
 have h1:=qfg (Γ:=Γ) hl 0 (x:=x) (by simp[ho,Op.operands])
 have h2:=qfg (Γ:=Γ) hl 0 (x:=i) (by simp[ho,Op.operands])
 have h3:=qfg (Γ:=Γ) hl 0 (x:=y) (by simp[ho,Op.operands])
 rw[hx] at h1
 rw[hi] at h2
 rw[hy] at h3
 obtain⟨en,he,hg⟩:=Option.bind_eq_some_iff.1 hg
 obtain⟨b,ow,es,clock,e1,hown,hblk,hkd,hep,hee,hent,hh,hr⟩:=qzwc hm he h1.one
 obtain⟨kt,et,u1,u2,u3⟩:=qqv hΓ ht
 have hk:IsKey .string (.string k):=trivial
 split at hg
 ·rename_i hfr
  obtain⟨rows',hs,rfl⟩:=Option.map_eq_some_iff.1 hg
  subst hblk
  have hcl:∀ j,w.cell? ⟨ow.blk,j,none⟩=none:=fun j=>by simp[World.cell?,hh]
  have hsz:en.sz=2∨True:=.inr trivial
  have fin:∀ (es':Array MapEntry) (clock':Nat),All2 MapR rows' es'.toList→(execOp a.eval o).run P w=.ok .skip {w with heap:=w.heap.setIfInBounds ow.blk (.map es' clock')}→
    qea P a o w (Post g β B Xf H (H.set id ⟨en.sz,rows',ep,false⟩) (H.set id ⟨en.sz,rows',ep,false⟩) w none .undef):=by
   intro es' clock' hr' hrun
   obtain⟨m,kk⟩:=hm.map_write hown hee hkd hfr hh (clock:=clock') hr' hcl
   have hee':en.ep=ep:=(qgt he).2
   rw[hee'] at m
   exact .skip hrun ⟨g,β,.undef _,m,kk,fun _ _ h=>h,fun _ _ h=>.inl h,fun _ o h=>.inl ⟨o,h⟩⟩
  rcases qknb hr hs 0 with⟨hf,hr'⟩ | ⟨j,e0,hf,h4,h5,hr'⟩
  ·refine fin (es.push ⟨.string k,.int .i64 n,clock⟩) (clock+1) (by rw[Array.toList_push];exact hr' clock) ?_
   simp[execOp,ho,Instr.mapUpdate,e1,h2.sc,h3.sc,run_underlying u1,MapKept.run_getObj_map hh,run_checkKey u2 hk,run_findKey u2 hf,run_setObj_map _ hh,Result.andThen]
  ·refine fin (es.modify j fun e=>{e with key:=.string k,val:=.int .i64 n}) clock (by rw[qslb h4];exact hr') ?_
   have hj:es[j]?=some e0:=by simpa using h4
   simp[execOp,ho,Instr.mapUpdate,e1,h2.sc,h3.sc,run_underlying u1,MapKept.run_getObj_map hh,run_checkKey u2 hk,run_findKey u2 hf,hj,h5,run_keyThatStays hk,run_setObj_map _ hh,Result.andThen]
 ·simp at hg
end
end Go.Ev
