/- Soundness of the evaluator's append. No program occurs here; conditions: what each lemma names. -/
import Derived.Test.YteofbfalngmmeaaGreatDoorEvJ
import Derived.Laws.BytesString
set_option linter.unusedVariables false
set_option linter.unusedSimpArgs false
namespace Go.Ev
open Go
section
variable {P:Program} {Γ:Ctx} {g:Gh} {β:Nat→Option Nat} {w:World} {a:Act} {s:Fr} {α:Type} {r:α} {o:Oper} {B:Nat} {H Hb:List Entry} {Xf:Nat→List Cell}
theorem qcjc (newLen:Nat):∀ (r c:Nat),256≤c→c≤2*newLen→Builtin.growBy newLen r c≤2*newLen:=by
 intro r
 induction r with
 | zero=>intro c _ h;exact h
 | succ r ih=>
  intro c h1 h2
  simp only[Builtin.growBy]
  split
  ·exact h2
  ·exact ih _ (by omega) (by omega)
theorem qsab {need cap:Nat}(h:cap < need):Builtin.nextslicecap need cap≤2*need:=by
 unfold Builtin.nextslicecap
 split
 ·omega
 ·split
  ·omega
  ·exact qcjc _ _ _ (by omega) (by omega)
structure Src (P:Program)(w:World)(size n:Nat)(x:Value)(vs:List Value):Prop where
 len:(Builtin.lenOf x).run P w=.ok n w
 cells:∀ w',w'.heap=w.heap→(Builtin.firstCells size n x).run P w'=.ok vs.toArray w'
 size:vs.length=n*size
theorem qmc {ad:Option Addr}{rows:List (List Cell)}{cap sz:Nat}(hrow:∀ row∈rows,row.length=sz)(h:rows=[]∨∃ b o,ad=some ⟨b,o,none⟩∧qxnb g w b o rows.flatten):
  ∃ vs,RL g w rows.flatten vs∧Src P w sz rows.length (.slice ad rows.length cap) vs:=by
 have hfl:=qbf hrow
 rcases h with rfl | ⟨b,o,rfl,hr⟩
 ·refine⟨[],All2.nil,rfl,fun w' _=>?_,by simp⟩
  cases ad with
  | none=>rfl
  | some ad=>simp[Builtin.firstCells,loadCells,loadCellsFrom]
 ·obtain⟨vs,h1,h2⟩:=hr.list
  have hvl:vs.length=rows.length*sz:=by rw[h1.length,hfl]
  refine⟨vs,h1,rfl,fun w' hw'=>?_,hvl⟩
  have:=run_loadCells_list (P:=P) (w:=w') ⟨b,o,none⟩ vs (fun j v hj=>by
   rw[addr_add]
   have:=h2 j v hj
   rwa [show w.cell? ⟨b,o+j,none⟩=w'.cell? ⟨b,o+j,none⟩ by simp only[World.cell?,hw']] at this)
  rw[hvl] at this
  simpa[Builtin.firstCells] using this
theorem qdad (s:ByteArray):RL g w (qgr s).flatten (s.data.toList.map fun b=>Value.int .u8 b.toNat):=by
 unfold qgr
 generalize s.data.toList=l
 induction l with
 | nil=>exact All2.nil
 | cons b l ih=>exact All2.cons (.sc _ rfl) ih
theorem qilc (hm:Mem g β B Xf Hb w)(hl:HLe H Hb){sz:Nat}{y:Cell}{v:Value}{ys:List (List Cell)}(hy:R g w y v)(h:qah H sz y=some ys):
  ∃ vs,RL g w ys.flatten vs∧(∀ row∈ys,row.length=sz)∧Src P w sz ys.length v vs:=by
 unfold qah at h
 split at h
 ·rename_i b
  split at h
  ·rename_i hs
   simp only[Option.some.injEq] at h
   subst h hs
   rw[hy.sc']
   refine⟨_,qdad b,by simp[qgr],by simp[qgr,Builtin.lenOf],fun w' _=>?_,by simp[qgr]⟩
   have hlen:(qgr b).length=b.size:=by simp[qgr]
   rw[hlen]
   have:b.extract 0 b.size=b:=by simp
   simp only[Builtin.firstCells,this,Sem.run_pure]
   congr 1
   apply Array.toList_inj.1
   simp
  ·simp at h
 ·obtain⟨ad,cap,e,hcap,hrow,hh⟩:=qejb hm.heap hl hy h
  obtain⟨vs,h1,h2⟩:=qmc (P:=P) (cap:=cap) hrow hh
  exact⟨vs,h1,hrow,by rw[e];exact h2⟩
theorem qlrb (ns:List Int):∀ (s:ByteArray),ns.foldl (fun r n=>r.push (UInt8.ofNat n.toNat)) s=⟨s.data++(ns.map fun n=>UInt8.ofNat n.toNat).toArray⟩:=by
 induction ns with
 | nil=>intro s;simp
 | cons n ns ih=>
  intro s
  rw[List.foldl_cons,ih]
  congr 1
  apply Array.toList_inj.1
  simp[ByteArray.push]
theorem qqnc {rows:List (List Cell)}:∀ {ns:List Int} {vs:List Value},mapO qdzd rows=some ns→RL g w rows.flatten vs→vs=ns.map (Value.int .u8):=by
 induction rows with
 | nil=>
  intro ns vs h hr
  simp only[mapO,Option.some.injEq] at h
  subst h
  cases hr
  rfl
 | cons row rows ih=>
  intro ns vs h hr
  simp only[mapO] at h
  split at h
  ·rename_i n hn
   split at h
   ·rename_i ms hms
    simp only[Option.some.injEq] at h
    subst h
    unfold qdzd at hn
    split at hn
    ·rename_i n'
     simp only[Option.some.injEq] at hn
     subst hn
     cases hr with
     | cons h1 h2=>
      rw[ih hms h2,h1.sc']
      rfl
    ·simp at hn
   ·simp at h
  ·simp at h
theorem qor {src dst e:TypeId}{x:Operand}{c:Cell}{b:ByteArray}{q1 q2:Ty}{bb:Nat}{cs:List Kd}{z:List Cell}(hΓ:CtxOk P Γ)(hm:Mem g β B Xf Hb w)(hle:HLe s.H Hb)(ho:o.op=.convert src dst x)
  (hl:Looks g β w s a o.op.operands.toList) (hs:Γ.ty src=some q1) (hd:Γ.ty dst=some q2) (hk1:q1.kd=.slice e) (hk2:q2.kd=.str) (hty:Γ.ty e=some ⟨.int .u8,1,bb,cs,z⟩) (hx:opd Γ s src x=.av (.one c))
  (hb:bytesOf s.H c=some b):Yl P a w o g β (.av (.one (.sc (.string b)))):=by
 have h1:=qfg (Γ:=Γ) hl src (x:=x) (by simp[ho,Op.operands])
 rw[hx] at h1
 have k1:=(hΓ.ty _ _ hs).kd
 rw[hk1] at k1
 have k1:P.underlying src=some (.slice e):=k1
 have k2:=(hΓ.ty _ _ hd).kd
 rw[hk2] at k2
 have k2:P.underlying dst=some .string:=k2
 have k3:P.underlying e=some (.int .u8):=(hΓ.ty _ _ hty).kd
 obtain⟨rows,hr,hb⟩:=Option.bind_eq_some_iff.1 hb
 obtain⟨ns,hn,rfl⟩:=Option.map_eq_some_iff.1 hb
 refine⟨.string (ofBytes ns),?_,.mkSc rfl⟩
 obtain⟨ad,cap,e1,hcap,hrow,hh⟩:=qejb hm.heap hle h1.one hr
 obtain⟨vs,h2,h3⟩:=qmc (P:=P) (cap:=cap) hrow hh
 have hv:=qqnc hn h2
 have key:(Conv.bytesToString (.slice ad rows.length cap)).run P w=.ok (.string (ofBytes ns)) w→(execOp a.eval o).run P w=.ok (.value (.string (ofBytes ns))) w:=by
  intro hh
  simp only[execOp,ho,e1,Sem.run_bind,run_convert_bytes_string w src dst e ad rows.length cap k1 k3 k2,hh]
  rfl
 refine key ?_
 cases ad with
 | none=>
  rcases hh with rfl | ⟨b,o,h,_⟩
  ·simp only[mapO,Option.some.injEq] at hn
   subst hn
   rfl
  ·simp at h
 | some ad=>
  have h4:(loadCells ad rows.length).run P w=.ok (ns.map (Value.int .u8)).toArray w:=by
   have:=h3.cells w rfl
   rw[hv] at this
   simpa[Builtin.firstCells] using this
  rw[run_bytesToString w ad rows.length cap ns h4,qlrb]
  congr 2
  simp[ofBytes]
theorem qhw {t u e:TypeId}{q:Ty}{ad:Option Addr}{len cap n:Nat}{x:Value}{vs:List Value}{ty:TypeId}(ht:P.underlying t=some (.slice e))(hq:TyOk P e q)
  (hu:(∃ e',P.underlying u=some (.slice e'))∨P.underlying u=some .string) (hx:Src P w q.size n x vs) (hc:len+n≤cap) {ts:Array TypeId} (hts:ts[0]?=some t) (hts1:ts[1]?=some u) {w':World}
  (hst:(match ad with | some a=>storeCells (a.add (len*q.size)) vs | none=>pure ():Sem Unit).run P w=.ok () w'):
  (Builtin.append_ ts ty #[.slice ad len cap,x]).run P w=.ok (.slice ad (len+n) cap) w':=by
 have hcell:=hx.cells w rfl
 have e0:(#[Value.slice ad len cap,x]:Array Value)[0]?=some (.slice ad len cap):=rfl
 have e1:(#[Value.slice ad len cap,x]:Array Value)[1]?=some x:=rfl
 rcases hu with⟨e',hd⟩ | hd<;>
  simp only[Builtin.append_,hts,hts1,e0,e1,Sem.run_bind,qaj ht,qaj hd,Result.andThen_ok,hq.run_sizeOf,Sem.run_pure,Bool.false_eq_true,if_false,hx.len,Sem.run_ite,if_pos hc,Bool.not_false,if_true,hcell]<;>
  cases ad with
  | none=>simp at hst ⊢;exact hst
  | some ad=>simp only[Sem.run_bind,hst,Result.andThen_ok,Sem.run_pure]
theorem qjy {t u e:TypeId}{q:Ty}{ad:Option Addr}{len cap n:Nat}{x:Value}{vs old:List Value}{ty:TypeId}(ht:P.underlying t=some (.slice e))(hq:TyOk P e q)
  (hu:(∃ e',P.underlying u=some (.slice e'))∨P.underlying u=some .string) (hx:Src P w q.size n x vs) (hs:Src P w q.size len (.slice ad len cap) old) (hc:¬ len+n≤cap)
  (hb:(len+n)*q.bytes≤bound) (hb2:len+n≤bound) (hp:0 < q.bytes) {ts:Array TypeId} (hts:ts[0]?=some t) (hts1:ts[1]?=some u):
  ∃ newCap rest,len+n≤newCap∧newCap*q.size≤(old++vs++rest).length∧
   (Builtin.append_ ts ty #[.slice ad len cap,x]).run P w=.ok (.slice (some ⟨w.heap.size,0,none⟩) (len+n) newCap) (w.drew.alloc (.cells (old++vs++rest).toArray e)):=by
 have hcell:=hx.cells w.drew rfl
 have hold:=hs.cells w.drew rfl
 have e0:(#[Value.slice ad len cap,x]:Array Value)[0]?=some (.slice ad len cap):=rfl
 have e1:(#[Value.slice ad len cap,x]:Array Value)[1]?=some x:=rfl
 obtain⟨i,hi,his,hib⟩:=hq.run_typeInfo (w:=w)
 obtain⟨i',hi',his',hib'⟩:=hq.run_typeInfo (w:=w.drew)
 obtain⟨z,hz,rz⟩:=hq.run_zero (w:=w.drew)
 have hzl:z.cells.size=q.size:=by
  have:=rz.length
  rw[hq.zero] at this
  simpa using this
 have hbnd:bound=35184372088832:=rfl
 have hmax:IntKind.i64.max=9223372036854775807:=by decide
 have c1:¬ (((len+n:Nat):Int) > IntKind.i64.max∧(False∨i.bytes=0)):=by rw[hmax];omega
 have c2:¬ (Builtin.nextslicecap (len+n) cap*i.bytes > 2 ^ 48):=by
  have:=Nat.mul_le_mul_right i.bytes (qsab (show cap < len+n by omega))
  rw[hib] at this ⊢
  rw[Nat.mul_assoc] at this
  omega
 have hmk:w.drew={w with drawn:=w.drawn+1}:=rfl
 generalize hK:(Question.appendCap (len+n) cap e).cut (w.tape w.drawn (.appendCap (len+n) cap e))=newCap
 have hcap:len+n≤newCap:=by
  rw[← hK]
  simp only[Question.cut]
  omega
 refine⟨newCap,(Builtin.zeroCells z.cells (newCap - (len+n))).toList,hcap,?_,?_⟩
 ·simp only[List.length_append,hx.size,hs.size,Builtin.zeroCells,Array.length_toList,Array.size_map,Array.size_range,hzl]
  rw[← Nat.add_mul,← Nat.add_mul]
  exact Nat.mul_le_mul_right _ (by omega)
 ·have harr:(old++vs++(Builtin.zeroCells z.cells (newCap - (len+n))).toList).toArray=old.toArray++vs.toArray++Builtin.zeroCells z.cells (newCap - (len+n)):=by
   apply Array.toList_inj.1
   simp
  rw[harr]
  rcases hu with⟨e',hd⟩ | hd<;>
   simp only[Builtin.append_,hts,hts1,e0,e1,Sem.run_bind,qaj ht,qaj hd,Result.andThen_ok,hq.run_sizeOf,Sem.run_pure,Bool.false_eq_true,if_false,hx.len,Sem.run_ite,if_neg hc,Bool.not_false,if_true,hi,if_neg c1,if_neg c2,run_choose,
    Question.forced,hK,← hmk,hi',run_askRoom,hold,hcell,hz,qgy]<;>rfl
theorem Mem.drew (hm:Mem g β B Xf Hb w):Mem g β B Xf Hb w.drew:=
 hm.boxes (Go1.drew g w) ⟨fun id o ho=>by
  obtain⟨e,h1,h2⟩:=hm.heap.ent id o ho
  exact⟨e,h1,h2.keep (.refl g) (fun _ _ _=>rfl) rfl fun _ h=>h⟩,hm.heap.inj,hm.heap.plt,hm.heap.bldSame rfl fun _ _ _=>rfl⟩
theorem Mem.more (hm:Mem g β B Xf H w)(hl:HLe H Hb):Mem g β B Xf Hb w:=by
 refine⟨⟨fun id o ho=>?_,hm.heap.inj,hm.heap.plt,hm.heap.bldKeep (fun id o h1 _=>⟨h1,fun e he=>?_,fun _ h _=>h⟩) fun _ _ _ _=>rfl⟩,hm.box,hm.inj,hm.sep,hm.size⟩
 ·obtain⟨e,h1,h2⟩:=hm.heap.ent id o ho
  obtain⟨e',h3,h4,h5,h6,h7⟩:=hl id e h1
  refine⟨e',h3,h2.lo,h4.trans h2.sz,h6.trans h2.ep,h2.lt,?_,?_,fun j hj=>⟨h7 (h2.pr j hj).1,by rw[h5];exact(h2.pr j hj).2⟩⟩
  ·rw[h5];exact h2.mem
  ·rw[h5];exact h2.mp
 ·obtain⟨e',h3,h4,h5,h6,h7⟩:=hl id e he
  exact⟨e',h3,h5⟩
theorem Mem.fresh (hm:Mem g β B Xf H w){id:Nat}(h:H.length≤id):g.own id=none:=by
 cases ho:g.own id with
 | none=>rfl
 | some o=>
  obtain⟨e,h1,_⟩:=hm.heap.ent id o ho
  have:=(List.getElem?_eq_some_iff.1 h1).1
  omega
theorem Post.after {Xf':Nat→List Cell}{H' Hb':List Entry}{made:Option Nat}{v:Slot}{v':Value}{w':World}(h:Post g β B Xf' H H' Hb' w.drew made v v' w'):Post g β B Xf' H H' Hb' w made v v' w':=by
 obtain⟨g',β',h1,h2,h3,h4,h5,h6⟩:=h
 exact⟨g',β',h1,h2,(GoX.weaken (Go1.drew g w)).trans h3 fun _ h=>.inl h,h4,h5,h6⟩
theorem Mem.move {id:Nat}{o o':Own}{e:Entry}{rows':List (List Cell)}{w':World}(hm:Mem g β B Xf H w)(hid:g.own id=some o)(he:H[id]?=some e)(hep:o'.ep=o.ep+1)(hkd:o.kd=0)(hkd':o'.kd=0)(hb:o'.blk=o.blk∨w.heap.size≤o'.blk)
  (hk:Go1 g g w w') (hoth:∀ k,k < w.heap.size→k≠o.blk→w'.heap[k]?=w.heap[k]?) (hent:EntR g w' B ⟨o'.sz,rows',o'.ep,e.fr⟩ o'):
  Mem (g.put id o') β B Xf (H.set id ⟨o'.sz,rows',o'.ep,e.fr⟩) w'∧Go1 g (g.put id o') w w':=by
 have hlen:=(List.getElem?_eq_some_iff.1 he).1
 have hown:∀ i oo,(g.put id o').own i=some oo→(i=id∧oo=o')∨(i≠id∧g.own i=some oo):=by
  intro i oo hi
  by_cases e:i=id
  ·subst e
   have:upd g.own i (some o') i=some oo:=hi
   rw[upd_same] at this
   simp only[Option.some.injEq] at this
   exact .inl ⟨rfl,this.symm⟩
  ·have:upd g.own id (some o') i=some oo:=hi
   rw[qbl _ _ _ _ e] at this
   exact .inr ⟨e,this⟩
 have hle:g.Le (g.put id o'):=by
  refine⟨fun _ _ h=>h,fun i oo hi=>?_⟩
  by_cases e:i=id
  ·subst e
   rw[hid] at hi
   simp only[Option.some.injEq] at hi
   subst hi
   exact⟨o',upd_same _ _ _,by omega,fun h=>by omega⟩
  ·exact⟨oo,(qbl _ _ _ _ e).trans hi,Nat.le_refl _,fun _=>rfl⟩
 have k:Go1 g (g.put id o') w w':=by
  refine⟨hle,hk.keep,hk.size,hk.frame,fun i oo hi=>?_,hk.prot,hk.os,hk.tape,hk.output⟩
  rcases hown i oo hi with⟨rfl,rfl⟩ | ⟨_,h⟩
  ·rcases hb with h | h
   ·exact .inl ⟨i,o,hid,h⟩
   ·exact .inr h
  ·exact .inl ⟨i,oo,h,rfl⟩
 have hkeep:∀ {c:Cell} {v:Value},R g w' c v→R (g.put id o') w' c v:=fun h=>h.mono hle (Keep.refl _ _)
 refine⟨hm.boxes k ⟨fun i oo hi=>?_,fun i j o1 o2 h1 h2 hbb=>?_,fun b j h=>Nat.lt_of_lt_of_le (hm.heap.plt b j h) k.size,qfpc hm.heap (fun o1 h=>by rw[hid] at h;simp only[Option.some.injEq] at h;rw[← h];exact hkd) hkd' (fun i h=>List.getElem?_set_ne (Ne.symm h)) fun i oo h hne=>?_⟩,k⟩
 ·rcases hown i oo hi with⟨rfl,rfl⟩ | ⟨hne,h⟩
  ·exact⟨_,by rw[List.getElem?_set_self hlen],hent.keep hle (Keep.refl _ _) rfl fun _ h=>h⟩
  ·obtain⟨en,h1,h2⟩:=hm.heap.ent i oo h
   refine⟨en,by rw[List.getElem?_set_ne (fun h=>hne h.symm)];exact h1,?_⟩
   by_cases hbo:oo.blk=o.blk
   ·exact absurd (hm.heap.inj i id oo o h hid hbo) hne
   ·exact h2.keep k.le k.keep (hoth _ h2.lt hbo) fun _ h=>h
 ·rcases hown i o1 h1 with⟨rfl,rfl⟩ | ⟨e1,h1'⟩<;>rcases hown j o2 h2 with⟨rfl,rfl⟩ | ⟨e2,h2'⟩
  ·rfl
  ·rcases hb with hb | hb
   ·exact absurd (hm.heap.inj j i o2 o h2' hid (by rw[← hbb,hb])) e2
   ·obtain⟨en,_,h3⟩:=hm.heap.ent j o2 h2'
    have:=h3.lt
    omega
  ·rcases hb with hb | hb
   ·exact absurd (hm.heap.inj i j o1 o h1' hid (by rw[hbb,hb])) e1
   ·obtain⟨en,_,h3⟩:=hm.heap.ent i o1 h1'
    have:=h3.lt
    omega
  ·exact hm.heap.inj i j o1 o2 h1' h2' hbb
 ·obtain⟨en,_,h3⟩:=hm.heap.ent i oo h
  exact hoth _ h3.lt fun hbo=>hne (hm.heap.inj i id oo o h hid hbo)
theorem qnrb {t:TypeId}{q:Ty}(hq:TyOk P t q)(h:q.listy=true):(∃ e',P.underlying t=some (.slice e'))∨P.underlying t=some .string:=by
 have hk:=hq.kd
 unfold Ty.listy at h
 split at h
 ·rename_i e he
  rw[he] at hk
  exact .inl ⟨e,hk⟩
 ·rename_i he
  rw[he] at hk
  exact .inr hk
 ·simp at h
theorem qea.builtin {c:Call}{b:Builtin}{Q:Value→World→Prop}{v:Value}{w':World}(ho:o.op=.call c)(hc:c.callee=.builtin b)
  (h:(Go.builtin b c.argTypes o.type (c.args.map fun | .const _=>true | _=>false) (c.args.toList.map a.eval).toArray).run P w=.ok (.value v) w') (hQ:Q v w'):qea P a o w Q:=by
 refine .value ?_ hQ
 rw[← qis] at h
 simp only[execOp,ho,resolve,hc,Sem.run_bind,Sem.run_pure,Result.andThen_ok,invoke]
 exact h
theorem qkr {sz:Nat}{xs ys:List (List Cell)}(h1:∀ row∈xs,row.length=sz)(h2:∀ row∈ys,row.length=sz):∀ row∈xs++ys,row.length=sz:=by
 intro row h
 rcases List.mem_append.1 h with h | h
 ·exact h1 row h
 ·exact h2 row h
theorem qtcb (hm:Mem g β B Xf H w){id sz off len cap ep n:Nat}{ow:Own}{en:Entry}(hown:g.own id=some ow)(hee:H[id]?=some en)(hep:ow.ep=ep)(hkd:ow.kd=0)(hq5:EntR g w B en ow)(hosz:ow.sz=sz)
  (hroom:(off+cap)*sz≤ow.room) (hlen:off+len≤en.rows.length) (hor:off+len=en.rows.length∨en.fr=false) {ys:List (List Cell)} (hyrow:∀ row∈ys,row.length=sz) {vs:List Value} (hvs:RL g w ys.flatten vs)
  (hn:ys.length=n) (hc:len+n≤cap):
  Post g β B Xf H (H.set id ⟨sz,(en.rows.drop off).take len++ys,ep+1,en.fr⟩) (H.set id ⟨sz,(en.rows.drop off).take len++ys,ep+1,en.fr⟩) w none (.av (.one (.vs id sz 0 (len+n) (ep+1))))
   (.slice (some ⟨ow.blk,ow.base+off*sz,none⟩) (len+n) cap) (setCells w ow.blk (ow.base+off*sz+len*sz) vs)∧
  ∃ c t fz,w.heap[ow.blk]?=some (.cells c t fz)∧ow.base+off*sz+len*sz+vs.length≤c.size∧(∀ j,j < c.size→w.frozen? ⟨ow.blk,j,none⟩=false):=by
 subst hosz
 obtain⟨cc,tt,fz,m1,m2,m3,m4,m5,m6⟩:=hq5.mem hkd
 have hvl:vs.length=n*ow.sz:=by rw[hvs.length,qbf hyrow,hn]
 have hcap2:(off+(len+n))*ow.sz≤(off+cap)*ow.sz:=Nat.mul_le_mul_right _ (by omega)
 simp only[Nat.add_mul] at hcap2 hroom
 have hfit:ow.base+off*ow.sz+len*ow.sz+vs.length≤cc.size:=by omega
 have hpr:∀ j,g.prot ow.blk j→j < ow.base+off*ow.sz+len*ow.sz:=by
  intro j hj
  obtain⟨h1,h2⟩:=hq5.pr j hj
  rcases hor with h | h
  ·rw[← h,Nat.add_mul] at h2;omega
  ·rw[h] at h1;simp at h1
 have hk:Go1 g g w (setCells w ow.blk (ow.base+off*ow.sz+len*ow.sz) vs):=.writeAt m1 hfit hpr (.inr ⟨id,ow,hown,rfl⟩)
 have hl2:((en.rows.drop off).take len).length=len:=by simp;omega
 have hent:EntR g (setCells w ow.blk (ow.base+off*ow.sz+len*ow.sz) vs) B ⟨ow.sz,(en.rows.drop off).take len++ys,ep+1,en.fr⟩ ⟨ow.blk,ow.base+off*ow.sz,ow.sz,ow.room - off*ow.sz,ep+1,0⟩:=by
  refine⟨hq5.lo,rfl,rfl,by rw[setCells_size];exact hq5.lt,fun _=>⟨_,tt,fz,qex vs m1 _,by simp only[List.length_append,hl2,hn,Nat.add_mul];omega,by simp only[qux];omega,qkr (fun row hr=>m4 row (List.mem_of_mem_drop (List.mem_of_mem_take hr))) hyrow,fun j hj=>by rw[qfb];exact m5 j (by rwa [qux] at hj),fun i j row cl h1 h2=>?_⟩,fun h=>by simp at h,fun j hj=>?_⟩
  ·simp only
   rw[qdec _ _ _ _ hfit]
   by_cases hi:i < len
   ·rw[List.getElem?_append_left (by omega),List.getElem?_take,if_pos hi,List.getElem?_drop] at h1
    obtain⟨v,n1,n2⟩:=m6 (off+i) j row cl h1 h2
    have hjl:j < ow.sz:=by rw[← m4 row (List.mem_of_getElem? h1)];exact(List.getElem?_eq_some_iff.1 h2).1
    have hil:(i+1)*ow.sz≤len*ow.sz:=Nat.mul_le_mul_right _ hi
    rw[Nat.add_mul] at hil
    refine⟨v,?_,n2.mono hk.le hk.keep⟩
    rw[if_neg (by omega),← n1]
    congr 1
    rw[Nat.add_mul];omega
   ·rw[List.getElem?_append_right (by omega),hl2] at h1
    obtain⟨v,n1,n2⟩:=hvs.get (qfk hyrow h1 h2)
    have hlt:=(List.getElem?_eq_some_iff.1 n1).1
    have hil:len*ow.sz≤i*ow.sz:=Nat.mul_le_mul_right _ (by omega)
    have hsub:(i - len)*ow.sz=i*ow.sz - len*ow.sz:=Nat.sub_mul _ _ _
    refine⟨v,?_,n2.mono hk.le hk.keep⟩
    rw[if_pos (by omega),← n1]
    congr 1
    omega
  ·obtain⟨h1,h2⟩:=hq5.pr j hj
   refine⟨h1,?_⟩
   have:=hpr j hj
   simp only[List.length_append,hl2,Nat.add_mul]
   omega
 obtain⟨mm,kk⟩:=hm.move (o':=⟨ow.blk,ow.base+off*ow.sz,ow.sz,ow.room - off*ow.sz,ep+1,0⟩) (rows':=(en.rows.drop off).take len++ys) hown hee (by simp[hep]) hkd rfl (.inl rfl) hk (fun k _ hne=>qbk vs w ow.blk _ k hne) hent
 have hrm:(0+cap)*ow.sz≤ow.room - off*ow.sz:=by rw[Nat.zero_add];omega
 refine⟨⟨g.put id ⟨ow.blk,ow.base+off*ow.sz,ow.sz,ow.room - off*ow.sz,ep+1,0⟩,β,.mk1 (.vs _ _ _ _ _ _ _ ⟨ow.blk,ow.base+off*ow.sz,ow.sz,ow.room - off*ow.sz,ep+1,0⟩ (upd_same _ _ _) (Nat.le_refl _) (by simp) hc (fun _=>⟨by simp,rfl,hrm⟩) fun _=>rfl),mm,.weaken kk,fun _ _ h=>h,fun _ _ h=>.inl h,fun i o hi=>?_⟩,cc,tt,fz,m1,hfit,m5⟩
 rcases qrc hi with h | h
 ·exact .inl h
 ·exact .inl ⟨ow,by rw[h];exact hown⟩
theorem qhjc (hm:Mem g β B Xf H w){id sz off len ep n cap:Nat}{ow:Own}{en:Entry}(hown:g.own id=some ow)(hee:H[id]?=some en)(hep:ow.ep=ep)(hkd:ow.kd=0)(hq5:EntR g w B en ow)(hosz:ow.sz=sz)
  (hlen:off+len≤en.rows.length) {ys:List (List Cell)} (hyrow:∀ row∈ys,row.length=sz) {old vs rest:List Value} (hold:RL g w ((en.rows.drop off).take len).flatten old) (hvs:RL g w ys.flatten vs)
  (hn:ys.length=n) (hc:len+n≤cap) (hr:cap*sz≤(old++vs++rest).length) (e:TypeId):
  Post g β B Xf H (H.set id ⟨sz,(en.rows.drop off).take len++ys,ep+1,en.fr⟩) (H.set id ⟨sz,(en.rows.drop off).take len++ys,ep+1,en.fr⟩) w none (.av (.one (.vs id sz 0 (len+n) (ep+1))))
   (.slice (some ⟨w.heap.size,0,none⟩) (len+n) cap) (w.drew.alloc (.cells (old++vs++rest).toArray e)):=by
 subst hosz
 obtain⟨cc,tt,fz,m1,m2,m3,m4,m5,m6⟩:=hq5.mem hkd
 have hl2:((en.rows.drop off).take len).length=len:=by simp;omega
 have hk:Go1 g g w (w.drew.alloc (.cells (old++vs++rest).toArray e)):=(Go1.drew g w).trans (hm.drew.go1 _)
 have hrow:=qkr (fun row hr=>m4 row (List.mem_of_mem_drop (List.mem_of_mem_take hr))) hyrow (xs:=(en.rows.drop off).take len)
 have hfl:RL g w ((en.rows.drop off).take len++ys).flatten (old++vs):=by rw[List.flatten_append];exact hold.append hvs
 have hol:(old++vs).length=(len+n)*ow.sz:=by rw[hfl.length,qbf hrow,List.length_append,hl2,hn]
 have hent:EntR g (w.drew.alloc (.cells (old++vs++rest).toArray e)) B ⟨ow.sz,(en.rows.drop off).take len++ys,ep+1,en.fr⟩ ⟨w.heap.size,0,ow.sz,(old++vs++rest).length,ep+1,0⟩:=by
  refine⟨hm.size,rfl,rfl,by simp[World.alloc],fun _=>⟨_,e,(0,0),qiz w.drew _ _,by simp only[List.length_append,hl2,hn];simp only[List.length_append] at hol;omega,by simp,hrow,fun j _=>qih _ _ _ _,fun i j row cl h1 h2=>?_⟩,fun h=>by simp at h,fun j hj=>?_⟩
  ·obtain⟨v,n1,n2⟩:=hfl.get (qfk hrow h1 h2)
   have hlt:=(List.getElem?_eq_some_iff.1 n1).1
   refine⟨v,?_,n2.mono hk.le hk.keep⟩
   simp only[Nat.zero_add,List.getElem?_toArray]
   rw[List.getElem?_append_left hlt,n1]
  ·have:=hm.heap.plt _ _ hj
   simp only at this
   omega
 obtain⟨mm,kk⟩:=hm.move (o':=⟨w.heap.size,0,ow.sz,(old++vs++rest).length,ep+1,0⟩) (rows':=(en.rows.drop off).take len++ys) hown hee (by simp[hep]) hkd rfl (.inr (Nat.le_refl _)) hk (fun k hk _=>alloc_old w.drew _ k hk) hent
 have hrm:(0+cap)*ow.sz≤(old++vs++rest).length:=by rw[Nat.zero_add];exact hr
 refine⟨g.put id ⟨w.heap.size,0,ow.sz,(old++vs++rest).length,ep+1,0⟩,β,.mk1 (.vs _ _ _ _ _ _ _ ⟨w.heap.size,0,ow.sz,(old++vs++rest).length,ep+1,0⟩ (upd_same _ _ _) (Nat.le_refl _) (by simp) hc (fun _=>⟨by simp,rfl,hrm⟩) fun _=>rfl),mm,.weaken kk,fun _ _ h=>h,fun _ _ h=>.inl h,fun i o hi=>?_⟩
 rcases qrc hi with h | h
 ·exact .inl h
 ·exact .inl ⟨ow,by rw[h];exact hown⟩
theorem qcgb {c:Call}{t u e:TypeId}{ts:List TypeId}{x y:Cell}{xo yo:Operand}{q tq uq:Ty}{ys:List (List Cell)}{p:Cell×List Entry}(hΓ:CtxOk P Γ)(ho:o.op=.call c)(hc:c.callee=.builtin .append)
  (hts:c.argTypes.toList=t::u::ts) (hargs:c.args.toList=[xo,yo]) (hl:Looks g β w s a o.op.operands.toList) (ht:Γ.ty t=some tq) (htk:tq.kd=.slice e) (hu:Γ.ty u=some uq) (hul:uq.listy=true) (hq:Γ.ty e=some q)
  (hpos:0 < q.bytes) (hx:opd Γ s t xo=.av (.one x)) (hy:opd Γ s u yo=.av (.one y)) (hys:qah H q.size y=some ys) (hp:app H q.size q.bytes x ys=some p) (hm:Mem g β B Xf H w):
  qea P a o w (Post g β B Xf H p.2 p.2 w none (.av (.one p.1))):=by
 have hop:=qbyb c ho
 have h1:=qfg (Γ:=Γ) hl t (hop xo (by rw[hargs];simp))
 have h2:=qfg (Γ:=Γ) hl u (hop yo (by rw[hargs];simp))
 rw[hx] at h1
 rw[hy] at h2
 have hrx:=h1.one
 have hry:=h2.one
 have hq':=hΓ.ty _ _ hq
 have hk:=(hΓ.ty _ _ ht).kd
 rw[htk] at hk
 have hk:P.underlying t=some (.slice e):=hk
 have hul:=qnrb (hΓ.ty _ _ hu) hul
 have ht0:c.argTypes[0]?=some t:=by rw[← Array.getElem?_toList,hts];rfl
 have ht1:c.argTypes[1]?=some u:=by rw[← Array.getElem?_toList,hts];rfl
 obtain⟨vs,hvs,hyrow,hsrc⟩:=qilc (P:=P) hm (.refl H) hry hys
 have run:∀ {Q:Value→World→Prop} {v:Value} {w':World},(Builtin.append_ c.argTypes o.type #[a.eval xo,a.eval yo]).run P w=.ok v w'→Q v w'→qea P a o w Q:=by
  intro Q v w' h hQ
  refine .builtin ho hc ?_ hQ
  rw[hargs]
  simp only[Go.builtin,Sem.run_bind]
  show((Builtin.append_ c.argTypes o.type #[a.eval xo,a.eval yo]).run P w).andThen _=_
  rw[h]
  rfl
 have hysz:=hsrc.size
 unfold app at hp
 split at hp
 ·rename_i full sz rows
  split at hp
  ·rename_i hemp
   simp only[Option.some.injEq] at hp
   subst hp
   have:ys=[]:=by simpa using hemp
   subst this
   obtain⟨ad,cap,ev,hcap⟩:=hrx.lst'
   have hvs0:vs=[]:=by simpa using hysz
   subst hvs0
   rw[ev] at run
   refine run (qhw hk hq' hul hsrc (by simpa using hcap) ht0 ht1 (w':=w) (by cases ad<;>rfl)) ?_
   refine⟨g,β,.mk1 ?_,hm,.refl _ g w,fun _ _ h=>h,fun _ _ h=>.inl h,fun _ o h=>.inl ⟨o,h⟩⟩
   rw[ev] at hrx
   simpa using hrx
  ·rename_i hemp
   split at hp
   ·rename_i hh
    obtain⟨hfull,hsz,hb1,hb2⟩:=hh
    simp only[Option.some.injEq] at hp
    subst hp
    obtain⟨ad,cap,ev,hcap⟩:=hrx.lst'
    have hro:rowsOf H q.size (.lst full sz rows)=some rows:=by
     simp only[rowsOf]
     by_cases e:sz=q.size
     ·rw[if_pos e]
     ·rcases hsz with h | h
      ·exact absurd h e
      ·rw[if_neg e,h];rfl
    obtain⟨ad',cap',ev',hcap',hrow,hat⟩:=qejb hm.heap (.refl H) hrx hro
    rw[ev] at ev'
    simp only[Value.slice.injEq,true_and] at ev'
    obtain⟨rfl,rfl⟩:=ev'
    have hcapeq:cap=rows.length:=by
     rw[ev] at hrx
     cases hrx with
     | nil _ _ _ _ h=>simpa using h hfull
     | lst _ _ _ b o cap val hne hf=>exact hf hfull
    have hyne:0 < ys.length:=by
     cases ys with
     | nil=>simp at hemp
     | cons _ _=>simp
    obtain⟨old,hold,hosrc⟩:=qmc (P:=P) (cap:=cap) hrow hat
    obtain⟨nc,rest,n1,n2,n3⟩:=qjy (P:=P) (ty:=o.type) hk hq' hul hsrc hosrc (by omega) hb1 hb2 hpos ht0 ht1
    rw[ev] at run
    refine run n3 ?_
    have hmd:=(hm.drew).more (HLe.append H [⟨q.size,rows++ys,0,false⟩])
    have hflat:RL g w.drew (rows++ys).flatten (old++vs):=by
     rw[List.flatten_append]
     exact RL.mono (g:=g) (w:=w) (w':=w.drew) (.refl g) (fun _ _ _=>rfl) (hold.append hvs)
    have:=qqqb (H:=H) (g:=g) (β:=β) (B:=B) (Xf:=Xf) hmd (rows:=rows++ys) (sz:=q.size) (n:=rows.length+ys.length) (by simp) (qkr hrow hyrow) hflat (rest:=rest) (cap:=nc) n1
     (by rw[List.length_append] at n2;exact n2) e (.refl _) (hm.fresh (Nat.le_refl _))
    exact this.after
   ·simp at hp
 ·rename_i id sz off len ep
  split at hp
  ·rename_i en hen
   split at hp
   ·rename_i hh
    obtain⟨hsz,hlen,hor,hb1,hb2⟩:=hh
    simp only[Option.some.injEq] at hp
    subst hp
    have hro:rowsOf H q.size (.vs id sz off len ep)=some ((en.rows.drop off).take len):=by
     simp only[rowsOf,hsz,if_true,hen,if_pos hlen]
    obtain⟨ad,cap,ev,hcap,hrow,hat⟩:=qejb hm.heap (.refl H) hrx hro
    have hl2:((en.rows.drop off).take len).length=len:=by simp;omega
    rw[hl2] at ev hcap
    rw[ev] at run hrx
    cases hrx with
    | vs _ _ _ _ _ ad' cap' ow hown hle hn hlc hcur hkd=>
     obtain⟨e',q1,q2,q3,q4,q5,q6⟩:=hm.heap.at (.refl H) hen hown
     have hee:=(qgt hen).1
     rw[hee] at q1
     simp only[Option.some.injEq] at q1
     subst q1
     obtain⟨had,hosz,hroom⟩:=hcur q6
     rw[hsz] at hosz hroom had
     subst had
     subst hsz
     by_cases hcc:len+ys.length≤cap
     ·obtain⟨hp,c',t',fz',m1,m2,m3⟩:=qtcb hm hown hee q6.symm (hkd q6) q5 hosz hroom hlen hor hyrow hvs rfl hcc
      refine run (qhw hk hq' hul hsrc hcc ht0 ht1 ?_) hp
      have:=qhz P ow.blk t' fz' vs 0 c' w (ow.base+off*q.size+len*q.size) m1 (by omega) m3 hvs.oneCell
      simpa[addr_add] using this
     ·obtain⟨old,hold,hosrc⟩:=qmc (P:=P) (cap:=cap) hrow hat
      rw[hl2] at hosrc
      obtain⟨nc,rest,n1,n2,n3⟩:=qjy (P:=P) (ty:=o.type) hk hq' hul hsrc hosrc hcc hb1 hb2 hpos ht0 ht1
      exact run n3 (qhjc hm hown hee q6.symm (hkd q6) q5 hosz hlen hyrow hold hvs rfl n1 n2 e)
   ·simp at hp
  ·simp at hp
 ·simp at hp
end
end Go.Ev
