/- Conditions: none. -/
import Derived.Test.YtholafaogipaiaaGreatDoorEvMem
import Derived.Lib.AppendStr
import Derived.Lib.Walk
set_option linter.unusedVariables false
set_option linter.unusedSimpArgs false
namespace Go.Ev
open Go Go.Lib
variable {P:Program}
def byteVs (l:List UInt8):List Value:=l.map fun b=>Value.int .u8 b.toNat
theorem qqgb (l:List UInt8)(s:ByteArray):byteVs l++strCells s=byteVs (l++s.data.toList):=by simp[byteVs,strCells]
theorem qawb {w:World}{base e:Nat}{size:Nat}{v:Value}{n:Nat}{xs:List Value}(h:w.ownsRow base e size v n xs):w.ownsRow 0 e size v n xs:=by
 refine⟨h.1,?_⟩
 rcases h.2 with q | ⟨g,cap,cur,q1,q2,q3⟩
 ·exact .inl q
 ·exact .inr ⟨g,cap,cur,q1,Nat.zero_le _,q3⟩
theorem qrv (w:World)(t u ty e:TypeId)(i:TypeInfo)(ht:P.underlying t=some (.slice e))(hu:P.underlying u=some .string)(hi:P.info? e=some i)(hz:i.zero=some (.int .u8 0))(hsize:i.size=1)(hby:i.bytes=1)
  (v:Value) (n:Nat) (xs:List Value) (hown:w.ownsRow 0 e 1 v n xs) (s:ByteArray) (hb:n+s.size≤140737488355328):
  ∃ v' w',(Builtin.append_ #[t,u] ty #[v,.string s]).run P w=.ok v' w'∧w'.ownsRow 0 e 1 v' (n+s.size) (xs++strCells s)∧w.grownBy w' v.ownBlock∧∀ k,v'.ownBlock=some k→v.ownBlock=some k∨w.heap.size≤k:=by
 have h63:n+s.size≤maxLen:=by unfold maxLen;omega
 have hh:=hown.2
 rcases hh with⟨rfl,rfl⟩ | ⟨g,cap,cur,rfl,hbg,hg,hnc,hcm,hcs,htake⟩
 ·have hown':w.ownsRow w.heap.size e 1 (.slice none 0 0) 0 xs:=⟨hown.1,.inl ⟨rfl,rfl⟩⟩
  obtain⟨v',w',h1,h2,h3,_⟩:=run_append_own_string (P:=P) w w.heap.size t u ty e i ht hu hi hz hsize hby _ _ xs hown' s h63 hb (Nat.le_refl _)
  refine⟨v',w',h1,qawb h2,h3,fun k hk=>.inr ?_⟩
  rcases h2.2 with⟨q,_⟩ | ⟨g,cap,cur,q,hb,_⟩
  ·rw[q] at hk;simp[Value.ownBlock] at hk
  ·rw[q] at hk
   simp only[Value.ownBlock,Option.some.injEq] at hk
   omega
 ·obtain⟨v',w',h1,h2,h3,_⟩:=run_append_own_string (P:=P) w 0 t u ty e i ht hu hi hz hsize hby _ _ xs hown s h63 hb (Nat.zero_le _)
  refine⟨v',w',h1,h2,h3,fun k hk=>?_⟩
  have hxl:xs.length=n:=by simpa using hown.1
  by_cases hroom:n+s.size≤cap
  ·have hr:=run_append_room_string (P:=P) w t u ty e i ht hu hi hsize g n cap cur hg s hroom (by omega)
   rw[h1] at hr
   simp only[Result.ok.injEq] at hr
   rw[hr.1] at hk
   exact .inl hk
  ·have holds:∀ j u,xs[j]?=some u→w.cell? ((⟨g,0,none⟩:Addr).add j)=some u:=hown.cells (g:=g) rfl
   have hr:=run_append_grow_string (P:=P) w t u ty e i (.int .u8 0) ht hu hi hz ⟨g,0,none⟩ n cap xs (by rw[hsize];simpa using hxl) holds s (by omega) (by unfold maxLen at h63;omega) (by rw[hby];exact growslice_fits (by omega) (by omega))
   rw[h1] at hr
   simp only[Result.ok.injEq] at hr
   rw[hr.1] at hk
   simp only[Value.ownBlock,Option.some.injEq] at hk
   exact .inr (by omega)
theorem wpList_append_bld {w:World}{ops:Array Oper}{rest:List Oper}{o:Oper}{a:Act}{Q:Exit→Act→World→Prop}(hgd:o.guard=none)(sl x:Operand)(t u:TypeId)(ho:o.op=.call {callee:=.builtin .append,args:=#[sl,x],argTypes:=#[t,u]})
  (e:TypeId) (i:TypeInfo) (ht:P.underlying t=some (.slice e)) (hu:P.underlying u=some .string) (hi:P.info? e=some i) (hz:i.zero=some (.int .u8 0)) (hsize:i.size=1) (hby:i.bytes=1)
  (v:Value) (n:Nat) (xs:List Value) (hs:a.eval sl=v) (hown:w.ownsRow 0 e 1 v n xs) (s:ByteArray) (hx:a.eval x=.string s) (hb:n+s.size≤140737488355328)
  (h:∀ v' w',w'.ownsRow 0 e 1 v' (n+s.size) (xs++strCells s)→w.grownBy w' v.ownBlock→(∀ k,v'.ownBlock=some k→v.ownBlock=some k∨w.heap.size≤k)→wpList P ops Q rest (a.put o.dst v') w'):wpList P ops Q (o::rest) a w:=by
 refine wpList_plain hgd fun K hK=>?_
 obtain⟨v',w',hr,h2,h3,h4⟩:=qrv (P:=P) w t u o.type e i ht hu hi hz hsize hby v n xs hown s hb
 unfold Oper.wp execOp
 simp only[ho,resolve,invoke,builtin,Sem.run_bind,Sem.run_pure,Result.andThen_ok,List.map_toArray,List.map_cons,List.map_nil,hs,hx,hr]
 exact hK _ _ (h v' w' h2 h3 h4)
structure Wrote (b:Nat)(T e:TypeId)(l:List UInt8)(v:Value)(w w':World):Prop where
 bk:∃ v',w'.heap[b]?=some (.cells #[.pointer (some ⟨b,0,none⟩),v'] T (0,0))∧w'.ownsRow 0 e 1 v' l.length (byteVs l)∧∀ k,v'.ownBlock=some k→k≠b∧(v.ownBlock=some k∨w.heap.size≤k)
 size:w.heap.size≤w'.heap.size
 os:w'.os=w.os
 tape:w'.tape=w.tape
 output:w'.output=w.output
 block:∀ k,k < w.heap.size→k≠b→v.ownBlock≠some k→w'.heap[k]?=w.heap[k]?
theorem wrote_of {b:Nat}{T e:TypeId}{l:List UInt8}{s:ByteArray}{p v v':Value}{w w1 w2:World}(hb:w.heap[b]?=some (.cells #[p,v] T (0,0)))(hown:w.ownsRow 0 e 1 v l.length (byteVs l))(hne:v.ownBlock≠some b)
  (h1:w1=w∧p=.pointer (some ⟨b,0,none⟩)∨w1=w.setCell ⟨b,0,none⟩ (.pointer (some ⟨b,0,none⟩))) (h2:w2.ownsRow 0 e 1 v' (l.length+s.size) (byteVs l++strCells s)) (h3:w1.grownBy w2 v.ownBlock)
  (h4:∀ k,v'.ownBlock=some k→v.ownBlock=some k∨w1.heap.size≤k):Wrote b T e (l++s.data.toList) v w (w2.setCell ⟨b,1,none⟩ v'):=by
 have hlt:b < w.heap.size:=(Array.getElem?_eq_some_iff.1 hb).1
 have e1:w1.heap[b]?=some (.cells #[.pointer (some ⟨b,0,none⟩),v] T (0,0))∧w1.heap.size=w.heap.size∧w1.os=w.os∧w1.tape=w.tape∧w1.output=w.output∧∀ k,k≠b→w1.heap[k]?=w.heap[k]?:=by
  rcases h1 with⟨rfl,rfl⟩ | rfl
  ·exact⟨hb,rfl,rfl,rfl,rfl,fun _ _=>rfl⟩
  ·refine⟨by simp[World.setCell,Array.getElem?_modify,hb],by simp[World.setCell],rfl,rfl,rfl,fun k hk=>RowKit.Below.heap_setCell _ _ _ _ fun e=>hk (by simpa using e)⟩
 obtain⟨e1,e2,e3,e4,e5,e6⟩:=e1
 have e7:w2.heap[b]?=some (.cells #[.pointer (some ⟨b,0,none⟩),v] T (0,0)):=by rw[h3.block b (by omega) fun e=>hne e.symm];exact e1
 have hsz:(w2.setCell ⟨b,1,none⟩ v').heap.size=w2.heap.size:=by simp[World.setCell]
 have hoth:∀ k,k≠b→(w2.setCell ⟨b,1,none⟩ v').heap[k]?=w2.heap[k]?:=fun k hk=>RowKit.Below.heap_setCell _ _ _ _ fun e=>hk (by simpa using e)
 have hkb:∀ k,v'.ownBlock=some k→k≠b∧(v.ownBlock=some k∨w.heap.size≤k):=fun k hk=>by
  rcases h4 k hk with h | h
  ·exact⟨fun e=>hne (by rw[← e];exact h),.inl h⟩
  ·exact⟨by omega,.inr (by omega)⟩
 refine⟨⟨v',by simp[World.setCell,Array.getElem?_modify,e7],?_,hkb⟩,by have:=h3.size;omega,(show w2.os=w.os from h3.os.trans e3),(show w2.tape=w.tape from h3.tape.trans e4),(show w2.output=w.output from h3.output.trans e5),fun k hk hkne hv=>?_⟩
 ·rw[qqgb] at h2
  have hl:(l++s.data.toList).length=l.length+s.size:=by
   rw[List.length_append]
   rfl
  rw[hl]
  refine⟨h2.1,?_⟩
  rcases h2.2 with q | ⟨g,cap,cur,q1,q2,q3,q4⟩
  ·exact .inl q
  ·refine .inr ⟨g,cap,cur,q1,q2,?_,q4⟩
   rw[hoth g (hkb g (by rw[q1];rfl)).1]
   exact q3
 ·rw[hoth k hkne,h3.block k (by omega) fun e=>hv e.symm,e6 k hkne]
def qga (H:List Entry)(id ep:Nat):Option (List UInt8):=
 match entry? H id ep with
 | some ⟨_,[[.sc (.string s)]],_,false⟩=>some s.data.toList
 | _=>none
def bldPut (H:List Entry)(id:Nat)(l:List UInt8):Option (List Entry):=
 match H[id]?,H[id+1]? with
 | some e,some q=>if q.fr=false∧q.sz=1 then some ((H.set id ⟨e.sz,[[.sc (.string ⟨l.toArray⟩)]],e.ep,false⟩).set (id+1) ⟨1,[],q.ep+1,false⟩) else none
 | _,_=>none
theorem qjj {H:List Entry}{id ep:Nat}{l:List UInt8}(h:qga H id ep=some l):∃ sz,H[id]?=some ⟨sz,[[.sc (.string ⟨l.toArray⟩)]],ep,false⟩:=by
 unfold qga at h
 split at h
 ·rename_i sz s e he
  simp only[Option.some.injEq] at h
  obtain⟨h1,h2⟩:=qeu he
  subst h
  simp only at h2
  subst h2
  exact⟨sz,by rw[h1]⟩
 ·simp at h
theorem bld_at {g:Gh}{B:Nat}{H:List Entry}{w:World}(h:HR g B H w){T e id ep:Nat}{v0:Value}(hv:R g w (.bl T e id ep) v0){l:List UInt8}(hl:qga H id ep=some l):
  ∃ (o:Own) (p v:Value),v0=.pointer (some ⟨o.blk,0,none⟩)∧g.own id=some o∧o.kd=4∧o.ep=ep∧o.base=T∧o.room=e∧(p=.pointer none∨p=.pointer (some ⟨o.blk,0,none⟩))∧w.heap[o.blk]?=some (.cells #[p,v] T (0,0))∧
   w.ownsRow 0 e 1 v l.length (byteVs l)∧∀ k,v.ownBlock=some k→∃ o2,g.own (id+1)=some o2∧o2.kd=3∧o2.blk=k:=by
 obtain⟨sz,hH⟩:=qjj hl
 cases hv with
 | bl _ _ _ _ b o ho hle hcur=>
  obtain⟨en,h1,h2⟩:=h.ent id o ho
  rw[hH] at h1
  simp only[Option.some.injEq] at h1
  subst h1
  have hep:ep=o.ep:=h2.ep
  obtain⟨hk,hb,hT,he⟩:=hcur hep
  obtain⟨l',p,v,en',m1,m2,m3,m4,m5,m6⟩:=h.bld id o ho hk
  rw[hH] at m1
  simp only[Option.some.injEq] at m1
  subst m1
  simp only[List.cons.injEq,and_true,Cell.sc.injEq,Value.string.injEq,ByteArray.mk.injEq] at m2
  have hll:l'=l:=by
   have:=congrArg Array.toList m2
   simpa using this.symm
  subst hll
  subst hT
  subst he
  exact⟨o,p,v,by rw[← hb],ho,hk,hep.symm,rfl,rfl,m3,m4,m5,m6⟩
theorem wrote_ok {g:Gh}{B:Nat}{H H':List Entry}{w w':World}(h:HR g B H w){T e id ep:Nat}{o:Own}{v:Value}{l l':List UInt8}(ho:g.own id=some o)(hk:o.kd=4)(hT:o.base=T)(he:o.room=e)(hep:o.ep=ep)
  (hown:w.ownsRow 0 e 1 v l.length (byteVs l)) (hv:∀ k,v.ownBlock=some k→∃ o2,g.own (id+1)=some o2∧o2.kd=3∧o2.blk=k) (hl:qga H id ep=some l) (hH':bldPut H id l'=some H') (hw:Wrote o.blk T e l' v w w'):
  ∃ g',Go1 g g' w w'∧HR g' B H' w'∧g'.own id=some o:=by
 obtain⟨sz,hHe⟩:=qjj hl
 unfold bldPut at hH'
 rw[hHe] at hH'
 cases hq:H[id+1]? with
 | none=>rw[hq] at hH';simp at hH'
 | some q=>
  rw[hq] at hH'
  simp only at hH'
  split at hH'
  ·rename_i hqf
   simp only[Option.some.injEq] at hH'
   obtain⟨v',hb',hown',hblk'⟩:=hw.bk
   have hbo:o.blk < w.heap.size:=by obtain⟨en,_,h2⟩:=h.ent id o ho;exact h2.lt
   have hlt:∀ i oi,g.own i=some oi→oi.blk < w.heap.size:=fun i oi hi=>by obtain⟨en,_,h2⟩:=h.ent i oi hi;exact h2.lt
   have hlo:∀ i oi,g.own i=some oi→B≤oi.blk:=fun i oi hi=>by obtain⟨en,_,h2⟩:=h.ent i oi hi;exact h2.lo
   have hfr:∀ j,¬ g.prot o.blk j:=fun j hj=>by
    obtain⟨en,h1,h2⟩:=h.ent id o ho
    rw[hHe] at h1
    simp only[Option.some.injEq] at h1
    subst h1
    have:=(h2.pr j hj).1
    simp at this
   have hfr2:∀ k,v.ownBlock=some k→∀ j,¬ g.prot k j:=fun k hk j hj=>by
    obtain⟨o2,r1,r2,r3⟩:=hv k hk
    obtain⟨en,h1,h2⟩:=h.ent (id+1) o2 r1
    rw[hq] at h1
    simp only[Option.some.injEq] at h1
    subst h1
    have:=(h2.pr j (by rw[r3];exact hj)).1
    rw[hqf.1] at this
    simp at this
   have hsame:∀ i oi,g.own i=some oi→i≠id→i≠id+1→w'.heap[oi.blk]?=w.heap[oi.blk]?:=fun i oi hi h1 h2=>hw.block _ (hlt i oi hi) (fun hb=>h1 (h.inj i id oi o hi ho hb)) fun hb=>by
    obtain⟨o2,r1,r2,r3⟩:=hv _ hb
    exact h2 (h.inj i (id+1) oi o2 hi r1 r3.symm)
   have hkeep:Keep g w w':=fun x y hx=>cell_of_heap (hw.block x (h.plt x y hx) (fun e=>hfr y (by rw[← e];exact hx)) fun e=>hfr2 x e y hx) y
   have hqo:∀ o2,g.own (id+1)=some o2→o2.ep=q.ep:=fun o2 r1=>by
    obtain⟨en,h1,h2⟩:=h.ent (id+1) o2 r1
    rw[hq] at h1
    simp only[Option.some.injEq] at h1
    subst h1
    exact h2.ep.symm
   let own1:Option Own:=match v'.ownBlock with
    | some k=>some ⟨k,0,1,0,q.ep+1,3⟩
    | none=>match g.own (id+1) with
     | some o2=>some ⟨o2.blk,0,1,0,q.ep+1,3⟩
     | none=>none
   have os1:∀ k,v'.ownBlock=some k→own1=some ⟨k,0,1,0,q.ep+1,3⟩:=fun k hk=>by simp only[own1,hk]
   have os2:∀ o2,v'.ownBlock=none→g.own (id+1)=some o2→own1=some ⟨o2.blk,0,1,0,q.ep+1,3⟩:=fun o2 hk h2=>by simp only[own1,hk,h2]
   let g':Gh:=⟨upd g.own (id+1) own1,g.prot⟩
   have hother:∀ i,i≠id+1→g'.own i=g.own i:=fun i hi=>qbh _ _ _ _ hi
   have hid:g'.own id=some o:=(hother id (by omega)).trans ho
   have hthis:g'.own (id+1)=own1:=upd_same _ _ _
   have hle:g.Le g':=by
    refine⟨fun _ _ h=>h,fun i oi hi=>?_⟩
    by_cases e:i=id+1
    ·subst e
     rw[hthis]
     have:=hqo oi hi
     cases hvb:v'.ownBlock with
     | some k=>exact⟨_,os1 k hvb,by simp only;omega,fun h=>by simp only at h;omega⟩
     | none=>exact⟨_,os2 oi hvb hi,by simp only;omega,fun h=>by simp only at h;omega⟩
    ·exact⟨oi,(hother i e).trans hi,Nat.le_refl _,fun _=>rfl⟩
   have hblk1:∀ o1,own1=some o1→o1.kd=3∧o1.sz=1∧o1.ep=q.ep+1∧((∃ o2,g.own (id+1)=some o2∧o2.blk=o1.blk)∨(w.heap.size≤o1.blk∧o1.blk < w'.heap.size)):=fun o1 h1=>by
    cases hvb:v'.ownBlock with
    | some k=>
     rw[os1 k hvb] at h1
     simp only[Option.some.injEq] at h1
     subst h1
     refine⟨rfl,rfl,rfl,?_⟩
     rcases (hblk' k hvb).2 with h2 | h2
     ·obtain⟨o2,r1,r2,r3⟩:=hv k h2
      exact .inl ⟨o2,r1,r3⟩
     ·exact .inr ⟨h2,(hown'.lt k hvb).2⟩
    | none=>
     cases hg2:g.own (id+1) with
     | none=>simp only[own1,hvb,hg2] at h1;simp at h1
     | some o2=>
      rw[os2 o2 hvb hg2] at h1
      simp only[Option.some.injEq] at h1
      subst h1
      exact⟨rfl,rfl,rfl,.inl ⟨o2,rfl,rfl⟩⟩
   have hgo:Go1 g g' w w':=by
    refine⟨hle,hkeep,hw.size,fun k hk _ hn=>hw.block k hk (fun e=>hn id o ho e.symm) fun e=>?_,fun i oi hi=>?_,fun _ _ h=>.inl h,hw.os,hw.tape,hw.output⟩
    ·obtain⟨o2,r1,r2,r3⟩:=hv k e
     exact hn (id+1) o2 r1 r3
    ·by_cases e:i=id+1
     ·subst e
      rw[hthis] at hi
      rcases (hblk1 oi hi).2.2.2 with⟨o2,r1,r2⟩ | h2
      ·exact .inl ⟨id+1,o2,r1,r2.symm⟩
      ·exact .inr h2.1
     ·exact .inl ⟨i,oi,(hother i e).symm.trans hi,rfl⟩
   have hid1:id < H.length:=(List.getElem?_eq_some_iff.1 hHe).1
   have hid2:id+1 < H.length:=(List.getElem?_eq_some_iff.1 hq).1
   have g1:H'[id]?=some ⟨sz,[[.sc (.string ⟨l'.toArray⟩)]],ep,false⟩:=by
    rw[← hH',List.getElem?_set_ne (by omega),List.getElem?_set_self hid1]
   have g2:H'[id+1]?=some ⟨1,[],q.ep+1,false⟩:=by
    rw[← hH',List.getElem?_set_self (by simpa using hid2)]
   have g3:∀ i,i≠id→i≠id+1→H'[i]?=H[i]?:=fun i a b=>by
    rw[← hH',List.getElem?_set_ne (Ne.symm b),List.getElem?_set_ne (Ne.symm a)]
   refine⟨g',hgo,⟨fun i oi hi=>?_,fun i j o1 o2 hi hj hb=>?_,fun b j hp=>Nat.lt_of_lt_of_le (h.plt b j hp) hw.size,fun i oi hi hki=>?_⟩,hid⟩
   ·by_cases e1:i=id+1
    ·subst e1
     rw[hthis] at hi
     obtain⟨b1,b2,b3,b4⟩:=hblk1 oi hi
     refine⟨_,g2,?_,b2.symm,b3.symm,?_,fun h=>by omega,fun h=>by omega,fun j hj=>?_⟩
     ·rcases b4 with⟨o2,r1,r2⟩ | ⟨b4,_⟩
      ·rw[← r2];exact hlo _ _ r1
      ·exact Nat.le_trans (Nat.le_trans (hlo id o ho) (Nat.le_of_lt hbo)) b4
     ·rcases b4 with⟨o2,r1,r2⟩ | ⟨_,b4⟩
      ·rw[← r2];exact Nat.lt_of_lt_of_le (hlt _ _ r1) hw.size
      ·exact b4
     ·rcases b4 with⟨o2,r1,r2⟩ | ⟨b4,_⟩
      ·obtain⟨en,h1,h2⟩:=h.ent (id+1) o2 r1
       rw[hq] at h1
       simp only[Option.some.injEq] at h1
       subst h1
       have:=(h2.pr j (by rw[r2];exact hj)).1
       rw[hqf.1] at this
       simp at this
      ·have:=h.plt _ _ hj
       omega
    ·rw[hother i e1] at hi
     by_cases e2:i=id
     ·subst e2
      rw[ho] at hi
      simp only[Option.some.injEq] at hi
      subst hi
      obtain⟨en,h1,h2⟩:=h.ent i o ho
      rw[hHe] at h1
      simp only[Option.some.injEq] at h1
      subst h1
      exact⟨_,g1,h2.lo,h2.sz,h2.ep,Nat.lt_of_lt_of_le h2.lt hw.size,fun h=>by omega,fun h=>by omega,fun j hj=>absurd hj (hfr j)⟩
     ·obtain⟨en,h1,h2⟩:=h.ent i oi hi
      exact⟨en,by rw[g3 i e2 e1];exact h1,h2.keep hle hkeep (hsame i oi hi e2 e1) fun _ h=>h⟩
   ·by_cases e1:i=id+1<;>by_cases e2:j=id+1
    ·omega
    ·subst e1
     rw[hthis] at hi
     rw[hother j e2] at hj
     rcases (hblk1 o1 hi).2.2.2 with⟨o3,r1,r2⟩ | ⟨b4,_⟩
     ·exact(h.inj (id+1) j o3 o2 r1 hj (r2.trans hb))
     ·have:=hlt j o2 hj
      omega
    ·subst e2
     rw[hthis] at hj
     rw[hother i e1] at hi
     rcases (hblk1 o2 hj).2.2.2 with⟨o3,r1,r2⟩ | ⟨b4,_⟩
     ·exact(h.inj i (id+1) o1 o3 hi r1 (hb.trans r2.symm))
     ·have:=hlt i o1 hi
      omega
    ·rw[hother i e1] at hi
     rw[hother j e2] at hj
     exact h.inj i j o1 o2 hi hj hb
   ·by_cases e1:i=id+1
    ·subst e1
     rw[hthis] at hi
     have:=(hblk1 oi hi).1
     omega
    ·rw[hother i e1] at hi
     by_cases e2:i=id
     ·subst e2
      rw[ho] at hi
      simp only[Option.some.injEq] at hi
      subst hi
      subst hT
      subst he
      refine⟨l',_,v',_,g1,rfl,.inr rfl,hb',hown',fun k hk'=>?_⟩
      rw[hthis]
      exact⟨⟨k,0,1,0,q.ep+1,3⟩,os1 k hk',rfl,rfl⟩
     ·have e3:i+1≠id+1:=by omega
      refine(h.bld i oi hi hki).keep (fun e he=>?_) (fun o2 h1 h2=>?_) (hsame i oi hi e2 e1) fun o2 h1 h2=>?_
      ·exact⟨e,by rw[g3 i e2 e1];exact he,rfl⟩
      ·rw[hother (i+1) e3]
       exact h1
      ·refine hsame (i+1) o2 h1 (fun e=>?_) e3
       rw[e,ho] at h1
       simp only[Option.some.injEq] at h1
       subst h1
       omega
  ·simp at hH'
def qid (T0 e0:TypeId):Run | [.one (.bl T e id ep),.one (.sc (.string s))],H=>if T=T0∧e=e0 then (qga H id ep).bind fun l=>if l.length+s.size≤140737488355328 then (bldPut H id (l++s.data.toList)).map fun H'=>([.one (.sc (.int .i64 s.size)),.one (.sc .nilIface)],H') else none else none | _,_=>none
theorem bwstr_ok {Ok:Nat→World→Prop}{f:FuncId}{T0 e0:TypeId}
  (hs:∀ (b:Nat) (p v:Value) (l:List UInt8) (s:ByteArray) (w:World),(p=.pointer none∨p=.pointer (some ⟨b,0,none⟩))→w.heap[b]?=some (.cells #[p,v] T0 (0,0))→w.ownsRow 0 e0 1 v l.length (byteVs l)→v.ownBlock≠some b→l.length+s.size≤140737488355328→
   Calls P f #[.pointer (some ⟨b,0,none⟩),.string s] w fun e w'=>e=.returned (.tuple #[.int .i64 s.size,.nilIface])∧Wrote b T0 e0 (l++s.data.toList) v w w'):FnOk P Ok f (qid T0 e0):=by
 intro args H r h g B w vs hOk hh hB ha
 unfold qid at h
 split at h
 ·rename_i T e id ep s
  split at h
  ·rename_i hTe
   obtain⟨rfl,rfl⟩:=hTe
   obtain⟨l,hl,h⟩:=Option.bind_eq_some_iff.1 h
   split at h
   ·rename_i hlen
    obtain⟨H',hH',rfl⟩:=Option.map_eq_some_iff.1 h
    cases ha with
    | cons a1 t1=>cases t1 with
     | cons a2 t2=>cases t2 with
      | nil=>
       cases a1 with
       | one _ _ h1=>cases a2 with
        | one _ _ h2=>
         cases h2
         obtain⟨o,p,v,rfl,ho,hk,hep,hT,he,hp,hb,hown,hv⟩:=bld_at hh h1 hl
         have hne:v.ownBlock≠some o.blk:=fun hvb=>by
          obtain⟨o2,r1,r2,r3⟩:=hv _ hvb
          have:=hh.inj (id+1) id o2 o r1 ho r3
          omega
         refine(hs o.blk p v l s w hp hb hown hne hlen).mono fun e1 w' ⟨e2,hw⟩=>?_
         obtain⟨g',k1,k2,_⟩:=wrote_ok hh ho hk hT he hep hown hv hl hH' hw
         exact⟨_,e2,g',k1,k2,.tup _ [.int .i64 s.size,.nilIface] (.cons (.one _ _ (.sc _ rfl)) (.cons (.one _ _ (.sc _ rfl)) .nil))⟩
   ·simp at h
  ·simp at h
 ·simp at h
structure ReadB (v:Value)(w w':World):Prop where
 size:w.heap.size≤w'.heap.size
 os:w'.os=w.os
 tape:w'.tape=w.tape
 output:w'.output=w.output
 block:∀ k,k < w.heap.size→v.ownBlock≠some k→w'.heap[k]?=w.heap[k]?
def bldEnd (H:List Entry)(id:Nat):Option (List Entry):=
 match H[id]?,H[id+1]? with
 | some e,some q=>if q.fr=false then some (H.set id ⟨e.sz,[],e.ep+1,false⟩) else none
 | _,_=>none
theorem read_ok {g:Gh}{B:Nat}{H H':List Entry}{w w':World}(h:HR g B H w){id ep:Nat}{o:Own}{v:Value}{l:List UInt8}(ho:g.own id=some o)(hk:o.kd=4)
  (hv:∀ k,v.ownBlock=some k→∃ o2,g.own (id+1)=some o2∧o2.kd=3∧o2.blk=k) (hl:qga H id ep=some l) (hH':bldEnd H id=some H') (hw:ReadB v w w'):∃ g',Go1 g g' w w'∧HR g' B H' w':=by
 obtain⟨sz,hHe⟩:=qjj hl
 unfold bldEnd at hH'
 rw[hHe] at hH'
 cases hq:H[id+1]? with
 | none=>rw[hq] at hH';simp at hH'
 | some q=>
  rw[hq] at hH'
  simp only at hH'
  split at hH'
  ·rename_i hqf
   simp only[Option.some.injEq] at hH'
   have hlt:∀ i oi,g.own i=some oi→oi.blk < w.heap.size:=fun i oi hi=>by obtain⟨en,_,h2⟩:=h.ent i oi hi;exact h2.lt
   have hfr:∀ j,¬ g.prot o.blk j:=fun j hj=>by
    obtain⟨en,h1,h2⟩:=h.ent id o ho
    rw[hHe] at h1
    simp only[Option.some.injEq] at h1
    subst h1
    have:=(h2.pr j hj).1
    simp at this
   have hfr2:∀ k,v.ownBlock=some k→∀ j,¬ g.prot k j:=fun k hk j hj=>by
    obtain⟨o2,r1,r2,r3⟩:=hv k hk
    obtain⟨en,h1,h2⟩:=h.ent (id+1) o2 r1
    rw[hq] at h1
    simp only[Option.some.injEq] at h1
    subst h1
    have:=(h2.pr j (by rw[r3];exact hj)).1
    rw[hqf] at this
    simp at this
   have hsame:∀ i oi,g.own i=some oi→i≠id+1→w'.heap[oi.blk]?=w.heap[oi.blk]?:=fun i oi hi h2=>hw.block _ (hlt i oi hi) fun hb=>by
    obtain⟨o2,r1,r2,r3⟩:=hv _ hb
    exact h2 (h.inj i (id+1) oi o2 hi r1 r3.symm)
   have hkeep:Keep g w w':=fun x y hx=>cell_of_heap (hw.block x (h.plt x y hx) fun e=>hfr2 x e y hx) y
   have hHlt:id < H.length:=(List.getElem?_eq_some_iff.1 hHe).1
   obtain⟨en0,h10,h20⟩:=h.ent id o ho
   rw[hHe] at h10
   simp only[Option.some.injEq] at h10
   subst h10
   have hepo:ep=o.ep:=h20.ep
   let g':Gh:=⟨upd g.own id (some ⟨o.blk,0,o.sz,0,o.ep+1,3⟩),g.prot⟩
   have hother:∀ i,i≠id→g'.own i=g.own i:=fun i hi=>qbh _ _ _ _ hi
   have hthis:g'.own id=some ⟨o.blk,0,o.sz,0,o.ep+1,3⟩:=upd_same _ _ _
   have hcase:∀ i oi,g'.own i=some oi→(i=id∧oi=⟨o.blk,0,o.sz,0,o.ep+1,3⟩)∨(i≠id∧g.own i=some oi):=fun i oi hi=>by
    by_cases e:i=id
    ·subst e
     rw[hthis] at hi
     simp only[Option.some.injEq] at hi
     exact .inl ⟨rfl,hi.symm⟩
    ·rw[hother i e] at hi
     exact .inr ⟨e,hi⟩
   have hle:g.Le g':=by
    refine⟨fun _ _ h=>h,fun i oi hi=>?_⟩
    by_cases e:i=id
    ·subst e
     rw[ho] at hi
     simp only[Option.some.injEq] at hi
     subst hi
     exact⟨_,hthis,by simp only;omega,fun h=>by simp only at h;omega⟩
    ·exact⟨oi,(hother i e).trans hi,Nat.le_refl _,fun _=>rfl⟩
   have hgo:Go1 g g' w w':=by
    refine⟨hle,hkeep,hw.size,fun k hk _ hn=>hw.block k hk fun e=>?_,fun i oi hi=>?_,fun _ _ h=>.inl h,hw.os,hw.tape,hw.output⟩
    ·obtain⟨o2,r1,r2,r3⟩:=hv k e
     exact hn (id+1) o2 r1 r3
    ·rcases hcase i oi hi with⟨rfl,rfl⟩ | ⟨_,hi⟩
     ·exact .inl ⟨i,o,ho,rfl⟩
     ·exact .inl ⟨i,oi,hi,rfl⟩
   have g1:H'[id]?=some ⟨sz,[],ep+1,false⟩:=by rw[← hH',List.getElem?_set_self hHlt]
   have g3:∀ i,i≠id→H'[i]?=H[i]?:=fun i a=>by rw[← hH',List.getElem?_set_ne (Ne.symm a)]
   refine⟨g',hgo,⟨fun i oi hi=>?_,fun i j o1 o2 hi hj hb=>?_,fun b j hp=>Nat.lt_of_lt_of_le (h.plt b j hp) hw.size,fun i oi hi hki=>?_⟩⟩
   ·rcases hcase i oi hi with⟨rfl,rfl⟩ | ⟨e,hi⟩
    ·exact⟨_,g1,h20.lo,h20.sz,by simp only;omega,Nat.lt_of_lt_of_le h20.lt hw.size,fun h=>by simp at h,fun h=>by simp at h,fun j hj=>absurd hj (hfr j)⟩
    ·obtain⟨en,h1,h2⟩:=h.ent i oi hi
     by_cases e1:i=id+1
     ·subst e1
      rw[hq] at h1
      simp only[Option.some.injEq] at h1
      subst h1
      by_cases e2:v.ownBlock=some oi.blk
      ·obtain⟨o2,r1,r2,r3⟩:=hv _ e2
       rw[hi] at r1
       simp only[Option.some.injEq] at r1
       subst r1
       exact⟨q,by rw[g3 _ e];exact hq,h2.lo,h2.sz,h2.ep,Nat.lt_of_lt_of_le h2.lt hw.size,fun h=>by omega,fun h=>by omega,h2.pr⟩
      ·exact⟨q,by rw[g3 _ e];exact hq,h2.keep hle hkeep (hw.block _ h2.lt e2) fun _ h=>h⟩
     ·exact⟨en,by rw[g3 i e];exact h1,h2.keep hle hkeep (hsame i oi hi e1) fun _ h=>h⟩
   ·rcases hcase i o1 hi with⟨a1,a2⟩ | ⟨e,hi'⟩<;>rcases hcase j o2 hj with⟨b1,b2⟩ | ⟨e',hj'⟩
    ·rw[a1,b1]
    ·rw[a2] at hb
     rw[a1]
     exact h.inj id j o o2 ho hj' hb
    ·rw[b2] at hb
     rw[b1]
     exact h.inj i id o1 o hi' ho hb
    ·exact h.inj i j o1 o2 hi' hj' hb
   ·rcases hcase i oi hi with⟨rfl,rfl⟩ | ⟨e,hi⟩
    ·simp at hki
    ·have e1:w'.heap[oi.blk]?=w.heap[oi.blk]?:=hw.block _ (hlt i oi hi) fun e2=>by
      obtain⟨o2,r1,r2,r3⟩:=hv _ e2
      have:=h.inj i (id+1) oi o2 hi r1 r3.symm
      subst this
      rw[hi] at r1
      simp only[Option.some.injEq] at r1
      subst r1
      omega
     refine(h.bld i oi hi hki).keep (fun e0 he=>⟨e0,by rw[g3 i e];exact he,rfl⟩) (fun o2 h1 h2=>?_) e1 fun o2 h1 h2=>?_
     ·rw[hother (i+1) fun e2=>?_]
      ·exact h1
      ·rw[e2,ho] at h1
       simp only[Option.some.injEq] at h1
       subst h1
       omega
     ·exact hsame (i+1) o2 h1 (by omega)
  ·simp at hH'
theorem readB_drew (v:Value)(w:World):ReadB v w w.drew:=⟨Nat.le_refl _,rfl,rfl,rfl,fun _ _ _=>rfl⟩
theorem readB_alloc (v:Value)(w:World)(ob:Obj):ReadB v w (w.drew.alloc ob):=⟨by show w.heap.size≤(w.heap.push ob).size;rw[Array.size_push];exact Nat.le_succ _,rfl,rfl,rfl,fun k hk _=>alloc_old w.drew ob k hk⟩
theorem readB_freeze {v:Value}{g:Nat}(hv:v.ownBlock=some g)(w:World)(n:Nat):ReadB v w (w.drew.freeze ⟨g,0,none⟩ n):=by
 unfold World.freeze
 split
 ·exact readB_drew v w
 ·refine⟨Nat.le_of_eq (Array.size_modify ..).symm,rfl,rfl,rfl,fun k hk hne=>?_⟩
  simp only[Array.getElem?_modify]
  rw[if_neg fun e=>hne (by rw[hv];simpa using e)]
  rfl
def qlo (T0 e0:TypeId):Run | [.one (.bl T e id ep)],H=>if T=T0∧e=e0 then (qga H id ep).bind fun l=>(bldEnd H id).map fun H'=>([.one (.sc (.string ⟨l.toArray⟩))],H') else none | _,_=>none
theorem bstr_ok {Ok:Nat→World→Prop}{f:FuncId}{T0 e0:TypeId}
  (hs:∀ (b:Nat) (p v:Value) (l:List UInt8) (w:World),w.heap[b]?=some (.cells #[p,v] T0 (0,0))→w.ownsRow 0 e0 1 v l.length (byteVs l)→Calls P f #[.pointer (some ⟨b,0,none⟩)] w fun e w'=>e=.returned (.string ⟨l.toArray⟩)∧ReadB v w w'):FnOk P Ok f (qlo T0 e0):=by
 intro args H r h g B w vs hOk hh hB ha
 unfold qlo at h
 split at h
 ·rename_i T e id ep
  split at h
  ·rename_i hTe
   obtain⟨rfl,rfl⟩:=hTe
   obtain⟨l,hl,h⟩:=Option.bind_eq_some_iff.1 h
   obtain⟨H',hH',rfl⟩:=Option.map_eq_some_iff.1 h
   cases ha with
   | cons a1 t1=>cases t1 with
    | nil=>
     cases a1 with
     | one _ _ h1=>
      obtain⟨o,p,v,rfl,ho,hk,hep,hT,he,hp,hb,hown,hv⟩:=bld_at hh h1 hl
      refine(hs o.blk p v l w hb hown).mono fun e1 w' ⟨e2,hw⟩=>?_
      obtain⟨g',k1,k2⟩:=read_ok hh ho hk hv hl hH' hw
      exact⟨_,e2,g',k1,k2,.av _ _ (.one _ _ (.sc _ rfl))⟩
  ·simp at h
 ·simp at h
end Go.Ev
