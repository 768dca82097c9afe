/- Functions of the library that turn a row of texts in place (slices.Sort, slices.Compact), as they turn the owned heap. Conditions: none. -/
import Derived.Test.YteofbfalngmmeaaGreatDoorEvMem
import Derived.Sort.Grow
import Derived.Sort.EncStr
import Derived.Lib.SlicesCompact
import Derived.Lib.Bytealg
set_option linter.unusedVariables false
namespace Go.Ev
open Go Go.Sort Go.Proofs
variable {P:Program}
structure RowTurn (w w':World)(blk:Nat)(f:Array Value→Array Value):Prop where
 size:w.heap.size≤w'.heap.size
 other:∀ k,k < w.heap.size→k≠blk→w'.heap[k]?=w.heap[k]?
 here:∀ c t fz,w.heap[blk]?=some (.cells c t fz)→w'.heap[blk]?=some (.cells (f c) t fz)
 os:w'.os=w.os
 tape:w'.tape=w.tape
 output:w'.output=w.output
theorem qwhc {g:Gh}{B:Nat}{H:List Entry}{w w':World}{id:Nat}{o:Own}{e:Entry}{f:Array Value→Array Value}{rows:List (List Cell)}(h:HR g B H w)(ho:g.own id=some o)(he:H[id]?=some e)(hkd:o.kd=0)(hfr:e.fr=false)
  (ht:RowTurn w w' o.blk f) (hf:∀ c,(f c).size=c.size) (hl:∀ row∈rows,row.length=o.sz) (hr:rows.length*o.sz≤o.room)
  (hv:∀ (c:Array Value),o.base+o.room≤c.size→∀ (i j:Nat) row cl,rows[i]?=some row→row[j]?=some cl→∃ v,(f c)[o.base+i*o.sz+j]?=some v∧R g w' cl v):
  Go1 g g w w'∧HR g B (H.set id ⟨e.sz,rows,e.ep,false⟩) w':=by
 obtain⟨e',h1,h2⟩:=h.ent id o ho
 rw[he] at h1
 simp only[Option.some.injEq] at h1
 subst h1
 have hnp:∀ j,¬ g.prot o.blk j:=fun j hj=>by have:=(h2.pr j hj).1;rw[hfr] at this;simp at this
 obtain⟨c,t,fz,m1,m2,m3,m4,m5,m6⟩:=h2.mem hkd
 have hb:o.blk < w.heap.size:=h2.lt
 have hk:Keep g w w':=fun b j hp=>cell_of_heap (ht.other b (h.plt b j hp) fun e=>hnp j (e▸hp)) j
 have hgo:Go1 g g w w':=⟨.refl g,hk,ht.size,fun k hk _ hn=>ht.other k hk (Ne.symm (hn id o ho)),fun id o h=>.inl ⟨id,o,h,rfl⟩,fun _ _ h=>.inl h,ht.os,ht.tape,ht.output⟩
 have hne:∀ i o1,g.own i=some o1→o1.kd≠0→i≠id∧o1.blk≠o.blk:=fun i o1 h1 h2=>by
  have hi:i≠id:=fun e=>by
   subst e
   rw[ho] at h1
   simp only[Option.some.injEq] at h1
   subst h1
   exact h2 hkd
  exact⟨hi,fun e=>hi (h.inj i id o1 o h1 ho e)⟩
 have hlt:∀ i o1,g.own i=some o1→o1.blk < w.heap.size:=fun i o1 h1=>by
  obtain⟨e1,_,k2⟩:=h.ent i o1 h1
  exact k2.lt
 refine⟨hgo,fun id1 o1 h1=>?_,h.inj,fun b j hp=>Nat.lt_of_lt_of_le (h.plt b j hp) ht.size,h.bldKeep (fun i o1 h1 h2=>⟨h1,fun e' he'=>⟨e',?_,rfl⟩,fun _ h _=>h⟩) fun i o1 h1 h2=>ht.other _ (hlt i o1 h1) (hne i o1 h1 (by omega)).2⟩
 rotate_left
 ·rw[List.getElem?_set_ne (Ne.symm (hne i o1 h1 (by omega)).1)];exact he'
 by_cases hid:id1=id
 ·subst hid
  rw[ho] at h1
  simp only[Option.some.injEq] at h1
  subst h1
  refine⟨⟨e.sz,rows,e.ep,false⟩,by rw[List.getElem?_set_self (List.getElem?_eq_some_iff.1 he).1],h2.lo,h2.sz,h2.ep,Nat.lt_of_lt_of_le h2.lt ht.size,fun _=>⟨f c,t,fz,ht.here c t fz m1,hr,by rw[hf];exact m3,hl,fun j hj=>?_,hv c m3⟩,fun h=>by omega,fun j hj=>(hnp j hj).elim⟩
  rw[hf] at hj
  have:=m5 j hj
  unfold World.frozen? at this ⊢
  rw[m1] at this
  rw[ht.here c t fz m1]
  exact this
 ·obtain⟨e1,k1,k2⟩:=h.ent id1 o1 h1
  have hlt:o1.blk < w.heap.size:=k2.lt
  exact⟨e1,by rw[List.getElem?_set_ne (Ne.symm hid)];exact k1,k2.keep (.refl g) hk (ht.other _ hlt fun e=>hid (h.inj id1 id o1 o h1 ho e)) fun _ h=>h⟩
theorem qhrc {w:World}{blk off:Nat}{d:Array (List UInt8)}{n:Nat}{os:Array Obj}(hb:blk < w.heap.size):RowTurn w (grow (putRow encStr (Sort.ahead w n) blk off d) os) blk (putCells encStr off d):=by
 have hs:(putRow encStr (Sort.ahead w n) blk off d).heap.size=w.heap.size:=by simp[putRow,mapBlock,Sort.ahead]
 refine⟨by simp[grow,hs],fun k hk hn=>?_,fun c t fz hc=>?_,rfl,rfl,rfl⟩
 ·rw[heap_grow_old _ _ (by rw[hs];exact hk)]
  simp only[putRow,mapBlock,Sort.ahead,Array.getElem?_modify,if_neg (Ne.symm hn)]
 ·rw[heap_grow_old _ _ (by rw[hs];exact hb)]
  simp only[putRow,mapBlock,Sort.ahead,Array.getElem?_modify,if_true,hc,Option.map_some]
  rfl
def qusb:List Cell→Option Str | [.sc (.string s)]=>some s.data.toList | _=>none
def qlm (rows:List (List Cell)):Option (List Str):=mapO qusb rows
theorem qie (xs:List Str):qlm (xs.map eStr)=some xs:=by
 induction xs with
 | nil=>rfl
 | cons x xs ih=>
  have ih:mapO qusb (xs.map eStr)=some xs:=ih
  simp only[qlm,List.map_cons,mapO,ih]
  simp[qusb,eStr]
theorem qse:∀ {rows:List (List Cell)} {xs:List Str},qlm rows=some xs→rows=xs.map eStr:=by
 intro rows
 induction rows with
 | nil=>intro xs h;simp only[qlm,mapO,Option.some.injEq] at h;subst h;rfl
 | cons r rows ih=>
  intro xs h
  simp only[qlm,mapO] at h
  split at h
  ·rename_i a ha
   split at h
   ·rename_i b hb
    simp only[Option.some.injEq] at h
    subst h
    rw[List.map_cons,ih hb]
    congr 1
    unfold qusb at ha
    split at ha
    ·rename_i s
     simp only[Option.some.injEq] at ha
     subst ha
     simp[eStr,← bs_of]
    ·simp at ha
   ·simp at h
  ·simp at h
def qlhb (xs:List Str):List Str:=xs.mergeSort fun x y=>decide (x≤y)
def vecS (H:List Entry)(id sz off len ep:Nat):Option (List Str):=
 match entry? H id ep with
 | some e=>if sz=1∧off=0∧len=e.rows.length∧e.sz=1∧e.fr=false∧len≤1152921504606846976 then qlm e.rows else none
 | none=>none
theorem qowb {H:List Entry}{id sz off len ep:Nat}{xs:List Str}(h:vecS H id sz off len ep=some xs):sz=1∧off=0∧len=xs.length∧H[id]?=some ⟨1,xs.map eStr,ep,false⟩∧len≤1152921504606846976:=by
 unfold vecS at h
 split at h
 ·rename_i e he
  split at h
  ·rename_i hc
   obtain⟨h1,h2,h3,h4,h5,h6⟩:=hc
   have hr:=qse h
   refine⟨h1,h2,by rw[h3,hr];simp,?_,h6⟩
   unfold entry? at he
   split at he
   ·rename_i e' he'
    split at he
    ·rename_i hep
     simp only[Option.some.injEq] at he
     subst he
     rw[he',← hep,← hr,← h4,← h5]
    ·simp at he
   ·simp at he
  ·simp at h
 ·simp at h
def qnt:Run
 | [.one (.lst _ _ [])],H=>some ([],H)
 | [.one (.vs id sz off len ep)],H=>match vecS H id sz off len ep with
  | some xs=>some ([],H.set id ⟨1,(qlhb xs).map eStr,ep,false⟩)
  | none=>none
 | _,_=>none
def qfq:Run
 | [.one (.lst f sz [])],H=>some ([.one (.lst f sz [])],H)
 | [.one (.vs id sz off len ep)],H=>match vecS H id sz off len ep with
  | some xs=>some ([.one (.vs id 1 0 (Lib.compact xs).length ep)],H.set id ⟨1,(Lib.compact xs).map eStr,ep,false⟩)
  | none=>none
 | _,_=>none
theorem qul (xs:List Str):(Lib.compact xs).length≤xs.length:=by
 unfold Lib.compact Lib.compactUpTo
 rw[List.length_map]
 exact Nat.le_trans (List.length_filter_le _ _) (by simp)
theorem qxkc {g:Gh}{B:Nat}{H:List Entry}{w:World}{id len ep:Nat}{xs:List Str}{v:Value}(h:HR g B H w)(hv:R g w (.vs id 1 0 len ep) v)(he:H[id]?=some ⟨1,xs.map eStr,ep,false⟩)(hl:len=xs.length):
  ∃ (o:Own) (cap:Nat),g.own id=some o∧v=.slice (some ⟨o.blk,o.base,none⟩) xs.length cap∧o.sz=1∧o.ep=ep∧o.kd=0∧xs.length≤cap∧cap≤o.room∧o.blk < w.heap.size∧Holds encStr w o.blk o.base xs.toArray:=by
 cases hv with
 | vs _ _ _ _ _ a cap o ho hle hn hlc hh hk=>
  obtain⟨e',h1,h2⟩:=h.ent id o ho
  rw[he] at h1
  simp only[Option.some.injEq] at h1
  subst h1
  have hep:ep=o.ep:=h2.ep
  obtain⟨ha,hsz,hroom⟩:=hh hep
  subst hl
  obtain⟨c,t,fz,m1,m2,m3,m4,m5,m6⟩:=h2.mem (hk hep)
  have hlt:o.blk < w.heap.size:=h2.lt
  refine⟨o,cap,ho,by rw[ha];simp,hsz,hep.symm,hk hep,hlc,by omega,hlt,fun j hj=>?_⟩
  have hj':j < xs.length:=by simpa using hj
  obtain⟨v,n1,n2⟩:=m6 j 0 (eStr xs[j]) (Cell.str (bs xs[j])) (by simp[hj']) rfl
  rw[hsz] at n1
  have hjc:o.base+j < c.size:=by omega
  constructor
  ·cases n2
   have:c[o.base+j]?=some (Value.string (bs xs[j])):=by simpa using n1
   simp only[World.cell?,m1]
   simp only[this]
   have hx:xs.toArray[j]! =xs[j]:=by simp[hj']
   rw[hx]
   rfl
  ·exact m5 _ hjc
theorem put_at {off:Nat}{ys:List Str}{c:Array Value}{i:Nat}{y:Str}(hy:ys[i]?=some y)(hc:off+i < c.size):(putCells encStr off ys.toArray c)[off+i]?=some (Value.string (bs y)):=by
 have hlt:=(List.getElem?_eq_some_iff.1 hy).1
 have hy':=(List.getElem?_eq_some_iff.1 hy).2
 simp only[putCells,Array.getElem?_mapIdx,Array.getElem?_eq_getElem hc,Option.map_some,List.size_toArray]
 rw[if_pos ⟨by omega,by omega⟩,show off+i - off=i by omega]
 have hx:ys.toArray[i]! =y:=by simp[hlt,hy']
 rw[hx]
 rfl
theorem qrkb {g:Gh}{B:Nat}{H:List Entry}{w w':World}{id ep:Nat}{o:Own}{xs ys zs:List Str}{n:Nat}{os:Array Obj}(h:HR g B H w)(ho:g.own id=some o)(he:H[id]?=some ⟨1,xs.map eStr,ep,false⟩)(hsz:o.sz=1)(hkd:o.kd=0)(hb:o.blk < w.heap.size)
  (hw:w'=grow (putRow encStr (Sort.ahead w n) o.blk o.base ys.toArray) os) (hy:ys.length=xs.length) (hxr:xs.length≤o.room) (hz:zs <+:ys):Go1 g g w w'∧HR g B (H.set id ⟨1,zs.map eStr,ep,false⟩) w':=by
 subst hw
 have hzl:=hz.length_le
 refine qwhc h ho he hkd rfl (qhrc hb) (fun c=>by simp[putCells]) (fun row hr=>?_) (by rw[hsz];simp;omega) fun c hc i j row cl hi hj=>?_
 ·obtain⟨x,_,rfl⟩:=List.mem_map.1 hr
  rw[hsz]
  rfl
 ·rw[List.getElem?_map,Option.map_eq_some_iff] at hi
  obtain⟨y,hi,rfl⟩:=hi
  have hil:=(List.getElem?_eq_some_iff.1 hi).1
  have hj0:j=0:=by
   have:=(List.getElem?_eq_some_iff.1 hj).1
   simp[eStr] at this
   omega
  subst hj0
  simp only[eStr,List.getElem?_cons_zero,Option.some.injEq] at hj
  subst hj
  refine⟨Value.string (bs y),?_,.sc _ rfl⟩
  rw[hsz,show o.base+i*1+0=o.base+i by omega]
  refine put_at ?_ (by omega)
  obtain⟨q,rfl⟩:=hz
  rw[List.getElem?_append_left hil]
  exact hi
theorem qbld {Ok:Nat→World→Prop}{f:FuncId}
  (hs:∀ (blk off cap:Nat) (ss:List (List UInt8)) (w:World),Holds encStr w blk off ss.toArray→blk < w.heap.size→ss.length < 4611686018427387904→
   Calls P f #[.slice (some ⟨blk,off,none⟩) ss.length cap] w fun e w'=>e=.returned (.tuple #[])∧∃ n os,w'=grow (putRow encStr (Sort.ahead w n) blk off (ss.mergeSort fun x y=>decide (x≤y)).toArray) os)
  (hn:∀ (p:Option Addr) (cap:Nat) (w:World),Calls P f #[.slice p 0 cap] w fun e w'=>e=.returned (.tuple #[])∧w'=w):FnOk P Ok f qnt:=by
 intro args H r h g B w vs hOk hh hB ha
 unfold qnt at h
 split at h
 ·rename_i fl sz H0
  simp only[Option.some.injEq] at h
  subst h
  cases ha with
  | cons a1 t1=>cases t1 with
   | nil=>
    cases a1 with
    | one _ _ h1=>
     cases h1 with
     | nil _ _ a cap _=>
      refine(hn a cap w).mono fun e w' ⟨he,hw⟩=>⟨_,he,g,?_,?_,.tup [] [] All2.nil⟩
      ·rw[hw];exact .refl _ _
      ·rw[hw];exact hh
     | lst _ _ _ _ _ _ _ hne=>simp at hne
 ·rename_i id sz off len ep H0
  split at h
  ·rename_i xs hx
   simp only[Option.some.injEq] at h
   subst h
   obtain⟨rfl,rfl,hl,he,hb⟩:=qowb hx
   cases ha with
   | cons a1 t1=>cases t1 with
    | nil=>
     cases a1 with
     | one _ v h1=>
      obtain⟨o,cap,ho,rfl,hsz,_,hkd,hlc,hroom,hlt,hH⟩:=qxkc hh h1 he hl
      refine(hs o.blk o.base cap xs w hH hlt (by omega)).mono fun e w' ⟨e1,n,os,hw⟩=>?_
      have:=qrkb hh ho he hsz hkd hlt hw (List.length_mergeSort xs) (by omega) (List.prefix_refl _)
      exact⟨_,e1,g,this.1,this.2,.tup [] [] All2.nil⟩
  ·simp at h
 ·simp at h
theorem qorb {Ok:Nat→World→Prop}{f:FuncId}
  (hs:∀ (blk off cap:Nat) (zs:List (List UInt8)) (w:World),Holds encStr w blk off zs.toArray→zs.length≤9223372036854775807→zs.length≤cap→
   Calls P f #[.slice (some ⟨blk,off,none⟩) zs.length cap] w fun e w'=>e=.returned (.slice (some ⟨blk,off,none⟩) (Lib.compact zs).length cap)∧∃ q,w'=putRow encStr (Sort.ahead w q) blk off (Lib.compact zs++List.replicate (zs.length - (Lib.compact zs).length) []).toArray)
  (hn:∀ (a:Option Addr) (cap:Nat) (w:World),Calls P f #[.slice a 0 cap] w fun e w'=>e=.returned (.slice a 0 cap)∧w'=w):FnOk P Ok f qfq:=by
 intro args H r h g B w vs hOk hh hB ha
 unfold qfq at h
 split at h
 ·rename_i fl sz H0
  simp only[Option.some.injEq] at h
  subst h
  cases ha with
  | cons a1 t1=>cases t1 with
   | nil=>
    cases a1 with
    | one _ _ h1=>
     cases h1 with
     | nil _ _ a cap hcap=>
      refine(hn a cap w).mono fun e w' ⟨he,hw⟩=>⟨_,he,g,?_,?_,.av _ _ (.one _ _ (.nil _ _ a cap hcap))⟩
      ·rw[hw];exact .refl _ _
      ·rw[hw];exact hh
     | lst _ _ _ _ _ _ _ hne=>simp at hne
 ·rename_i id sz off len ep H0
  split at h
  ·rename_i xs hx
   simp only[Option.some.injEq] at h
   subst h
   obtain⟨rfl,rfl,hl,he,hb⟩:=qowb hx
   cases ha with
   | cons a1 t1=>cases t1 with
    | nil=>
     cases a1 with
     | one _ v h1=>
      obtain⟨o,cap,ho,rfl,hsz,hep,hkd,hlc,hroom,hlt,hH⟩:=qxkc hh h1 he hl
      have hcl:=qul xs
      refine(hs o.blk o.base cap xs w hH (by omega) hlc).mono fun e w' ⟨e1,n,hw⟩=>?_
      have:=qrkb (os:=#[]) (n:=n) (ys:=Lib.compact xs++List.replicate (xs.length - (Lib.compact xs).length) []) (zs:=Lib.compact xs) hh ho he hsz hkd hlt (hw.trans (grow_empty _).symm) (by simp;omega) (by omega) (List.prefix_append _ _)
      refine⟨_,e1,g,this.1,this.2,.av _ _ (.one _ _ (.vs _ _ _ _ _ _ cap o ho (Nat.le_of_eq hep.symm) (fun h=>by simp at h) (by omega) (fun _=>⟨by simp,hsz,by omega⟩) fun _=>hkd))⟩
  ·simp at h
 ·simp at h
end Go.Ev
