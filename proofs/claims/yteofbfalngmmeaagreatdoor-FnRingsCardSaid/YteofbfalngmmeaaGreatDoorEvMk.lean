/- Marks: rows of an owned list that are written one behind the other, and what is left alone. No program occurs here; no conditions. -/
import Derived.Test.YteofbfalngmmeaaGreatDoorEvRep
set_option linter.unusedVariables false
set_option linter.unusedSimpArgs false
namespace Go.Ev
open Go
structure Upd (ids:List Nat)(H H':List Entry):Prop where
 len:H'.length=H.length
 other:∀ j,j∉ids→H'[j]?=H[j]?
theorem Upd.refl (ids:List Nat)(H:List Entry):Upd ids H H:=⟨rfl,fun _ _=>rfl⟩
theorem Upd.trans {ids:List Nat}{A B C:List Entry}(h:Upd ids A B)(k:Upd ids B C):Upd ids A C:=⟨k.len.trans h.len,fun j hj=>(k.other j hj).trans (h.other j hj)⟩
theorem Upd.mono {i1 i2:List Nat}{A B:List Entry}(h:Upd i1 A B)(k:∀ j∈i1,j∈i2):Upd i2 A B:=⟨h.len,fun j hj=>h.other j fun hh=>hj (k j hh)⟩
variable {H H':List Entry} {w q:Bool}
theorem Rep.lenC {n sz:Nat}{ids:List Nat}{c:Cell}{trs:List (List Tr)}(h:Rep H w q n ids c (.list sz trs)):lenC c=some trs.length:=by
 cases n with
 | zero=>exact h.elim
 | succ n=>
  rcases h with⟨rfl,_,f,rfl⟩ | ⟨id,off,ep,e,fr,is,rfl,rfl,he,hq,hwh,hl,hr,hs⟩
  ·rfl
  ·rfl
theorem Sp.take_drop {α β:Type}{P:List Nat→α→β→Prop}{is:List Nat}{as:List α}{bs:List β}{n:Nat}{b':β}{a':α}{i1 i i2:List Nat}(h1:Sp P i1 (as.take n) (bs.take n))(h:P i a' b')(h2:Sp P i2 (as.drop (n+1)) (bs.drop (n+1)))(ha:n < as.length)(hb:n < bs.length):Sp P (i1++(i++i2)) (as.set n a') (bs.set n b'):=by
 rw[List.set_eq_take_append_cons_drop,List.set_eq_take_append_cons_drop,if_pos ha,if_pos hb]
 exact h1.append (.cons h h2)
theorem Rep.idx {n sz:Nat}{ids:List Nat}{c:Cell}{trs:List (List Tr)}(h:Rep H w true (n+1) ids c (.list sz trs))(hn:ids.Nodup){i:Nat}{r:List Tr}(hr:trs[i]?=some r):
  ∃ id p ep row,idxA sz c (i:Int)=some (.ptr id sz p 0 ep)∧(∀ o,deref H (.ptr id sz p o ep)=some (row,o))∧row.length=r.length∧
   (∀ f v0 v,r[f]?=some (.leaf v0)→∃ H',qbu H (.ptr id sz p f ep) [.sc v]=some H'∧Upd ids H H'∧Rep H' w true (n+1) ids c (.list sz (trs.set i (r.set f (.leaf v)))))∧
   (∀ f t,r[f]?=some t→∃ cc sub,row[f]?=some cc∧Rep H w true n sub cc t∧sub.Nodup∧
    ∀ H' t',Upd sub H H'→Rep H' w true n sub cc t'→Upd ids H H'∧Rep H' w true (n+1) ids c (.list sz (trs.set i (r.set f t')))):=by
 rcases h with⟨rfl,_⟩ | ⟨id,off,ep,e,fr,is,rfl,rfl,he,hq,hwh,hl,hrl,hs⟩
 ·simp at hr
 have hfr:=hq rfl
 subst hfr
 have hi:i < trs.length:=(List.getElem?_eq_some_iff.1 hr).1
 obtain⟨i1,im,i2,row,rfl,hrow,hm,hs1,hs2⟩:=hs.at hr
 have hrow':e[off+i]?=some row:=by
  rw[List.getElem?_take,if_pos hi,List.getElem?_drop] at hrow
  exact hrow
 have hrs:row.length=sz:=hrl _ (List.mem_of_getElem? hrow')
 have hent:entry? H id ep=some ⟨sz,e,ep,false⟩:=by simp[entry?,he]
 have hid:id < H.length:=(List.getElem?_eq_some_iff.1 he).1
 have hnid:∀ j∈i1++(im++i2),j≠id:=fun j hj e=>(List.nodup_cons.1 hn).1 (e▸hj)
 have hnd:=(List.nodup_cons.1 hn).2
 have hlen:((e.drop off).take trs.length).length=trs.length:=by simp;omega
 refine⟨id,off+i,ep,row,?_,fun o=>?_,hm.length,fun f v0 v hf=>?_,fun f t hf=>?_⟩
 ·simp only[idxA,if_true]
  rw[if_pos ⟨by omega,by omega⟩]
  simp
 ·simp only[deref,hent,hrow']
 ·obtain⟨j1,jm,j2,cc,rfl,hcc,hP,hj1,hj2⟩:=hm.at hf
  have hP0:jm=[]:=by cases n with
   | zero=>exact hP.elim
   | succ n=>exact hP.1
  subst hP0
  have hfl:f < row.length:=by rw[hm.length];exact(List.getElem?_eq_some_iff.1 hf).1
  have hsp:splice row f [.sc v]=row.set f (.sc v):=by
   rw[List.set_eq_take_append_cons_drop,if_pos hfl]
   simp[splice]
  have hfr:∀ j∈i1++((j1++([]++j2))++i2),(H.set id ⟨sz,e.set (off+i) (row.set f (.sc v)),ep,false⟩)[j]?=H[j]?:=fun j hj=>List.getElem?_set_ne (Ne.symm (hnid j hj))
  refine⟨H.set id ⟨sz,e.set (off+i) (row.set f (.sc v)),ep,false⟩,?_,⟨by simp,fun j hj=>List.getElem?_set_ne (fun e=>hj (by simp[e]))⟩,?_⟩
  ·simp only[qbu,hent,hrow']
   rw[if_pos (by simp only[true_and,and_true,List.length_cons,List.length_nil];omega),hsp]
  ·refine .inr ⟨id,off,ep,e.set (off+i) (row.set f (.sc v)),false,_,by simp,rfl,by rw[List.getElem?_set_self hid],fun _=>rfl,by simpa using hwh,by simpa using hl,?_,?_⟩
   ·intro r' hr'
    rcases List.mem_or_eq_of_mem_set hr' with hr' | rfl
    ·exact hrl _ hr'
    ·simpa using hrs
   ·have e1:((e.set (off+i) (row.set f (.sc v))).drop off).take (trs.set i (r.set f (.leaf v))).length=((e.drop off).take trs.length).set i (row.set f (.sc v)):=by
     rw[List.length_set,List.drop_set,if_neg (by omega),List.take_set]
     congr 1
     omega
    rw[e1]
    refine Sp.take_drop (is:=[]) (hs1.mono fun a b d ha hh=>hh.mono fun a' b' d' ha' hh=>hh.frame fun j hj=>hfr j ?_) ?_ (hs2.mono fun a b d ha hh=>hh.mono fun a' b' d' ha' hh=>hh.frame fun j hj=>hfr j ?_) (by omega) hi
    ·exact List.mem_append_left _ (ha _ (ha' _ hj))
    ·refine Sp.take_drop (is:=[]) (hj1.mono fun a b d ha hh=>hh.frame fun j hj=>hfr j ?_) ?_ (hj2.mono fun a b d ha hh=>hh.frame fun j hj=>hfr j ?_) hfl (by rw[← hm.length];exact hfl)
     ·exact List.mem_append_right _ (List.mem_append_left _ (List.mem_append_left _ (ha _ hj)))
     ·cases n with
      | zero=>exact hP.elim
      | succ n=>exact⟨rfl,rfl⟩
     ·exact List.mem_append_right _ (List.mem_append_left _ (List.mem_append_right _ (by simpa using ha _ hj)))
    ·exact List.mem_append_right _ (List.mem_append_right _ (ha _ (ha' _ hj)))
 ·obtain⟨j1,jm,j2,cc,rfl,hcc,hP,hj1,hj2⟩:=hm.at hf
  have hjm:∀ j∈jm,j∈i1++((j1++(jm++j2))++i2):=fun j hj=>List.mem_append_right _ (List.mem_append_left _ (List.mem_append_right _ (List.mem_append_left _ hj)))
  refine⟨cc,jm,hcc,hP,?_,fun H' t' hu ht=>⟨hu.mono fun j hj=>List.mem_cons_of_mem _ (hjm j hj),?_⟩⟩
  ·rw[List.nodup_append] at hnd
   have:=(List.nodup_append.1 hnd.2.1).1
   rw[List.nodup_append] at this
   exact(List.nodup_append.1 this.2.1).1
  have hfl:f < row.length:=(List.getElem?_eq_some_iff.1 hcc).1
  have hset:row.set f cc=row:=by
   rw[List.getElem?_eq_some_iff] at hcc
   obtain⟨h1,rfl⟩:=hcc
   simp
  have hH:H'[id]?=H[id]?:=hu.other id fun h=>hnid id (hjm id h) rfl
  refine .inr ⟨id,off,ep,e,false,_,by simp,rfl,by rw[hH,he],fun _=>rfl,by simpa using hwh,by simpa using hl,hrl,?_⟩
  have e1:(e.drop off).take (trs.set i (r.set f t')).length=((e.drop off).take trs.length).set i row:=by
   rw[List.length_set]
   have hs':∀ (X:List (List Cell)),X[i]?=some row→X.set i row=X:=by
    intro X hX
    obtain⟨h1,h2⟩:=List.getElem?_eq_some_iff.1 hX
    subst h2
    simp
   exact(hs' _ hrow).symm
  rw[e1]
  have hnd1:=List.nodup_append.1 hnd
  have hnd2:=List.nodup_append.1 hnd1.2.1
  have hnd3:=List.nodup_append.1 hnd2.1
  have hnd4:=List.nodup_append.1 hnd3.2.1
  refine Sp.take_drop (is:=[]) (hs1.mono fun a b d ha hh=>hh.mono fun a' b' d' ha' hh=>hh.frame fun j hj=>hu.other j fun hh=>?_) ?_ (hs2.mono fun a b d ha hh=>hh.mono fun a' b' d' ha' hh=>hh.frame fun j hj=>hu.other j fun hh=>?_) (by omega) hi
  ·exact hnd1.2.2 _ (ha _ (ha' _ hj)) _ (List.mem_append_left _ (List.mem_append_right _ (List.mem_append_left _ hh))) rfl
  ·rw[← hset]
   refine Sp.take_drop (is:=[]) (hj1.mono fun a b d ha hh=>hh.frame fun j hj=>hu.other j fun hh=>?_) ht (hj2.mono fun a b d ha hh=>hh.frame fun j hj=>hu.other j fun hh=>?_) hfl (by rw[← hm.length];exact hfl)
   ·exact hnd3.2.2 _ (ha _ hj) _ (List.mem_append_left _ hh) rfl
   ·exact hnd4.2.2 _ hh _ (ha _ hj) rfl
  ·exact hnd2.2.2 _ (List.mem_append_right _ (List.mem_append_left _ hh)) _ (ha _ (ha' _ hj)) rfl
theorem qifc {α:Type}{xs:List α}{i:Nat}{r:α}(h:xs[i]?=some r):xs.set i r=xs:=by
 obtain⟨h1,h2⟩:=List.getElem?_eq_some_iff.1 h
 subst h2
 simp
theorem Sp.field {n:Nat}{ids:List Nat}{cs:List Cell}{ts:List Tr}(h:Sp (Rep H w true n) ids cs ts)(hn:ids.Nodup)(f:Nat){cc:Cell}{t:Tr}(hc:cs[f]?=some cc)(hf:ts[f]?=some t):
  ∃ sub,Rep H w true n sub cc t∧sub.Nodup∧∀ H' t',Upd sub H H'→Rep H' w true n sub cc t'→Upd ids H H'∧Sp (Rep H' w true n) ids cs (ts.set f t'):=by
 obtain⟨j1,jm,j2,cc',rfl,hcc,hP,hj1,hj2⟩:=h.at hf
 obtain rfl:cc=cc':=by rw[hc] at hcc;simpa using hcc
 have hnd1:=List.nodup_append.1 hn
 have hnd2:=List.nodup_append.1 hnd1.2.1
 refine⟨jm,hP,hnd2.1,fun H' t' hu ht=>⟨hu.mono fun j hj=>List.mem_append_right _ (List.mem_append_left _ hj),?_⟩⟩
 have hset:cs.set f cc=cs:=qifc hc
 rw[← hset]
 refine Sp.take_drop (is:=[]) (hj1.mono fun a b d ha hh=>hh.frame fun j hj=>hu.other j fun hh=>?_) ht (hj2.mono fun a b d ha hh=>hh.frame fun j hj=>hu.other j fun hh=>?_) (List.getElem?_eq_some_iff.1 hc).1 (List.getElem?_eq_some_iff.1 hf).1
 ·exact hnd1.2.2 _ (ha _ hj) _ (List.mem_append_left _ hh) rfl
 ·exact hnd2.2.2 _ hh _ (ha _ hj) rfl
theorem Sp.cons_inv {α β:Type}{P:List Nat→α→β→Prop}{is:List Nat}{as:List α}{b:β}{bs:List β}(h:Sp P is as (b::bs)):∃ i i' a as',is=i++i'∧as=a::as'∧P i a b∧Sp P i' as' bs:=by
 cases h with
 | cons h t=>exact⟨_,_,_,_,rfl,rfl,h,t⟩
theorem Sp.nil_inv {α β:Type}{P:List Nat→α→β→Prop}{is:List Nat}{as:List α}(h:Sp P is as []):is=[]∧as=[]:=by
 cases h;exact⟨rfl,rfl⟩
def qbx (s:Str):List Tr:=[.leaf (.string (bs s))]
def qleb (b:UInt8):List Tr:=[.leaf (.int .u8 (b.toNat:Int))]
def trL {α:Type}(sz:Nat)(tr:α→List Tr)(xs:List α):Tr:=.list sz (xs.map tr)
def trLs {α:Type}(sz:Nat)(tr:α→List Tr)(xs:List α):List Tr:=[trL sz tr xs]
class TrE {α:Type}(tr:α→List Tr)(e:outParam (α→List Cell)):Prop where
 eq:∀ x,(tr x).map Tr.cell=e x
theorem qem (v:Value):(Tr.leaf v).cell=.sc v:=by rw[Tr.cell]
theorem qck {α:Type}{tr:α→List Tr}{e:α→List Cell}[h:TrE tr e](sz:Nat)(xs:List α):(trL sz tr xs).cell=encL sz e xs:=by
 rw[trL,Tr.cell,Tr.rowsC_eq,List.map_map,encL]
 congr 1
 exact List.map_congr_left fun x _=>h.eq x
instance:TrE qbx eStr:=⟨fun x=>by simp[qbx,qem,eStr]⟩
instance:TrE qleb qvmb:=⟨fun x=>by simp[qleb,qem,qvmb]⟩
instance:TrE (trLs 1 qbx) qcz:=⟨fun x=>by simp[trLs,qck,qcz]⟩
def one1 {α:Type}(_:α):Nat:=1
theorem Rep.app2 {n:Nat}{ids:List Nat}{cs:List Cell}{ts:List Tr}(E:List Entry)(h:Sp (Rep H w q n) ids cs ts):Sp (Rep (H++E) w q n) ids cs ts:=h.mono fun _ _ _ _ h=>h.app E
theorem Rep.more2 {n m:Nat}{ids:List Nat}{cs:List Cell}{ts:List Tr}(h:Sp (Rep H w q n) ids cs ts)(hm:n≤m):Sp (Rep H w q m) ids cs ts:=h.mono fun _ _ _ _ h=>h.more hm
theorem Rep.lt2 {n:Nat}{ids:List Nat}{cs:List Cell}{ts:List Tr}(h:Sp (Rep H w q n) ids cs ts):∀ j∈ids,j < H.length:=h.ids fun _ _ _ h=>h.lt
theorem qyfb {run:Run}{n:Nat}{args as:List AV}{ts:List Tr}(h:Fresh run true n as [.agg ts])(H:List Entry)(ha:mapO (qal false H) args=some as):
  ∃ cs E ids,qfd run args H=some ([.agg cs],H++E)∧Sp (Rep (H++E) true true n) ids cs ts∧ids.Nodup∧(∀ j∈ids,H.length≤j)∧(good H→good (H++E))∧∀ c∈cs,cellIn (H++E).length c=true:=by
 obtain⟨xs,E,ids,h1,h2,h3,h4,h5,h6⟩:=qhi H ha h
 obtain⟨i,i',x,xs',rfl,rfl,h7,h8⟩:=h2.cons_inv
 obtain⟨rfl,rfl⟩:=h8.nil_inv
 rw[List.append_nil] at h3 h4
 cases x with
 | one c=>exact h7.elim
 | agg cs=>exact⟨cs,E,i,h1,h7,h3,h4,h5,fun c hc=>h6 _ (List.mem_singleton.2 rfl) c hc⟩
theorem qdgb {run:Run}{n:Nat}{args as:List AV}{t:Tr}(h:Fresh run true n as [.one t])(H:List Entry)(ha:mapO (qal false H) args=some as):
  ∃ c E ids,qfd run args H=some ([.one c],H++E)∧Rep (H++E) true true n ids c t∧ids.Nodup∧(∀ j∈ids,H.length≤j)∧(good H→good (H++E))∧cellIn (H++E).length c=true:=by
 obtain⟨xs,E,ids,h1,h2,h3,h4,h5,h6⟩:=qhi H ha h
 obtain⟨i,i',x,xs',rfl,rfl,h7,h8⟩:=h2.cons_inv
 obtain⟨rfl,rfl⟩:=h8.nil_inv
 rw[List.append_nil] at h3 h4
 cases x with
 | one c=>exact⟨c,E,i,h1,h7,h3,h4,h5,h6 _ (List.mem_singleton.2 rfl) c (by simp[AV.cells])⟩
 | agg cs=>exact h7.elim
theorem qrab {run:Run}{n:Nat}{args as:List AV}{t:Tr}{v:Value}(h:Fresh run true n as [.one t,.one (.leaf v)])(H:List Entry)(ha:mapO (qal false H) args=some as):
  ∃ c E ids,qfd run args H=some ([.one c,.one (.sc v)],H++E)∧Rep (H++E) true true n ids c t∧ids.Nodup∧(∀ j∈ids,H.length≤j):=by
 obtain⟨xs,E,ids,h1,h2,h3,h4,h5,h6⟩:=qhi H ha h
 obtain⟨i,i',x,xs',rfl,rfl,h7,h8⟩:=h2.cons_inv
 obtain⟨i2,i2',y,ys',rfl,rfl,h9,h10⟩:=h8.cons_inv
 obtain⟨rfl,rfl⟩:=h10.nil_inv
 cases x with
 | agg cs=>exact h7.elim
 | one c=>
  cases y with
  | agg cs=>exact h9.elim
  | one d=>
   cases n with
   | zero=>exact h9.elim
   | succ n=>
    obtain⟨rfl,rfl⟩:=h9
    simp only[List.append_nil] at h3 h4
    exact⟨c,E,i,h1,h7,h3,h4⟩
theorem qosb {run:Run}{n:Nat}{args as:List AV}{ts:List Tr}{v:Value}(h:Fresh run true n as [.agg ts,.one (.leaf v)])(H:List Entry)(ha:mapO (qal false H) args=some as):
  ∃ cs E ids,qfd run args H=some ([.agg cs,.one (.sc v)],H++E)∧Sp (Rep (H++E) true true n) ids cs ts∧ids.Nodup∧(∀ j∈ids,H.length≤j):=by
 obtain⟨xs,E,ids,h1,h2,h3,h4,h5,h6⟩:=qhi H ha h
 obtain⟨i,i',x,xs',rfl,rfl,h7,h8⟩:=h2.cons_inv
 obtain⟨i2,i2',y,ys',rfl,rfl,h9,h10⟩:=h8.cons_inv
 obtain⟨rfl,rfl⟩:=h10.nil_inv
 cases x with
 | one c=>exact h7.elim
 | agg cs=>
  cases y with
  | agg cs=>exact h9.elim
  | one d=>
   cases n with
   | zero=>exact h9.elim
   | succ n=>
    obtain⟨rfl,rfl⟩:=h9
    simp only[List.append_nil] at h3 h4
    exact⟨cs,E,i,h1,h7,h3,h4⟩
theorem qas {α β:Type}(f:α→Option β):mapO f []=some []:=rfl
theorem qbb {α β:Type}{f:α→Option β}{x:α}{y:β}{xs:List α}{ys:List β}(h:f x=some y)(t:mapO f xs=some ys):mapO f (x::xs)=some (y::ys):=by simp only[mapO,h,t]
theorem qbv {p:Run}{args as:List AV}{H:List Entry}(h:mapO (qal false H) args=some as):qbc p args H=out p as:=by rw[qnbb,h];rfl
theorem qhj {n:Nat}{ids:List Nat}{c:Cell}{t:Tr}(h:Rep H w q n ids c t)(hn:n≤4194304):qal false H (.one c)=some (.one t.cell):=RepA.reify (x:=.one c) (t:=.one t) h hn fun h=>by simp at h
theorem qsy {n:Nat}{ids:List Nat}{cs:List Cell}{ts:List Tr}(h:Sp (Rep H w q n) ids cs ts)(hn:n≤4194304):qal false H (.agg cs)=some (.agg (ts.map Tr.cell)):=RepA.reify (x:=.agg cs) (t:=.agg ts) h hn fun h=>by simp at h
theorem Upd.rep {ids js:List Nat}(h:Upd ids H H'){n:Nat}{c:Cell}{t:Tr}(hr:Rep H w q n js c t)(hd:∀ j∈js,j∉ids):Rep H' w q n js c t:=hr.frame fun j hj=>h.other j (hd j hj)
structure Mine (lo hi:Nat)(ids:List Nat):Prop where
 le:lo≤hi
 nd:ids.Nodup
 lo:∀ j∈ids,lo≤j
 hi:∀ j∈ids,j < hi
theorem Mine.nil {lo hi:Nat}(h:lo≤hi):Mine lo hi []:=⟨h,by simp,by simp,by simp⟩
theorem Mine.app {lo mid hi:Nat}{a b:List Nat}(h:Mine lo mid a)(k:Mine mid hi b):Mine lo hi (a++b):=by
 refine⟨Nat.le_trans h.le k.le,List.nodup_append.2 ⟨h.nd,k.nd,fun x hx y hy e=>?_⟩,fun j hj=>?_,fun j hj=>?_⟩
 ·have:=h.hi x hx;have:=k.lo y hy;omega
 ·rcases List.mem_append.1 hj with hj | hj
  ·exact h.lo j hj
  ·exact Nat.le_trans h.le (k.lo j hj)
 ·rcases List.mem_append.1 hj with hj | hj
  ·exact Nat.lt_of_lt_of_le (h.hi j hj) k.le
  ·exact k.hi j hj
theorem Rep.cellIn {n:Nat}{ids:List Nat}{c:Cell}{t:Tr}(h:Rep H w q n ids c t):cellIn H.length c=true:=by
 cases n with
 | zero=>exact h.elim
 | succ n=>
  cases t with
  | leaf v=>obtain⟨_,rfl⟩:=h;rfl
  | list sz trs=>
   rcases h with⟨_,_,f,rfl⟩ | ⟨id,off,ep,e,fr,is,rfl,_,he,_⟩
   ·rfl
   ·simp only[Ev.cellIn,decide_eq_true_eq]
    exact(List.getElem?_eq_some_iff.1 he).1
theorem Rep.cellIn2 {n:Nat}{ids:List Nat}{cs:List Cell}{ts:List Tr}(h:Sp (Rep H w q n) ids cs ts):∀ c∈cs,Ev.cellIn H.length c=true:=by
 induction h with
 | nil=>simp
 | cons h t ih=>
  intro c hc
  rcases List.mem_cons.1 hc with rfl | hc
  ·exact h.cellIn
  ·exact ih c hc
theorem Fresh.one {run:Run}{n:Nat}{as:List AV}{c:Cell}{t:Tr}{ids:List Nat}(h:run as []=some ([.one c],H))(hs:Rep H w true n ids c t)(hn:ids.Nodup)(h8:n≤4194306:=by omega):Fresh run w n as [.one t]:=
 Fresh.of (ids:=ids++[]) h (.cons (a:=AV.one c) (b:=AT.one t) hs .nil) (by simpa using hn) h8
theorem Fresh.agg {run:Run}{n:Nat}{as:List AV}{cs:List Cell}{ts:List Tr}{ids:List Nat}(h:run as []=some ([.agg cs],H))(hs:Sp (Rep H w true n) ids cs ts)(hn:ids.Nodup)(h8:n≤4194306:=by omega):Fresh run w n as [.agg ts]:=
 Fresh.of (ids:=ids++[]) h (.cons (a:=AV.agg cs) (b:=AT.agg ts) hs .nil) (by simpa using hn) h8
theorem qpjc:good []:=fun e he=>by simp at he
theorem freshA {run:Run}{n:Nat}{args as:List AV}{ts:List Tr}(h:Fresh run true n as [.agg ts])(H:List Entry)(ha:mapO (qal false H) args=some as):
  ∃ cs E ids,qfd run args H=some ([.agg cs],H++E)∧Sp (Rep (H++E) true true n) ids cs ts∧Mine H.length (H++E).length ids∧(good H→good (H++E)):=by
 obtain⟨cs,E,ids,h1,h2,h3,h4,h5,h6⟩:=qyfb h H ha
 exact⟨cs,E,ids,h1,h2,⟨by simp,h3,h4,Rep.lt2 h2⟩,h5⟩
theorem qir {run:Run}{n:Nat}{args as:List AV}{t:Tr}(h:Fresh run true n as [.one t])(H:List Entry)(ha:mapO (qal false H) args=some as):
  ∃ c E ids,qfd run args H=some ([.one c],H++E)∧Rep (H++E) true true n ids c t∧Mine H.length (H++E).length ids∧(good H→good (H++E)):=by
 obtain⟨c,E,ids,h1,h2,h3,h4,h5,h6⟩:=qdgb h H ha
 exact⟨c,E,ids,h1,h2,⟨by simp,h3,h4,h2.lt⟩,h5⟩
theorem Sp.leaf_inv {n:Nat}{is:List Nat}{as:List Cell}{v:Value}{ts:List Tr}(h:Sp (Rep H w q n) is as (.leaf v::ts)):∃ as',as=.sc v::as'∧Sp (Rep H w q n) is as' ts:=by
 obtain⟨i,i',a,as',rfl,rfl,h1,h2⟩:=h.cons_inv
 cases n with
 | zero=>exact h1.elim
 | succ n=>
  obtain⟨rfl,rfl⟩:=h1
  exact⟨as',rfl,h2⟩
theorem Sp.list_inv {n:Nat}{is:List Nat}{as:List Cell}{t:Tr}{ts:List Tr}(h:Sp (Rep H w q n) is as (t::ts)):∃ c as',as=c::as'∧∃ i',Sp (Rep H w q n) i' as' ts:=by
 obtain⟨i,i',a,as',rfl,rfl,h1,h2⟩:=h.cons_inv
 exact⟨a,as',rfl,i',h2⟩
theorem Sp.leaf1 {n:Nat}(v:Value):Sp (Rep H w q (n+1)) [] [.sc v] [.leaf v]:=.cons (i:=[]) (is:=[]) ⟨rfl,rfl⟩ .nil
theorem Sp.one1 {n:Nat}{ids:List Nat}{c:Cell}{t:Tr}(h:Rep H w q n ids c t):Sp (Rep H w q n) ids [c] [t]:=by
 have:=Sp.cons h (Sp.nil (P:=Rep H w q n))
 rwa [List.append_nil] at this
theorem qcu (id sz idx off ep o:Nat):fldA (.ptr id sz idx off ep) o=some (.ptr id sz idx (off+o) ep):=rfl
theorem wrap_u8 (k:Nat):IntKind.u8.wrap ((k:Nat):Int)=((UInt8.ofNat k).toNat:Int):=by
 simp only[IntKind.wrap,IntKind.bits,IntKind.signed]
 simp
theorem qaec {sz ep:Nat}{fr:Bool}{rows:List (List Cell)}(h:∀ r∈rows,∀ c∈r,Ev.cellIn 0 c=true):good [Entry.mk sz rows ep fr]:=by
 intro e he row hr c hc
 simp only[List.mem_singleton] at he
 subst he
 exact qhl (h row hr c hc) (by omega)
theorem Grow.rep {α:Type}{sz:Nat}{c:Cell}{e:α→List Cell}{tr:α→List Tr}{xs:List α}(h:Grow sz c H (xs.map e))(hl:∀ x∈xs,(e x).length=sz)(ht:∀ x∈xs,∀ H',Sp (Rep H' true true 1) [] (e x) (tr x)):
  ∃ ids,Rep H true true 2 ids c (trL sz tr xs)∧ids.Nodup∧good H:=by
 rcases h with⟨h1,rfl,rfl⟩ | ⟨ep,rfl,rfl⟩
 ·simp only[List.map_eq_nil_iff] at h1
  subst h1
  exact⟨[],.inl ⟨rfl,rfl,true,rfl⟩,by simp,qpjc⟩
 ·refine⟨[0],.inr ⟨0,0,ep,xs.map e,false,[],by simp,rfl,rfl,fun _=>rfl,fun _=>⟨rfl,by simp⟩,by simp,?_,?_⟩,by simp,qaec ?_⟩
  ·intro r hr
   obtain⟨x,hx,rfl⟩:=List.mem_map.1 hr
   exact hl x hx
  ·rw[List.drop_zero,List.take_of_length_le (by simp)]
   have:∀ (ys:List α) (H:List Entry),(∀ y∈ys,y∈xs)→Sp (Sp (Rep H true true 1)) [] (ys.map e) (ys.map tr):=by
    intro ys
    induction ys with
    | nil=>intro H _;exact .nil
    | cons y ys ih=>intro H hy;exact .cons (i:=[]) (is:=[]) (ht y (hy y List.mem_cons_self) H) (ih H fun z hz=>hy z (List.mem_cons_of_mem _ hz))
   exact this xs _ fun _ h=>h
  ·intro r hr c hc
   obtain⟨x,hx,rfl⟩:=List.mem_map.1 hr
   have:=Rep.cellIn2 (ht x hx []) c hc
   exact this
def qdn (c:Cell):Prop:=∀ f s r,c=.lst f s r→f=true
theorem qci (sz:Nat):qdn (.lst true sz []):=fun f s r h=>by simp only[Cell.lst.injEq] at h;exact h.1.symm
theorem qcd (id sz off len ep:Nat):qdn (.vs id sz off len ep):=fun f s r h=>by simp at h
theorem Rep.append {n sz by':Nat}{ids js:List Nat}{c:Cell}{trs tys:List (List Tr)}{ys:List (List Cell)}(h:Rep H true true (n+1) ids c (.list sz trs))(hf:qdn c)(hn:ids.Nodup)
  (hy:Sp (Sp (Rep H true true n)) js ys tys) (hys:∀ r∈ys,r.length=sz) (hjn:js.Nodup) (hd:∀ j∈ids,j∉js) (h1:(trs.length+ys.length)*by'≤bound) (h2:trs.length+ys.length≤bound):
  ∃ d H' ids',Ev.app H sz by' c ys=some (d,H')∧Rep H' true true (n+1) ids' d (.list sz (trs++tys))∧qdn d∧ids'.Nodup∧(∀ j∈ids',j∈ids∨j∈js∨j=H.length)∧H.length≤H'.length∧
   (∀ j,j < H.length→j∉ids→H'[j]?=H[j]?)∧(good H→good H'):=by
 have hyc:∀ r∈ys,∀ c∈r,Ev.cellIn H.length c=true:=by
  have:∀ {js:List Nat} {ys:List (List Cell)} {tys:List (List Tr)},Sp (Sp (Rep H true true n)) js ys tys→∀ r∈ys,∀ c∈r,Ev.cellIn H.length c=true:=by
   intro js ys tys h
   induction h with
   | nil=>simp
   | cons h t ih=>
    intro r hr
    rcases List.mem_cons.1 hr with rfl | hr
    ·exact Rep.cellIn2 h
    ·exact ih r hr
  exact this hy
 have hjl:∀ j∈js,j < H.length:=fun j hj=>hy.ids (fun _ _ _ h=>Rep.lt2 h) j hj
 rcases h with⟨rfl,rfl,f,rfl⟩ | ⟨id,off,ep,e,fr,is,rfl,rfl,he,hq,hwh,hl,hrl,hs⟩
 ·obtain rfl:=hf _ _ _ rfl
  cases ys with
  | nil=>
   cases hy
   exact⟨_,H,[],rfl,.inl ⟨rfl,rfl,true,rfl⟩,qci sz,by simp,by simp,Nat.le_refl _,fun _ _ _=>rfl,fun h=>h⟩
  | cons y ys=>
   simp only[List.length_nil] at h1 h2
   rw[List.nil_append]
   refine⟨.vs H.length sz 0 (0+(y::ys).length) 0,H++[⟨sz,[]++(y::ys),0,false⟩],H.length::js,?_,.inr ⟨H.length,0,0,y::ys,false,js,by rw[← hy.length];simp,rfl,by simp,fun _=>rfl,fun _=>⟨rfl,by rw[← hy.length]⟩,by rw[← hy.length];simp,hys,?_⟩,qcd _ _ _ _ _,?_,?_,by simp,?_,?_⟩
   ·simp only[Ev.app,List.isEmpty_cons,List.length_nil]
    rw[if_neg (by simp),if_pos ⟨trivial,.inr trivial,h1,h2⟩]
   ·rw[← hy.length,List.drop_zero,List.take_length]
    exact hy.mono fun i a b hi h=>h.mono fun i' a' b' hi' h'=>h'.app _
   ·exact List.nodup_cons.2 ⟨fun h=>absurd (hjl _ h) (Nat.lt_irrefl _),hjn⟩
   ·intro j hj
    rcases List.mem_cons.1 hj with rfl | hj
    ·exact .inr (.inr rfl)
    ·exact .inr (.inl hj)
   ·intro j hj _
    exact List.getElem?_append_left hj
   ·intro hg e he row hr c hc
    have hlen:(H++[Entry.mk sz ([]++(y::ys)) 0 false]).length=H.length+1:=by simp
    rw[hlen]
    rcases List.mem_append.1 he with he | he
    ·exact qhl (hg e he row hr c hc) (by omega)
    ·simp only[List.mem_singleton] at he
     subst he
     exact qhl (hyc row hr c hc) (by omega)
 ·obtain⟨rfl,hlen⟩:=hwh rfl
  have hid:id < H.length:=(List.getElem?_eq_some_iff.1 he).1
  have hni:=List.nodup_cons.1 hn
  rw[hlen,List.drop_zero,List.take_length] at hs
  have hidj:id∉js:=hd id List.mem_cons_self
  have hfrm:∀ j,j≠id→(H.set id ⟨sz,e++ys,ep+1,fr⟩)[j]?=H[j]?:=fun j hj=>List.getElem?_set_ne (Ne.symm hj)
  refine⟨.vs id sz 0 (trs.length+ys.length) (ep+1),H.set id ⟨sz,e++ys,ep+1,fr⟩,id::(is++js),?_,.inr ⟨id,0,ep+1,e++ys,fr,is++js,by rw[List.length_append,hy.length],rfl,List.getElem?_set_self hid,hq,fun _=>⟨rfl,by simp[hlen,hy.length]⟩,by simp[hlen,hy.length],?_,?_⟩,qcd _ _ _ _ _,?_,?_,by simp,?_,?_⟩
  ·simp only[Ev.app,entry?,he,if_true]
   rw[if_pos ⟨trivial,by omega,.inl (by omega),h1,h2⟩,List.drop_zero,hlen,List.take_length]
  ·intro r hr
   rcases List.mem_append.1 hr with hr | hr
   ·exact hrl r hr
   ·exact hys r hr
  ·rw[List.drop_zero,List.take_of_length_le (by simp[hlen,hy.length])]
   refine Sp.append (hs.mono fun i a b hi h=>h.mono fun i' a' b' hi' h'=>h'.frame fun j hj=>hfrm j fun e=>?_) (hy.mono fun i a b hi h=>h.mono fun i' a' b' hi' h'=>h'.frame fun j hj=>hfrm j fun e=>?_)
   ·exact hni.1 (e▸hi _ (hi' _ hj))
   ·exact hidj (e▸hi _ (hi' _ hj))
  ·refine List.nodup_cons.2 ⟨fun h=>?_,List.nodup_append.2 ⟨hni.2,hjn,fun a ha b hb e=>hd a (List.mem_cons_of_mem _ ha) (e▸hb)⟩⟩
   rcases List.mem_append.1 h with h | h
   ·exact hni.1 h
   ·exact hidj h
  ·intro j hj
   rcases List.mem_cons.1 hj with rfl | hj
   ·exact .inl List.mem_cons_self
   ·rcases List.mem_append.1 hj with hj | hj
    ·exact .inl (List.mem_cons_of_mem _ hj)
    ·exact .inr (.inl hj)
  ·intro j _ hj
   exact hfrm j fun e=>hj (by simp[e])
  ·intro hg e' he' row hr c hc
   rw[List.length_set]
   rcases List.mem_or_eq_of_mem_set he' with he' | rfl
   ·exact hg e' he' row hr c hc
   ·rcases List.mem_append.1 hr with hr | hr
    ·exact hg _ (List.mem_of_getElem? he) row hr c hc
    ·exact hyc row hr c hc
theorem Fresh.tailO {run run':Run}{n:Nat}{args as as':List AV}{t:Tr}(h:Fresh run' true n as' [.one t])(H:List Entry)(ha:mapO (qal false H) args=some as')
  (hr:∀ c E,qfd run' args H=some ([.one c],H++E)→run as []=some ([.one c],H++E)):Fresh run true n as [.one t]:=by
 obtain⟨c,E,ids,h1,h2,h3,_⟩:=qdgb h H ha
 exact Fresh.one (hr c E h1) h2 h3 h.1
theorem qckd {run:Run}{n:Nat}{args as:List AV}{t:Tr}{v:Value}(h:Fresh run true n as [.one t,.one (.leaf v)])(H:List Entry)(ha:mapO (qal false H) args=some as):
  ∃ c E ids,qfd run args H=some ([.one c,.one (.sc v)],H++E)∧Rep (H++E) true true n ids c t∧Mine H.length (H++E).length ids∧True:=by
 obtain⟨c,E,ids,h1,h2,h3,h4⟩:=qrab h H ha
 exact⟨c,E,ids,h1,h2,⟨by simp,h3,h4,h2.lt⟩,trivial⟩
theorem qrgb {run:Run}{n:Nat}{args as:List AV}{ts:List Tr}{v:Value}(h:Fresh run true n as [.agg ts,.one (.leaf v)])(H:List Entry)(ha:mapO (qal false H) args=some as):
  ∃ cs E ids,qfd run args H=some ([.agg cs,.one (.sc v)],H++E)∧Sp (Rep (H++E) true true n) ids cs ts∧Mine H.length (H++E).length ids∧True:=by
 obtain⟨cs,E,ids,h1,h2,h3,h4⟩:=qosb h H ha
 exact⟨cs,E,ids,h1,h2,⟨by simp,h3,h4,Rep.lt2 h2⟩,trivial⟩
theorem Fresh.agg1 {run:Run}{n:Nat}{as:List AV}{cs:List Cell}{ts:List Tr}{v:Value}{ids:List Nat}(h:run as []=some ([.agg cs,.one (.sc v)],H))(hs:Sp (Rep H w true (n+1)) ids cs ts)(hn:ids.Nodup)(h8:n≤4194305:=by omega):Fresh run w (n+1) as [.agg ts,.one (.leaf v)]:=
 Fresh.of (ids:=ids++([]++[])) h (.cons (a:=AV.agg cs) (b:=AT.agg ts) hs (.cons (a:=AV.one (.sc v)) (b:=AT.one (.leaf v)) ⟨rfl,rfl⟩ .nil)) (by simpa using hn) (by omega)
theorem Fresh.one1 {run:Run}{n:Nat}{as:List AV}{c:Cell}{t:Tr}{v:Value}{ids:List Nat}(h:run as []=some ([.one c,.one (.sc v)],H))(hs:Rep H w true (n+1) ids c t)(hn:ids.Nodup)(h8:n≤4194305:=by omega):Fresh run w (n+1) as [.one t,.one (.leaf v)]:=
 Fresh.of (ids:=ids++([]++[])) h (.cons (a:=AV.one c) (b:=AT.one t) hs (.cons (a:=AV.one (.sc v)) (b:=AT.one (.leaf v)) ⟨rfl,rfl⟩ .nil)) (by simpa using hn) (by omega)
end Go.Ev
