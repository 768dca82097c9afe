/- Marks: rows of an owned list that are written one behind the other, and what is left alone. No program occurs here; no conditions. -/
import Derived.Test.YteenbnljpddleaaGreatDoorEvRep
set_option linter.unusedVariables false
set_option linter.unusedSimpArgs false
namespace Go.Ev
open Go
structure Upd (ids:List Nat)(H H':List Entry):Prop where
 len:H'.length=H.length
 other:∀ j,j∉ids→H'[j]?=H[j]?
theorem Upd.refl (ids:List Nat)(H:List Entry):Upd ids H H:=⟨rfl,fun _ _=>rfl⟩
theorem Upd.trans {ids:List Nat}{A B C:List Entry}(h:Upd ids A B)(k:Upd ids B C):Upd ids A C:=⟨k.len.trans h.len,fun j hj=>(k.other j hj).trans (h.other j hj)⟩
theorem Upd.mono {i1 i2:List Nat}{A B:List Entry}(h:Upd i1 A B)(k:∀ j∈i1,j∈i2):Upd i2 A B:=⟨h.len,fun j hj=>h.other j fun hh=>hj (k j hh)⟩
variable {H H':List Entry} {w q:Bool}
theorem Rep.lenC {n sz:Nat}{ids:List Nat}{c:Cell}{trs:List (List Tr)}(h:Rep H w q n ids c (.list sz trs)):lenC c=some trs.length:=by
 cases n with
 | zero=>exact h.elim
 | succ n=>
  rcases h with⟨rfl,_,f,rfl⟩ | ⟨id,off,ep,e,fr,is,rfl,rfl,he,hq,hwh,hl,hr,hs⟩
  ·rfl
  ·rfl
theorem Sp.take_drop {α β:Type}{P:List Nat→α→β→Prop}{is:List Nat}{as:List α}{bs:List β}{n:Nat}{b':β}{a':α}{i1 i i2:List Nat}(h1:Sp P i1 (as.take n) (bs.take n))(h:P i a' b')(h2:Sp P i2 (as.drop (n+1)) (bs.drop (n+1)))(ha:n < as.length)(hb:n < bs.length):Sp P (i1++(i++i2)) (as.set n a') (bs.set n b'):=by
 rw[List.set_eq_take_append_cons_drop,List.set_eq_take_append_cons_drop,if_pos ha,if_pos hb]
 exact h1.append (.cons h h2)
theorem Rep.idx {n sz:Nat}{ids:List Nat}{c:Cell}{trs:List (List Tr)}(h:Rep H w true (n+1) ids c (.list sz trs))(hn:ids.Nodup){i:Nat}{r:List Tr}(hr:trs[i]?=some r):
  ∃ id p ep row,idxA sz c (i:Int)=some (.ptr id sz p 0 ep)∧(∀ o,deref H (.ptr id sz p o ep)=some (row,o))∧row.length=r.length∧
   (∀ f v0 v,r[f]?=some (.leaf v0)→∃ H',qbm H (.ptr id sz p f ep) [.sc v]=some H'∧Upd ids H H'∧Rep H' w true (n+1) ids c (.list sz (trs.set i (r.set f (.leaf v)))))∧
   (∀ f t,r[f]?=some t→∃ cc sub,row[f]?=some cc∧Rep H w true n sub cc t∧sub.Nodup∧
    ∀ H' t',Upd sub H H'→Rep H' w true n sub cc t'→Upd ids H H'∧Rep H' w true (n+1) ids c (.list sz (trs.set i (r.set f t')))):=by
 rcases h with⟨rfl,_⟩ | ⟨id,off,ep,e,fr,is,rfl,rfl,he,hq,hwh,hl,hrl,hs⟩
 ·simp at hr
 have hfr:=hq rfl
 subst hfr
 have hi:i < trs.length:=(List.getElem?_eq_some_iff.1 hr).1
 obtain⟨i1,im,i2,row,rfl,hrow,hm,hs1,hs2⟩:=hs.at hr
 have hrow':e[off+i]?=some row:=by
  rw[List.getElem?_take,if_pos hi,List.getElem?_drop] at hrow
  exact hrow
 have hrs:row.length=sz:=hrl _ (List.mem_of_getElem? hrow')
 have hent:entry? H id ep=some ⟨sz,e,ep,false⟩:=by simp[entry?,he]
 have hid:id < H.length:=(List.getElem?_eq_some_iff.1 he).1
 have hnid:∀ j∈i1++(im++i2),j≠id:=fun j hj e=>(List.nodup_cons.1 hn).1 (e▸hj)
 have hnd:=(List.nodup_cons.1 hn).2
 have hlen:((e.drop off).take trs.length).length=trs.length:=by simp;omega
 refine⟨id,off+i,ep,row,?_,fun o=>?_,hm.length,fun f v0 v hf=>?_,fun f t hf=>?_⟩
 ·simp only[idxA,if_true]
  rw[if_pos ⟨by omega,by omega⟩]
  simp
 ·simp only[deref,hent,hrow']
 ·obtain⟨j1,jm,j2,cc,rfl,hcc,hP,hj1,hj2⟩:=hm.at hf
  have hP0:jm=[]:=by cases n with
   | zero=>exact hP.elim
   | succ n=>exact hP.1
  subst hP0
  have hfl:f < row.length:=by rw[hm.length];exact(List.getElem?_eq_some_iff.1 hf).1
  have hsp:splice row f [.sc v]=row.set f (.sc v):=by
   rw[List.set_eq_take_append_cons_drop,if_pos hfl]
   simp[splice]
  have hfr:∀ j∈i1++((j1++([]++j2))++i2),(H.set id ⟨sz,e.set (off+i) (row.set f (.sc v)),ep,false⟩)[j]?=H[j]?:=fun j hj=>List.getElem?_set_ne (Ne.symm (hnid j hj))
  refine⟨H.set id ⟨sz,e.set (off+i) (row.set f (.sc v)),ep,false⟩,?_,⟨by simp,fun j hj=>List.getElem?_set_ne (fun e=>hj (by simp[e]))⟩,?_⟩
  ·simp only[qbm,hent,hrow']
   rw[if_pos (by simp only[true_and,and_true,List.length_cons,List.length_nil];omega),hsp]
  ·refine .inr ⟨id,off,ep,e.set (off+i) (row.set f (.sc v)),false,_,by simp,rfl,by rw[List.getElem?_set_self hid],fun _=>rfl,by simpa using hwh,by simpa using hl,?_,?_⟩
   ·intro r' hr'
    rcases List.mem_or_eq_of_mem_set hr' with hr' | rfl
    ·exact hrl _ hr'
    ·simpa using hrs
   ·have e1:((e.set (off+i) (row.set f (.sc v))).drop off).take (trs.set i (r.set f (.leaf v))).length=((e.drop off).take trs.length).set i (row.set f (.sc v)):=by
     rw[List.length_set,List.drop_set,if_neg (by omega),List.take_set]
     congr 1
     omega
    rw[e1]
    refine Sp.take_drop (is:=[]) (hs1.mono fun a b d ha hh=>hh.mono fun a' b' d' ha' hh=>hh.frame fun j hj=>hfr j ?_) ?_ (hs2.mono fun a b d ha hh=>hh.mono fun a' b' d' ha' hh=>hh.frame fun j hj=>hfr j ?_) (by omega) hi
    ·exact List.mem_append_left _ (ha _ (ha' _ hj))
    ·refine Sp.take_drop (is:=[]) (hj1.mono fun a b d ha hh=>hh.frame fun j hj=>hfr j ?_) ?_ (hj2.mono fun a b d ha hh=>hh.frame fun j hj=>hfr j ?_) hfl (by rw[← hm.length];exact hfl)
     ·exact List.mem_append_right _ (List.mem_append_left _ (List.mem_append_left _ (ha _ hj)))
     ·cases n with
      | zero=>exact hP.elim
      | succ n=>exact⟨rfl,rfl⟩
     ·exact List.mem_append_right _ (List.mem_append_left _ (List.mem_append_right _ (by simpa using ha _ hj)))
    ·exact List.mem_append_right _ (List.mem_append_right _ (ha _ (ha' _ hj)))
 ·obtain⟨j1,jm,j2,cc,rfl,hcc,hP,hj1,hj2⟩:=hm.at hf
  have hjm:∀ j∈jm,j∈i1++((j1++(jm++j2))++i2):=fun j hj=>List.mem_append_right _ (List.mem_append_left _ (List.mem_append_right _ (List.mem_append_left _ hj)))
  refine⟨cc,jm,hcc,hP,?_,fun H' t' hu ht=>⟨hu.mono fun j hj=>List.mem_cons_of_mem _ (hjm j hj),?_⟩⟩
  ·rw[List.nodup_append] at hnd
   have:=(List.nodup_append.1 hnd.2.1).1
   rw[List.nodup_append] at this
   exact(List.nodup_append.1 this.2.1).1
  have hfl:f < row.length:=(List.getElem?_eq_some_iff.1 hcc).1
  have hset:row.set f cc=row:=by
   rw[List.getElem?_eq_some_iff] at hcc
   obtain⟨h1,rfl⟩:=hcc
   simp
  have hH:H'[id]?=H[id]?:=hu.other id fun h=>hnid id (hjm id h) rfl
  refine .inr ⟨id,off,ep,e,false,_,by simp,rfl,by rw[hH,he],fun _=>rfl,by simpa using hwh,by simpa using hl,hrl,?_⟩
  have e1:(e.drop off).take (trs.set i (r.set f t')).length=((e.drop off).take trs.length).set i row:=by
   rw[List.length_set]
   have hs':∀ (X:List (List Cell)),X[i]?=some row→X.set i row=X:=by
    intro X hX
    obtain⟨h1,h2⟩:=List.getElem?_eq_some_iff.1 hX
    subst h2
    simp
   exact(hs' _ hrow).symm
  rw[e1]
  have hnd1:=List.nodup_append.1 hnd
  have hnd2:=List.nodup_append.1 hnd1.2.1
  have hnd3:=List.nodup_append.1 hnd2.1
  have hnd4:=List.nodup_append.1 hnd3.2.1
  refine Sp.take_drop (is:=[]) (hs1.mono fun a b d ha hh=>hh.mono fun a' b' d' ha' hh=>hh.frame fun j hj=>hu.other j fun hh=>?_) ?_ (hs2.mono fun a b d ha hh=>hh.mono fun a' b' d' ha' hh=>hh.frame fun j hj=>hu.other j fun hh=>?_) (by omega) hi
  ·exact hnd1.2.2 _ (ha _ (ha' _ hj)) _ (List.mem_append_left _ (List.mem_append_right _ (List.mem_append_left _ hh))) rfl
  ·rw[← hset]
   refine Sp.take_drop (is:=[]) (hj1.mono fun a b d ha hh=>hh.frame fun j hj=>hu.other j fun hh=>?_) ht (hj2.mono fun a b d ha hh=>hh.frame fun j hj=>hu.other j fun hh=>?_) hfl (by rw[← hm.length];exact hfl)
   ·exact hnd3.2.2 _ (ha _ hj) _ (List.mem_append_left _ hh) rfl
   ·exact hnd4.2.2 _ hh _ (ha _ hj) rfl
  ·exact hnd2.2.2 _ (List.mem_append_right _ (List.mem_append_left _ hh)) _ (ha _ (ha' _ hj)) rfl
def cntL {α:Type}(cnt:α→Nat)(xs:List α):Nat:=(xs.map cnt).sum
def mkL {α:Type}(mk:α→Nat→α)(cnt:α→Nat):List α→Nat→List α | [],_=>[] | x::xs,k=>mk x k::mkL mk cnt xs (k+cnt x)
theorem qml {α:Type}(mk:α→Nat→α)(cnt:α→Nat)(xs:List α)(k:Nat):(mkL mk cnt xs k).length=xs.length:=by
 induction xs generalizing k with
 | nil=>rfl
 | cons x xs ih=>simp[mkL,ih]
theorem qej {α:Type}(cnt:α→Nat)(x:α)(xs:List α):cntL cnt (x::xs)=cnt x+cntL cnt xs:=by simp[cntL]
theorem qsh {α:Type}(cnt:α→Nat):cntL cnt ([]:List α)=0:=rfl
theorem qltc {α:Type}(xs:List α):cntL (fun _=>1) xs=xs.length:=by
 induction xs with
 | nil=>rfl
 | cons x xs ih=>rw[qej,ih,List.length_cons];omega
def qby:Nat:=4611686018427387904
theorem qla {α:Type}{sz n:Nat}{ids:List Nat}{c:Cell}(tr:α→List Tr)(mk:α→Nat→α)(cnt:α→Nat)(xs:List α)(L:Nat→Int→Int→List Entry→Option Res)
  (hstep:∀ (m i k:Nat) (x:α) (H:List Entry) (trs:List (List Tr)),i < xs.length→x∈xs→trs[i]?=some (tr x)→trs.length=xs.length→k+cnt x≤qby→Rep H w true (n+1) ids c (.list sz trs)→
   ∃ H',L (m+1) k i H=L m ((k+cnt x:Nat):Int) ((i+1:Nat):Int) H'∧Upd ids H H'∧Rep H' w true (n+1) ids c (.list sz (trs.set i (tr (mk x k)))))
  (hend:∀ (m k:Nat) (H:List Entry),L (m+1) k xs.length H=some ([.one (Cell.int (k:Int))],H)) (m k:Nat) (H:List Entry) (hm:xs.length < m) (hk:k+cntL cnt xs≤qby) (h:Rep H w true (n+1) ids c (.list sz (xs.map tr))):
  ∃ H',L m k 0 H=some ([.one (Cell.int ((k+cntL cnt xs:Nat):Int))],H')∧Upd ids H H'∧Rep H' w true (n+1) ids c (.list sz ((mkL mk cnt xs k).map tr)):=by
 have key:∀ (r done:List α) (i m k:Nat) (H:List Entry),xs.drop i=r→i≤xs.length→done.length=i→r.length < m→k+cntL cnt r≤qby→Rep H w true (n+1) ids c (.list sz (done.map tr++r.map tr))→
   ∃ H',L m k i H=some ([.one (Cell.int ((k+cntL cnt r:Nat):Int))],H')∧Upd ids H H'∧Rep H' w true (n+1) ids c (.list sz (done.map tr++(mkL mk cnt r k).map tr)):=by
  intro r
  induction r with
  | nil=>
   intro done i m k H hd hi hl hm hk h
   obtain⟨m,rfl⟩:∃ j,m=j+1:=⟨m - 1,by omega⟩
   have hlen:=drop_nil hd
   refine⟨H,?_,.refl _ _,h⟩
   obtain rfl:i=xs.length:=by omega
   rw[hend,qsh,Nat.add_zero]
  | cons x r ih=>
   intro done i m k H hd hi hl hm hk h
   obtain⟨m,rfl⟩:∃ j,m=j+1:=⟨m - 1,by omega⟩
   obtain⟨hlt,hx,hd'⟩:=qao hd
   rw[qej] at hk
   simp only[List.length_cons] at hm
   have hrl:(x::r).length+i=xs.length:=by rw[← hd];simp;omega
   obtain⟨H1,h1,h2,h3⟩:=hstep m i k x H (done.map tr++(x::r).map tr) hlt (List.mem_of_getElem? hx) (by rw[List.getElem?_append_right (by simp[hl])];simp[hl]) (by simp at hrl ⊢;omega) (by omega) h
   have e:(done.map tr++(x::r).map tr).set i (tr (mk x k))=(done++[mk x k]).map tr++r.map tr:=by
    rw[List.set_append,if_neg (by simp[hl])]
    simp[hl]
   rw[e] at h3
   obtain⟨H2,h4,h5,h6⟩:=ih (done++[mk x k]) (i+1) m (k+cnt x) H1 hd' (by omega) (by simp[hl]) (by omega) (by omega) h3
   refine⟨H2,?_,h2.trans h5,?_⟩
   ·rw[h1,h4,qej,Nat.add_assoc]
   ·simpa[mkL] using h6
 have:=key xs [] 0 m k H rfl (by omega) rfl hm hk (by simpa using h)
 simpa using this
theorem Rep.idxR {n sz:Nat}{ids:List Nat}{c:Cell}{trs:List (List Tr)}{i:Nat}{r:List Tr}(h:Rep H w true (n+1) ids c (.list sz (trs.set i r)))(hn:ids.Nodup)(hi:i < trs.length):
  ∃ id p ep row,idxA sz c (i:Int)=some (.ptr id sz p 0 ep)∧(∀ o,deref H (.ptr id sz p o ep)=some (row,o))∧
   (∀ f v0 v,r[f]?=some (.leaf v0)→∃ H',qbm H (.ptr id sz p f ep) [.sc v]=some H'∧Upd ids H H'∧Rep H' w true (n+1) ids c (.list sz (trs.set i (r.set f (.leaf v)))))∧
   (∀ f t,r[f]?=some t→∃ cc sub,cC row f=some cc∧Rep H w true n sub cc t∧sub.Nodup∧
    ∀ H' t',Upd sub H H'→Rep H' w true n sub cc t'→Upd ids H H'∧Rep H' w true (n+1) ids c (.list sz (trs.set i (r.set f t')))):=by
 obtain⟨id,p,ep,row,h1,h2,_,h3,h4⟩:=h.idx hn (i:=i) (r:=r) (by rw[List.getElem?_set_self hi])
 simp only[List.set_set] at h3 h4
 exact⟨id,p,ep,row,h1,h2,h3,h4⟩
theorem qnj {α:Type}{xs:List α}{i:Nat}{r:α}(h:xs[i]?=some r):xs.set i r=xs:=by
 obtain⟨h1,h2⟩:=List.getElem?_eq_some_iff.1 h
 subst h2
 simp
theorem Sp.field {n:Nat}{ids:List Nat}{cs:List Cell}{ts:List Tr}(h:Sp (Rep H w true n) ids cs ts)(hn:ids.Nodup)(f:Nat){cc:Cell}{t:Tr}(hc:cs[f]?=some cc)(hf:ts[f]?=some t):
  ∃ sub,Rep H w true n sub cc t∧sub.Nodup∧∀ H' t',Upd sub H H'→Rep H' w true n sub cc t'→Upd ids H H'∧Sp (Rep H' w true n) ids cs (ts.set f t'):=by
 obtain⟨j1,jm,j2,cc',rfl,hcc,hP,hj1,hj2⟩:=h.at hf
 obtain rfl:cc=cc':=by rw[hc] at hcc;simpa using hcc
 have hnd1:=List.nodup_append.1 hn
 have hnd2:=List.nodup_append.1 hnd1.2.1
 refine⟨jm,hP,hnd2.1,fun H' t' hu ht=>⟨hu.mono fun j hj=>List.mem_append_right _ (List.mem_append_left _ hj),?_⟩⟩
 have hset:cs.set f cc=cs:=qnj hc
 rw[← hset]
 refine Sp.take_drop (is:=[]) (hj1.mono fun a b d ha hh=>hh.frame fun j hj=>hu.other j fun hh=>?_) ht (hj2.mono fun a b d ha hh=>hh.frame fun j hj=>hu.other j fun hh=>?_) (List.getElem?_eq_some_iff.1 hc).1 (List.getElem?_eq_some_iff.1 hf).1
 ·exact hnd1.2.2 _ (ha _ hj) _ (List.mem_append_left _ hh) rfl
 ·exact hnd2.2.2 _ hh _ (ha _ hj) rfl
theorem Sp.cons_inv {α β:Type}{P:List Nat→α→β→Prop}{is:List Nat}{as:List α}{b:β}{bs:List β}(h:Sp P is as (b::bs)):∃ i i' a as',is=i++i'∧as=a::as'∧P i a b∧Sp P i' as' bs:=by
 cases h with
 | cons h t=>exact⟨_,_,_,_,rfl,rfl,h,t⟩
theorem Sp.nil_inv {α β:Type}{P:List Nat→α→β→Prop}{is:List Nat}{as:List α}(h:Sp P is as []):is=[]∧as=[]:=by
 cases h;exact⟨rfl,rfl⟩
def qdj (s:Str):List Tr:=[.leaf (.string (bs s))]
def qiob (b:UInt8):List Tr:=[.leaf (.int .u8 (b.toNat:Int))]
def trL {α:Type}(sz:Nat)(tr:α→List Tr)(xs:List α):Tr:=.list sz (xs.map tr)
def trLs {α:Type}(sz:Nat)(tr:α→List Tr)(xs:List α):List Tr:=[trL sz tr xs]
class TrE {α:Type}(tr:α→List Tr)(e:outParam (α→List Cell)):Prop where
 eq:∀ x,(tr x).map Tr.cell=e x
theorem qbl (v:Value):(Tr.leaf v).cell=.sc v:=by rw[Tr.cell]
theorem qbs {α:Type}{tr:α→List Tr}{e:α→List Cell}[h:TrE tr e](sz:Nat)(xs:List α):(trL sz tr xs).cell=encL sz e xs:=by
 rw[trL,Tr.cell,Tr.rowsC_eq,List.map_map,encL]
 congr 1
 exact List.map_congr_left fun x _=>h.eq x
instance:TrE qdj eStr:=⟨fun x=>by simp[qdj,qbl,eStr]⟩
instance:TrE qiob qzxc:=⟨fun x=>by simp[qiob,qbl,qzxc]⟩
instance:TrE (trLs 1 qdj) qjx:=⟨fun x=>by simp[trLs,qbs,qjx]⟩
def one1 {α:Type}(_:α):Nat:=1
theorem qexb {α:Type}(xs:List α):cntL one1 xs=xs.length:=qltc xs
theorem Rep.app2 {n:Nat}{ids:List Nat}{cs:List Cell}{ts:List Tr}(E:List Entry)(h:Sp (Rep H w q n) ids cs ts):Sp (Rep (H++E) w q n) ids cs ts:=h.mono fun _ _ _ _ h=>h.app E
theorem Rep.more2 {n m:Nat}{ids:List Nat}{cs:List Cell}{ts:List Tr}(h:Sp (Rep H w q n) ids cs ts)(hm:n≤m):Sp (Rep H w q m) ids cs ts:=h.mono fun _ _ _ _ h=>h.more hm
theorem Rep.frame2 {n:Nat}{ids:List Nat}{cs:List Cell}{ts:List Tr}(h:Sp (Rep H w q n) ids cs ts)(hj:∀ j∈ids,H'[j]?=H[j]?):Sp (Rep H' w q n) ids cs ts:=h.mono fun _ _ _ hi h=>h.frame fun j hj'=>hj j (hi j hj')
theorem Rep.lt2 {n:Nat}{ids:List Nat}{cs:List Cell}{ts:List Tr}(h:Sp (Rep H w q n) ids cs ts):∀ j∈ids,j < H.length:=h.ids fun _ _ _ h=>h.lt
theorem qxqb {run:Run}{n:Nat}{args as:List AV}{ts:List Tr}(h:Fresh run true n as [.agg ts])(H:List Entry)(ha:mapO (qam false H) args=some as):
  ∃ cs E ids,qek run args H=some ([.agg cs],H++E)∧Sp (Rep (H++E) true true n) ids cs ts∧ids.Nodup∧(∀ j∈ids,H.length≤j)∧(good H→good (H++E))∧∀ c∈cs,cellIn (H++E).length c=true:=by
 obtain⟨xs,E,ids,h1,h2,h3,h4,h5,h6⟩:=qgq H ha h
 obtain⟨i,i',x,xs',rfl,rfl,h7,h8⟩:=h2.cons_inv
 obtain⟨rfl,rfl⟩:=h8.nil_inv
 rw[List.append_nil] at h3 h4
 cases x with
 | one c=>exact h7.elim
 | agg cs=>exact⟨cs,E,i,h1,h7,h3,h4,h5,fun c hc=>h6 _ (List.mem_singleton.2 rfl) c hc⟩
theorem qgmb {run:Run}{n:Nat}{args as:List AV}{t:Tr}(h:Fresh run true n as [.one t])(H:List Entry)(ha:mapO (qam false H) args=some as):
  ∃ c E ids,qek run args H=some ([.one c],H++E)∧Rep (H++E) true true n ids c t∧ids.Nodup∧(∀ j∈ids,H.length≤j)∧(good H→good (H++E))∧cellIn (H++E).length c=true:=by
 obtain⟨xs,E,ids,h1,h2,h3,h4,h5,h6⟩:=qgq H ha h
 obtain⟨i,i',x,xs',rfl,rfl,h7,h8⟩:=h2.cons_inv
 obtain⟨rfl,rfl⟩:=h8.nil_inv
 rw[List.append_nil] at h3 h4
 cases x with
 | one c=>exact⟨c,E,i,h1,h7,h3,h4,h5,h6 _ (List.mem_singleton.2 rfl) c (by simp[AV.cells])⟩
 | agg cs=>exact h7.elim
theorem qmsb {run:Run}{n:Nat}{args as:List AV}{t:Tr}{v:Value}(h:Fresh run true n as [.one t,.one (.leaf v)])(H:List Entry)(ha:mapO (qam false H) args=some as):
  ∃ c E ids,qek run args H=some ([.one c,.one (.sc v)],H++E)∧Rep (H++E) true true n ids c t∧ids.Nodup∧(∀ j∈ids,H.length≤j):=by
 obtain⟨xs,E,ids,h1,h2,h3,h4,h5,h6⟩:=qgq H ha h
 obtain⟨i,i',x,xs',rfl,rfl,h7,h8⟩:=h2.cons_inv
 obtain⟨i2,i2',y,ys',rfl,rfl,h9,h10⟩:=h8.cons_inv
 obtain⟨rfl,rfl⟩:=h10.nil_inv
 cases x with
 | agg cs=>exact h7.elim
 | one c=>
  cases y with
  | agg cs=>exact h9.elim
  | one d=>
   cases n with
   | zero=>exact h9.elim
   | succ n=>
    obtain⟨rfl,rfl⟩:=h9
    simp only[List.append_nil] at h3 h4
    exact⟨c,E,i,h1,h7,h3,h4⟩
theorem qovb {run:Run}{n:Nat}{args as:List AV}{ts:List Tr}{v:Value}(h:Fresh run true n as [.agg ts,.one (.leaf v)])(H:List Entry)(ha:mapO (qam false H) args=some as):
  ∃ cs E ids,qek run args H=some ([.agg cs,.one (.sc v)],H++E)∧Sp (Rep (H++E) true true n) ids cs ts∧ids.Nodup∧(∀ j∈ids,H.length≤j):=by
 obtain⟨xs,E,ids,h1,h2,h3,h4,h5,h6⟩:=qgq H ha h
 obtain⟨i,i',x,xs',rfl,rfl,h7,h8⟩:=h2.cons_inv
 obtain⟨i2,i2',y,ys',rfl,rfl,h9,h10⟩:=h8.cons_inv
 obtain⟨rfl,rfl⟩:=h10.nil_inv
 cases x with
 | one c=>exact h7.elim
 | agg cs=>
  cases y with
  | agg cs=>exact h9.elim
  | one d=>
   cases n with
   | zero=>exact h9.elim
   | succ n=>
    obtain⟨rfl,rfl⟩:=h9
    simp only[List.append_nil] at h3 h4
    exact⟨cs,E,i,h1,h7,h3,h4⟩
theorem qbk {α β:Type}(f:α→Option β):mapO f []=some []:=rfl
theorem qcc {α β:Type}{f:α→Option β}{x:α}{y:β}{xs:List α}{ys:List β}(h:f x=some y)(t:mapO f xs=some ys):mapO f (x::xs)=some (y::ys):=by simp only[mapO,h,t]
theorem qdu {p:Run}{args as:List AV}{H:List Entry}(h:mapO (qam false H) args=some as):qak p args H=out p as:=by rw[qnbb,h];rfl
theorem qsq {n:Nat}{ids:List Nat}{c:Cell}{t:Tr}(h:Rep H w q n ids c t)(hn:n≤4194304):qam false H (.one c)=some (.one t.cell):=RepA.reify (x:=.one c) (t:=.one t) h hn fun h=>by simp at h
theorem qch {n:Nat}{ids:List Nat}{cs:List Cell}{ts:List Tr}(h:Sp (Rep H w q n) ids cs ts)(hn:n≤4194304):qam false H (.agg cs)=some (.agg (ts.map Tr.cell)):=RepA.reify (x:=.agg cs) (t:=.agg ts) h hn fun h=>by simp at h
theorem Upd.rep {ids js:List Nat}(h:Upd ids H H'){n:Nat}{c:Cell}{t:Tr}(hr:Rep H w q n js c t)(hd:∀ j∈js,j∉ids):Rep H' w q n js c t:=hr.frame fun j hj=>h.other j (hd j hj)
theorem Upd.rep2 {ids js:List Nat}(h:Upd ids H H'){n:Nat}{cs:List Cell}{ts:List Tr}(hr:Sp (Rep H w q n) js cs ts)(hd:∀ j∈js,j∉ids):Sp (Rep H' w q n) js cs ts:=Rep.frame2 hr fun j hj=>h.other j (hd j hj)
theorem qlnb {k:Nat}(h:k+1≤qby):IntKind.i64.wrap ((k:Int)+1)=((k+1:Nat):Int):=qaf (by unfold qby at h;rw[qai];omega)
structure Mine (lo hi:Nat)(ids:List Nat):Prop where
 le:lo≤hi
 nd:ids.Nodup
 lo:∀ j∈ids,lo≤j
 hi:∀ j∈ids,j < hi
theorem Mine.nil {lo hi:Nat}(h:lo≤hi):Mine lo hi []:=⟨h,by simp,by simp,by simp⟩
theorem Mine.app {lo mid hi:Nat}{a b:List Nat}(h:Mine lo mid a)(k:Mine mid hi b):Mine lo hi (a++b):=by
 refine⟨Nat.le_trans h.le k.le,List.nodup_append.2 ⟨h.nd,k.nd,fun x hx y hy e=>?_⟩,fun j hj=>?_,fun j hj=>?_⟩
 ·have:=h.hi x hx;have:=k.lo y hy;omega
 ·rcases List.mem_append.1 hj with hj | hj
  ·exact h.lo j hj
  ·exact Nat.le_trans h.le (k.lo j hj)
 ·rcases List.mem_append.1 hj with hj | hj
  ·exact Nat.lt_of_lt_of_le (h.hi j hj) k.le
  ·exact k.hi j hj
theorem Rep.cellIn {n:Nat}{ids:List Nat}{c:Cell}{t:Tr}(h:Rep H w q n ids c t):cellIn H.length c=true:=by
 cases n with
 | zero=>exact h.elim
 | succ n=>
  cases t with
  | leaf v=>obtain⟨_,rfl⟩:=h;rfl
  | list sz trs=>
   rcases h with⟨_,_,f,rfl⟩ | ⟨id,off,ep,e,fr,is,rfl,_,he,_⟩
   ·rfl
   ·simp only[Ev.cellIn,decide_eq_true_eq]
    exact(List.getElem?_eq_some_iff.1 he).1
theorem Rep.cellIn2 {n:Nat}{ids:List Nat}{cs:List Cell}{ts:List Tr}(h:Sp (Rep H w q n) ids cs ts):∀ c∈cs,Ev.cellIn H.length c=true:=by
 induction h with
 | nil=>simp
 | cons h t ih=>
  intro c hc
  rcases List.mem_cons.1 hc with rfl | hc
  ·exact h.cellIn
  ·exact ih c hc
theorem Fresh.one {run:Run}{n:Nat}{as:List AV}{c:Cell}{t:Tr}{ids:List Nat}(h:run as []=some ([.one c],H))(hs:Rep H w true n ids c t)(hn:ids.Nodup)(h8:n≤4194306:=by omega):Fresh run w n as [.one t]:=
 Fresh.of (ids:=ids++[]) h (.cons (a:=AV.one c) (b:=AT.one t) hs .nil) (by simpa using hn) h8
theorem Fresh.agg {run:Run}{n:Nat}{as:List AV}{cs:List Cell}{ts:List Tr}{ids:List Nat}(h:run as []=some ([.agg cs],H))(hs:Sp (Rep H w true n) ids cs ts)(hn:ids.Nodup)(h8:n≤4194306:=by omega):Fresh run w n as [.agg ts]:=
 Fresh.of (ids:=ids++[]) h (.cons (a:=AV.agg cs) (b:=AT.agg ts) hs .nil) (by simpa using hn) h8
theorem qpjc:good []:=fun e he=>by simp at he
theorem qlqb {run:Run}{n:Nat}{args as:List AV}{ts:List Tr}(h:Fresh run true n as [.agg ts])(H:List Entry)(ha:mapO (qam false H) args=some as):
  ∃ cs E ids,qek run args H=some ([.agg cs],H++E)∧Sp (Rep (H++E) true true n) ids cs ts∧Mine H.length (H++E).length ids∧(good H→good (H++E)):=by
 obtain⟨cs,E,ids,h1,h2,h3,h4,h5,h6⟩:=qxqb h H ha
 exact⟨cs,E,ids,h1,h2,⟨by simp,h3,h4,Rep.lt2 h2⟩,h5⟩
theorem qaeb {run:Run}{n:Nat}{args as:List AV}{t:Tr}(h:Fresh run true n as [.one t])(H:List Entry)(ha:mapO (qam false H) args=some as):
  ∃ c E ids,qek run args H=some ([.one c],H++E)∧Rep (H++E) true true n ids c t∧Mine H.length (H++E).length ids∧(good H→good (H++E)):=by
 obtain⟨c,E,ids,h1,h2,h3,h4,h5,h6⟩:=qgmb h H ha
 exact⟨c,E,ids,h1,h2,⟨by simp,h3,h4,h2.lt⟩,h5⟩
theorem Sp.leaf_inv {n:Nat}{is:List Nat}{as:List Cell}{v:Value}{ts:List Tr}(h:Sp (Rep H w q n) is as (.leaf v::ts)):∃ as',as=.sc v::as'∧Sp (Rep H w q n) is as' ts:=by
 obtain⟨i,i',a,as',rfl,rfl,h1,h2⟩:=h.cons_inv
 cases n with
 | zero=>exact h1.elim
 | succ n=>
  obtain⟨rfl,rfl⟩:=h1
  exact⟨as',rfl,h2⟩
theorem Sp.list_inv {n:Nat}{is:List Nat}{as:List Cell}{t:Tr}{ts:List Tr}(h:Sp (Rep H w q n) is as (t::ts)):∃ c as',as=c::as'∧∃ i',Sp (Rep H w q n) i' as' ts:=by
 obtain⟨i,i',a,as',rfl,rfl,h1,h2⟩:=h.cons_inv
 exact⟨a,as',rfl,i',h2⟩
theorem Sp.leaf1 {n:Nat}(v:Value):Sp (Rep H w q (n+1)) [] [.sc v] [.leaf v]:=.cons (i:=[]) (is:=[]) ⟨rfl,rfl⟩ .nil
theorem Sp.leafD {n:Nat}(h:0 < n)(v:Value):Sp (Rep H w q n) [] [.sc v] [.leaf v]:=by
 obtain⟨n,rfl⟩:∃ j,n=j+1:=⟨n - 1,by omega⟩
 exact Sp.leaf1 v
theorem Sp.one1 {n:Nat}{ids:List Nat}{c:Cell}{t:Tr}(h:Rep H w q n ids c t):Sp (Rep H w q n) ids [c] [t]:=by
 have:=Sp.cons h (Sp.nil (P:=Rep H w q n))
 rwa [List.append_nil] at this
theorem qur {α:Type}{run:Run}{as:List AV}{sz n:Nat}{z:List Cell}(hz:z.length=sz)(hzc:∀ c∈z,Ev.cellIn 0 c=true)(tr:α→List Tr)(xs:List α)(L:Nat→Int→List Entry→Option Res)
  (hstep:∀ (m i:Nat) (x:α) (H:List Entry),i < xs.length→x∈xs→xs[i]?=some x→good H→∃ cells E ids,L (m+1) i H=(qbm (H++E) (.ptr 0 sz i 0 0) cells).bind (fun H2=>L m ((i+1:Nat):Int) H2)∧cells.length=sz∧
   Sp (Rep (H++E) true true n) ids cells (tr x)∧Mine H.length (H++E).length ids∧good (H++E))
  (hend:∀ (m:Nat) (H:List Entry),L (m+1) xs.length H=some ([.one (.vs 0 sz 0 xs.length 0)],H)) (m:Nat) (hm:xs.length < m)
  (hrun:∀ r,L m 0 [Entry.mk sz (qce xs.length z) 0 false]=some r→run as []=some r) (h8:n≤4194305:=by omega):Fresh run true (n+1) as [.one (trL sz tr xs)]:=by
 obtain⟨H,ids,h1,h2,h3,h4,h5⟩:=qdec hz hzc tr xs (fun m i H=>L m i H) (fun m i x H hx hg=>by
  obtain⟨cells,E,ids,h1,h2,h3,h4,h5⟩:=hstep m i x H (List.getElem?_eq_some_iff.1 hx).1 (List.mem_of_getElem? hx) hx hg
  exact⟨cells,E,ids,h1,h2,h3,h4.nd,h4.lo,h5,Rep.cellIn2 h3⟩) hend m hm
 exact Fresh.one (hrun _ h1) h4 h5
def dig:Nat→Nat→Str→Str | 0,_,acc=>acc | f+1,i,acc=>if i=0 then acc else dig f (i / 10) (UInt8.ofNat (48+i % 10)::acc)
def qtz (k:Nat):Str:=if k=0 then [109,48] else 109::dig k k []
def qlw (_:Str)(k:Nat):Str:=qtz k
theorem qtec (L:Nat→Int→ByteArray→Option Res)
  (h0:∀ n s,L (n+1) 0 s=(catS (bs [109]) s).bind fun s6=>some ([.one (Cell.str s6)],[]))
  (h1:∀ n (i:Nat) s,0 < i→L (n+1) i s=(bytesOf [] (.lst true 1 [[.sc (.int .u8 (IntKind.u8.wrap (IntKind.i64.wrap (48+((i:Int).tmod 10)))))]])).bind fun s4=>(catS s4 s).bind fun s5=>L n (IntKind.i64.wrap ((i:Int).tdiv 10)) s5):
  ∀ (n i f:Nat) (acc:Str),i < n→i≤f→i+acc.length≤qby→L n i (bs acc)=some ([.one (Cell.str (bs (109::dig f i acc)))],[]):=by
 intro n
 induction n with
 | zero=>intro i f acc h;omega
 | succ n ih=>
  intro i f acc hn hf ha
  by_cases hi:i=0
  ·subst hi
   have:=h0 n (bs acc)
   simp only[Int.natCast_zero] at this ⊢
   rw[this,qhj (by unfold qby at ha;simp;omega)]
   cases f<;>simp[dig]
  ·have:=h1 n i (bs acc) (by omega)
   rw[this]
   have e1:(i:Int).tmod 10=((i % 10:Nat):Int):=by rw[Int.tmod_eq_emod_of_nonneg (by omega)];omega
   have e2:(i:Int).tdiv 10=((i / 10:Nat):Int):=by rw[Int.tdiv_eq_ediv_of_nonneg (by omega)];omega
   have hmod:i % 10 < 10:=Nat.mod_lt _ (by omega)
   have e3:IntKind.i64.wrap (48+((i:Int).tmod 10))=((48+i % 10:Nat):Int):=by rw[e1,wrap_small (by omega) (by omega)];omega
   have e4:IntKind.u8.wrap (((48+i % 10:Nat):Int))=((48+i % 10:Nat):Int):=by
    simp only[IntKind.wrap,IntKind.bits,IntKind.signed]
    simp
    omega
   have e5:bytesOf [] (.lst true 1 [[.sc (.int .u8 ((48+i % 10:Nat):Int))]])=some (bs [UInt8.ofNat (48+i % 10)]):=by
    simp only[bytesOf,rowsOf,if_true,Option.bind_some,mapO,qgnd]
    rfl
   unfold qby at ha
   rw[e3,e4,e5,e2,wrap_small (by omega) (by omega)]
   simp only[Option.bind_some]
   rw[qhj (by simp;omega)]
   simp only[Option.bind_some]
   obtain⟨f,rfl⟩:∃ j,f=j+1:=⟨f - 1,by omega⟩
   have hd:i / 10 < i:=by omega
   rw[show [UInt8.ofNat (48+i % 10)]++acc=UInt8.ofNat (48+i % 10)::acc from rfl,ih (i / 10) f _ (by omega) (by omega) (by unfold qby;simp;omega),dig,if_neg hi]
theorem qfg (id sz idx off ep o:Nat):fldA (.ptr id sz idx off ep) o=some (.ptr id sz idx (off+o) ep):=rfl
theorem wrap_u8 (k:Nat):IntKind.u8.wrap ((k:Nat):Int)=((UInt8.ofNat k).toNat:Int):=by
 simp only[IntKind.wrap,IntKind.bits,IntKind.signed]
 simp
theorem qjm {o:Option Cell}{id sz p ep id' p' ep':Nat}(h:o=some (.ptr id sz p 0 ep))(k:o=some (.ptr id' sz p' 0 ep')):id'=id∧p'=p∧ep'=ep:=by
 rw[h] at k
 simp only[Option.some.injEq,Cell.ptr.injEq] at k
 exact⟨k.1.symm,k.2.2.1.symm,k.2.2.2.2.symm⟩
theorem qtqb {sz ep:Nat}{fr:Bool}{rows:List (List Cell)}(h:∀ r∈rows,∀ c∈r,Ev.cellIn 0 c=true):good [Entry.mk sz rows ep fr]:=by
 intro e he row hr c hc
 simp only[List.mem_singleton] at he
 subst he
 exact qev (h row hr c hc) (by omega)
theorem Grow.rep {α:Type}{sz:Nat}{c:Cell}{e:α→List Cell}{tr:α→List Tr}{xs:List α}(h:Grow sz c H (xs.map e))(hl:∀ x∈xs,(e x).length=sz)(ht:∀ x∈xs,∀ H',Sp (Rep H' true true 1) [] (e x) (tr x)):
  ∃ ids,Rep H true true 2 ids c (trL sz tr xs)∧ids.Nodup∧good H:=by
 rcases h with⟨h1,rfl,rfl⟩ | ⟨ep,rfl,rfl⟩
 ·simp only[List.map_eq_nil_iff] at h1
  subst h1
  exact⟨[],.inl ⟨rfl,rfl,true,rfl⟩,by simp,qpjc⟩
 ·refine⟨[0],.inr ⟨0,0,ep,xs.map e,false,[],by simp,rfl,rfl,fun _=>rfl,fun _=>⟨rfl,by simp⟩,by simp,?_,?_⟩,by simp,qtqb ?_⟩
  ·intro r hr
   obtain⟨x,hx,rfl⟩:=List.mem_map.1 hr
   exact hl x hx
  ·rw[List.drop_zero,List.take_of_length_le (by simp)]
   have:∀ (ys:List α) (H:List Entry),(∀ y∈ys,y∈xs)→Sp (Sp (Rep H true true 1)) [] (ys.map e) (ys.map tr):=by
    intro ys
    induction ys with
    | nil=>intro H _;exact .nil
    | cons y ys ih=>intro H hy;exact .cons (i:=[]) (is:=[]) (ht y (hy y List.mem_cons_self) H) (ih H fun z hz=>hy z (List.mem_cons_of_mem _ hz))
   exact this xs _ fun _ h=>h
  ·intro r hr c hc
   obtain⟨x,hx,rfl⟩:=List.mem_map.1 hr
   have:=Rep.cellIn2 (ht x hx []) c hc
   exact this
def qgk (c:Cell):Prop:=∀ f s r,c=.lst f s r→f=true
theorem qcn (sz:Nat):qgk (.lst true sz []):=fun f s r h=>by simp only[Cell.lst.injEq] at h;exact h.1.symm
theorem qok (id sz off len ep:Nat):qgk (.vs id sz off len ep):=fun f s r h=>by simp at h
theorem Rep.append {n sz by':Nat}{ids js:List Nat}{c:Cell}{trs tys:List (List Tr)}{ys:List (List Cell)}(h:Rep H true true (n+1) ids c (.list sz trs))(hf:qgk c)(hn:ids.Nodup)
  (hy:Sp (Sp (Rep H true true n)) js ys tys) (hys:∀ r∈ys,r.length=sz) (hjn:js.Nodup) (hd:∀ j∈ids,j∉js) (h1:(trs.length+ys.length)*by'≤bound) (h2:trs.length+ys.length≤bound):
  ∃ d H' ids',Ev.app H sz by' c ys=some (d,H')∧Rep H' true true (n+1) ids' d (.list sz (trs++tys))∧qgk d∧ids'.Nodup∧(∀ j∈ids',j∈ids∨j∈js∨j=H.length)∧H.length≤H'.length∧
   (∀ j,j < H.length→j∉ids→H'[j]?=H[j]?)∧(good H→good H'):=by
 have hyc:∀ r∈ys,∀ c∈r,Ev.cellIn H.length c=true:=by
  have:∀ {js:List Nat} {ys:List (List Cell)} {tys:List (List Tr)},Sp (Sp (Rep H true true n)) js ys tys→∀ r∈ys,∀ c∈r,Ev.cellIn H.length c=true:=by
   intro js ys tys h
   induction h with
   | nil=>simp
   | cons h t ih=>
    intro r hr
    rcases List.mem_cons.1 hr with rfl | hr
    ·exact Rep.cellIn2 h
    ·exact ih r hr
  exact this hy
 have hjl:∀ j∈js,j < H.length:=fun j hj=>hy.ids (fun _ _ _ h=>Rep.lt2 h) j hj
 rcases h with⟨rfl,rfl,f,rfl⟩ | ⟨id,off,ep,e,fr,is,rfl,rfl,he,hq,hwh,hl,hrl,hs⟩
 ·obtain rfl:=hf _ _ _ rfl
  cases ys with
  | nil=>
   cases hy
   exact⟨_,H,[],rfl,.inl ⟨rfl,rfl,true,rfl⟩,qcn sz,by simp,by simp,Nat.le_refl _,fun _ _ _=>rfl,fun h=>h⟩
  | cons y ys=>
   simp only[List.length_nil] at h1 h2
   rw[List.nil_append]
   refine⟨.vs H.length sz 0 (0+(y::ys).length) 0,H++[⟨sz,[]++(y::ys),0,false⟩],H.length::js,?_,.inr ⟨H.length,0,0,y::ys,false,js,by rw[← hy.length];simp,rfl,by simp,fun _=>rfl,fun _=>⟨rfl,by rw[← hy.length]⟩,by rw[← hy.length];simp,hys,?_⟩,qok _ _ _ _ _,?_,?_,by simp,?_,?_⟩
   ·simp only[Ev.app,List.isEmpty_cons,List.length_nil]
    rw[if_neg (by simp),if_pos ⟨trivial,.inr trivial,h1,h2⟩]
   ·rw[← hy.length,List.drop_zero,List.take_length]
    exact hy.mono fun i a b hi h=>h.mono fun i' a' b' hi' h'=>h'.app _
   ·exact List.nodup_cons.2 ⟨fun h=>absurd (hjl _ h) (Nat.lt_irrefl _),hjn⟩
   ·intro j hj
    rcases List.mem_cons.1 hj with rfl | hj
    ·exact .inr (.inr rfl)
    ·exact .inr (.inl hj)
   ·intro j hj _
    exact List.getElem?_append_left hj
   ·intro hg e he row hr c hc
    have hlen:(H++[Entry.mk sz ([]++(y::ys)) 0 false]).length=H.length+1:=by simp
    rw[hlen]
    rcases List.mem_append.1 he with he | he
    ·exact qev (hg e he row hr c hc) (by omega)
    ·simp only[List.mem_singleton] at he
     subst he
     exact qev (hyc row hr c hc) (by omega)
 ·obtain⟨rfl,hlen⟩:=hwh rfl
  have hid:id < H.length:=(List.getElem?_eq_some_iff.1 he).1
  have hni:=List.nodup_cons.1 hn
  rw[hlen,List.drop_zero,List.take_length] at hs
  have hidj:id∉js:=hd id List.mem_cons_self
  have hfrm:∀ j,j≠id→(H.set id ⟨sz,e++ys,ep+1,fr⟩)[j]?=H[j]?:=fun j hj=>List.getElem?_set_ne (Ne.symm hj)
  refine⟨.vs id sz 0 (trs.length+ys.length) (ep+1),H.set id ⟨sz,e++ys,ep+1,fr⟩,id::(is++js),?_,.inr ⟨id,0,ep+1,e++ys,fr,is++js,by rw[List.length_append,hy.length],rfl,List.getElem?_set_self hid,hq,fun _=>⟨rfl,by simp[hlen,hy.length]⟩,by simp[hlen,hy.length],?_,?_⟩,qok _ _ _ _ _,?_,?_,by simp,?_,?_⟩
  ·simp only[Ev.app,entry?,he,if_true]
   rw[if_pos ⟨trivial,by omega,.inl (by omega),h1,h2⟩,List.drop_zero,hlen,List.take_length]
  ·intro r hr
   rcases List.mem_append.1 hr with hr | hr
   ·exact hrl r hr
   ·exact hys r hr
  ·rw[List.drop_zero,List.take_of_length_le (by simp[hlen,hy.length])]
   refine Sp.append (hs.mono fun i a b hi h=>h.mono fun i' a' b' hi' h'=>h'.frame fun j hj=>hfrm j fun e=>?_) (hy.mono fun i a b hi h=>h.mono fun i' a' b' hi' h'=>h'.frame fun j hj=>hfrm j fun e=>?_)
   ·exact hni.1 (e▸hi _ (hi' _ hj))
   ·exact hidj (e▸hi _ (hi' _ hj))
  ·refine List.nodup_cons.2 ⟨fun h=>?_,List.nodup_append.2 ⟨hni.2,hjn,fun a ha b hb e=>hd a (List.mem_cons_of_mem _ ha) (e▸hb)⟩⟩
   rcases List.mem_append.1 h with h | h
   ·exact hni.1 h
   ·exact hidj h
  ·intro j hj
   rcases List.mem_cons.1 hj with rfl | hj
   ·exact .inl List.mem_cons_self
   ·rcases List.mem_append.1 hj with hj | hj
    ·exact .inl (List.mem_cons_of_mem _ hj)
    ·exact .inr (.inl hj)
  ·intro j _ hj
   exact hfrm j fun e=>hj (by simp[e])
  ·intro hg e' he' row hr c hc
   rw[List.length_set]
   rcases List.mem_or_eq_of_mem_set he' with he' | rfl
   ·exact hg e' he' row hr c hc
   ·rcases List.mem_append.1 hr with hr | hr
    ·exact hg _ (List.mem_of_getElem? he) row hr c hc
    ·exact hyc row hr c hc
theorem Fresh.tailO {run run':Run}{n:Nat}{args as as':List AV}{t:Tr}(h:Fresh run' true n as' [.one t])(H:List Entry)(ha:mapO (qam false H) args=some as')
  (hr:∀ c E,qek run' args H=some ([.one c],H++E)→run as []=some ([.one c],H++E)):Fresh run true n as [.one t]:=by
 obtain⟨c,E,ids,h1,h2,h3,_⟩:=qgmb h H ha
 exact Fresh.one (hr c E h1) h2 h3 h.1
theorem qdc {α:Type}{cnt w:α→Nat}(h:∀ x,cnt x≤8+8*w x)(xs:List α):cntL cnt xs≤8*wtL w xs:=by
 induction xs with
 | nil=>simp[cntL]
 | cons x xs ih=>
  rw[qej]
  have:=h x
  simp only[wtL,List.length_cons,List.map_cons,List.sum_cons] at ih ⊢
  omega
theorem qei {α:Type}{w:α→Nat}(x:α):one1 x≤8+8*w x:=by unfold one1;omega
theorem qqt {run:Run}{n:Nat}{args as:List AV}{t:Tr}{v:Value}(h:Fresh run true n as [.one t,.one (.leaf v)])(H:List Entry)(ha:mapO (qam false H) args=some as):
  ∃ c E ids,qek run args H=some ([.one c,.one (.sc v)],H++E)∧Rep (H++E) true true n ids c t∧Mine H.length (H++E).length ids∧True:=by
 obtain⟨c,E,ids,h1,h2,h3,h4⟩:=qmsb h H ha
 exact⟨c,E,ids,h1,h2,⟨by simp,h3,h4,h2.lt⟩,trivial⟩
theorem qyx {run:Run}{n:Nat}{args as:List AV}{ts:List Tr}{v:Value}(h:Fresh run true n as [.agg ts,.one (.leaf v)])(H:List Entry)(ha:mapO (qam false H) args=some as):
  ∃ cs E ids,qek run args H=some ([.agg cs,.one (.sc v)],H++E)∧Sp (Rep (H++E) true true n) ids cs ts∧Mine H.length (H++E).length ids∧True:=by
 obtain⟨cs,E,ids,h1,h2,h3,h4⟩:=qovb h H ha
 exact⟨cs,E,ids,h1,h2,⟨by simp,h3,h4,Rep.lt2 h2⟩,trivial⟩
theorem Fresh.agg1 {run:Run}{n:Nat}{as:List AV}{cs:List Cell}{ts:List Tr}{v:Value}{ids:List Nat}(h:run as []=some ([.agg cs,.one (.sc v)],H))(hs:Sp (Rep H w true (n+1)) ids cs ts)(hn:ids.Nodup)(h8:n≤4194305:=by omega):Fresh run w (n+1) as [.agg ts,.one (.leaf v)]:=
 Fresh.of (ids:=ids++([]++[])) h (.cons (a:=AV.agg cs) (b:=AT.agg ts) hs (.cons (a:=AV.one (.sc v)) (b:=AT.one (.leaf v)) ⟨rfl,rfl⟩ .nil)) (by simpa using hn) (by omega)
theorem Fresh.one1 {run:Run}{n:Nat}{as:List AV}{c:Cell}{t:Tr}{v:Value}{ids:List Nat}(h:run as []=some ([.one c,.one (.sc v)],H))(hs:Rep H w true (n+1) ids c t)(hn:ids.Nodup)(h8:n≤4194305:=by omega):Fresh run w (n+1) as [.one t,.one (.leaf v)]:=
 Fresh.of (ids:=ids++([]++[])) h (.cons (a:=AV.one c) (b:=AT.one t) hs (.cons (a:=AV.one (.sc v)) (b:=AT.one (.leaf v)) ⟨rfl,rfl⟩ .nil)) (by simpa using hn) (by omega)
theorem qee {α β:Type}{a:Option α}{f:α→Option β}{r:Option β}{x:α}(h:a=some x)(g:f x=r):a.bind f=r:=by rw[h];exact g
theorem qed {β:Type}{row:List Cell}{i:Nat}{f:ByteArray→Option β}{r:Option β}{x:ByteArray}(h:cS row i=some x)(g:f x=r):(cS row i).bind f=r:=by rw[h];exact g
theorem qdx {β:Type}{row:List Cell}{i:Nat}{f:Cell→Option β}{r:Option β}{x:Cell}(h:cC row i=some x)(g:f x=r):(cC row i).bind f=r:=by rw[h];exact g
theorem qeb {β:Type}{row:List Cell}{i:Nat}{f:Bool→Option β}{r:Option β}{x:Bool}(h:cB row i=some x)(g:f x=r):(cB row i).bind f=r:=by rw[h];exact g
theorem qea {β:Type}{k:IntKind}{row:List Cell}{i:Nat}{f:Int→Option β}{r:Option β}{x:Int}(h:cI k row i=some x)(g:f x=r):(cI k row i).bind f=r:=by rw[h];exact g
theorem qbc {β:Type}{c:Bool}{a b r:β}(h:c=false)(g:b=r):cond c a b=r:=by rw[h];exact g
theorem qbt {β:Type}{k:List (Bool×List Kd)}{x:List AV}{a b r:β}(h:qab k x=true)(g:a=r):cond (qab k x) a b=r:=by rw[h];exact g
theorem qec {β:Type}[BEq β][LawfulBEq β]{γ:Type}{x:β}{a b r:γ}(g:b=r):cond (!(x==x)) a b=r:=by simpa using g
theorem qdy {β:Type}[BEq β][LawfulBEq β]{γ:Type}{x:β}{a b r:γ}(g:b=r):cond (x != x) a b=r:=by simpa using g
end Go.Ev
