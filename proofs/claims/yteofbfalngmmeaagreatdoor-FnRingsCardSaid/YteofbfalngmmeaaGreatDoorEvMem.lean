/- Lists and graphs that lie in the owned heap or among the arguments, as they are read. Conditions: none. -/
import Derived.Test.YteofbfalngmmeaaGreatDoorEvMk
set_option linter.unusedVariables false
namespace Go.Ev
open Go
variable {H H':List Entry}
theorem qfi (f:Bool)(xs:List Str)(H:List Entry):qal false H (.one (.lst f 1 (xs.map eStr)))=some (.one (qax xs)):=by
 have h:=(inferInstance:Canon (qax xs)).nrm
 have e:norm (.lst f 1 (xs.map eStr))=norm (qax xs):=by simp only[encL,norm]
 show((some (norm (.lst f 1 (xs.map eStr)))).map AV.one)=_
 rw[e,h]
 rfl
def qce (H:List Entry)(ids:List Nat)(c:Cell)(xs:List Str):Prop:=(∃ f,c=.lst f 1 (xs.map eStr))∨∃ is,Rep H false false 2 is c (trL 1 qbx xs)∧∀ j∈is,j∈ids
theorem qce.canon (H:List Entry)(xs:List Str):qce H [] (qax xs) xs:=.inl ⟨false,rfl⟩
theorem qce.nil (H:List Entry)(ids:List Nat):qce H ids (.lst true 1 []) []:=.inl ⟨true,rfl⟩
theorem qce.of {n:Nat}{w q:Bool}{ids:List Nat}{c:Cell}{xs:List Str}(h:Rep H w q 2 ids c (trL 1 qbx xs)):qce H ids c xs:=.inr ⟨ids,h.weak (fun h=>by simp at h) fun h=>by simp at h,fun j h=>h⟩
theorem qce.mono {ids js:List Nat}{c:Cell}{xs:List Str}(h:qce H ids c xs)(k:∀ j∈ids,j∈js):qce H js c xs:=by
 rcases h with h | ⟨is,h,hi⟩
 ·exact .inl h
 ·exact .inr ⟨is,h,fun j hj=>k j (hi j hj)⟩
theorem qce.frame {ids:List Nat}{c:Cell}{xs:List Str}(h:qce H ids c xs)(k:∀ j∈ids,H'[j]?=H[j]?):qce H' ids c xs:=by
 rcases h with h | ⟨is,h,hi⟩
 ·exact .inl h
 ·exact .inr ⟨is,h.frame fun j hj=>k j (hi j hj),hi⟩
theorem qce.read {ids:List Nat}{c:Cell}{xs:List Str}(h:qce H ids c xs):qal false H (.one c)=some (.one (qax xs)):=by
 rcases h with⟨f,rfl⟩ | ⟨is,h,hi⟩
 ·exact qfi f xs H
 ·have:=qhj h (by omega)
  rwa [qck] at this
theorem qce.len {ids:List Nat}{c:Cell}{xs:List Str}(h:qce H ids c xs):lenC c=some xs.length:=by
 rcases h with⟨f,rfl⟩ | ⟨is,h,hi⟩
 ·simp
 ·rcases h with⟨h1,_,f,rfl⟩ | ⟨id,off,ep,e,fr,is',rfl,_⟩
  ·simp only[List.map_eq_nil_iff] at h1
   subst h1
   rfl
  ·simp
theorem qce.at {ids:List Nat}{c:Cell}{xs:List Str}(h:qce H ids c xs){i:Nat}{s:Str}(hs:xs[i]?=some s):∃ a row off,idxA 1 c (i:Int)=some a∧deref H a=some (row,off)∧cS row off=some (bs s):=by
 have hlt:=(List.getElem?_eq_some_iff.1 hs).1
 rcases h with⟨f,rfl⟩ | ⟨is,h,hi⟩
 ·exact⟨.ref [Cell.str (bs s)] 0,[Cell.str (bs s)],0,by rw[qgl,List.getElem?_map,hs];rfl,rfl,rfl⟩
 ·rcases h with⟨h1,_,f,rfl⟩ | ⟨id,off,ep,e,fr,is',rfl,rfl,he,_,_,hl,hr,hsp⟩
  ·simp only[List.map_eq_nil_iff] at h1
   subst h1
   simp at hs
  ·obtain⟨_,_,_,row,_,h2,h3,_⟩:=hsp.at (n:=i) (b:=qbx s) (by rw[List.getElem?_map,hs];rfl)
   obtain⟨r',e1,h4⟩:=h3.leaf_inv
   subst e1
   refine⟨.ptr id 1 (off+i) 0 ep,Cell.str (bs s)::r',0,?_,?_,rfl⟩
   ·simp only[idxA,if_true,List.length_map]
    rw[if_pos ⟨by omega,by omega⟩,Int.toNat_natCast]
   ·have h5:e[off+i]?=some (Cell.str (bs s)::r'):=by
     rw[List.getElem?_take] at h2
     split at h2
     ·rw[List.getElem?_drop] at h2;exact h2
     ·simp at h2
    simp[deref,entry?,he,h5]
def GrowAt (n sz:Nat)(c:Cell)(T:List Entry)(rows:List (List Cell)):Prop:=(rows=[]∧c=.lst true sz []∧T=[])∨∃ ep,c=.vs n sz 0 rows.length ep∧T=[Entry.mk sz rows ep false]
theorem qnpc {A:List Entry}{sz by':Nat}{c:Cell}{T:List Entry}{rows:List (List Cell)}(h:GrowAt A.length sz c T rows)(y:List Cell)(h1:(rows.length+1)*by'≤bound)(h2:rows.length+1≤bound):
  ∃ d T',app (A++T) sz by' c [y]=some (d,A++T')∧GrowAt A.length sz d T' (rows++[y]):=by
 rcases h with⟨rfl,rfl,rfl⟩ | ⟨ep,rfl,rfl⟩
 ·refine⟨.vs A.length sz 0 1 0,[Entry.mk sz [y] 0 false],?_,.inr ⟨0,rfl,rfl⟩⟩
  simp only[List.length_nil] at h1 h2
  simp only[app,List.isEmpty_cons,List.length_nil,List.length_singleton,List.append_nil,List.nil_append]
  rw[if_neg (by simp),if_pos ⟨trivial,.inr trivial,h1,h2⟩]
 ·refine⟨.vs A.length sz 0 (rows.length+1) (ep+1),[Entry.mk sz (rows++[y]) (ep+1) false],?_,.inr ⟨ep+1,by simp,rfl⟩⟩
  have he:entry? (A++[Entry.mk sz rows ep false]) A.length ep=some (Entry.mk sz rows ep false):=by simp[entry?]
  simp only[app,he,List.length_singleton]
  rw[if_pos ⟨trivial,by simp,.inr trivial,h1,h2⟩]
  simp
theorem GrowAt.rep {A T:List Entry}{sz:Nat}{c:Cell}{α:Type}{e:α→List Cell}{tr:α→List Tr}{xs:List α}(h:GrowAt A.length sz c T (xs.map e))(hl:∀ x∈xs,(e x).length=sz)(ht:∀ x∈xs,∀ H',Sp (Rep H' true true 1) [] (e x) (tr x)):
  ∃ ids,Rep (A++T) true true 2 ids c (trL sz tr xs)∧ids.Nodup∧∀ j∈ids,j=A.length:=by
 rcases h with⟨h1,rfl,rfl⟩ | ⟨ep,rfl,rfl⟩
 ·simp only[List.map_eq_nil_iff] at h1
  subst h1
  exact⟨[],.inl ⟨rfl,rfl,true,rfl⟩,by simp,by simp⟩
 ·refine⟨[A.length],.inr ⟨A.length,0,ep,xs.map e,false,[],by simp,rfl,by simp,fun _=>rfl,fun _=>⟨rfl,by simp⟩,by simp,?_,?_⟩,by simp,by simp⟩
  ·intro r hr
   obtain⟨x,hx,rfl⟩:=List.mem_map.1 hr
   exact hl x hx
  ·rw[List.drop_zero,List.take_of_length_le (by simp)]
   have:∀ (ys:List α) (H:List Entry),(∀ y∈ys,y∈xs)→Sp (Sp (Rep H true true 1)) [] (ys.map e) (ys.map tr):=by
    intro ys
    induction ys with
    | nil=>intro H _;exact .nil
    | cons y ys ih=>intro H hy;exact .cons (i:=[]) (is:=[]) (ht y (hy y List.mem_cons_self) H) (ih H fun z hz=>hy z (List.mem_cons_of_mem _ hz))
   exact this xs _ fun _ h=>h
theorem GrowAt.list {A T:List Entry}{c:Cell}{xs:List Str}(h:GrowAt A.length 1 c T (xs.map eStr)):∃ ids,Rep (A++T) true true 2 ids c (trL 1 qbx xs)∧ids.Nodup∧∀ j∈ids,j=A.length:=
 h.rep (fun _ _=>rfl) fun _ _ _=>Sp.leaf1 _
def qzk (H:List Entry)(ids:List Nat)(c:Cell)(xss:List (List Str)):Prop:=(c=.lst true 1 []∧xss=[])∨∃ id ep fr rows,c=.vs id 1 0 xss.length ep∧id∈ids∧H[id]?=some (Entry.mk 1 rows ep fr)∧rows.length=xss.length∧∀ (j:Nat) (xs:List Str),xss[j]?=some xs→∃ d,rows[j]?=some [d]∧qce H ids d xs
theorem qzk.frame {ids:List Nat}{c:Cell}{xss:List (List Str)}(h:qzk H ids c xss)(k:∀ j∈ids,H'[j]?=H[j]?):qzk H' ids c xss:=by
 rcases h with h | ⟨id,ep,fr,rows,h1,h2,h3,h4,h5⟩
 ·exact .inl h
 ·refine .inr ⟨id,ep,fr,rows,h1,h2,by rw[k id h2,h3],h4,fun j xs hj=>?_⟩
  obtain⟨d,h6,h7⟩:=h5 j xs hj
  exact⟨d,h6,h7.frame k⟩
theorem qzk.len {ids:List Nat}{c:Cell}{xss:List (List Str)}(h:qzk H ids c xss):lenC c=some xss.length:=by
 rcases h with⟨rfl,rfl⟩ | ⟨id,ep,fr,rows,rfl,_⟩<;>simp
theorem qzk.at {ids:List Nat}{c:Cell}{xss:List (List Str)}(h:qzk H ids c xss){i:Nat}{xs:List Str}(hs:xss[i]?=some xs):∃ a d,idxA 1 c (i:Int)=some a∧deref H a=some ([d],0)∧qce H ids d xs:=by
 have hlt:=(List.getElem?_eq_some_iff.1 hs).1
 rcases h with⟨_,rfl⟩ | ⟨id,ep,fr,rows,rfl,h2,h3,h4,h5⟩
 ·simp at hs
 ·obtain⟨d,h6,h7⟩:=h5 i xs hs
  exact⟨.ptr id 1 i 0 ep,d,qgu _ _ _ _ _ hlt,by simp[deref,entry?,h3,h6],h7⟩
structure GraphM (H:List Entry)(ids:List Nat)(id:Nat)(names:List Str)(next:List (List Str)):Prop where
 mem:id∈ids
 lt:∀ j∈ids,j < H.length
 len:names.length=next.length
 ent:∃ cn co fr,H[id]?=some (Entry.mk 2 [[cn,co]] 0 fr)∧qce H ids cn names∧qzk H ids co next
theorem GraphM.app {ids:List Nat}{id:Nat}{names:List Str}{next:List (List Str)}(h:GraphM H ids id names next)(k:∀ j∈ids,H'[j]?=H[j]?)(hl:H.length≤H'.length):GraphM H' ids id names next:=by
 obtain⟨h1,h2,h3,cn,co,fr,h4,h5,h6⟩:=h
 exact⟨h1,fun j hj=>Nat.lt_of_lt_of_le (h2 j hj) hl,h3,cn,co,fr,by rw[k id h1,h4],h5.frame k,h6.frame k⟩
def Two (H:List Entry)(c6 c7:Cell)(ts:List Str)(ds:List (List Str)):Prop:=∃ i6 i7,Rep H true true 2 i6 c6 (trL 1 qbx ts)∧Rep H true true 3 i7 c7 (trL 1 (trLs 1 qbx) ds)∧qdn c6∧qdn c7∧i6.Nodup∧i7.Nodup∧∀ j∈i6,j∉i7
theorem Two.nil:Two [] (.lst true 1 []) (.lst true 1 []) [] []:=⟨[],[],.inl ⟨rfl,rfl,true,rfl⟩,.inl ⟨rfl,rfl,true,rfl⟩,qci _,qci _,by simp,by simp,by simp⟩
theorem qesc (H:List Entry)(row:List Cell):qah (H++[Entry.mk 1 [row] 0 false]) 1 (.vs H.length 1 0 1 0)=some [row]:=by simp[qah,rowsOf,entry?]
theorem qpq (H:List Entry)(e:List Str):qah H 1 (qax e)=some (e.map eStr):=by simp[qah,rowsOf,encL]
theorem Two.step {c6 c7:Cell}{ts:List Str}{ds:List (List Str)}(h:Two H c6 c7 ts ds)(t:Str)(e:List Str)(h1:ts.length < 1048576)(h2:ds.length < 1048576)(h3:e.length≤1048576):
  ∃ p q r,app (H++[Entry.mk 1 [[Cell.str (bs t)]] 0 false]) 1 16 c6 [[Cell.str (bs t)]]=some p∧app (p.2++[Entry.mk 1 [] 0 false]) 1 16 (.vs p.2.length 1 0 0 0) (e.map eStr)=some q∧
   app (q.2++[Entry.mk 1 [[q.1]] 0 false]) 1 24 c7 [[q.1]]=some r∧Two r.2 p.1 r.1 (ts++[t]) (ds++[e]):=by
 obtain⟨i6,i7,r6,r7,f6,f7,n6,n7,dj⟩:=h
 have q6:=r6.app [Entry.mk 1 [[Cell.str (bs t)]] 0 false]
 have q7:=r7.app [Entry.mk 1 [[Cell.str (bs t)]] 0 false]
 obtain⟨c6',H1,j6,a1,r6',f6',n6',g6,l6,k6,_⟩:=q6.append (by':=16) (ys:=[[Cell.str (bs t)]]) (tys:=[qbx t]) (js:=[]) f6 n6 (.cons (i:=[]) (is:=[]) (Sp.leaf1 _) .nil) (by simp) (by simp) (by simp) (by simp[bound];omega) (by simp[bound];omega)
 have q7':Rep H1 true true 3 i7 c7 (trL 1 (trLs 1 qbx) ds):=q7.frame fun j hj=>k6 j (q7.lt j hj) fun h=>dj j h hj
 have q6':=r6'.app [Entry.mk 1 [] 0 false]
 have q7'':=q7'.app [Entry.mk 1 [] 0 false]
 have rn:Rep (H1++[Entry.mk 1 [] 0 false]) true true 2 [H1.length] (.vs H1.length 1 0 0 0) (.list 1 []):=.inr ⟨H1.length,0,0,[],false,[],rfl,rfl,by simp,fun _=>rfl,fun _=>⟨rfl,rfl⟩,by simp,by simp,.nil⟩
 obtain⟨c8,H2,j8,a2,r8,f8,n8,g8,l8,k8,_⟩:=rn.append (by':=16) (ys:=e.map eStr) (tys:=e.map qbx) (js:=[]) (qcd _ _ _ _ _) (by simp)
  (by
   have:∀ (l:List Str) (G:List Entry),Sp (Sp (Rep G true true 1)) [] (l.map eStr) (l.map qbx):=by
    intro l G
    induction l with
    | nil=>exact .nil
    | cons x l ih=>exact .cons (i:=[]) (is:=[]) (Sp.leaf1 _) ih
   exact this e _) (by intro r hr;obtain⟨x,_,rfl⟩:=List.mem_map.1 hr;rfl) (by simp) (by simp) (by simp[bound];omega) (by simp[bound];omega)
 have d8:∀ j∈j8,H1.length≤j:=by
  intro j hj
  rcases g8 j hj with h | h | h
  ·simp at h;omega
  ·simp at h
  ·simp at h;omega
 have p6:Rep H2 true true 2 j6 c6' (.list 1 (ts.map qbx++[qbx t])):=q6'.frame fun j hj=>k8 j (q6'.lt j hj) fun h=>by have:=r6'.lt j hj;simp at h;omega
 have p7:Rep H2 true true 3 i7 c7 (trL 1 (trLs 1 qbx) ds):=q7''.frame fun j hj=>k8 j (q7''.lt j hj) fun h=>by have:=q7'.lt j hj;simp at h;omega
 have p6':=p6.app [Entry.mk 1 [[c8]] 0 false]
 have p7':=p7.app [Entry.mk 1 [[c8]] 0 false]
 have p8':=r8.app [Entry.mk 1 [[c8]] 0 false]
 obtain⟨c9,H3,j9,a3,r9,f9,n9,g9,l9,k9,_⟩:=p7'.append (by':=24) (ys:=[[c8]]) (tys:=[trLs 1 qbx e]) (js:=j8++[]) f7 n7 (by
   have:=Sp.cons (Sp.one1 p8') (Sp.nil (P:=Sp (Rep (H2++[Entry.mk 1 [[c8]] 0 false]) true true 2)))
   exact this) (by simp) (by simpa using n8) (by
   intro j hj h
   simp at h
   have:=d8 j h
   have:=q7'.lt j hj
   omega) (by simp[bound];omega) (by simp[bound];omega)
 have p6'':Rep H3 true true 2 j6 c6' (trL 1 qbx (ts++[t])):=by
  rw[trL,List.map_append]
  refine p6'.frame fun j hj=>k9 j (p6'.lt j hj) fun h=>?_
  rcases g6 j hj with h' | h' | h'
  ·exact dj j h' h
  ·simp at h'
  ·have:=r7.lt j h
   simp at h'
   omega
 have p7'':Rep H3 true true 3 j9 c9 (trL 1 (trLs 1 qbx) (ds++[e])):=by
  rw[trL,List.map_append]
  exact r9
 refine⟨(c6',H1),(c8,H2),(c9,H3),a1,a2,a3,j6,j9,p6'',p7'',f6',f9,n6',n9,?_⟩
 intro j hj h
 rcases g9 j h with h' | h' | h'
 ·rcases g6 j hj with h2 | h2 | h2
  ·exact dj j h2 h'
  ·simp at h2
  ·have:=r7.lt j h'
   simp at h2
   omega
 ·simp at h'
  have:=d8 j h'
  have:=r6'.lt j hj
  omega
 ·have:=r6'.lt j hj
  simp at h'
  simp at l8
  omega
theorem Two.read {c6 c7:Cell}{ts:List Str}{ds:List (List Str)}(h:Two H c6 c7 ts ds):mapO (qal false H) [.agg [c6,c7]]=some [.agg [qax ts,encL 1 qcz ds]]:=by
 obtain⟨i6,i7,r6,r7,_⟩:=h
 have:=qbb (qsy (Sp.cons (r6.more (m:=3) (by omega)) (Sp.cons r7 .nil)) (by omega)) (qas (qal false H))
 simpa only[List.map_cons,List.map_nil,qck] using this
theorem qsh {α β:Type}(xs:List α)(L:Nat→Int→β)(p:α→Bool)(fin F:β)(hs:∀ (n i:Nat) (x:α),xs[i]?=some x→i < xs.length→L (n+1) (i:Int)=cond (p x) (L n ((i+1:Nat):Int)) F)(he:∀ n,L (n+1) (xs.length:Int)=fin):
  ∀ n,xs.length < n→L n 0=cond (xs.all p) fin F:=by
 have key:∀ (r:List α) (i n:Nat),xs.drop i=r→i≤xs.length→r.length < n→L n (i:Int)=cond (r.all p) fin F:=by
  intro r
  induction r with
  | nil=>
   intro i n hd hi hn
   obtain⟨n,rfl⟩:∃ j,n=j+1:=⟨n - 1,by omega⟩
   have:=drop_nil hd
   obtain rfl:i=xs.length:=by omega
   exact he n
  | cons x r ih=>
   intro i n hd hi hn
   obtain⟨n,rfl⟩:∃ j,n=j+1:=⟨n - 1,by omega⟩
   obtain⟨hlt,hx,hd'⟩:=qaq hd
   simp only[List.length_cons] at hn
   rw[hs n i x hx hlt,ih (i+1) n hd' (by omega) (by omega),List.all_cons]
   cases p x<;>rfl
 intro n hn
 exact key xs 0 n rfl (Nat.zero_le _) hn
theorem qoz {β:Type}(N:Nat)(L:Nat→Int→β)(P:Nat→Bool)(fin F:β)(hs:∀ (n i:Nat),i < N→L (n+1) (i:Int)=cond (P i) (L n ((i+1:Nat):Int)) F)(he:∀ n,L (n+1) (N:Int)=fin):
  ∀ n,N < n→L n 0=cond ((List.range N).all P) fin F:=by
 have key:∀ (d i n:Nat),i+d=N→d < n→L n (i:Int)=cond ((List.range' i d).all P) fin F:=by
  intro d
  induction d with
  | zero=>
   intro i n hd hn
   obtain⟨n,rfl⟩:∃ j,n=j+1:=⟨n - 1,by omega⟩
   obtain rfl:i=N:=by omega
   exact he n
  | succ d ih=>
   intro i n hd hn
   obtain⟨n,rfl⟩:∃ j,n=j+1:=⟨n - 1,by omega⟩
   rw[hs n i (by omega),ih (i+1) n (by omega) (by omega),List.range'_succ,List.all_cons]
   cases P i<;>rfl
 intro n hn
 have:=key N 0 n (by omega) hn
 rw[← List.range_eq_range'] at this
 exact this
theorem qbid (a b:Bool)(H:List Entry):cond a (some ([AV.one (Cell.bool b)],H)) (some ([AV.one (Cell.bool false)],H))=some ([AV.one (Cell.bool (a&&b))],H):=by cases a<;>rfl
def RM (N:Nat)(H:List Entry)(i1 i2:List Nat)(cr cm:Cell)(row more:List Str):Prop:=Rep H true true 2 i1 cr (trL 1 qbx row)∧Rep H true true 2 i2 cm (trL 1 qbx more)∧qdn cr∧qdn cm∧i1.Nodup∧i2.Nodup∧(∀ j∈i1,j∉i2)∧(∀ j∈i1,N≤j)∧∀ j∈i2,N≤j
theorem RM.frame {N:Nat}{i1 i2:List Nat}{cr cm:Cell}{row more:List Str}(h:RM N H i1 i2 cr cm row more)(k:∀ j,j < H.length→H'[j]?=H[j]?):RM N H' i1 i2 cr cm row more:=by
 obtain⟨h1,h2,h3⟩:=h
 exact⟨h1.frame fun j hj=>k j (h1.lt j hj),h2.frame fun j hj=>k j (h2.lt j hj),h3⟩
theorem RM.swap {N:Nat}{i1 i2:List Nat}{cr cm:Cell}{row more:List Str}(h:RM N H i1 i2 cr cm row more):RM N H i2 i1 cm cr more row:=by
 obtain⟨r1,r2,f1,f2,n1,n2,dj,b1,b2⟩:=h
 exact⟨r2,r1,f2,f1,n2,n1,fun j hj h=>dj j h hj,b2,b1⟩
theorem qfwb (xs:List Str)(G:List Entry):Sp (Sp (Rep G true true 1)) [] (xs.map eStr) (xs.map qbx):=by
 induction xs with
 | nil=>exact .nil
 | cons x l ih=>exact .cons (i:=[]) (is:=[]) (Sp.leaf1 _) ih
theorem RM.app1 {N:Nat}{i1 i2:List Nat}{cr cm:Cell}{row more:List Str}(h:RM N H i1 i2 cr cm row more)(hN:N≤H.length)(ys:List Str)(l1:(row.length+ys.length)*16≤bound):
  ∃ p j1,app H 1 16 cr (ys.map eStr)=some p∧RM N p.2 j1 i2 p.1 cm (row++ys) more∧H.length≤p.2.length∧(∀ j,j < H.length→j∉i1→p.2[j]?=H[j]?)∧∀ j∈j1,j∈i1∨H.length≤j:=by
 obtain⟨r1,r2,f1,f2,n1,n2,dj,b1,b2⟩:=h
 obtain⟨c1,H1,j1,a1,r1',f1',n1',g1,m1,k1,_⟩:=r1.append (by':=16) (ys:=ys.map eStr) (tys:=ys.map qbx) (js:=[]) f1 n1 (qfwb ys H) (by intro r hr;obtain⟨x,_,rfl⟩:=List.mem_map.1 hr;rfl) (by simp) (by simp) (by simpa using l1) (by simp;omega)
 have r2':Rep H1 true true 2 i2 cm (trL 1 qbx more):=r2.frame fun j hj=>k1 j (r2.lt j hj) fun h=>dj j h hj
 have g1':∀ j∈j1,j∈i1∨H.length≤j:=fun j hj=>by
  rcases g1 j hj with h | h | h
  ·exact .inl h
  ·simp at h
  ·exact .inr (by omega)
 refine⟨(c1,H1),j1,a1,⟨?_,r2',f1',f2,n1',n2,?_,?_,b2⟩,m1,k1,g1'⟩
 ·rw[trL,List.map_append]
  exact r1'
 ·intro j hj h
  rcases g1' j hj with h2 | h2
  ·exact dj j h2 h
  ·have:=r2.lt j h;omega
 ·intro j hj
  rcases g1' j hj with h | h
  ·exact b1 j h
  ·omega
theorem RM.push {N:Nat}{i1 i2:List Nat}{cr cm:Cell}{row more:List Str}(h:RM N H i1 i2 cr cm row more)(hN:N≤H.length)(y:Str)(l1:row.length < 1073741824)(l2:more.length < 1073741824):
  ∃ p q j1 j2,app H 1 16 cr [[Cell.str (bs y)]]=some p∧app p.2 1 16 cm [[Cell.str (bs y)]]=some q∧RM N q.2 j1 j2 p.1 q.1 (row++[y]) (more++[y])∧H.length≤q.2.length∧
   (∀ j,j < H.length→j∉i1→j∉i2→q.2[j]?=H[j]?)∧(∀ j∈j1,j∈i1∨H.length≤j)∧∀ j∈j2,j∈i2∨H.length≤j:=by
 obtain⟨p,j1,a1,h1,m1,k1,g1⟩:=h.app1 hN [y] (by simp[bound];omega)
 obtain⟨q,j2,a2,h2,m2,k2,g2⟩:=h1.swap.app1 (by omega) [y] (by simp[bound];omega)
 exact⟨p,q,j1,j2,a1,a2,h2.swap,by omega,fun j hj n1 n2=>by rw[k2 j (by omega) n2,k1 j hj n1],g1,fun j hj=>(g2 j hj).imp id fun h=>by omega⟩
theorem qkic {ids:List Nat}{c:Cell}{xs:List Str}(h:Rep H true true 2 ids c (trL 1 qbx xs)):(xs=[]∧ids=[]∧∃ f,c=.lst f 1 [])∨∃ id ep,c=.vs id 1 0 xs.length ep∧ids=[id]∧H[id]?=some ⟨1,xs.map eStr,ep,false⟩:=by
 rcases h with⟨h1,h2,h3⟩ | ⟨id,off,ep,e,fr,is,rfl,rfl,he,hq,hwh,hl,hr,hs⟩
 ·exact .inl ⟨List.map_eq_nil_iff.1 h1,h2,h3⟩
 ·obtain⟨rfl,hle⟩:=hwh rfl
  obtain rfl:=hq rfl
  rw[List.drop_zero,hle,List.take_of_length_le (Nat.le_refl _)] at hs
  have key:∀ {is:List Nat} {e:List (List Cell)} {xs:List Str},Sp (Sp (Rep H true true 1)) is e (xs.map qbx)→(∀ r∈e,r.length=1)→e=xs.map eStr∧is=[]:=by
   intro is e xs
   induction xs generalizing is e with
   | nil=>intro h _;obtain⟨rfl,rfl⟩:=h.nil_inv;exact⟨rfl,rfl⟩
   | cons x xs ih=>
    intro h hl
    obtain⟨i,i',a,as',rfl,rfl,h1,h2⟩:=h.cons_inv
    obtain⟨h3,h4⟩:=ih h2 fun r hr=>hl r (List.mem_cons_of_mem _ hr)
    obtain⟨k,k',a0,r',rfl,rfl,h5,h6⟩:=h1.cons_inv
    obtain⟨rfl,rfl⟩:=h6.nil_inv
    obtain⟨rfl,rfl⟩:=h5
    subst h3 h4
    exact⟨rfl,rfl⟩
  obtain⟨h1,h2⟩:=key hs hr
  subst h1 h2
  exact .inr ⟨id,ep,by simp,rfl,he⟩
theorem RM.nil (N:Nat)(H:List Entry):RM N H [] [] (.lst true 1 []) (.lst true 1 []) [] []:=
 ⟨.inl ⟨rfl,rfl,true,rfl⟩,.inl ⟨rfl,rfl,true,rfl⟩,qci _,qci _,by simp,by simp,by simp,by simp,by simp⟩
theorem RM.anew {N:Nat}{i1 i2:List Nat}{cr cm:Cell}{row more:List Str}(h:RM N H i1 i2 cr cm row more):RM N H i1 [] cr (.lst true 1 []) row []:=by
 obtain⟨r1,r2,f1,f2,n1,n2,dj,b1,b2⟩:=h
 exact⟨r1,.inl ⟨rfl,rfl,true,rfl⟩,f1,qci _,n1,by simp,by simp,b1,by simp⟩
theorem RM.pop {N:Nat}{i1 i2:List Nat}{cr cm:Cell}{row more:List Str}{x:Str}(h:RM N H i1 i2 cr cm row (x::more))(hN:N≤H.length)(l1:more.length*16≤bound):
  ∃ a row' off c' p j2,idxA 1 cm 0=some a∧deref H a=some (row',off)∧cS row' off=some (bs x)∧slcC 1 cm 1 none none=some c'∧qah H 1 c'=some (more.map eStr)∧app H 1 16 (.lst true 1 []) (more.map eStr)=some p∧RM N p.2 i1 j2 cr p.1 row more∧H.length≤p.2.length∧lenC cm=some (more.length+1):=by
 have hh:=h
 obtain⟨r1,r2,f1,f2,n1,n2,dj,b1,b2⟩:=h
 obtain⟨p,j2,a2,h2,m2,k2,g2⟩:=hh.anew.swap.app1 hN more (by simpa using l1)
 rw[List.nil_append] at h2
 rcases qkic r2 with⟨h,_⟩ | ⟨id,ep,rfl,rfl,he⟩
 ·simp at h
 ·have ha:idxA 1 (.vs id 1 0 (x::more).length ep) 0=some (.ptr id 1 0 0 ep):=by
   simp only[idxA,if_true]
   rw[if_pos ⟨by omega,by simp⟩]
   rfl
  have hd:deref H (.ptr id 1 0 0 ep)=some (eStr x,0):=by simp[deref,entry?,he]
  have hs:∃ c',slcC 1 (.vs id 1 0 (x::more).length ep) 1 none none=some c'∧qah H 1 c'=some (more.map eStr):=by
   simp only[slcC,Option.getD_none,if_true,List.length_cons]
   rw[if_pos ⟨by omega,by omega,by omega,by omega⟩]
   by_cases hm:more=[]
   ·subst hm
    exact⟨.lst false 1 [],by simp,by simp[qah,rowsOf]⟩
   ·have hm':0 < more.length:=List.length_pos_iff.2 hm
    refine⟨.vs id 1 1 more.length ep,?_,by simp[qah,rowsOf,entry?,he,List.take_of_length_le];omega⟩
    rw[if_pos (.inr (by omega))]
    simp
  obtain⟨c',hs1,hs2⟩:=hs
  exact⟨.ptr id 1 0 0 ep,eStr x,0,c',p,j2,ha,hd,rfl,hs1,hs2,a2,h2.swap,m2,by simp⟩
inductive Reach (nx:Str→List Str)(a:Str):Str→Prop
 | one {b:Str} (h:b∈nx a):Reach nx a b
 | step {b c:Str} (h:Reach nx a b) (k:c∈nx b):Reach nx a c
structure Seen (nx:Str→List Str)(a:Str)(out left:List Str):Prop where
 nd:out.Nodup
 ro:∀ x∈out,Reach nx a x
 rl:∀ x∈left,Reach nx a x
 first:∀ x∈nx a,x∈out∨x∈left
 next:∀ x∈out,∀ y∈nx x,y∈out∨y∈left
theorem Seen.done {nx:Str→List Str}{a:Str}{out:List Str}(h:Seen nx a out []):∀ x,x∈out↔Reach nx a x:=by
 intro x
 refine⟨h.ro x,fun hx=>?_⟩
 induction hx with
 | one hb=>exact(h.first _ hb).resolve_right (by simp)
 | step _ k ih=>exact(h.next _ ih _ k).resolve_right (by simp)
theorem Seen.start (nx:Str→List Str)(a:Str):Seen nx a [] (nx a):=⟨by simp,by simp,fun x h=>.one h,fun x h=>.inr h,by simp⟩
theorem Seen.old {nx:Str→List Str}{a x:Str}{out left:List Str}(h:Seen nx a out (x::left))(hx:x∈out):Seen nx a out left:=by
 refine⟨h.nd,h.ro,fun y hy=>h.rl y (List.mem_cons_of_mem _ hy),fun y hy=>?_,fun y hy z hz=>?_⟩
 ·rcases h.first y hy with h1 | h1
  ·exact .inl h1
  ·rcases List.mem_cons.1 h1 with rfl | h1
   ·exact .inl hx
   ·exact .inr h1
 ·rcases h.next y hy z hz with h1 | h1
  ·exact .inl h1
  ·rcases List.mem_cons.1 h1 with rfl | h1
   ·exact .inl hx
   ·exact .inr h1
theorem Seen.new {nx:Str→List Str}{a x:Str}{out left:List Str}(h:Seen nx a out (x::left))(hx:x∉out):Seen nx a (out++[x]) (left++nx x):=by
 have hr:=h.rl x List.mem_cons_self
 refine⟨List.nodup_append.2 ⟨h.nd,by simp,fun u hu v hv e=>?_⟩,fun y hy=>?_,fun y hy=>?_,fun y hy=>?_,fun y hy z hz=>?_⟩
 ·simp only[List.mem_singleton] at hv
  subst hv e
  exact hx hu
 ·rcases List.mem_append.1 hy with hy | hy
  ·exact h.ro y hy
  ·simp only[List.mem_singleton] at hy
   subst hy
   exact hr
 ·rcases List.mem_append.1 hy with hy | hy
  ·exact h.rl y (List.mem_cons_of_mem _ hy)
  ·exact .step hr hy
 ·rcases h.first y hy with h1 | h1
  ·exact .inl (List.mem_append_left _ h1)
  ·rcases List.mem_cons.1 h1 with rfl | h1
   ·exact .inl (by simp)
   ·exact .inr (List.mem_append_left _ h1)
 ·rcases List.mem_append.1 hy with hy | hy
  ·rcases h.next y hy z hz with h1 | h1
   ·exact .inl (List.mem_append_left _ h1)
   ·rcases List.mem_cons.1 h1 with rfl | h1
    ·exact .inl (by simp)
    ·exact .inr (List.mem_append_left _ h1)
  ·simp only[List.mem_singleton] at hy
   subst hy
   exact .inr (List.mem_append_right _ hz)
theorem qcy {α:Type}:∀ {l U:List α},l.Nodup→(∀ x∈l,x∈U)→l.length≤U.length:=by
 intro l
 induction l with
 | nil=>intro U _ _;simp
 | cons x l ih=>
  intro U hn hU
  obtain⟨h1,h2⟩:=List.nodup_cons.1 hn
  obtain⟨A,B,rfl⟩:=List.append_of_mem (hU x List.mem_cons_self)
  have:=ih (U:=A++B) h2 fun y hy=>by
   have:=hU y (List.mem_cons_of_mem _ hy)
   simp only[List.mem_append,List.mem_cons] at this ⊢
   rcases this with h | rfl | h
   ·exact .inl h
   ·exact absurd hy h1
   ·exact .inr h
  simp at this ⊢
  omega
def qdp (row:List Str):List Str→List Str | []=>[] | y::ys=>cond (row.contains y) (qdp row ys) (y::qdp (row++[y]) ys)
theorem qjxb:∀ (ys row:List Str),row.Nodup→(row++qdp row ys).Nodup∧∀ x,x∈row++qdp row ys↔x∈row∨x∈ys:=by
 intro ys
 induction ys with
 | nil=>intro row h;simp[qdp,h]
 | cons y ys ih=>
  intro row h
  unfold qdp
  cases hc:row.contains y with
  | true=>
   have hy:y∈row:=by simpa using hc
   obtain⟨h1,h2⟩:=ih row h
   refine⟨h1,fun x=>?_⟩
   rw[cond_true,h2 x,List.mem_cons]
   constructor
   ·rintro (h | h)
    ·exact .inl h
    ·exact .inr (.inr h)
   ·rintro (h | rfl | h)
    ·exact .inl h
    ·exact .inl hy
    ·exact .inr h
  | false=>
   have hy:y∉row:=by simpa using hc
   have hn:(row++[y]).Nodup:=List.nodup_append.2 ⟨h,by simp,fun u hu v hv e=>by
    simp only[List.mem_singleton] at hv
    subst hv e
    exact hy hu⟩
   obtain⟨h1,h2⟩:=ih (row++[y]) hn
   rw[cond_false,List.append_cons]
   refine⟨h1,fun x=>?_⟩
   rw[h2 x]
   simp only[List.mem_append,List.mem_cons,List.not_mem_nil,or_false]
   constructor
   ·rintro ((h | h) | h)
    ·exact .inl h
    ·exact .inr (.inl h)
    ·exact .inr (.inr h)
   ·rintro (h | h | h)
    ·exact .inl (.inl h)
    ·exact .inl (.inr h)
    ·exact .inr h
structure Found (nx:Str→List Str)(a:Str)(row pend:List Str):Prop where
 nd:row.Nodup
 ro:∀ x∈row,Reach nx a x
 pr:∀ x∈pend,x=a∨x∈row
 cl:∀ x,x=a∨x∈row→x∈pend∨∀ y∈nx x,y∈row
theorem Found.start (nx:Str→List Str)(a:Str):Found nx a [] [a]:=⟨by simp,by simp,fun x h=>.inl (by simpa using h),fun x h=>.inl (by simpa using h)⟩
theorem Found.done {nx:Str→List Str}{a:Str}{row:List Str}(h:Found nx a row []):∀ x,x∈row↔Reach nx a x:=by
 have hc:∀ x,x=a∨x∈row→∀ y∈nx x,y∈row:=fun x hx=>(h.cl x hx).resolve_left (by simp)
 intro x
 refine⟨h.ro x,fun hx=>?_⟩
 induction hx with
 | one hb=>exact hc a (.inl rfl) _ hb
 | step _ k ih=>exact hc _ (.inr ih) _ k
theorem Found.next {nx:Str→List Str}{a x:Str}{row pend:List Str}(h:Found nx a row (x::pend)):Found nx a (row++qdp row (nx x)) (pend++qdp row (nx x)):=by
 obtain⟨h1,h2⟩:=qjxb (nx x) row h.nd
 have hf:∀ y,y∈qdp row (nx x)→y∈nx x∨y∈row:=fun y hy=>((h2 y).1 (List.mem_append_right _ hy)).symm
 refine⟨h1,fun y hy=>?_,fun y hy=>?_,fun y hy=>?_⟩
 ·rcases (h2 y).1 hy with hy | hy
  ·exact h.ro y hy
  ·rcases h.pr x List.mem_cons_self with rfl | hx
   ·exact .one hy
   ·exact .step (h.ro x hx) hy
 ·rcases List.mem_append.1 hy with hy | hy
  ·exact(h.pr y (List.mem_cons_of_mem _ hy)).imp id fun h=>List.mem_append_left _ h
  ·exact .inr (List.mem_append_right _ hy)
 ·have hold:y=a∨y∈row→y∈pend++qdp row (nx x)∨∀ z∈nx y,z∈row++qdp row (nx x):=fun hy=>by
   rcases h.cl y hy with hy | hy
   ·rcases List.mem_cons.1 hy with rfl | hy
    ·exact .inr fun z hz=>(h2 z).2 (.inr hz)
    ·exact .inl (List.mem_append_left _ hy)
   ·exact .inr fun z hz=>List.mem_append_left _ (hy z hz)
  rcases hy with hy | hy
  ·exact hold (.inl hy)
  ·rcases List.mem_append.1 hy with hy | hy
   ·exact hold (.inr hy)
   ·exact .inl (List.mem_append_right _ hy)
theorem qjn {α:Type}{sz:Nat}{e:α→List Cell}[CanonE e]{chk:Bool}{id ep:Nat}{fr:Bool}{xs:List α}(n:Nat)(h:H[id]?=some ⟨sz,xs.map e,ep,fr⟩)(hc:chk=true→fr=true):reify chk H (n+1) (.vs id sz 0 xs.length ep)=some (encL sz e xs):=by
 have key:∀ ys:List α,mapO (mapO (reify chk H n)) (ys.map e)=some (ys.map e):=by
  intro ys
  induction ys with
  | nil=>rfl
  | cons y ys ih=>simp only[List.map_cons,mapO,qmz (CanonE.canon y),ih]
 simp only[reify,entry?,h,if_true]
 rw[if_pos ⟨hc,by simp⟩]
 simp only[List.drop_zero]
 rw[List.take_of_length_le (by simp),key]
 rfl
theorem qzc {α β:Type}{f:β→α→β}{b:β}{xs:List α}(h:∀ x∈xs,f b x=b):xs.foldl f b=b:=by
 induction xs with
 | nil=>rfl
 | cons x xs ih=>
  rw[List.foldl_cons,h x List.mem_cons_self]
  exact ih fun y hy=>h y (List.mem_cons_of_mem _ hy)
theorem qabb {n id s off len ep sz ep':Nat}{rows:List (List Cell)}{fr:Bool}(h:H[id]?=some ⟨sz,rows,ep',fr⟩)(hf:∀ G,rows.foldl (fun H row=>row.foldl (qep n) H) G=G):qep (n+1) H (.vs id s off len ep)=H.set id ⟨sz,rows,ep',true⟩:=by
 rw[qep,h]
 exact hf _
def qspb (ns:List Str)(us:List (List Str))(c6 c7:Cell)(H:List Entry):Prop:=(ns=[]∧us=[]∧c6=.lst true 1 []∧c7=.lst true 1 []∧H=[])∨∃ e1 e2,c6=.vs 0 1 0 ns.length e1∧c7=.vs 1 1 0 us.length e2∧H=[Entry.mk 1 (ns.map eStr) e1 false,Entry.mk 1 (us.map qcz) e2 false]
theorem qspb.step {ns:List Str}{us:List (List Str)}{c6 c7:Cell}{H:List Entry}(h:qspb ns us c6 c7 H)(t:Str)(e:List Str)(h1:ns.length≤1048576)(h2:us.length≤1048576):
  ∃ p q,app H 1 16 c6 [[Cell.str (bs t)]]=some p∧app p.2 1 24 c7 [[qax e]]=some q∧qspb (ns++[t]) (us++[e]) p.1 q.1 q.2:=by
 rcases h with⟨rfl,rfl,rfl,rfl,rfl⟩ | ⟨e1,e2,rfl,rfl,rfl⟩
 ·exact⟨(.vs 0 1 0 1 0,_),(.vs 1 1 0 1 0,_),rfl,rfl,.inr ⟨0,0,rfl,rfl,rfl⟩⟩
 ·refine⟨(.vs 0 1 0 (ns.length+1) (e1+1),[Entry.mk 1 (ns.map eStr++[eStr t]) (e1+1) false,Entry.mk 1 (us.map qcz) e2 false]),(.vs 1 1 0 (us.length+1) (e2+1),[Entry.mk 1 (ns.map eStr++[eStr t]) (e1+1) false,Entry.mk 1 (us.map qcz++[qcz e]) (e2+1) false]),?_,?_,.inr ⟨e1+1,e2+1,by simp,by simp,by simp⟩⟩
  ·simp only[app,entry?,List.getElem?_cons_zero,if_true,List.length_map,Nat.zero_add,List.length_singleton]
   rw[if_pos ⟨trivial,Nat.le_refl _,.inl trivial,by unfold bound;omega,by unfold bound;omega⟩]
   simp[eStr,List.take_of_length_le]
  ·simp only[app,entry?,List.getElem?_cons_succ,List.getElem?_cons_zero,if_true,List.length_map,Nat.zero_add,List.length_singleton]
   rw[if_pos ⟨trivial,Nat.le_refl _,.inl trivial,by unfold bound;omega,by unfold bound;omega⟩]
   simp[qcz,List.take_of_length_le]
theorem qspb.read {ns:List Str}{us:List (List Str)}{c6 c7:Cell}{H:List Entry}(h:qspb ns us c6 c7 H):qal false H (.agg [c6,c7])=some (.agg [qax ns,encL 1 qcz us]):=by
 rcases h with⟨rfl,rfl,rfl,rfl,rfl⟩ | ⟨e1,e2,rfl,rfl,rfl⟩
 ·rfl
 ·have q1:=qjn (chk:=false) (H:=[Entry.mk 1 (ns.map eStr) e1 false,Entry.mk 1 (us.map qcz) e2 false]) (id:=0) 4194303 rfl (by simp)
  have q2:=qjn (chk:=false) (H:=[Entry.mk 1 (ns.map eStr) e1 false,Entry.mk 1 (us.map qcz) e2 false]) (id:=1) 4194303 rfl (by simp)
  simp only[qal,depth,mapO,q1,q2,Option.map_some]
theorem qspb.callL {run:Run}{ns:List Str}{us:List (List Str)}{c6 c7:Cell}{H:List Entry}(h:qspb ns us c6 c7 H)(v:Value):∃ H1,Ev.callL run [.agg [c6,c7],.one (.sc v)] H=(outL run [.agg [qax ns,encL 1 qcz us],.one (.sc v)]).map fun ys=>(ys,H1):=by
 rcases h with⟨rfl,rfl,rfl,rfl,rfl⟩ | ⟨e1,e2,rfl,rfl,rfl⟩
 ·refine⟨[],?_⟩
  rw[qkg]
  rfl
 ·refine⟨[Entry.mk 1 (ns.map eStr) e1 true,Entry.mk 1 (us.map qcz) e2 true],?_⟩
  have f1:∀ (n:Nat) (G:List Entry),(ns.map eStr).foldl (fun H row=>row.foldl (qep n) H) G=G:=fun n G=>qzc fun r hr=>by
   obtain⟨x,_,rfl⟩:=List.mem_map.1 hr
   cases n<;>rfl
  have f2:∀ (n:Nat) (G:List Entry),(us.map qcz).foldl (fun H row=>row.foldl (qep n) H) G=G:=fun n G=>qzc fun r hr=>by
   obtain⟨x,_,rfl⟩:=List.mem_map.1 hr
   cases n<;>rfl
  have hz:[AV.agg [.vs 0 1 0 ns.length e1,.vs 1 1 0 us.length e2],AV.one (.sc v)].foldl qdf [Entry.mk 1 (ns.map eStr) e1 false,Entry.mk 1 (us.map qcz) e2 false]=[Entry.mk 1 (ns.map eStr) e1 true,Entry.mk 1 (us.map qcz) e2 true]:=by
   have z1:qep depth [Entry.mk 1 (ns.map eStr) e1 false,Entry.mk 1 (us.map qcz) e2 false] (.vs 0 1 0 ns.length e1)=[Entry.mk 1 (ns.map eStr) e1 true,Entry.mk 1 (us.map qcz) e2 false]:=qabb (n:=4194303) rfl (f1 4194303)
   have z2:qep depth [Entry.mk 1 (ns.map eStr) e1 true,Entry.mk 1 (us.map qcz) e2 false] (.vs 1 1 0 us.length e2)=[Entry.mk 1 (ns.map eStr) e1 true,Entry.mk 1 (us.map qcz) e2 true]:=qabb (n:=4194303) rfl (f2 4194303)
   simp only[List.foldl_cons,List.foldl_nil,qdf,AV.cells,z1,z2]
   rfl
  have q1:=qjn (chk:=true) (H:=[Entry.mk 1 (ns.map eStr) e1 true,Entry.mk 1 (us.map qcz) e2 true]) (id:=0) 4194303 rfl (by simp)
  have q2:=qjn (chk:=true) (H:=[Entry.mk 1 (ns.map eStr) e1 true,Entry.mk 1 (us.map qcz) e2 true]) (id:=1) 4194303 rfl (by simp)
  have q3:=qam (.one (.sc v)) true [Entry.mk 1 (ns.map eStr) e1 true,Entry.mk 1 (us.map qcz) e2 true]
  have q4:qal true [Entry.mk 1 (ns.map eStr) e1 true,Entry.mk 1 (us.map qcz) e2 true] (.agg [.vs 0 1 0 ns.length e1,.vs 1 1 0 us.length e2])=some (.agg [qax ns,encL 1 qcz us]):=by
   simp only[qal,depth,mapO,q1,q2,Option.map_some]
  rw[qkg,hz,qbb q4 (qbb q3 (qas _))]
  rfl
end Go.Ev
