/- Values that lie in the owned heap: which entries they take, that they read as lists, and what leaves them as they are. No program occurs here; no conditions. -/
import Derived.Test.YteofbfalngmmeaaGreatDoorEvLib
set_option linter.unusedVariables false
set_option linter.unusedSimpArgs false
namespace Go.Ev
open Go
inductive Tr where
 | leaf (v:Value)
 | list (sz:Nat) (rows:List (List Tr))
mutual
def Tr.cell:Tr→Cell
 | .leaf v=>.sc v
 | .list sz rows=>.lst false sz (Tr.rowsC rows)
def Tr.rowsC:List (List Tr)→List (List Cell)
 | []=>[]
 | r::rs=>Tr.rowC r::Tr.rowsC rs
def Tr.rowC:List Tr→List Cell
 | []=>[]
 | t::ts=>t.cell::Tr.rowC ts
end
theorem Tr.rowC_eq (ts:List Tr):Tr.rowC ts=ts.map Tr.cell:=by
 induction ts with
 | nil=>simp[Tr.rowC]
 | cons t ts ih=>simp[Tr.rowC,ih]
theorem Tr.rowsC_eq (rs:List (List Tr)):Tr.rowsC rs=rs.map (·.map Tr.cell):=by
 induction rs with
 | nil=>simp[Tr.rowsC]
 | cons r rs ih=>simp[Tr.rowsC,ih,Tr.rowC_eq]
inductive Sp {α β:Type}(P:List Nat→α→β→Prop):List Nat→List α→List β→Prop
 | nil:Sp P [] [] []
 | cons {i is:List Nat} {a:α} {as:List α} {b:β} {bs:List β} (h:P i a b) (t:Sp P is as bs):Sp P (i++is) (a::as) (b::bs)
section
variable {α β:Type} {P Q:List Nat→α→β→Prop}
theorem Sp.mono {is:List Nat}{as:List α}{bs:List β}(h:Sp P is as bs)(k:∀ i a b,(∀ j∈i,j∈is)→P i a b→Q i a b):Sp Q is as bs:=by
 induction h with
 | nil=>exact .nil
 | cons h t ih=>exact .cons (k _ _ _ (fun j hj=>List.mem_append_left _ hj) h) (ih fun i a b hi=>k i a b fun j hj=>List.mem_append_right _ (hi j hj))
theorem Sp.length {is:List Nat}{as:List α}{bs:List β}(h:Sp P is as bs):as.length=bs.length:=by
 induction h with
 | nil=>rfl
 | cons h t ih=>simp[ih]
theorem Sp.map {α':Type}{Q':List Nat→α'→β→Prop}(f:α→α')(g:Nat→Nat){is:List Nat}{as:List α}{bs:List β}(h:Sp P is as bs)(k:∀ i a b,P i a b→Q' (i.map g) (f a) b):Sp Q' (is.map g) (as.map f) bs:=by
 induction h with
 | nil=>exact .nil
 | cons h t ih=>rw[List.map_append];exact .cons (k _ _ _ h) ih
theorem Sp.at {is:List Nat}{as:List α}{bs:List β}(h:Sp P is as bs):∀ {n:Nat} {b:β},bs[n]?=some b→∃ i1 i i2 a,is=i1++(i++i2)∧as[n]?=some a∧P i a b∧Sp P i1 (as.take n) (bs.take n)∧Sp P i2 (as.drop (n+1)) (bs.drop (n+1)):=by
 induction h with
 | nil=>intro n b h;simp at h
 | cons h t ih=>
  intro n b hb
  cases n with
  | zero=>
   simp at hb
   subst hb
   exact⟨[],_,_,_,rfl,rfl,h,.nil,by simpa using t⟩
  | succ n=>
   obtain⟨i1,i,i2,a,h1,h2,h3,h4,h5⟩:=ih (by simpa using hb)
   exact⟨_++i1,i,i2,a,by rw[h1,List.append_assoc],by simpa using h2,h3,by simpa using Sp.cons h h4,by simpa using h5⟩
theorem Sp.append {is js:List Nat}{as cs:List α}{bs ds:List β}(h:Sp P is as bs)(k:Sp P js cs ds):Sp P (is++js) (as++cs) (bs++ds):=by
 induction h with
 | nil=>exact k
 | cons h t ih=>rw[List.append_assoc];exact .cons h ih
theorem Sp.split:∀ {is:List Nat} {as cs:List α} {ds:List β},Sp P is (as++cs) ds→∃ i1 i2 b1 b2,is=i1++i2∧ds=b1++b2∧Sp P i1 as b1∧Sp P i2 cs b2:=by
 intro is as
 induction as generalizing is with
 | nil=>intro cs ds h;exact⟨[],is,[],ds,rfl,rfl,.nil,h⟩
 | cons a as ih=>
  intro cs ds h
  cases h with
  | cons h t=>
   obtain⟨i1,i2,b1,b2,rfl,rfl,h1,h2⟩:=ih t
   exact⟨_++i1,i2,_::b1,b2,by rw[List.append_assoc],rfl,.cons h h1,h2⟩
end
def Rep (H:List Entry)(w q:Bool):Nat→List Nat→Cell→Tr→Prop
 | 0,_,_,_=>False
 | n+1,ids,c,t=>
  match t with
  | .leaf v=>ids=[]∧c=.sc v
  | .list sz trs=>(trs=[]∧ids=[]∧∃ f,c=.lst f sz [])∨
   ∃ id off ep e fr is,c=.vs id sz off trs.length ep∧ids=id::is∧H[id]?=some ⟨sz,e,ep,fr⟩∧(q=true→fr=false)∧(w=true→off=0∧trs.length=e.length)∧off+trs.length≤e.length∧(∀ r∈e,r.length=sz)∧
    Sp (Sp (Rep H w q n)) is ((e.drop off).take trs.length) trs
variable {H H':List Entry} {w q:Bool}
theorem Rep.mono {H':List Entry}{w' q':Bool}:∀ {n:Nat} {ids:List Nat} {c:Cell} {t:Tr},Rep H w q n ids c t→(w'=true→w=true)→
  (∀ j∈ids,∀ e,H[j]?=some e→∃ fr,H'[j]?=some ⟨e.sz,e.rows,e.ep,fr⟩∧(q'=true→(q=true→e.fr=false)→fr=false))→Rep H' w' q' n ids c t:=by
 intro n
 induction n with
 | zero=>intro ids c t h;exact h.elim
 | succ n ih=>
  intro ids c t h hw hj
  cases t with
  | leaf v=>exact h
  | list sz trs=>
   rcases h with h | ⟨id,off,ep,e,fr,is,rfl,rfl,he,hq,hwh,hl,hr,hs⟩
   ·exact .inl h
   ·obtain⟨fr',h1,h2⟩:=hj id (by simp) _ he
    refine .inr ⟨id,off,ep,e,fr',is,rfl,rfl,h1,fun hh=>h2 hh hq,fun hh=>hwh (hw hh),hl,hr,?_⟩
    exact hs.mono fun i a b hi h=>h.mono fun i' a' b' hi' h'=>ih h' hw fun j hj'=>hj j (List.mem_cons_of_mem _ (hi j (hi' j hj')))
theorem Sp.ids {α β:Type}{P:List Nat→α→β→Prop}{p:Nat→Prop}{is:List Nat}{as:List α}{bs:List β}(h:Sp P is as bs)(k:∀ i a b,P i a b→∀ j∈i,p j):∀ j∈is,p j:=by
 induction h with
 | nil=>simp
 | cons h t ih=>
  intro j hj
  rcases List.mem_append.1 hj with hj | hj
  ·exact k _ _ _ h j hj
  ·exact ih j hj
theorem Rep.lt:∀ {n:Nat} {ids:List Nat} {c:Cell} {t:Tr},Rep H w q n ids c t→∀ j∈ids,j < H.length:=by
 intro n
 induction n with
 | zero=>intro ids c t h;exact h.elim
 | succ n ih=>
  intro ids c t h j hj
  cases t with
  | leaf v=>obtain⟨rfl,_⟩:=h;simp at hj
  | list sz trs=>
   rcases h with⟨_,rfl,_⟩ | ⟨id,off,ep,e,fr,is,rfl,rfl,he,hq,hwh,hl,hr,hs⟩
   ·simp at hj
   ·rcases List.mem_cons.1 hj with rfl | hj
    ·exact(List.getElem?_eq_some_iff.1 he).1
    ·exact hs.ids (fun i a b h=>h.ids fun i' a' b' h'=>ih h') j hj
theorem Rep.frame {n:Nat}{ids:List Nat}{c:Cell}{t:Tr}(h:Rep H w q n ids c t)(hj:∀ j∈ids,H'[j]?=H[j]?):Rep H' w q n ids c t:=
 h.mono (fun h=>h) fun j hj' e he=>⟨e.fr,by rw[hj j hj',he],fun a b=>b a⟩
theorem Rep.app (E:List Entry){n:Nat}{ids:List Nat}{c:Cell}{t:Tr}(h:Rep H w q n ids c t):Rep (H++E) w q n ids c t:=
 h.frame fun j hj=>by rw[List.getElem?_append_left (h.lt j hj)]
theorem Rep.weak {w' q':Bool}{n:Nat}{ids:List Nat}{c:Cell}{t:Tr}(h:Rep H w q n ids c t)(hw:w'=true→w=true)(hq:q'=true→q=true):Rep H w' q' n ids c t:=
 h.mono hw fun j hj e he=>⟨e.fr,he,fun a b=>b (hq a)⟩
theorem Rep.more:∀ {n m:Nat} {ids:List Nat} {c:Cell} {t:Tr},Rep H w q n ids c t→n≤m→Rep H w q m ids c t:=by
 intro n
 induction n with
 | zero=>intro m ids c t h;exact h.elim
 | succ n ih=>
  intro m ids c t h hm
  obtain⟨m,rfl⟩:∃ j,m=j+1:=⟨m - 1,by omega⟩
  cases t with
  | leaf v=>exact h
  | list sz trs=>
   rcases h with h | ⟨id,off,ep,e,fr,is,h1,h2,he,hq,hwh,hl,hr,hs⟩
   ·exact .inl h
   ·exact .inr ⟨id,off,ep,e,fr,is,h1,h2,he,hq,hwh,hl,hr,hs.mono fun i a b hi h=>h.mono fun i' a' b' hi' h'=>ih h' (by omega)⟩
theorem Rep.noMem {n:Nat}{ids:List Nat}{c:Cell}{t:Tr}(h:Rep H w q n ids c t):noMem c=true:=by
 cases n with
 | zero=>exact h.elim
 | succ n=>
  cases t with
  | leaf v=>obtain⟨_,rfl⟩:=h;rfl
  | list sz trs=>
   rcases h with⟨_,_,f,rfl⟩ | ⟨id,off,ep,e,fr,is,rfl,_⟩
   ·rfl
   ·rfl
theorem Rep.shift {E:List Entry}(A:List Entry):∀ {n:Nat} {ids:List Nat} {c:Cell} {t:Tr},Rep E w q n ids c t→Rep (A++E.map (qim A.length)) w q n (ids.map (·+A.length)) (qhr A.length 1 c) t:=by
 intro n
 induction n with
 | zero=>intro ids c t h;exact h.elim
 | succ n ih=>
  intro ids c t h
  cases t with
  | leaf v=>obtain⟨rfl,rfl⟩:=h;exact⟨rfl,rfl⟩
  | list sz trs=>
   rcases h with⟨h1,rfl,f,rfl⟩ | ⟨id,off,ep,e,fr,is,rfl,rfl,he,hq,hwh,hl,hr,hs⟩
   ·exact .inl ⟨h1,rfl,f,rfl⟩
   ·refine .inr ⟨id+A.length,off,ep,e.map (·.map (qhr A.length 1)),fr,is.map (·+A.length),rfl,rfl,?_,hq,by simpa using hwh,by simpa using hl,?_,?_⟩
    ·rw[List.getElem?_append_right (by omega),Nat.add_sub_cancel,List.getElem?_map,he]
     rfl
    ·intro r hr'
     obtain⟨r0,h0,rfl⟩:=List.mem_map.1 hr'
     simpa using hr r0 h0
    ·have:((e.map (·.map (qhr A.length 1))).drop off).take trs.length=((e.drop off).take trs.length).map (·.map (qhr A.length 1)):=by rw[List.map_take,List.map_drop]
     rw[this]
     exact hs.map _ _ fun i a b h=>h.map _ _ fun i' a' b' h'=>ih h'
theorem qsz {α β:Type}{f:α→Option β}{xs:List α}{ys:List β}(h:All2 (fun x y=>f x=some y) xs ys):mapO f xs=some ys:=by
 induction h with
 | nil=>rfl
 | cons h _ ih=>simp only[mapO,h,ih]
theorem Sp.all2 {α β γ:Type}{P:List Nat→α→β→Prop}{r:α→γ→Prop}{f:β→γ}{is:List Nat}{as:List α}{bs:List β}(h:Sp P is as bs)(k:∀ i a b,(∀ j∈i,j∈is)→P i a b→r a (f b)):All2 r as (bs.map f):=by
 induction h with
 | nil=>exact .nil
 | cons h t ih=>exact .cons (k _ _ _ (fun j hj=>List.mem_append_left _ hj) h) (ih fun i a b hi=>k i a b fun j hj=>List.mem_append_right _ (hi j hj))
theorem Rep.reify {chk:Bool}:∀ {n:Nat} {ids:List Nat} {c:Cell} {t:Tr} (m:Nat),Rep H w q n ids c t→n≤m→(chk=true→∀ j∈ids,∀ e,H[j]?=some e→e.fr=true)→reify chk H m c=some t.cell:=by
 intro n
 induction n with
 | zero=>intro ids c t m h;exact h.elim
 | succ n ih=>
  intro ids c t m h hm hf
  obtain⟨m,rfl⟩:∃ j,m=j+1:=⟨m - 1,by omega⟩
  cases t with
  | leaf v=>
   obtain⟨_,rfl⟩:=h
   rw[Tr.cell]
   simp[Ev.reify,qeuc,qfkb,norm]
  | list sz trs=>
   rcases h with⟨rfl,_,f,rfl⟩ | ⟨id,off,ep,e,fr,is,rfl,rfl,he,hq,hwh,hl,hr,hs⟩
   ·simp[Tr.cell,Tr.rowsC,Ev.reify,qeuc,qfkb,norm,normRows]
   ·have h1:mapO (mapO (Ev.reify chk H m)) ((e.drop off).take trs.length)=some (trs.map (·.map Tr.cell)):=
     qsz (hs.all2 fun i a b hi h=>qsz (h.all2 fun i' a' b' hi' h'=>ih m h' (by omega) fun hc j hj=>hf hc j (List.mem_cons_of_mem _ (hi j (hi' j hj)))))
    simp only[Ev.reify,entry?,he,if_true]
    rw[if_pos ⟨fun h=>hf h id (by simp) _ he,hl⟩,h1,Tr.cell,Tr.rowsC_eq]
    rfl
structure Fz (ids:List Nat)(H H1:List Entry):Prop where
 len:H1.length=H.length
 other:∀ j,j∉ids→H1[j]?=H[j]?
 ent:∀ j e,H[j]?=some e→∃ fr,H1[j]?=some ⟨e.sz,e.rows,e.ep,fr⟩∧(e.fr=true→fr=true)∧(j∈ids→fr=true)
theorem Fz.refl (H:List Entry):Fz [] H H:=⟨rfl,fun _ _=>rfl,fun j e h=>⟨e.fr,h,fun h=>h,fun h=>by simp at h⟩⟩
theorem Fz.trans {i1 i2:List Nat}{A B C:List Entry}(h:Fz i1 A B)(k:Fz i2 B C):Fz (i1++i2) A C:=by
 refine⟨k.len.trans h.len,fun j hj=>?_,fun j e he=>?_⟩
 ·rw[List.mem_append,not_or] at hj
  rw[k.other j hj.2,h.other j hj.1]
 ·obtain⟨f1,h1,h2,h3⟩:=h.ent j e he
  obtain⟨f2,k1,k2,k3⟩:=k.ent j _ h1
  refine⟨f2,k1,fun hh=>k2 (h2 hh),fun hh=>?_⟩
  rcases List.mem_append.1 hh with hh | hh
  ·exact k2 (h3 hh)
  ·exact k3 hh
theorem Fz.rep {i:List Nat}{H1:List Entry}(h:Fz i H H1){n:Nat}{ids:List Nat}{c:Cell}{t:Tr}(hr:Rep H w q n ids c t):Rep H1 w false n ids c t:=
 hr.mono (fun h=>h) fun j _ e he=>by
  obtain⟨fr,h1,_⟩:=h.ent j e he
  exact⟨fr,h1,fun h=>by simp at h⟩
theorem Sp.fz {α β:Type}{P:List Entry→List Nat→α→β→Prop}{f:List Entry→α→List Entry}(hf:∀ H i a b,P H i a b→Fz i H (f H a))(hp:∀ H H1 j i a b,Fz j H H1→P H i a b→P H1 i a b):
  ∀ {is:List Nat} {as:List α} {bs:List β} (H:List Entry),Sp (P H) is as bs→Fz is H (as.foldl f H):=by
 intro is as
 induction as generalizing is with
 | nil=>intro bs H h;cases h;exact .refl H
 | cons a as ih=>
  intro bs H h
  cases h with
  | cons h t=>
   have h1:=hf H _ _ _ h
   exact h1.trans (ih _ (t.mono fun i a b _ hh=>hp _ _ _ _ _ _ h1 hh))
theorem Rep.freeze:∀ {n:Nat} {H:List Entry} {ids:List Nat} {c:Cell} {t:Tr} (m:Nat),Rep H true false n ids c t→n≤m→Fz ids H (qep m H c):=by
 intro n
 induction n with
 | zero=>intro H ids c t m h;exact h.elim
 | succ n ih=>
  intro H ids c t m h hm
  obtain⟨m,rfl⟩:∃ j,m=j+1:=⟨m - 1,by omega⟩
  cases t with
  | leaf v=>obtain⟨rfl,rfl⟩:=h;exact .refl H
  | list sz trs=>
   rcases h with⟨rfl,rfl,f,rfl⟩ | ⟨id,off,ep,e,fr,is,rfl,rfl,he,hq,hwh,hl,hr,hs⟩
   ·exact .refl H
   ·obtain⟨rfl,hlen⟩:=hwh rfl
    rw[hlen,List.drop_zero,List.take_length] at hs
    have hid:id < H.length:=(List.getElem?_eq_some_iff.1 he).1
    have h0:Fz [id] H (H.set id ⟨sz,e,ep,true⟩):=by
     refine⟨by simp,fun j hj=>List.getElem?_set_ne (by simpa using Ne.symm (by simpa using hj)),fun j e' he'=>?_⟩
     by_cases hj:j=id
     ·subst hj
      rw[he] at he'
      simp only[Option.some.injEq] at he'
      subst he'
      exact⟨true,by rw[List.getElem?_set_self hid],fun _=>rfl,fun _=>rfl⟩
     ·exact⟨e'.fr,by rw[List.getElem?_set_ne (Ne.symm hj)];exact he',fun h=>h,fun h=>by simp at h;exact absurd h hj⟩
    have h1:Fz is (H.set id ⟨sz,e,ep,true⟩) (e.foldl (fun H row=>row.foldl (qep m) H) (H.set id ⟨sz,e,ep,true⟩)):=by
     refine Sp.fz (P:=fun H=>Sp (Rep H true false n)) (fun H i a b h=>Sp.fz (P:=fun H=>Rep H true false n) (fun H i a b h=>ih m h (by omega)) (fun H H1 j i a b hz h=>hz.rep h) H h)
      (fun H H1 j i a b hz h=>h.mono fun i a b _ h=>hz.rep h) _ (hs.mono fun i a b _ h=>h.mono fun i a b _ h=>h0.rep h)
    have:=h0.trans h1
    simp only[qep,he]
    exact this
inductive AT where
 | one (t:Tr)
 | agg (ts:List Tr)
def AT.av:AT→AV | .one t=>.one t.cell | .agg ts=>.agg (ts.map Tr.cell)
def RepA (H:List Entry)(w q:Bool)(n:Nat)(ids:List Nat):AV→AT→Prop | .one c,.one t=>Rep H w q n ids c t | .agg cs,.agg ts=>Sp (Rep H w q n) ids cs ts | _,_=>False
theorem RepA.mono {w' q':Bool}{n:Nat}{ids:List Nat}{x:AV}{t:AT}(h:RepA H w q n ids x t)(hw:w'=true→w=true)
  (hj:∀ j∈ids,∀ e,H[j]?=some e→∃ fr,H'[j]?=some ⟨e.sz,e.rows,e.ep,fr⟩∧(q'=true→(q=true→e.fr=false)→fr=false)):RepA H' w' q' n ids x t:=by
 cases x<;>cases t<;>first | exact h.elim | skip
 ·exact Rep.mono (c:=_) h hw hj
 ·exact Sp.mono h fun i a b hi h=>h.mono hw fun j hj'=>hj j (hi j hj')
theorem RepA.frame {n:Nat}{ids:List Nat}{x:AV}{t:AT}(h:RepA H w q n ids x t)(hj:∀ j∈ids,H'[j]?=H[j]?):RepA H' w q n ids x t:=
 h.mono (fun h=>h) fun j hj' e he=>⟨e.fr,by rw[hj j hj',he],fun a b=>b a⟩
theorem RepA.lt {n:Nat}{ids:List Nat}{x:AV}{t:AT}(h:RepA H w q n ids x t):∀ j∈ids,j < H.length:=by
 cases x<;>cases t<;>first | exact h.elim | skip
 ·exact Rep.lt h
 ·exact Sp.ids h fun i a b h=>h.lt
theorem RepA.app (E:List Entry){n:Nat}{ids:List Nat}{x:AV}{t:AT}(h:RepA H w q n ids x t):RepA (H++E) w q n ids x t:=
 h.frame fun j hj=>by rw[List.getElem?_append_left (h.lt j hj)]
theorem RepA.reify {chk:Bool}{n:Nat}{ids:List Nat}{x:AV}{t:AT}(h:RepA H w q n ids x t)(hn:n≤4194304)(hf:chk=true→∀ j∈ids,∀ e,H[j]?=some e→e.fr=true):qal chk H x=some t.av:=by
 cases x<;>cases t<;>first | exact h.elim | skip
 ·simp only[qal,depth,Rep.reify 4194304 h hn hf,Option.map_some,AT.av]
 ·have:mapO (Ev.reify chk H depth) _=some _:=qsz (Sp.all2 h fun i a b hi h=>Rep.reify 4194304 h hn fun hc j hj=>hf hc j (hi j hj))
  simp only[qal,this,Option.map_some,AT.av]
theorem RepA.freeze {n:Nat}{ids:List Nat}{x:AV}{t:AT}(h:RepA H true false n ids x t)(hn:n≤4194304):Fz ids H (qdf H x):=by
 cases x<;>cases t<;>first | exact h.elim | skip
 ·exact Rep.freeze 4194304 h hn
 ·exact Sp.fz (P:=fun H=>Rep H true false n) (fun H i a b h=>Rep.freeze 4194304 h hn) (fun H H1 j i a b hz h=>hz.rep h) H h
theorem Fz.repA {i:List Nat}{H1:List Entry}(h:Fz i H H1){n:Nat}{ids:List Nat}{x:AV}{t:AT}(hr:RepA H w q n ids x t):RepA H1 w false n ids x t:=
 hr.mono (fun h=>h) fun j _ e he=>by
  obtain⟨fr,h1,_⟩:=h.ent j e he
  exact⟨fr,h1,fun h=>by simp at h⟩
theorem RepA.noMem {n:Nat}{ids:List Nat}{x:AV}{t:AT}(h:RepA H w q n ids x t):x.cells.all noMem=true:=by
 cases x<;>cases t<;>first | exact h.elim | skip
 ·simp[AV.cells,Rep.noMem h]
 ·rename_i cs ts
  simp only[AV.cells]
  have:∀ {is:List Nat} {cs:List Cell} {ts:List Tr},Sp (Rep H w q n) is cs ts→cs.all Ev.noMem=true:=by
   intro is cs ts h
   induction h with
   | nil=>rfl
   | cons h t ih=>simp[h.noMem,ih]
  exact this h
theorem RepA.shift {E:List Entry}(A:List Entry){n:Nat}{ids:List Nat}{x:AV}{t:AT}(h:RepA E w q n ids x t):RepA (A++E.map (qim A.length)) w q n (ids.map (·+A.length)) (qrz A.length x) t:=by
 cases x<;>cases t<;>first | exact h.elim | skip
 ·exact Rep.shift A h
 ·exact Sp.map (qhr A.length 1) (·+A.length) h fun i a b h=>h.shift A
def cellIn (n:Nat):Cell→Bool | .sc _=>true | .vs id _ _ _ _=>decide (id < n) | .lst _ _ rows=>rows.isEmpty | _=>false
def good (H:List Entry):Prop:=∀ e∈H,∀ row∈e.rows,∀ c∈row,cellIn H.length c=true
theorem qhl {n m:Nat}{c:Cell}(h:cellIn n c=true)(hm:n≤m):cellIn m c=true:=by
 cases c<;>first | rfl | exact h | skip
 simp only[cellIn,decide_eq_true_eq] at h ⊢
 omega
theorem qif {n k:Nat}{c:Cell}(h:cellIn n c=true):cellIn (k+n) (qhr k 1 c)=true:=by
 cases c<;>first | rfl | exact h | skip
 ·simp only[cellIn,qhr,decide_eq_true_eq] at h ⊢
  omega
 all_goals simp[cellIn] at h
theorem qlvc {S:List Nat}{E:List Entry}{c:Cell}(ho:okL S E)(h:okS S c=true):cellIn E.length c=true:=by
 cases c<;>first | rfl | exact h | (simp[okS] at h;done) | skip
 simp only[okS,List.contains_iff_mem] at h
 obtain⟨e,he,_⟩:=ho _ h
 simp only[cellIn,decide_eq_true_eq]
 exact(List.getElem?_eq_some_iff.1 he).1
theorem qqtc {E:List Entry}{S:List Nat}(h:good H)(ho:okL S E):good (H++(clean S E).map (qim H.length)):=by
 intro e he row hr c hc
 have hl:(H++(clean S E).map (qim H.length)).length=H.length+E.length:=by simp[clean]
 rw[hl]
 rcases List.mem_append.1 he with he | he
 ·exact qhl (h e he row hr c hc) (by omega)
 ·obtain⟨e1,h1,rfl⟩:=List.mem_map.1 he
  simp only[qim,List.mem_map] at hr
  obtain⟨row1,hr1,rfl⟩:=hr
  obtain⟨c1,hc1,rfl⟩:=List.mem_map.1 hc
  refine qif ?_
  obtain⟨i,hi⟩:=List.mem_iff_getElem?.1 h1
  simp only[clean,List.getElem?_mapIdx,Option.map_eq_some_iff] at hi
  obtain⟨e0,h2,h3⟩:=hi
  cases hS:S.contains i with
  | false=>rw[hS] at h3;subst h3;simp at hr1
  | true=>
   rw[hS] at h3
   obtain rfl:e0=e1:=h3
   obtain⟨e2,h4,h5⟩:=ho i (List.contains_iff_mem.1 hS)
   rw[h2] at h4
   simp only[Option.some.injEq] at h4
   subst h4
   exact qlvc ho (h5 row1 hr1 c1 hc1)
theorem Rep.okD {E:List Entry}:∀ {n:Nat} {ids:List Nat} {c:Cell} {t:Tr} (m:Nat),Rep E true q n ids c t→n≤m→okD E m c=true∧∀ j∈ids,j∈qfn E m c:=by
 intro n
 induction n with
 | zero=>intro ids c t m h;exact h.elim
 | succ n ih=>
  intro ids c t m h hm
  obtain⟨m,rfl⟩:∃ j,m=j+1:=⟨m - 1,by omega⟩
  cases t with
  | leaf v=>obtain⟨rfl,rfl⟩:=h;exact⟨rfl,by simp⟩
  | list sz trs=>
   rcases h with⟨_,rfl,f,rfl⟩ | ⟨id,off,ep,e,fr,is,rfl,rfl,he,hq,hwh,hl,hr,hs⟩
   ·exact⟨rfl,by simp⟩
   ·obtain⟨rfl,hle⟩:=hwh rfl
    rw[List.drop_zero,hle,List.take_of_length_le (Nat.le_refl _)] at hs
    have key:∀ {is:List Nat} {rows:List (List Cell)} {trs:List (List Tr)},Sp (Sp (Rep E true q n)) is rows trs→(∀ row∈rows,∀ d∈row,Ev.okD E m d=true)∧∀ j∈is,∃ row∈rows,∃ d∈row,j∈qfn E m d:=by
     intro is rows trs h
     induction h with
     | nil=>exact⟨by simp,by simp⟩
     | cons h t iht=>
      rename_i i is a as b bs
      have kr:∀ {i:List Nat} {a:List Cell} {b:List Tr},Sp (Rep E true q n) i a b→(∀ d∈a,Ev.okD E m d=true)∧∀ j∈i,∃ d∈a,j∈qfn E m d:=by
       intro i a b h
       induction h with
       | nil=>exact⟨by simp,by simp⟩
       | cons h t iht2=>
        have:=ih m h (by omega)
        refine⟨fun d hd=>?_,fun j hj=>?_⟩
        ·rcases List.mem_cons.1 hd with rfl | hd
         ·exact this.1
         ·exact iht2.1 d hd
        ·rcases List.mem_append.1 hj with hj | hj
         ·exact⟨_,List.mem_cons_self,this.2 j hj⟩
         ·obtain⟨d,hd,hj⟩:=iht2.2 j hj
          exact⟨d,List.mem_cons_of_mem _ hd,hj⟩
      have:=kr h
      refine⟨fun row hrow d hd=>?_,fun j hj=>?_⟩
      ·rcases List.mem_cons.1 hrow with rfl | hrow
       ·exact this.1 d hd
       ·exact iht.1 row hrow d hd
      ·rcases List.mem_append.1 hj with hj | hj
       ·obtain⟨d,hd,hj⟩:=this.2 j hj
        exact⟨_,List.mem_cons_self,d,hd,hj⟩
       ·obtain⟨row,hrow,hj⟩:=iht.2 j hj
        exact⟨row,List.mem_cons_of_mem _ hrow,hj⟩
    obtain⟨k1,k2⟩:=key hs
    refine⟨?_,fun j hj=>?_⟩
    ·simp only[Ev.okD,he,List.all_eq_true]
     exact fun row hrow d hd=>k1 row hrow d hd
    ·simp only[qfn,he,List.mem_cons,List.mem_flatMap]
     rcases List.mem_cons.1 hj with rfl | hj
     ·exact .inl rfl
     ·obtain⟨row,hrow,d,hd,hj⟩:=k2 j hj
      exact .inr ⟨row,hrow,d,hd,hj⟩
def Fresh (run:Run)(w:Bool)(n:Nat)(as:List AV)(ts:List AT):Prop:=n≤4194306∧∃ xs E ids,run as []=some (xs,E)∧Sp (RepA E w true n) ids xs ts∧ids.Nodup
theorem Fresh.of {run:Run}{n:Nat}{as xs:List AV}{ts:List AT}{ids:List Nat}(h:run as []=some (xs,H))(hs:Sp (RepA H w true n) ids xs ts)(hn:ids.Nodup)(h8:n≤4194306):Fresh run w n as ts:=
 ⟨h8,xs,H,ids,h,hs,hn⟩
theorem RepA.okD {E:List Entry}{n:Nat}{ids:List Nat}{x:AV}{t:AT}(m:Nat)(h:RepA E true q n ids x t)(hm:n≤m):(x.cells.all (okD E m))=true∧∀ j∈ids,j∈x.cells.flatMap (qfn E m):=by
 cases x<;>cases t<;>first | exact h.elim | skip
 ·have:=Rep.okD m h hm
  exact⟨by simpa[AV.cells] using this.1,fun j hj=>by simpa[AV.cells] using this.2 j hj⟩
 ·have kr:∀ {i:List Nat} {a:List Cell} {b:List Tr},Sp (Rep E true q n) i a b→(∀ d∈a,Ev.okD E m d=true)∧∀ j∈i,∃ d∈a,j∈qfn E m d:=by
   intro i a b h
   induction h with
   | nil=>exact⟨by simp,by simp⟩
   | cons h t iht2=>
    have:=Rep.okD m h hm
    refine⟨fun d hd=>?_,fun j hj=>?_⟩
    ·rcases List.mem_cons.1 hd with rfl | hd
     ·exact this.1
     ·exact iht2.1 d hd
    ·rcases List.mem_append.1 hj with hj | hj
     ·exact⟨_,List.mem_cons_self,this.2 j hj⟩
     ·obtain⟨d,hd,hj⟩:=iht2.2 j hj
      exact⟨d,List.mem_cons_of_mem _ hd,hj⟩
  have:=kr h
  refine⟨?_,fun j hj=>?_⟩
  ·simp only[AV.cells,List.all_eq_true]
   exact this.1
  ·obtain⟨d,hd,hj⟩:=this.2 j hj
   exact List.mem_flatMap.2 ⟨d,hd,hj⟩
theorem qajc {E:List Entry}{n:Nat}(hn:n≤4194306){ids:List Nat}{xs:List AV}{ts:List AT}(h:Sp (RepA E true q n) ids xs ts):qsec (xs,E)=true∧∀ j∈ids,j∈qhs (xs,E):=by
 induction h with
 | nil=>exact⟨rfl,by simp⟩
 | cons h t ih=>
  have:=RepA.okD 4194306 h hn
  refine⟨?_,fun j hj=>?_⟩
  ·have h1:=this.1
   have h2:=ih.1
   simp only[qsec,List.all_cons,Bool.and_eq_true] at h1 h2 ⊢
   exact⟨h1,h2⟩
  ·simp only[qhs,List.flatMap_cons,List.mem_append]
   rcases List.mem_append.1 hj with hj | hj
   ·exact .inl (this.2 j hj)
   ·exact .inr (ih.2 j hj)
theorem qhi {run:Run}{n:Nat}{args as:List AV}{ts:List AT}(H:List Entry)(ha:mapO (qal false H) args=some as)(h:Fresh run true n as ts):
  ∃ xs E ids,qfd run args H=some (xs,H++E)∧Sp (RepA (H++E) true true n) ids xs ts∧ids.Nodup∧(∀ j∈ids,H.length≤j)∧(good H→good (H++E))∧∀ x∈xs,∀ c∈x.cells,cellIn (H++E).length c=true:=by
 obtain⟨h8,xs,E,ids,h1,h3,h4⟩:=h
 obtain⟨h2,h5⟩:=qajc h8 h3
 have hok:=qglb h2
 have h3':Sp (RepA (clean (qhs (xs,E)) E) true true n) ids xs ts:=h3.mono fun i a b hi h=>h.frame fun j hj=>by
  have hlt:j < E.length:=h.lt j hj
  rw[qxg (List.getElem?_eq_getElem hlt) (h5 j (hi j hj)),List.getElem?_eq_getElem hlt]
 refine⟨xs.map (qrz H.length),(clean (qhs (xs,E)) E).map (qim H.length),ids.map (·+H.length),?_,h3'.map _ _ fun i a b h=>h.shift H,?_,?_,fun hg=>qqtc hg hok.2,?_⟩
 ·unfold qfd
  simp only[ha,h1,h2,if_true]
  rfl
 ·rw[List.Nodup,List.pairwise_map]
  exact h4.imp fun hab h=>hab (by omega)
 ·intro j hj
  obtain⟨i,_,rfl⟩:=List.mem_map.1 hj
  omega
 ·intro x hx c hc
  have hl:(H++(clean (qhs (xs,E)) E).map (qim H.length)).length=H.length+E.length:=by simp[clean]
  rw[hl]
  obtain⟨x0,hx0,rfl⟩:=List.mem_map.1 hx
  have hk:=List.all_eq_true.1 hok.1 x0 hx0
  cases x0 with
  | one c0=>
   simp only[qrz,AV.cells,List.mem_singleton] at hc
   subst hc
   exact qif (qlvc hok.2 (by simpa[AV.cells] using hk))
  | agg cs=>
   simp only[qrz,AV.cells,List.mem_map] at hc
   obtain⟨c0,hc0,rfl⟩:=hc
   exact qif (qlvc hok.2 (List.all_eq_true.1 hk c0 hc0))
theorem qdtc {chk:Bool}{n:Nat}(hn:n≤4194304){is:List Nat}{xs:List AV}{ts:List AT}(h:Sp (RepA H w q n) is xs ts)(hf:chk=true→∀ j∈is,∀ e,H[j]?=some e→e.fr=true):mapO (qal chk H) xs=some (ts.map AT.av):=
 qsz (h.all2 fun i a b hi h=>h.reify hn fun hc j hj=>hf hc j (hi j hj))
theorem qom {run:Run}{n:Nat}(hn:n≤4194304){is:List Nat}{xs:List AV}{ts:List AT}(h:Sp (RepA H true q n) is xs ts):∃ H1,Fz is H H1∧callL run xs H=(outL run (ts.map AT.av)).map fun ys=>(ys,H1):=by
 have h0:Sp (RepA H true false n) is xs ts:=h.mono fun i a b _ h=>h.mono (fun h=>h) fun j _ e he=>⟨e.fr,he,fun h=>by simp at h⟩
 have hz:Fz is H (xs.foldl qdf H):=Sp.fz (P:=fun H=>RepA H true false n) (fun H i a b h=>h.freeze hn) (fun H H1 j i a b hz h=>hz.repA h) H h0
 refine⟨_,hz,?_⟩
 rw[qkg,qdtc hn (h0.mono fun i a b _ h=>hz.repA h) fun _ j hj e he=>?_]
 ·rfl
 ·have hlt:j < H.length:=by rw[← hz.len];exact(List.getElem?_eq_some_iff.1 he).1
  obtain⟨fr,h1,_,h3⟩:=hz.ent j H[j] (List.getElem?_eq_getElem hlt)
  rw[he] at h1
  simp only[Option.some.injEq] at h1
  rw[h1]
  exact h3 hj
theorem qdh {n:Nat}(v:Value):Rep H w q (n+1) [] (.sc v) (.leaf v):=⟨rfl,rfl⟩
end Go.Ev
