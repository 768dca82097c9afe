/- What the functions come to. Conditions: none. -/
import Derived.Test.YtfaiahlpefmgmaaEvCon
set_option linter.unusedSimpArgs false
set_option linter.unusedVariables false
namespace Go.Ev
open Go
def qwj (c:UInt8)(cur:Str):Str→List Str | []=>[cur] | b::r=>if b=c then cur::qwj c [] r else qwj c (cur++[b]) r
def split (c:UInt8)(s:Str):List Str:=qwj c [] s
def ahead (c:UInt8)(s:Str):Str:=s.takeWhile (· != c)
def behind (c:UInt8)(s:Str):Str:=(s.dropWhile (· != c)).drop 1
def lt (a b:Str):Bool:=Op.bytesLess a b
theorem qtm {i:Nat}(h:i < Go.maxLen):IntKind.i64.wrap (((i+1:Nat):Int) - 1)=(i:Int):=by
 have:=qar
 rw[wrap_small (by omega) (by omega)]
 omega
def idxS (s:Str):List Str→Nat→Int | [],_=>-1 | b::r,i=>if s=b then (i:Int) else idxS s r (i+1)
theorem qlub (s:Str):∀ (l:List Str) (i:Nat),(decide (idxS s l i≥0))=l.contains s:=by
 intro l
 induction l with
 | nil=>intro i;rfl
 | cons b r ih=>
  intro i
  rw[List.contains_cons]
  by_cases e:s=b
  ·have e1:idxS s (b::r) i=(i:Int):=if_pos e
   rw[e1,show(s==b)=true by simpa using e,decide_eq_true (by omega)];rfl
  ·have e1:idxS s (b::r) i=idxS s r (i+1):=if_neg e
   rw[e1,ih,show(s==b)=false by simpa using e];rfl
theorem c_fbc (xs:List Str)(s:Str)(hx:xs.length≤1073741824):out qhw [.one (qif xs),.one (Cell.str (bs s))]=some [.one (Cell.int (idxS s xs 0))]:=by
 have hM:=qar
 have loop:∀ (r:List Str) (i n:Nat),xs.drop i=r→r.length < n→∀ k m,qri k m n (qif xs) (bs s) xs.length i=some ([.one (Cell.int (idxS s r i))],[]):=by
  intro r
  induction r with
  | nil=>
   intro i n hd hn k m
   obtain⟨n,rfl⟩:∃ j,n=j+1:=⟨n - 1,by omega⟩
   have:=drop_nil hd
   simp only[qri]
   rw[decide_eq_false (by omega),cond_false]
   rfl
  | cons b r ih=>
   intro i n hd hn k m
   obtain⟨n,rfl⟩:∃ j,n=j+1:=⟨n - 1,by omega⟩
   obtain⟨hlt,hg,hd'⟩:=qbe hd
   simp only[List.length_cons] at hn
   simp only[qri,qdd,hg,eStr,EV0]
   rw[decide_eq_true (by omega),cond_true,qaj (by omega),ih (i+1) n hd' (by omega)]
   simp only[idxS]
   by_cases e:s=b
   ·rw[show(s==b)=true by simpa using e,if_pos e];rfl
   ·rw[show(s==b)=false by simpa using e,if_neg e];rfl
 refine qrc (H:=[]) (qxi (xs.length+1) ?_)
 have:=loop xs 0 (xs.length+1+1) rfl (by omega) (xs.length+1+1) (xs.length+1+1)
 simpa[fbc] using this
theorem qeub (xs:List Str)(s:Str)(hx:xs.length≤1073741824):out qbm [.one (qif xs),.one (Cell.str (bs s))]=some [.one (Cell.bool (xs.contains s))]:=by
 refine qrc (H:=[]) (qyp 0 ?_)
 simp only[faz,c_fbc xs s hx,EV0,qlub]
theorem qzf (s:Str):∀ (l:List Str) (i:Nat),(idxS s l i=-1∧s∉l)∨∃ j x,idxS s l i=((i+j:Nat):Int)∧l[j]?=some x:=by
 intro l
 induction l with
 | nil=>intro i;exact .inl ⟨rfl,by simp⟩
 | cons b r ih=>
  intro i
  by_cases e:s=b
  ·exact .inr ⟨0,b,by simp[idxS,e],rfl⟩
  ·rcases ih (i+1) with⟨h1,h2⟩ | ⟨j,x,h1,h2⟩
   ·exact .inl ⟨by simp[idxS,e,h1],by simp[e,h2]⟩
   ·exact .inr ⟨j+1,x,by simp only[idxS,if_neg e,h1];congr 1;omega,by simpa using h2⟩
def qba (names:List Str)(next:List (List Str))(s:Str):List Str:=if idxS s names 0 < 0 then [] else (next[(idxS s names 0).toNat]?).getD []
theorem f_fax (xs:List Str)(hx:xs.length≤1073741824):Fresh qne true 2 [.one (qif xs)] [.one (trL 1 qbw xs)]:=by
 obtain⟨p,h1,h2⟩:=(Grow.nil 1).app (by':=16) (xs.map eStr) (by unfold bound;simp;omega) (by unfold bound;simp;omega)
 rw[List.nil_append] at h2
 obtain⟨ids,h3,h4,h5⟩:=h2.rep (tr:=qbw) (fun _ _=>rfl) (fun x _ H'=>Sp.leaf1 _)
 refine Fresh.one (c:=p.1) (H:=p.2) (qxs 0 ?_) h3 h4
 have hs:qaf [] 1 (qif xs)=some (xs.map eStr):=by simp[qaf,rowsOf,encL]
 simp only[fax,hs,h1,EV0]
 cases xs with
 | nil=>
  simp only[List.map_nil,app,List.isEmpty_nil,if_true,Option.some.injEq] at h1
  subst h1
  simp[nilC,encL,both]
 | cons x xs=>simp[nilC,encL]
def idxF {α:Type}(p:α→Bool):List α→Nat→Int | [],_=>-1 | x::r,i=>cond (p x) (i:Int) (idxF p r (i+1))
theorem qtg {α:Type}(p:α→Bool):∀ (l:List α) (i:Nat),(idxF p l i=-1∧l.find? p=none)∨∃ (j:Nat) (x:α),idxF p l i=((i+j:Nat):Int)∧l[j]?=some x∧l.find? p=some x:=by
 intro l
 induction l with
 | nil=>intro i;exact .inl ⟨rfl,rfl⟩
 | cons b r ih=>
  intro i
  by_cases e:p b=true
  ·exact .inr ⟨0,b,by simp[idxF,e],rfl,by simp[e]⟩
  ·rcases ih (i+1) with⟨h1,h2⟩ | ⟨j,x,h1,h2,h3⟩
   ·exact .inl ⟨by simp[idxF,e,h1],by simp[e,h2]⟩
   ·exact .inr ⟨j+1,x,by simp only[idxF,Bool.eq_false_iff.2 e,cond_false,h1];congr 1;omega,by simpa using h2,by simp[e,h3]⟩
def qcqb (names:List Str)(next:List (List Str))(s:Str)(done:List Str):Bool:=(qba names next s).all fun x=>!(names.contains x&&!done.contains x)
def qcmb (names:List Str)(next:List (List Str))(done:List Str)(s:Str):Bool:=!done.contains s&&qcqb names next s done
def qdf (names:List Str)(next:List (List Str)):Nat→List Str→List Str×Bool
 | 0,o=>(o,true)
 | d+1,o=>match names.find? (qcmb names next o) with
  | some s=>qdf names next d (o++[s])
  | none=>([],false)
def qjx (names:List Str)(next:List (List Str)):List Str×Bool:=qdf names next names.length []
theorem qxr (names:List Str)(next:List (List Str)):∀ (d:Nat) (o:List Str),(qdf names next d o).1.length≤d+o.length∧∀ x∈(qdf names next d o).1,x∈o∨x∈names:=by
 intro d
 induction d with
 | zero=>intro o;exact⟨by simp[qdf],fun x hx=>.inl hx⟩
 | succ d ih=>
  intro o
  simp only[qdf]
  split
  ·rename_i s hs
   obtain⟨h1,h2⟩:=ih (o++[s])
   refine⟨by simp at h1;omega,fun x hx=>?_⟩
   rcases h2 x hx with h | h
   ·rcases List.mem_append.1 h with h | h
    ·exact .inl h
    ·simp only[List.mem_singleton] at h
     subst h
     exact .inr (List.mem_of_find?_eq_some hs)
   ·exact .inr h
  ·exact⟨by simp,by simp⟩
theorem qws (names:List Str)(next:List (List Str)):(qjx names next).1.length≤names.length∧∀ x∈(qjx names next).1,x∈names:=by
 obtain⟨h1,h2⟩:=qxr names next names.length []
 exact⟨by simpa[qjx] using h1,fun x hx=>(h2 x hx).resolve_left (by simp)⟩
theorem qln {names:List Str}{next:List (List Str)}(h:∀ d∈next,d.length≤1073741824)(s:Str):(qba names next s).length≤1073741824:=by
 unfold qba
 split
 ·simp
 ·cases hd:next[(idxS s names 0).toNat]? with
  | none=>simp
  | some d=>exact h d (List.mem_of_getElem? hd)
theorem qop {H:List Entry}{ids:List Nat}{g:Nat}{names:List Str}{next:List (List Str)}(h:GraphM H ids g names next)(h1:names.length≤1073741824)(s:Str):
  ∃ d,qdj [.one (.ptr g 2 0 0 0),.one (Cell.str (bs s))] H=some ([.one d],H)∧qbq H ids d (qba names next s):=by
 obtain⟨_,_,hlen,cn,co,fr,he,hn,ho⟩:=h
 have d0:deref H (.ptr g 2 0 0 0)=some ([cn,co],0):=by simp[deref,entry?,he]
 have d1:deref H (.ptr g 2 0 1 0)=some ([cn,co],1):=by simp[deref,entry?,he]
 have q1:qeh qhw [.one cn,.one (Cell.str (bs s))] H=some [.one (Cell.int (idxS s names 0))]:=by
  rw[qdn (qcj hn.read (qcj (qau _ _ _) (qbd _)))]
  exact c_fbc names s h1
 rcases qzf s names 0 with⟨e1,_⟩ | ⟨j,x,e1,e2⟩
 ·refine⟨.lst true 1 [],qpi 0 ?_,?_⟩
  ·simp only[fan,ptrC,qcd,Nat.zero_add,d0,q1,e1,EV0]
   rfl
  ·rw[qba,e1,if_pos (by omega)]
   exact .nil _ _
 ·have hj:=(List.getElem?_eq_some_iff.1 e2).1
  obtain⟨d,hd⟩:∃ d,next[j]?=some d:=⟨next[j],List.getElem?_eq_getElem (by omega)⟩
  have e:qba names next s=d:=by
   rw[qba,e1,if_neg (by omega)]
   simp[hd]
  rw[e]
  obtain⟨a,dc,i1,i2,i3⟩:=ho.at hd
  refine⟨dc,qpi 0 ?_,i3⟩
  simp only[fan,ptrC,qcd,Nat.zero_add,d0,q1,e1,EV0]
  rw[decide_eq_false (by omega),cond_false]
  simp only[d1,qrx,qeo,i1,i2,Option.bind_some]
theorem qre {H:List Entry}{ids is:List Nat}{g:Nat}{names:List Str}{next:List (List Str)}(h:GraphM H ids g names next)(h1:names.length≤1073741824)(h3:∀ d∈next,d.length≤1073741824)(s:Str){c:Cell}{done:List Str}(hc:qbq H is c done)(h4:done.length≤1073741824):
  qpm [.one (.ptr g 2 0 0 0),.one (Cell.str (bs s)),.one c] H=some ([.one (Cell.bool (qcqb names next s done))],H):=by
 have hM:=qar
 have hN:=qln (names:=names) h3 s
 obtain⟨d,o1,o2⟩:=qop h h1 s
 obtain⟨_,_,hlen,cn,co,fr,he,hn,ho⟩:=h
 have d0:deref H (.ptr g 2 0 0 0)=some ([cn,co],0):=by simp[deref,entry?,he]
 have q1:∀ x,qeh qbm [.one cn,.one (Cell.str (bs x))] H=some [.one (Cell.bool (names.contains x))]:=fun x=>by
  rw[qdn (qcj hn.read (qcj (qau _ _ _) (qbd _)))]
  exact qeub names x h1
 have q2:∀ x,qeh qbm [.one c,.one (Cell.str (bs x))] H=some [.one (Cell.bool (done.contains x))]:=fun x=>by
  rw[qdn (qcj hc.read (qcj (qau _ _ _) (qbd _)))]
  exact qeub done x h4
 have loop:∀ (r:List Str) (i n:Nat),(qba names next s).drop i=r→r.length < n→∀ k m,qmp k m n (.ptr g 2 0 0 0) c d (qba names next s).length i H=some ([.one (Cell.bool (r.all fun x=>!(names.contains x&&!done.contains x)))],H):=by
  intro r
  induction r with
  | nil=>
   intro i n hd hn k m
   obtain⟨n,rfl⟩:∃ j,n=j+1:=⟨n - 1,by omega⟩
   have:=drop_nil hd
   simp only[qmp]
   rw[decide_eq_false (by omega),cond_false]
   rfl
  | cons x r ih=>
   intro i n hd hn k m
   obtain⟨n,rfl⟩:∃ j,n=j+1:=⟨n - 1,by omega⟩
   obtain⟨hlt,hg,hd'⟩:=qbe hd
   simp only[List.length_cons] at hn
   obtain⟨a,row,off,i1,i2,i3⟩:=o2.at hg
   simp only[qmp]
   rw[decide_eq_true (by omega),cond_true]
   simp only[i1,i2,i3,ptrC,qcd,Nat.zero_add,d0,q1,q2,qaj (show i < maxLen by omega),ih (i+1) n hd' (by omega),EV0,List.all_cons]
   cases done.contains x<;>cases names.contains x<;>rfl
 refine qzx ((qba names next s).length+1) ?_
 have:=loop (qba names next s) 0 ((qba names next s).length+1+1) rfl (by omega) ((qba names next s).length+1+1) ((qba names next s).length+1+1)
 simp only[fam,o1,o2.len,EV0]
 exact this
theorem qgvb {H:List Entry}{ids:List Nat}{g:Nat}{names:List Str}{next:List (List Str)}(h:GraphM H ids g names next)(h1:names.length≤1048576)(h3:∀ d∈next,d.length≤1073741824):
  ∃ c H' is,qng [.one (.ptr g 2 0 0 0)] H=some ([.one c,.one (Cell.bool (qjx names next).2)],H')∧Rep H' true true 2 is c (trL 1 qbw (qjx names next).1)∧is.Nodup:=by
 have hM:=qar
 let A:Cell→List Entry:=fun c=>H++[Entry.mk 1 [[.ptr g 2 0 0 0]] 0 false]++[Entry.mk 1 [[c]] 0 false]
 have hAl:∀ c,(A c).length=H.length+2:=fun c=>by simp[A]
 have hA:∀ c T,∀ j∈ids,(A c++T)[j]?=H[j]?:=fun c T j hj=>by
  have:=h.lt j hj
  simp only[A]
  rw[List.getElem?_append_left (by simp;omega),List.getElem?_append_left (by simp;omega),List.getElem?_append_left (by omega)]
 have hG:∀ c T,GraphM (A c++T) ids g names next:=fun c T=>h.app (hA c T) (by simp[A])
 have dg:∀ c T,deref (A c++T) (.ptr H.length 1 0 0 0)=some ([.ptr g 2 0 0 0],0):=fun c T=>by simp[A,deref,entry?]
 have dv:∀ c T,deref (A c++T) (.ptr (H.length+1) 1 0 0 0)=some ([c],0):=fun c T=>by simp[A,deref,entry?]
 have sv:∀ c T d,qeg (A c++T) (.ptr (H.length+1) 1 0 0 0) [d]=some (A d++T):=fun c T d=>by
  simp[A,qeg,entry?,splice,List.set_append]
 have loop:∀ (d:Nat) (o:List Str) (c:Cell) (T:List Entry) (n:Nat),o.length+d=names.length→d < n→GrowAt (H.length+2) 1 c T (o.map eStr)→∀ k m,
   ∃ c' H' is,qqj k m n (.ptr H.length 1 0 0 0) (.ptr (H.length+1) 1 0 0 0) (A c++T)=some ([.one c',.one (Cell.bool (qdf names next d o).2)],H')∧Rep H' true true 2 is c' (trL 1 qbw (qdf names next d o).1)∧is.Nodup:=by
  intro d
  induction d with
  | zero=>
   intro o c T n hd hn hg k m
   obtain⟨n,rfl⟩:∃ j,n=j+1:=⟨n - 1,by omega⟩
   rw[← hAl c] at hg
   obtain⟨is,r1,r2,r3⟩:=hg.list
   obtain⟨_,_,_,cn,co,fr,he,hn',_⟩:=hG c T
   have d0:deref (A c++T) (.ptr g 2 0 0 0)=some ([cn,co],0):=by simp only[deref,entry?,he];rfl
   refine⟨c,A c++T,is,?_,r1,r2⟩
   simp only[qqj,dv,dg,qeo,ptrC,qcd,Nat.zero_add,d0,(qbq.of (n:=2) r1).len,hn'.len,Option.bind_some]
   rw[decide_eq_false (by omega),cond_false]
   rfl
  | succ d ih=>
   intro o c T n hd hn hg k m
   obtain⟨n,rfl⟩:∃ j,n=j+1:=⟨n - 1,by omega⟩
   rw[← hAl c] at hg
   obtain⟨is,r1,r2,r3⟩:=hg.list
   have hGc:=hG c T
   obtain⟨_,_,_,cn,co,fr,he,hn',_⟩:=hG c T
   have d0:deref (A c++T) (.ptr g 2 0 0 0)=some ([cn,co],0):=by simp only[deref,entry?,he];rfl
   have hoc:qbq (A c++T) is c o:=qbq.of (n:=2) r1
   have hc:∀ s,qle [.one (Cell.str (bs s)),.one (.ptr (H.length+1) 1 0 0 0),.one (.ptr H.length 1 0 0 0)] (A c++T)=some ([.one (Cell.bool (qcmb names next o s))],A c++T):=by
    intro s
    refine qza 0 ?_
    have q:qeh qbm [.one c,.one (Cell.str (bs s))] (A c++T)=some [.one (Cell.bool (o.contains s))]:=by
     rw[qdn (qcj hoc.read (qcj (qau _ _ _) (qbd _)))]
     exact qeub o s (by omega)
    simp only[fap,dv,dg,qeo,q,qre hGc (by omega) h3 s hoc (by omega),EV0,qcmb]
    cases o.contains s<;>rfl
   have idx:∀ (r:List Str) (i n:Nat),names.drop i=r→r.length < n→∀ k m,qad k m n cn (.ptr (H.length+1) 1 0 0 0) (.ptr H.length 1 0 0 0) names.length i (A c++T)=some ([.one (Cell.int (idxF (qcmb names next o) r i))],A c++T):=by
    intro r
    induction r with
    | nil=>
     intro i n hd hn k m
     obtain⟨n,rfl⟩:∃ j,n=j+1:=⟨n - 1,by omega⟩
     have:=drop_nil hd
     simp only[qad]
     rw[decide_eq_false (by omega),cond_false]
     rfl
    | cons x r ihr=>
     intro i n hd hn k m
     obtain⟨n,rfl⟩:∃ j,n=j+1:=⟨n - 1,by omega⟩
     obtain⟨hlt,hg,hd'⟩:=qbe hd
     simp only[List.length_cons] at hn
     obtain⟨a,row,off,i1,i2,i3⟩:=hn'.at hg
     simp only[qad,i1,i2,i3,hc,EV0]
     rw[decide_eq_true (by omega),cond_true,qaj (by omega),ihr (i+1) n hd' (by omega)]
     simp only[idxF]
     cases qcmb names next o x<;>rfl
   have hi:=qcc (c1:=cn) (q2:=.ptr (H.length+1) 1 0 0 0) (q3:=.ptr H.length 1 0 0 0) (H:=A c++T) (names.length+1) (by
    have:=idx names 0 (names.length+1+1) rfl (by omega) (names.length+1+1) (names.length+1+1)
    simp only[qaq,hn'.len,Option.bind_some]
    exact this)
   simp only[qqj,dv,dg,qeo,ptrC,qcd,Nat.zero_add,d0,hoc.len,hn'.len,Option.bind_some]
   rw[decide_eq_true (by omega),cond_true]
   simp only[qdf]
   rcases qtg (qcmb names next o) names 0 with⟨e1,e2⟩ | ⟨j,x,e1,e2,e3⟩
   ·refine⟨.lst true 1 [],A c++T,[],?_,?_,by simp⟩
    ·simp only[hi,e1,e2,EV0]
     rfl
    ·rw[e2]
     exact .inl ⟨rfl,rfl,true,rfl⟩
   ·rw[e3]
    obtain⟨c1,T1,a1,g1⟩:=qidb (A:=A c) (by':=16) hg (eStr x) (by simp[bound];omega) (by simp[bound];omega)
    rw[hAl] at g1
    obtain⟨a,row,off,i1,i2,i3⟩:=hn'.at e2
    obtain⟨c2,H2,is2,z1,z2,z3⟩:=ih (o++[x]) c1 T1 n (by simp;omega) (by omega) (by simpa using g1) k m
    refine⟨c2,H2,is2,?_,z2,z3⟩
    simp only[eStr] at a1
    simp only[hi,e1,EV0]
    rw[decide_eq_false (by omega),cond_false,Nat.zero_add]
    simp only[dv,dg,qeo,ptrC,qcd,Nat.zero_add,d0,i1,i2,i3,a1,sv,Option.bind_some]
    exact z1
 obtain⟨c,H',is,z1,z2,z3⟩:=loop names.length [] (.lst true 1 []) [] (names.length+1+1) (by simp) (by omega) (.inl ⟨rfl,rfl,rfl⟩) (names.length+1+1) (names.length+1+1)
 refine⟨c,H',is,qxn (names.length+1) ?_,z2,z3⟩
 simpa[fao,A,qjx] using z1
def qfkb (ns:List Str)(us:List (List Str))(H:List Entry):Prop:=(ns=[]∧us=[]∧H=[Entry.mk 2 [[.lst true 1 [],.lst true 1 []]] 0 false])∨∃ e1 e2,H=[Entry.mk 2 [[.vs 1 1 0 ns.length e1,.vs 2 1 0 us.length e2]] 0 false,Entry.mk 1 (ns.map eStr) e1 false,Entry.mk 1 (us.map qfn) e2 false]
theorem qfkb.step {ns:List Str}{us:List (List Str)}{H:List Entry}(h:qfkb ns us H)(t:Str)(e:List Str)(h1:ns.length < 1048576)(h2:us.length < 1048576):
  ∃ c0 p H1 c1 q H2,(deref H (.ptr 0 2 0 0 0)).bind (fun p=>cC p.1 p.2)=some c0∧app H 1 16 c0 [[Cell.str (bs t)]]=some p∧qeg p.2 (.ptr 0 2 0 0 0) [p.1]=some H1∧
   (deref H1 (.ptr 0 2 0 1 0)).bind (fun p=>cC p.1 p.2)=some c1∧app H1 1 24 c1 [[qif e]]=some q∧qeg q.2 (.ptr 0 2 0 1 0) [q.1]=some H2∧qfkb (ns++[t]) (us++[e]) H2:=by
 rcases h with⟨rfl,rfl,rfl⟩ | ⟨e1,e2,rfl⟩
 ·refine⟨.lst true 1 [],(.vs 1 1 0 1 0,_),_,.lst true 1 [],(.vs 2 1 0 1 0,_),_,rfl,rfl,rfl,rfl,rfl,rfl,.inr ⟨0,0,rfl⟩⟩
 ·refine⟨.vs 1 1 0 ns.length e1,(.vs 1 1 0 (ns.length+1) (e1+1),[Entry.mk 2 [[.vs 1 1 0 ns.length e1,.vs 2 1 0 us.length e2]] 0 false,Entry.mk 1 (ns.map eStr++[eStr t]) (e1+1) false,Entry.mk 1 (us.map qfn) e2 false]),_,.vs 2 1 0 us.length e2,
   (.vs 2 1 0 (us.length+1) (e2+1),[Entry.mk 2 [[.vs 1 1 0 (ns.length+1) (e1+1),.vs 2 1 0 us.length e2]] 0 false,Entry.mk 1 (ns.map eStr++[eStr t]) (e1+1) false,Entry.mk 1 (us.map qfn++[qfn e]) (e2+1) false]),_,rfl,?_,rfl,rfl,?_,rfl,.inr ⟨e1+1,e2+1,?_⟩⟩
  ·simp only[app,entry?,List.getElem?_cons_succ,List.getElem?_cons_zero,if_true,List.length_map,Nat.zero_add,List.length_singleton]
   rw[if_pos ⟨trivial,Nat.le_refl _,.inl trivial,by unfold bound;omega,by unfold bound;omega⟩]
   simp[eStr,List.take_of_length_le]
  ·simp only[app,entry?,List.set_cons_succ,List.set_cons_zero,List.getElem?_cons_succ,List.getElem?_cons_zero,if_true,List.length_map,Nat.zero_add,List.length_singleton]
   rw[if_pos ⟨trivial,Nat.le_refl _,.inl trivial,by unfold bound;omega,by unfold bound;omega⟩]
   simp[qfn,List.take_of_length_le,splice]
  ·simp[splice]
theorem qqeb (l:List MPack)(hl:bdL 1048576 (MPack.Bd 1048576) l):∃ H,qfkb (l.map (·.Name)) (l.map (·.Uses)) H∧qdv [.one (encL 4 MPack.enc l)] []=some ([.one (.ptr 0 2 0 0 0)],H):=by
 have hM:=qar
 have hxl:=hl.1
 have loop:∀ (r:List MPack) (i n:Nat) (H:List Entry),l.drop i=r→i+r.length=l.length→r.length < n→qfkb ((l.take i).map (·.Name)) ((l.take i).map (·.Uses)) H→∀ k m,
   ∃ H',qqs k m n (.ptr 0 2 0 0 0) (encL 4 MPack.enc l) l.length i H=some ([.one (.ptr 0 2 0 0 0)],H')∧qfkb (l.map (·.Name)) (l.map (·.Uses)) H':=by
  intro r
  induction r with
  | nil=>
   intro i n H hd hi hn ht k m
   obtain⟨n,rfl⟩:∃ j,n=j+1:=⟨n - 1,by omega⟩
   have h1:=drop_nil hd
   rw[List.take_of_length_le h1] at ht
   refine⟨H,?_,ht⟩
   simp only[qqs]
   rw[decide_eq_false (by omega),cond_false]
  | cons x r ih=>
   intro i n H hd hi hn ht k m
   obtain⟨n,rfl⟩:∃ j,n=j+1:=⟨n - 1,by omega⟩
   obtain⟨hlt,hx,hd'⟩:=qbe hd
   simp only[List.length_cons] at hn hi
   have e1:∀ {β:Type} (f:MPack→β),(l.take i).map f++[f x]=(l.take (i+1)).map f:=fun f=>by rw[List.take_add_one,hx];simp
   obtain⟨c0,p,H1,c1,q,H2,a1,a2,a3,a4,a5,a6,ht'⟩:=ht.step x.Name x.Uses (by simp;omega) (by simp;omega)
   rw[e1,e1] at ht'
   obtain⟨H',z1,z2⟩:=ih (i+1) n H2 hd' (by omega) (by omega) ht' k m
   refine⟨H',?_,z2⟩
   have hrk:∀ (f:List Cell→Option Res),restK [encL 1 eStr x.Uses] f=f [qif x.Uses]:=fun f=>by simp[restK,mapO,qvn,encL]
   have hsr:∀ G,qaf G 1 (.lst true 1 (chunks 1 1 [qif x.Uses]))=some [[qif x.Uses]]:=fun G=>by simp[qaf,rowsOf,chunks]
   obtain⟨d1,b1,b2⟩:=Option.bind_eq_some_iff.1 a1
   obtain⟨d4,b4,b5⟩:=Option.bind_eq_some_iff.1 a4
   simp only[qqs]
   rw[decide_eq_true (by omega),cond_true]
   simp only[qdd,hx,MPack.enc,EV0]
   simp only[ptrC,qcd,Nat.zero_add,Option.bind_some,b1,b2,a2,a3,b4,b5,hrk,hsr,a5,a6]
   rw[qaj (by omega)]
   exact z1
 obtain⟨H,h1,h2⟩:=loop l 0 (l.length+1+1) [Entry.mk 2 [[.lst true 1 [],.lst true 1 []]] 0 false] rfl (by omega) (by omega) (.inl ⟨rfl,rfl,rfl⟩) (l.length+1+1) (l.length+1+1)
 refine⟨H,h2,qwr (l.length+1) ?_⟩
 simpa[faj] using h1
theorem qfkb.graph {ns:List Str}{us:List (List Str)}{H:List Entry}(h:qfkb ns us H)(hl:ns.length=us.length):∃ ids,GraphM H ids 0 ns us:=by
 rcases h with⟨rfl,rfl,rfl⟩ | ⟨e1,e2,rfl⟩
 ·exact⟨[0],by simp,by simp,rfl,.lst true 1 [],.lst true 1 [],false,rfl,.nil _ _,.inl ⟨rfl,rfl⟩⟩
 ·refine⟨[0,1,2],by simp,by simp,hl,_,_,false,rfl,?_,.inr ⟨2,e2,false,us.map qfn,rfl,by simp,rfl,by simp,fun j xs hj=>⟨qif xs,by rw[List.getElem?_map,hj];rfl,(qbq.canon _ _).mono (by simp)⟩⟩⟩
  have:=(GrowAt.list (A:=[Entry.mk 2 [[.vs 1 1 0 ns.length e1,.vs 2 1 0 us.length e2]] 0 false]) (T:=[Entry.mk 1 (ns.map eStr) e1 false]) (c:=.vs 1 1 0 ns.length e1) (xs:=ns) (.inr ⟨e1,by simp,rfl⟩))
  obtain⟨is,r1,r2,r3⟩:=this
  refine((qbq.of (n:=2) (r1.app [Entry.mk 1 (us.map qfn) e2 false])).mono fun j hj=>?_ :)
  have:=r3 j hj
  simp at this
  simp[this]
theorem qiy {l:List MPack}(hl:bdL 1048576 (MPack.Bd 1048576) l):∀ d∈l.map (·.Uses),d.length≤1073741824:=fun d hd=>by
 obtain⟨p,hp,rfl⟩:=List.mem_map.1 hd
 exact Nat.le_trans (hl.2 p hp).2.1.1 (by omega)
def qbl (l:List MPack):List Str×Bool:=qjx (l.map (·.Name)) (l.map (·.Uses))
theorem qpyb (l:List MPack)(hl:bdL 1048576 (MPack.Bd 1048576) l):bdL 1048576 (bdS 1048576) (qbl l).1:=by
 obtain⟨h1,h2⟩:=qws (l.map (·.Name)) (l.map (·.Uses))
 have:=hl.1
 refine⟨Nat.le_trans h1 (by simpa using this),fun x hx=>?_⟩
 obtain⟨p,hp,rfl⟩:=List.mem_map.1 (h2 x hx)
 exact(hl.2 p hp).1
theorem f_fae (l:List MPack)(hl:bdL 1048576 (MPack.Bd 1048576) l):Fresh qns true 2 [.one (encL 4 MPack.enc l)] [.one (trL 1 qbw (qbl l).1),.one (.leaf (.bool (qbl l).2))]:=by
 have h1:=hl.1
 obtain⟨H,g1,e1⟩:=qqeb l hl
 obtain⟨ids,hG⟩:=g1.graph (by simp)
 obtain⟨c',H',is,e2,r1,r2⟩:=qgvb hG (by simpa using h1) (qiy hl)
 refine Fresh.one1 (n:=1) (qzt 0 ?_) r1 r2
 simp only[fae,e1,e2,EV0]
 rfl
theorem qmr:∀ {a b:List Str},a.Pairwise (· < ·)→b.Pairwise (· < ·)→(∀ x,x∈a↔x∈b)→a=b:=by
 intro a
 induction a with
 | nil=>
  intro b _ _ h
  cases b with
  | nil=>rfl
  | cons y b=>exact absurd ((h y).2 List.mem_cons_self) (by simp)
 | cons x a ih=>
  intro b ha hb h
  cases b with
  | nil=>exact absurd ((h x).1 List.mem_cons_self) (by simp)
  | cons y b=>
   obtain⟨a1,a2⟩:=List.pairwise_cons.1 ha
   obtain⟨b1,b2⟩:=List.pairwise_cons.1 hb
   have hxy:x=y:=by
    rcases List.mem_cons.1 ((h x).1 List.mem_cons_self) with e | e
    ·exact e
    ·rcases List.mem_cons.1 ((h y).2 List.mem_cons_self) with e' | e'
     ·exact e'.symm
     ·exact absurd (List.lt_trans (b1 x e) (a1 y e')) (List.lt_irrefl _)
   subst hxy
   congr 1
   refine ih a2 b2 fun z=>⟨fun hz=>?_,fun hz=>?_⟩
   ·rcases List.mem_cons.1 ((h z).1 (List.mem_cons_of_mem _ hz)) with rfl | e
    ·exact absurd (a1 z hz) (List.lt_irrefl _)
    ·exact e
   ·rcases List.mem_cons.1 ((h z).2 (List.mem_cons_of_mem _ hz)) with rfl | e
    ·exact absurd (b1 z hz) (List.lt_irrefl _)
    ·exact e
def qbv (xs:List Str):List Str:=Lib.compact (quw xs)
theorem qbj (xs:List Str):(qbv xs).Pairwise (· < ·)∧∀ x,x∈qbv xs↔x∈xs:=by
 have hp:(quw xs).Pairwise (fun a b=>a≤b):=by
  have:=List.pairwise_mergeSort (le:=fun x y:Str=>decide (x≤y)) (fun a b c h1 h2=>by simp only[decide_eq_true_eq] at*;exact List.le_trans h1 h2) (fun a b=>by simpa using List.le_total a b) xs
  simpa[quw] using this
 have hm:∀ x,x∈quw xs↔x∈xs:=fun x=>List.mem_mergeSort
 generalize hs:quw xs=s at hp hm
 have key:∀ m,m < s.length→∃ C,Lib.compactUpTo s.toArray (m+1)=C++[s[m]!]∧(C++[s[m]!]).Pairwise (· < ·)∧∀ x,x∈C++[s[m]!]↔x∈s.take (m+1):=by
  intro m
  induction m with
  | zero=>
   intro h
   obtain⟨x,r,rfl⟩:∃ x r,s=x::r:=by cases s with | nil=>simp at h | cons x r=>exact⟨x,r,rfl⟩
   exact⟨[],by rw[Lib.compactUpTo_succ];simp[Lib.compactUpTo,Lib.keeps],by simp,by simp⟩
  | succ m ih=>
   intro h
   obtain⟨C,h1,h2,h3⟩:=ih (by omega)
   have e0:s[m]! =s[m]:=by simp[show m < s.length by omega]
   have e1:s[m+1]! =s[m+1]:=by simp[h]
   have ht:s.take (m+1+1)=s.take (m+1)++[s[m+1]]:=by rw[List.take_add_one,List.getElem?_eq_getElem h];rfl
   have hle:s[m]≤s[m+1]:=List.pairwise_iff_getElem.1 hp m (m+1) (by omega) h (by omega)
   rw[Lib.compactUpTo_succ,h1]
   have hk:Lib.keeps s.toArray (m+1)=decide (s[m+1]≠s[m]):=by
    simp[Lib.keeps,h,show m < s.length by omega]
   rw[hk,e1,ht]
   by_cases he:s[m+1]=s[m]
   ·refine⟨C,by simp[he,e0],by rw[he,← e0];exact h2,fun x=>?_⟩
    have h4:=h3 x
    rw[e0] at h4
    rw[he]
    constructor
    ·exact fun h=>List.mem_append_left _ (h4.1 h)
    ·intro h
     rcases List.mem_append.1 h with h | h
     ·exact h4.2 h
     ·exact List.mem_append_right _ h
   ·refine⟨C++[s[m]!],by simp[he,h],?_,fun x=>?_⟩
    ·refine List.pairwise_append.2 ⟨h2,by simp,fun a ha b hb=>?_⟩
     simp only[List.mem_singleton] at hb
     subst hb
     have hlt:s[m] < s[m+1]:=by
      rcases Classical.em (s[m] < s[m+1]) with h | h
      ·exact h
      ·exact absurd (List.le_antisymm (List.not_lt.1 h) hle) he
     rcases List.mem_append.1 ha with ha | ha
     ·have:=(List.pairwise_append.1 h2).2.2 a ha s[m]! (by simp)
      rw[e0] at this
      exact List.lt_trans this hlt
     ·simp only[List.mem_singleton] at ha
      rw[ha,e0]
      exact hlt
    ·rw[List.mem_append,h3 x,List.mem_append]
 unfold qbv
 rw[hs]
 cases hl:s.length with
 | zero=>
  have:s=[]:=List.eq_nil_of_length_eq_zero hl
  subst this
  exact⟨by simp[Lib.compact,Lib.compactUpTo],fun x=>by rw[← hm x];simp[Lib.compact,Lib.compactUpTo]⟩
 | succ m=>
  obtain⟨C,h1,h2,h3⟩:=key m (by omega)
  have he:Lib.compact s=C++[s[m]!]:=by rw[Lib.compact,hl,h1]
  rw[he]
  refine⟨h2,fun x=>?_⟩
  rw[h3 x,← hm x,List.take_of_length_le (by omega)]
theorem qwp (xs:List Str):(qbv xs).length≤xs.length:=Nat.le_trans (qpf _) (Nat.le_of_eq (List.length_mergeSort xs))
theorem qngb (xs:List Str)(hx:xs.length≤1073741824):Fresh qhz true 2 [.one (qif xs)] [.one (trL 1 qbw (qbv xs))]:=by
 obtain⟨c1,E1,i1,e1,r1,w1,g1⟩:=qkf (f_fax xs hx) ([]:List Entry) (qcv [.one (qif xs)] _ _)
 rw[List.nil_append] at e1 r1
 rcases r1 with⟨h1,_,f,rfl⟩ | ⟨id,off,ep,e,fr,is,rfl,rfl,he,hq,hwh,hl,hr,hs⟩
 ·simp only[List.map_eq_nil_iff] at h1
  subst h1
  have hnil:qbv []=[]:=by simp[qbv,quw,Lib.compact,Lib.compactUpTo]
  have h2:qoo [.one (.lst f 1 [])] E1=some ([],E1):=rfl
  have h3:qmo [.one (.lst f 1 [])] E1=some ([.one (.lst f 1 [])],E1):=rfl
  have h4:qkm [.one (.lst f 1 [])] E1=some ([.one (.lst true 1 [])],E1):=qnt 0 (by simp[faw,slcC,qmt])
  refine Fresh.one (c:=.lst true 1 []) (H:=E1) (ids:=[]) (qny 0 ?_) (.inl ⟨by rw[hnil];rfl,rfl,true,rfl⟩) (by simp)
  simp only[fag,e1,h2,h3,h4,EV0]
 ·obtain⟨rfl,hle⟩:=hwh rfl
  obtain rfl:=hq rfl
  rw[List.drop_zero,hle,List.take_of_length_le (Nat.le_refl _)] at hs
  have hrows:e=xs.map eStr:=by
   have key:∀ {is:List Nat} {e:List (List Cell)} {xs:List Str},Sp (Sp (Rep E1 true true 1)) is e (xs.map qbw)→(∀ r∈e,r.length=1)→e=xs.map eStr:=by
    intro is e xs
    induction xs generalizing is e with
    | nil=>intro h _;obtain⟨_,rfl⟩:=h.nil_inv;rfl
    | cons x xs ih=>
     intro h hl
     obtain⟨i,i',a,as',rfl,rfl,h1,h2⟩:=h.cons_inv
     obtain⟨r',rfl,h3⟩:=h1.leaf_inv
     have:=hl _ List.mem_cons_self
     have:r'=[]:=List.eq_nil_of_length_eq_zero (by simpa using this)
     subst this
     rw[ih h2 fun r hr=>hl r (List.mem_cons_of_mem _ hr)]
     rfl
   exact key hs hr
  subst hrows
  simp only[List.length_map] at hle
  have hv:vecS E1 id 1 0 (xs.map qbw).length ep=some xs:=by
   simp[vecS,entry?,he,qjp]
   omega
  have h2:qoo [.one (.vs id 1 0 (xs.map qbw).length ep)] E1=some ([],E1.set id ⟨1,(quw xs).map eStr,ep,false⟩):=by
   show qjf _ _=_
   simp only[qjf,hv]
  have hid:id < E1.length:=(List.getElem?_eq_some_iff.1 he).1
  have hv2:vecS (E1.set id ⟨1,(quw xs).map eStr,ep,false⟩) id 1 0 (xs.map qbw).length ep=some (quw xs):=by
   have:(quw xs).length=xs.length:=List.length_mergeSort xs
   simp[vecS,entry?,hid,qjp,this]
   omega
  have h3:qmo [.one (.vs id 1 0 (xs.map qbw).length ep)] (E1.set id ⟨1,(quw xs).map eStr,ep,false⟩)=some ([.one (.vs id 1 0 (qbv xs).length ep)],(E1.set id ⟨1,(quw xs).map eStr,ep,false⟩).set id ⟨1,(qbv xs).map eStr,ep,false⟩):=by
   show qea _ _=_
   simp only[qea,hv2]
   rfl
  rw[List.set_set] at h3
  have h4:qkm [.one (.vs id 1 0 (qbv xs).length ep)] (E1.set id ⟨1,(qbv xs).map eStr,ep,false⟩)=some ([.one (.vs id 1 0 (qbv xs).length ep)],E1.set id ⟨1,(qbv xs).map eStr,ep,false⟩):=qnt 0 (by simp[faw,slcC])
  refine Fresh.one (c:=.vs id 1 0 (qbv xs).length ep) (H:=E1.set id ⟨1,(qbv xs).map eStr,ep,false⟩) (ids:=[id]) (qny 0 ?_) (.inr ⟨id,0,ep,(qbv xs).map eStr,false,[],by simp,rfl,by simp[hid],fun _=>rfl,fun _=>⟨rfl,by simp⟩,by simp,?_,?_⟩) (by simp)
  ·simp only[fag,e1,h2,h3,h4,EV0]
  ·intro r hr
   obtain⟨x,_,rfl⟩:=List.mem_map.1 hr
   rfl
  ·rw[List.drop_zero,List.take_of_length_le (by simp)]
   have:∀ (l:List Str) (G:List Entry),Sp (Sp (Rep G true true 1)) [] (l.map eStr) (l.map qbw):=by
    intro l G
    induction l with
    | nil=>exact .nil
    | cons x l ih=>exact .cons (i:=[]) (is:=[]) (Sp.leaf1 _) ih
   exact this _ _
def byOf (names:List Str)(next:List (List Str))(s:Str):List Str:=((names.zip next).filter fun p=>p.2.contains s).map (·.1)
theorem gm_by {H:List Entry}{ids:List Nat}{g:Nat}{names:List Str}{next:List (List Str)}(h:GraphM H ids g names next)(h1:names.length≤1048576)(h3:∀ d∈next,d.length≤1073741824)(s:Str):
  ∃ c T,qgu [.one (.ptr g 2 0 0 0),.one (Cell.str (bs s))] H=some ([.one c],H++T)∧GrowAt H.length 1 c T ((byOf names next s).map eStr):=by
 have hM:=qar
 have hG:∀ T,GraphM (H++T) ids g names next:=fun T=>h.app (fun j hj=>by rw[List.getElem?_append_left (h.lt j hj)]) (by simp)
 obtain⟨_,hlt,hlen,cn,co,fr,he,hn,ho⟩:=h
 have hgl:g < H.length:=(List.getElem?_eq_some_iff.1 he).1
 have d0:∀ T,deref (H++T) (.ptr g 2 0 0 0)=some ([cn,co],0):=fun T=>by simp[deref,entry?,List.getElem?_append_left hgl,he]
 have d1:deref H (.ptr g 2 0 1 0)=some ([cn,co],1):=by simp[deref,entry?,he]
 have fr':∀ (T:List Entry),∀ j∈ids,(H++T)[j]?=H[j]?:=fun T j hj=>List.getElem?_append_left (hlt j hj)
 have loop:∀ (r:List (Str×List Str)) (i n:Nat) (acc:List Str) (c:Cell) (T:List Entry),(names.zip next).drop i=r→r.length < n→acc.length≤i→GrowAt H.length 1 c T (acc.map eStr)→∀ k m,
   ∃ c' T',qnr k m n (.ptr g 2 0 0 0) (bs s) c co next.length i (H++T)=some ([.one c'],H++T')∧GrowAt H.length 1 c' T' ((acc++(r.filter fun p=>p.2.contains s).map (·.1)).map eStr):=by
  intro r
  induction r with
  | nil=>
   intro i n acc c T hd hn' ha hg k m
   obtain⟨n,rfl⟩:∃ j,n=j+1:=⟨n - 1,by omega⟩
   have:=drop_nil hd
   simp only[List.length_zip] at this
   refine⟨c,T,?_,by simpa using hg⟩
   simp only[qnr]
   rw[decide_eq_false (by omega),cond_false]
  | cons x r ih=>
   intro i n acc c T hd hn' ha hg k m
   obtain⟨n,rfl⟩:∃ j,n=j+1:=⟨n - 1,by omega⟩
   obtain⟨hlt',hx,hd'⟩:=qbe hd
   simp only[List.length_cons] at hn'
   simp only[List.length_zip] at hlt'
   obtain⟨nm,d⟩:=x
   obtain⟨hxn,hxd⟩:names[i]?=some nm∧next[i]?=some d:=by
    rw[List.getElem?_zip_eq_some] at hx
    exact hx
   obtain⟨a,dc,i1,i2,i3⟩:=(ho.frame (fr' T)).at hxd
   have q1:qeh qbm [.one dc,.one (Cell.str (bs s))] (H++T)=some [.one (Cell.bool (d.contains s))]:=by
    rw[qdn (qcj i3.read (qcj (qau _ _ _) (qbd _)))]
    exact qeub d s (h3 d (List.mem_of_getElem? hxd))
   simp only[qnr]
   rw[decide_eq_true (by omega),cond_true]
   simp only[i1,i2,q1,qaj (show i < maxLen by omega),EV0]
   cases hc:d.contains s with
   | false=>
    rw[cond_false]
    obtain⟨c',T',z1,z2⟩:=ih (i+1) n acc c T hd' (by omega) (by omega) hg k m
    have hf:((nm,d)::r).filter (fun p=>p.2.contains s)=r.filter fun p=>p.2.contains s:=by simp only[List.filter_cons,hc];rfl
    exact⟨c',T',z1,by rw[hf];exact z2⟩
   | true=>
    rw[cond_true]
    obtain⟨a2,row,off,j1,j2,j3⟩:=(hn.frame (fr' T)).at hxn
    obtain⟨c1,T1,a1,g1⟩:=qidb (A:=H) (by':=16) hg (eStr nm) (by simp[bound];omega) (by simp[bound];omega)
    have hrow:acc.map eStr++[eStr nm]=(acc++[nm]).map eStr:=by simp
    rw[hrow] at g1
    obtain⟨c',T',z1,z2⟩:=ih (i+1) n (acc++[nm]) c1 T1 hd' (by omega) (by simp;omega) g1 k m
    have hf:((nm,d)::r).filter (fun p=>p.2.contains s)=(nm,d)::r.filter fun p=>p.2.contains s:=by simp only[List.filter_cons,hc];rfl
    refine⟨c',T',?_,by rw[hf,List.map_cons,List.append_cons];exact z2⟩
    simp only[eStr] at a1
    simp only[ptrC,qcd,Nat.zero_add,d0,qeo,j1,j2,j3,a1,Option.bind_some]
    exact z1
 obtain⟨c,T,z1,z2⟩:=loop (names.zip next) 0 (next.length+1+1) [] (.lst true 1 []) [] rfl (by simp;omega) (by simp) (.inl ⟨rfl,rfl,rfl⟩) (next.length+1+1) (next.length+1+1)
 refine⟨c,T,qwh (next.length+1) ?_,z2⟩
 rw[List.append_nil] at z1
 simp only[fal,ptrC,qcd,Nat.zero_add,d1,qrx,qeo,ho.len,Option.bind_some]
 exact z1
def qck (l:List MPack)(s:Str):List Str:=(l.filter fun p=>p.Uses.contains s).map (·.Name)
def qin (l:List MPack)(s:Str):List Str:=qbv (qck l s)
theorem qgtb (l:List MPack)(hl:bdL 1048576 (MPack.Bd 1048576) l)(s:Str)(hs:bdS 1048576 s):bdL 1048576 (bdS 1048576) (qin l s):=by
 have h1:=hl.1
 refine⟨Nat.le_trans (qwp _) (Nat.le_trans (by simp only[qck,List.length_map];exact List.length_filter_le _ _) h1),fun x hx=>?_⟩
 have hx:=((qbj _).2 x).1 hx
 obtain⟨p,hp,rfl⟩:=List.mem_map.1 hx
 exact(hl.2 p (List.mem_filter.1 hp).1).1
theorem f_fah (l:List MPack)(hl:bdL 1048576 (MPack.Bd 1048576) l)(s:Str)(hs:bdS 1048576 s):Fresh qoy true 2 [.one (encL 4 MPack.enc l),.one (Cell.str (bs s))] [.one (trL 1 qbw (qin l s))]:=by
 have h1:=hl.1
 have hbl:(qck l s).length≤1048576:=Nat.le_trans (by simp only[qck,List.length_map];exact List.length_filter_le _ _) h1
 have hby:byOf (l.map (·.Name)) (l.map (·.Uses)) s=qck l s:=by
  unfold byOf qck
  rw[List.zip_map',List.filter_map,List.map_map]
  rfl
 obtain⟨H,g1,e1⟩:=qqeb l hl
 obtain⟨ids,hG⟩:=g1.graph (by simp)
 obtain⟨c,T,e2,g2⟩:=gm_by hG (by simpa using h1) (qiy hl) s
 rw[hby] at g2
 obtain⟨is,r1,r2,_⟩:=g2.list
 refine Fresh.tailO (qngb (qck l s) (by omega)) (H++T) (qcj (qbq.of (n:=2) r1).read (qbd _)) fun c' E hc=>qwf 0 ?_
 simp only[fah,e1,e2,hc,EV0]
open Classical in
noncomputable def qhd (nx:Str→List Str)(a:Str):List Str:=if h:∃ o:List Str,∀ x,x∈o↔Reach nx a x then qbv h.choose else []
theorem qef {nx:Str→List Str}{a:Str}{o:List Str}(h:∀ x,x∈o↔Reach nx a x):qhd nx a=qbv o:=by
 have hh:∃ o:List Str,∀ x,x∈o↔Reach nx a x:=⟨o,h⟩
 unfold qhd
 rw[dif_pos hh]
 refine qmr (qbj _).1 (qbj _).1 fun x=>?_
 rw[(qbj _).2 x,(qbj _).2 x,h x,hh.choose_spec x]
theorem qev {H0:List Entry}{ids:List Nat}{g:Nat}{names:List Str}{next:List (List Str)}(hG:GraphM H0 ids g names next)(nx:Str→List Str)(U:List Str)(hU:U.length≤1048576)(hm:∀ x,∀ y∈nx x,y∈U)(hl:∀ x,(nx x).length≤1048576)
  (hnext:∀ (H:List Entry) (x:Str),GraphM H ids g names next→∃ d H' ds,qdj [.one (.ptr g 2 0 0 0),.one (Cell.str (bs x))] H=some ([.one d],H')∧qbq H' ds d (nx x)∧H.length≤H'.length∧(∀ j,j < H.length→H'[j]?=H[j]?)∧(∀ j∈ds,j < H'.length∧(j < H0.length∨H.length≤j))) (s:Str):
  ∃ c H' is,qfc [.one (Cell.str (bs s)),.one (.fn qca [.ptr g 2 0 0 0] [])] H0=some ([.one c],H')∧Rep H' true true 2 is c (trL 1 qbw (qhd nx s))∧is.Nodup∧H0.length≤H'.length∧∀ j,j < H0.length→H'[j]?=H0[j]?:=by
 have hM:=qar
 have hreach:∀ x,Reach nx s x→x∈U:=fun x h=>by
  cases h with
  | one h=>exact hm _ _ h
  | step _ k=>exact hm _ _ k
 have L2:∀ (ys:List Str),ys.length≤1048576→∀ (r:List Str) (i n:Nat) (H:List Entry) (i1 i2 ds:List Nat) (cr cm cy cf:Cell) (row more:List Str) (a b:Int),ys.drop i=r→r.length < n→RM H0.length H i1 i2 cr cm row more→H0.length≤H.length→
   qbq H ds cy ys→(∀ j∈ds,j < H.length∧j∉i1∧j∉i2)→(row++qcq row r).length≤1048576→more.length≤row.length→∀ (b0:Cell→Cell→Cell→List Entry→Option Res) (b1:Cell→Cell→Cell→Cell→Int→Int→List Entry→Option Res) k m,
   ∃ cr' cm' H' j1 j2,qay k m b0 b1 n (.ptr g 2 0 0 0) cr cm cf a b cy ys.length i H=b1 (.ptr g 2 0 0 0) cr' cm' cf a (IntKind.i64.wrap (b+1)) H'∧RM H0.length H' j1 j2 cr' cm' (row++qcq row r) (more++qcq row r)∧H.length≤H'.length∧
    (∀ j,j < H.length→j∉i1→j∉i2→H'[j]?=H[j]?)∧(∀ j∈j1,j∈i1∨H.length≤j)∧∀ j∈j2,j∈i2∨H.length≤j:=by
  intro ys hys r
  induction r with
  | nil=>
   intro i n H i1 i2 ds cr cm cy cf row more a b hd hn hr hN hy hds hb hmr b0 b1 k m
   obtain⟨n,rfl⟩:∃ j,n=j+1:=⟨n - 1,by omega⟩
   have:=drop_nil hd
   refine⟨cr,cm,H,i1,i2,?_,by simpa[qcq] using hr,Nat.le_refl _,fun _ _ _ _=>rfl,fun j h=>.inl h,fun j h=>.inl h⟩
   simp only[qay]
   rw[decide_eq_false (by omega),cond_false]
  | cons y r ih=>
   intro i n H i1 i2 ds cr cm cy cf row more a b hd hn hr hN hy hds hb hmr b0 b1 k m
   obtain⟨n,rfl⟩:∃ j,n=j+1:=⟨n - 1,by omega⟩
   obtain⟨hlt,hx,hd'⟩:=qbe hd
   simp only[List.length_cons] at hn
   obtain⟨a1,rw1,off,t1,t2,t3⟩:=hy.at hx
   have hrl:row.length≤1048576:=by simp at hb;omega
   have q1:qeh qbm [.one cr,.one (Cell.str (bs y))] H=some [.one (Cell.bool (row.contains y))]:=by
    rw[qdn (qcj (qbq.of (n:=2) hr.1).read (qcj (qau _ _ _) (qbd _)))]
    exact qeub row y (by omega)
   simp only[qay]
   rw[decide_eq_true (by omega),cond_true]
   simp only[t1,t2,t3,q1,qaj (show i < maxLen by omega),EV0]
   unfold qcq at hb ⊢
   cases hc:row.contains y with
   | true=>
    rw[hc,cond_true] at hb
    simp only[Bool.not_true,cond_false,cond_true]
    exact ih (i+1) n H i1 i2 ds cr cm cy cf row more a b hd' (by omega) hr hN hy hds hb hmr b0 b1 k m
   | false=>
    rw[hc,cond_false,List.append_cons] at hb
    obtain⟨p,q,j1,j2,e1,e2,hr',m1,k1,g1,g2⟩:=hr.push hN y (by omega) (by omega)
    simp only[Bool.not_false,cond_true,cond_false,e1,e2,Option.bind_some]
    obtain⟨cr',cm',H',l1,l2,z1,z2,z3,z4,z5,z6⟩:=ih (i+1) n q.2 j1 j2 ds p.1 q.1 cy cf (row++[y]) (more++[y]) a b hd' (by omega) hr' (by omega) (hy.frame fun j hj=>by
     obtain⟨d1,d2,d3⟩:=hds j hj
     exact k1 j d1 d2 d3) (fun j hj=>by
     obtain⟨d1,d2,d3⟩:=hds j hj
     refine⟨by omega,fun h=>?_,fun h=>?_⟩
     ·rcases g1 j h with h | h
      ·exact d2 h
      ·omega
     ·rcases g2 j h with h | h
      ·exact d3 h
      ·omega) hb (by simp;omega) b0 b1 k m
    refine⟨cr',cm',H',l1,l2,z1,by rw[List.append_cons,List.append_cons more];exact z2,by omega,fun j hj n1 n2=>?_,fun j hj=>?_,fun j hj=>?_⟩
    ·rw[z4 j (by omega) (fun h=>?_) fun h=>?_,k1 j hj n1 n2]
     ·rcases g1 j h with h | h
      ·exact n1 h
      ·omega
     ·rcases g2 j h with h | h
      ·exact n2 h
      ·omega
    ·rcases z5 j hj with h | h
     ·exact g1 j h
     ·exact .inr (by omega)
    ·rcases z6 j hj with h | h
     ·exact g2 j h
     ·exact .inr (by omega)
 have L1:∀ (fr:List Str),fr.length≤1048577→∀ (r:List Str) (i n:Nat) (H:List Entry) (i1 i2 fs:List Nat) (cr cm cf:Cell) (row more:List Str),fr.drop i=r→r.length < n→RM H0.length H i1 i2 cr cm row more→H0.length≤H.length→(∀ j,j < H0.length→H[j]?=H0[j]?)→
   qbq H fs cf fr→(∀ j∈fs,j < H.length∧j∉i1∧j∉i2)→Found nx s row (r++more)→more.length≤row.length→∀ (b0:Cell→Cell→Cell→List Entry→Option Res) k m,1048576 < m→
   ∃ cr' cm' H' j1 j2 row' more',qax k m b0 n (.ptr g 2 0 0 0) cr cm cf fr.length i H=b0 (.ptr g 2 0 0 0) cr' cm' H'∧RM H0.length H' j1 j2 cr' cm' row' more'∧H0.length≤H'.length∧(∀ j,j < H0.length→H'[j]?=H0[j]?)∧Found nx s row' more'∧more'.length≤row'.length∧row.length+more'.length≤row'.length+more.length:=by
  intro fr hfr r
  induction r with
  | nil=>
   intro i n H i1 i2 fs cr cm cf row more hd hn hr hN h0 hf hfs hF hmr b0 k m hm'
   obtain⟨n,rfl⟩:∃ j,n=j+1:=⟨n - 1,by omega⟩
   have:=drop_nil hd
   refine⟨cr,cm,H,i1,i2,row,more,?_,hr,hN,h0,hF,hmr,by omega⟩
   simp only[qax]
   rw[decide_eq_false (by omega),cond_false]
  | cons x r ih=>
   intro i n H i1 i2 fs cr cm cf row more hd hn hr hN h0 hf hfs hF hmr b0 k m hm'
   obtain⟨n,rfl⟩:∃ j,n=j+1:=⟨n - 1,by omega⟩
   obtain⟨hlt,hx,hd'⟩:=qbe hd
   simp only[List.length_cons] at hn
   obtain⟨a1,rw1,off,t1,t2,t3⟩:=hf.at hx
   have hGH:GraphM H ids g names next:=hG.app (fun j hj=>h0 j (hG.lt j hj)) hN
   obtain⟨d,H1,ds,u1,u2,u3,u4,u5⟩:=hnext H x hGH
   have hr1:=hr.frame u4
   have hF':=hF.next
   have hrow':(row++qcq row (nx x)).length≤U.length:=qcf hF'.nd fun y hy=>hreach y (hF'.ro y hy)
   have hb:∀ j,(j∈i1∨j∈i2)→H0.length≤j∧j < H.length:=fun j hj=>by
    obtain⟨p1,p2,_,_,_,_,_,p3,p4⟩:=hr
    rcases hj with hj | hj
    ·exact⟨p3 j hj,p1.lt j hj⟩
    ·exact⟨p4 j hj,p2.lt j hj⟩
   obtain⟨cr',cm',H',j1,j2,z1,z2,z3,z4,z5,z6⟩:=L2 (nx x) (hl x) (nx x) 0 m H1 i1 i2 ds cr cm d cf row more fr.length i rfl (by have:=hl x;omega) hr1 (by omega) u2 (fun j hj=>by
    obtain⟨d1,d2⟩:=u5 j hj
    refine⟨d1,fun h=>?_,fun h=>?_⟩
    ·have:=hb j (.inl h);omega
    ·have:=hb j (.inr h);omega) (by omega) hmr b0 (qax k m b0 n) k m
   have hfs':∀ j∈fs,j < H'.length∧j∉j1∧j∉j2:=fun j hj=>by
    obtain⟨d1,d2,d3⟩:=hfs j hj
    refine⟨by omega,fun h=>?_,fun h=>?_⟩
    ·rcases z5 j h with h | h
     ·exact d2 h
     ·omega
    ·rcases z6 j h with h | h
     ·exact d3 h
     ·omega
   obtain⟨cr2,cm2,H2,l1,l2,row2,more2,y1,y2,y3,y4,y5,y6,y7⟩:=ih (i+1) n H' j1 j2 fs cr' cm' cf (row++qcq row (nx x)) (more++qcq row (nx x)) hd' (by omega) z2 (by omega) (fun j hj=>by
    rw[z4 j (by omega) (fun h=>by have:=hb j (.inl h);omega) fun h=>by have:=hb j (.inr h);omega,u4 j (by omega),h0 j hj]) (hf.frame fun j hj=>by
    obtain⟨d1,d2,d3⟩:=hfs j hj
    rw[z4 j (by omega) d2 d3,u4 j d1]) hfs' (by rw[← List.append_assoc];exact hF') (by simp;omega) b0 k m hm'
   refine⟨cr2,cm2,H2,l1,l2,row2,more2,?_,y2,y3,y4,y5,y6,by simp at y7;omega⟩
   simp only[qax]
   rw[decide_eq_true (by omega),cond_true]
   simp only[t1,t2,t3,u1,u2.len,EV0]
   rw[show(0:Int)=((0:Nat):Int) from rfl,z1,qaj (by omega)]
   exact y1
 have L0:∀ (d:Nat) (H:List Entry) (i1 fs:List Nat) (cr cf:Cell) (row fr:List Str) (n:Nat),RM H0.length H i1 [] cr (.lst true 1 []) row []→H0.length≤H.length→(∀ j,j < H0.length→H[j]?=H0[j]?)→qbq H fs cf fr→(∀ j∈fs,j < H.length∧j∉i1)→Found nx s row fr→fr.length≤row.length+1→
   2*(U.length - row.length)+(if fr=[] then 0 else 1)≤d→d < n→∀ k m,1048577 < m→∃ c H' is,qap k m n (.ptr g 2 0 0 0) cr cf H=some ([.one c],H')∧Rep H' true true 2 is c (trL 1 qbw (qhd nx s))∧is.Nodup∧H0.length≤H'.length∧∀ j,j < H0.length→H'[j]?=H0[j]?:=by
  intro d
  induction d with
  | zero=>
   intro H i1 fs cr cf row fr n hr hN h0 hf hfs hF hfl hd hn k m hm'
   obtain⟨n,rfl⟩:∃ j,n=j+1:=⟨n - 1,by omega⟩
   have hfr:fr=[]:=by
    rcases Classical.em (fr=[]) with h | h
    ·exact h
    ·rw[if_neg h] at hd;omega
   subst hfr
   have hrl:row.length≤U.length:=qcf hF.nd fun y hy=>hreach y (hF.ro y hy)
   obtain⟨c',E,is,e1,r1,w1,_⟩:=qkf (qngb row (by omega)) H (qcj (qbq.of (n:=2) hr.1).read (qbd _))
   refine⟨c',H++E,is,?_,by rw[qef hF.done];exact r1,w1.nd,by simp;omega,fun j hj=>by rw[List.getElem?_append_left (by omega)];exact h0 j hj⟩
   simp only[qap,hf.len,List.length_nil,Option.bind_some]
   rw[decide_eq_false (by omega),cond_false]
   simp only[e1,EV0]
  | succ d ih=>
   intro H i1 fs cr cf row fr n hr hN h0 hf hfs hF hfl hd hn k m hm'
   obtain⟨n,rfl⟩:∃ j,n=j+1:=⟨n - 1,by omega⟩
   have hrl:row.length≤U.length:=qcf hF.nd fun y hy=>hreach y (hF.ro y hy)
   cases fr with
   | nil=>
    obtain⟨c',E,is,e1,r1,w1,_⟩:=qkf (qngb row (by omega)) H (qcj (qbq.of (n:=2) hr.1).read (qbd _))
    refine⟨c',H++E,is,?_,by rw[qef hF.done];exact r1,w1.nd,by simp;omega,fun j hj=>by rw[List.getElem?_append_left (by omega)];exact h0 j hj⟩
    simp only[qap,hf.len,List.length_nil,Option.bind_some]
    rw[decide_eq_false (by omega),cond_false]
    simp only[e1,EV0]
   | cons x fr=>
    rw[if_neg (by simp)] at hd
    obtain⟨cr',cm',H',j1,j2,row',more',z1,z2,z3,z4,z5,z6,z7⟩:=L1 (x::fr) (by omega) (x::fr) 0 m H i1 [] fs cr (.lst true 1 []) cf row [] rfl (by omega) hr hN h0 hf (fun j hj=>⟨(hfs j hj).1,(hfs j hj).2,by simp⟩) (by simpa using hF) (by simp) (qap k m n) k m (by omega)
    have hrl':row'.length≤U.length:=qcf z5.nd fun y hy=>hreach y (z5.ro y hy)
    simp only[List.length_nil] at z7
    obtain⟨c,H2,is,y1,y2,y3⟩:=ih H' j1 j2 cr' cm' row' more' n z2.anew z3 z4 (qbq.of (n:=2) z2.2.1) (fun j hj=>⟨z2.2.1.lt j hj,fun h=>z2.2.2.2.2.2.2.1 j h hj⟩) z5 (by omega) (by
     by_cases hm0:more'=[]
     ·rw[if_pos hm0];omega
     ·rw[if_neg hm0]
      have:=List.length_pos_iff.2 hm0
      omega) (by omega) k m hm'
    refine⟨c,H2,is,?_,y2,y3⟩
    simp only[qap,hf.len,Option.bind_some]
    rw[decide_eq_true (by simp),cond_true,show(0:Int)=((0:Nat):Int) from rfl,z1]
    exact y1
 obtain⟨c,H',is,z1,z2,z3⟩:=L0 (2*U.length+1) H0 [] [] (.lst true 1 []) (.lst true 1 ([s].map eStr)) [] [s] (2*U.length+1048577+1) (RM.nil _ _).anew (Nat.le_refl _) (fun _ _=>rfl) (.inl ⟨true,rfl⟩) (by simp) (Found.start nx s) (by simp) (by simp) (by omega) (2*U.length+1048577+1) (2*U.length+1048577+1) (by omega)
 exact⟨c,H',is,qfu (2*U.length+1048577) (by simpa[qdk,eStr] using z1),z2,z3⟩
theorem qjy {H0:List Entry}{ids:List Nat}{g:Nat}{names:List Str}{next:List (List Str)}(hG:GraphM H0 ids g names next)(nx:Str→List Str)(U:List Str)(hU:U.length≤1048576)(hm:∀ x,∀ y∈nx x,y∈U)(hl:∀ x,(nx x).length≤1048576)
  (hnext:∀ (H:List Entry) (x:Str),GraphM H ids g names next→∃ d H' ds,qgu [.one (.ptr g 2 0 0 0),.one (Cell.str (bs x))] H=some ([.one d],H')∧qbq H' ds d (nx x)∧H.length≤H'.length∧(∀ j,j < H.length→H'[j]?=H[j]?)∧(∀ j∈ds,j < H'.length∧(j < H0.length∨H.length≤j))) (s:Str):
  ∃ c H' is,qfc [.one (Cell.str (bs s)),.one (.fn qda [.ptr g 2 0 0 0] [])] H0=some ([.one c],H')∧Rep H' true true 2 is c (trL 1 qbw (qhd nx s))∧is.Nodup∧H0.length≤H'.length∧∀ j,j < H0.length→H'[j]?=H0[j]?:=by
 have hM:=qar
 have hreach:∀ x,Reach nx s x→x∈U:=fun x h=>by
  cases h with
  | one h=>exact hm _ _ h
  | step _ k=>exact hm _ _ k
 have L2:∀ (ys:List Str),ys.length≤1048576→∀ (r:List Str) (i n:Nat) (H:List Entry) (i1 i2 ds:List Nat) (cr cm cy cf:Cell) (row more:List Str) (a b:Int),ys.drop i=r→r.length < n→RM H0.length H i1 i2 cr cm row more→H0.length≤H.length→
   qbq H ds cy ys→(∀ j∈ds,j < H.length∧j∉i1∧j∉i2)→(row++qcq row r).length≤1048576→more.length≤row.length→∀ (b0:Cell→Cell→Cell→List Entry→Option Res) (b1:Cell→Cell→Cell→Cell→Int→Int→List Entry→Option Res) k m,
   ∃ cr' cm' H' j1 j2,qav k m b0 b1 n (.ptr g 2 0 0 0) cr cm cf a b cy ys.length i H=b1 (.ptr g 2 0 0 0) cr' cm' cf a (IntKind.i64.wrap (b+1)) H'∧RM H0.length H' j1 j2 cr' cm' (row++qcq row r) (more++qcq row r)∧H.length≤H'.length∧
    (∀ j,j < H.length→j∉i1→j∉i2→H'[j]?=H[j]?)∧(∀ j∈j1,j∈i1∨H.length≤j)∧∀ j∈j2,j∈i2∨H.length≤j:=by
  intro ys hys r
  induction r with
  | nil=>
   intro i n H i1 i2 ds cr cm cy cf row more a b hd hn hr hN hy hds hb hmr b0 b1 k m
   obtain⟨n,rfl⟩:∃ j,n=j+1:=⟨n - 1,by omega⟩
   have:=drop_nil hd
   refine⟨cr,cm,H,i1,i2,?_,by simpa[qcq] using hr,Nat.le_refl _,fun _ _ _ _=>rfl,fun j h=>.inl h,fun j h=>.inl h⟩
   simp only[qav]
   rw[decide_eq_false (by omega),cond_false]
  | cons y r ih=>
   intro i n H i1 i2 ds cr cm cy cf row more a b hd hn hr hN hy hds hb hmr b0 b1 k m
   obtain⟨n,rfl⟩:∃ j,n=j+1:=⟨n - 1,by omega⟩
   obtain⟨hlt,hx,hd'⟩:=qbe hd
   simp only[List.length_cons] at hn
   obtain⟨a1,rw1,off,t1,t2,t3⟩:=hy.at hx
   have hrl:row.length≤1048576:=by simp at hb;omega
   have q1:qeh qbm [.one cr,.one (Cell.str (bs y))] H=some [.one (Cell.bool (row.contains y))]:=by
    rw[qdn (qcj (qbq.of (n:=2) hr.1).read (qcj (qau _ _ _) (qbd _)))]
    exact qeub row y (by omega)
   simp only[qav]
   rw[decide_eq_true (by omega),cond_true]
   simp only[t1,t2,t3,q1,qaj (show i < maxLen by omega),EV0]
   unfold qcq at hb ⊢
   cases hc:row.contains y with
   | true=>
    rw[hc,cond_true] at hb
    simp only[Bool.not_true,cond_false,cond_true]
    exact ih (i+1) n H i1 i2 ds cr cm cy cf row more a b hd' (by omega) hr hN hy hds hb hmr b0 b1 k m
   | false=>
    rw[hc,cond_false,List.append_cons] at hb
    obtain⟨p,q,j1,j2,e1,e2,hr',m1,k1,g1,g2⟩:=hr.push hN y (by omega) (by omega)
    simp only[Bool.not_false,cond_true,cond_false,e1,e2,Option.bind_some]
    obtain⟨cr',cm',H',l1,l2,z1,z2,z3,z4,z5,z6⟩:=ih (i+1) n q.2 j1 j2 ds p.1 q.1 cy cf (row++[y]) (more++[y]) a b hd' (by omega) hr' (by omega) (hy.frame fun j hj=>by
     obtain⟨d1,d2,d3⟩:=hds j hj
     exact k1 j d1 d2 d3) (fun j hj=>by
     obtain⟨d1,d2,d3⟩:=hds j hj
     refine⟨by omega,fun h=>?_,fun h=>?_⟩
     ·rcases g1 j h with h | h
      ·exact d2 h
      ·omega
     ·rcases g2 j h with h | h
      ·exact d3 h
      ·omega) hb (by simp;omega) b0 b1 k m
    refine⟨cr',cm',H',l1,l2,z1,by rw[List.append_cons,List.append_cons more];exact z2,by omega,fun j hj n1 n2=>?_,fun j hj=>?_,fun j hj=>?_⟩
    ·rw[z4 j (by omega) (fun h=>?_) fun h=>?_,k1 j hj n1 n2]
     ·rcases g1 j h with h | h
      ·exact n1 h
      ·omega
     ·rcases g2 j h with h | h
      ·exact n2 h
      ·omega
    ·rcases z5 j hj with h | h
     ·exact g1 j h
     ·exact .inr (by omega)
    ·rcases z6 j hj with h | h
     ·exact g2 j h
     ·exact .inr (by omega)
 have L1:∀ (fr:List Str),fr.length≤1048577→∀ (r:List Str) (i n:Nat) (H:List Entry) (i1 i2 fs:List Nat) (cr cm cf:Cell) (row more:List Str),fr.drop i=r→r.length < n→RM H0.length H i1 i2 cr cm row more→H0.length≤H.length→(∀ j,j < H0.length→H[j]?=H0[j]?)→
   qbq H fs cf fr→(∀ j∈fs,j < H.length∧j∉i1∧j∉i2)→Found nx s row (r++more)→more.length≤row.length→∀ (b0:Cell→Cell→Cell→List Entry→Option Res) k m,1048576 < m→
   ∃ cr' cm' H' j1 j2 row' more',qaw k m b0 n (.ptr g 2 0 0 0) cr cm cf fr.length i H=b0 (.ptr g 2 0 0 0) cr' cm' H'∧RM H0.length H' j1 j2 cr' cm' row' more'∧H0.length≤H'.length∧(∀ j,j < H0.length→H'[j]?=H0[j]?)∧Found nx s row' more'∧more'.length≤row'.length∧row.length+more'.length≤row'.length+more.length:=by
  intro fr hfr r
  induction r with
  | nil=>
   intro i n H i1 i2 fs cr cm cf row more hd hn hr hN h0 hf hfs hF hmr b0 k m hm'
   obtain⟨n,rfl⟩:∃ j,n=j+1:=⟨n - 1,by omega⟩
   have:=drop_nil hd
   refine⟨cr,cm,H,i1,i2,row,more,?_,hr,hN,h0,hF,hmr,by omega⟩
   simp only[qaw]
   rw[decide_eq_false (by omega),cond_false]
  | cons x r ih=>
   intro i n H i1 i2 fs cr cm cf row more hd hn hr hN h0 hf hfs hF hmr b0 k m hm'
   obtain⟨n,rfl⟩:∃ j,n=j+1:=⟨n - 1,by omega⟩
   obtain⟨hlt,hx,hd'⟩:=qbe hd
   simp only[List.length_cons] at hn
   obtain⟨a1,rw1,off,t1,t2,t3⟩:=hf.at hx
   have hGH:GraphM H ids g names next:=hG.app (fun j hj=>h0 j (hG.lt j hj)) hN
   obtain⟨d,H1,ds,u1,u2,u3,u4,u5⟩:=hnext H x hGH
   have hr1:=hr.frame u4
   have hF':=hF.next
   have hrow':(row++qcq row (nx x)).length≤U.length:=qcf hF'.nd fun y hy=>hreach y (hF'.ro y hy)
   have hb:∀ j,(j∈i1∨j∈i2)→H0.length≤j∧j < H.length:=fun j hj=>by
    obtain⟨p1,p2,_,_,_,_,_,p3,p4⟩:=hr
    rcases hj with hj | hj
    ·exact⟨p3 j hj,p1.lt j hj⟩
    ·exact⟨p4 j hj,p2.lt j hj⟩
   obtain⟨cr',cm',H',j1,j2,z1,z2,z3,z4,z5,z6⟩:=L2 (nx x) (hl x) (nx x) 0 m H1 i1 i2 ds cr cm d cf row more fr.length i rfl (by have:=hl x;omega) hr1 (by omega) u2 (fun j hj=>by
    obtain⟨d1,d2⟩:=u5 j hj
    refine⟨d1,fun h=>?_,fun h=>?_⟩
    ·have:=hb j (.inl h);omega
    ·have:=hb j (.inr h);omega) (by omega) hmr b0 (qaw k m b0 n) k m
   have hfs':∀ j∈fs,j < H'.length∧j∉j1∧j∉j2:=fun j hj=>by
    obtain⟨d1,d2,d3⟩:=hfs j hj
    refine⟨by omega,fun h=>?_,fun h=>?_⟩
    ·rcases z5 j h with h | h
     ·exact d2 h
     ·omega
    ·rcases z6 j h with h | h
     ·exact d3 h
     ·omega
   obtain⟨cr2,cm2,H2,l1,l2,row2,more2,y1,y2,y3,y4,y5,y6,y7⟩:=ih (i+1) n H' j1 j2 fs cr' cm' cf (row++qcq row (nx x)) (more++qcq row (nx x)) hd' (by omega) z2 (by omega) (fun j hj=>by
    rw[z4 j (by omega) (fun h=>by have:=hb j (.inl h);omega) fun h=>by have:=hb j (.inr h);omega,u4 j (by omega),h0 j hj]) (hf.frame fun j hj=>by
    obtain⟨d1,d2,d3⟩:=hfs j hj
    rw[z4 j (by omega) d2 d3,u4 j d1]) hfs' (by rw[← List.append_assoc];exact hF') (by simp;omega) b0 k m hm'
   refine⟨cr2,cm2,H2,l1,l2,row2,more2,?_,y2,y3,y4,y5,y6,by simp at y7;omega⟩
   simp only[qaw]
   rw[decide_eq_true (by omega),cond_true]
   simp only[t1,t2,t3,u1,u2.len,EV0]
   rw[show(0:Int)=((0:Nat):Int) from rfl,z1,qaj (by omega)]
   exact y1
 have L0:∀ (d:Nat) (H:List Entry) (i1 fs:List Nat) (cr cf:Cell) (row fr:List Str) (n:Nat),RM H0.length H i1 [] cr (.lst true 1 []) row []→H0.length≤H.length→(∀ j,j < H0.length→H[j]?=H0[j]?)→qbq H fs cf fr→(∀ j∈fs,j < H.length∧j∉i1)→Found nx s row fr→fr.length≤row.length+1→
   2*(U.length - row.length)+(if fr=[] then 0 else 1)≤d→d < n→∀ k m,1048577 < m→∃ c H' is,qao k m n (.ptr g 2 0 0 0) cr cf H=some ([.one c],H')∧Rep H' true true 2 is c (trL 1 qbw (qhd nx s))∧is.Nodup∧H0.length≤H'.length∧∀ j,j < H0.length→H'[j]?=H0[j]?:=by
  intro d
  induction d with
  | zero=>
   intro H i1 fs cr cf row fr n hr hN h0 hf hfs hF hfl hd hn k m hm'
   obtain⟨n,rfl⟩:∃ j,n=j+1:=⟨n - 1,by omega⟩
   have hfr:fr=[]:=by
    rcases Classical.em (fr=[]) with h | h
    ·exact h
    ·rw[if_neg h] at hd;omega
   subst hfr
   have hrl:row.length≤U.length:=qcf hF.nd fun y hy=>hreach y (hF.ro y hy)
   obtain⟨c',E,is,e1,r1,w1,_⟩:=qkf (qngb row (by omega)) H (qcj (qbq.of (n:=2) hr.1).read (qbd _))
   refine⟨c',H++E,is,?_,by rw[qef hF.done];exact r1,w1.nd,by simp;omega,fun j hj=>by rw[List.getElem?_append_left (by omega)];exact h0 j hj⟩
   simp only[qao,hf.len,List.length_nil,Option.bind_some]
   rw[decide_eq_false (by omega),cond_false]
   simp only[e1,EV0]
  | succ d ih=>
   intro H i1 fs cr cf row fr n hr hN h0 hf hfs hF hfl hd hn k m hm'
   obtain⟨n,rfl⟩:∃ j,n=j+1:=⟨n - 1,by omega⟩
   have hrl:row.length≤U.length:=qcf hF.nd fun y hy=>hreach y (hF.ro y hy)
   cases fr with
   | nil=>
    obtain⟨c',E,is,e1,r1,w1,_⟩:=qkf (qngb row (by omega)) H (qcj (qbq.of (n:=2) hr.1).read (qbd _))
    refine⟨c',H++E,is,?_,by rw[qef hF.done];exact r1,w1.nd,by simp;omega,fun j hj=>by rw[List.getElem?_append_left (by omega)];exact h0 j hj⟩
    simp only[qao,hf.len,List.length_nil,Option.bind_some]
    rw[decide_eq_false (by omega),cond_false]
    simp only[e1,EV0]
   | cons x fr=>
    rw[if_neg (by simp)] at hd
    obtain⟨cr',cm',H',j1,j2,row',more',z1,z2,z3,z4,z5,z6,z7⟩:=L1 (x::fr) (by omega) (x::fr) 0 m H i1 [] fs cr (.lst true 1 []) cf row [] rfl (by omega) hr hN h0 hf (fun j hj=>⟨(hfs j hj).1,(hfs j hj).2,by simp⟩) (by simpa using hF) (by simp) (qao k m n) k m (by omega)
    have hrl':row'.length≤U.length:=qcf z5.nd fun y hy=>hreach y (z5.ro y hy)
    simp only[List.length_nil] at z7
    obtain⟨c,H2,is,y1,y2,y3⟩:=ih H' j1 j2 cr' cm' row' more' n z2.anew z3 z4 (qbq.of (n:=2) z2.2.1) (fun j hj=>⟨z2.2.1.lt j hj,fun h=>z2.2.2.2.2.2.2.1 j h hj⟩) z5 (by omega) (by
     by_cases hm0:more'=[]
     ·rw[if_pos hm0];omega
     ·rw[if_neg hm0]
      have:=List.length_pos_iff.2 hm0
      omega) (by omega) k m hm'
    refine⟨c,H2,is,?_,y2,y3⟩
    simp only[qao,hf.len,Option.bind_some]
    rw[decide_eq_true (by simp),cond_true,show(0:Int)=((0:Nat):Int) from rfl,z1]
    exact y1
 obtain⟨c,H',is,z1,z2,z3⟩:=L0 (2*U.length+1) H0 [] [] (.lst true 1 []) (.lst true 1 ([s].map eStr)) [] [s] (2*U.length+1048577+1) (RM.nil _ _).anew (Nat.le_refl _) (fun _ _=>rfl) (.inl ⟨true,rfl⟩) (by simp) (Found.start nx s) (by simp) (by simp) (by omega) (2*U.length+1048577+1) (2*U.length+1048577+1) (by omega)
 exact⟨c,H',is,qfx (2*U.length+1048577) (by simpa[qdh,eStr] using z1),z2,z3⟩
theorem qlx {nx:Str→List Str}{s:Str}{U:List Str}(hm:∀ x,∀ y∈nx x,y∈U):∃ o:List Str,∀ x,x∈o↔Reach nx s x:=by
 classical
 refine⟨U.filter fun x=>decide (Reach nx s x),fun x=>?_⟩
 rw[List.mem_filter,decide_eq_true_eq]
 refine⟨fun h=>h.2,fun h=>⟨?_,h⟩⟩
 cases h with
 | one h=>exact hm _ _ h
 | step _ k=>exact hm _ _ k
theorem qme {l:List Str}(h:l.Pairwise (· < ·)):l.Nodup:=h.imp fun h e=>by subst e;exact List.lt_irrefl _ h
theorem qlu {nx:Str→List Str}{s:Str}{U:List Str}(hm:∀ x,∀ y∈nx x,y∈U):(qhd nx s).length≤U.length∧∀ x∈qhd nx s,x∈U:=by
 obtain⟨o,ho⟩:=qlx (s:=s) hm
 rw[qef ho]
 obtain⟨h1,h2⟩:=qbj o
 have h3:∀ x∈qbv o,x∈U:=fun x hx=>by
  cases (ho x).1 ((h2 x).1 hx) with
  | one h=>exact hm _ _ h
  | step _ k=>exact hm _ _ k
 exact⟨qcf (qme h1) h3,h3⟩
theorem qxp {names:List Str}{next:List (List Str)}{x y:Str}(h:y∈qba names next x):∃ d∈next,y∈d:=by
 unfold qba at h
 split at h
 ·simp at h
 ·cases hd:next[(idxS x names 0).toNat]? with
  | none=>rw[hd] at h;simp at h
  | some d=>rw[hd] at h;exact⟨d,List.mem_of_getElem? hd,h⟩
def qgf (l:List MPack):List Str:=l.flatMap (·.Uses)
theorem qhh (l:List MPack):(qgf l).length≤wtL MPack.wt l:=by
 induction l with
 | nil=>simp[qgf]
 | cons x l ih=>
  simp only[qgf,wtL,List.flatMap_cons,List.length_append,List.length_cons,List.map_cons,List.sum_cons] at ih ⊢
  have:x.Uses.length≤MPack.wt x:=by simp only[MPack.wt,wtL];omega
  omega
def qgr (l:List MPack):Str→List Str:=qba (l.map (·.Name)) (l.map (·.Uses))
theorem qfa {l:List MPack}{x y:Str}(h:y∈qgr l x):y∈qgf l:=by
 obtain⟨d,hd,hy⟩:=qxp h
 obtain⟨p,hp,rfl⟩:=List.mem_map.1 hd
 exact List.mem_flatMap.2 ⟨p,hp,hy⟩
theorem qxl {l:List MPack}(hl:bdL 1048576 (MPack.Bd 1048576) l)(x:Str):(qgr l x).length≤1048576:=by
 unfold qgr qba
 split
 ·simp
 ·cases hd:(l.map (·.Uses))[(idxS x (l.map (·.Name)) 0).toNat]? with
  | none=>simp
  | some d=>
   obtain⟨p,hp,rfl⟩:=List.mem_map.1 (List.mem_of_getElem? hd)
   exact(hl.2 p hp).2.1.1
noncomputable def qdw (l:List MPack)(s:Str):List Str:=qhd (qgr l) s
theorem qmv (l:List MPack)(hl:bdL 1048576 (MPack.Bd 1048576) l)(hw:wtL MPack.wt l≤1048576)(s:Str)(hs:bdS 1048576 s)(hs':bdS 1048576 s):bdL 1048576 (bdS 1048576) (qdw l s):=by
 obtain⟨h1,h2⟩:=qlu (s:=s) (U:=qgf l) fun x y h=>qfa h
 refine⟨Nat.le_trans h1 (Nat.le_trans (qhh l) hw),fun x hx=>?_⟩
 obtain⟨p,hp,hx⟩:=List.mem_flatMap.1 (h2 x hx)
 exact(hl.2 p hp).2.1.2 x hx
theorem f_fab (l:List MPack)(hl:bdL 1048576 (MPack.Bd 1048576) l)(hw:wtL MPack.wt l≤1048576)(s:Str)(hs:bdS 1048576 s)(hs':bdS 1048576 s):Fresh qkr true 2 [.one (encL 4 MPack.enc l),.one (Cell.str (bs s))] [.one (trL 1 qbw (qdw l s))]:=by
 have h1:=hl.1
 obtain⟨H,g1,e1⟩:=qqeb l hl
 obtain⟨ids,hG⟩:=g1.graph (by simp)
 obtain⟨c,H',is,e2,r1,r2,_⟩:=qev hG (qgr l) (qgf l) (Nat.le_trans (qhh l) hw) (fun x y h=>qfa h) (qxl hl) (fun H1 x hG1=>by
  obtain⟨d,q1,q2⟩:=qop hG1 (by simp;omega) x
  exact⟨d,H1,ids,q1,q2,Nat.le_refl _,fun _ _=>rfl,fun j hj=>⟨hG1.lt j hj,.inl (hG.lt j hj)⟩⟩) s
 refine Fresh.one (qzn 0 ?_) r1 r2
 simp only[fab,e1,e2,EV0]
theorem qhf {l:List MPack}{x y:Str}(h:y∈qck l x):y∈l.map (·.Name):=by
 obtain⟨p,hp,rfl⟩:=List.mem_map.1 h
 exact List.mem_map.2 ⟨p,(List.mem_filter.1 hp).1,rfl⟩
noncomputable def qdg (l:List MPack)(s:Str):List Str:=qhd (qck l) s
theorem qrg (l:List MPack)(hl:bdL 1048576 (MPack.Bd 1048576) l)(hw:wtL MPack.wt l≤1048576)(s:Str)(hs:bdS 1048576 s)(hs':bdS 1048576 s):bdL 1048576 (bdS 1048576) (qdg l s):=by
 obtain⟨h1,h2⟩:=qlu (nx:=qck l) (s:=s) (U:=l.map (·.Name)) fun x y h=>qhf h
 refine⟨Nat.le_trans h1 (by simpa using hl.1),fun x hx=>?_⟩
 obtain⟨p,hp,rfl⟩:=List.mem_map.1 (h2 x hx)
 exact(hl.2 p hp).1
theorem f_faa (l:List MPack)(hl:bdL 1048576 (MPack.Bd 1048576) l)(hw:wtL MPack.wt l≤1048576)(s:Str)(hs:bdS 1048576 s)(hs':bdS 1048576 s):Fresh qmu true 2 [.one (encL 4 MPack.enc l),.one (Cell.str (bs s))] [.one (trL 1 qbw (qdg l s))]:=by
 have h1:l.length≤1048576:=hl.1
 have hby:∀ x,byOf (l.map (·.Name)) (l.map (·.Uses)) x=qck l x:=fun x=>by
  unfold byOf qck
  rw[List.zip_map',List.filter_map,List.map_map]
  rfl
 have hlen:∀ x,(qck l x).length≤1048576:=fun x=>Nat.le_trans (by simp only[qck,List.length_map];exact List.length_filter_le _ _) h1
 obtain⟨H,g1,e1⟩:=qqeb l hl
 obtain⟨ids,hG⟩:=g1.graph (by simp)
 obtain⟨c,H',is,e2,r1,r2,_⟩:=qjy hG (qck l) (l.map (·.Name)) (by simpa using h1) (fun x y h=>qhf h) hlen (fun H1 x hG1=>by
  obtain⟨d,T,q1,q2⟩:=gm_by hG1 (by simp;omega) (qiy hl) x
  rw[hby] at q2
  obtain⟨is,k1,k2,k3⟩:=q2.list
  exact⟨d,H1++T,is,q1,qbq.of (n:=2) k1,by simp,fun j hj=>List.getElem?_append_left hj,fun j hj=>⟨k1.lt j hj,.inr (by have:=k3 j hj;omega)⟩⟩) s
 refine Fresh.one (qwe 0 ?_) r1 r2
 simp only[faa,e1,e2,EV0]
def Wk (nx:Str→List Str)(g:Str):Nat→Str→Prop | 0,x=>x=g | k+1,x=>∃ y,y∈nx x∧Wk nx g k y
theorem qkgb {p:Nat→Prop}{k:Nat}(h:p k):∃ j,j≤k∧p j∧∀ i,i < j→¬ p i:=by
 induction k using Nat.strongRecOn with
 | ind k ih=>
  by_cases q:∃ i,i < k∧p i
  ·obtain⟨i,h1,h2⟩:=q
   obtain⟨j,h3,h4⟩:=ih i h1 h2
   exact⟨j,by omega,h4⟩
  ·exact⟨k,Nat.le_refl _,h,fun i hi hp=>q ⟨i,hi,hp⟩⟩
open Classical in
noncomputable def dst (nx:Str→List Str)(g x:Str):Nat:=if h:∃ j,Wk nx g (j+1) x∧∀ i,i < j→¬ Wk nx g (i+1) x then h.choose+1 else 0
theorem qdbb {nx:Str→List Str}{g x:Str}{j:Nat}(h1:Wk nx g (j+1) x)(h2:∀ i,i < j→¬ Wk nx g (i+1) x):dst nx g x=j+1:=by
 have h:∃ j,Wk nx g (j+1) x∧∀ i,i < j→¬ Wk nx g (i+1) x:=⟨j,h1,h2⟩
 unfold dst
 rw[dif_pos h]
 obtain⟨k1,k2⟩:=h.choose_spec
 have a:¬ h.choose < j:=fun hh=>h2 _ hh k1
 have b:¬ j < h.choose:=fun hh=>k2 _ hh h1
 omega
theorem qmbb {nx:Str→List Str}{g x:Str}{k:Nat}(h:Wk nx g (k+1) x):0 < dst nx g x∧dst nx g x≤k+1:=by
 obtain⟨j,h1,h2,h3⟩:=qkgb (p:=fun k=>Wk nx g (k+1) x) h
 rw[qdbb h2 h3]
 omega
theorem qit {nx:Str→List Str}{g x:Str}{k:Nat}(h:dst nx g x=k+1):Wk nx g (k+1) x∧∀ i,i < k→¬ Wk nx g (i+1) x:=by
 by_cases q:∃ j,Wk nx g (j+1) x∧∀ i,i < j→¬ Wk nx g (i+1) x
 ·obtain⟨j,h1,h2⟩:=q
  have:=qdbb h1 h2
  obtain rfl:j=k:=by omega
  exact⟨h1,h2⟩
 ·unfold dst at h
  rw[dif_neg q] at h
  omega
theorem qlt {nx:Str→List Str}{g x:Str}{k:Nat}(h:dst nx g x=k+2):∃ y,y∈nx x∧dst nx g y=k+1:=by
 obtain⟨⟨y,h1,h2⟩,h3⟩:=qit h
 exact⟨y,h1,qdbb h2 fun i hi hw=>h3 (i+1) (by omega) ⟨y,h1,hw⟩⟩
theorem dst_up {nx:Str→List Str}{g x y:Str}{k:Nat}(hy:y∈nx x)(h:dst nx g y=k+1):0 < dst nx g x∧dst nx g x≤k+2:=qmbb ⟨y,hy,(qit h).1⟩
theorem qfob {nx:Str→List Str}{g x:Str}:dst nx g x=1↔g∈nx x:=by
 constructor
 ·intro h
  obtain⟨⟨y,h1,h2⟩,_⟩:=qit (k:=0) h
  rw[show y=g from h2] at h1
  exact h1
 ·exact fun h=>qdbb (j:=0) ⟨g,h,rfl⟩ (by omega)
theorem qfnb {nx:Str→List Str}{b c:Str}(hc:c∈nx b):∀ {k:Nat} {x:Str},Wk nx b k x→Wk nx c (k+1) x
 | 0,x,h=>⟨c,by rw[show x=b from h];exact hc,rfl⟩
 | k+1,x,⟨y,h1,h2⟩=>⟨y,h1,qfnb hc h2⟩
theorem qmw {nx:Str→List Str}{x y g:Str}(hy:y∈nx x)(h:Reach nx y g):Reach nx x g:=by
 induction h with
 | one hb=>exact .step (.one hy) hb
 | step _ k ih=>exact .step ih k
theorem qmj {nx:Str→List Str}{x g:Str}:Reach nx x g↔0 < dst nx g x:=by
 constructor
 ·intro h
  have:∃ k,Wk nx g (k+1) x:=by
   induction h with
   | one hb=>exact⟨0,_,hb,rfl⟩
   | step _ k ih=>
    obtain⟨j,hj⟩:=ih
    exact⟨j+1,qfnb k hj⟩
  obtain⟨k,hk⟩:=this
  exact(qmbb hk).1
 ·intro h
  obtain⟨k,hk⟩:∃ k,dst nx g x=k+1:=⟨dst nx g x - 1,by omega⟩
  have:=(qit hk).1
  clear h hk
  induction k generalizing x with
  | zero=>
   obtain⟨y,h1,h2⟩:=this
   rw[show y=g from h2] at h1
   exact .one h1
  | succ k ih=>
   obtain⟨y,h1,h2⟩:=this
   exact qmw h1 (ih h2)
theorem qdmb {nx:Str→List Str}{g:Str}{names:List Str}(hn:∀ x y,y∈nx x→x∈names):∀ (d:Nat) (x:Str),dst nx g x=d→∃ l:List Str,l.length=d∧l.Nodup∧∀ y∈l,y∈names∧dst nx g y≤d:=by
 intro d
 induction d with
 | zero=>exact fun x _=>⟨[],rfl,.nil,by simp⟩
 | succ d ih=>
  intro x hx
  have hxn:x∈names:=by
   obtain⟨⟨y,h1,_⟩,_⟩:=qit hx
   exact hn x y h1
  cases d with
  | zero=>exact⟨[x],rfl,by simp,by simp[hxn,hx]⟩
  | succ d=>
   obtain⟨y,_,h2⟩:=qlt hx
   obtain⟨l,h3,h4,h5⟩:=ih y h2
   refine⟨x::l,by simp[h3],List.nodup_cons.2 ⟨fun h=>?_,h4⟩,fun z hz=>?_⟩
   ·have:=(h5 x h).2
    omega
   ·rcases List.mem_cons.1 hz with rfl | hz
    ·exact⟨hxn,by omega⟩
    ·exact⟨(h5 z hz).1,by have:=(h5 z hz).2;omega⟩
theorem dst_bd {nx:Str→List Str}{names:List Str}(hn:∀ x y,y∈nx x→x∈names)(g x:Str):dst nx g x≤names.length:=by
 obtain⟨l,h1,h2,h3⟩:=qdmb (g:=g) hn _ x rfl
 rw[← h1]
 exact qcf h2 fun y hy=>(h3 y hy).1
structure Bf (nx:Str→List Str)(g:Str)(row:List Str)(i:Nat):Prop where
 nd:row.Nodup
 pos:∀ x∈row,0 < dst nx g x
 srt:∀ (p q:Nat) x y,row[p]?=some x→row[q]?=some y→p≤q→dst nx g x≤dst nx g y
 one:∀ x,dst nx g x=1→x∈row
 done:∀ (p:Nat) x y,row[p]?=some x→p < i→x∈nx y→y∈row
 near:∀ x y,row[i]?=some x→y∈row→dst nx g y≤dst nx g x+1
theorem Bf.low {nx:Str→List Str}{g:Str}{row:List Str}{i:Nat}(h:Bf nx g row i){f:Nat}(hi:∀ (p:Nat) x,row[p]?=some x→dst nx g x < f→p < i):∀ (k:Nat) (z:Str),dst nx g z=k+1→k+1 < f→z∈row:=by
 intro k
 induction k with
 | zero=>exact fun z hz _=>h.one z hz
 | succ k ih=>
  intro z hz hf
  obtain⟨u,h1,h2⟩:=qlt hz
  have hu:=ih u h2 (by omega)
  obtain⟨p,hp⟩:=List.getElem?_of_mem hu
  exact h.done p u z hp (hi p u hp (by omega)) h1
theorem Bf.far {nx:Str→List Str}{g:Str}{row:List Str}{i:Nat}(h:Bf nx g row i){x y:Str}(hx:row[i]?=some x)(hxy:x∈nx y)(hy:y∉row):dst nx g y=dst nx g x+1:=by
 have hxp:=h.pos x (List.mem_of_getElem? hx)
 obtain⟨k,hk⟩:∃ k,dst nx g x=k+1:=⟨dst nx g x - 1,by omega⟩
 obtain⟨u1,u2⟩:=dst_up hxy hk
 have hlow:∀ (p:Nat) z,row[p]?=some z→dst nx g z < dst nx g x→p < i:=fun p z hz hlt=>by
  apply Classical.byContradiction
  intro hp
  have:=h.srt i p x z hx hz (by omega)
  omega
 by_cases e:dst nx g y=dst nx g x+1
 ·exact e
 ·exfalso
  obtain⟨j,hj⟩:∃ j,dst nx g y=j+1:=⟨dst nx g y - 1,by omega⟩
  cases j with
  | zero=>exact hy (h.one y hj)
  | succ j=>
   obtain⟨z,z1,z2⟩:=qlt hj
   have hz:=h.low hlow j z z2 (by omega)
   obtain⟨p,hp⟩:=List.getElem?_of_mem hz
   exact hy (h.done p z y hp (hlow p z hp (by omega)) z1)
theorem qrb {α:Type}{row:List α}{y z:α}{p:Nat}(h:(row++[y])[p]?=some z):row[p]?=some z∨(p=row.length∧z=y):=by
 rcases Nat.lt_or_ge p row.length with hp | hp
 ·rw[List.getElem?_append_left hp] at h
  exact .inl h
 ·rw[List.getElem?_append_right hp] at h
  cases hq:p - row.length with
  | zero=>rw[hq] at h;simp at h;exact .inr ⟨by omega,h.symm⟩
  | succ q=>rw[hq] at h;simp at h
theorem Bf.push {nx:Str→List Str}{g:Str}{row:List Str}{i:Nat}(h:Bf nx g row i){x y:Str}(hx:row[i]?=some x)(hxy:x∈nx y)(hy:y∉row):Bf nx g (row++[y]) i:=by
 have hd:=h.far hx hxy hy
 have hil:=(List.getElem?_eq_some_iff.1 hx).1
 have hx':(row++[y])[i]?=some x:=by rw[List.getElem?_append_left hil];exact hx
 refine⟨?_,?_,?_,fun z hz=>List.mem_append_left _ (h.one z hz),?_,?_⟩
 ·rw[List.nodup_append]
  refine⟨h.nd,by simp,fun a ha b hb e=>?_⟩
  simp only[List.mem_singleton] at hb
  rw[e,hb] at ha
  exact hy ha
 ·intro z hz
  rcases List.mem_append.1 hz with hz | hz
  ·exact h.pos z hz
  ·simp only[List.mem_singleton] at hz
   rw[hz]
   omega
 ·intro p q a b ha hb hpq
  rcases qrb ha with ha' | ⟨hp1,hp2⟩<;>rcases qrb hb with hb' | ⟨hq1,hq2⟩
  ·exact h.srt p q a b ha' hb' hpq
  ·have:=h.near x a hx (List.mem_of_getElem? ha')
   rw[hq2]
   omega
  ·have:=(List.getElem?_eq_some_iff.1 hb').1
   omega
  ·rw[hp2,hq2]
   exact Nat.le_refl _
 ·intro p a b ha hp hab
  rcases qrb ha with ha | ⟨rfl,_⟩
  ·exact List.mem_append_left _ (h.done p a b ha hp hab)
  ·omega
 ·intro a b ha hb
  rw[hx'] at ha
  simp only[Option.some.injEq] at ha
  subst ha
  rcases List.mem_append.1 hb with hb | hb
  ·exact h.near _ b hx hb
  ·simp only[List.mem_singleton] at hb
   rw[hb]
   omega
theorem Bf.next {nx:Str→List Str}{g:Str}{row:List Str}{i:Nat}(h:Bf nx g row i){x:Str}(hx:row[i]?=some x)(ha:∀ y,x∈nx y→y∈row):Bf nx g row (i+1):=by
 refine⟨h.nd,h.pos,h.srt,h.one,fun p a b hp hlt hab=>?_,fun a b hp hb=>?_⟩
 ·by_cases e:p=i
  ·subst e
   rw[hx] at hp
   simp only[Option.some.injEq] at hp
   subst hp
   exact ha b hab
  ·exact h.done p a b hp (by omega) hab
 ·have h1:=h.near x b hx hb
  have h2:=h.srt i (i+1) x a hx hp (by omega)
  omega
theorem Bf.all {nx:Str→List Str}{g:Str}{row:List Str}{i:Nat}(h:Bf nx g row i)(hi:row.length≤i){x:Str}(hx:0 < dst nx g x):x∈row:=by
 obtain⟨k,hk⟩:∃ k,dst nx g x=k+1:=⟨dst nx g x - 1,by omega⟩
 refine h.low (f:=k+2) (fun p z hz _=>?_) k x hk (by omega)
 have:=(List.getElem?_eq_some_iff.1 hz).1
 omega
theorem Bf.start {nx:Str→List Str}{g:Str}{row:List Str}(h1:row.Nodup)(h2:∀ x∈row,dst nx g x=1)(h3:∀ x,g∈nx x→x∈row):Bf nx g row 0:=by
 refine⟨h1,fun x hx=>by rw[h2 x hx];omega,fun p q a b ha hb _=>?_,fun x hx=>h3 x (qfob.1 hx),fun p _ _ _ hp=>by omega,fun a b ha hb=>?_⟩
 ·rw[h2 a (List.mem_of_getElem? ha),h2 b (List.mem_of_getElem? hb)]
  exact Nat.le_refl _
 ·rw[h2 a (List.mem_of_getElem? ha),h2 b hb]
  omega
noncomputable def wayL (nx:Str→List Str)(g:Str):Nat→Str→List Str
 | 0,_=>[]
 | k+1,x=>match (nx x).find? fun y=>dst nx g y==k+1 with
  | some y=>y::wayL nx g k y
  | none=>[]
noncomputable def qfeb (nx:Str→List Str)(g:Str):List Str:=g::wayL nx g (dst nx g g - 1) g
open Classical in
noncomputable def qcvb (names:List Str)(nx:Str→List Str):List Str:=match names.find? fun x=>decide (0 < dst nx x x) with
 | some x=>qfeb nx x
 | none=>[]
theorem qdhb {nx:Str→List Str}{g x:Str}{k:Nat}(h:dst nx g x=k+2):∃ y,((nx x).find? fun y=>dst nx g y==k+1)=some y∧dst nx g y=k+1∧y∈nx x:=by
 obtain⟨z,h1,h2⟩:=qlt h
 cases hf:(nx x).find? fun y=>dst nx g y==k+1 with
 | none=>
  rw[List.find?_eq_none] at hf
  have:=hf z h1
  simp[h2] at this
 | some y=>exact⟨y,rfl,by simpa using List.find?_some hf,List.mem_of_find?_eq_some hf⟩
def qfr (f:Str→Nat)(row:List Str):List (List Cell):=row.map fun x=>[Cell.str (bs x),Cell.int (f x:Nat)]
theorem qko (f:Str→Nat)(s:Str):∀ row:List Str,qnk (qfr f row) (bs s)=some (if s∈row then ((f s:Nat):Int) else 0)
 | []=>by simp[qfr,qnk]
 | x::row=>by
  have ih:=qko f s row
  simp only[qfr,List.map_cons,qnk] at ih ⊢
  by_cases e:x=s
  ·subst e
   rw[(Go.MapKept.bytes_beq _ _).2 rfl]
   simp
  ·have hb:(bs x==bs s)=false:=by
    cases h:(bs x==bs s)
    ·rfl
    ·exact absurd (qnfb.1 ((Go.MapKept.bytes_beq _ _).1 h)) e
   rw[hb,cond_false,ih]
   have:(s∈x::row)↔s∈row:=by
    rw[List.mem_cons]
    exact⟨fun h=>h.resolve_left fun h=>e h.symm,.inr⟩
   simp only[this]
theorem qlf (f:Str→Nat)(y:Str):∀ row:List Str,y∉row→qor (qfr f row) (bs y) (f y:Nat)=some (qfr f (row++[y]))
 | [],_=>by simp[qfr,qor]
 | x::row,h=>by
  have ih:=qlf f y row fun h'=>h (List.mem_cons_of_mem _ h')
  have e:x≠y:=fun e=>h (by rw[e];exact List.mem_cons_self ..)
  have hb:(bs x==bs y)=false:=by
   cases h:(bs x==bs y)
   ·rfl
   ·exact absurd (qnfb.1 ((Go.MapKept.bytes_beq _ _).1 h)) e
  simp only[qfr,List.map_cons,qor,List.cons_append] at ih ⊢
  rw[hb,cond_false,ih]
  rfl
structure WayM (H0 H:List Entry)(f:Str→Nat)(row:List Str):Prop where
 len:H0.length < H.length
 old:∀ j,j < H0.length→H[j]?=H0[j]?
 mp:H[H0.length]?=some ⟨2,qfr f row,0,false⟩
theorem WayM.get {H0 H:List Entry}{f:Str→Nat}{row:List Str}(h:WayM H0 H f row)(s:Str):qhg H (.mp H0.length 0) (bs s)=some (if s∈row then ((f s:Nat):Int) else 0):=by
 simp only[qhg,qqmb,entry?,h.mp,if_true,Option.bind_some]
 exact qko f s row
theorem WayM.put {H0 H:List Entry}{f:Str→Nat}{row:List Str}(h:WayM H0 H f row){y:Str}(hy:y∉row):
  ∃ H',qhy H (.mp H0.length 0) (bs y) (f y:Nat)=some H'∧WayM H0 H' f (row++[y])∧H'.length=H.length∧∀ j,j≠H0.length→H'[j]?=H[j]?:=by
 refine⟨H.set H0.length ⟨2,qfr f (row++[y]),0,false⟩,?_,⟨by simpa using h.len,fun j hj=>?_,by rw[List.getElem?_set_self h.len]⟩,by simp,fun j hj=>List.getElem?_set_ne (Ne.symm hj)⟩
 ·simp only[qhy,qckb,entry?,h.mp,if_true,Option.bind_some,qlf f y row hy,Option.map_some]
 ·rw[List.getElem?_set_ne (by omega)]
  exact h.old j hj
theorem WayM.frame {H0 H H':List Entry}{f:Str→Nat}{row:List Str}(h:WayM H0 H f row)(hl:H.length≤H'.length)(k:∀ j,j≤H0.length→H'[j]?=H[j]?):WayM H0 H' f row:=
 ⟨Nat.lt_of_lt_of_le h.len hl,fun j hj=>(k j (by omega)).trans (h.old j hj),(k _ (Nat.le_refl _)).trans h.mp⟩
theorem qxj (H:List Entry)(c:Cell):qaf (H++[Entry.mk 1 [[c]] 0 false]) 1 (.vs H.length 1 0 1 0)=some [[c]]:=by
 simp[qaf,rowsOf,entry?]
theorem RM.at {N:Nat}{H H':List Entry}{i1 i2:List Nat}{cr cm:Cell}{row more:List Str}(h:RM N H i1 i2 cr cm row more)(k:∀ j,N≤j→j < H.length→H'[j]?=H[j]?):RM N H' i1 i2 cr cm row more:=by
 obtain⟨r1,r2,f1,f2,n1,n2,dj,b1,b2⟩:=h
 exact⟨r1.frame fun j hj=>k j (b1 j hj) (r1.lt j hj),r2.frame fun j hj=>k j (b2 j hj) (r2.lt j hj),f1,f2,n1,n2,dj,b1,b2⟩
theorem RM.own1 {N:Nat}{H:List Entry}{i1:List Nat}{cr:Cell}{row:List Str}(h:RM N H i1 [] cr (.lst true 1 []) row [])(hN:N≤H.length)(y:Str)(l1:row.length < 1073741824):
  ∃ p j1,app (H++[Entry.mk 1 [[Cell.str (bs y)]] 0 false]) 1 16 cr [[Cell.str (bs y)]]=some p∧RM N p.2 j1 [] p.1 (.lst true 1 []) (row++[y]) []∧H.length≤p.2.length∧(∀ j,j < H.length→j∉i1→p.2[j]?=H[j]?)∧∀ j∈j1,j∈i1∨H.length≤j:=by
 have h':RM N (H++[Entry.mk 1 [[Cell.str (bs y)]] 0 false]) i1 [] cr (.lst true 1 []) row []:=h.frame fun j hj=>List.getElem?_append_left hj
 obtain⟨p,j1,a1,r1,m1,k1,g1⟩:=h'.app1 (by simp;omega) [y] (by simp[bound];omega)
 refine⟨p,j1,a1,r1,by simp at m1;omega,fun j hj hn=>?_,fun j hj=>?_⟩
 ·rw[k1 j (by simp;omega) hn,List.getElem?_append_left hj]
 ·rcases g1 j hj with h | h
  ·exact .inl h
  ·simp at h
   exact .inr (by omega)
theorem RM.lo {N:Nat}{H:List Entry}{i1 i2:List Nat}{cr cm:Cell}{row more:List Str}(h:RM N H i1 i2 cr cm row more):(∀ j∈i1,N≤j∧j < H.length):=fun j hj=>⟨h.2.2.2.2.2.2.2.1 j hj,h.1.lt j hj⟩
def ahOf (names:List Str)(nx:Str→List Str)(s:Str):List Str:=names.filter fun x=>(nx x).contains s
theorem qmc {names:List Str}{nx:Str→List Str}(hn:∀ x y,y∈nx x→x∈names){s x:Str}:x∈ahOf names nx s↔s∈nx x:=by
 simp only[ahOf,List.mem_filter,List.contains_iff_mem]
 exact⟨fun h=>h.2,fun h=>⟨hn x s h,h⟩⟩
theorem qyr {H:List Entry}{ids:List Nat}{g:Nat}{names:List Str}{next:List (List Str)}(h:GraphM H ids g names next)(h1:names.length≤1048576)(h3:∀ d∈next,d.length≤1073741824)(s:Str):
  ∃ c T,qlb [.one (.ptr g 2 0 0 0),.one (Cell.str (bs s))] H=some ([.one c],H++T)∧GrowAt H.length 1 c T ((ahOf names (qba names next) s).map eStr):=by
 have hM:=qar
 have hG:∀ T,GraphM (H++T) ids g names next:=fun T=>h.app (fun j hj=>by rw[List.getElem?_append_left (h.lt j hj)]) (by simp)
 obtain⟨_,hlt,hlen,cn,co,fr,he,hn,ho⟩:=h
 have d1:deref H (.ptr g 2 0 0 0)=some ([cn,co],0):=by simp[deref,entry?,he]
 have fr':∀ (T:List Entry),∀ j∈ids,(H++T)[j]?=H[j]?:=fun T j hj=>List.getElem?_append_left (hlt j hj)
 have loop:∀ (r:List Str) (i n:Nat) (acc:List Str) (c:Cell) (T:List Entry),names.drop i=r→r.length < n→acc.length≤i→GrowAt H.length 1 c T (acc.map eStr)→∀ k m,
   ∃ c' T',qou k m n (.ptr g 2 0 0 0) (bs s) c cn names.length i (H++T)=some ([.one c'],H++T')∧GrowAt H.length 1 c' T' ((acc++r.filter fun x=>(qba names next x).contains s).map eStr):=by
  intro r
  induction r with
  | nil=>
   intro i n acc c T hd hn' ha hg k m
   obtain⟨n,rfl⟩:∃ j,n=j+1:=⟨n - 1,by omega⟩
   have:=drop_nil hd
   refine⟨c,T,?_,by simpa using hg⟩
   simp only[qou]
   rw[decide_eq_false (by omega),cond_false]
  | cons x r ih=>
   intro i n acc c T hd hn' ha hg k m
   obtain⟨n,rfl⟩:∃ j,n=j+1:=⟨n - 1,by omega⟩
   obtain⟨hlt',hx,hd'⟩:=qbe hd
   simp only[List.length_cons] at hn'
   obtain⟨a2,row,off,j1,j2,j3⟩:=(hn.frame (fr' T)).at hx
   obtain⟨d,o1,o2⟩:=qop (hG T) (by omega) x
   have q1:qeh qbm [.one d,.one (Cell.str (bs s))] (H++T)=some [.one (Cell.bool ((qba names next x).contains s))]:=by
    rw[qdn (qcj o2.read (qcj (qau _ _ _) (qbd _)))]
    exact qeub _ s (qln h3 x)
   simp only[qou]
   rw[decide_eq_true (by omega),cond_true]
   simp only[j1,j2,j3,o1,q1,qaj (show i < maxLen by omega),EV0]
   cases hc:(qba names next x).contains s with
   | false=>
    rw[cond_false]
    obtain⟨c',T',z1,z2⟩:=ih (i+1) n acc c T hd' (by omega) (by omega) hg k m
    have hf:(x::r).filter (fun x=>(qba names next x).contains s)=r.filter fun x=>(qba names next x).contains s:=by simp only[List.filter_cons,hc];rfl
    exact⟨c',T',z1,by rw[hf];exact z2⟩
   | true=>
    rw[cond_true]
    obtain⟨c1,T1,a1,g1⟩:=qidb (A:=H) (by':=16) hg (eStr x) (by simp[bound];omega) (by simp[bound];omega)
    have hrow:acc.map eStr++[eStr x]=(acc++[x]).map eStr:=by simp
    rw[hrow] at g1
    obtain⟨c',T',z1,z2⟩:=ih (i+1) n (acc++[x]) c1 T1 hd' (by omega) (by simp;omega) g1 k m
    have hf:(x::r).filter (fun x=>(qba names next x).contains s)=x::r.filter fun x=>(qba names next x).contains s:=by simp only[List.filter_cons,hc];rfl
    refine⟨c',T',?_,by rw[hf,List.append_cons];exact z2⟩
    simp only[eStr] at a1
    simp only[a1,Option.bind_some]
    exact z1
 obtain⟨c,T,z1,z2⟩:=loop names 0 (names.length+1+1) [] (.lst true 1 []) [] rfl (by omega) (by simp) (.inl ⟨rfl,rfl,rfl⟩) (names.length+1+1) (names.length+1+1)
 refine⟨c,T,qzi (names.length+1) ?_,z2⟩
 rw[List.append_nil] at z1
 simp only[fak,ptrC,qcd,d1,qeo,hn.len,Option.bind_some]
 exact z1
theorem gm_way {H0:List Entry}{ids:List Nat}{g:Nat}{names:List Str}{next:List (List Str)}(hG:GraphM H0 ids g names next)(h1:names.length≤1048576)(h3:∀ d∈next,d.length≤1073741824)
  (hnm:∀ x y,y∈qba names next x→x∈names) (s:Str) (hs:0 < dst (qba names next) s s):
  ∃ c H' is,qnu [.one (.ptr g 2 0 0 0),.one (Cell.str (bs s)),.one (Cell.str (bs s))] H0=some ([.one c],H')∧Rep H' true true 2 is c (trL 1 qbw (qfeb (qba names next) s))∧is.Nodup:=by
 have hM:=qar
 generalize hnx:qba names next=nx at hs hnm
 have hdb:∀ x,dst nx s x≤1048576:=fun x=>Nat.le_trans (dst_bd hnm s x) h1
 have hGH:∀ {H row},WayM H0 H (dst nx s) row→GraphM H ids g names next:=fun h=>hG.app (fun j hj=>h.old j (hG.lt j hj)) (Nat.le_of_lt h.len)
 have hnl:∀ x,(nx x).length≤1073741824:=fun x=>by rw[← hnx];exact qln h3 x
 have hin:∀ {row:List Str},row.Nodup→(∀ x∈row,0 < dst nx s x)→row.length≤1048576:=fun {row} hnd hp=>Nat.le_trans (qcf hnd fun x hx=>by
  have:=hp x hx
  obtain⟨k,hk⟩:∃ k,dst nx s x=k+1:=⟨dst nx s x - 1,by omega⟩
  obtain⟨⟨y,hy,_⟩,_⟩:=qit hk
  exact hnm x y hy) h1
 have found:∀ {H:List Entry} {i1:List Nat} {cr:Cell} {row:List Str} {y:Str},WayM H0 H (dst nx s) row→RM (H0.length+1) H i1 [] cr (.lst true 1 []) row []→y∉row→row.length≤1048576→
   ∃ H1 p j1,qhy H (.mp H0.length 0) (bs y) (dst nx s y:Nat)=some H1∧app (H1++[Entry.mk 1 [[Cell.str (bs y)]] 0 false]) 1 16 cr [[Cell.str (bs y)]]=some p∧WayM H0 p.2 (dst nx s) (row++[y])∧
    RM (H0.length+1) p.2 j1 [] p.1 (.lst true 1 []) (row++[y]) []∧H.length≤p.2.length∧(∀ j,j < H.length→j≠H0.length→j∉i1→p.2[j]?=H[j]?)∧∀ j∈j1,j∈i1∨H.length≤j:=by
  intro H i1 cr row y hw hr hy hl
  obtain⟨H1,u1,u2,u3,u4⟩:=hw.put hy
  have hr1:RM (H0.length+1) H1 i1 [] cr (.lst true 1 []) row []:=hr.at fun j hj _=>u4 j (by omega)
  have hlen:=u2.len
  obtain⟨p,j1,a1,r1,m1,k1,g1⟩:=hr1.own1 (by omega) y (by omega)
  have hlo:=hr.lo
  refine⟨H1,p,j1,u1,a1,u2.frame m1 fun j hj=>k1 j (by omega) fun h=>?_,r1,by omega,fun j hj hne hni=>?_,fun j hj=>?_⟩
  ·have:=(hlo j h).1
   omega
  ·rw[k1 j (by omega) hni,u4 j hne]
  ·rcases g1 j hj with h | h
   ·exact .inl h
   ·exact .inr (by omega)
 have L4:∀ (x:Str) (j:Nat),dst nx s x=j+2→∀ (y:Str) (r:List Str) (i n:Nat) (H:List Entry) (i2 ds:List Nat) (c cy:Cell) (row out:List Str),(nx x).drop i=r→r.length < n→(r.find? fun y=>dst nx s y==j+1)=some y→
   WayM H0 H (dst nx s) row→(∀ z,0 < dst nx s z→z∈row)→RM (H0.length+1) H i2 [] c (.lst true 1 []) out []→qbq H ds cy (nx x)→out.length≤1048576→∀ (b:Cell→ByteArray→Cell→Cell→List Entry→Option Res) k m,
   ∃ c' H' j2,qqx k m b n (.ptr g 2 0 0 0) (bs x) (.mp H0.length 0) c cy (nx x).length i H=b (.ptr g 2 0 0 0) (bs y) (.mp H0.length 0) c' H'∧WayM H0 H' (dst nx s) row∧RM (H0.length+1) H' j2 [] c' (.lst true 1 []) (out++[y]) []:=by
  intro x j hxj y r
  induction r with
  | nil=>
   intro i n H i2 ds c cy row out hd hn hf
   simp at hf
  | cons z r ih=>
   intro i n H i2 ds c cy row out hd hn hf hw hall hr hcy hol b k m
   obtain⟨n,rfl⟩:∃ j,n=j+1:=⟨n - 1,by omega⟩
   obtain⟨hlt,hx,hd'⟩:=qbe hd
   simp only[List.length_cons] at hn
   obtain⟨a1,rw1,off,t1,t2,t3⟩:=hcy.at hx
   have hnlx:=hnl x
   have get:∀ z,qhg H (.mp H0.length 0) (bs z)=some ((dst nx s z:Nat):Int):=fun z=>by
    rw[hw.get z]
    by_cases hz:z∈row
    ·rw[if_pos hz]
    ·rw[if_neg hz]
     have:dst nx s z=0:=by
      apply Classical.byContradiction
      intro h0
      exact hz (hall z (by omega))
     rw[this]
     rfl
   have hwr:IntKind.i64.wrap (((dst nx s x:Nat):Int) - 1)=((j+1:Nat):Int):=by
    rw[hxj,wrap_small (by omega) (by have:=hdb x;omega)]
    omega
   simp only[qqx]
   rw[decide_eq_true (by omega),cond_true]
   simp only[t1,t2,t3,get,hwr,Option.bind_some]
   rw[List.find?_cons] at hf
   by_cases hz:dst nx s z=j+1
   ·rw[show(dst nx s z==j+1)=true by simpa using hz] at hf
    simp only[Option.some.injEq] at hf
    subst hf
    have hlen:=hw.len
    obtain⟨p,j1,a1,r1,m1,k1,g1⟩:=hr.own1 (by omega) z (by omega)
    have hlo:=hr.lo
    refine⟨p.1,p.2,j1,?_,hw.frame m1 fun q hq=>k1 q (by omega) fun h=>by have:=(hlo q h).1;omega,r1⟩
    rw[decide_eq_true (by omega),cond_true,hz]
    rw[show(((j+1:Nat):Int)==((j+1:Nat):Int))=true by simp,cond_true]
    simp only[qxj,a1,Option.bind_some]
   ·rw[show(dst nx s z==j+1)=false by simpa using hz] at hf
    obtain⟨c',H',j2,z1,z2,z3⟩:=ih (i+1) n H i2 ds c cy row out hd' (by omega) hf hw hall hr hcy hol b k m
    refine⟨c',H',j2,?_,z2,z3⟩
    rw[qaj (by omega)]
    by_cases h0:dst nx s z=0
    ·rw[h0,decide_eq_false (by omega),cond_false]
     exact z1
    ·rw[decide_eq_true (by omega),cond_true]
     rw[show(((dst nx s z:Nat):Int)==((j+1:Nat):Int))=false by rw[beq_eq_false_iff_ne];omega,cond_false]
     exact z1
 have L3:∀ (j:Nat) (x:Str) (n:Nat) (H:List Entry) (i2:List Nat) (c:Cell) (row out:List Str),dst nx s x=j+1→j < n→WayM H0 H (dst nx s) row→(∀ z,0 < dst nx s z→z∈row)→RM (H0.length+1) H i2 [] c (.lst true 1 []) out []→out.length+j≤1048576→
   ∀ k m,1073741824 < m→∃ c' H' is,qnf k m n (.ptr g 2 0 0 0) (bs x) (.mp H0.length 0) c H=some ([.one c'],H')∧Rep H' true true 2 is c' (trL 1 qbw (out++wayL nx s j x))∧is.Nodup:=by
  intro j
  induction j with
  | zero=>
   intro x n H i2 c row out hx hn hw hall hr hol k m hm
   obtain⟨n,rfl⟩:∃ j,n=j+1:=⟨n - 1,by omega⟩
   refine⟨c,H,i2,?_,by simpa[wayL] using hr.1,hr.2.2.2.2.1⟩
   simp only[qnf,hw.get x,Option.bind_some]
   rw[if_pos (hall x (by omega)),hx,decide_eq_false (by omega),cond_false]
  | succ j ih=>
   intro x n H i2 c row out hx hn hw hall hr hol k m hm
   obtain⟨n,rfl⟩:∃ j,n=j+1:=⟨n - 1,by omega⟩
   obtain⟨d,o1,o2⟩:=qop (hGH hw) (by omega) x
   rw[hnx] at o2
   obtain⟨y,f1,f2,f3⟩:=qdhb hx
   have hnlx:=hnl x
   obtain⟨c',H',j2,z1,z2,z3⟩:=L4 x j hx y (nx x) 0 m H i2 ids c d row out rfl (by omega) f1 hw hall hr o2 (by omega) (qnf k m n) k m
   obtain⟨c2,H2,is,y1,y2,y3⟩:=ih y n H' j2 c' row (out++[y]) f2 (by omega) z2 hall z3 (by simp;omega) k m hm
   refine⟨c2,H2,is,?_,?_,y3⟩
   ·simp only[qnf,hw.get x,Option.bind_some]
    rw[if_pos (hall x (by omega)),hx,decide_eq_true (by omega),cond_true]
    simp only[o1,o2.len,EV0]
    rw[show(0:Int)=((0:Nat):Int) from rfl,z1]
    exact y1
   ·simp only[wayL,f1]
    rw[List.append_cons]
    exact y2
 have L2:∀ (x:Str) (a:Nat) (ys:List Str),ys.length≤1048576→(∀ y∈ys,x∈nx y)→∀ (r:List Str) (i n:Nat) (H:List Entry) (i1 ds:List Nat) (cr cy:Cell) (row:List Str),ys.drop i=r→r.length < n→WayM H0 H (dst nx s) row→RM (H0.length+1) H i1 [] cr (.lst true 1 []) row []→
   qbq H ds cy ys→(∀ j∈ds,j < H.length∧H0.length < j∧j∉i1)→Bf nx s row a→row[a]?=some x→∀ (b:Cell→ByteArray→Cell→Cell→Int→List Entry→Option Res) k m,
   ∃ cr' H' j1 row',qot k m b n (.ptr g 2 0 0 0) (bs s) (.mp H0.length 0) cr a cy ys.length i H=b (.ptr g 2 0 0 0) (bs s) (.mp H0.length 0) cr' (IntKind.i64.wrap ((a:Int)+1)) H'∧WayM H0 H' (dst nx s) row'∧
    RM (H0.length+1) H' j1 [] cr' (.lst true 1 []) row' []∧Bf nx s row' a∧row'[a]?=some x∧(∀ y∈row,y∈row')∧∀ y∈r,y∈row':=by
  intro x a ys hys hyx r
  induction r with
  | nil=>
   intro i n H i1 ds cr cy row hd hn hw hr hcy hds hb hxa b k m
   obtain⟨n,rfl⟩:∃ j,n=j+1:=⟨n - 1,by omega⟩
   have:=drop_nil hd
   refine⟨cr,H,i1,row,?_,hw,hr,hb,hxa,fun _ h=>h,by simp⟩
   simp only[qot]
   rw[decide_eq_false (by omega),cond_false]
  | cons y r ih=>
   intro i n H i1 ds cr cy row hd hn hw hr hcy hds hb hxa b k m
   obtain⟨n,rfl⟩:∃ j,n=j+1:=⟨n - 1,by omega⟩
   obtain⟨hlt,hx,hd'⟩:=qbe hd
   simp only[List.length_cons] at hn
   obtain⟨a1,rw1,off,t1,t2,t3⟩:=hcy.at hx
   have hrl:=hin hb.nd hb.pos
   have hxr:=List.mem_of_getElem? hxa
   simp only[qot]
   rw[decide_eq_true (by omega),cond_true]
   simp only[t1,t2,t3,hw.get y,qaj (show i < maxLen by omega),Option.bind_some]
   by_cases hyr:y∈row
   ·have hp:=hb.pos y hyr
    rw[if_pos hyr,show(((dst nx s y:Nat):Int)==0)=false by rw[beq_eq_false_iff_ne];omega,cond_false]
    obtain⟨cr',H',j1,row',z1,z2,z3,z4,z5,z6,z7⟩:=ih (i+1) n H i1 ds cr cy row hd' (by omega) hw hr hcy hds hb hxa b k m
    refine⟨cr',H',j1,row',z1,z2,z3,z4,z5,z6,fun q hq=>?_⟩
    rcases List.mem_cons.1 hq with rfl | hq
    ·exact z6 _ hyr
    ·exact z7 q hq
   ·have hxy:=hyx y (List.mem_of_getElem? hx)
    have hfar:=hb.far hxa hxy hyr
    rw[if_neg hyr,show((0:Int)==0)=true from rfl,cond_true]
    obtain⟨a2,rw2,off2,s1,s2,s3⟩:=(qbq.of (n:=2) hr.1).at hxa
    have hwr:IntKind.i64.wrap (((dst nx s x:Nat):Int)+1)=((dst nx s y:Nat):Int):=by
     rw[hfar,qaj (by have:=hdb x;omega)]
    obtain⟨H1,p,j1,u1,u2,u3,u4,u5,u6,u7⟩:=found hw hr hyr hrl
    simp only[s1,s2,s3,hw.get x,if_pos hxr,hwr,u1,qxj,u2,Option.bind_some]
    have hxa':(row++[y])[a]?=some x:=by rw[List.getElem?_append_left (List.getElem?_eq_some_iff.1 hxa).1];exact hxa
    obtain⟨cr',H',j2,row',z1,z2,z3,z4,z5,z6,z7⟩:=ih (i+1) n p.2 j1 ds p.1 cy (row++[y]) hd' (by omega) u3 u4 (hcy.frame fun j hj=>by
     obtain⟨d1,d2,d3⟩:=hds j hj
     exact u6 j d1 (by omega) d3) (fun j hj=>by
     obtain⟨d1,d2,d3⟩:=hds j hj
     refine⟨by omega,d2,fun h=>?_⟩
     rcases u7 j h with h | h
     ·exact d3 h
     ·omega) (hb.push hxa hxy hyr) hxa' b k m
    refine⟨cr',H',j2,row',z1,z2,z3,z4,z5,fun q hq=>z6 q (List.mem_append_left _ hq),fun q hq=>?_⟩
    rcases List.mem_cons.1 hq with rfl | hq
    ·exact z6 _ (List.mem_append_right _ (by simp))
    ·exact z7 q hq
 have L1:∀ (d i n:Nat) (H:List Entry) (i1:List Nat) (cr:Cell) (row:List Str),names.length≤i+d→d < n→WayM H0 H (dst nx s) row→RM (H0.length+1) H i1 [] cr (.lst true 1 []) row []→Bf nx s row i→∀ k m,1073741824 < m→
   ∃ c H' is,qlp k m n (.ptr g 2 0 0 0) (bs s) (.mp H0.length 0) cr i H=some ([.one c],H')∧Rep H' true true 2 is c (trL 1 qbw (qfeb nx s))∧is.Nodup:=by
  intro d
  induction d with
  | zero=>
   intro i n H i1 cr row hd hn hw hr hb k m hm
   obtain⟨n,rfl⟩:∃ j,n=j+1:=⟨n - 1,by omega⟩
   have hrn:row.length≤names.length:=qcf hb.nd fun x hx=>by
    have:=hb.pos x hx
    obtain⟨k,hk⟩:∃ k,dst nx s x=k+1:=⟨dst nx s x - 1,by omega⟩
    obtain⟨⟨y,hy,_⟩,_⟩:=qit hk
    exact hnm x y hy
   have hlen:=hw.len
   obtain⟨j,hj⟩:∃ j,dst nx s s=j+1:=⟨dst nx s s - 1,by omega⟩
   have hjb:=hdb s
   have hw':WayM H0 (H++[Entry.mk 1 [[Cell.str (bs s)]] 0 false]) (dst nx s) row:=hw.frame (by simp) fun q hq=>List.getElem?_append_left (by omega)
   have hr':RM (H0.length+1) (H++[Entry.mk 1 [[Cell.str (bs s)]] 0 false]) [H.length] [] (.vs H.length 1 0 1 0) (.lst true 1 []) [s] []:=by
    refine⟨.inr ⟨H.length,0,0,[[Cell.str (bs s)]],false,[],rfl,by simp[trL],by simp,fun _=>rfl,fun _=>⟨rfl,by simp[trL]⟩,by simp[trL],by simp,?_⟩,.inl ⟨rfl,rfl,true,rfl⟩,qce _ _ _ _ _,qbn _,by simp,by simp,by simp,by simp;omega,by simp⟩
    exact qwg [s] _
   obtain⟨c,H',is,z1,z2,z3⟩:=L3 j s m _ [H.length] _ row [s] hj (by omega) hw' (fun z hz=>hb.all (by omega) hz) hr' (by simp;omega) k m hm
   refine⟨c,H',is,?_,by rw[qfeb,hj];exact z2,z3⟩
   simp only[qlp,(qbq.of (n:=2) hr.1).len,Option.bind_some]
   rw[decide_eq_false (by omega),cond_false]
   exact z1
  | succ d ih=>
   intro i n H i1 cr row hd hn hw hr hb k m hm
   obtain⟨n,rfl⟩:∃ j,n=j+1:=⟨n - 1,by omega⟩
   by_cases hi:i < row.length
   ·have hrl:=hin hb.nd hb.pos
    have hx:row[i]?=some row[i]:=List.getElem?_eq_getElem hi
    generalize row[i]=x at hx
    obtain⟨a1,rw1,off,t1,t2,t3⟩:=(qbq.of (n:=2) hr.1).at hx
    obtain⟨cy,T,e1,g1⟩:=qyr (hGH hw) h1 h3 x
    rw[hnx] at g1
    have hahl:(ahOf names nx x).length≤1048576:=Nat.le_trans (List.length_filter_le _ _) h1
    obtain⟨ds,p1,p2,p3⟩:=g1.list
    have hlen:=hw.len
    have hlo:=hr.lo
    have hw':WayM H0 (H++T) (dst nx s) row:=hw.frame (by simp) fun q hq=>List.getElem?_append_left (by omega)
    obtain⟨cr',H',j1,row',z1,z2,z3,z4,z5,z6,z7⟩:=L2 x i (ahOf names nx x) hahl (fun y hy=>(qmc hnm).1 hy) (ahOf names nx x) 0 m (H++T) i1 ds cr cy row rfl (by omega) hw' (hr.frame fun q hq=>List.getElem?_append_left hq) (qbq.of (n:=2) p1) (fun j hj=>by
     have h5:=p1.lt j hj
     have h6:=p3 j hj
     refine⟨h5,by omega,fun h=>?_⟩
     have:=(hlo j h).2
     omega) hb hx (qlp k m n) k m
    obtain⟨c,H2,is,y1,y2,y3⟩:=ih (i+1) n H' j1 cr' row' (by omega) (by omega) z2 z3 (z4.next z5 fun y hy=>z7 y ((qmc hnm).2 hy)) k m hm
    refine⟨c,H2,is,?_,y2,y3⟩
    simp only[qlp,(qbq.of (n:=2) hr.1).len,Option.bind_some]
    rw[decide_eq_true (by omega),cond_true]
    simp only[t1,t2,t3,e1,(qbq.of (n:=2) p1).len,EV0]
    rw[show(0:Int)=((0:Nat):Int) from rfl,z1,qaj (by omega)]
    exact y1
   ·have hlen:=hw.len
    obtain⟨j,hj⟩:∃ j,dst nx s s=j+1:=⟨dst nx s s - 1,by omega⟩
    have hjb:=hdb s
    have hw':WayM H0 (H++[Entry.mk 1 [[Cell.str (bs s)]] 0 false]) (dst nx s) row:=hw.frame (by simp) fun q hq=>List.getElem?_append_left (by omega)
    have hr':RM (H0.length+1) (H++[Entry.mk 1 [[Cell.str (bs s)]] 0 false]) [H.length] [] (.vs H.length 1 0 1 0) (.lst true 1 []) [s] []:=by
     refine⟨.inr ⟨H.length,0,0,[[Cell.str (bs s)]],false,[],rfl,by simp[trL],by simp,fun _=>rfl,fun _=>⟨rfl,by simp[trL]⟩,by simp[trL],by simp,?_⟩,.inl ⟨rfl,rfl,true,rfl⟩,qce _ _ _ _ _,qbn _,by simp,by simp,by simp,by simp;omega,by simp⟩
     exact qwg [s] _
    obtain⟨c,H',is,z1,z2,z3⟩:=L3 j s m _ [H.length] _ row [s] hj (by omega) hw' (fun z hz=>hb.all (by omega) hz) hr' (by simp;omega) k m hm
    refine⟨c,H',is,?_,by rw[qfeb,hj];exact z2,z3⟩
    simp only[qlp,(qbq.of (n:=2) hr.1).len,Option.bind_some]
    rw[decide_eq_false (by omega),cond_false]
    exact z1
 have L0:∀ (ys:List Str),ys.length≤1048576→(∀ y,s∈nx y→y∈ys)→(∀ y∈ys,s∈nx y)→∀ (r:List Str) (i n:Nat) (H:List Entry) (i1 ds:List Nat) (cr cy:Cell) (row:List Str),ys.drop i=r→r.length < n→WayM H0 H (dst nx s) row→RM (H0.length+1) H i1 [] cr (.lst true 1 []) row []→
   qbq H ds cy ys→(∀ j∈ds,j < H.length∧H0.length < j∧j∉i1)→row.Nodup→(∀ x∈row,dst nx s x=1)→(∀ y∈ys,y∈row∨y∈r)→∀ k m,1073741824 < m→
   ∃ c H' is,qol k m n (.ptr g 2 0 0 0) (bs s) (.mp H0.length 0) cr cy ys.length i H=some ([.one c],H')∧Rep H' true true 2 is c (trL 1 qbw (qfeb nx s))∧is.Nodup:=by
  intro ys hys hys1 hys2 r
  induction r with
  | nil=>
   intro i n H i1 ds cr cy row hd hn hw hr hcy hds hnd hone hin2 k m hm
   obtain⟨n,rfl⟩:∃ j,n=j+1:=⟨n - 1,by omega⟩
   have:=drop_nil hd
   obtain⟨c,H',is,z1,z2⟩:=L1 names.length 0 m H i1 cr row (by omega) (by omega) hw hr (Bf.start hnd hone fun x hx=>by
    rcases hin2 x (hys1 x hx) with h | h
    ·exact h
    ·simp at h) k m hm
   refine⟨c,H',is,?_,z2⟩
   simp only[qol]
   rw[decide_eq_false (by omega),cond_false]
   exact z1
  | cons y r ih=>
   intro i n H i1 ds cr cy row hd hn hw hr hcy hds hnd hone hin2 k m hm
   obtain⟨n,rfl⟩:∃ j,n=j+1:=⟨n - 1,by omega⟩
   obtain⟨hlt,hx,hd'⟩:=qbe hd
   simp only[List.length_cons] at hn
   obtain⟨a1,rw1,off,t1,t2,t3⟩:=hcy.at hx
   have hrl:=hin hnd fun x hx=>by rw[hone x hx];omega
   simp only[qol]
   rw[decide_eq_true (by omega),cond_true]
   simp only[t1,t2,t3,hw.get y,qaj (show i < maxLen by omega),Option.bind_some]
   by_cases hyr:y∈row
   ·rw[if_pos hyr,hone y hyr,show(((1:Nat):Int)==0)=false from rfl,cond_false]
    exact ih (i+1) n H i1 ds cr cy row hd' (by omega) hw hr hcy hds hnd hone (fun q hq=>by
     rcases hin2 q hq with h | h
     ·exact .inl h
     ·rcases List.mem_cons.1 h with rfl | h
      ·exact .inl hyr
      ·exact .inr h) k m hm
   ·have hd1:dst nx s y=1:=qfob.2 (hys2 y (List.mem_of_getElem? hx))
    rw[if_neg hyr,show((0:Int)==0)=true from rfl,cond_true]
    obtain⟨H1,p,j1,u1,u2,u3,u4,u5,u6,u7⟩:=found hw hr hyr hrl
    rw[hd1] at u1
    simp only[show((1:Nat):Int)=1 from rfl] at u1
    simp only[u1,qxj,u2,Option.bind_some]
    refine ih (i+1) n p.2 j1 ds p.1 cy (row++[y]) hd' (by omega) u3 u4 (hcy.frame fun j hj=>by
     obtain⟨d1,d2,d3⟩:=hds j hj
     exact u6 j d1 (by omega) d3) (fun j hj=>by
     obtain⟨d1,d2,d3⟩:=hds j hj
     refine⟨by omega,d2,fun h=>?_⟩
     rcases u7 j h with h | h
     ·exact d3 h
     ·omega) ?_ (fun x hx=>?_) (fun q hq=>?_) k m hm
    ·rw[List.nodup_append]
     refine⟨hnd,by simp,fun a ha b hb e=>?_⟩
     simp only[List.mem_singleton] at hb
     rw[e,hb] at ha
     exact hyr ha
    ·rcases List.mem_append.1 hx with h | h
     ·exact hone x h
     ·simp only[List.mem_singleton] at h
      rw[h]
      exact hd1
    ·rcases hin2 q hq with h | h
     ·exact .inl (List.mem_append_left _ h)
     ·rcases List.mem_cons.1 h with rfl | h
      ·exact .inl (List.mem_append_right _ (by simp))
      ·exact .inr h
 have hw0:WayM H0 (H0++[Entry.mk 2 [] 0 false]++[Entry.mk 1 [] 0 false]) (dst nx s) []:=⟨by simp,fun j hj=>by rw[List.getElem?_append_left (by simp;omega),List.getElem?_append_left hj],by simp[qfr]⟩
 have hr0:RM (H0.length+1) (H0++[Entry.mk 2 [] 0 false]++[Entry.mk 1 [] 0 false]) [H0.length+1] [] (.vs (H0.length+1) 1 0 0 0) (.lst true 1 []) [] []:=
  ⟨.inr ⟨H0.length+1,0,0,[],false,[],rfl,by simp[trL],by simp,fun _=>rfl,fun _=>⟨rfl,by simp[trL]⟩,by simp[trL],by simp,.nil⟩,.inl ⟨rfl,rfl,true,rfl⟩,qce _ _ _ _ _,qbn _,by simp,by simp,by simp,by simp,by simp⟩
 obtain⟨cy,T,e1,g1⟩:=qyr (hGH hw0) h1 h3 s
 rw[hnx] at g1
 have hahl:(ahOf names nx s).length≤1048576:=Nat.le_trans (List.length_filter_le _ _) h1
 obtain⟨ds,p1,p2,p3⟩:=g1.list
 have hw1:WayM H0 (H0++[Entry.mk 2 [] 0 false]++[Entry.mk 1 [] 0 false]++T) (dst nx s) []:=hw0.frame (by simp) fun q hq=>List.getElem?_append_left (by simp;omega)
 obtain⟨c,H',is,z1,z2⟩:=L0 (ahOf names nx s) hahl (fun y hy=>(qmc hnm).2 hy) (fun y hy=>(qmc hnm).1 hy) (ahOf names nx s) 0 (1073741824+1+1) (H0++[Entry.mk 2 [] 0 false]++[Entry.mk 1 [] 0 false]++T) [H0.length+1] ds (.vs (H0.length+1) 1 0 0 0) cy [] rfl (by omega) hw1 (hr0.frame fun q hq=>List.getElem?_append_left hq) (qbq.of (n:=2) p1) (fun j hj=>by
  have h5:=p1.lt j hj
  have h6:=p3 j hj
  simp only[List.length_append,List.length_singleton] at h6
  exact⟨h5,by omega,by simp;omega⟩) (by simp) (by simp) (fun q hq=>.inr hq) (1073741824+1+1) (1073741824+1+1) (by omega)
 refine⟨c,H',is,qxe (1073741824+1) ?_,z2⟩
 have hl2:(H0++[Entry.mk 2 [] 0 false]).length=H0.length+1:=by simp
 simp only[fas,e1,hl2,(qbq.of (n:=2) p1).len,EV0]
 exact z1
theorem qzj {nx:Str→List Str}{U:List Str}(hm:∀ x,∀ y∈nx x,y∈U)(s t:Str):(qhd nx s).contains t=decide (0 < dst nx t s):=by
 obtain⟨o,ho⟩:=qlx (s:=s) hm
 rw[qef ho]
 have:t∈qbv o↔0 < dst nx t s:=((qbj o).2 t).trans ((ho t).trans qmj)
 by_cases h:0 < dst nx t s
 ·rw[decide_eq_true h]
  exact List.contains_iff_mem.2 (this.2 h)
 ·rw[decide_eq_false h]
  cases hc:(qbv o).contains t with
  | false=>rfl
  | true=>exact absurd (this.1 (List.contains_iff_mem.1 hc)) h
theorem qmjb {H0:List Entry}{ids:List Nat}{g:Nat}{names:List Str}{next:List (List Str)}(hG:GraphM H0 ids g names next)(h1:names.length≤1048576)(h3:∀ d∈next,d.length≤1048576)
  (U:List Str) (hU:U.length≤1048576) (hm:∀ x,∀ y∈qba names next x,y∈U) (hnm:∀ x y,y∈qba names next x→x∈names):
  ∃ c H' is,qpr [.one (.ptr g 2 0 0 0)] H0=some ([.one c],H')∧Rep H' true true 2 is c (trL 1 qbw (qcvb names (qba names next)))∧is.Nodup:=by
 have hM:=qar
 have h3':∀ d∈next,d.length≤1073741824:=fun d hd=>Nat.le_trans (h3 d hd) (by omega)
 have hnl:∀ x,(qba names next x).length≤1048576:=fun x=>by
  unfold qba
  split
  ·simp
  ·cases hd:next[(idxS x names 0).toNat]? with
   | none=>simp
   | some d=>exact h3 d (List.mem_of_getElem? hd)
 obtain⟨_,hlt,hlen,cn,co,fr,he,hn,ho⟩:=id hG
 have d0:deref H0 (.ptr g 2 0 0 0)=some ([cn,co],0):=by simp[deref,entry?,he]
 have loop:∀ (r:List Str) (i n:Nat) (H:List Entry),names.drop i=r→r.length < n→H0.length≤H.length→(∀ j,j < H0.length→H[j]?=H0[j]?)→∀ k m,
   ∃ c H' is,qqy k m n (.ptr g 2 0 0 0) cn names.length i H=some ([.one c],H')∧Rep H' true true 2 is c (trL 1 qbw (match r.find? fun x=>decide (0 < dst (qba names next) x x) with
    | some x=>qfeb (qba names next) x
    | none=>[]))∧is.Nodup:=by
  intro r
  induction r with
  | nil=>
   intro i n H hd hn' hl h0 k m
   obtain⟨n,rfl⟩:∃ j,n=j+1:=⟨n - 1,by omega⟩
   have:=drop_nil hd
   refine⟨.lst true 1 [],H,[],?_,.inl ⟨rfl,rfl,true,rfl⟩,by simp⟩
   simp only[qqy]
   rw[decide_eq_false (by omega),cond_false]
  | cons x r ih=>
   intro i n H hd hn' hl h0 k m
   obtain⟨n,rfl⟩:∃ j,n=j+1:=⟨n - 1,by omega⟩
   obtain⟨hlt',hx,hd'⟩:=qbe hd
   simp only[List.length_cons] at hn'
   have hGH:GraphM H ids g names next:=hG.app (fun j hj=>h0 j (hG.lt j hj)) hl
   obtain⟨a1,rw1,off,t1,t2,t3⟩:=(hn.frame fun j hj=>h0 j (hlt j hj)).at hx
   obtain⟨c,H1,is,e1,r1,r2,r3,r4⟩:=qev hGH (qba names next) U hU hm hnl (fun H1 x hG1=>by
    obtain⟨d,q1,q2⟩:=qop hG1 (by omega) x
    exact⟨d,H1,ids,q1,q2,Nat.le_refl _,fun _ _=>rfl,fun j hj=>⟨hG1.lt j hj,.inl (hGH.lt j hj)⟩⟩) x
   have hrl:(qhd (qba names next) x).length≤1048576:=Nat.le_trans (qlu (s:=x) hm).1 hU
   have q1:qeh qbm [.one c,.one (Cell.str (bs x))] H1=some [.one (Cell.bool (decide (0 < dst (qba names next) x x)))]:=by
    rw[qdn (qcj (qbq.of (n:=2) r1).read (qcj (qau _ _ _) (qbd _))),← qzj hm]
    exact qeub _ x (by omega)
   have h01:∀ j,j < H0.length→H1[j]?=H0[j]?:=fun j hj=>(r4 j (by omega)).trans (h0 j hj)
   simp only[qqy]
   rw[decide_eq_true (by omega),cond_true]
   simp only[t1,t2,t3,e1,q1,qaj (show i < maxLen by omega),EV0,List.find?_cons]
   by_cases hp:0 < dst (qba names next) x x
   ·rw[decide_eq_true hp,cond_true]
    obtain⟨c2,H2,is2,y1,y2,y3⟩:=gm_way (hG.app (fun j hj=>h01 j (hG.lt j hj)) (by omega)) h1 h3' hnm x hp
    refine⟨c2,H2,is2,?_,y2,y3⟩
    simp only[y1,EV0]
   ·rw[decide_eq_false hp,cond_false]
    exact ih (i+1) n H1 hd' (by omega) (by omega) h01 k m
 obtain⟨c,H',is,z1,z2⟩:=loop names 0 (names.length+1+1) H0 rfl (by omega) (Nat.le_refl _) (fun _ _=>rfl) (names.length+1+1) (names.length+1+1)
 refine⟨c,H',is,qyg (names.length+1) ?_,z2⟩
 simp only[faq,ptrC,qcd,d0,qeo,hn.len,Option.bind_some]
 exact z1
theorem qezb (s:Str):∀ (l:List Str) (i j:Nat),idxS s l i=((i+j:Nat):Int)→l[j]?=some s
 | [],i,j,h=>by
  simp only[idxS] at h
  omega
 | b::r,i,j,h=>by
  unfold idxS at h
  split at h
  ·rename_i e
   obtain rfl:j=0:=by omega
   simp[e]
  ·cases j with
   | zero=>rcases qzf s r (i+1) with⟨e,_⟩ | ⟨j,x,e,_⟩<;>omega
   | succ j=>
    have:=qezb s r (i+1) j (by rw[h];congr 1;omega)
    simpa using this
theorem qkv {names:List Str}{next:List (List Str)}{x y:Str}(h:y∈qba names next x):x∈names:=by
 unfold qba at h
 split at h
 ·simp at h
 ·rename_i hn
  have:=qezb x names 0 (idxS x names 0).toNat (by omega)
  exact List.mem_of_getElem? this
noncomputable def qoe (l:List MPack):List Str:=qcvb (l.map (·.Name)) (qgr l)
theorem qub {l:List MPack}(hl:bdL 1048576 (MPack.Bd 1048576) l):∀ d∈l.map (·.Uses),d.length≤1048576:=fun d hd=>by
 obtain⟨p,hp,rfl⟩:=List.mem_map.1 hd
 exact(hl.2 p hp).2.1.1
theorem f_faf (l:List MPack)(hl:bdL 1048576 (MPack.Bd 1048576) l)(hw:wtL MPack.wt l≤1048576):Fresh qoa true 2 [.one (encL 4 MPack.enc l)] [.one (trL 1 qbw (qoe l))]:=by
 have h1:=hl.1
 obtain⟨H,g1,e1⟩:=qqeb l hl
 obtain⟨ids,hG⟩:=g1.graph (by simp)
 have hmm:∀ x,∀ y∈qba (l.map (·.Name)) (l.map (·.Uses)) x,y∈qgf l:=fun x y h=>qfa (l:=l) (x:=x) h
 obtain⟨c,H',is,e2,r1,r2⟩:=qmjb hG (by simpa using h1) (qub hl) (qgf l) (Nat.le_trans (qhh l) hw) hmm (fun x y h=>qkv h)
 refine Fresh.one (qye 0 ?_) r1 r2
 simp only[faf,e1,e2,EV0]
theorem c_fac (l:List MPack)(hl:l.length≤1073741824)(s:Str):out qpb [.one (encL 4 MPack.enc l),.one (Cell.str (bs s))]=some [.one (Cell.int (idxF (fun p=>p.Name==s) l 0))]:=by
 have hM:=qar
 have hc:∀ x:MPack,qks [.agg [Cell.str (bs x.Name),encL 1 eStr x.Uses,encL 2 MNeed.enc x.Needs,encL 2 MCmd.enc x.Cmds],.one (.ptr 0 1 0 0 0)] [Entry.mk 1 [[Cell.str (bs s)]] 0 false]=some ([.one (Cell.bool (x.Name==s))],[Entry.mk 1 [[Cell.str (bs s)]] 0 false]):=by
  intro x
  refine qxa 0 ?_
  simp[fad,deref,entry?,cS]
 have loop:∀ (r:List MPack) (i n:Nat),l.drop i=r→r.length < n→∀ k m,qae k m n (encL 4 MPack.enc l) (.ptr 0 1 0 0 0) l.length i [Entry.mk 1 [[Cell.str (bs s)]] 0 false]=some ([.one (Cell.int (idxF (fun p=>p.Name==s) r i))],[Entry.mk 1 [[Cell.str (bs s)]] 0 false]):=by
  intro r
  induction r with
  | nil=>
   intro i n hd hn k m
   obtain⟨n,rfl⟩:∃ j,n=j+1:=⟨n - 1,by omega⟩
   have:=drop_nil hd
   simp only[qae]
   rw[decide_eq_false (by omega),cond_false]
   rfl
  | cons x r ih=>
   intro i n hd hn k m
   obtain⟨n,rfl⟩:∃ j,n=j+1:=⟨n - 1,by omega⟩
   obtain⟨hlt,hg,hd'⟩:=qbe hd
   simp only[List.length_cons] at hn
   simp only[qae,qdd,hg,MPack.enc,hc,Nat.zero_add,EV0]
   rw[decide_eq_true (by omega),cond_true,qaj (by omega),ih (i+1) n hd' (by omega)]
   simp only[idxF]
   cases x.Name==s<;>rfl
 refine qrc (H:=[Entry.mk 1 [[Cell.str (bs s)]] 0 false]) (qyi 0 ?_)
 have h:=qcn (c1:=encL 4 MPack.enc l) (q2:=.ptr 0 1 0 0 0) (H:=[Entry.mk 1 [[Cell.str (bs s)]] 0 false]) (l.length+1) (by
  simpa[qaz] using loop l 0 (l.length+1+1) rfl (by omega) (l.length+1+1) (l.length+1+1))
 simp only[fac,h,EV0]
def curE (code:Str)(i:Nat)(h:Int):Entry:=Entry.mk 3 [[qki code,Cell.int i,Cell.int h]] 0 false
def Cur (H:List Entry)(id:Nat)(code:Str):Prop:=∃ i h,i≤code.length∧H[id]?=some (curE code i h)
structure Dr (id:Nat)(code:Str)(H H':List Entry):Prop where
 len:H.length≤H'.length
 old:∀ j,j≠id→j < H.length→H'[j]?=H[j]?
 cur:Cur H' id code
theorem Dr.refl {id:Nat}{code:Str}{H:List Entry}(h:Cur H id code):Dr id code H H:=⟨Nat.le_refl _,fun _ _ _=>rfl,h⟩
theorem Dr.trans {id:Nat}{code:Str}{H H1 H2:List Entry}(h:Dr id code H H1)(k:Dr id code H1 H2):Dr id code H H2:=
 ⟨Nat.le_trans h.len k.len,fun j hj hl=>by rw[k.old j hj (Nat.lt_of_lt_of_le hl h.len),h.old j hj hl],k.cur⟩
theorem Dr.app {id:Nat}{code:Str}{H:List Entry}(h:Cur H id code)(T:List Entry):Dr id code H (H++T):=by
 obtain⟨i,x,h1,h2⟩:=h
 have hid:id < H.length:=(List.getElem?_eq_some_iff.1 h2).1
 exact⟨by simp,fun j _ hj=>List.getElem?_append_left hj,i,x,h1,by rw[List.getElem?_append_left hid];exact h2⟩
structure DrN (N id:Nat)(code:Str)(H H':List Entry):Prop where
 len:H.length≤H'.length
 old:∀ j,j≠id→j < N→H'[j]?=H[j]?
 cur:Cur H' id code
theorem Dr.toN {id:Nat}{code:Str}{H H':List Entry}(h:Dr id code H H'){N:Nat}(hN:N≤H.length):DrN N id code H H':=⟨h.len,fun j hj hl=>h.old j hj (by omega),h.cur⟩
theorem DrN.trans {N id:Nat}{code:Str}{H H1 H2:List Entry}(h:DrN N id code H H1)(k:DrN N id code H1 H2):DrN N id code H H2:=
 ⟨Nat.le_trans h.len k.len,fun j hj hl=>by rw[k.old j hj hl,h.old j hj hl],k.cur⟩
theorem DrN.full {id:Nat}{code:Str}{H H':List Entry}(h:DrN H.length id code H H'):Dr id code H H':=⟨h.len,h.old,h.cur⟩
theorem and255 (x:Int):0≤andI .i64 x 255∧andI .i64 x 255≤255:=by
 unfold andI
 have h1:(BitVec.ofInt 64 x&&& BitVec.ofInt 64 255).toNat≤255:=by
  rw[BitVec.toNat_and]
  have:(BitVec.ofInt 64 255).toNat=255:=rfl
  rw[this]
  exact Nat.and_le_right
 have h2:IntKind.i64.wrap (((BitVec.ofInt 64 x&&& BitVec.ofInt 64 255).toNat:Nat):Int)=(((BitVec.ofInt 64 x&&& BitVec.ofInt 64 255).toNat:Nat):Int):=wrap_small (by omega) (by omega)
 show 0≤IntKind.i64.wrap (((BitVec.ofInt 64 x&&& BitVec.ofInt 64 255).toNat:Nat):Int)∧IntKind.i64.wrap (((BitVec.ofInt 64 x&&& BitVec.ofInt 64 255).toNat:Nat):Int)≤255
 rw[h2]
 omega
theorem qmm {id:Nat}{code:Str}{H:List Entry}(hc:Cur H id code)(hl:code.length≤1048576):∃ v H',qhs [.one (.ptr id 3 0 0 0)] H=some ([.one (Cell.int v)],H')∧Dr id code H H'∧0≤v∧v≤255:=by
 have hM:=qar
 obtain⟨i,h,hi,he⟩:=hc
 have hid:id < H.length:=(List.getElem?_eq_some_iff.1 he).1
 have dd:∀ (G:List Entry) (i':Nat) (h':Int) (j:Nat),G[id]?=some (curE code i' h')→deref G (.ptr id 3 0 j 0)=some ([qki code,Cell.int i',Cell.int h'],j):=fun G i' h' j hg=>by simp[deref,entry?,hg,curE]
 have st2:∀ (G:List Entry) (i':Nat) (h' v:Int),G[id]?=some (curE code i' h')→qeg G (.ptr id 3 0 2 0) [Cell.int v]=some (G.set id (curE code i' v)):=fun G i' h' v hg=>by simp[qeg,entry?,hg,curE,splice]
 have st1:∀ (G:List Entry) (i':Nat) (h':Int) (v:Nat),G[id]?=some (curE code i' h')→qeg G (.ptr id 3 0 1 0) [Cell.int v]=some (G.set id (curE code v h')):=fun G i' h' v hg=>by simp[qeg,entry?,hg,curE,splice]
 have g1:∀ x,(H.set id (curE code i x))[id]?=some (curE code i x):=fun x=>List.getElem?_set_self hid
 obtain⟨x,hx⟩:∃ x,x=IntKind.i64.wrap (IntKind.i64.wrap (h*6364136223846793005)+1442695040888963407):=⟨_,rfl⟩
 by_cases hlt:i < code.length
 ·refine⟨andI .i64 (IntKind.i64.wrap ((andI .i64 (xorI .i64 (shrI .i64 x 33) (shrI .i64 x 47)) 255)+IntKind.i64.wrap ((code[i]).toNat:Int))) 255,(H.set id (curE code i x)).set id (curE code (i+1) x),qoh 0 ?_,?_,and255 _⟩
  ·simp only[fbg,ptrC,qcd,Nat.zero_add,dd H i h _ he,EV0]
   rw[← hx]
   clear hx
   simp only[st2 H i h _ he,dd _ i _ _ (g1 _),qbc,EV0]
   rw[decide_eq_true (by omega),cond_true]
   simp only[qdd,List.getElem?_eq_getElem hlt,qkxb,EV0]
   rw[qaj (by omega),st1 _ i _ (i+1) (g1 _)]
   rfl
  ·rw[List.set_set]
   exact⟨by simp,fun j hj hjl=>by rw[List.getElem?_set_ne (Ne.symm hj)],i+1,_,by omega,List.getElem?_set_self hid⟩
 ·refine⟨andI .i64 (xorI .i64 (shrI .i64 x 33) (shrI .i64 x 47)) 255,H.set id (curE code i x),qoh 0 ?_,?_,and255 _⟩
  ·simp only[fbg,ptrC,qcd,Nat.zero_add,dd H i h _ he,EV0]
   rw[← hx]
   clear hx
   simp only[st2 H i h _ he,dd _ i _ _ (g1 _),qbc,EV0]
   rw[decide_eq_false (by omega),cond_false]
  ·exact⟨by simp,fun j hj hjl=>by rw[List.getElem?_set_ne (Ne.symm hj)],i,_,hi,List.getElem?_set_self hid⟩
theorem qmnb (code:Str)(hl:code.length≤1048576)(H:List Entry):∃ h,qpn [.one (qki code)] H=some ([.one (.ptr H.length 3 0 0 0)],H++[curE code 0 h]):=by
 have hM:=qar
 have loop:∀ (r:Str) (i n:Nat) (x:Int),code.drop i=r→r.length < n→∀ k m,∃ h,qqk k m n (qki code) x i H=some ([.one (.ptr H.length 3 0 0 0)],H++[curE code 0 h]):=by
  intro r
  induction r with
  | nil=>
   intro i n x hd hn k m
   obtain⟨n,rfl⟩:∃ j,n=j+1:=⟨n - 1,by omega⟩
   have:=drop_nil hd
   refine⟨x,?_⟩
   simp only[qqk,qbc,Option.bind_some]
   rw[decide_eq_false (by omega),cond_false]
   rfl
  | cons b r ih=>
   intro i n x hd hn k m
   obtain⟨n,rfl⟩:∃ j,n=j+1:=⟨n - 1,by omega⟩
   obtain⟨hlt,hx,hd'⟩:=qbe hd
   simp only[List.length_cons] at hn
   simp only[qqk,qbc,Option.bind_some]
   rw[decide_eq_true (by omega),cond_true]
   by_cases h4:i < 4000
   ·rw[decide_eq_true (by omega),cond_true]
    simp only[qdd,hx,qkxb,EV0]
    rw[qaj (by omega)]
    exact ih (i+1) n _ hd' (by omega) k m
   ·rw[decide_eq_false (by omega),cond_false]
    exact⟨x,rfl⟩
 obtain⟨h,e⟩:=loop code 0 (code.length+1+1) (IntKind.i64.wrap (778778+(code.length:Int))) rfl (by omega) (code.length+1+1) (code.length+1+1)
 refine⟨h,qwy (code.length+1) ?_⟩
 rw[show((0:Nat):Int)=0 from rfl] at e
 have hle:lenC (qki code)=some code.length:=qbc ..
 unfold fbh
 rw[hle,Option.bind_some]
 exact e
theorem Cur.new (code:Str)(h:Int)(H:List Entry):Cur (H++[curE code 0 h]) H.length code:=⟨0,h,Nat.zero_le _,by simp⟩
theorem qfk {id:Nat}{code:Str}{H:List Entry}(hc:Cur H id code)(hl:code.length≤1048576)(n:Nat)(h0:0 < n)(hn:n≤1073741824):∃ (v:Nat) (H':List Entry),qdx [.one (.ptr id 3 0 0 0),.one (Cell.int n)] H=some ([.one (Cell.int (v:Int))],H')∧Dr id code H H'∧v < n:=by
 have hM:=qar
 have hne:(n:Int)≠0:=by omega
 by_cases h2:n≤256
 ·obtain⟨v,H',e,d,v0,v1⟩:=qmm hc hl
  obtain⟨v,rfl⟩:∃ w:Nat,v=(w:Int):=⟨v.toNat,by omega⟩
  refine⟨v % n,H',qmz 0 ?_,d,Nat.mod_lt _ h0⟩
  simp only[fbf,e,EV0]
  rw[decide_eq_false (by omega),cond_false,decide_eq_true (by omega),cond_true,if_neg hne,Int.tmod_eq_emod_of_nonneg v0]
  rfl
 ·obtain⟨v,H1,e1,d1,v0,v1⟩:=qmm hc hl
  obtain⟨x,H2,e2,d2,x0,x1⟩:=qmm d1.cur hl
  obtain⟨y,H3,e3,d3,y0,y1⟩:=qmm d2.cur hl
  obtain⟨v,rfl⟩:∃ w:Nat,v=(w:Int):=⟨v.toNat,by omega⟩
  obtain⟨x,rfl⟩:∃ w:Nat,x=(w:Int):=⟨x.toNat,by omega⟩
  obtain⟨y,rfl⟩:∃ w:Nat,y=(w:Int):=⟨y.toNat,by omega⟩
  refine⟨(v*65536+x*256+y) % n,H3,qmz 0 ?_,d1.trans (d2.trans d3),Nat.mod_lt _ h0⟩
  simp only[fbf,e1,e2,e3,EV0]
  rw[decide_eq_false (by omega),cond_false,decide_eq_false (by omega),cond_false,if_neg hne,wrap_small (n:=(v:Int)*65536) (by omega) (by omega),wrap_small (n:=(x:Int)*256) (by omega) (by omega),wrap_small (n:=(v:Int)*65536+(x:Int)*256) (by omega) (by omega),wrap_small (by omega) (by omega),Int.tmod_eq_emod_of_nonneg (by omega),
   show(v:Int)*65536+(x:Int)*256+(y:Int)=((v*65536+x*256+y:Nat):Int) by omega]
  rfl
theorem qji {id:Nat}{code:Str}{H:List Entry}(hc:Cur H id code)(hl:code.length≤1048576)(n:Nat)(h0:0 < n)(hn:n≤1073741824):∃ (b:Bool) (H':List Entry),qer [.one (.ptr id 3 0 0 0),.one (Cell.int n)] H=some ([.one (Cell.bool b)],H')∧Dr id code H H':=by
 obtain⟨v,H',e,d,_⟩:=qfk hc hl n h0 hn
 refine⟨((v:Int)==0),H',qwt 0 ?_,d⟩
 simp only[fbi,e,EV0]
theorem qyx {id:Nat}{code:Str}{H:List Entry}(hc:Cur H id code)(hl:code.length≤1048576)(f:Bool)(xs:List Str)(h0:0 < xs.length)(hn:xs.length≤1073741824):∃ s H',qfb [.one (.ptr id 3 0 0 0),.one (.lst f 1 (xs.map eStr))] H=some ([.one (Cell.str (bs s))],H')∧Dr id code H H'∧s∈xs:=by
 obtain⟨v,H',e,d,hv⟩:=qfk hc hl xs.length h0 hn
 refine⟨xs[v],H',qps 0 ?_,d,List.getElem_mem hv⟩
 have hi:idxA 1 (.lst f 1 (xs.map eStr)) (v:Int)=some (.ref (eStr xs[v]) 0):=by rw[qgc,List.getElem?_map,List.getElem?_eq_getElem hv];rfl
 simp only[fbj,lenC,List.length_map,e,hi,eStr,EV0]
theorem qpsb (a b:Nat):(((a:Nat):Int)==((b:Nat):Int))=(a==b):=by
 rw[Bool.eq_iff_iff,beq_iff_eq,beq_iff_eq]
 omega
def OwnM (lo hi:Nat)(H:List Entry)(n:Nat)(c:Cell)(t:Tr):Prop:=∃ ids,Rep H true true n ids c t∧Mine lo hi ids∧qgn c
def OwnS (lo hi:Nat)(H:List Entry)(n:Nat)(cs:List Cell)(ts:List Tr):Prop:=∃ ids,Sp (Rep H true true n) ids cs ts∧Mine lo hi ids
theorem OwnM.nil (sz lo hi:Nat)(n:Nat)(H:List Entry)(h:lo≤hi):OwnM lo hi H (n+1) (.lst true sz []) (.list sz []):=⟨[],.inl ⟨rfl,rfl,true,rfl⟩,Mine.nil h,qbn _⟩
theorem Mine.wide {lo hi lo' hi':Nat}{ids:List Nat}(h:Mine lo hi ids)(h1:lo'≤lo)(h2:hi≤hi'):Mine lo' hi' ids:=⟨by have:=h.le;omega,h.nd,fun j hj=>by have:=h.lo j hj;omega,fun j hj=>by have:=h.hi j hj;omega⟩
theorem Mine.swap {lo hi:Nat}{a b:List Nat}(h:Mine lo hi (a++b)):Mine lo hi (b++a):=
 ⟨h.le,by have:=h.nd;rw[List.nodup_append] at this ⊢;exact⟨this.2.1,this.1,fun x hx y hy e=>this.2.2 y hy x hx e.symm⟩,fun j hj=>h.lo j (by simp at hj ⊢;exact hj.symm),fun j hj=>h.hi j (by simp at hj ⊢;exact hj.symm)⟩
theorem OwnM.wide {lo hi lo' hi' n:Nat}{H:List Entry}{c:Cell}{t:Tr}(h:OwnM lo hi H n c t)(h1:lo'≤lo)(h2:hi≤hi'):OwnM lo' hi' H n c t:=by
 obtain⟨ids,a,b,d⟩:=h
 exact⟨ids,a,b.wide h1 h2,d⟩
theorem OwnM.frame {lo hi n id N:Nat}{code:Str}{H H':List Entry}{c:Cell}{t:Tr}(h:OwnM lo hi H n c t)(d:DrN N id code H H')(hid:id < lo)(hN:hi≤N):OwnM lo hi H' n c t:=by
 obtain⟨ids,a,b,e⟩:=h
 exact⟨ids,a.frame fun j hj=>d.old j (fun h=>by have:=b.lo j hj;omega) (by have:=b.hi j hj;omega),b,e⟩
theorem OwnM.s1 {lo hi n:Nat}{H:List Entry}{c:Cell}{t:Tr}(h:OwnM lo hi H n c t):OwnS lo hi H n [c] [t]:=by
 obtain⟨ids,a,b,_⟩:=h
 exact⟨ids++[],.cons a .nil,by simpa using b⟩
theorem OwnS.leaf {lo hi n:Nat}{H:List Entry}{v:Value}{cs:List Cell}{ts:List Tr}(h:OwnS lo hi H (n+1) cs ts):OwnS lo hi H (n+1) (.sc v::cs) (.leaf v::ts):=by
 obtain⟨ids,a,b⟩:=h
 exact⟨[]++ids,.cons ⟨rfl,rfl⟩ a,by simpa using b⟩
theorem qob (H:List Entry)(sz:Nat)(row:List Cell):qaf (H++[Entry.mk sz [row] 0 false]) sz (.vs H.length sz 0 1 0)=some [row]:=by simp[qaf,rowsOf,entry?]
theorem OwnM.push {lo mid n sz by' id:Nat}{code:Str}{H:List Entry}{c:Cell}{trs:List (List Tr)}{row:List Cell}{tr:List Tr}(h:OwnM lo mid H (n+1) c (.list sz trs))(hr:OwnS mid H.length H n row tr)(hrl:row.length=sz)
  (hc:Cur H id code) (hid:id < lo) (hlen:trs.length≤1048576) (hby:by'≤1000):
  ∃ p:Cell×List Entry,app (H++[Entry.mk sz [row] 0 false]) sz by' c [row]=some p∧OwnM lo p.2.length p.2 (n+1) p.1 (.list sz (trs++[tr]))∧DrN lo id code H p.2:=by
 obtain⟨ids,h1,h2,h3⟩:=h
 obtain⟨js,k1,k2⟩:=hr
 have hb:(trs.length+1)*by'≤1048577*1000:=Nat.mul_le_mul (by omega) hby
 obtain⟨d,H',ids',a,r,nl,nd,g,m,k,_⟩:=(h1.app [Entry.mk sz [row] 0 false]).append (by':=by') (ys:=[row]) (tys:=[tr]) (js:=js++[]) h3 h2.nd (.cons (Rep.app2 _ k1) .nil) (by intro r hr;simp at hr;rw[hr];exact hrl) (by simpa using k2.nd) (fun j hj h=>by
  have e1:=h2.hi j hj
  have e2:=k2.lo j (by simpa using h)
  omega) (by simp[bound];omega) (by simp[bound];omega)
 obtain⟨i,x,hi,he⟩:=hc
 have hidl:id < H.length:=(List.getElem?_eq_some_iff.1 he).1
 have hm:H.length+1≤H'.length:=by simpa using m
 have hle:=k2.le
 have hle2:=h2.le
 have old:∀ j,j < H.length→j∉ids→H'[j]?=H[j]?:=fun j hj hn=>by rw[k j (by simp;omega) hn,List.getElem?_append_left hj]
 refine⟨(d,H'),a,⟨ids',r,⟨by show lo≤H'.length;omega,nd,fun j hj=>?_,r.lt⟩,nl⟩,by show H.length≤H'.length;omega,fun j hj hl=>old j (by omega) fun h=>by have:=h2.lo j h;omega,i,x,hi,?_⟩
 ·rcases g j hj with h | h | h
  ·exact h2.lo j h
  ·have:=k2.lo j (by simpa using h)
   omega
  ·simp at h
   omega
 ·simp only
  rw[old id hidl fun h=>by have:=h2.lo id h;omega]
  exact he
def VecN (H:List Entry)(ids:List Nat)(c:Cell)(sz:Nat)(rows:List (List Cell)):Prop:=(rows=[]∧ids=[]∧c=.lst true sz [])∨∃ j ep,ids=[j]∧c=.vs j sz 0 rows.length ep∧H[j]?=some ⟨sz,rows,ep,false⟩
theorem VecN.nil (H:List Entry)(sz:Nat):VecN H [] (.lst true sz []) sz []:=.inl ⟨rfl,rfl,rfl⟩
theorem VecN.frame {H H':List Entry}{ids:List Nat}{c:Cell}{sz:Nat}{rows:List (List Cell)}(h:VecN H ids c sz rows)(k:∀ j∈ids,H'[j]?=H[j]?):VecN H' ids c sz rows:=by
 rcases h with h | ⟨j,ep,rfl,rfl,h⟩
 ·exact .inl h
 ·exact .inr ⟨j,ep,rfl,rfl,by rw[k j (by simp)];exact h⟩
theorem VecN.lt {H:List Entry}{ids:List Nat}{c:Cell}{sz:Nat}{rows:List (List Cell)}(h:VecN H ids c sz rows):∀ j∈ids,j < H.length:=by
 rcases h with⟨_,rfl,_⟩ | ⟨j,ep,rfl,rfl,h⟩
 ·simp
 ·intro k hk
  simp at hk
  subst hk
  exact(List.getElem?_eq_some_iff.1 h).1
theorem VecN.len {H:List Entry}{ids:List Nat}{c:Cell}{sz:Nat}{rows:List (List Cell)}(h:VecN H ids c sz rows):lenC c=some rows.length:=by
 rcases h with⟨rfl,_,rfl⟩ | ⟨j,ep,rfl,rfl,h⟩<;>simp[lenC]
theorem VecN.at {H:List Entry}{ids:List Nat}{c:Cell}{sz:Nat}{rows:List (List Cell)}(h:VecN H ids c sz rows){i:Nat}{r:List Cell}(hr:rows[i]?=some r):∃ a,idxA sz c (i:Int)=some a∧∀ f,∃ a',fldA a f=some a'∧deref H a'=some (r,f):=by
 rcases h with⟨rfl,_,_⟩ | ⟨j,ep,rfl,rfl,h⟩
 ·simp at hr
 ·exact⟨.ptr j sz i 0 ep,qxd _ _ _ _ _ (List.getElem?_eq_some_iff.1 hr).1,fun f=>⟨.ptr j sz i f ep,by rw[qcd,Nat.zero_add],by simp[deref,entry?,h,hr]⟩⟩
theorem VecN.tail {H:List Entry}{ids:List Nat}{c:Cell}{sz:Nat}{rows:List (List Cell)}(h:VecN H ids c sz rows){n:Nat}(hn:n≤rows.length):
  ∃ c',slcC sz c (n:Int) none none=some c'∧∀ H',(∀ j∈ids,H'[j]?=H[j]?)→qaf H' sz c'=some (rows.drop n):=by
 rcases h with⟨rfl,_,rfl⟩ | ⟨j,ep,rfl,rfl,h⟩
 ·simp at hn
  subst hn
  exact⟨.lst (qmt true none 0 0) sz [],by simp[slcC],fun H' _=>by simp[qaf,rowsOf]⟩
 ·by_cases e:n=0∨n < rows.length
  ·refine⟨.vs j sz (0+n) (rows.length - n) ep,?_,fun H' k=>?_⟩
   ·simp only[slcC,Option.getD_none,if_true]
    rw[if_pos (by omega),if_pos (by omega)]
    simp only[Int.toNat_natCast,Nat.zero_add,Option.some.injEq,Cell.vs.injEq,true_and,and_true]
    omega
   ·have:=k j (by simp)
    rw[h] at this
    simp only[qaf,rowsOf,if_true,entry?,this]
    rw[if_pos (by omega)]
    simp only[Nat.zero_add,Option.some.injEq]
    exact List.take_of_length_le (by simp)
  ·refine⟨.lst false sz [],?_,fun H' k=>?_⟩
   ·simp only[slcC,Option.getD_none,if_true]
    rw[if_pos (by omega),if_neg (by omega)]
   ·simp only[qaf,rowsOf,if_true]
    rw[List.drop_eq_nil_of_le (by omega)]
theorem VecN.head {H:List Entry}{ids:List Nat}{c:Cell}{sz:Nat}{rows:List (List Cell)}(h:VecN H ids c sz rows){n:Nat}(hn:n≤rows.length):
  ∃ c',slcC sz c 0 (some (n:Int)) none=some c'∧∀ H',(∀ j∈ids,H'[j]?=H[j]?)→qaf H' sz c'=some (rows.take n):=by
 rcases h with⟨rfl,_,rfl⟩ | ⟨j,ep,rfl,rfl,h⟩
 ·simp at hn
  subst hn
  exact⟨.lst (qmt true none 0 0) sz [],by simp[slcC],fun H' _=>by simp[qaf,rowsOf]⟩
 ·refine⟨.vs j sz 0 n ep,?_,fun H' k=>?_⟩
  ·simp only[slcC,Option.getD_some,Option.getD_none,if_true]
   rw[if_pos ⟨by omega,by omega,by omega,Int.le_refl _⟩,if_pos (.inl trivial)]
   simp
  ·have:=k j (by simp)
   rw[h] at this
   simp only[qaf,rowsOf,if_true,entry?,this]
   rw[if_pos (by omega)]
   simp
theorem VecN.app {H:List Entry}{ids:List Nat}{c:Cell}{sz by':Nat}{rows:List (List Cell)}(h:VecN H ids c sz rows)(ys:List (List Cell))(hl:rows.length+ys.length≤1048576)(hby:by'≤1000):
  ∃ (p:Cell×List Entry) (ids':List Nat),app H sz by' c ys=some p∧VecN p.2 ids' p.1 sz (rows++ys)∧(∀ j,j < H.length→j∉ids→p.2[j]?=H[j]?)∧H.length≤p.2.length∧(∀ j∈ids',j∈ids∨H.length≤j):=by
 have hb:(rows.length+ys.length)*by'≤1048576*1000:=Nat.mul_le_mul hl hby
 rcases h with⟨rfl,rfl,rfl⟩ | ⟨j,ep,rfl,rfl,h⟩
 ·cases ys with
  | nil=>exact⟨(_,H),[],by simp[Ev.app],.inl ⟨rfl,rfl,rfl⟩,fun _ _ _=>rfl,Nat.le_refl _,by simp⟩
  | cons y ys=>
   simp only[List.length_nil] at hl hb
   refine⟨(.vs H.length sz 0 (0+(y::ys).length) 0,H++[⟨sz,[]++(y::ys),0,false⟩]),[H.length],?_,.inr ⟨H.length,0,rfl,by simp,by simp⟩,fun j hj _=>List.getElem?_append_left hj,by simp,by simp⟩
   simp only[Ev.app,List.isEmpty_cons,List.length_nil]
   rw[if_neg (by simp),if_pos ⟨trivial,.inr trivial,by unfold bound;omega,by unfold bound;omega⟩]
 ·have hj:=(List.getElem?_eq_some_iff.1 h).1
  refine⟨(.vs j sz 0 (rows.length+ys.length) (ep+1),H.set j ⟨sz,rows++ys,ep+1,false⟩),[j],?_,.inr ⟨j,ep+1,rfl,by simp,List.getElem?_set_self hj⟩,fun k hk hn=>List.getElem?_set_ne (fun e=>hn (by simp[e])),by simp,fun k hk=>.inl hk⟩
  simp only[Ev.app,entry?,h,if_true]
  rw[if_pos ⟨trivial,by simp,.inr trivial,by unfold bound;omega,by unfold bound;omega⟩]
  simp
theorem ins_ok {β:Type}{H:List Entry}{ids:List Nat}{c:Cell}{rows:List (List Cell)}(h:VecN H ids c 2 rows){n:Nat}(hn:n≤rows.length)(row:List Cell)(hl:rows.length≤1000)(K:Cell×List Entry→Option β):
  ∃ (p:Cell×List Entry) (ids':List Nat),((slcC 2 c (n:Int) none none).bind fun c1=>(qaf H 2 c1).bind fun r1=>(app H 2 32 (.lst true 2 []) r1).bind fun p1=>(slcC 2 c 0 (some (n:Int)) none).bind fun c2=>(qaf p1.2 2 c2).bind fun r2=>
   (app p1.2 2 32 (.lst true 2 []) r2).bind fun p2=>(app p2.2 2 32 p2.1 [row]).bind fun p3=>(qaf p3.2 2 p1.1).bind fun r3=>(app p3.2 2 32 p3.1 r3).bind K)=K p∧
   VecN p.2 ids' p.1 2 (rows.take n++row::rows.drop n)∧(∀ j,j < H.length→p.2[j]?=H[j]?)∧H.length≤p.2.length∧∀ j∈ids',H.length≤j:=by
 have hlt:=h.lt
 obtain⟨c1,e1,s1⟩:=h.tail hn
 obtain⟨c2,e2,s2⟩:=h.head hn
 obtain⟨p1,i1,a1,v1,f1,l1,m1⟩:=(VecN.nil H 2).app (by':=32) (rows.drop n) (by simp;omega) (by omega)
 obtain⟨p2,i2,a2,v2,f2,l2,m2⟩:=(VecN.nil p1.2 2).app (by':=32) (rows.take n) (by simp;omega) (by omega)
 obtain⟨p3,i3,a3,v3,f3,l3,m3⟩:=v2.app (by':=32) [row] (by simp;omega) (by omega)
 simp only[List.nil_append] at v1 v2 v3
 have hi1:=v1.lt
 have q3:∀ j∈i1,p3.2[j]?=p1.2[j]?:=fun j hj=>by
  have:=hi1 j hj
  rw[f3 j (by omega) fun h=>by
   rcases m2 j h with h | h
   ·simp at h
   ·omega,f2 j this (by simp)]
 have v1':=v1.frame q3
 have s3:qaf p3.2 2 p1.1=some (rows.drop n):=by
  rcases v1' with⟨hd,_,hc⟩ | ⟨j,ep,_,hc,he⟩
  ·rw[hc,hd];simp[qaf,rowsOf]
  ·rw[hc]
   simp[qaf,rowsOf,entry?,he]
   exact List.take_of_length_le (by simp)
 obtain⟨p4,i4,a4,v4,f4,l4,m4⟩:=v3.app (by':=32) (rows.drop n) (by simp;omega) (by omega)
 have low3:∀ j∈i3,H.length≤j:=fun j hj=>by
  rcases m3 j hj with h | h
  ·rcases m2 j h with h | h
   ·simp at h
   ·omega
  ·omega
 refine⟨p4,i4,?_,?_,fun j hj=>?_,by omega,fun j hj=>?_⟩
 ·rw[e1,Option.bind_some,s1 H fun _ _=>rfl,Option.bind_some,a1,Option.bind_some,e2,Option.bind_some,s2 p1.2 fun j hj=>f1 j (hlt j hj) (by simp),Option.bind_some,a2,Option.bind_some,a3,Option.bind_some,s3,Option.bind_some,a4,Option.bind_some]
 ·simpa using v4
 ·rw[f4 j (by omega) fun h=>by have:=low3 j h;omega,f3 j (by omega) fun h=>by
   rcases m2 j h with h | h
   ·simp at h
   ·omega,f2 j (by omega) (by simp),f1 j hj (by simp)]
 ·rcases m4 j hj with h | h
  ·exact low3 j h
  ·omega
def qvd (n:MNeed):Prop:=n.Name.length≤20∧n.Range.length≤20
def qus (c:MCmd):Prop:=c.Task.length≤20∧c.Acts.length≤3∧∀ a∈c.Acts,a.length≤100
def qjj (p:MPack):Prop:=p.Name.length≤20∧(p.Uses.length≤4∧∀ u∈p.Uses,u.length≤20)∧(p.Needs.length≤3∧∀ n∈p.Needs,qvd n)∧(p.Cmds.length≤3∧∀ c∈p.Cmds,qus c)
theorem qvg {id:Nat}{code:Str}{H:List Entry}(hc:Cur H id code)(hl:code.length≤1048576):∃ (n:MNeed) (H':List Entry),qnw [.one (.ptr id 3 0 0 0)] H=some ([.agg [Cell.str (bs n.Name),Cell.str (bs n.Range)]],H')∧Dr id code H H'∧qvd n:=by
 obtain⟨s1,G1,e1,d1,m1⟩:=qyx hc hl true [[108,105,98],[108,111,103],[110,101,116],[122,105,112]] (by simp) (by simp)
 obtain⟨s2,G2,e2,d2,m2⟩:=qyx d1.cur hl true [[42],[94,49,46,48,46,48],[126,49,46,49],[62,61,49],[60,50],[49,46,120],[48,46,120,32,124,124,32,50,46,120],[94,48,46,49,46,48]] (by simp) (by simp)
 have h1:s1.length≤20:=(by decide:∀ s∈([[108,105,98],[108,111,103],[110,101,116],[122,105,112]]:List Str),s.length≤20) s1 m1
 have h2:s2.length≤20:=(by decide:∀ s∈([[42],[94,49,46,48,46,48],[126,49,46,49],[62,61,49],[60,50],[49,46,120],[48,46,120,32,124,124,32,50,46,120],[94,48,46,49,46,48]]:List Str),s.length≤20) s2 m2
 simp only[List.map_cons,List.map_nil,eStr] at e1 e2
 refine⟨⟨s1,s2⟩,G2,qzq 0 ?_,d1.trans d2,h1,h2⟩
 simp only[fbn,e1,e2,EV0]
theorem qnv {id:Nat}{code:Str}{H:List Entry}(hc:Cur H id code)(hl:code.length≤1048576):∃ (l:List MNeed) (c:Cell) (ids:List Nat) (H':List Entry),qmx [.one (.ptr id 3 0 0 0)] H=some ([.one c],H')∧Dr id code H H'∧
  VecN H' ids c 2 (l.map MNeed.enc)∧(∀ j∈ids,H.length≤j)∧l.length≤3∧∀ n∈l,qvd n:=by
 have hM:=qar
 have hid:id < H.length:=by obtain⟨i,x,_,he⟩:=hc;exact(List.getElem?_eq_some_iff.1 he).1
 have inner:∀ (b:Cell→Cell→Int→List Entry→Option Res) (q:Int) (nd:MNeed) (l:List MNeed) (c:Cell) (ids:List Nat) (G:List Entry),VecN G ids c 2 (l.map MNeed.enc)→(∀ j∈ids,H.length≤j)→l.length≤1000→H.length≤G.length→Cur G id code→∀ (e i n:Nat),i+e=l.length→e < n→∀ k m,
   ∃ (c':Cell) (ids':List Nat) (G':List Entry) (l':List MNeed),qrf k m b n (.ptr id 3 0 0 0) c q i (bs nd.Name) (bs nd.Range) G=b (.ptr id 3 0 0 0) c' (IntKind.i64.wrap (q - 1)) G'∧VecN G' ids' c' 2 (l'.map MNeed.enc)∧(∀ j∈ids',H.length≤j)∧Dr id code G G'∧l'.length≤l.length+1∧∀ x∈l',x=nd∨x∈l:=by
  intro b q nd l c ids G hv hlo hll hG hcur e
  have hcur':=hcur
  have ins:∀ i,i≤l.length→∃ (c':Cell) (ids':List Nat) (G':List Entry) (l':List MNeed),((slcC 2 c (i:Int) none none).bind fun c1=>(qaf G 2 c1).bind fun r1=>(app G 2 32 (.lst true 2 []) r1).bind fun p1=>(slcC 2 c 0 (some (i:Int)) none).bind fun c2=>(qaf p1.2 2 c2).bind fun r2=>
    (app p1.2 2 32 (.lst true 2 []) r2).bind fun p2=>(app p2.2 2 32 p2.1 [[Cell.str (bs nd.Name),Cell.str (bs nd.Range)]]).bind fun p3=>(qaf p3.2 2 p1.1).bind fun r3=>(app p3.2 2 32 p3.1 r3).bind fun p4=>b (.ptr id 3 0 0 0) p4.1 (IntKind.i64.wrap (q - 1)) p4.2)=b (.ptr id 3 0 0 0) c' (IntKind.i64.wrap (q - 1)) G'∧
    VecN G' ids' c' 2 (l'.map MNeed.enc)∧(∀ j∈ids',H.length≤j)∧Dr id code G G'∧l'.length≤l.length+1∧∀ x∈l',x=nd∨x∈l:=fun i hi=>by
   obtain⟨p,ids',z1,z2,z3,z4,z5⟩:=ins_ok hv (n:=i) (by simpa using hi) [Cell.str (bs nd.Name),Cell.str (bs nd.Range)] (by simpa using hll) (fun p4=>b (.ptr id 3 0 0 0) p4.1 (IntKind.i64.wrap (q - 1)) p4.2)
   obtain⟨i0,x0,h0,he0⟩:=hcur'
   refine⟨p.1,ids',p.2,l.take i++nd::l.drop i,z1,by simpa[MNeed.enc,List.map_take,List.map_drop] using z2,fun j hj=>by have:=z5 j hj;omega,⟨z4,fun j _ hj=>z3 j hj,i0,x0,h0,by rw[z3 id (by omega)];exact he0⟩,by simp;omega,fun x hx=>?_⟩
   rcases List.mem_append.1 hx with h | h
   ·exact .inr (List.mem_of_mem_take h)
   ·rcases List.mem_cons.1 h with h | h
    ·exact .inl h
    ·exact .inr (List.mem_of_mem_drop h)
  induction e with
  | zero=>
   intro i n hi hn k m
   obtain⟨n,rfl⟩:∃ j,n=j+1:=⟨n - 1,by omega⟩
   have hlc:=hv.len
   rw[List.length_map] at hlc
   simp only[qrf,hlc,Option.bind_some]
   rw[decide_eq_false (by omega),cond_false,qpsb,show(i==l.length)=true by simp;omega,cond_true]
   exact ins i (by omega)
  | succ e ih=>
   intro i n hi hn k m
   obtain⟨n,rfl⟩:∃ j,n=j+1:=⟨n - 1,by omega⟩
   have hlc:=hv.len
   rw[List.length_map] at hlc
   obtain⟨x,hx⟩:∃ x,l[i]?=some x:=⟨_,List.getElem?_eq_getElem (by omega)⟩
   obtain⟨a,a1,a2⟩:=hv.at (i:=i) (r:=MNeed.enc x) (by rw[List.getElem?_map,hx];rfl)
   obtain⟨a',a3,a4⟩:=a2 0
   simp only[MNeed.enc] at a4
   simp only[qrf,hlc,Option.bind_some]
   rw[decide_eq_true (by omega),cond_true]
   simp only[a1,a3,a4,qih,qaj (show i < maxLen by omega),EV0]
   cases Op.bytesLess x.Name nd.Name with
   | true=>exact ih (i+1) n (by omega) (by omega) k m
   | false=>
    rw[cond_false,qpsb,show(i==l.length)=false by simp;omega,cond_false]
    cases x.Name==nd.Name with
    | true=>exact⟨c,ids,G,l,rfl,hv,hlo,Dr.refl hcur,by omega,fun x hx=>.inr hx⟩
    | false=>
     rw[Bool.not_false,cond_true]
     exact ins i (by omega)
 have loop:∀ (d n:Nat) (l:List MNeed) (c:Cell) (ids:List Nat) (G:List Entry),d < n→VecN G ids c 2 (l.map MNeed.enc)→(∀ j∈ids,H.length≤j)→l.length+d≤3→(∀ x∈l,qvd x)→Dr id code H G→∀ k m,1000≤m→
   ∃ (l':List MNeed) (c':Cell) (ids':List Nat) (H':List Entry),qnx k m n (.ptr id 3 0 0 0) c (d:Int) G=some ([.one c'],H')∧Dr id code H H'∧VecN H' ids' c' 2 (l'.map MNeed.enc)∧(∀ j∈ids',H.length≤j)∧l'.length≤3∧∀ n∈l',qvd n:=by
  intro d
  induction d with
  | zero=>
   intro n l c ids G hn hv hlo hll hs hd k m hm
   obtain⟨n,rfl⟩:∃ j,n=j+1:=⟨n - 1,by omega⟩
   refine⟨l,c,ids,G,?_,hd,hv,hlo,by omega,hs⟩
   simp only[qnx]
   rw[decide_eq_false (by omega),cond_false]
  | succ d ih=>
   intro n l c ids G hn hv hlo hll hs hd k m hm
   obtain⟨n,rfl⟩:∃ j,n=j+1:=⟨n - 1,by omega⟩
   obtain⟨nd,G1,e1,d1,s1⟩:=qvg hd.cur hl
   have hv1:VecN G1 ids c 2 (l.map MNeed.enc):=hv.frame fun j hj=>d1.old j (fun e=>by have:=hlo j hj;omega) (hv.lt j hj)
   obtain⟨c2,ids2,G2,l2,e2,v2,lo2,d2,ll2,m2⟩:=inner (qnx k m n) ((d+1:Nat):Int) nd l c ids G1 hv1 hlo (by omega) (by have:=hd.len;have:=d1.len;omega) d1.cur l.length 0 m (by omega) (by omega) k m
   obtain⟨l',c',ids',H',e3,r⟩:=ih n l2 c2 ids2 G2 (by omega) v2 lo2 (by omega) (fun x hx=>by
    rcases m2 x hx with rfl | h
    ·exact s1
    ·exact hs x h) (hd.trans (d1.trans d2)) k m hm
   refine⟨l',c',ids',H',?_,r⟩
   simp only[qnx]
   rw[decide_eq_true (by omega),cond_true]
   simp only[e1,EV0]
   rw[show((0:Nat):Int)=0 from rfl] at e2
   rw[e2,qtm (by omega)]
   exact e3
 obtain⟨v,G2,e2,d2,hv⟩:=qfk hc hl 3 (by omega) (by omega)
 obtain⟨l',c',ids',H',e3,r⟩:=loop v 1000 [] (.lst true 2 []) [] G2 (by omega) (VecN.nil _ _) (by simp) (by simp;omega) (by simp) d2 1000 1000 (by omega)
 refine⟨l',c',ids',H',qzm 999 ?_,r⟩
 rw[show((3:Nat):Int)=3 from rfl] at e2
 simp only[fbm,e2,EV0]
 exact e3
theorem VecN.own {lo hi:Nat}{H:List Entry}{ids:List Nat}{c:Cell}{l:List MNeed}(h:VecN H ids c 2 (l.map MNeed.enc))(hlo:∀ j∈ids,lo≤j)(hh:H.length≤hi)(hl:lo≤hi):OwnM lo hi H 2 c (trL 2 MNeed.tr l):=by
 have hlt:=h.lt
 rcases h with⟨h1,rfl,rfl⟩ | ⟨j,ep,rfl,rfl,h⟩
 ·simp only[List.map_eq_nil_iff] at h1
  subst h1
  exact OwnM.nil 2 lo hi 1 H hl
 ·refine⟨[j],.inr ⟨j,0,ep,l.map MNeed.enc,false,[],by simp,rfl,h,fun _=>rfl,fun _=>⟨rfl,by simp⟩,by simp,?_,?_⟩,⟨hl,by simp,fun k hk=>hlo k hk,fun k hk=>by have:=hlt k hk;omega⟩,qce _ _ _ _ _⟩
  ·intro r hr
   obtain⟨x,hx,rfl⟩:=List.mem_map.1 hr
   rfl
  ·rw[List.drop_zero,List.take_of_length_le (by simp)]
   clear hlt h hlo
   induction l with
   | nil=>exact .nil
   | cons y ys ih=>
    refine .cons (i:=[]) (is:=[]) ?_ ih
    unfold MNeed.tr MNeed.enc
    exact .cons (i:=[]) (is:=[]) ⟨rfl,rfl⟩ (Sp.leaf1 _)
theorem qfxb {id j:Nat}{code:Str}{H:List Entry}(hc:Cur H id code)(hl:code.length≤1048576)(xs:List Str)(h0:0 < xs.length)(hn:xs.length≤1073741824)(hj:j≠id)(he:H[j]?=some ⟨1,xs.map eStr,0,false⟩):
  ∃ s H',qfb [.one (.ptr id 3 0 0 0),.one (.vs j 1 0 xs.length 0)] H=some ([.one (Cell.str (bs s))],H')∧Dr id code H H'∧s∈xs:=by
 obtain⟨v,H',e,d,hv⟩:=qfk hc hl xs.length h0 hn
 have hjl:=(List.getElem?_eq_some_iff.1 he).1
 have he':H'[j]?=some ⟨1,xs.map eStr,0,false⟩:=by rw[d.old j hj hjl];exact he
 refine⟨xs[v],H',qps 0 ?_,d,List.getElem_mem hv⟩
 have hi:idxA 1 (.vs j 1 0 xs.length 0) (v:Int)=some (.ptr j 1 v 0 0):=qxd _ _ _ _ _ hv
 have hd:deref H' (.ptr j 1 v 0 0)=some (eStr xs[v],0):=by simp[deref,entry?,he',List.getElem?_eq_getElem hv]
 simp only[eStr] at hd
 simp only[fbj,lenC,e,hi,hd,EV0]
theorem qnhb {id:Nat}{code:Str}{H:List Entry}(hc:Cur H id code)(hl:code.length≤1048576)(pk:Str)(hp:pk.length≤20):∃ (s:Str) (H':List Entry),qpe [.one (.ptr id 3 0 0 0),.one (Cell.str (bs pk))] H=some ([.one (Cell.str (bs s))],H')∧Dr id code H H'∧s.length≤100:=by
 obtain⟨s1,G1,e1,d1,m1⟩:=qyx hc hl true [[112,117,116,32,104,105,32,62,32,111],[99,97,116,32]++pk++[47,120,32,62,32,111],[99,97,116,32]++pk++[47,120,32]++pk++[47,121,32,62,32,112],[101,110,118,32,109,111,100,101,32,62,32,101],[117,115,101,32,97,35,98,117,105,108,100,32,111,32,62,32,113],[117,115,101,32,98,35,98,117,105,108,100,32,111,32,62,32,113],[108,111,103,32,100,111,110,101],[108,111,103,32,120,32,121],[102,97,105,108],[119,104,97,116],[112,117,116,32,62,32,114]] (by simp) (by simp)
 have h1:s1.length≤100:=by
  simp only[List.mem_cons,List.not_mem_nil,or_false] at m1
  rcases m1 with rfl | rfl | rfl | rfl | rfl | rfl | rfl | rfl | rfl | rfl | rfl<;>simp<;>omega
 simp only[List.map_cons,List.map_nil,eStr] at e1
 refine⟨s1,G1,qxq 0 ?_,d1,h1⟩
 simp only[fbk]
 rw[qhx (by simp;omega),Option.bind_some,qhx (by simp;omega),Option.bind_some,Option.bind_some,qhx (by simp;omega),Option.bind_some,qhx (by simp;omega),Option.bind_some,qhx (by simp;omega),Option.bind_some]
 simp only[e1,EV0]
theorem qnpb {id:Nat}{code:Str}{H:List Entry}(hc:Cur H id code)(hl:code.length≤1048576)(pk:Str)(hp:pk.length≤20)(t:Str)(ht:t.length≤20):∃ (x:MCmd) (c:Cell) (H':List Entry),qis [.one (.ptr id 3 0 0 0),.one (Cell.str (bs pk)),.one (Cell.str (bs t))] H=some ([.agg [Cell.str (bs t),c]],H')∧Dr id code H H'∧
  OwnM H.length H'.length H' 2 c (trL 1 qbw x.Acts)∧x.Task=t∧qus x:=by
 have hM:=qar
 have hid:id < H.length:=by obtain⟨i,x,_,he⟩:=hc;exact(List.getElem?_eq_some_iff.1 he).1
 have loop:∀ (d n:Nat) (l:List Str) (c:Cell) (G:List Entry),d < n→DrN H.length id code H G→OwnM H.length G.length G 2 c (trL 1 qbw l)→l.length+d≤3→(∀ a∈l,a.length≤100)→∀ k m,
   ∃ (l':List Str) (c':Cell) (H':List Entry),qqm k m n (.ptr id 3 0 0 0) (bs pk) (d:Int) (bs t) c G=some ([.agg [Cell.str (bs t),c']],H')∧DrN H.length id code H H'∧OwnM H.length H'.length H' 2 c' (trL 1 qbw l')∧l'.length≤3∧∀ a∈l',a.length≤100:=by
  intro d
  induction d with
  | zero=>
   intro n l c G hn hd ho hll hs k m
   obtain⟨n,rfl⟩:∃ j,n=j+1:=⟨n - 1,by omega⟩
   refine⟨l,c,G,?_,hd,ho,by omega,hs⟩
   simp only[qqm]
   rw[decide_eq_false (by omega),cond_false]
  | succ d ih=>
   intro n l c G hn hd ho hll hs k m
   obtain⟨n,rfl⟩:∃ j,n=j+1:=⟨n - 1,by omega⟩
   obtain⟨s,G1,e1,d1,h1⟩:=qnhb hd.cur hl pk hp
   have ho1:=ho.frame (d1.toN (Nat.le_refl _)) hid (Nat.le_refl _)
   obtain⟨p,e2,o2,d2⟩:=OwnM.push (by':=16) (sz:=1) (row:=[Cell.str (bs s)]) (tr:=qbw s) ho1 ⟨[],Sp.leaf1 _,Mine.nil d1.len⟩ rfl d1.cur hid (by simp;omega) (by omega)
   obtain⟨l',c',H',e3,r⟩:=ih n (l++[s]) p.1 p.2 (by omega) (hd.trans ((d1.toN hd.len).trans d2)) (by
    rw[trL,List.map_append]
    exact o2) (by simp;omega) (fun a ha=>by
    rcases List.mem_append.1 ha with h | h
    ·exact hs a h
    ·simp only[List.mem_singleton] at h
     rw[h];exact h1) k m
   refine⟨l',c',H',?_,r⟩
   simp only[qqm]
   rw[decide_eq_true (by omega),cond_true]
   simp only[e1,qob,e2,EV0]
   rw[qtm (by omega)]
   exact e3
 have c0:Cur (H++[Entry.mk 1 (([[112,117,116,32,104,105,32,62,32,111],[99,97,116,32]++pk++[47,120,32,62,32,111],[108,111,103,32]++t]:List Str).map eStr) 0 false]) id code:=(Dr.app hc _).cur
 obtain⟨s1,G1,e1,d1,m1⟩:=qfxb (j:=H.length) c0 hl [[112,117,116,32,104,105,32,62,32,111],[99,97,116,32]++pk++[47,120,32,62,32,111],[108,111,103,32]++t] (by simp) (by simp) (by omega) (by simp)
 have h1:s1.length≤100:=by
  simp only[List.mem_cons,List.not_mem_nil,or_false] at m1
  rcases m1 with rfl | rfl | rfl<;>simp<;>omega
 have d1':Dr id code H G1:=(Dr.app hc _).trans d1
 have d1a:=Dr.app d1.cur [Entry.mk 1 [[Cell.str (bs s1)]] 0 false]
 obtain⟨v,G2,e2,d2,hv⟩:=qfk d1a.cur hl 3 (by omega) (by omega)
 have hG1:=d1'.len
 have ho0:OwnM H.length (G1.length+1) (G1++[Entry.mk 1 [[Cell.str (bs s1)]] 0 false]) 2 (.vs G1.length 1 0 1 0) (trL 1 qbw [s1]):=
  ⟨[G1.length],.inr ⟨G1.length,0,0,[[Cell.str (bs s1)]],false,[],rfl,rfl,by simp,fun _=>rfl,fun _=>⟨rfl,rfl⟩,by simp,by simp,.cons (i:=[]) (is:=[]) (Sp.leaf1 _) .nil⟩,⟨by omega,by simp,by simp;omega,by simp⟩,qce _ _ _ _ _⟩
 have ho:OwnM H.length G2.length G2 2 (.vs G1.length 1 0 1 0) (trL 1 qbw [s1]):=(ho0.frame (d2.toN (Nat.le_refl _)) hid (by simp)).wide (Nat.le_refl _) (by have:=d2.len;simp at this;omega)
 obtain⟨l',c',H',e3,d3,o3,h3,h4⟩:=loop v 1000 [s1] _ G2 (by omega) ((d1'.trans (d1a.trans d2)).toN (Nat.le_refl _)) ho (by simp;omega) (by simpa using h1) 1000 1000
 refine⟨⟨t,l'⟩,c',H',qyu 999 ?_,d3.full,o3,rfl,ht,h3,h4⟩
 simp only[List.map_cons,List.map_nil,eStr,List.length_cons,List.length_nil,Nat.zero_add,Nat.reduceAdd] at e1
 rw[show((3:Nat):Int)=3 from rfl] at e2
 simp only[fbl]
 rw[qhx (by simp;omega),Option.bind_some,qhx (by simp;omega),Option.bind_some,qhx (by simp;omega),Option.bind_some]
 simp only[e1,e2,EV0]
 exact e3
theorem qjrb {id:Nat}{code:Str}{H:List Entry}(hc:Cur H id code)(hl:code.length≤1048576)(nm:Str)(hp:nm.length≤20):∃ (p:MPack) (cN cC:Cell) (mid:Nat) (H':List Entry),qnc [.one (.ptr id 3 0 0 0),.one (Cell.str (bs nm))] H=some ([.agg [Cell.str (bs nm),.lst true 1 [],cN,cC]],H')∧Dr id code H H'∧
  OwnM H.length mid H' 2 cN (trL 2 MNeed.tr p.Needs)∧OwnM mid H'.length H' 3 cC (trL 2 MCmd.tr p.Cmds)∧p.Name=nm∧p.Uses=[]∧qjj p:=by
 have hM:=qar
 have hid:id < H.length:=by obtain⟨i,x,_,he⟩:=hc;exact(List.getElem?_eq_some_iff.1 he).1
 obtain⟨needs,cN,ids,G,e1,d1,v1,lo1,hn1,hn2⟩:=qnv hc hl
 have oN:=v1.own (hi:=G.length) (lo:=H.length) lo1 (Nat.le_refl _) d1.len
 have hG:=d1.len
 have lits:∀ (i:Nat),i < 3→∃ t:Str,idxA 1 (.lst true 1 [[Cell.str (bs [98,117,105,108,100])],[Cell.str (bs [108,105,110,116])],[Cell.str (bs [116,101,115,116])]]) (i:Int)=some (.ref [Cell.str (bs t)] 0)∧t.length≤20:=fun i hi=>by
  have:i=0∨i=1∨i=2:=by omega
  rcases this with rfl | rfl | rfl
  ·exact⟨[98,117,105,108,100],by rw[qgc];rfl,by simp⟩
  ·exact⟨[108,105,110,116],by rw[qgc];rfl,by simp⟩
  ·exact⟨[116,101,115,116],by rw[qgc];rfl,by simp⟩
 have loop:∀ (d i n:Nat) (l:List MCmd) (c:Cell) (F:List Entry),i+d=3→d < n→DrN G.length id code G F→OwnM G.length F.length F 3 c (trL 2 MCmd.tr l)→l.length≤i→(∀ x∈l,qus x)→∀ k m,
   ∃ (l':List MCmd) (c':Cell) (H':List Entry),qie k m n (.ptr id 3 0 0 0) (bs nm) (i:Int) (bs nm) cN c F=some ([.agg [Cell.str (bs nm),.lst true 1 [],cN,c']],H')∧DrN G.length id code G H'∧OwnM G.length H'.length H' 3 c' (trL 2 MCmd.tr l')∧l'.length≤3∧∀ x∈l',qus x:=by
  intro d
  induction d with
  | zero=>
   intro i n l c F hi hn hd ho hll hs k m
   obtain⟨n,rfl⟩:∃ j,n=j+1:=⟨n - 1,by omega⟩
   refine⟨l,c,F,?_,hd,ho,by omega,hs⟩
   simp only[qie]
   rw[decide_eq_false (by omega),cond_false]
  | succ d ih=>
   intro i n l c F hi hn hd ho hll hs k m
   obtain⟨n,rfl⟩:∃ j,n=j+1:=⟨n - 1,by omega⟩
   obtain⟨t,t1,t2⟩:=lits i (by omega)
   obtain⟨b,F1,e2,d2⟩:=qji hd.cur hl 2 (by omega) (by omega)
   have d2n:=d2.toN hd.len
   have ho1:=ho.frame (d2.toN (Nat.le_refl _)) (by omega) (Nat.le_refl _)
   have cmd:∃ (p:Cell×List Entry) (s:Res),qis [.one (.ptr id 3 0 0 0),.one (Cell.str (bs nm)),.one (Cell.str (bs t))] F1=some s∧
     (∀ (q:Cell→List Entry→Option Res),(cond (qaa qeeb s.1) ((cS (qab s.1 0) 0).bind fun s18=>(cC (qab s.1 0) 1).bind fun c19=>(qaf (s.2++[Entry.mk 2 [[Cell.str s18,c19]] 0 false]) 2 (.vs s.2.length 2 0 1 0)).bind fun r20=>(app (s.2++[Entry.mk 2 [[Cell.str s18,c19]] 0 false]) 2 40 c r20).bind fun p21=>q p21.1 p21.2) none)=q p.1 p.2)∧
     DrN G.length id code F1 p.2∧∃ x:MCmd,OwnM G.length p.2.length p.2 3 p.1 (trL 2 MCmd.tr (l++[x]))∧qus x:=by
    obtain⟨x,c3,F2,e3,d3,o3,x1,x2⟩:=qnpb d2.cur hl nm hp t t2
    have ho2:=ho1.frame (d3.toN (Nat.le_refl _)) (by omega) d2.len
    have hF1:G.length≤F1.length:=Nat.le_trans hd.len d2.len
    obtain⟨p,e4,o4,d4⟩:=OwnM.push (by':=40) (sz:=2) (row:=[Cell.str (bs t),c3]) (tr:=MCmd.tr x) ho2 (by
     obtain⟨js,j1,j2⟩:=(o3.wide d2.len (Nat.le_refl _)).s1.leaf (v:=.string (bs t))
     exact⟨js,by unfold MCmd.tr;rw[x1];exact j1,j2⟩) rfl d3.cur (by omega) (by simp;omega) (by omega)
    refine⟨p,_,e3,fun q=>?_,(d3.toN hF1).trans d4,x,by rw[trL,List.map_append];exact o4,x2⟩
    simp only[qob,e4,EV0]
   obtain⟨p,s,c1,c2,c3,x,c4,c5⟩:=cmd
   have more:∀ k m,∃ (l':List MCmd) (c':Cell) (H':List Entry),qie k m n (.ptr id 3 0 0 0) (bs nm) ((i+1:Nat):Int) (bs nm) cN p.1 p.2=some ([.agg [Cell.str (bs nm),.lst true 1 [],cN,c']],H')∧DrN G.length id code G H'∧OwnM G.length H'.length H' 3 c' (trL 2 MCmd.tr l')∧l'.length≤3∧∀ x∈l',qus x:=
    fun k m=>ih (i+1) n (l++[x]) p.1 p.2 (by omega) (by omega) (hd.trans (d2n.trans c3)) c4 (by simp;omega) (fun y hy=>by
     rcases List.mem_append.1 hy with h | h
     ·exact hs y h
     ·simp only[List.mem_singleton] at h
      rw[h];exact c5) k m
   simp only[qie]
   rw[decide_eq_true (by omega),cond_true]
   rw[show((2:Nat):Int)=2 from rfl] at e2
   simp only[t1,e2,EV0]
   rw[qaj (by omega)]
   cases b with
   | true=>
    rw[cond_true,c1,Option.bind_some,c2 (fun a b=>qie k m n (.ptr id 3 0 0 0) (bs nm) ((i+1:Nat):Int) (bs nm) cN a b)]
    exact more k m
   | false=>
    rw[cond_false]
    cases hi0:((i:Int)==0) with
    | true=>
     rw[cond_true,c1,Option.bind_some,c2 (fun a b=>qie k m n (.ptr id 3 0 0 0) (bs nm) ((i+1:Nat):Int) (bs nm) cN a b)]
     exact more k m
    | false=>
     rw[cond_false]
     exact ih (i+1) n l c F1 (by omega) (by omega) (hd.trans d2n) (ho1.wide (Nat.le_refl _) d2.len) (by omega) hs k m
 obtain⟨cmds,cC,H',e2,d2,o2,h1,h2⟩:=loop 3 0 1000 [] (.lst true 2 []) G (by omega) (by omega) ((Dr.refl d1.cur).toN (Nat.le_refl _)) (OwnM.nil 2 _ _ 2 _ (Nat.le_refl _)) (by simp) (by simp) 1000 1000
 refine⟨⟨nm,[],needs,cmds⟩,cN,cC,G.length,H',qyb 999 ?_,(d1.trans d2.full),oN.frame d2 hid (Nat.le_refl _),o2,rfl,rfl,hp,⟨by simp,by simp⟩,⟨hn1,hn2⟩,h1,h2⟩
 rw[show((0:Nat):Int)=0 from rfl] at e2
 simp only[fbo,e1,EV0]
 exact e2
def qmg:List Str:=[[97],[98],[99],[100]]
structure Drawn (names:List Str)(l:List MPack):Prop where
 nm:l.map (·.Name)=names.take l.length
 len:l.length≤names.length
 sm:∀ p∈l,qjj p
 us:∀ p∈l,∀ u∈p.Uses,u∈names
theorem qaob {id:Nat}{code:Str}{H:List Entry}(hc:Cur H id code)(hl:code.length≤1048576)(ring:Bool):∃ (l:List MPack) (v:Nat) (c:Cell) (H':List Entry),qnj [.one (.ptr id 3 0 0 0),.one (Cell.bool ring)] H=some ([.one c],H')∧Dr id code H H'∧
  OwnM H.length H'.length H' 4 c (trL 4 MPack.tr l)∧Drawn (qmg.take (1+v)) l∧v < 4∧l.length=(qmg.take (1+v)).length:=by
 have hM:=qar
 have hid:id < H.length:=by obtain⟨i,x,_,he⟩:=hc;exact(List.getElem?_eq_some_iff.1 he).1
 obtain⟨v,H1,e1,d1,hv⟩:=qfk hc hl 4 (by omega) (by omega)
 obtain⟨names,hnames⟩:∃ names,names=qmg.take (1+v):=⟨_,rfl⟩
 have hn4:names.length≤4:=by rw[hnames];simp[qmg];omega
 have hsm:∀ s∈names,s.length≤20:=fun s hs=>by
  rw[hnames] at hs
  exact(by decide:∀ s∈qmg,s.length≤20) s (List.mem_of_mem_take hs)
 obtain⟨f,hsl⟩:∃ f,slcC 1 (.lst true 1 [[Cell.str (bs [97])],[Cell.str (bs [98])],[Cell.str (bs [99])],[Cell.str (bs [100])]]) 0 (some (IntKind.i64.wrap (1+(v:Int)))) none=some (.lst f 1 (names.map eStr)):=by
  have hw:IntKind.i64.wrap (1+(v:Int))=((1+v:Nat):Int):=by rw[wrap_small (by omega) (by omega)];omega
  rw[hw,hnames]
  have:v=0∨v=1∨v=2∨v=3:=by omega
  rcases this with rfl | rfl | rfl | rfl<;>exact⟨_,rfl⟩
 have hnx:∀ (i:Nat) (s:Str),names[i]?=some s→idxA 1 (.lst f 1 (names.map eStr)) (i:Int)=some (.ref [Cell.str (bs s)] 0):=fun i s hs=>by rw[qgc,List.getElem?_map,hs];rfl
 have hnl:lenC (.lst f 1 (names.map eStr))=some names.length:=by simp[lenC]
 have inner:∀ (b:Cell→Bool→Cell→Cell→Int→List Entry→Option Res) (i:Nat) (p:MPack) (cN cC c9:Cell) (mid:Nat) (l:List MPack) (G0 G:List Entry),H1.length≤mid→mid≤G.length→OwnM H1.length mid G 4 c9 (trL 4 MPack.tr l)→(∃ mm,OwnM mid mm G 2 cN (trL 2 MNeed.tr p.Needs)∧OwnM mm G.length G 3 cC (trL 2 MCmd.tr p.Cmds))→qjj {p with Uses:=[]}→l.length≤10→i < names.length→
   ∀ (d kk n:Nat) (us:List Str) (c:Cell) (F:List Entry),kk+d=names.length→d < n→DrN G.length id code G F→Cur F id code→OwnM G.length F.length F 2 c (trL 1 qbw us)→us.length≤kk→(∀ u∈us,u∈names)→∀ k m,
   ∃ (us':List Str) (q:Cell×List Entry),qga k m b n (.ptr id 3 0 0 0) ring (.lst f 1 (names.map eStr)) c9 (i:Int) (kk:Int) (bs p.Name) c cN cC F=b (.ptr id 3 0 0 0) ring (.lst f 1 (names.map eStr)) q.1 ((i+1:Nat):Int) q.2∧
    DrN H1.length id code G q.2∧OwnM H1.length q.2.length q.2 4 q.1 (trL 4 MPack.tr (l++[{p with Uses:=us'}]))∧qjj {p with Uses:=us'}∧∀ u∈us',u∈names:=by
  intro b i p cN cC c9 mid l G0 G hm1 hm2 hout hparts hsp hll hi d
  have hidm:id < H1.length:=by have:=d1.len;omega
  induction d with
  | zero=>
   intro kk n us c F hk hn hd hcur ho hul hus k m
   obtain⟨n,rfl⟩:∃ j,n=j+1:=⟨n - 1,by omega⟩
   obtain⟨mm,oN,oC⟩:=hparts
   have hmm:mid≤mm:=by obtain⟨_,_,h,_⟩:=oN;exact h.le
   have hmm2:mm≤G.length:=by obtain⟨_,_,h,_⟩:=oC;exact h.le
   have oN':=oN.frame hd (by omega) hmm2
   have oC':=oC.frame hd (by omega) (Nat.le_refl _)
   have hout':=hout.frame hd hidm hm2
   obtain⟨iN,n1,n2,_⟩:=oN'
   obtain⟨iC,k1,k2,_⟩:=oC'
   obtain⟨iU,u1,u2,_⟩:=ho
   obtain⟨q,e2,o2,d2⟩:=OwnM.push (by':=88) (sz:=4) (row:=[Cell.str (bs p.Name),c,cN,cC]) (tr:=MPack.tr {p with Uses:=us}) hout' (by
    refine⟨[]++(iU++(iN++(iC++[]))),?_,?_⟩
    ·unfold MPack.tr
     exact .cons ⟨rfl,rfl⟩ (.cons (u1.more (by omega)) (.cons (n1.more (by omega)) (.cons (k1.more (by omega)) .nil)))
    ·rw[List.nil_append,List.append_nil]
     exact(Mine.app (n2.app k2) u2).swap) rfl hcur hidm (by simp;omega) (by omega)
   refine⟨us,q,?_,(DrN.trans ⟨hd.len,fun j hj hl=>hd.old j hj (by omega),hd.cur⟩ d2),by rw[trL,List.map_append];exact o2,⟨hsp.1,⟨by show us.length≤4;omega,fun u hu=>hsm u (hus u hu)⟩,hsp.2.2⟩,hus⟩
   simp only[qga,hnl,Option.bind_some]
   rw[decide_eq_false (by omega),cond_false]
   simp only[qob,e2,EV0]
   rw[qaj (by omega)]
  | succ d ih=>
   intro kk n us c F hk hn hd hcur ho hul hus k m
   obtain⟨n,rfl⟩:∃ j,n=j+1:=⟨n - 1,by omega⟩
   obtain⟨s,hs⟩:∃ s,names[kk]?=some s:=⟨_,List.getElem?_eq_getElem (by omega)⟩
   have hsn:=List.mem_of_getElem? hs
   have hGl:=hd.len
   have put:∀ (F1:List Entry),Dr id code F F1→∃ q:Cell×List Entry,app (F1++[Entry.mk 1 [[Cell.str (bs s)]] 0 false]) 1 16 c [[Cell.str (bs s)]]=some q∧OwnM G.length q.2.length q.2 2 q.1 (trL 1 qbw (us++[s]))∧DrN G.length id code G q.2:=fun F1 dd=>by
    have ho1:=ho.frame (dd.toN (Nat.le_refl _)) (by omega) (Nat.le_refl _)
    obtain⟨q,e2,o2,d2⟩:=OwnM.push (by':=16) (sz:=1) (row:=[Cell.str (bs s)]) (tr:=qbw s) ho1 ⟨[],Sp.leaf1 _,Mine.nil dd.len⟩ rfl dd.cur (by omega) (by simp;omega) (by omega)
    exact⟨q,e2,by rw[trL,List.map_append];exact o2,hd.trans ((dd.toN hGl).trans d2)⟩
   have keep:∀ (F1:List Entry),Dr id code F F1→∀ k m,∃ (us':List Str) (q:Cell×List Entry),qga k m b n (.ptr id 3 0 0 0) ring (.lst f 1 (names.map eStr)) c9 (i:Int) ((kk+1:Nat):Int) (bs p.Name) c cN cC F1=b (.ptr id 3 0 0 0) ring (.lst f 1 (names.map eStr)) q.1 ((i+1:Nat):Int) q.2∧
     DrN H1.length id code G q.2∧OwnM H1.length q.2.length q.2 4 q.1 (trL 4 MPack.tr (l++[{p with Uses:=us'}]))∧qjj {p with Uses:=us'}∧∀ u∈us',u∈names:=fun F1 dd k m=>
    ih (kk+1) n us c F1 (by omega) (by omega) (hd.trans (dd.toN hGl)) dd.cur ((ho.frame (dd.toN (Nat.le_refl _)) (by omega) (Nat.le_refl _)).wide (Nat.le_refl _) dd.len) (by omega) hus k m
   have more:∀ (F1:List Entry) (q:Cell×List Entry),OwnM G.length q.2.length q.2 2 q.1 (trL 1 qbw (us++[s]))→DrN G.length id code G q.2→∀ k m,∃ (us':List Str) (q':Cell×List Entry),qga k m b n (.ptr id 3 0 0 0) ring (.lst f 1 (names.map eStr)) c9 (i:Int) ((kk+1:Nat):Int) (bs p.Name) q.1 cN cC q.2=b (.ptr id 3 0 0 0) ring (.lst f 1 (names.map eStr)) q'.1 ((i+1:Nat):Int) q'.2∧
     DrN H1.length id code G q'.2∧OwnM H1.length q'.2.length q'.2 4 q'.1 (trL 4 MPack.tr (l++[{p with Uses:=us'}]))∧qjj {p with Uses:=us'}∧∀ u∈us',u∈names:=fun F1 q o2 d2 k m=>
    ih (kk+1) n (us++[s]) q.1 q.2 (by omega) (by omega) d2 d2.cur o2 (by simp;omega) (fun u hu=>by
     rcases List.mem_append.1 hu with h | h
     ·exact hus u h
     ·simp only[List.mem_singleton] at h
      rw[h];exact hsn) k m
   simp only[qga,hnl,Option.bind_some]
   rw[decide_eq_true (by omega),cond_true]
   have hk1:IntKind.i64.wrap ((kk:Int)+1)=((kk+1:Nat):Int):=qaj (by omega)
   by_cases hki:kk < i
   ·rw[decide_eq_true (by omega),cond_true]
    obtain⟨x,F1,e2,d2⟩:=qji hcur hl 2 (by omega) (by omega)
    rw[show((2:Nat):Int)=2 from rfl] at e2
    simp only[e2,EV0]
    cases x with
    | true=>
     obtain⟨q,e3,o3,d3⟩:=put F1 d2
     simp only[cond_true,hnx kk s hs,qob,e3,hk1,EV0]
     exact more F1 q o3 d3 k m
    | false=>
     simp only[cond_false,hk1]
     exact keep F1 d2 k m
   ·rw[decide_eq_false (by omega),cond_false]
    cases ring with
    | false=>
     simp only[cond_false,hk1]
     exact keep F (Dr.refl hcur) k m
    | true=>
     rw[cond_true]
     by_cases hik:i < kk
     ·rw[decide_eq_true (by omega),cond_true]
      obtain⟨x,F1,e2,d2⟩:=qji hcur hl 3 (by omega) (by omega)
      rw[show((3:Nat):Int)=3 from rfl] at e2
      simp only[e2,EV0]
      cases x with
      | false=>
       simp only[cond_false,hk1]
       exact keep F1 d2 k m
      | true=>
       obtain⟨y,F2,e3,d3⟩:=qji d2.cur hl 2 (by omega) (by omega)
       rw[show((2:Nat):Int)=2 from rfl] at e3
       simp only[cond_true,e3,EV0]
       cases y with
       | true=>
        obtain⟨q,e4,o4,d4⟩:=put F2 (d2.trans d3)
        simp only[cond_true,hnx kk s hs,qob,e4,hk1,EV0]
        exact more F2 q o4 d4 k m
       | false=>
        simp only[cond_false,hk1]
        exact keep F2 (d2.trans d3) k m
     ·rw[decide_eq_false (by omega),cond_false]
      simp only[hk1]
      exact keep F (Dr.refl hcur) k m
 have loop:∀ (d i n:Nat) (l:List MPack) (c:Cell) (G:List Entry),i+d=names.length→d < n→DrN H1.length id code H1 G→OwnM H1.length G.length G 4 c (trL 4 MPack.tr l)→Drawn names l→l.length=i→∀ k m,1000≤m→
   ∃ (l':List MPack) (c':Cell) (H':List Entry),qpq k m n (.ptr id 3 0 0 0) ring (.lst f 1 (names.map eStr)) c (i:Int) G=some ([.one c'],H')∧DrN H1.length id code H1 H'∧OwnM H1.length H'.length H' 4 c' (trL 4 MPack.tr l')∧Drawn names l'∧l'.length=names.length:=by
  intro d
  induction d with
  | zero=>
   intro i n l c G hi hn hd ho hdr hll k m hm
   obtain⟨n,rfl⟩:∃ j,n=j+1:=⟨n - 1,by omega⟩
   refine⟨l,c,G,?_,hd,ho,hdr,by omega⟩
   simp only[qpq,hnl,Option.bind_some]
   rw[decide_eq_false (by omega),cond_false]
  | succ d ih=>
   intro i n l c G hi hn hd ho hdr hll k m hm
   obtain⟨n,rfl⟩:∃ j,n=j+1:=⟨n - 1,by omega⟩
   obtain⟨s,hs⟩:∃ s,names[i]?=some s:=⟨_,List.getElem?_eq_getElem (by omega)⟩
   have hidm:id < H1.length:=by have:=d1.len;omega
   obtain⟨p,cN,cC,mid,G1,e2,d2,oN,oC,pn,pu,ps⟩:=qjrb hd.cur hl s (hsm s (List.mem_of_getElem? hs))
   have ho1:=ho.frame (d2.toN (Nat.le_refl _)) hidm (Nat.le_refl _)
   have hGl:=hd.len
   have hps:qjj {p with Uses:=[]}:=⟨ps.1,⟨by simp,by simp⟩,ps.2.2⟩
   obtain⟨us,q,e3,d3,o3,s3,u3⟩:=inner (qpq k m n) i p cN cC c G.length l G G1 hGl d2.len ho1 ⟨mid,oN,oC⟩ hps (by omega) (by omega) names.length 0 m [] (.lst true 1 []) G1 (by omega) (by omega) ((Dr.refl d2.cur).toN (Nat.le_refl _)) d2.cur (OwnM.nil 1 _ _ 1 _ (Nat.le_refl _)) (by simp) (by simp) k m
   obtain⟨l',c',H',e4,r⟩:=ih (i+1) n (l++[{p with Uses:=us}]) q.1 q.2 (by omega) (by omega) (hd.trans ((d2.toN hGl).trans d3)) o3 ⟨by
     rw[List.map_append,hdr.nm,List.length_append,List.map_cons,List.map_nil,List.length_singleton,hll,List.take_add_one,hs]
     simp[pn],by simp;omega,fun x hx=>by
     rcases List.mem_append.1 hx with h | h
     ·exact hdr.sm x h
     ·simp only[List.mem_singleton] at h
      rw[h];exact s3,fun x hx=>by
     rcases List.mem_append.1 hx with h | h
     ·exact hdr.us x h
     ·simp only[List.mem_singleton] at h
      rw[h];exact u3⟩ (by simp;omega) k m hm
   refine⟨l',c',H',?_,r⟩
   rw[show((0:Nat):Int)=0 from rfl,pn] at e3
   simp only[qpq,hnl,Option.bind_some]
   rw[decide_eq_true (by omega),cond_true]
   simp only[hnx i s hs,e2,EV0]
   rw[e3]
   exact e4
 obtain⟨l',c',H',e4,d4,o4,r1,r2⟩:=loop names.length 0 1000 [] (.vs H1.length 4 0 0 0) (H1++[Entry.mk 4 [] 0 false]) (by omega) (by omega) ((Dr.app d1.cur _).toN (Nat.le_refl _)) (by
  exact⟨[H1.length],.inr ⟨H1.length,0,0,[],false,[],rfl,rfl,by simp,fun _=>rfl,fun _=>⟨rfl,rfl⟩,by simp,by simp,.nil⟩,⟨by simp,by simp,by simp,by simp⟩,qce _ _ _ _ _⟩) ⟨by simp,by simp,by simp,by simp⟩ rfl 1000 1000 (by omega)
 refine⟨l',v,c',H',qyj 999 ?_,d1.trans d4.full,o4.wide d1.len (Nat.le_refl _),by rw[← hnames];exact r1,hv,by rw[← hnames];exact r2⟩
 rw[show((4:Nat):Int)=4 from rfl] at e1
 rw[show((0:Nat):Int)=0 from rfl] at e4
 simp only[fbp,e1,hsl,EV0]
 exact e4
structure GoodP (l:List MPack):Prop where
 nd:(l.map (·.Name)).Nodup
 us:∀ p∈l,∀ u∈p.Uses,u∈l.map (·.Name)
 bd:bdL 1048576 (MPack.Bd 1048576) l
 wt:wtL MPack.wt l≤1048576
theorem qyd:∀ (l:List Str) (i k:Nat) (x:Str),l.Nodup→l[i]?=some x→idxS x l k=((k+i:Nat):Int):=by
 intro l
 induction l with
 | nil=>intro i k x _ h;simp at h
 | cons b l ih=>
  intro i k x hn h
  obtain⟨h1,h2⟩:=List.nodup_cons.1 hn
  cases i with
  | zero=>
   simp only[List.getElem?_cons_zero,Option.some.injEq] at h
   rw[idxS,if_pos h.symm]
   rfl
  | succ i=>
   rw[List.getElem?_cons_succ] at h
   have hne:x≠b:=fun e=>h1 (by rw[← e];exact List.mem_of_getElem? h)
   rw[idxS,if_neg hne,ih i (k+1) x h2 h]
   congr 1
   omega
theorem qds {l:List MPack}(hn:(l.map (·.Name)).Nodup){p:MPack}(hp:p∈l):qgr l p.Name=p.Uses:=by
 obtain⟨i,hi⟩:=List.getElem?_of_mem hp
 have h1:=qyd (l.map (·.Name)) i 0 p.Name hn (by rw[List.getElem?_map,hi];rfl)
 rw[qgr,qba,h1,if_neg (by omega)]
 simp[hi]
theorem qjo {l:List MPack}(hn:(l.map (·.Name)).Nodup){x y:Str}:y∈qgr l x↔x∈qck l y:=by
 constructor
 ·intro h
  have hx:=qkv h
  obtain⟨p,hp,rfl⟩:=List.mem_map.1 hx
  rw[qds hn hp] at h
  exact List.mem_map.2 ⟨p,List.mem_filter.2 ⟨hp,by simpa using h⟩,rfl⟩
 ·intro h
  obtain⟨p,hp,rfl⟩:=List.mem_map.1 h
  obtain⟨h1,h2⟩:=List.mem_filter.1 hp
  rw[qds hn h1]
  simpa using h2
theorem qpa {nx ny:Str→List Str}(h:∀ x y,y∈nx x→x∈ny y){a b:Str}(hr:Reach nx a b):Reach ny b a:=by
 induction hr with
 | one hb=>exact .one (h _ _ hb)
 | step _ k ih=>exact qmw (h _ _ k) ih
theorem qnl {nx:Str→List Str}{U:List Str}(hm:∀ x,∀ y∈nx x,y∈U){s x:Str}:x∈qhd nx s↔Reach nx s x:=by
 obtain⟨o,ho⟩:=qlx (s:=s) hm
 rw[qef ho,(qbj o).2 x,ho x]
theorem GoodP.deep {l:List MPack}(h:GoodP l)(a b:Str):b∈qdw l a↔Reach (qgr l) a b:=qnl (U:=qgf l) fun _ _ h=>qfa h
theorem GoodP.deepBy {l:List MPack}(h:GoodP l)(a b:Str):a∈qdg l b↔Reach (qgr l) a b:=by
 have h1:a∈qdg l b↔Reach (qck l) b a:=qnl (U:=l.map (·.Name)) fun _ _ h=>qhf h
 rw[h1]
 exact⟨qpa fun x y hy=>(qjo h.nd).2 hy,qpa fun x y hy=>(qjo h.nd).1 hy⟩
theorem GoodP.by {l:List MPack}(h:GoodP l){p:MPack}(hp:p∈l)(b:Str):p.Name∈qin l b↔b∈p.Uses:=by
 have h1:p.Name∈qin l b↔p.Name∈qck l b:=(qbj _).2 _
 rw[h1,← qjo h.nd,qds h.nd hp]
theorem GoodP.step {l:List MPack}(h:GoodP l){p:MPack}(hp:p∈l){b:Str}(hb:b∈p.Uses):b∈qdw l p.Name:=(h.deep _ _).2 (.one (by rw[qds h.nd hp];exact hb))
theorem qtr {nx:Str→List Str}{a b c:Str}(h:Reach nx a b)(k:Reach nx b c):Reach nx a c:=by
 induction k with
 | one hb=>exact .step h hb
 | step _ k ih=>exact .step ih k
theorem qmob {nx:Str→List Str}:∀ (n:Nat) (U:List Str),U.length≤n→U≠[]→(∀ x∈U,∃ y∈U,Reach nx x y)→∃ x∈U,Reach nx x x:=by
 intro n
 induction n with
 | zero=>
  intro U hn hne _
  exact absurd (List.eq_nil_of_length_eq_zero (by omega)) hne
 | succ n ih=>
  intro U hn hne hs
  obtain⟨x,hx⟩:=List.exists_mem_of_ne_nil U hne
  rcases Classical.em (Reach nx x x) with hr | hr
  ·exact⟨x,hx,hr⟩
  obtain⟨y,hy,hxy⟩:=hs x hx
  have hyx:y≠x:=fun e=>hr (by rw[e] at hxy;exact hxy)
  have hlen:(U.filter fun z=>!(z==x)).length < U.length:=by
   refine List.length_filter_lt_length_iff_exists.2 ⟨x,hx,by simp⟩
  obtain⟨z,hz,hzz⟩:=ih (U.filter fun z=>!(z==x)) (by omega) (fun e=>by
   have:y∈U.filter fun z=>!(z==x):=List.mem_filter.2 ⟨hy,by simpa using hyx⟩
   rw[e] at this
   simp at this) (fun z hz=>by
   obtain⟨hz1,hz2⟩:=List.mem_filter.1 hz
   obtain⟨t,ht,hzt⟩:=hs z hz1
   by_cases e:t=x
   ·exact⟨y,List.mem_filter.2 ⟨hy,by simpa using hyx⟩,qtr (e▸hzt) hxy⟩
   ·exact⟨t,List.mem_filter.2 ⟨ht,by simpa using e⟩,hzt⟩)
  exact⟨z,(List.mem_filter.1 hz).1,hzz⟩
structure Ord (names:List Str)(nx:Str→List Str)(o:List Str):Prop where
 nd:o.Nodup
 sub:∀ x∈o,x∈names
 behind:∀ (i:Nat) x,o[i]?=some x→∀ u∈nx x,u∈o.take i
theorem Ord.snoc {names:List Str}{nx:Str→List Str}{o:List Str}(h:Ord names nx o){s:Str}(h1:s∉o)(h2:s∈names)(h3:∀ u∈nx s,u∈o):Ord names nx (o++[s]):=by
 refine⟨List.nodup_append.2 ⟨h.nd,by simp,fun a ha b hb e=>?_⟩,fun x hx=>?_,fun i x hi u hu=>?_⟩
 ·simp only[List.mem_singleton] at hb
  subst hb e
  exact h1 ha
 ·rcases List.mem_append.1 hx with hx | hx
  ·exact h.sub x hx
  ·simp only[List.mem_singleton] at hx
   rw[hx];exact h2
 ·by_cases hl:i < o.length
  ·rw[List.getElem?_append_left hl] at hi
   rw[List.take_append_of_le_length (by omega)]
   exact h.behind i x hi u hu
  ·have hi2:=(List.getElem?_eq_some_iff.1 hi).1
   simp only[List.length_append,List.length_singleton] at hi2
   have:i=o.length:=by omega
   subst this
   simp only[List.getElem?_concat_length,Option.some.injEq] at hi
   rw[← hi] at hu
   rw[List.take_append_of_le_length (by omega),List.take_length]
   exact h3 u hu
theorem qgub {names:List Str}{next:List (List Str)}(hnd:names.Nodup)(hin:∀ x y,y∈qba names next x→y∈names):∀ (d:Nat) (o:List Str),Ord names (qba names next) o→d+o.length=names.length→
  ((qdf names next d o).2=true∧Ord names (qba names next) (qdf names next d o).1∧(qdf names next d o).1.length=names.length)∨
  ((qdf names next d o)=([],false)∧∃ x∈names,Reach (qba names next) x x):=by
 intro d
 induction d with
 | zero=>intro o ho hl;exact .inl ⟨rfl,ho,by simp only[qdf];omega⟩
 | succ d ih=>
  intro o ho hl
  rw[qdf]
  cases hf:names.find? (qcmb names next o) with
  | some s=>
   have h1:=List.find?_some hf
   have h2:=List.mem_of_find?_eq_some hf
   simp only[qcmb,qcqb,Bool.and_eq_true,Bool.not_eq_true',List.all_eq_true,Bool.and_eq_false_iff,Bool.not_eq_false'] at h1
   exact ih (o++[s]) (ho.snoc (by simpa using h1.1) h2 fun u hu=>by
    rcases h1.2 u hu with h | h
    ·exact absurd (hin s u hu) (by simpa using h)
    ·simpa using h) (by simp;omega)
  | none=>
   right
   refine⟨rfl,?_⟩
   have hnone:=List.find?_eq_none.1 hf
   have hU:names.filter (fun x=>!o.contains x)≠[]:=fun e=>by
    have hall:∀ x∈names,x∈o:=fun x hx=>by
     rcases Classical.em (x∈o) with h | h
     ·exact h
     ·have:x∈names.filter (fun x=>!o.contains x):=List.mem_filter.2 ⟨hx,by simpa using h⟩
      rw[e] at this
      simp at this
    have:=qcf hnd hall
    omega
   obtain⟨x,hx,hr⟩:=qmob (nx:=qba names next) _ (names.filter (fun x=>!o.contains x)) (Nat.le_refl _) hU (fun x hx=>by
    obtain⟨h1,h2⟩:=List.mem_filter.1 hx
    have h3:=hnone x h1
    simp only[qcmb,qcqb,h2,Bool.true_and,Bool.not_eq_true,List.all_eq_false] at h3
    obtain⟨y,hy,h4⟩:=h3
    have h5:(names.contains y&&!o.contains y)=true:=by
     cases hq:(names.contains y&&!o.contains y) with
     | true=>rfl
     | false=>rw[hq] at h4;simp at h4
    rw[Bool.and_eq_true] at h5
    exact⟨y,List.mem_filter.2 ⟨by simpa using h5.1,h5.2⟩,.one hy⟩)
   exact⟨x,(List.mem_filter.1 hx).1,hr⟩
theorem Ord.nil (names:List Str)(nx:Str→List Str):Ord names nx []:=⟨.nil,by simp,fun i x h=>by simp at h⟩
theorem Ord.all {names:List Str}{nx:Str→List Str}{o:List Str}(h:Ord names nx o)(hl:o.length=names.length){x:Str}(hx:x∈names):x∈o:=by
 apply Classical.byContradiction
 intro hn
 have:=qcf (List.nodup_cons.2 ⟨hn,h.nd⟩) (fun y hy=>by
  rcases List.mem_cons.1 hy with rfl | hy
  ·exact hx
  ·exact h.sub y hy)
 simp at this
 omega
theorem Ord.before {names:List Str}{nx:Str→List Str}{o:List Str}(h:Ord names nx o){a b:Str}(hr:Reach nx a b):∀ i:Nat,o[i]?=some a→∃ j,j < i∧o[j]?=some b:=by
 have one:∀ (i:Nat) (x u:Str),o[i]?=some x→u∈nx x→∃ j,j < i∧o[j]?=some u:=fun i x u hi hu=>by
  obtain⟨j,hj⟩:=List.getElem?_of_mem (h.behind i x hi u hu)
  rw[List.getElem?_take] at hj
  split at hj
  ·rename_i hlt
   exact⟨j,hlt,hj⟩
  ·simp at hj
 induction hr with
 | one hb=>exact fun i hi=>one i _ _ hi hb
 | step _ k ih=>
  intro i hi
  obtain⟨j,h1,h2⟩:=ih i hi
  obtain⟨j',h3,h4⟩:=one j _ _ h2 k
  exact⟨j',by omega,h4⟩
theorem Ord.noRing {names:List Str}{nx:Str→List Str}{o:List Str}(h:Ord names nx o){x:Str}(hr:Reach nx x x):∀ i:Nat,o[i]?≠some x:=by
 intro i
 induction i using Nat.strongRecOn with
 | ind i ih=>
  intro hi
  obtain⟨j,h1,h2⟩:=h.before hr i hi
  exact ih j h1 h2
theorem GoodP.order {l:List MPack}(h:GoodP l):((qbl l).2=true∧qoe l=[]∧Ord (l.map (·.Name)) (qgr l) (qbl l).1∧(qbl l).1.length=l.length)∨(qbl l=([],false)∧qoe l≠[]):=by
 have hin:∀ x y,y∈qgr l x→y∈l.map (·.Name):=fun x y hy=>by
  obtain⟨d,hd,hy⟩:=List.mem_flatMap.1 (qfa hy)
  exact h.us d hd y hy
 rcases qgub h.nd hin (l.map (·.Name)).length [] (Ord.nil _ _) (by simp) with⟨h1,h2,h3⟩ | ⟨h1,x,h2,h3⟩
 ·refine .inl ⟨h1,?_,h2,by rw[show(qbl l).1.length=_ from h3];simp⟩
  unfold qoe qcvb
  split
  ·rename_i x hx
   have h4:=qmj.2 (by simpa using List.find?_some hx:0 < dst (qgr l) x x)
   obtain⟨i,hi⟩:=List.getElem?_of_mem (h2.all h3 (List.mem_of_find?_eq_some hx))
   exact absurd hi (h2.noRing h4 i)
  ·rfl
 ·refine .inr ⟨h1,?_⟩
  unfold qoe qcvb
  split
  ·simp[qfeb]
  ·rename_i hn
   have:=List.find?_eq_none.1 hn x h2
   have h4:=qmj.1 h3
   simp only[decide_eq_true_eq] at this
   exact absurd h4 this
theorem c_fau (x:Str)(hx:bdS maxLen x):out qna [.one (qki x)]=some [.one (Cell.bool (decide (1048576 < x.length)))]:=by
 refine qrc (H:=[]) (qxk 0 ?_)
 simp only[fau,qbc,EV0]
 rw[show decide ((x.length:Int) > 1048576)=decide (1048576 < x.length) from decide_eq_decide.2 (by omega)]
theorem c_fav (xs:List Str)(s:Str)(hx:xs.length≤1073741824):out qek [.one (qif xs),.one (Cell.str (bs s))]=some [.one (Cell.bool (xs.contains s))]:=by
 have hM:=qar
 have loop:∀ (r:List Str) (i n:Nat),xs.drop i=r→r.length < n→∀ k m,qql k m n (qif xs) (bs s) i=some ([.one (Cell.bool (r.contains s))],[]):=by
  intro r
  induction r with
  | nil=>
   intro i n hd hn k m
   obtain⟨n,rfl⟩:∃ j,n=j+1:=⟨n - 1,by omega⟩
   have:=drop_nil hd
   simp only[qql,qbc,Option.bind_some]
   rw[decide_eq_false (by omega),cond_false]
   rfl
  | cons x r ih=>
   intro i n hd hn k m
   obtain⟨n,rfl⟩:∃ j,n=j+1:=⟨n - 1,by omega⟩
   obtain⟨hlt,hg,hd'⟩:=qbe hd
   simp only[List.length_cons] at hn
   simp only[qql,qbc,Option.bind_some]
   rw[decide_eq_true (by omega),cond_true]
   simp only[qdd,hg,eStr,qaj (show i < maxLen by omega),ih (i+1) n hd' (by omega),qih,EV0]
   rw[List.contains_cons]
   by_cases e:x=s
   ·subst e
    simp
   ·rw[show(x==s)=false by simpa using e,show(s==x)=false by simpa using fun h:s=x=>e h.symm,cond_false,Bool.false_or]
 refine qrc (H:=[]) (qxz (xs.length+1) ?_)
 have:=loop xs 0 (xs.length+1+1) rfl (by omega) (xs.length+1+1) (xs.length+1+1)
 rw[show((0:Nat):Int)=0 from rfl] at this
 simp only[fav]
 exact this
theorem hasM {H:List Entry}{ids:List Nat}{c:Cell}{xs:List Str}(h:qbq H ids c xs)(hx:xs.length≤1073741824)(s:Str):qeh qek [.one c,.one (Cell.str (bs s))] H=some [.one (Cell.bool (xs.contains s))]:=by
 rw[qdn (qcj h.read (qcv [.one (Cell.str (bs s))] _ _))]
 exact c_fav xs s hx
theorem qju {α:Type}{w:α→Nat}{m:Nat}:∀ (xs:List α),(∀ x∈xs,w x≤m)→wtL w xs≤xs.length*(m+1):=by
 intro xs
 induction xs with
 | nil=>intro _;simp[wtL]
 | cons x xs ih=>
  intro h
  have h1:=ih fun y hy=>h y (List.mem_cons_of_mem _ hy)
  have h2:=h x List.mem_cons_self
  simp only[wtL,List.map_cons,List.sum_cons,List.length_cons,Nat.add_mul] at h1 ⊢
  omega
theorem qjj.bd {p:MPack}(h:qjj p):p.Bd 1048576:=by
 obtain⟨h1,⟨h2,h3⟩,⟨h4,h5⟩,h6,h7⟩:=h
 refine⟨Nat.le_trans h1 (by omega),⟨by omega,fun u hu=>Nat.le_trans (h3 u hu) (by omega)⟩,⟨by omega,fun n hn=>?_⟩,by omega,fun c hc=>?_⟩
 ·exact⟨Nat.le_trans (h5 n hn).1 (by omega),Nat.le_trans (h5 n hn).2 (by omega)⟩
 ·obtain⟨k1,k2,k3⟩:=h7 c hc
  exact⟨Nat.le_trans k1 (by omega),by omega,fun a ha=>Nat.le_trans (k3 a ha) (by omega)⟩
theorem qjj.wt {p:MPack}(h:qjj p):MPack.wt p≤10000:=by
 obtain⟨h1,⟨h2,h3⟩,⟨h4,h5⟩,h6,h7⟩:=h
 have e1:=qju (w:=wtS) (m:=20) p.Uses fun u hu=>h3 u hu
 have e2:=qju (w:=MNeed.wt) (m:=40) p.Needs fun n hn=>by
  have:=h5 n hn
  unfold qvd at this
  simp only[MNeed.wt,wtS]
  omega
 have e3:=qju (w:=MCmd.wt) (m:=1000) p.Cmds fun c hc=>by
  obtain⟨k1,k2,k3⟩:=h7 c hc
  have:=qju (w:=wtS) (m:=100) c.Acts fun a ha=>k3 a ha
  have e:c.Acts.length*(100+1)≤3*101:=Nat.mul_le_mul k2 (by omega)
  simp only[MCmd.wt,wtS] at this ⊢
  omega
 have e4:p.Uses.length*(20+1)≤4*21:=Nat.mul_le_mul h2 (by omega)
 have e5:p.Needs.length*(40+1)≤3*41:=Nat.mul_le_mul h4 (by omega)
 have e6:p.Cmds.length*(1000+1)≤3*1001:=Nat.mul_le_mul h6 (by omega)
 simp only[MPack.wt,wtS] at e1 ⊢
 omega
theorem Drawn.good {v:Nat}{l:List MPack}(h:Drawn (qmg.take (1+v)) l)(hl:l.length=(qmg.take (1+v)).length):GoodP l:=by
 have hnm:l.map (·.Name)=qmg.take (1+v):=by rw[h.nm,hl,List.take_length]
 have h4:l.length≤4:=by rw[hl];simp[qmg];omega
 refine⟨?_,fun p hp u hu=>?_,⟨by omega,fun p hp=>(h.sm p hp).bd⟩,?_⟩
 ·rw[hnm]
  exact(List.take_sublist _ _).nodup (by decide)
 ·rw[hnm]
  exact h.us p hp u hu
 ·have:=qju (w:=MPack.wt) (m:=10000) l fun p hp=>(h.sm p hp).wt
  have e:l.length*(10000+1)≤4*10001:=Nat.mul_le_mul h4 (by omega)
  omega
theorem c_fbe (code:Str)(hl:code.length≤1048576):∃ l:List MPack,GoodP l∧outL qkn [.one (qki code)]=some [.one (encL 4 MPack.enc l)]:=by
 obtain⟨h,e1⟩:=qmnb code hl []
 have hc:Cur ([]++[curE code 0 h]) 0 code:=Cur.new code h []
 obtain⟨b,G,e2,d2⟩:=qji hc hl 2 (by omega) (by omega)
 obtain⟨l,v,c,H',e3,d3,o3,r1,r2,r3⟩:=qaob d2.cur hl b
 obtain⟨ids,q1,q2,q3⟩:=o3
 refine⟨l,r1.good r3,qmzb (xs:=[.one c]) (H:=H') (qwd 0 ?_) (qcj ?_ (qbd _))⟩
 ·rw[show((2:Nat):Int)=2 from rfl] at e2
  simp only[List.length_nil,List.nil_append] at e1 e2
  simp only[fbe,e1,e2,e3,EV0]
 ·have:=qte q1 (by omega)
  rwa [qeq] at this
theorem qbq.take {H:List Entry}{ids:List Nat}{c:Cell}{xs:List Str}(h:qbq H ids c xs){n:Nat}(hn:n≤xs.length):∃ c',slcC 1 c 0 (some (n:Int)) none=some c'∧qbq H ids c' (xs.take n):=by
 rcases h with⟨f,rfl⟩ | ⟨is,h,hi⟩
 ·refine⟨.lst (qmt f none n (xs.map eStr).length) 1 ((xs.take n).map eStr),?_,.inl ⟨_,rfl⟩⟩
  simp only[slcC,Option.getD_some,Option.getD_none,List.length_map]
  rw[if_pos (.inl trivial),if_pos ⟨by omega,by omega,by omega,Int.le_refl _⟩]
  simp[List.map_take]
 ·rcases h with⟨h1,h2,f,rfl⟩ | ⟨id,off,ep,e,fr,is',rfl,rfl,he,_,_,hl,hr,hsp⟩
  ·simp only[List.map_eq_nil_iff] at h1
   subst h1
   simp at hn
   subst hn
   exact⟨.lst (qmt f none 0 0) 1 [],by simp[slcC],.inl ⟨_,rfl⟩⟩
  ·simp only[List.length_map] at hl hsp
   have hex:∃ i1,Sp (Sp (Rep H false false 1)) i1 ((e.drop off).take n) ((xs.take n).map qbw)∧∀ j∈i1,j∈is':=by
    by_cases hlt:n < xs.length
    ·obtain⟨i1,i,i2,a,e1,_,_,h4,_⟩:=hsp.at (n:=n) (b:=qbw xs[n]) (by rw[List.getElem?_map,List.getElem?_eq_getElem hlt];rfl)
     rw[List.take_take,← List.map_take,Nat.min_eq_left (by omega)] at h4
     exact⟨i1,h4,fun j hj=>by rw[e1];exact List.mem_append_left _ hj⟩
    ·have:n=xs.length:=by omega
     subst this
     rw[List.take_length]
     exact⟨is',hsp,fun j hj=>hj⟩
   obtain⟨i1,h4,h5⟩:=hex
   refine⟨.vs id 1 off n ep,?_,.inr ⟨id::i1,.inr ⟨id,off,ep,e,fr,i1,by simp[Nat.min_eq_left hn],rfl,he,fun h=>by simp at h,fun h=>by simp at h,by simp;omega,hr,by simpa[Nat.min_eq_left hn] using h4⟩,fun j hj=>hi j ?_⟩⟩
   ·simp only[slcC,Option.getD_some,Option.getD_none,if_true,List.length_map]
    rw[if_pos ⟨by omega,by omega,by omega,Int.le_refl _⟩,if_pos (.inl trivial)]
    simp
   ·rcases List.mem_cons.1 hj with rfl | hj
    ·exact List.mem_cons_self
    ·exact List.mem_cons_of_mem _ (h5 j hj)
theorem Ord.in' {names:List Str}{nx:Str→List Str}{o:List Str}(h:Ord names nx o){i:Nat}{s u:Str}(hs:o[i]?=some s)(hu:u∈nx s):(o.take i).contains u=true:=by simpa using h.behind i s hs u hu
theorem c_fat (x0:Str)(hx0:bdS maxLen x0):out qxt [.one (qki x0)]=some [.one (Cell.bool true)]:=by
 have hM:=qar
 have eb:=c_fau x0 hx0
 by_cases hb:1048576 < x0.length
 ·refine qrc (H:=[]) (qoi 0 ?_)
  rw[decide_eq_true hb] at eb
  simp only[fat,eb,EV0]
 rw[decide_eq_false hb] at eb
 obtain⟨l,hg,hd⟩:=c_fbe x0 (by omega)
 have hll:=hg.bd.1
 obtain⟨cR,ER,iR,eR,rR,wR,_⟩:=qkf (f_faf l hg.bd hg.wt) [] (qcv [.one (encL 4 MPack.enc l)] _ _)
 obtain⟨cO,EO,iO,eO,rO,wO,_⟩:=qlzb (f_fae l hg.bd) ([]++ER) (qcv [.one (encL 4 MPack.enc l)] _ _)
 obtain⟨H2,hH2⟩:∃ H2,H2=[]++ER++EO:=⟨_,rfl⟩
 have mO:qbq H2 iO cO (qbl l).1:=by rw[hH2];exact qbq.of (n:=0) rO
 have mR:lenC cR=some (qoe l).length:=(qbq.of (n:=0) rR).len
 have hOl:(qbl l).1.length≤1048576:=(qpyb l hg.bd).1
 have l3:∀ (E:List Entry) (b:Cell→Cell→Bool→Int→List Entry→Option Res) (i j:Nat) (p:MPack),l[j]?=some p→i≤(qbl l).1.length→(∀ u∈p.Uses,((qbl l).1.take i).contains u=true)→∀ (d q n:Nat),q+d=p.Uses.length→d < n→∀ k m,
   qqn k m b n (encL 4 MPack.enc l) cO (qbl l).2 (i:Int) (j:Int) (q:Int) (H2++E)=b (encL 4 MPack.enc l) cO (qbl l).2 ((i+1:Nat):Int) (H2++E):=by
  intro E b i j p hj hi hu d
  have mE:qbq (H2++E) iO cO (qbl l).1:=mO.frame fun z hz=>List.getElem?_append_left (by rw[hH2];exact wO.hi z hz)
  obtain⟨c',e1,e2⟩:=mE.take hi
  have hpu:=(hg.bd.2 p (List.mem_of_getElem? hj)).2.1
  have hpl:=hpu.1
  induction d with
  | zero=>
   intro q n hq hn k m
   obtain⟨n,rfl⟩:∃ j,n=j+1:=⟨n - 1,by omega⟩
   simp only[qqn,qdd,hj,MPack.enc,qqf,qbc,Nat.zero_add,Nat.reduceAdd,EV0]
   rw[decide_eq_false (by omega),cond_false,qaj (by omega)]
  | succ d ih=>
   intro q n hq hn k m
   obtain⟨n,rfl⟩:∃ j,n=j+1:=⟨n - 1,by omega⟩
   obtain⟨u,hu'⟩:∃ u,p.Uses[q]?=some u:=⟨_,List.getElem?_eq_getElem (by omega)⟩
   have hh:=hasM e2 (by simp;omega) u
   rw[hu u (List.mem_of_getElem? hu')] at hh
   simp only[qqn,qdd,hj,MPack.enc,qqf,qbc,Nat.zero_add,Nat.reduceAdd,EV0]
   rw[decide_eq_true (by omega),cond_true]
   simp only[e1,hu',eStr,hh,qaj (show q < maxLen by omega),Bool.not_true,EV0]
   exact ih (q+1) n (by omega) (by omega) k m
 have l2:∀ (E:List Entry) (d i n:Nat),i+d=(qbl l).1.length→d < n→∀ k m,1048577 < m→∃ H',qof k m n (encL 4 MPack.enc l) cO (qbl l).2 (i:Int) (H2++E)=some ([.one (Cell.bool true)],H'):=by
  intro E d
  have mE:qbq (H2++E) iO cO (qbl l).1:=mO.frame fun z hz=>List.getElem?_append_left (by rw[hH2];exact wO.hi z hz)
  induction d with
  | zero=>
   intro i n hi hn k m hm
   obtain⟨n,rfl⟩:∃ j,n=j+1:=⟨n - 1,by omega⟩
   refine⟨H2++E,?_⟩
   simp only[qof,mE.len,qbc,Option.bind_some]
   rw[decide_eq_false (by omega),cond_false]
   rcases hg.order with⟨k1,_,_,k4⟩ | ⟨k1,_⟩
   ·rw[k1,Bool.not_true,cond_false,k4]
    simp
   ·rw[k1]
    rfl
  | succ d ih=>
   intro i n hi hn k m hm
   obtain⟨n,rfl⟩:∃ j,n=j+1:=⟨n - 1,by omega⟩
   rcases hg.order with⟨k1,_,k3,k4⟩ | ⟨k1,_⟩
   ·obtain⟨s,hs⟩:∃ s,(qbl l).1[i]?=some s:=⟨_,List.getElem?_eq_getElem (by omega)⟩
    have hsn:=k3.sub s (List.mem_of_getElem? hs)
    obtain⟨a,row,off,a1,a2,a3⟩:=mE.at hs
    obtain⟨p0,hp0,hpn0⟩:=List.mem_map.1 hsn
    rcases qtg (fun p:MPack=>p.Name==s) l 0 with⟨_,e2⟩ | ⟨j,p,e1,e2,e3⟩
    ·rw[List.find?_eq_none] at e2
     exact absurd (by simpa using hpn0) (e2 p0 hp0)
    have hpn:p.Name=s:=by
     have:=List.find?_some e3
     simpa using this
    have hpu:∀ u∈p.Uses,((qbl l).1.take i).contains u=true:=fun u hu=>k3.in' hs (by rw[← hpn,qds hg.nd (List.mem_of_getElem? e2)];exact hu)
    have ef:=c_fac l (by omega) s
    rw[e1,Nat.zero_add] at ef
    obtain⟨H',e4⟩:=ih (i+1) n (by omega) (by omega) k m hm
    have hpl:=(hg.bd.2 p (List.mem_of_getElem? e2)).2.1.1
    refine⟨H',?_⟩
    simp only[qof,mE.len,Option.bind_some]
    rw[decide_eq_true (by omega),cond_true]
    simp only[a1,a2,a3,ef,EV0]
    have e5:=l3 E (qof k m n) i j p e2 (by omega) hpu p.Uses.length 0 m (by omega) (by omega) k m
    rw[show((0:Nat):Int)=0 from rfl] at e5
    rw[e5]
    exact e4
   ·rw[k1] at hi
    simp at hi
 have l1:∀ (b:Cell→Cell→Bool→Int→List Entry→Option Res) (i:Nat) (p:MPack),l[i]?=some p→∀ (d q n:Nat) (E:List Entry),q+d=l.length→d < n→∀ k m,∃ E',qox k m b n (encL 4 MPack.enc l) cO (qbl l).2 (i:Int) (q:Int) (H2++E)=b (encL 4 MPack.enc l) cO (qbl l).2 ((i+1:Nat):Int) (H2++E'):=by
  intro b i p hp d
  have hil:=(List.getElem?_eq_some_iff.1 hp).1
  have hpm:=List.mem_of_getElem? hp
  have hpb:=hg.bd.2 p hpm
  induction d with
  | zero=>
   intro q n E hq hn k m
   obtain⟨n,rfl⟩:∃ j,n=j+1:=⟨n - 1,by omega⟩
   refine⟨E,?_⟩
   simp only[qox,qbc,Option.bind_some]
   rw[decide_eq_false (by omega),cond_false,qaj (by omega)]
  | succ d ih=>
   intro q n E hq hn k m
   obtain⟨n,rfl⟩:∃ j,n=j+1:=⟨n - 1,by omega⟩
   obtain⟨r,hr⟩:∃ r,l[q]?=some r:=⟨_,List.getElem?_eq_getElem (by omega)⟩
   have hrb:=hg.bd.2 r (List.mem_of_getElem? hr)
   have b1:(p.Uses.contains r.Name)=((qin l r.Name).contains p.Name):=by
    rw[Bool.eq_iff_iff,List.contains_iff_mem,List.contains_iff_mem]
    exact(hg.by hpm r.Name).symm
   have b2:((qdw l p.Name).contains r.Name)=((qdg l r.Name).contains p.Name):=by
    rw[Bool.eq_iff_iff,List.contains_iff_mem,List.contains_iff_mem]
    exact(hg.deep _ _).trans (hg.deepBy _ _).symm
   have u1:∀ H,mapO (qak false H) [.one (encL 4 MPack.enc l),.one (Cell.str (bs r.Name))]=some [.one (encL 4 MPack.enc l),.one (Cell.str (bs r.Name))]:=fun H=>qcv _ _ _
   have u2:∀ H,mapO (qak false H) [.one (encL 4 MPack.enc l),.one (Cell.str (bs p.Name))]=some [.one (encL 4 MPack.enc l),.one (Cell.str (bs p.Name))]:=fun H=>qcv _ _ _
   obtain⟨c1,E1,i1,e1,r1,_,_⟩:=qkf (f_fah l hg.bd r.Name hrb.1) (H2++E) (u1 _)
   obtain⟨c2,E2,i2,e2,r2,_,_⟩:=qkf (f_fab l hg.bd hg.wt p.Name hpb.1 hpb.1) (H2++E++E1) (u2 _)
   obtain⟨c3,E3,i3,e3,r3,_,_⟩:=qkf (f_faa l hg.bd hg.wt r.Name hrb.1 hrb.1) (H2++E++E1++E2) (u1 _)
   obtain⟨c4,E4,i4,e4,r4,_,_⟩:=qkf (f_fab l hg.bd hg.wt p.Name hpb.1 hpb.1) (H2++E++E1++E2++E3) (u2 _)
   have q1:=hasM (qbq.of (n:=0) r1) (Nat.le_trans (qgtb l hg.bd r.Name hrb.1).1 (by omega)) p.Name
   have q2:=hasM (qbq.of (n:=0) r2) (Nat.le_trans (qmv l hg.bd hg.wt p.Name hpb.1 hpb.1).1 (by omega)) r.Name
   have q3:=hasM (qbq.of (n:=0) r3) (Nat.le_trans (qrg l hg.bd hg.wt r.Name hrb.1 hrb.1).1 (by omega)) p.Name
   have q4:=hasM (qbq.of (n:=0) r4) (Nat.le_trans (qmv l hg.bd hg.wt p.Name hpb.1 hpb.1).1 (by omega)) r.Name
   have q0:=c_fav p.Uses r.Name (Nat.le_trans hpb.2.1.1 (by omega))
   rw[← b1] at q1
   rw[← b2] at q3
   simp only[qox,qbc,Option.bind_some]
   rw[decide_eq_true (by omega),cond_true]
   simp only[qdd,hp,hr,MPack.enc,qqf,Nat.zero_add,Nat.reduceAdd,EV0]
   simp only[q0,e1,q1,beq_self_eq_true,Bool.not_true,cond_false,EV0]
   simp only[e2,q2,e3,q3,beq_self_eq_true,Bool.not_true,cond_false,q0,EV0]
   rw[qaj (show q < maxLen by omega)]
   cases hc:p.Uses.contains r.Name with
   | false=>
    rw[cond_false]
    obtain⟨E',e5⟩:=ih (q+1) n (E++E1++E2++E3) (by omega) (by omega) k m
    exact⟨E',by rw[← e5];simp only[List.append_assoc]⟩
   | true=>
    rw[(List.contains_iff_mem.2 (hg.step hpm (List.contains_iff_mem.1 hc)):(qdw l p.Name).contains r.Name=true)] at q4
    rw[cond_true]
    simp only[e4,q4,Bool.not_true,cond_false,EV0]
    obtain⟨E',e5⟩:=ih (q+1) n (E++E1++E2++E3++E4) (by omega) (by omega) k m
    exact⟨E',by rw[← e5];simp only[List.append_assoc]⟩
 have l0:∀ (d i n:Nat) (E:List Entry),i+d=l.length→d < n→∀ k m,1048577 < m→∃ H',qni k m n (encL 4 MPack.enc l) cO (qbl l).2 (i:Int) (H2++E)=some ([.one (Cell.bool true)],H'):=by
  intro d
  induction d with
  | zero=>
   intro i n E hi hn k m hm
   obtain⟨n,rfl⟩:∃ j,n=j+1:=⟨n - 1,by omega⟩
   obtain⟨H',e⟩:=l2 E (qbl l).1.length 0 m (by omega) (by omega) k m hm
   refine⟨H',?_⟩
   simp only[qni,qbc,Option.bind_some]
   rw[decide_eq_false (by omega),cond_false]
   exact e
  | succ d ih=>
   intro i n E hi hn k m hm
   obtain⟨n,rfl⟩:∃ j,n=j+1:=⟨n - 1,by omega⟩
   obtain⟨p,hp⟩:∃ p,l[i]?=some p:=⟨_,List.getElem?_eq_getElem (by omega)⟩
   obtain⟨E',e1⟩:=l1 (qni k m n) i p hp l.length 0 m E (by omega) (by omega) k m
   obtain⟨H',e2⟩:=ih (i+1) n E' (by omega) (by omega) k m hm
   refine⟨H',?_⟩
   rw[show((0:Nat):Int)=0 from rfl] at e1
   simp only[qni,qbc,Option.bind_some]
   rw[decide_eq_true (by omega),cond_true,e1]
   exact e2
 obtain⟨H',e⟩:=l0 l.length 0 2000000 [] (by omega) (by omega) 2000000 2000000 (by omega)
 refine qrc (H:=H') (qoi 1999999 ?_)
 have hd':∀ H,callL qkn [.one (qki x0)] H=some ([.one (encL 4 MPack.enc l)],H):=fun H=>by rw[qho,hd];rfl
 have hbeq:(!((qbl l).2==(((qoe l).length:Int)==0)))=false:=by
  rcases hg.order with⟨k1,k2,_⟩ | ⟨k1,k2⟩
  ·rw[k1,k2];rfl
  ·rw[k1]
   cases hq:qoe l with
   | nil=>exact absurd hq k2
   | cons a r=>
    have:(((a::r).length:Int)==0)=false:=by simp;omega
    rw[this];rfl
 rw[show((0:Nat):Int)=0 from rfl,List.append_nil,hH2] at e
 simp only[fat,eb,hd',eR,eO,mR,EV0]
 rw[hbeq,cond_false]
 exact e
end Go.Ev
