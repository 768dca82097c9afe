/- What the functions come to. Conditions: none. -/
import Derived.Test.YteofbfalngmmeaaGreatDoorKp0
set_option linter.unusedSimpArgs false
set_option linter.unusedVariables false
namespace Go.Ev
open Go
structure RCmp where
 op:Int
 v:MVer
def eCmp (c:RCmp):List Cell:=[Cell.int c.op,Cell.int c.v.A,Cell.int c.v.B,Cell.int c.v.C,qbj c.v.Pre]
instance:CanonE eCmp:=⟨fun _=>CanonLs.canon (cs:=[_,_,_,_,_])⟩
def eInt (x:Int):List Cell:=[Cell.int x]
instance:CanonE eInt:=⟨fun _=>.cons inferInstance .nil⟩
def zeroV:MVer:=⟨0,0,0,[]⟩
def xS:Str:=[120]
def oneV (x:Str):Option (MVer×Nat):=match qaj x 9999 with | some a=>some (⟨a,0,0,[]⟩,1) | none=>none
def twoV (x y:Str):Option (MVer×Nat):=match qaj x 9999,qaj y 9999 with | some a,some b=>some (⟨a,b,0,[]⟩,2) | _,_=>none
def numsOf:List Str→Option (MVer×Nat) | [x]=>oneV x | [x,y]=>if y=xS then oneV x else twoV x y | [x,y,z]=>if z=xS then (if y=xS then oneV x else twoV x y) else none | _=>none
def partOf (s:Str):Option (MVer×Nat):=if (qac s).2 then some ((qac s).1,3) else numsOf (split 46 s)
def qdv (v:MVer)(told:Nat):MVer:=if told=1 then ⟨v.A+1,0,0,[]⟩ else ⟨v.A,v.B+1,0,[]⟩
def qgx (v:MVer):RCmp:=⟨1,⟨v.A,v.B,v.C,[[48]]⟩⟩
def qdz (v:MVer)(told:Nat):MVer:=if v.A≠0∨told=1 then ⟨v.A+1,0,0,[]⟩ else if v.B≠0∨told=2 then ⟨0,v.B+1,0,[]⟩ else ⟨0,0,v.C+1,[]⟩
def qck (g:Str)(v:MVer)(told:Nat):List RCmp:=if g=[94] then [⟨4,v⟩,qgx (qdz v told)] else if g=[126] then [⟨4,v⟩,qgx (qdv v told)] else if g=[62,61] then [⟨4,v⟩] else if g=[62] then (if told=3 then [⟨3,v⟩] else [⟨4,qdv v told⟩]) else if g=[60,61] then (if told=3 then [⟨2,v⟩] else [qgx (qdv v told)]) else if g=[60] then [⟨1,v⟩] else if told=3 then [⟨0,v⟩] else [⟨4,v⟩,qgx (qdv v told)]
def signs:List Str:=[[94],[126],[62,61],[62],[60,61],[60],[61],[]]
def qds (w:Str):List Str→Option (List RCmp) | []=>none | g::r=>if g.isPrefixOf w then (match partOf (w.drop g.length) with | some p=>some (qck g p.1 p.2) | none=>none) else qds w r
def qip (w:Str):Option (List RCmp):=if w=[42] then some [⟨4,zeroV⟩] else qds w signs
def qcv:List Str→List RCmp→Option (List RCmp)
 | [],acc=>some acc
 | w::r,acc=>match qip w with | some l=>qcv r (acc++l) | none=>none
def qgg (v:MVer):Bool:=qet v.A v.B v.C v.Pre
def qwtc (ws:List Str):Option (List RCmp):=match qcv ws [] with
 | some l=>if l.length≤4∧l.all (fun c=>qgg c.v)=true then some l else none
 | none=>none
def qwqb (ws:List Str):Option (Str×Str):=match ws with
 | [a,b,c]=>if b=[45] then some (a,c) else none
 | _=>none
def qny (ws:List Str):Option (List RCmp):=match qwqb ws with
 | some (a,c)=>if (qac a).2&&(qac c).2 then some [⟨4,(qac a).1⟩,⟨2,(qac c).1⟩] else none
 | none=>qwtc ws
def qvz (s:Str):Str:=s.dropWhile (·==32)
def qks:Str→Str
 | []=>[]
 | x::s=>match qks s with | []=>if x=32 then [] else [x] | y::r=>x::y::r
def trim (s:Str):Str:=qvz (qks s)
theorem trimLR (s:Str):qks (qvz s)=qvz (qks s):=by
 induction s with
 | nil=>rfl
 | cons x s ih=>
  by_cases hx:x=32
  ·subst hx
   have e1:qvz (32::s)=qvz s:=by simp[qvz]
   rw[e1,ih]
   simp only[qks]
   cases h:qks s with
   | nil=>simp[qvz]
   | cons y r=>simp[qvz]
  ·have e1:qvz (x::s)=x::s:=by simp[qvz,hx]
   rw[e1]
   simp only[qks]
   cases h:qks s with
   | nil=>simp[qvz,hx]
   | cons y r=>simp[qvz,hx]
theorem qnz (s:Str):qks (s++[32])=qks s:=by
 induction s with
 | nil=>rfl
 | cons x s ih=>
  rw[List.cons_append]
  simp only[qks,ih]
theorem qoq (s:Str)(y:UInt8)(h:y≠32):qks (s++[y])=s++[y]:=by
 induction s with
 | nil=>simp[qks,h]
 | cons x s ih=>
  rw[List.cons_append]
  simp only[qks,ih]
  cases s<;>rfl
theorem qizc (s:Str):(qks s).length≤s.length:=by
 induction s with
 | nil=>exact Nat.le_refl _
 | cons x s ih=>
  cases h:qks s with
  | nil=>
   have e:qks (x::s)=if x=32 then [] else [x]:=by simp only[qks,h]
   rw[e]
   split<;>simp
  | cons y r=>
   have e:qks (x::s)=x::y::r:=by simp only[qks,h]
   rw[e]
   rw[h] at ih
   simp only[List.length_cons] at ih ⊢
   omega
theorem qdic (s:Str):(qvz s).length≤s.length:=(List.dropWhile_suffix (fun x=>x==32) (l:=s)).length_le
theorem qywb (s:Str):(trim s).length≤s.length:=Nat.le_trans (qdic _) (qizc s)
def qbn (cur:Str):Str→List Str | []=>[cur] | [b]=>[cur++[b]] | a::b::r=>if a=124∧b=124 then cur::qbn [] r else qbn (cur++[a]) (b::r)
def sides (s:Str):List Str:=qbn [] s
theorem qdw:∀ (n:Nat) (s cur:Str),s.length≤n→(qbn cur s).length≤s.length+1∧∀ x∈qbn cur s,x.length≤cur.length+s.length
 | _,[],cur,_=>by simp[qbn]
 | _,[b],cur,_=>by simp[qbn]
 | 0,a::b::r,_,h=>by simp at h
 | n+1,a::b::r,cur,h=>by
  simp only[List.length_cons] at h
  simp only[qbn]
  split
  ·have h1:=qdw n r [] (by omega)
   refine⟨by simp only[List.length_cons];omega,fun x hx=>?_⟩
   rcases List.mem_cons.1 hx with rfl | hx
   ·omega
   ·have:=h1.2 x hx
    simp only[List.length_nil,List.length_cons] at this ⊢
    omega
  ·have h1:=qdw n (b::r) (cur++[a]) (by simp only[List.length_cons];omega)
   simp only[List.length_cons,List.length_append,List.length_nil] at h1 ⊢
   refine⟨by omega,fun x hx=>?_⟩
   have:=h1.2 x hx
   omega
def qjg (piece:Str):Option (List RCmp):=qny (split 32 (trim piece))
def qcy:List Str→List (List RCmp)→Option (List (List RCmp))
 | [],acc=>some acc
 | p::r,acc=>match qjg p with | some l=>qcy r (acc++[l]) | none=>none
def qbk (s:Str):Option (List (List RCmp)):=if (sides s).length≤4 then qcy (sides s) [] else none
def qlhb (l:List RCmp):List Cell:=[encL 5 eCmp l]
instance:CanonE qlhb:=⟨fun _=>.cons inferInstance .nil⟩
def qji (l:List (List RCmp)):Cell:=encL 1 qlhb l
def oo:Str:=[124,124]
theorem quxb (a b:UInt8)(r:Str):oo.isPrefixOf (a::b::r)=decide (a=124∧b=124):=by
 simp only[oo,List.isPrefixOf,Bool.and_true]
 rw[Bool.eq_iff_iff]
 simp only[Bool.and_eq_true,beq_iff_eq,decide_eq_true_eq]
 exact⟨fun h=>⟨h.1.symm,h.2.symm⟩,fun h=>⟨h.1.symm,h.2.symm⟩⟩
theorem qjzb (a b:UInt8)(r:Str):Lib.index (a::b::r) oo=if a=124∧b=124 then 0 else if Lib.index (b::r) oo==-1 then -1 else Lib.index (b::r) oo+1:=by
 rw[Lib.index,quxb]
 simp only[decide_eq_true_eq]
theorem oo_one (b:UInt8):Lib.index [b] oo=-1:=by simp[Lib.index,oo,List.isPrefixOf]
theorem qnf:∀ (s cur:Str),Lib.index s oo=-1→qbn cur s=[cur++s]
 | [],cur,_=>by simp[qbn]
 | [b],cur,_=>by simp[qbn]
 | a::b::r,cur,h=>by
  rw[qjzb] at h
  by_cases hab:a=124∧b=124
  ·rw[if_pos hab] at h
   omega
  ·rw[if_neg hab] at h
   have h2:Lib.index (b::r) oo=-1:=by
    have:=Lib.index_ge (b::r) oo
    split at h
    ·rename_i h3
     simpa using h3
    ·omega
   rw[qbn,if_neg hab,qnf (b::r) _ h2]
   simp
theorem qqq:∀ (s cur:Str) (i:Nat),Lib.index s oo=(i:Int)→qbn cur s=(cur++s.take i)::qbn [] (s.drop (i+2))∧i+2≤s.length
 | [],cur,i,h=>by simp[Lib.index,oo] at h
 | [b],cur,i,h=>by rw[oo_one] at h;omega
 | a::b::r,cur,i,h=>by
  rw[qjzb] at h
  by_cases hab:a=124∧b=124
  ·rw[if_pos hab] at h
   obtain rfl:i=0:=by omega
   rw[qbn,if_pos hab]
   simp
  ·rw[if_neg hab] at h
   split at h
   ·omega
   ·rename_i h3
    have hge:=Lib.index_ge (b::r) oo
    obtain⟨j,rfl⟩:∃ j,i=j+1:=⟨i - 1,by simp at h3;omega⟩
    obtain⟨h4,h5⟩:=qqq (b::r) (cur++[a]) j (by omega)
    rw[qbn,if_neg hab,h4]
    simp only[List.length_cons] at h5 ⊢
    refine⟨?_,by omega⟩
    rw[show j+1+2=(j+2)+1 by omega,List.drop_succ_cons,List.take_succ_cons]
    simp
theorem qii:∀ (n:Nat) (s:Str),s.length≤n→(sides s).length=Lib.count s oo+1:=by
 intro n
 induction n with
 | zero=>
  intro s h
  obtain rfl:s=[]:=List.eq_nil_of_length_eq_zero (by omega)
  rfl
 | succ n ih=>
  intro s h
  rcases Lib.index_spec s oo with⟨h1,_⟩ | ⟨i,h1,_⟩
  ·rw[sides,qnf _ _ h1,Lib.count_miss h1]
   rfl
  ·obtain⟨h2,h3⟩:=qqq s [] i h1
   rw[sides,h2,List.length_cons]
   have:=ih (s.drop (i+2)) (by simp;omega)
   rw[sides] at this
   rw[this,Lib.count_hit (by simp[oo]) h1]
   have e:i+oo.length=i+2:=rfl
   rw[e]
   omega
theorem qemb (s:Str):Lib.count s oo≤s.length:=by
 have h1:=qii s.length s (Nat.le_refl _)
 have h2:=(qdw s.length s [] (Nat.le_refl _)).1
 unfold sides at h1
 omega
theorem qlr (s:Str)(hs:s.length≤1073741824):out quk [.one (Cell.str (bs s)),.one (Cell.str (bs oo))]=some [.one (Cell.int ((Lib.count s oo:Nat):Int))]:=by
 refine qba (H:=[]) ?_
 show qdh _ _=_
 have e:qdh [.one (.sc (.string (bs s))),.one (.sc (.string (bs oo)))] []=if (bs s).size < 4294967281∧2≤(bs oo).size then some ([.one (.sc (.int .i64 (Lib.count (bs s).data.toList (bs oo).data.toList:Nat)))],[]) else none:=rfl
 rw[e,if_pos ⟨by rw[qbe];omega,by rw[qbe];decide⟩]
 simp only[qhs]
theorem qhk (s:Str)(hs:s.length≤1073741824):qnk [.one (Cell.str (bs s)),.one (Cell.str (bs oo)),.one (Cell.int 0),.one (Cell.int (-1))] []=some ([.one (.vs 0 1 0 (Lib.count s oo+1) 0)],[Entry.mk 1 ((sides s).map eStr) 0 false]):=by
 have hM:=qah
 have hct:Lib.count s oo≤s.length:=qemb s
 have hsl:=qii s.length s (Nat.le_refl _)
 have hput:∀ (rows:List (List Cell)) (i:Nat) (row:List Cell) (y:Str),rows[i]?=some row→row.length=1→qbt [Entry.mk 1 rows 0 false] (.ptr 0 1 i 0 0) [Cell.str (bs y)]=some [Entry.mk 1 (rows.set i (eStr y)) 0 false]:=by
  intro rows i row y h hr
  simp only[qbt,entry?,List.getElem?_cons_zero,if_true,h]
  rw[if_pos ⟨trivial,by simp,trivial⟩]
  simp[splice,eStr,hr,List.drop_eq_nil_of_le]
 have loop:∀ (d:Nat) (r:Str) (done:List Str) (n:Nat),Lib.count r oo=d→done.length+d=Lib.count s oo→r.length≤s.length→sides s=done++sides r→d < n→∀ k m,
   qli k m n (bs r) (bs oo) 0 ((Lib.count s oo:Nat):Int) (.vs 0 1 0 (Lib.count s oo+1) 0) ((done.length:Nat):Int) [Entry.mk 1 (done.map eStr++List.replicate (d+1) [Cell.str (bs [])]) 0 false]=
    some ([.one (.vs 0 1 0 (Lib.count s oo+1) 0)],[Entry.mk 1 ((sides s).map eStr) 0 false]):=by
  intro d
  induction d with
  | zero=>
   intro r done n hc hd hr hsp hn k m
   obtain⟨n,rfl⟩:∃ j,n=j+1:=⟨n - 1,by omega⟩
   have hnc:sides r=[r]:=by
    rcases Lib.index_spec r oo with⟨h1,_⟩ | ⟨i,h1,_⟩
    ·rw[sides,qnf _ _ h1]
     rfl
    ·have:=Lib.count_hit (sub:=oo) (by simp[oo]) h1
     omega
   simp only[qli]
   rw[decide_eq_false (by omega),cond_false]
   have hrow:(done.map eStr++List.replicate (0+1) [Cell.str (bs [])])[done.length]?=some [Cell.str (bs [])]:=by simp
   simp only[qhq 0 1 (Lib.count s oo+1) 0 done.length (by omega),Option.bind_some,hput _ _ _ r hrow rfl]
   have hset:(done.map eStr++List.replicate (0+1) [Cell.str (bs [])]).set done.length (eStr r)=(sides s).map eStr:=by
    rw[hsp,hnc,List.set_append_right _ _ (by simp)]
    simp
   rw[hset,show IntKind.i64.wrap ((done.length:Int)+1)=((Lib.count s oo+1:Nat):Int) by rw[qag (by omega)];omega]
   have hsl':slcC 1 (.vs 0 1 0 (Lib.count s oo+1) 0) 0 (some ((Lib.count s oo+1:Nat):Int)) none=some (.vs 0 1 0 (Lib.count s oo+1) 0):=by
    simp only[slcC,Option.getD_some,Option.getD_none,if_true]
    rw[if_pos ⟨by omega,by omega,by omega,by omega⟩,if_pos (.inl trivial)]
    simp
   rw[hsl']
   rfl
  | succ d ih=>
   intro r done n hc hd hr hsp hn k m
   obtain⟨n,rfl⟩:∃ j,n=j+1:=⟨n - 1,by omega⟩
   obtain⟨i,hi⟩:∃ i:Nat,Lib.index r oo=(i:Int):=by
    rcases Lib.index_spec r oo with⟨h1,_⟩ | ⟨i,h1,_⟩
    ·have:=Lib.count_miss h1
     omega
    ·exact⟨i,h1⟩
   obtain⟨h2,h3⟩:=qqq r [] i hi
   have h4:=Lib.count_hit (sub:=oo) (by simp[oo]) hi
   have e5:i+oo.length=i+2:=rfl
   rw[e5] at h4
   simp only[qli]
   rw[decide_eq_true (by omega),cond_true]
   simp only[qex r oo (by omega),hi,EV0]
   rw[decide_eq_false (by omega),cond_false]
   have e1:=qci r 0 i (by omega) (by omega)
   simp only[Int.natCast_zero,List.drop_zero] at e1
   rw[show IntKind.i64.wrap ((i:Int)+0)=(i:Int) by rw[Int.add_zero];exact wrap_small (by omega) (by omega),e1]
   have hrow:(done.map eStr++List.replicate (d+1+1) [Cell.str (bs [])])[done.length]?=some [Cell.str (bs [])]:=by simp
   simp only[Option.bind_some,qhq 0 1 (Lib.count s oo+1) 0 done.length (by omega),hput _ _ _ (r.take i) hrow rfl]
   have e2:=qci r (i+2) r.length (by omega) (Nat.le_refl _)
   rw[List.take_length] at e2
   rw[show IntKind.i64.wrap ((i:Int)+((oo.length:Nat):Int))=((i+2:Nat):Int) by rw[wrap_small (by simp[oo];omega) (by simp[oo];omega)];simp[oo],e2,qag (by omega)]
   simp only[Option.bind_some]
   have hset:(done.map eStr++List.replicate (d+1+1) [Cell.str (bs [])]).set done.length (eStr (r.take i))=(done++[r.take i]).map eStr++List.replicate (d+1) [Cell.str (bs [])]:=by
    rw[List.set_append_right _ _ (by simp)]
    simp[List.replicate_succ]
   rw[hset]
   have h6:sides r=r.take i::sides (r.drop (i+2)):=by
    rw[sides,h2]
    rfl
   have:=ih (r.drop (i+2)) (done++[r.take i]) n (by omega) (by simp;omega) (by simp;omega) (by rw[hsp,h6];simp) (by omega) k m
   rw[show(done++[r.take i]).length=done.length+1 by simp] at this
   exact this
 have hmin:(if IntKind.i64.wrap ((s.length:Int)+1) < IntKind.i64.wrap (((Lib.count s oo:Nat):Int)+1) then IntKind.i64.wrap ((s.length:Int)+1) else IntKind.i64.wrap (((Lib.count s oo:Nat):Int)+1))=((Lib.count s oo+1:Nat):Int):=by
  rw[qag (by omega),qag (by omega),if_neg (by omega)]
 have z:=loop (Lib.count s oo) s [] (Lib.count s oo+1+1) rfl (by simp) (Nat.le_refl _) (by simp) (by omega) (Lib.count s oo+1+1) (Lib.count s oo+1+1)
 refine qub (Lib.count s oo+1) ?_
 ·simp only[fec]
  rw[show((-1:Int)==0)=false from rfl,cond_false]
  simp only[qcm]
  rw[show((oo:Str)==[])=false from rfl,cond_false,show decide ((-1:Int) < 0)=true from rfl,cond_true]
  simp only[qlr s hs,EV0,hmin]
  rw[if_pos ⟨by omega,by omega,by unfold bound;omega,by unfold bound;omega⟩]
  rw[show IntKind.i64.wrap (((Lib.count s oo+1:Nat):Int) - 1)=((Lib.count s oo:Nat):Int) from qbu (by omega)]
  simpa[qch] using z
theorem qmb (s:Str)(hs:s.length≤1073741824):Fresh qed true 2 [.one (Cell.str (bs s)),.one (Cell.str (bs oo))] [.one (trL 1 qcp (sides s))]:=by
 have hg:GrowAt ([]:List Entry).length 1 (.vs 0 1 0 (Lib.count s oo+1) 0) [Entry.mk 1 ((sides s).map eStr) 0 false] ((sides s).map eStr):=.inr ⟨0,by rw[List.length_map,qii s.length s (Nat.le_refl _)];rfl,rfl⟩
 obtain⟨ids,r1,r2,_⟩:=hg.list
 refine Fresh.tailO (Fresh.one (qhk s hs) r1 r2) [] (qax _ _ _) fun c' E hc=>qss 0 ?_
 simp only[fdz,hc,EV0]
theorem qqn {α:Type}{sz:Nat}{e:α→List Cell}[CanonE e](f:Bool)(xs:List α)(H:List Entry):qak false H (.one (.lst f sz (xs.map e)))=some (.one (encL sz e xs)):=by
 have h:=(inferInstance:Canon (encL sz e xs)).nrm
 have e':norm (.lst f sz (xs.map e))=norm (encL sz e xs):=by simp only[encL,norm]
 show((some (norm (.lst f sz (xs.map e)))).map AV.one)=_
 rw[e',h]
 rfl
theorem c_fea (s:Str)(hs:s.length≤1073741824):out qzx [.one (Cell.str (bs s)),.one (Cell.str (bs [32]))]=some [.one (Cell.str (bs (trim s)))]:=by
 have key:∀ t:Str,(t.reverse.dropWhile (·==32)).reverse=qks t:=by
  intro t
  generalize hn:t.length=n
  induction n generalizing t with
  | zero=>
   have:t=[]:=List.eq_nil_of_length_eq_zero hn
   subst this
   rfl
  | succ n ih=>
   obtain⟨u,y,rfl⟩:∃ u y,t=u++[y]:=by
    have hne:t≠[]:=fun h=>by rw[h] at hn;simp at hn
    exact⟨t.dropLast,t.getLast hne,(List.dropLast_concat_getLast hne).symm⟩
   by_cases hy:y=32
   ·subst hy
    rw[qnz,← ih u (by simpa using hn)]
    simp
   ·rw[qoq u y hy]
    simp[hy]
 refine qba (H:=[]) ?_
 show qhj _ _=_
 have e:qhj [.one (.sc (.string (bs s))),.one (.sc (.string (bs [32])))] []=if (32:UInt8).toNat < 128∧(bs s).size≤9223372036854775807 then some ([.one (.sc (.string ⟨(Lib.trimB (bs s).data.toList 32).toArray⟩))],[]) else none:=rfl
 rw[e,if_pos ⟨by decide,by rw[qbe];omega⟩,qhs]
 unfold Lib.trimB Lib.trimLeftB Lib.trimRightB
 rw[key]
 rfl
theorem c_fdd (s:Str)(hs:s.length≤1073741824):out qri [.one (Cell.str (bs s))]=some [.one (Cell.str (bs (trim s)))]:=by
 have hM:=qah
 have right:∀ (n:Nat) (t:Str),t.length≤1073741824→t.length < n→∀ k m,qxe k m n (bs t)=some ([.one (Cell.str (bs (qks t)))],[]):=by
  intro n
  induction n with
  | zero=>intro t h0 h;omega
  | succ n ih=>
   intro t h0 h k m
   by_cases ht:t=[]
   ·subst ht
    rfl
   ·obtain⟨u,y,rfl⟩:∃ u y,t=u++[y]:=⟨t.dropLast,t.getLast ht,(List.dropLast_concat_getLast ht).symm⟩
    have hlen:(u++[y]).length=u.length+1:=by simp
    have hw:IntKind.i64.wrap (((u++[y]).length:Int) - 1)=(u.length:Int):=by
     rw[hlen]
     exact qbu (by omega)
    have hb:bytS (bs (u++[y])) (u.length:Int)=some (y.toNat:Int):=by
     rw[qcc]
     simp
    have h32:((y.toNat:Int)==32)=(y==32):=qkoc y 32 (by omega)
    have hsub:subS (bs (u++[y])) 0 (u.length:Int)=some (bs u):=by
     have:=qci (u++[y]) 0 u.length (Nat.zero_le _) (by simp)
     simpa using this
    simp only[qxe,qbe,hw,hb,h32,hsub,Option.bind_some]
    rw[decide_eq_true (by rw[hlen];omega),cond_true]
    by_cases hy:y=32
    ·subst hy
     rw[show((32:UInt8)==32)=true from rfl,cond_true,ih u (by omega) (by omega),qnz]
    ·rw[show(y==32)=false by simpa using hy,cond_false,qoq u y hy]
 have left:∀ (n:Nat) (t:Str),t.length≤1073741824→t.length < n→∀ k m,t.length < m→qwz k m n (bs t)=some ([.one (Cell.str (bs (qks (qvz t))))],[]):=by
  intro n
  induction n with
  | zero=>intro t h0 h;omega
  | succ n ih=>
   intro t h0 h k m hm
   cases t with
   | nil=>
    simp only[qwz,qbe]
    rw[show decide (((([]:Str).length:Nat):Int) > 0)=false from rfl,cond_false,right m [] h0 hm]
    rfl
   | cons x t=>
    have hb:bytS (bs (x::t)) 0=some (x.toNat:Int):=by
     have:=qcc (x::t) 0
     simpa using this
    have h32:((x.toNat:Int)==32)=(x==32):=qkoc x 32 (by omega)
    have hsub:subS (bs (x::t)) 1 ((x::t).length:Int)=some (bs t):=by
     have:=qci (x::t) 1 (x::t).length (by simp) (Nat.le_refl _)
     rw[List.take_length] at this
     exact this
    simp only[List.length_cons] at h0 h hm
    simp only[qwz,qbe,hb,h32,hsub,Option.bind_some]
    rw[decide_eq_true (by simp only[List.length_cons];omega),cond_true]
    by_cases hx:x=32
    ·subst hx
     rw[show((32:UInt8)==32)=true from rfl,cond_true,ih t (by omega) (by omega) k m (by omega)]
     simp[qvz]
    ·rw[show(x==32)=false by simpa using hx,cond_false,right m (x::t) (by simp;omega) (by simp;omega)]
     simp[qvz,hx]
 refine qba (H:=[]) (qgrb (s.length+1) ?_)
 have z:=left (s.length+1+1) s hs (by omega) (s.length+1+1) (s.length+1+1) (by omega)
 rw[trimLR] at z
 simp only[fdd]
 exact z
theorem c_fdb (s:Str)(hs:s.length≤1073741824):outL qrl [.one (Cell.str (bs s))]=some [.one (qbj (sides s))]:=by
 have hM:=qah
 have loop:∀ (n:Nat) (r:Str) (i from':Nat) (cur:Str) (cl:Cell) (H:List Entry) (done:List Str),s.drop i=r→from'≤i→i≤s.length→(s.take i).drop from'=cur→r.length < n→Grow 1 cl H (done.map eStr)→done.length≤i→
   ∀ k m,∃ cl' H',qio k m n (bs s) cl from' i H=some ([.one cl'],H')∧Grow 1 cl' H' ((done++qbn cur r).map eStr):=by
  intro n
  induction n with
  | zero=>intro r i from' cur cl H done hd hf hi hc hn;omega
  | succ n ih=>
   intro r i from' cur cl H done hd hf hi hc hn hg hdl k m
   have fin:s.length≤i+1→qbn cur r=[s.drop from']→∃ cl' H',qio k m (n+1) (bs s) cl from' i H=some ([.one cl'],H')∧Grow 1 cl' H' ((done++qbn cur r).map eStr):=by
    intro h1 h2
    obtain⟨p,hp,hgp⟩:=hg.app (by':=16) [eStr (s.drop from')] (by simp[bound];omega) (by simp[bound];omega)
    refine⟨p.1,p.2,?_,by rw[h2];simpa using hgp⟩
    have hsub:=qci s from' s.length (by omega) (Nat.le_refl _)
    rw[List.take_length] at hsub
    simp only[qio,qbe,qag (show i < maxLen by omega)]
    rw[decide_eq_false (by omega),cond_false,hsub]
    simp only[Option.bind_some]
    rw[show [[Cell.str (bs (s.drop from'))]]=[eStr (s.drop from')] from rfl,hp]
    rfl
   cases r with
   | nil=>
    have:=drop_nil hd
    refine fin (by omega) ?_
    rw[qbn,← hc,List.take_of_length_le (by omega)]
   | cons a r=>
    obtain⟨hlt,hga,hda⟩:=qas hd
    have hcur:(s.take (i+1)).drop from'=cur++[a]:=by
     rw[← hc,List.take_add_one,hga,List.drop_append]
     have:from' - (s.take i).length=0:=by rw[List.length_take];omega
     rw[this]
     rfl
    cases r with
    | nil=>
     have:=drop_nil hda
     refine fin (by omega) ?_
     rw[qbn,← hcur,List.take_of_length_le (by omega)]
    | cons b r=>
     obtain⟨hlt2,hgb,hdb⟩:=qas hda
     simp only[List.length_cons] at hn
     have ha:((a.toNat:Int)==124)=(a==124):=qkoc a 124 (by omega)
     have hb:((b.toNat:Int)==124)=(b==124):=qkoc b 124 (by omega)
     have w1:IntKind.i64.wrap ((i:Int)+1)=((i+1:Nat):Int):=qag (by omega)
     have w2:IntKind.i64.wrap ((i:Int)+2)=((i+2:Nat):Int):=by rw[wrap_small (by omega) (by omega)];omega
     have w3:IntKind.i64.wrap (((i+1:Nat):Int)+1)=((i+2:Nat):Int):=qag (by omega)
     have next:qbn cur (a::b::r)=qbn (cur++[a]) (b::r)→∃ cl' H',qio k m n (bs s) cl from' ((i+1:Nat):Int) H=some ([.one cl'],H')∧Grow 1 cl' H' ((done++qbn cur (a::b::r)).map eStr):=by
      intro h
      rw[h]
      exact ih (b::r) (i+1) from' (cur++[a]) cl H done hda (by omega) (by omega) hcur (by simp only[List.length_cons];omega) hg (by omega) k m
     by_cases h1:a=124
     ·by_cases h2:b=124
      ·obtain⟨p,hp,hgp⟩:=hg.app (by':=16) [eStr cur] (by simp[bound];omega) (by simp[bound];omega)
       obtain⟨cl',H',z1,z2⟩:=ih r (i+2) (i+2) [] p.1 p.2 (done++[cur]) hdb (by omega) (by omega) (by simp) (by omega) (by simpa using hgp) (by simp;omega) k m
       refine⟨cl',H',?_,?_⟩
       ·simp only[qio,qbe,qcc,w1,w2,w3,hga,hgb,ha,hb,Option.map_some,Option.bind_some]
        rw[decide_eq_true (by omega),cond_true,show(a==124)=true by simpa using h1,show(b==124)=true by simpa using h2,cond_true,cond_true,qci _ _ _ hf (by omega),hc]
        simp only[Option.bind_some]
        rw[show [[Cell.str (bs cur)]]=[eStr cur] from rfl,hp]
        simp only[Option.bind_some]
        exact z1
       ·rw[qbn,if_pos ⟨h1,h2⟩]
        simpa using z2
      ·obtain⟨cl',H',z1,z2⟩:=next (by rw[qbn,if_neg fun h=>h2 h.2])
       refine⟨cl',H',?_,z2⟩
       simp only[qio,qbe,qcc,w1,w2,w3,hga,hgb,ha,hb,Option.map_some,Option.bind_some]
       rw[decide_eq_true (by omega),cond_true,show(a==124)=true by simpa using h1,show(b==124)=false by simpa using h2,cond_true,cond_false]
       exact z1
     ·obtain⟨cl',H',z1,z2⟩:=next (by rw[qbn,if_neg fun h=>h1 h.1])
      refine⟨cl',H',?_,z2⟩
      simp only[qio,qbe,qcc,w1,w2,w3,hga,hgb,ha,hb,Option.map_some,Option.bind_some]
      rw[decide_eq_true (by omega),cond_true,show(a==124)=false by simpa using h1,cond_false]
      exact z1
 obtain⟨cl',H',z1,z2⟩:=loop (s.length+1+1) s 0 0 [] (.lst true 1 []) [] [] rfl (by omega) (by omega) (by simp) (by omega) (Grow.nil 1) (by simp) (s.length+1+1) (s.length+1+1)
 refine qaz (H:=H') (qkwb (s.length+1) ?_) (Grow.read z2)
 simpa[fdb] using z1
def okV (v:MVer):Prop:=(0≤v.A∧v.A≤9999)∧(0≤v.B∧v.B≤9999)∧(0≤v.C∧v.C≤9999)∧v.Pre.length≤3∧∀ x∈v.Pre,x.length≤8
theorem qdy {s:Str}(h:(qac s).2=true):qgg (qac s).1=true:=by
 unfold qac at h ⊢
 split at h<;>try (simp at h;done)
 split at h<;>try (simp at h;done)
 split at h<;>try (simp at h;done)
 rename_i hk
 simp only[qgg]
 rw[if_pos hk]
 exact hk
theorem xS_num:qaj xS 9999=none:=by decide
theorem qlvb {x:Str}{p:MVer×Nat}(h:oneV x=some p):okV p.1∧p.2=1:=by
 unfold oneV at h
 split at h
 ·rename_i a ha
  have:=(qbr ha).2.1
  simp only[Option.some.injEq] at h
  subst h
  exact⟨⟨by simp only;omega,by simp,by simp,by simp,by simp⟩,rfl⟩
 ·simp at h
theorem qxrb {x y:Str}{p:MVer×Nat}(h:twoV x y=some p):okV p.1∧p.2=2:=by
 unfold twoV at h
 split at h
 ·rename_i a b ha hb
  have h1:=(qbr ha).2.1
  have h2:=(qbr hb).2.1
  simp only[Option.some.injEq] at h
  subst h
  exact⟨⟨by simp only;omega,by simp only;omega,by simp,by simp,by simp⟩,rfl⟩
 ·simp at h
theorem qpn {s:Str}{p:MVer×Nat}(h:partOf s=some p):okV p.1∧(1≤p.2∧p.2≤3):=by
 unfold partOf at h
 split at h
 ·rename_i hk
  simp only[Option.some.injEq] at h
  subst h
  have:=qnh (qdy hk)
  exact⟨this,by simp⟩
 ·unfold numsOf at h
  split at h
  ·obtain⟨h1,h2⟩:=qlvb h
   exact⟨h1,by omega⟩
  ·split at h
   ·obtain⟨h1,h2⟩:=qlvb h
    exact⟨h1,by omega⟩
   ·obtain⟨h1,h2⟩:=qxrb h
    exact⟨h1,by omega⟩
  ·split at h
   ·split at h
    ·obtain⟨h1,h2⟩:=qlvb h
     exact⟨h1,by omega⟩
    ·obtain⟨h1,h2⟩:=qxrb h
     exact⟨h1,by omega⟩
   ·simp at h
  ·simp at h
def okB (v:MVer):Prop:=(0≤v.A∧v.A≤10000)∧(0≤v.B∧v.B≤10000)∧(0≤v.C∧v.C≤10000)∧v.Pre.length≤3∧∀ x∈v.Pre,x.length≤8
theorem qroc {v:MVer}(h:okB v):v.Bd 1048576:=by
 obtain⟨h1,h2,h3,h4,h5⟩:=h
 exact⟨by simp only[bdI];omega,by simp only[bdI];omega,by simp only[bdI];omega,by omega,fun x hx=>by have:=h5 x hx;simp only[bdS];omega⟩
theorem okV_B {v:MVer}(h:okV v):okB v:=by
 obtain⟨h1,h2,h3,h4,h5⟩:=h
 exact⟨by omega,by omega,by omega,h4,h5⟩
theorem qxyb {v:MVer}(h:okV v)(t:Nat):okB (qdv v t):=by
 obtain⟨h1,h2,h3,h4,h5⟩:=h
 unfold qdv
 split<;>exact⟨by simp only;omega,by simp only;omega,by simp only;omega,by simp,by simp⟩
theorem qfpc {v:MVer}(h:okV v)(t:Nat):okB (qdz v t):=by
 obtain⟨h1,h2,h3,h4,h5⟩:=h
 unfold qdz
 split
 ·exact⟨by simp only;omega,by simp only;omega,by simp only;omega,by simp,by simp⟩
 ·split<;>exact⟨by simp only;omega,by simp only;omega,by simp only;omega,by simp,by simp⟩
theorem qmfb {v:MVer}(h:okB v):okB (qgx v).v:=by
 obtain⟨h1,h2,h3,h4,h5⟩:=h
 exact⟨h1,h2,h3,by simp[qgx],by simp[qgx]⟩
theorem qlub (g:Str){v:MVer}(h:okV v)(t:Nat):(qck g v t).length≤2∧∀ c∈qck g v t,okB c.v:=by
 have a:=okV_B h
 have b:=qmfb (qfpc h t)
 have c:=qmfb (qxyb h t)
 have d:=qxyb h t
 unfold qck
 (repeat' split)<;>exact⟨by simp,by simp[a,b,c,d]⟩
theorem qlcb (w:Str):∀ (r:List Str) (l:List RCmp),qds w r=some l→l.length≤2∧∀ c∈l,okB c.v
 | [],l,h=>by simp[qds] at h
 | g::r,l,h=>by
  unfold qds at h
  split at h
  ·split at h
   ·rename_i p hp
    simp only[Option.some.injEq] at h
    subst h
    exact qlub g (qpn hp).1 p.2
   ·simp at h
  ·exact qlcb w r l h
theorem qwy {w:Str}{l:List RCmp}(h:qip w=some l):l.length≤2∧∀ c∈l,okB c.v:=by
 unfold qip at h
 split at h
 ·simp only[Option.some.injEq] at h
  subst h
  exact⟨by simp,by simp[zeroV,okB]⟩
 ·exact qlcb w signs l h
theorem qok (L:List RCmp)(f:Bool)(H:List Entry):mapO (qak false H) [.one (.lst f 5 (L.map eCmp))]=some [.one (encL 5 eCmp L)]:=
 qcz (qqn f L H) (qbq _)
theorem leafRB (L:List RCmp)(f:Bool)(b:Bool)(H:List Entry):mapO (qak false H) [.one (.lst f 5 (L.map eCmp)),.one (Cell.bool b)]=some [.one (encL 5 eCmp L),.one (Cell.bool b)]:=
 qcz (qqn f L H) (qcz (qbf _ _ _) (qbq _))
theorem w1 {a:Int}(h:0≤a∧a≤9999):IntKind.i64.wrap (a+1)=a+1:=wrap_small (by omega) (by omega)
theorem c_fcv (v:MVer)(t:Nat)(b:Bool):outL qfj [.agg [Cell.int v.A,Cell.int v.B,Cell.int v.C,qbj v.Pre,Cell.int t,Cell.bool b]]=some [.agg [Cell.int 4,Cell.int v.A,Cell.int v.B,Cell.int v.C,qbj v.Pre]]:=
 qixb (H:=[]) (qitb 0 rfl)
theorem qfw (a b c:Int)(H:List Entry):mapO (qak false H) [.agg [Cell.int a,Cell.int b,Cell.int c,.lst true 1 []]]=some [.agg [Cell.int a,Cell.int b,Cell.int c,qbj []]]:=rfl
theorem c_fct (v:MVer):outL qdm [.agg [Cell.int v.A,Cell.int v.B,Cell.int v.C,qbj v.Pre]]=some [.agg [Cell.int 1,Cell.int v.A,Cell.int v.B,Cell.int v.C,qbj [[48]]]]:=
 qaz (H:=[]) (qhqb 0 rfl) rfl
theorem c_fan (v:MVer):outL qis [.agg [Cell.int v.A,Cell.int v.B,Cell.int v.C,qbj v.Pre]]=some [.agg [Cell.int 1,Cell.int v.A,Cell.int v.B,Cell.int v.C,qbj [[48]]]]:=
 qaz (H:=[]) (qhvb 0 rfl) rfl
theorem nEq (t n:Nat):((t:Int)==(n:Int))=decide (t=n):=by rw[Bool.eq_iff_iff];simp only[beq_iff_eq,decide_eq_true_eq];omega
theorem i_ne (a:Int):(a != 0)=decide (a≠0):=by rw[Bool.eq_iff_iff];simp
theorem qif (v:MVer)(hv:okV v)(t:Nat):cond (v.A != 0)
 (some ([AV.agg [Cell.int (IntKind.i64.wrap (v.A+1)),Cell.int 0,Cell.int 0,.lst true 1 []]],([]:List Entry)))
 (cond ((t:Int)==1)
 (some ([.agg [Cell.int (IntKind.i64.wrap (v.A+1)),Cell.int 0,Cell.int 0,.lst true 1 []]],[]))
 (cond (v.B != 0)
 (some ([.agg [Cell.int 0,Cell.int (IntKind.i64.wrap (v.B+1)),Cell.int 0,.lst true 1 []]],[]))
 (cond ((t:Int)==2)
 (some ([.agg [Cell.int 0,Cell.int (IntKind.i64.wrap (v.B+1)),Cell.int 0,.lst true 1 []]],[]))
 (some ([.agg [Cell.int 0,Cell.int 0,Cell.int (IntKind.i64.wrap (v.C+1)),.lst true 1 []]],[])))))=some ([.agg [Cell.int (qdz v t).A,Cell.int (qdz v t).B,Cell.int (qdz v t).C,.lst true 1 []]],[])∧(qdz v t).Pre=[]:=by
 rw[w1 hv.1,w1 hv.2.1,w1 hv.2.2.1,i_ne,i_ne,show((t:Int)==1)=decide (t=1) from nEq t 1,show((t:Int)==2)=decide (t=2) from nEq t 2]
 unfold qdz
 by_cases h1:v.A≠0
 ·rw[decide_eq_true h1,cond_true,if_pos (.inl h1)]
  exact⟨rfl,rfl⟩
 ·rw[decide_eq_false h1,cond_false]
  by_cases h2:t=1
  ·rw[decide_eq_true h2,cond_true,if_pos (.inr h2)]
   exact⟨rfl,rfl⟩
  ·rw[decide_eq_false h2,cond_false,if_neg (fun h=>h.elim h1 h2)]
   by_cases h3:v.B≠0
   ·rw[decide_eq_true h3,cond_true,if_pos (.inl h3)]
    exact⟨rfl,rfl⟩
   ·rw[decide_eq_false h3,cond_false]
    by_cases h4:t=2
    ·rw[decide_eq_true h4,cond_true,if_pos (.inr h4)]
     exact⟨rfl,rfl⟩
    ·rw[decide_eq_false h4,cond_false,if_neg (fun h=>h.elim h3 h4)]
     exact⟨rfl,rfl⟩
theorem qfy (v:MVer)(hv:okV v)(t:Nat):cond ((t:Int)==1)
 (some ([AV.agg [Cell.int (IntKind.i64.wrap (v.A+1)),Cell.int 0,Cell.int 0,.lst true 1 []]],([]:List Entry)))
 (some ([.agg [Cell.int v.A,Cell.int (IntKind.i64.wrap (v.B+1)),Cell.int 0,.lst true 1 []]],[]))=some ([.agg [Cell.int (qdv v t).A,Cell.int (qdv v t).B,Cell.int (qdv v t).C,.lst true 1 []]],[])∧(qdv v t).Pre=[]:=by
 rw[w1 hv.1,w1 hv.2.1,show((t:Int)==1)=decide (t=1) from nEq t 1]
 unfold qdv
 by_cases h2:t=1
 ·rw[decide_eq_true h2,cond_true,if_pos h2]
  exact⟨rfl,rfl⟩
 ·rw[decide_eq_false h2,cond_false,if_neg h2]
  exact⟨rfl,rfl⟩
theorem c_fcu (v:MVer)(hv:okV v)(t:Nat)(b:Bool):outL qrs [.agg [Cell.int v.A,Cell.int v.B,Cell.int v.C,qbj v.Pre,Cell.int t,Cell.bool b]]=some [.agg [Cell.int (qdz v t).A,Cell.int (qdz v t).B,Cell.int (qdz v t).C,qbj (qdz v t).Pre]]:=by
 rw[(qif v hv t).2]
 exact qaz (H:=[]) (qgwb 0 (qif v hv t).1) (qfw _ _ _ _)
theorem c_fao (v:MVer)(hv:okV v)(t:Nat):outL qtq [.agg [Cell.int v.A,Cell.int v.B,Cell.int v.C,qbj v.Pre],.one (Cell.int t)]=some [.agg [Cell.int (qdz v t).A,Cell.int (qdz v t).B,Cell.int (qdz v t).C,qbj (qdz v t).Pre]]:=by
 rw[(qif v hv t).2]
 exact qaz (H:=[]) (qihb 0 (qif v hv t).1) (qfw _ _ _ _)
theorem c_fcz (v:MVer)(hv:okV v)(t:Nat)(b:Bool):outL qdq [.agg [Cell.int v.A,Cell.int v.B,Cell.int v.C,qbj v.Pre,Cell.int t,Cell.bool b]]=some [.agg [Cell.int (qdv v t).A,Cell.int (qdv v t).B,Cell.int (qdv v t).C,qbj (qdv v t).Pre]]:=by
 rw[(qfy v hv t).2]
 exact qaz (H:=[]) (qmpb 0 (qfy v hv t).1) (qfw _ _ _ _)
theorem c_fdc (v:MVer)(hv:okV v)(t:Nat)(b:Bool):outL qtr [.agg [Cell.int v.A,Cell.int v.B,Cell.int v.C,qbj v.Pre,Cell.int t,Cell.bool b]]=some [.agg [Cell.int (qdv v t).A,Cell.int (qdv v t).B,Cell.int (qdv v t).C,qbj (qdv v t).Pre]]:=by
 rw[(qfy v hv t).2]
 exact qaz (H:=[]) (qkfb 0 (qfy v hv t).1) (qfw _ _ _ _)
theorem c_fbb (v:MVer)(hv:okV v)(t:Nat)(ht:t≤2)(h1:1≤t)(c:Cell)(hc:Canon c):outL qid [.agg [Cell.int v.A,Cell.int v.B,Cell.int v.C,c],.one (Cell.int t)]=some [.agg [Cell.int (qdv v t).A,Cell.int (qdv v t).B,Cell.int (qdv v t).C,qbj (qdv v t).Pre]]:=by
 rw[(qfy v hv t).2]
 refine qaz (H:=[]) (qva 0 ?_) (qfw _ _ _ _)
 have:=(qfy v hv t).1
 simp only[fbb]
 rw[← this]
 rcases (by omega:t=1∨t=2) with rfl | rfl<;>rfl
theorem qqm (v:MVer)(hv:okV v):outL qid [.agg [Cell.int v.A,Cell.int v.B,Cell.int v.C,qbj v.Pre],.one (Cell.int 3)]=some [.agg [Cell.int v.A,Cell.int v.B,Cell.int (v.C+1),qbj []]]:=by
 refine qaz (H:=[]) (qva 0 ?_) (qfw _ _ _ _)
 simp only[fbb,w1 hv.2.2.1]
 rfl
theorem strEq (g h:Str):(g==h)=decide (g=h):=by rw[Bool.eq_iff_iff];simp
theorem c_fcy (g:Str)(v:MVer)(hv:okV v)(t:Nat)(b:Bool):outL qvr [.one (Cell.str (bs g)),.agg [Cell.int v.A,Cell.int v.B,Cell.int v.C,qbj v.Pre,Cell.int t,Cell.bool b]]=some [.one (encL 5 eCmp (qck g v t))]:=by
 suffices h:∃ xs,fcy (0+1) (0+1) (bs g) v.A v.B v.C (qbj v.Pre) t b=some (xs,[])∧mapO (qak false []) xs=some [.one (encL 5 eCmp (qck g v t))] by
  obtain⟨xs,h1,h2⟩:=h
  exact qaz (qhwb 0 h1) h2
 have h3:((t:Int)==3)=decide (t=3):=nEq t 3
 simp only[fcy,c_fcv v t b,c_fcu v hv t b,c_fdc v hv t b,c_fcz v hv t b,c_fct (qdz v t),c_fct (qdv v t),h3,strEq,EV0]
 unfold qck
 by_cases e1:g=[94]
 ·rw[decide_eq_true e1,cond_true,if_pos e1]
  exact⟨_,rfl,qok [⟨4,v⟩,qgx (qdz v t)] true []⟩
 ·rw[decide_eq_false e1,cond_false,if_neg e1]
  by_cases e2:g=[126]
  ·rw[decide_eq_true e2,cond_true,if_pos e2]
   exact⟨_,rfl,qok [⟨4,v⟩,qgx (qdv v t)] true []⟩
  ·rw[decide_eq_false e2,cond_false,if_neg e2]
   by_cases e3:g=[62,61]
   ·rw[decide_eq_true e3,cond_true,if_pos e3]
    exact⟨_,rfl,qok [⟨4,v⟩] true []⟩
   ·rw[decide_eq_false e3,cond_false,if_neg e3]
    by_cases e4:g=[60]
    ·rw[decide_eq_true e4,cond_true]
     subst e4
     exact⟨_,rfl,qok [⟨1,v⟩] true []⟩
    ·rw[decide_eq_false e4,cond_false]
     by_cases e5:g=[62]
     ·rw[decide_eq_true e5,cond_true,if_pos e5]
      by_cases ht:t=3
      ·rw[decide_eq_true ht,cond_true,if_pos ht]
       exact⟨_,rfl,qok [⟨3,v⟩] true []⟩
      ·rw[decide_eq_false ht,cond_false,if_neg ht]
       exact⟨_,rfl,qok [⟨4,qdv v t⟩] true []⟩
     ·rw[decide_eq_false e5,cond_false,if_neg e5]
      by_cases e6:g=[60,61]
      ·rw[decide_eq_true e6,cond_true,if_pos e6]
       by_cases ht:t=3
       ·rw[decide_eq_true ht,cond_true,if_pos ht]
        exact⟨_,rfl,qok [⟨2,v⟩] true []⟩
       ·rw[decide_eq_false ht,cond_false,if_neg ht]
        exact⟨_,rfl,qok [qgx (qdv v t)] true []⟩
      ·rw[decide_eq_false e6,cond_false,if_neg e6,if_neg e4]
       by_cases ht:t=3
       ·rw[decide_eq_true ht,cond_true,if_pos ht]
        exact⟨_,rfl,qok [⟨0,v⟩] true []⟩
       ·rw[decide_eq_false ht,cond_false,if_neg ht]
        exact⟨_,rfl,qok [⟨4,v⟩,qgx (qdv v t)] true []⟩
theorem c_fbe (g:Str)(v:MVer)(hv:okV v)(t:Nat)(h1:1≤t)(h3:t≤3):outL qsk [.one (Cell.str (bs g)),.agg [Cell.int v.A,Cell.int v.B,Cell.int v.C,qbj v.Pre],.one (Cell.int t)]=some [.one (encL 5 eCmp (qck g v t))]:=by
 suffices h:∃ xs,fbe (0+1) (0+1) (bs g) v.A v.B v.C (qbj v.Pre) t=some (xs,[])∧mapO (qak false []) xs=some [.one (encL 5 eCmp (qck g v t))] by
  obtain⟨xs,h1,h2⟩:=h
  exact qaz (qkhb 0 h1) h2
 have hz:okV ⟨v.A,v.B,0,[]⟩:=⟨hv.1,hv.2.1,by simp,by simp,by simp⟩
 have hq:callL qid [.agg [Cell.int v.A,Cell.int v.B,Cell.int 0,.lst true 1 []],.one (Cell.int (if 2 < (t:Int) then 2 else (t:Int)))] []=some ([.agg [Cell.int (qdv v t).A,Cell.int (qdv v t).B,Cell.int (qdv v t).C,qbj (qdv v t).Pre]],[]):=by
  have e:qdv ⟨v.A,v.B,0,[]⟩ (if 2 < t then 2 else t)=qdv v t:=by
   by_cases h:2 < t
   ·rw[if_pos h]
    unfold qdv
    rw[if_neg (by omega),if_neg (by omega)]
   ·rw[if_neg h]
    rfl
  have h:=c_fbb ⟨v.A,v.B,0,[]⟩ hz (if 2 < t then 2 else t) (by split<;>omega) (by split<;>omega) (qbj []) inferInstance
  rw[e] at h
  have ei:((if 2 < t then 2 else t:Nat):Int)=if 2 < (t:Int) then 2 else (t:Int):=by split<;>split<;>omega
  rw[ei] at h
  rw[qpi]
  have e2:mapO (qak true ([AV.agg [Cell.int v.A,Cell.int v.B,Cell.int 0,.lst true 1 []],.one (Cell.int (if 2 < (t:Int) then 2 else (t:Int)))].foldl qdk [])) [.agg [Cell.int v.A,Cell.int v.B,Cell.int 0,.lst true 1 []],.one (Cell.int (if 2 < (t:Int) then 2 else (t:Int)))]=some [.agg [Cell.int v.A,Cell.int v.B,Cell.int 0,qbj []],.one (Cell.int (if 2 < (t:Int) then 2 else (t:Int)))]:=rfl
  rw[e2,Option.bind_some,h]
  rfl
 have hd:decide ((t:Int) < 3)=decide (¬ t=3):=by rw[decide_eq_decide];omega
 obtain⟨N,hn,hN⟩:∃ N:MVer,outL qid [.agg [Cell.int v.A,Cell.int v.B,Cell.int v.C,qbj v.Pre],.one (Cell.int t)]=some [.agg [Cell.int N.A,Cell.int N.B,Cell.int N.C,qbj N.Pre]]∧(¬ t=3→N=qdv v t):=by
  by_cases ht:t=3
  ·subst ht
   exact⟨⟨v.A,v.B,v.C+1,[]⟩,qqm v hv,fun h=>absurd rfl h⟩
  ·exact⟨qdv v t,c_fbb v hv t (by omega) h1 _ inferInstance,fun _=>rfl⟩
 simp only[fbe,hn,c_fan N,c_fan (qdz v t),c_fan (qdv v t),c_fao v hv t,hq,hd,strEq,EV0]
 unfold qck
 by_cases e3:g=[62,61]
 ·rw[decide_eq_true e3,cond_true]
  subst e3
  exact⟨_,rfl,qok [⟨4,v⟩] true []⟩
 ·rw[decide_eq_false e3,cond_false]
  by_cases e4:g=[60]
  ·rw[decide_eq_true e4,cond_true]
   subst e4
   exact⟨_,rfl,qok [⟨1,v⟩] true []⟩
  ·rw[decide_eq_false e4,cond_false]
   by_cases e5:g=[62]
   ·rw[decide_eq_true e5,cond_true,if_neg (by rw[e5];decide),if_neg (by rw[e5];decide),if_neg e3,if_pos e5]
    by_cases ht:t=3
    ·rw[decide_eq_false (fun h=>h ht),cond_false,if_pos ht]
     exact⟨_,rfl,qok [⟨3,v⟩] true []⟩
    ·rw[decide_eq_true ht,cond_true,if_neg ht,hN ht]
     exact⟨_,rfl,qok [⟨4,qdv v t⟩] true []⟩
   ·rw[decide_eq_false e5,cond_false]
    by_cases e6:g=[60,61]
    ·rw[decide_eq_true e6,cond_true,if_neg (by rw[e6];decide),if_neg (by rw[e6];decide),if_neg e3,if_neg e5,if_pos e6]
     by_cases ht:t=3
     ·rw[decide_eq_false (fun h=>h ht),cond_false,if_pos ht]
      exact⟨_,rfl,qok [⟨2,v⟩] true []⟩
     ·rw[decide_eq_true ht,cond_true,if_neg ht,hN ht]
      exact⟨_,rfl,qok [qgx (qdv v t)] true []⟩
    ·rw[decide_eq_false e6,cond_false]
     by_cases e2:g=[126]
     ·rw[decide_eq_true e2,cond_true,if_neg (by rw[e2];decide),if_pos e2]
      exact⟨_,rfl,qok [⟨4,v⟩,qgx (qdv v t)] true []⟩
     ·rw[decide_eq_false e2,cond_false]
      by_cases e1:g=[94]
      ·rw[decide_eq_true e1,cond_true,if_pos e1]
       exact⟨_,rfl,qok [⟨4,v⟩,qgx (qdz v t)] true []⟩
      ·rw[decide_eq_false e1,cond_false,if_neg e1,if_neg e2,if_neg e3,if_neg e5,if_neg e6,if_neg e4]
       by_cases ht:t=3
       ·rw[decide_eq_false (fun h=>h ht),cond_false,if_pos ht]
        exact⟨_,rfl,qok [⟨0,v⟩] true []⟩
       ·rw[decide_eq_true ht,cond_true,if_neg ht,hN ht]
        exact⟨_,rfl,qok [⟨4,v⟩,qgx (qdv v t)] true []⟩
theorem qktb (cs:List Cell)[h:CanonA (.agg cs)](H:List Entry):mapO (qak false H) [.agg cs]=some [.agg cs]:=qax [.agg cs] _ _
def qwn:List Str→Nat→List Int→Option (List Int×Nat)
 | [],told,ns=>if 1≤told∧told≤2 then some (ns,told) else none
 | x::r,told,ns=>if x=xS then (if r.all (·==xS) then (if 1≤told∧told≤2 then some (ns,told) else none) else none)
  else match qaj x 9999 with
   | none=>none
   | some a=>qwn r (told+1) (ns.set told a)
theorem qisc (l:List Str)(hl:l.length≤3):(numsOf l=none∧qwn l 0 [0,0,0]=none)∨∃ v t,numsOf l=some (v,t)∧qwn l 0 [0,0,0]=some ([v.A,v.B,v.C],t)∧v.Pre=[]:=by
 have hx:=xS_num
 match l,hl with
 | [],_=>exact .inl ⟨rfl,rfl⟩
 | [x],_=>
  simp only[numsOf,qwn,oneV]
  by_cases e:x=xS
  ·subst e
   simp[hx]
  ·rw[if_neg e]
   cases h:qaj x 9999 with
   | none=>exact .inl ⟨rfl,rfl⟩
   | some a=>exact .inr ⟨⟨a,0,0,[]⟩,1,rfl,rfl,rfl⟩
 | [x,y],_=>
  simp only[numsOf,qwn,oneV,twoV]
  by_cases e:x=xS
  ·subst e
   by_cases e2:y=xS
   ·subst e2
    simp[hx]
   ·simp[hx,e2]
  ·rw[if_neg e]
   cases h:qaj x 9999 with
   | none=>by_cases e2:y=xS<;>simp[e2]
   | some a=>
    by_cases e2:y=xS
    ·simp only[e2,if_true,List.all_nil]
     exact .inr ⟨⟨a,0,0,[]⟩,1,rfl,rfl,rfl⟩
    ·simp only[if_neg e2]
     cases h2:qaj y 9999 with
     | none=>exact .inl ⟨rfl,rfl⟩
     | some b=>exact .inr ⟨⟨a,b,0,[]⟩,2,rfl,rfl,rfl⟩
 | [x,y,z],_=>
  simp only[numsOf,qwn,oneV,twoV]
  by_cases e:x=xS
  ·subst e
   by_cases e2:y=xS
   ·subst e2
    by_cases e3:z=xS<;>simp[hx,e3]
   ·by_cases e3:z=xS<;>simp[hx,e2,e3]
  ·rw[if_neg e]
   cases h:qaj x 9999 with
   | none=>by_cases e2:y=xS<;>by_cases e3:z=xS<;>simp[e2,e3]
   | some a=>
    by_cases e2:y=xS
    ·by_cases e3:z=xS
     ·simp only[e2,e3,if_true,List.all_cons,List.all_nil,beq_self_eq_true,Bool.and_true]
      exact .inr ⟨⟨a,0,0,[]⟩,1,rfl,rfl,rfl⟩
     ·have:(z==xS)=false:=by simpa using e3
      simp[e2,e3,this]
    ·simp only[if_neg e2]
     cases h2:qaj y 9999 with
     | none=>by_cases e3:z=xS<;>simp[e3]
     | some b=>
      by_cases e3:z=xS
      ·simp only[e3,if_true,List.all_nil]
       exact .inr ⟨⟨a,b,0,[]⟩,2,rfl,rfl,rfl⟩
      ·simp only[if_neg e3]
       cases h3:qaj z 9999<;>simp
 | _::_::_::_::_,h=>simp at h
def qylb:Option (List Int×Nat)→Option (MVer×Nat) | some ([a,b,c],t)=>some (⟨a,b,c,[]⟩,t) | _=>none
theorem c_fda (s:Str)(hs:s.length≤1048576):∃ (w:MVer) (t:Nat),outL qvo [.one (Cell.str (bs s))]=some [.agg [Cell.int w.A,Cell.int w.B,Cell.int w.C,qbj w.Pre,Cell.int t,Cell.bool (partOf s).isSome]]∧∀ p,partOf s=some p→p=(w,t):=by
 have hM:=qah
 have hsplit:outL qda [.one (Cell.str (bs s)),.one (.sc (.int .u8 46))]=some [.one (qbj (split 46 s))]:=c_fce s 46 (by omega)
 have hz:∀ G:List Entry,mapO (qak false G) [.agg [Cell.int 0,Cell.int 0,Cell.int 0,.lst true 1 [],Cell.int 0,Cell.bool false]]=some [.agg [Cell.int 0,Cell.int 0,Cell.int 0,qbj [],Cell.int ((0:Nat):Int),Cell.bool false]]:=fun G=>rfl
 cases hk:(qac s).2 with
 | true=>
  have hp:partOf s=some ((qac s).1,3):=by unfold partOf;rw[if_pos hk]
  refine⟨(qac s).1,3,?_,fun p h=>by rw[hp] at h;exact(Option.some.inj h).symm⟩
  refine qaz (H:=[]) (qkn 0 ?_) (qktb [Cell.int (qac s).1.A,Cell.int (qac s).1.B,Cell.int (qac s).1.C,qbj (qac s).1.Pre,Cell.int ((3:Nat):Int),Cell.bool (partOf s).isSome] [])
  simp only[fda,qmdc s hs,hk,hp,EV0]
  rfl
 | false=>
  have hp:partOf s=numsOf (split 46 s):=by unfold partOf;rw[if_neg (by rw[hk];simp)]
  have hlen:∀ x∈split 46 s,x.length≤1073741824:=fun x hx=>by
   have:=(qbl 46 s []).2 x hx
   simp only[List.length_nil,Nat.zero_add] at this
   omega
  by_cases h3:(split 46 s).length≤3
  ·
   have l1:∀ (r:List Str) (i n:Nat) (t:Nat) (a b c:Int),(split 46 s).drop i=r→r.length < n→∀ k m,
     qvl k m n (qbj (split 46 s)) (.vs 0 1 0 3 0) i t [Entry.mk 1 [[Cell.int a],[Cell.int b],[Cell.int c]] 0 false]=
      some ([cond (r.all (·==xS)) (.agg [Cell.int a,Cell.int b,Cell.int c,.lst true 1 [],Cell.int t,Cell.bool (inR t 1 2)]) (.agg [Cell.int 0,Cell.int 0,Cell.int 0,.lst true 1 [],Cell.int 0,Cell.bool false])],[Entry.mk 1 [[Cell.int a],[Cell.int b],[Cell.int c]] 0 false]):=by
    intro r
    induction r with
    | nil=>
     intro i n t a b c hd hn k m
     obtain⟨n,rfl⟩:∃ q,n=q+1:=⟨n - 1,by omega⟩
     have:=drop_nil hd
     have g0:idxA 1 (.vs 0 1 0 3 0) 0=some (.ptr 0 1 0 0 0):=rfl
     have g1:idxA 1 (.vs 0 1 0 3 0) 1=some (.ptr 0 1 1 0 0):=rfl
     have g2:idxA 1 (.vs 0 1 0 3 0) 2=some (.ptr 0 1 2 0 0):=rfl
     have d0:deref [Entry.mk 1 [[Cell.int a],[Cell.int b],[Cell.int c]] 0 false] (.ptr 0 1 0 0 0)=some ([Cell.int a],0):=rfl
     have d1:deref [Entry.mk 1 [[Cell.int a],[Cell.int b],[Cell.int c]] 0 false] (.ptr 0 1 1 0 0)=some ([Cell.int b],0):=rfl
     have d2:deref [Entry.mk 1 [[Cell.int a],[Cell.int b],[Cell.int c]] 0 false] (.ptr 0 1 2 0 0)=some ([Cell.int c],0):=rfl
     simp only[qvl,EV0]
     rw[decide_eq_false (by omega),cond_false]
     simp only[g0,g1,g2,d0,d1,d2,qgpb,EV0]
     rfl
    | cons x r ih=>
     intro i n t a b c hd hn k m
     obtain⟨n,rfl⟩:∃ q,n=q+1:=⟨n - 1,by omega⟩
     obtain⟨hlt,hg,hd'⟩:=qas hd
     simp only[List.length_cons] at hn
     simp only[qvl,qar,hg,eStr,EV0]
     rw[decide_eq_true (by omega),cond_true,qag (by omega),ih (i+1) n t a b c hd' (by omega)]
     simp only[List.all_cons]
     rw[show(x==[120])=(x==xS) from rfl]
     cases x==xS<;>rfl
   have l0:∀ (r:List Str) (i n:Nat) (ns:List Int),(split 46 s).drop i=r→i+r.length=(split 46 s).length→r.length < n→ns.length=3→∀ k m,(split 46 s).length < m→
     ∃ xs H',qwa k m n (qbj (split 46 s)) (.vs 0 1 0 3 0) i [Entry.mk 1 (ns.map eInt) 0 false]=some (xs,H')∧
      ∃ (w:MVer) (t:Nat),mapO (qak false H') xs=some [.agg [Cell.int w.A,Cell.int w.B,Cell.int w.C,qbj w.Pre,Cell.int t,Cell.bool (qwn r i ns).isSome]]∧∀ p,qylb (qwn r i ns)=some p→p=(w,t):=by
    intro r
    induction r with
    | nil=>
     intro i n ns hd hi hn h3 k m hm
     obtain⟨n,rfl⟩:∃ q,n=q+1:=⟨n - 1,by omega⟩
     simp only[List.length_nil,Nat.add_zero] at hi
     obtain⟨a,b,c,rfl⟩:∃ a b c,ns=[a,b,c]:=by
      match ns,h3 with
      | [a,b,c],_=>exact⟨a,b,c,rfl⟩
     simp only[qwa,EV0]
     rw[decide_eq_false (by omega),cond_false]
     have z:=l1 [] i m i a b c hd (by simp;omega) k m
     simp only[List.map_cons,List.map_nil,eInt]
     rw[z]
     refine⟨_,_,rfl,⟨a,b,c,[]⟩,i,?_,?_⟩
     ·simp only[List.all_nil,cond_true]
      have e:inR i 1 2=(qwn [] i [a,b,c]).isSome:=by
       unfold qwn inR
       by_cases h:1≤i∧i≤2
       ·rw[if_pos h,decide_eq_true (by omega),decide_eq_true (by omega)]
        rfl
       ·rw[if_neg h]
        by_cases h1:1≤i
        ·rw[decide_eq_true (by omega),decide_eq_false (by omega)]
         rfl
        ·rw[decide_eq_false (by omega)]
         rfl
      rw[e]
      rfl
     ·intro p hp
      unfold qwn at hp
      split at hp
      ·simpa[qylb] using hp.symm
      ·simp[qylb] at hp
    | cons x r ih=>
     intro i n ns hd hi hn h3 k m hm
     obtain⟨n,rfl⟩:∃ q,n=q+1:=⟨n - 1,by omega⟩
     obtain⟨hlt,hg,hd'⟩:=qas hd
     simp only[List.length_cons] at hn hi
     have hx:=hlen x (List.mem_of_getElem? hg)
     obtain⟨a,b,c,rfl⟩:∃ a b c,ns=[a,b,c]:=by
      match ns,h3 with
      | [a,b,c],_=>exact⟨a,b,c,rfl⟩
     simp only[qwa,qar,hg,eStr,EV0]
     rw[decide_eq_true (by omega),cond_true,show(x==[120])=(x==xS) from rfl]
     by_cases e:x=xS
     ·rw[show(x==xS)=true by simpa using e,Bool.not_true,cond_false]
      have z:=l1 (x::r) i m i a b c hd (by simp;omega) k m
      simp only[List.map_cons,List.map_nil,eInt]
      rw[z]
      have ea:(x::r).all (·==xS)=r.all (·==xS):=by simp[e]
      rw[ea]
      unfold qwn
      rw[if_pos e]
      cases hr:r.all (·==xS) with
      | false=>exact⟨_,_,rfl,⟨0,0,0,[]⟩,0,hz _,fun p hp=>by simp[qylb] at hp⟩
      | true=>
       refine⟨_,_,rfl,⟨a,b,c,[]⟩,i,?_,?_⟩
       ·simp only[cond_true,if_true]
        have e:inR i 1 2=(if 1≤i∧i≤2 then some ([a,b,c],i) else none:Option (List Int×Nat)).isSome:=by
         unfold inR
         by_cases h:1≤i∧i≤2
         ·rw[if_pos h,decide_eq_true (by omega),decide_eq_true (by omega)]
          rfl
         ·rw[if_neg h]
          by_cases h1:1≤i
          ·rw[decide_eq_true (by omega),decide_eq_false (by omega)]
           rfl
          ·rw[decide_eq_false (by omega)]
           rfl
        rw[e]
        rfl
       ·intro p hp
        simp only[if_true] at hp
        split at hp
        ·simpa[qylb] using hp.symm
        ·simp[qylb] at hp
     ·rw[show(x==xS)=false by simpa using e,Bool.not_false,cond_true]
      have hnum:out qcg [.one (Cell.str (bs x)),.one (Cell.int 9999)]=some (numV (qaj x 9999)):=c_fca x 9999 hx (by omega)
      simp only[hnum,EV0]
      unfold qwn
      rw[if_neg e]
      cases hq:qaj x 9999 with
      | none=>
       simp only[numV,EV0,Bool.not_false]
       exact⟨_,_,rfl,⟨0,0,0,[]⟩,0,hz _,fun p hp=>by simp[qylb] at hp⟩
      | some q=>
       simp only[numV,EV0,Bool.not_true]
       have hst:∀ j:Nat,j < 3→(idxA 1 (.vs 0 1 0 3 0) (j:Int)).bind (fun c25=>qbt [Entry.mk 1 ([a,b,c].map eInt) 0 false] c25 [Cell.int q])=some [Entry.mk 1 (([a,b,c].set j (q:Int)).map eInt) 0 false]:=by
        intro j hj
        rcases (by omega:j=0∨j=1∨j=2) with rfl | rfl | rfl<;>rfl
       have h4:=hst i (by omega)
       obtain⟨c25,i1,i2⟩:=Option.bind_eq_some_iff.1 h4
       simp only[i1,i2,Option.bind_some]
       rw[qag (by omega)]
       exact ih (i+1) n ([a,b,c].set i (q:Int)) hd' (by omega) (by omega) (by simp) k m hm
   obtain⟨xs,H',z1,w,t,z2,z3⟩:=l0 (split 46 s) 0 ((split 46 s).length+1+1) [0,0,0] rfl (by omega) (by omega) rfl ((split 46 s).length+1+1) ((split 46 s).length+1+1) (by omega)
   have hiso:(partOf s).isSome=(qwn (split 46 s) 0 [0,0,0]).isSome∧partOf s=qylb (qwn (split 46 s) 0 [0,0,0]):=by
    rw[hp]
    rcases qisc (split 46 s) h3 with⟨h4,h5⟩ | ⟨v,t,h4,h5,h6⟩
    ·rw[h4,h5]
     exact⟨rfl,rfl⟩
    ·rw[h4,h5]
     refine⟨rfl,?_⟩
     obtain⟨A,B,C,pre⟩:=v
     simp only at h6
     subst h6
     rfl
   refine⟨w,t,?_,fun p h=>z3 p (by rw[← hiso.2];exact h)⟩
   rw[hiso.1]
   refine qaz (H:=H') (qkn ((split 46 s).length+1) ?_) z2
   simp only[fda,qmdc s hs,hk,hsplit,EV0]
   rw[decide_eq_false (by omega),cond_false]
   exact z1
  ·have hno:numsOf (split 46 s)=none:=by
    match h:split 46 s with
    | []=>rfl
    | [x]=>rw[h] at h3;simp at h3
    | [x,y]=>rw[h] at h3;simp at h3
    | [x,y,z]=>rw[h] at h3;simp at h3
    | _::_::_::_::_=>rfl
   rw[hp,hno]
   refine⟨⟨0,0,0,[]⟩,0,qaz (H:=[Entry.mk 1 [[Cell.int 0],[Cell.int 0],[Cell.int 0]] 0 false]) (qkn 0 ?_) (hz _),fun p h=>by simp at h⟩
   simp only[fda,qmdc s hs,hk,hsplit,EV0]
   rw[decide_eq_true (by omega),cond_true]
   rfl
theorem qulc {i:Nat}{g:Str}(h:signs[i]?=some g):cS [Cell.str (bs [94]),Cell.str (bs [126]),Cell.str (bs [62,61]),Cell.str (bs [62]),Cell.str (bs [60,61]),Cell.str (bs [60]),Cell.str (bs [61]),Cell.str (bs [])] i=some (bs g):=by
 have hlt:i < 8:=(List.getElem?_eq_some_iff.1 h).1
 rcases (by omega:i=0∨i=1∨i=2∨i=3∨i=4∨i=5∨i=6∨i=7) with rfl | rfl | rfl | rfl | rfl | rfl | rfl | rfl<;>
  (simp only[signs,List.getElem?_cons_succ,List.getElem?_cons_zero,Option.some.injEq] at h;subst h;rfl)
theorem qpeb {g w:Str}(h:g.isPrefixOf w=true):qucc g w=w.drop g.length:=by
 unfold qucc
 rw[h]
 rfl
theorem c_fde (w:Str)(hw:w.length≤1048576):outL qre [.one (Cell.str (bs w))]=some [.one (encL 5 eCmp ((qip w).getD [])),.one (Cell.bool (qip w).isSome)]:=by
 have hM:=qah
 have hlist:(.lst true 1 [[Cell.str (bs [94])],[Cell.str (bs [126])],[Cell.str (bs [62,61])],[Cell.str (bs [62])],[Cell.str (bs [60,61])],[Cell.str (bs [60])],[Cell.str (bs [61])],[Cell.str (bs [])]]:Cell)=.lst true 1 (signs.map eStr):=rfl
 have hz:mapO (qak false []) [.one (.lst true 5 []),.one (Cell.bool false)]=some [.one (encL 5 eCmp []),.one (Cell.bool false)]:=rfl
 have loop:∀ (r:List Str) (i n:Nat),signs.drop i=r→r.length < n→∀ k m,∃ xs,qqk k m n (bs w) i=some (xs,[])∧mapO (qak false []) xs=some [.one (encL 5 eCmp ((qds w r).getD [])),.one (Cell.bool (qds w r).isSome)]:=by
  intro r
  induction r with
  | nil=>
   intro i n hd hn k m
   obtain⟨n,rfl⟩:∃ j,n=j+1:=⟨n - 1,by omega⟩
   have:=drop_nil hd
   simp only[signs,List.length_cons,List.length_nil] at this
   simp only[qqk]
   rw[decide_eq_false (by omega),cond_false]
   exact⟨_,rfl,hz⟩
  | cons g r ih=>
   intro i n hd hn k m
   obtain⟨n,rfl⟩:∃ j,n=j+1:=⟨n - 1,by omega⟩
   obtain⟨hlt,hg,hd'⟩:=qas hd
   simp only[signs,List.length_cons,List.length_nil] at hlt
   simp only[List.length_cons] at hn
   have hi:idxA 1 (.lst true 1 (signs.map eStr)) (i:Int)=some (.ref (eStr g) 0):=by rw[qfp,List.getElem?_map,hg];rfl
   have hpre:(decide (w.length≥g.length)=true∧(w.take g.length==g)=true)↔g.isPrefixOf w=true:=by
    rw[List.isPrefixOf_iff_prefix,List.prefix_iff_eq_take,decide_eq_true_eq,beq_iff_eq]
    constructor
    ·intro h;exact h.2.symm
    ·intro h
     refine⟨?_,h.symm⟩
     have:=congrArg List.length h
     rw[List.length_take] at this
     omega
   simp only[qqk,hlist,hi,eStr,EV0]
   rw[decide_eq_true (by omega),cond_true]
   obtain⟨xs,z1,z2⟩:=ih (i+1) n hd' (by omega) k m
   by_cases hp:g.isPrefixOf w=true
   ·obtain⟨h1,h2⟩:=hpre.2 hp
    have hge:w.length≥g.length:=by simpa using h1
    have s1:=qci w 0 g.length (Nat.zero_le _) hge
    have s2:=qci w g.length w.length hge (Nat.le_refl _)
    rw[List.drop_zero] at s1
    rw[List.take_length] at s2
    rw[show decide ((w.length:Int)≥(g.length:Int))=true by rw[decide_eq_true_eq];omega,cond_true,show((0:Int))=((0:Nat):Int) from rfl,s1]
    simp only[EV0]
    rw[h2,cond_true,s2]
    obtain⟨v,t,q1,q2⟩:=c_fda (w.drop g.length) (by simp;omega)
    simp only[q1,EV0,qzm,qbwb]
    have hgo:qds w (g::r)=match partOf (w.drop g.length) with | some p=>some (qck g p.1 p.2) | none=>none:=by
     rw[qds,if_pos hp]
    cases hpo:partOf (w.drop g.length) with
    | none=>
     rw[hpo] at hgo
     rw[hgo]
     simp only[Option.isSome_none,Bool.not_false,cond_true]
     exact⟨_,rfl,hz⟩
    | some p=>
     have e:=q2 p hpo
     subst e
     rw[hpo] at hgo
     rw[hgo]
     have hok:=(qpn hpo).1
     simp only[Option.isSome_some,Bool.not_true,cond_false,c_fcy g v hok t true,EV0]
     exact⟨_,rfl,qax [.one (encL 5 eCmp (qck g v t)),.one (Cell.bool true)] _ _⟩
   ·have hgo:qds w (g::r)=qds w r:=by rw[qds,if_neg hp]
    rw[hgo]
    rw[qag (by omega)]
    by_cases hge:w.length≥g.length
    ·have s1:=qci w 0 g.length (Nat.zero_le _) hge
     rw[List.drop_zero] at s1
     rw[show decide ((w.length:Int)≥(g.length:Int))=true by rw[decide_eq_true_eq];omega,cond_true,show((0:Int))=((0:Nat):Int) from rfl,s1]
     simp only[EV0]
     have h2:(w.take g.length==g)=false:=by
      cases h:(w.take g.length==g) with
      | false=>rfl
      | true=>exact absurd (hpre.1 ⟨by simpa using hge,h⟩) hp
     rw[h2,cond_false]
     exact⟨xs,z1,z2⟩
    ·rw[show decide ((w.length:Int)≥(g.length:Int))=false by rw[decide_eq_false_iff_not];omega,cond_false]
     exact⟨xs,z1,z2⟩
 by_cases h42:w=[42]
 ·subst h42
  refine qaz (H:=[]) (que 0 ?_) (show mapO (qak false []) [.one (.lst true 5 [[Cell.int 4,Cell.int 0,Cell.int 0,Cell.int 0,.lst true 1 []]]),.one (Cell.bool true)]=some [.one (encL 5 eCmp [⟨4,zeroV⟩]),.one (Cell.bool true)] from rfl)
  have hrun:∀ q,fde q q (bs [42])=some ([.one (.lst true 5 [[Cell.int 4,Cell.int 0,Cell.int 0,Cell.int 0,.lst true 1 []]]),.one (Cell.bool true)],[]):=by
   intro q
   simp only[fde,qcm,beq_self_eq_true,cond_true]
  exact hrun _
 ·have hc:qip w=qds w signs:=by unfold qip;rw[if_neg h42]
  rw[hc]
  obtain⟨xs,z1,z2⟩:=loop signs 0 10 rfl (by simp[signs]) (9+1) (9+1)
  have hrun:∀ q,fde q q (bs w)=qqk q q q (bs w) 0:=by
   intro q
   simp only[fde,qcm]
   rw[show(w==[42])=false by simpa using h42,cond_false]
  exact qaz (que 9 ((hrun _).trans z1)) z2
theorem c_fcw (l:List RCmp)(hl:l.length≤1073741824)(hc:∀ c∈l,c.v.Bd 1048576):out qup [.one (encL 5 eCmp l)]=some [.one (Cell.bool (l.all (fun c=>qgg c.v)))]:=by
 have hM:=qah
 have loop:∀ (r:List RCmp) (i n:Nat),l.drop i=r→r.length < n→∀ k m,qwb k m n (encL 5 eCmp l) i=some ([.one (Cell.bool (r.all (fun c=>qgg c.v)))],[]):=by
  intro r
  induction r with
  | nil=>
   intro i n hd hn k m
   obtain⟨n,rfl⟩:∃ j,n=j+1:=⟨n - 1,by omega⟩
   have:=drop_nil hd
   simp only[qwb,EV0]
   rw[decide_eq_false (by omega),cond_false]
   rfl
  | cons x r ih=>
   intro i n hd hn k m
   obtain⟨n,rfl⟩:∃ j,n=j+1:=⟨n - 1,by omega⟩
   obtain⟨hlt,hg,hd'⟩:=qas hd
   simp only[List.length_cons] at hn
   have hx:=hc x (List.mem_of_getElem? hg)
   simp only[qwb,qar,hg,eCmp,qbx,Nat.zero_add,c_fcf x.v.A x.v.B x.v.C x.v.Pre hx.2.2.2,EV0]
   rw[decide_eq_true (by omega),cond_true,qag (by omega),ih (i+1) n hd' (by omega)]
   simp only[List.all_cons,qgg]
   cases qet x.v.A x.v.B x.v.C x.v.Pre<;>rfl
 refine qba (H:=[]) (qizb (l.length+1) ?_)
 exact loop l 0 (l.length+1+1) rfl (by omega) (l.length+1+1) (l.length+1+1)
def qbyb (ws:List Str):Option (List RCmp):=match qwqb ws with
 | some (a,c)=>if (qac a).2&&(qac c).2 then some [⟨4,(qac a).1⟩,⟨2,(qac c).1⟩] else none
 | none=>match qcv ws [] with
  | some l=>if l.length≤4 then some l else none
  | none=>none
theorem qzh:∀ (ws:List Str) (acc l:List RCmp),qcv ws acc=some l→(∀ c∈acc,okB c.v)→∀ c∈l,okB c.v
 | [],acc,l,h,ha=>by
  simp only[qcv,Option.some.injEq] at h
  subst h
  exact ha
 | w::r,acc,l,h,ha=>by
  unfold qcv at h
  split at h
  ·rename_i q hq
   refine qzh r _ l h fun c hc=>?_
   rcases List.mem_append.1 hc with hc | hc
   ·exact ha c hc
   ·exact(qwy hq).2 c hc
  ·simp at h
theorem qolc {v:MVer}(h:qgg v=true):okB v:=okV_B (qnh h)
theorem qqwc {ws:List Str}{l:List RCmp}(h:qbyb ws=some l):l.length≤4∧∀ c∈l,okB c.v:=by
 unfold qbyb at h
 split at h
 ·rename_i a c _
  split at h
  ·rename_i hk
   simp only[Bool.and_eq_true] at hk
   simp only[Option.some.injEq] at h
   subst h
   exact⟨by simp,by simp[qolc (qdy hk.1),qolc (qdy hk.2)]⟩
  ·simp at h
 ·split at h
  ·rename_i q hq
   split at h
   ·rename_i hl
    simp only[Option.some.injEq] at h
    subst h
    exact⟨hl,qzh _ _ _ hq (by simp)⟩
   ·simp at h
  ·simp at h
theorem qmeb (ws:List Str):qny ws=match qbyb ws with | some l=>if l.all (fun c=>qgg c.v)=true then some l else none | none=>none:=by
 unfold qny qbyb qwtc
 cases qwqb ws with
 | some p=>
  obtain⟨a,c⟩:=p
  simp only
  by_cases hk:((qac a).2&&(qac c).2)=true
  ·rw[if_pos hk]
   simp only[Bool.and_eq_true] at hk
   simp[qdy hk.1,qdy hk.2]
  ·rw[if_neg hk]
 | none=>
  simp only
  cases qcv ws [] with
  | none=>rfl
  | some l=>
   simp only
   by_cases h:l.length≤4
   ·simp only[h,true_and,if_true]
   ·simp[h]
theorem qrp {ws:List Str}{a c:Str}(h:qwqb ws=some (a,c)):ws=[a,[45],c]:=by
 unfold qwqb at h
 split at h
 ·split at h
  ·rename_i hb
   simp only[Option.some.injEq,Prod.mk.injEq] at h
   rw[hb,h.1,h.2]
  ·simp at h
 ·simp at h
theorem qkib (H:List Entry)(l:List RCmp):qal H 5 (encL 5 eCmp l)=some (l.map eCmp):=by simp[qal,rowsOf,encL]
theorem c_fcx (ws:List Str)(hl:ws.length≤1048577)(hw:∀ x∈ws,x.length≤1048576):∃ l:List RCmp,outL qse [.one (qbj ws)]=some [.one (encL 5 eCmp l),.one (Cell.bool (qbyb ws).isSome)]∧∀ q,qbyb ws=some q→q=l:=by
 have hM:=qah
 have loop:∀ (r:List Str) (i n:Nat) (acc:List RCmp) (c:Cell) (H:List Entry),ws.drop i=r→r.length < n→acc.length≤2*i→Grow 5 c H (acc.map eCmp)→∀ k m,
   ∃ (c':Cell) (H':List Entry) (l:List RCmp) (b:Bool),qrg k m n (qbj ws) c i H=some ([.one c',.one (Cell.bool b)],H')∧Grow 5 c' H' (l.map eCmp)∧
    match qcv r acc with | some q=>q=l∧b=decide (q.length≤4) | none=>b=false:=by
  intro r
  induction r with
  | nil=>
   intro i n acc c H hd hn ha hg k m
   obtain⟨n,rfl⟩:∃ j,n=j+1:=⟨n - 1,by omega⟩
   have:=drop_nil hd
   have hlc:lenC c=some acc.length:=by
    rcases hg with⟨h1,rfl,_⟩ | ⟨ep,rfl,_⟩
    ·simp only[List.map_eq_nil_iff] at h1
     subst h1
     rfl
    ·simp
   refine⟨c,H,acc,decide (acc.length≤4),?_,hg,by rw[qcv];exact⟨rfl,rfl⟩⟩
   simp only[qrg,hlc,EV0]
   rw[decide_eq_false (by omega),cond_false,show decide ((acc.length:Int)≤4)=decide (acc.length≤4) by rw[decide_eq_decide];omega]
  | cons x r ih=>
   intro i n acc c H hd hn ha hg k m
   obtain⟨n,rfl⟩:∃ j,n=j+1:=⟨n - 1,by omega⟩
   obtain⟨hlt,hx,hd'⟩:=qas hd
   simp only[List.length_cons] at hn
   have hxl:=hw x (List.mem_of_getElem? hx)
   simp only[qrg,qar,hx,eStr,c_fde x hxl,EV0]
   rw[decide_eq_true (by omega),cond_true]
   cases hq:qip x with
   | none=>
    refine⟨c,H,acc,false,?_,hg,by rw[qcv,hq]⟩
    simp only[Option.isSome_none,Bool.not_false,cond_true]
   | some q=>
    have hqB:=qwy hq
    obtain⟨p,e1,e2⟩:=hg.app (by':=56) (q.map eCmp) (by unfold bound;simp only[List.length_map];omega) (by unfold bound;simp only[List.length_map];omega)
    obtain⟨c',H',l,b,z1,z2,z3⟩:=ih (i+1) n (acc++q) p.1 p.2 hd' (by omega) (by rw[List.length_append];omega) (by simpa using e2) k m
    refine⟨c',H',l,b,?_,z2,by rw[qcv,hq];exact z3⟩
    simp only[Option.isSome_some,Option.getD_some,Bool.not_true,cond_false,qkib,e1,Option.bind_some]
    rw[qag (by omega)]
    exact z1
 cases hh:qwqb ws with
 | some p=>
  obtain⟨a,c⟩:=p
  have hws:=qrp hh
  subst hws
  have ha:=hw a (by simp)
  have hcl:=hw c (by simp)
  have i0:idxA 1 (encL 1 eStr [a,[45],c]) 0=some (.ref (eStr a) 0):=rfl
  have i1:idxA 1 (encL 1 eStr [a,[45],c]) 1=some (.ref (eStr [45]) 0):=rfl
  have i2:idxA 1 (encL 1 eStr [a,[45],c]) 2=some (.ref (eStr c) 0):=rfl
  have hs:qbyb [a,[45],c]=if (qac a).2&&(qac c).2 then some [⟨4,(qac a).1⟩,⟨2,(qac c).1⟩] else none:=by
   unfold qbyb
   rw[hh]
  have e4:∀ {β:Type} (a1 b1 d1:Int) (x1:List Str) (a2 b2 d2:Int) (x2:List Str) (κ:List Cell→Option β),restK [Cell.int 4,Cell.int a1,Cell.int b1,Cell.int d1,qbj x1,Cell.int 2,Cell.int a2,Cell.int b2,Cell.int d2,qbj x2] κ=κ [Cell.int 4,Cell.int a1,Cell.int b1,Cell.int d1,qbj x1,Cell.int 2,Cell.int a2,Cell.int b2,Cell.int d2,qbj x2]:=fun _ _ _ _ _ _ _ _ κ=>rfl
  refine⟨[⟨4,(qac a).1⟩,⟨2,(qac c).1⟩],?_,fun q hq=>by rw[hs] at hq;split at hq<;>simp_all⟩
  have hb:(qbyb [a,[45],c]).isSome=((qac a).2&&(qac c).2):=by
   rw[hs]
   split<;>simp_all
  rw[hb]
  refine qaz (H:=[]) (qst 0 ?_) (leafRB [⟨4,(qac a).1⟩,⟨2,(qac c).1⟩] true _ [])
  simp only[fcx,i0,i1,i2,eStr,qmdc a ha,qmdc c hcl,e4,EV0]
  rw[show(((0+1+1+1:Nat):Int)==3)=true from rfl]
  simp only[cond_true]
  cases (qac a).2<;>rfl
 | none=>
  obtain⟨c',H',l,b,z1,z2,z3⟩:=loop ws 0 (ws.length+1+1) [] (.lst true 5 []) [] rfl (by omega) (by simp) (Grow.nil 5) (ws.length+1+1) (ws.length+1+1)
  have hb:b=(qbyb ws).isSome∧∀ q,qbyb ws=some q→q=l:=by
   unfold qbyb
   rw[hh]
   simp only
   cases hq:qcv ws [] with
   | none=>
    rw[hq] at z3
    exact⟨z3,by simp⟩
   | some q=>
    rw[hq] at z3
    obtain⟨h1,h2⟩:=z3
    simp only
    by_cases h4:q.length≤4
    ·rw[if_pos h4]
     exact⟨by rw[h2,decide_eq_true h4];rfl,fun q' h=>by simp only[Option.some.injEq] at h;rw[← h];exact h1⟩
    ·rw[if_neg h4]
     exact⟨by rw[h2,decide_eq_false h4];rfl,by simp⟩
  refine⟨l,?_,hb.2⟩
  have hrd:=z2.read (e:=eCmp)
  obtain⟨y,zs,e1,e2,e3⟩:=qdo hrd
  have e4:zs=[]:=by simpa[mapO] using e3.symm
  subst e4
  simp only[List.cons.injEq,and_true] at e1
  subst e1
  rw[← hb.1]
  refine qaz (H:=H') (qst (ws.length+1) ?_) (qcz e2 (qcz (qbf _ _ _) (qbq _)))
  simp only[fcx,EV0]
  by_cases h3:ws.length=3
  ·obtain⟨a,d,e,rfl⟩:∃ a d e,ws=[a,d,e]:=by
    match ws,h3 with
    | [a,d,e],_=>exact⟨a,d,e,rfl⟩
   have hd:(d==[45])=false:=by
    cases h:(d==[45]) with
    | false=>rfl
    | true=>
     have:d=[45]:=by simpa using h
     subst this
     simp[qwqb] at hh
   have i1:idxA 1 (encL 1 eStr [a,d,e]) 1=some (.ref (eStr d) 0):=rfl
   rw[show((([a,d,e]:List Str).length:Int)==3)=true from rfl,cond_true]
   simp only[i1,eStr,EV0]
   rw[hd,cond_false]
   exact z1
  ·rw[show((ws.length:Int)==3)=false by rw[beq_eq_false_iff_ne];omega,cond_false]
   exact z1
theorem qpa:∀ (r:List Str) (acc l:List (List RCmp)),qcy r acc=some l→l.length=acc.length+r.length
 | [],acc,l,h=>by
  simp only[qcy,Option.some.injEq] at h
  subst h
  rfl
 | p::r,acc,l,h=>by
  unfold qcy at h
  split at h
  ·rename_i q hq
   have:=qpa r _ l h
   simp only[List.length_append,List.length_cons,List.length_nil] at this ⊢
   omega
  ·simp at h
theorem c_fcb (s:Str)(hs:s.length≤1048576):outL qvn [.one (Cell.str (bs s))]=some [.one (qji ((qbk s).getD [])),.one (Cell.bool (qbk s).isSome)]:=by
 have hM:=qah
 have hsl:=qdw s.length s [] (Nat.le_refl _)
 have hll:(sides s).length≤s.length+1:=hsl.1
 have hel:∀ x∈sides s,x.length≤1048576:=fun x hx=>by
  have:=hsl.2 x hx
  simp only[List.length_nil,Nat.zero_add] at this
  omega
 have hz:∀ G:List Entry,mapO (qak false G) [.one (.lst true 1 []),.one (Cell.bool false)]=some [.one (qji []),.one (Cell.bool false)]:=fun G=>rfl
 have loop:∀ (r:List Str) (i n:Nat) (acc:List (List RCmp)) (c:Cell) (H:List Entry),(sides s).drop i=r→r.length < n→acc.length=i→Grow 1 c H (acc.map qlhb)→∀ k m,
   ∃ xs H',qye k m n c (qbj (sides s)) i H=some (xs,H')∧
    mapO (qak false H') xs=some (match qcy r acc with | some l=>if l.length≤4 then [.one (qji l),.one (Cell.bool true)] else [.one (qji []),.one (Cell.bool false)] | none=>[.one (qji []),.one (Cell.bool false)]):=by
  intro r
  induction r with
  | nil=>
   intro i n acc c H hd hn ha hg k m
   obtain⟨n,rfl⟩:∃ j,n=j+1:=⟨n - 1,by omega⟩
   have:=drop_nil hd
   have hlc:lenC c=some acc.length:=by
    rcases hg with⟨h1,rfl,_⟩ | ⟨ep,rfl,_⟩
    ·simp only[List.map_eq_nil_iff] at h1
     subst h1
     rfl
    ·simp
   simp only[qye,hlc,EV0]
   rw[decide_eq_false (by omega),cond_false,qcy]
   simp only
   by_cases h4:acc.length≤4
   ·rw[decide_eq_false (by omega),cond_false,if_pos h4]
    have hrd:=hg.read (e:=qlhb)
    obtain⟨y,zs,e1,e2,e3⟩:=qdo hrd
    have e4:zs=[]:=by simpa[mapO] using e3.symm
    subst e4
    simp only[List.cons.injEq,and_true] at e1
    subst e1
    exact⟨_,_,rfl,qcz e2 (qcz (qbf _ _ _) (qbq _))⟩
   ·rw[decide_eq_true (by omega),cond_true,if_neg h4]
    exact⟨_,_,rfl,hz _⟩
  | cons x r ih=>
   intro i n acc c H hd hn ha hg k m
   obtain⟨n,rfl⟩:∃ j,n=j+1:=⟨n - 1,by omega⟩
   obtain⟨hlt,hx,hd'⟩:=qas hd
   simp only[List.length_cons] at hn
   have hxl:=hel x (List.mem_of_getElem? hx)
   have htl:=qywb x
   have hspl:=qbl 32 (trim x) []
   have hwl:(split 32 (trim x)).length≤1048577:=by have:=hspl.1;unfold split;omega
   have hww:∀ y∈split 32 (trim x),y.length≤1048576:=fun y hy=>by
    have:=hspl.2 y hy
    simp only[List.length_nil,Nat.zero_add] at this
    omega
   have hsplit:outL qda [.one (Cell.str (bs (trim x))),.one (.sc (.int .u8 32))]=some [.one (qbj (split 32 (trim x)))]:=c_fce (trim x) 32 (by omega)
   obtain⟨l,q1,q2⟩:=c_fcx (split 32 (trim x)) hwl hww
   have e5:∀ {β:Type} (l:List RCmp) (κ:List Cell→Option β),restK [encL 5 eCmp l] κ=κ [encL 5 eCmp l]:=fun l κ=>rfl
   have hsrc:∀ (G:List Entry) (l:List RCmp),qal G 1 (.lst true 1 (chunks 1 1 [encL 5 eCmp l]))=some [qlhb l]:=fun G l=>by simp[qal,rowsOf,chunks,qlhb]
   simp only[qye,qar,hx,eStr,c_fdd x (by omega),hsplit,q1,EV0]
   rw[decide_eq_true (by omega),cond_true]
   have hlo:qjg x=match qbyb (split 32 (trim x)) with | some l=>if l.all (fun c=>qgg c.v)=true then some l else none | none=>none:=qmeb _
   cases hS:qbyb (split 32 (trim x)) with
   | none=>
    rw[hS] at hlo
    simp only at hlo
    rw[qcy,hlo]
    simp only[Option.isSome_none,Bool.not_false,cond_true]
    exact⟨_,_,rfl,hz _⟩
   | some l'=>
    have:=q2 l' hS
    subst this
    have hB:=qqwc hS
    rw[hS] at hlo
    simp only at hlo
    simp only[Option.isSome_some,Bool.not_true,cond_false,c_fcw l' (by omega) (fun c hc=>qroc (hB.2 c hc)),EV0]
    rw[qcy,hlo]
    by_cases hall:l'.all (fun c=>qgg c.v)=true
    ·rw[if_pos hall,hall]
     obtain⟨p,a1,g1⟩:=hg.app (by':=24) [qlhb l'] (by unfold bound;simp;omega) (by unfold bound;simp;omega)
     obtain⟨xs,H',z1,z2⟩:=ih (i+1) n (acc++[l']) p.1 p.2 hd' (by omega) (by simp;omega) (by simpa using g1) k m
     refine⟨xs,H',?_,z2⟩
     simp only[Bool.not_true,cond_false,e5,hsrc,a1,Option.bind_some]
     rw[qag (by omega)]
     exact z1
    ·have:l'.all (fun c=>qgg c.v)=false:=by simpa using hall
     rw[if_neg hall,this]
     exact⟨_,_,rfl,hz _⟩
 obtain⟨xs,H',z1,z2⟩:=loop (sides s) 0 ((sides s).length+1+1) [] (.lst true 1 []) [] rfl (by omega) rfl (Grow.nil 1) ((sides s).length+1+1) ((sides s).length+1+1)
 have hres:(match qcy (sides s) [] with | some l=>if l.length≤4 then [AV.one (qji l),.one (Cell.bool true)] else [.one (qji []),.one (Cell.bool false)] | none=>[.one (qji []),.one (Cell.bool false)])=[.one (qji ((qbk s).getD [])),.one (Cell.bool (qbk s).isSome)]:=by
  unfold qbk
  cases hq:qcy (sides s) [] with
  | none=>by_cases h4:(sides s).length≤4<;>simp[h4]
  | some l=>
   have h1:=qpa _ _ _ hq
   simp only[List.length_nil,Nat.zero_add] at h1
   by_cases h4:(sides s).length≤4<;>simp[h1,h4]
 rw[hres] at z2
 refine qaz (H:=H') (qifb ((sides s).length+1) ?_) z2
 simp only[fcb,c_fdb s (by omega),EV0]
 exact z1
def resP:Option (MVer×Nat)→List AV | some (v,t)=>[.agg [Cell.int v.A,Cell.int v.B,Cell.int v.C,.lst true 1 []],.one (Cell.int t),.one (Cell.bool true)] | none=>[.agg [Cell.int 0,Cell.int 0,Cell.int 0,.lst true 1 []],.one (Cell.int 0),.one (Cell.bool false)]
theorem qjib {l:List Str}{p:MVer×Nat}(h:numsOf l=some p):p.1.Pre=[]:=by
 have one:∀ x p,oneV x=some p→p.1.Pre=[]:=fun x p h=>by
  unfold oneV at h
  split at h
  ·simp only[Option.some.injEq] at h
   subst h
   rfl
  ·simp at h
 have two:∀ x y p,twoV x y=some p→p.1.Pre=[]:=fun x y p h=>by
  unfold twoV at h
  split at h
  ·simp only[Option.some.injEq] at h
   subst h
   rfl
  ·simp at h
 unfold numsOf at h
 split at h
 ·exact one _ _ h
 ·split at h
  ·exact one _ _ h
  ·exact two _ _ _ h
 ·split at h
  ·split at h
   ·exact one _ _ h
   ·exact two _ _ _ h
  ·simp at h
 ·simp at h
theorem c_fbc (s:Str)(hs:s.length≤1048576):∃ (w:MVer) (t:Nat),outL qsr [.one (Cell.str (bs s))]=some [.agg [Cell.int w.A,Cell.int w.B,Cell.int w.C,qbj w.Pre],.one (Cell.int t),.one (Cell.bool (partOf s).isSome)]∧∀ p,partOf s=some p→p=(w,t):=by
 have hM:=qah
 obtain⟨cs,E,i2,e2,r2,w2,_⟩:=qjfb (f_fai s hs) ([]:List Entry) (qax [.one (Cell.str (bs s))] _ _)
 obtain⟨c6,rfl⟩:=MVer.open r2
 rw[List.nil_append] at e2 r2
 cases hk:(qac s).2 with
 | true=>
  have hp:partOf s=some ((qac s).1,3):=by unfold partOf;rw[if_pos hk]
  refine⟨(qac s).1,3,?_,fun p h=>by rw[hp] at h;exact(Option.some.inj h).symm⟩
  have hr:=qjo r2 (by omega)
  simp only[MVer.tr,List.map_cons,List.map_nil,qct,qbv] at hr
  refine qaz (H:=E) (xs:=[.agg [Cell.int (qac s).1.A,Cell.int (qac s).1.B,Cell.int (qac s).1.C,c6],.one (Cell.int ((3:Nat):Int)),.one (Cell.bool (partOf s).isSome)]) (qkk 0 ?_) (qcz hr (qcz (qbf _ _ _) (qcz (qbf _ _ _) (qbq _))))
  simp only[fbc,e2,hk,hp,EV0]
  rfl
 | false=>
  have hp:partOf s=numsOf (split 46 s):=by unfold partOf;rw[if_neg (by rw[hk];simp)]
  obtain⟨c9,E2,is,e3,r3,w3,_⟩:=qfdb (qwcc s 46 (by omega)) E (qax [.one (Cell.str (bs s)),.one (Cell.str (bs [46]))] _ _)
  have hl:=qit.of (n:=2) r3
  generalize hH:E++E2=H at e3 r3 hl
  have hlen:∀ x∈split 46 s,x.length≤1073741824:=fun x hx=>by
   have:=(qbl 46 s []).2 x hx
   simp only[List.length_nil,Nat.zero_add] at this
   omega
  have hll:(split 46 s).length≤s.length+1:=(qbl 46 s []).1
  have hne:split 46 s≠[]:=qnj _ _
  have hz:mapO (qak false H) [.agg [Cell.int 0,Cell.int 0,Cell.int 0,.lst true 1 []],.one (Cell.int 0),.one (Cell.bool false)]=some [.agg [Cell.int 0,Cell.int 0,Cell.int 0,qbj []],.one (Cell.int ((0:Nat):Int)),.one (Cell.bool false)]:=rfl
  have hnum:∀ x:Str,x.length≤1073741824→out qht [.one (Cell.str (bs x)),.one (Cell.int 9999)]=some (numV (qaj x 9999)):=fun x hx=>c_fag x 9999 hx (by omega)
  by_cases h3:(split 46 s).length≤3
  ·
   obtain⟨id,off,ep,hc⟩:∃ id off ep,c9=.vs id 1 off (split 46 s).length ep:=by
    rcases r3 with⟨h1,_⟩ | ⟨id,off,ep,e,fr,is',h2,_⟩
    ·exact absurd (by simpa using h1) hne
    ·exact⟨id,off,ep,by simpa using h2⟩
   have hsl:∀ t:Nat,t≤(split 46 s).length→slcC 1 c9 0 (some (t:Int)) none=some (.vs id 1 off t ep):=by
    intro t ht
    rw[hc]
    simp only[slcC,Option.getD_some,Option.getD_none,if_true]
    rw[if_pos ⟨by omega,by omega,by omega,by omega⟩,if_pos (.inl trivial)]
    simp
   have hat:∀ (t i:Nat) (x:Str),i < t→t≤(split 46 s).length→(split 46 s)[i]?=some x→∃ a rw' off',idxA 1 (.vs id 1 off t ep) (i:Int)=some a∧deref H a=some (rw',off')∧cS rw' off'=some (bs x):=by
    intro t i x h1 h2 h4
    obtain⟨a,rw',off',q1,q2,q3⟩:=hl.at h4
    refine⟨a,rw',off',?_,q2,q3⟩
    rw[← q1,hc]
    simp only[idxA,if_true]
    rw[if_pos ⟨by omega,by omega⟩,if_pos ⟨by omega,by omega⟩]
   have one:∀ (x:Str),(split 46 s)[0]?=some x→∀ k m n,qle k m (n+1+1) 1 (.vs id 1 off 1 ep) 1 0 0 0 H=some (resP (oneV x),H):=by
    intro x hx k m n
    obtain⟨a,rw',off',q1,q2,q3⟩:=hat 1 0 x (by omega) (List.length_pos_iff.2 hne) hx
    rw[show((0:Nat):Int)=0 from rfl] at q1
    have hxl:=hlen x (List.mem_of_getElem? hx)
    rw[qle]
    simp only[q1,q2,q3,hnum x hxl,show decide ((0:Int) < 1)=true from rfl,EV0]
    unfold oneV
    cases hq:qaj x 9999 with
    | none=>
     simp only[numV,EV0,Bool.not_false]
     rfl
    | some p=>
     simp only[numV,EV0,Bool.not_true]
     rw[if_neg (by omega),if_pos trivial,show IntKind.i64.wrap ((0:Int)+1)=1 from wrap_small (by omega) (by omega)]
     rfl
   have two:∀ (x y:Str),(split 46 s)[0]?=some x→(split 46 s)[1]?=some y→∀ k m n,qle k m (n+1+1+1) 2 (.vs id 1 off 2 ep) 2 0 0 0 H=some (resP (twoV x y),H):=by
    intro x y hx hy k m n
    have hlt:=(List.getElem?_eq_some_iff.1 hy).1
    obtain⟨a,rw',off',q1,q2,q3⟩:=hat 2 0 x (by omega) (by omega) hx
    obtain⟨a',rw2,off2,q4,q5,q6⟩:=hat 2 1 y (by omega) (by omega) hy
    rw[show((0:Nat):Int)=0 from rfl] at q1
    rw[show((1:Nat):Int)=1 from rfl] at q4
    have hxl:=hlen x (List.mem_of_getElem? hx)
    have hyl:=hlen y (List.mem_of_getElem? hy)
    rw[qle]
    simp only[q1,q2,q3,hnum x hxl,show decide ((0:Int) < 2)=true from rfl,EV0]
    unfold twoV
    cases hq:qaj x 9999 with
    | none=>
     simp only[numV,EV0,Bool.not_false]
     rfl
    | some p=>
     simp only[numV,EV0,Bool.not_true]
     rw[if_neg (by omega),if_pos trivial,show IntKind.i64.wrap ((0:Int)+1)=1 from wrap_small (by omega) (by omega),qle]
     simp only[q4,q5,q6,hnum y hyl,show decide ((1:Int) < 2)=true from rfl,EV0]
     cases hq2:qaj y 9999 with
     | none=>
      simp only[numV,EV0,Bool.not_false]
      rfl
     | some p2=>
      simp only[numV,EV0,Bool.not_true]
      rw[if_pos trivial,show IntKind.i64.wrap ((1:Int)+1)=2 from wrap_small (by omega) (by omega)]
      rfl
   have w0:∀ t:Nat,1≤t→t≤3→IntKind.i64.wrap ((t:Int) - 1)=((t - 1:Nat):Int):=fun t h1 h2=>by rw[wrap_small (by omega) (by omega)];omega
   have xe:∀ z:Str,(z==[120])=decide (z=xS):=fun z=>strEq z xS
   have l0a:∀ (x:Str),(split 46 s)[0]?=some x→∀ k m n,qnu k (m+3) (n+1) c9 1 H=some (resP (oneV x),H):=by
    intro x hx k m n
    rw[qnu]
    rw[show decide ((1:Int) > 1)=false from rfl,cond_false,show decide ((1:Int) > 2)=false from rfl,cond_false,show(some (1:Int))=some ((1:Nat):Int) from rfl,hsl 1 (List.length_pos_iff.2 hne)]
    simp only[EV0,lenC]
    exact one x hx k (m+3) (m+1)
   have l0b:∀ (x y:Str),(split 46 s)[0]?=some x→(split 46 s)[1]?=some y→∀ k m n,qnu k (m+3) (n+1+1) c9 2 H=some (resP (if y=xS then oneV x else twoV x y),H):=by
    intro x y hx hy k m n
    have hlt:=(List.getElem?_eq_some_iff.1 hy).1
    obtain⟨a',rw2,off2,q4,q5,q6⟩:=hat (split 46 s).length 1 y (by omega) (by omega) hy
    rw[← hc] at q4
    rw[show((1:Nat):Int)=1 from rfl] at q4
    have ww:IntKind.i64.wrap ((2:Int) - 1)=1:=w0 2 (by omega) (by omega)
    rw[qnu]
    rw[show decide ((2:Int) > 1)=true from rfl,cond_true,ww]
    simp only[q4,q5,q6,xe,EV0]
    by_cases h:y=xS
    ·rw[decide_eq_true h,cond_true,if_pos h]
     exact l0a x hx k m n
    ·rw[decide_eq_false h,cond_false,if_neg h,show decide ((2:Int) > 2)=false from rfl,cond_false,show(some (2:Int))=some ((2:Nat):Int) from rfl,hsl 2 (by omega)]
     simp only[EV0,lenC]
     exact two x y hx hy k (m+3) m
   have fin:∀ k m n,qnu k (m+3) (n+1+1+1) c9 (split 46 s).length H=some (resP (numsOf (split 46 s)),H):=by
    intro k m n
    have hcs:(∃ x,split 46 s=[x])∨(∃ x y,split 46 s=[x,y])∨∃ x y z,split 46 s=[x,y,z]:=by
     match hq:split 46 s,h3,hne with
     | [x],_,_=>exact .inl ⟨x,rfl⟩
     | [x,y],_,_=>exact .inr (.inl ⟨x,y,rfl⟩)
     | [x,y,z],_,_=>exact .inr (.inr ⟨x,y,z,rfl⟩)
     | _::_::_::_::_,h5,_=>simp at h5
    rcases hcs with⟨x,hL⟩ | ⟨x,y,hL⟩ | ⟨x,y,z,hL⟩
    ·have z1:=l0a x (by rw[hL];rfl) k m (n+1+1)
     rw[hL]
     exact z1
    ·have z1:=l0b x y (by rw[hL];rfl) (by rw[hL];rfl) k m (n+1)
     rw[hL]
     exact z1
    ·have z1:=l0b x y (by rw[hL];rfl) (by rw[hL];rfl) k m n
     obtain⟨a',rw2,off2,q4,q5,q6⟩:=hat (split 46 s).length 2 z (by rw[hL];simp) (by omega) (by rw[hL];rfl)
     rw[← hc] at q4
     rw[show((2:Nat):Int)=2 from rfl] at q4
     have ww:IntKind.i64.wrap ((3:Int) - 1)=2:=w0 3 (by omega) (by omega)
     rw[hL,qnu]
     rw[show(([x,y,z]:List Str).length:Int)=3 from rfl,show decide ((3:Int) > 1)=true from rfl,cond_true,ww]
     simp only[q4,q5,q6,xe,EV0,numsOf]
     by_cases h:z=xS
     ·rw[decide_eq_true h,cond_true,if_pos h]
      exact z1
     ·rw[decide_eq_false h,cond_false,if_neg h]
      rfl
   have hrun:∀ k m,fbc k (m+3) (bs s)=some (resP (numsOf (split 46 s)),H):=by
    intro k m
    simp only[fbc,e2,hk,e3,hl.len,EV0]
    rw[decide_eq_false (by omega),cond_false]
    exact fin k m m
   rw[hp]
   have z1:=qkk 2 (hrun (2+1) 0)
   cases hq:numsOf (split 46 s) with
   | none=>
    rw[hq] at z1
    exact⟨⟨0,0,0,[]⟩,0,qaz z1 hz,fun p h=>by simp at h⟩
   | some p=>
    obtain⟨v,t⟩:=p
    rw[hq] at z1
    have hpre:=qjib hq
    simp only at hpre
    refine⟨v,t,qaz z1 ?_,fun p h=>by simp only[Option.some.injEq] at h;exact h.symm⟩
    rw[hpre]
    rfl
  ·have hno:numsOf (split 46 s)=none:=by
    match h:split 46 s with
    | []=>rfl
    | [x]=>rw[h] at h3;simp at h3
    | [x,y]=>rw[h] at h3;simp at h3
    | [x,y,z]=>rw[h] at h3;simp at h3
    | _::_::_::_::_=>rfl
   rw[hp,hno]
   refine⟨⟨0,0,0,[]⟩,0,qaz (H:=H) (qkk 0 ?_) hz,fun p h=>by simp at h⟩
   simp only[fbc,e2,hk,e3,hl.len,EV0]
   rw[decide_eq_true (by omega),cond_true]
theorem c_faq (w:Str)(hw:w.length≤1048576):outL qsa [.one (Cell.str (bs w))]=some [.one (encL 5 eCmp ((qip w).getD [])),.one (Cell.bool (qip w).isSome)]:=by
 have hM:=qah
 have hz:mapO (qak false []) [.one (.lst true 5 []),.one (Cell.bool false)]=some [.one (encL 5 eCmp []),.one (Cell.bool false)]:=rfl
 have loop:∀ (r:List Str) (i n:Nat),signs.drop i=r→r.length < n→∀ k m,∃ xs,qve k m n (bs w) i=some (xs,[])∧mapO (qak false []) xs=some [.one (encL 5 eCmp ((qds w r).getD [])),.one (Cell.bool (qds w r).isSome)]:=by
  intro r
  induction r with
  | nil=>
   intro i n hd hn k m
   obtain⟨n,rfl⟩:∃ j,n=j+1:=⟨n - 1,by omega⟩
   have:=drop_nil hd
   simp only[signs,List.length_cons,List.length_nil] at this
   simp only[qve]
   rw[decide_eq_false (by omega),cond_false]
   exact⟨_,rfl,hz⟩
  | cons g r ih=>
   intro i n hd hn k m
   obtain⟨n,rfl⟩:∃ j,n=j+1:=⟨n - 1,by omega⟩
   obtain⟨hlt,hg,hd'⟩:=qas hd
   simp only[signs,List.length_cons,List.length_nil] at hlt
   simp only[List.length_cons] at hn
   have hsg:=qulc hg
   simp only[qve]
   rw[decide_eq_true (by omega),cond_true,if_pos ⟨by omega,by omega⟩,Int.toNat_natCast,Nat.mul_one,hsg]
   simp only[c_fdw,EV0]
   obtain⟨xs,z1,z2⟩:=ih (i+1) n hd' (by omega) k m
   by_cases hp:g.isPrefixOf w=true
   ·rw[hp,Bool.not_true,cond_false,qpeb hp]
    obtain⟨v,t,q1,q2⟩:=c_fbc (w.drop g.length) (by simp;omega)
    simp only[q1,EV0,qzm,qbwb]
    have hgo:qds w (g::r)=match partOf (w.drop g.length) with | some p=>some (qck g p.1 p.2) | none=>none:=by
     rw[qds,if_pos hp]
    cases hpo:partOf (w.drop g.length) with
    | none=>
     rw[hpo] at hgo
     rw[hgo]
     simp only[Option.isSome_none,Bool.not_false,cond_true]
     exact⟨_,rfl,hz⟩
    | some p=>
     have e:=q2 p hpo
     subst e
     rw[hpo] at hgo
     rw[hgo]
     have hok:=qpn hpo
     simp only[Option.isSome_some,Bool.not_true,cond_false,c_fbe g v hok.1 t hok.2.1 hok.2.2,EV0]
     exact⟨_,rfl,qax [.one (encL 5 eCmp (qck g v t)),.one (Cell.bool true)] _ _⟩
   ·have hgo:qds w (g::r)=qds w r:=by rw[qds,if_neg hp]
    rw[hgo,show g.isPrefixOf w=false from Bool.eq_false_iff.2 hp,Bool.not_false,cond_true,qag (by omega)]
    exact⟨xs,z1,z2⟩
 by_cases h42:w=[42]
 ·subst h42
  refine qaz (H:=[]) (qua 0 ?_) (show mapO (qak false []) [.one (.lst true 5 [[Cell.int 4,Cell.int 0,Cell.int 0,Cell.int 0,.lst true 1 []]]),.one (Cell.bool true)]=some [.one (encL 5 eCmp [⟨4,zeroV⟩]),.one (Cell.bool true)] from rfl)
  have hrun:∀ q,faq q q (bs [42])=some ([.one (.lst true 5 [[Cell.int 4,Cell.int 0,Cell.int 0,Cell.int 0,.lst true 1 []]]),.one (Cell.bool true)],[]):=by
   intro q
   simp only[faq,qcm,beq_self_eq_true,cond_true]
  exact hrun _
 ·have hc:qip w=qds w signs:=by unfold qip;rw[if_neg h42]
  rw[hc]
  obtain⟨xs,z1,z2⟩:=loop signs 0 10 rfl (by simp[signs]) (9+1) (9+1)
  have hrun:∀ q,faq q q (bs w)=qve q q q (bs w) 0:=by
   intro q
   simp only[faq,qcm]
   rw[show(w==[42])=false by simpa using h42,cond_false]
  exact qaz (qua 9 ((hrun _).trans z1)) z2
theorem qxxb {A:List Entry}{sz by':Nat}{c:Cell}{T:List Entry}{rows:List (List Cell)}(h:GrowAt A.length sz c T rows)(ys:List (List Cell))(h1:(rows.length+ys.length)*by'≤bound)(h2:rows.length+ys.length≤bound):
  ∃ d T',app (A++T) sz by' c ys=some (d,A++T')∧GrowAt A.length sz d T' (rows++ys):=by
 rcases h with⟨rfl,rfl,rfl⟩ | ⟨ep,rfl,rfl⟩
 ·cases ys with
  | nil=>exact⟨_,[],by simp[app],.inl ⟨rfl,rfl,rfl⟩⟩
  | cons y ys=>
   refine⟨.vs A.length sz 0 (y::ys).length 0,[Entry.mk sz (y::ys) 0 false],?_,.inr ⟨0,rfl,rfl⟩⟩
   simp only[List.length_nil] at h1 h2
   simp only[app,List.isEmpty_cons,List.length_nil,List.append_nil,List.nil_append]
   rw[if_neg (by simp),if_pos ⟨trivial,.inr trivial,h1,h2⟩]
   simp
 ·refine⟨.vs A.length sz 0 (rows.length+ys.length) (ep+1),[Entry.mk sz (rows++ys) (ep+1) false],?_,.inr ⟨ep+1,by simp,rfl⟩⟩
  have he:entry? (A++[Entry.mk sz rows ep false]) A.length ep=some (Entry.mk sz rows ep false):=by simp[entry?]
  simp only[app,he]
  rw[if_pos ⟨trivial,by simp,.inr trivial,h1,h2⟩]
  simp
theorem GrowAt.readA {α:Type}{A T:List Entry}{sz:Nat}{c:Cell}{e:α→List Cell}[CanonE e]{xs:List α}(h:GrowAt A.length sz c T (xs.map e)):qak false (A++T) (.one c)=some (.one (encL sz e xs)):=by
 rcases h with⟨h1,rfl,rfl⟩ | ⟨ep,rfl,rfl⟩
 ·simp only[List.map_eq_nil_iff] at h1
  subst h1
  exact qqn (e:=e) true [] _
 ·have q:=qho (sz:=sz) (chk:=false) (H:=A++[Entry.mk sz (xs.map e) ep false]) (id:=A.length) (ep:=ep) (fr:=false) (e:=e) (xs:=xs) 4194303 (by simp) (by simp)
  simp only[qak,depth,List.length_map,q,Option.map_some]
theorem GrowAt.lenA {α:Type}{A T:List Entry}{sz:Nat}{c:Cell}{e:α→List Cell}{xs:List α}(h:GrowAt A.length sz c T (xs.map e)):lenC c=some xs.length:=by
 rcases h with⟨h1,rfl,rfl⟩ | ⟨ep,rfl,rfl⟩
 ·simp only[List.map_eq_nil_iff] at h1
  subst h1
  rfl
 ·simp
theorem GrowAt.atA {α:Type}{A T:List Entry}{sz:Nat}{c:Cell}{e:α→List Cell}{xs:List α}(h:GrowAt A.length sz c T (xs.map e)){i:Nat}{x:α}(hx:xs[i]?=some x):∃ a,idxA sz c (i:Int)=some a∧deref (A++T) a=some (e x,0):=by
 have hlt:=(List.getElem?_eq_some_iff.1 hx).1
 rcases h with⟨h1,_,_⟩ | ⟨ep,rfl,rfl⟩
 ·simp only[List.map_eq_nil_iff] at h1
  subst h1
  simp at hx
 ·exact⟨.ptr A.length sz i 0 ep,qhq _ _ _ _ _ (by simpa using hlt),by simp[deref,entry?,hx]⟩
def trC (c:RCmp):List Tr:=.leaf (.int .i64 c.op)::c.v.tr
instance:TrE trC eCmp:=⟨fun x=>by simp only[trC,MVer.tr,eCmp,List.map_cons,List.map_nil,qct,qbv]⟩
theorem c_fax (p:Str)(hp:p.length≤1048576):∃ l:List RCmp,outL qsy [.one (Cell.str (bs p))]=some [.one (encL 5 eCmp l),.one (Cell.bool (qjg p).isSome)]∧∀ q,qjg p=some q→q=l:=by
 have hM:=qah
 have htl:=qywb p
 have hspl:=qbl 32 (trim p) []
 have hwl:(split 32 (trim p)).length≤1048577:=by have:=hspl.1;unfold split;omega
 have hww:∀ y∈split 32 (trim p),y.length≤1048576:=fun y hy=>by
  have:=hspl.2 y hy
  simp only[List.length_nil,Nat.zero_add] at this
  omega
 have hlo:qjg p=qny (split 32 (trim p)):=rfl
 obtain⟨c5,A,ids,e1,r1,w1,_⟩:=qfdb (qwcc (trim p) 32 (by omega)) ([]:List Entry) (qax [.one (Cell.str (bs (trim p))),.one (Cell.str (bs [32]))] _ _)
 rw[List.nil_append] at e1 r1
 have hl:=qit.of (n:=2) r1
 generalize hws:split 32 (trim p)=ws at e1 r1 hl hwl hww hlo
 have hz:∀ G:List Entry,mapO (qak false G) [.one (.lst true 5 []),.one (Cell.bool false)]=some [.one (encL 5 eCmp []),.one (Cell.bool false)]:=fun G=>rfl
 have l1:∀ (acc:List RCmp) (c:Cell) (T:List Entry),acc.length≤4194304→(∀ x∈acc,okB x.v)→GrowAt A.length 5 c T (acc.map eCmp)→∀ (r:List RCmp) (i n:Nat),acc.drop i=r→r.length < n→∀ k m,
   qxd k m n c c acc.length i (A++T)=some (cond (r.all (fun c=>qgg c.v)) [.one c,.one (Cell.bool (decide (acc.length≤4)))] [.one (.lst true 5 []),.one (Cell.bool false)],A++T):=by
  intro acc c T ha hB hg r
  induction r with
  | nil=>
   intro i n hd hn k m
   obtain⟨n,rfl⟩:∃ j,n=j+1:=⟨n - 1,by omega⟩
   have:=drop_nil hd
   simp only[qxd,hg.lenA,EV0]
   rw[decide_eq_false (by omega),cond_false,show decide ((acc.length:Int)≤4)=decide (acc.length≤4) by rw[decide_eq_decide];omega]
   rfl
  | cons x r ih=>
   intro i n hd hn k m
   obtain⟨n,rfl⟩:∃ j,n=j+1:=⟨n - 1,by omega⟩
   obtain⟨hlt,hx,hd'⟩:=qas hd
   simp only[List.length_cons] at hn
   obtain⟨a,q1,q2⟩:=hg.atA hx
   have hxb:=qroc (hB x (List.mem_of_getElem? hx))
   simp only[qxd,q1,q2,eCmp,Nat.zero_add,c_fak x.v.A x.v.B x.v.C x.v.Pre hxb.2.2.2,EV0]
   rw[decide_eq_true (by omega),cond_true,qag (by omega),ih (i+1) n hd' (by omega)]
   simp only[List.all_cons,qgg]
   cases qet x.v.A x.v.B x.v.C x.v.Pre<;>rfl
 have loop:∀ (r:List Str) (i n:Nat) (acc:List RCmp) (c:Cell) (T:List Entry),ws.drop i=r→r.length < n→acc.length≤2*i→i≤ws.length→(∀ x∈acc,okB x.v)→GrowAt A.length 5 c T (acc.map eCmp)→∀ k m,4194304 < m→
   ∃ xs H',qqo k m n c c5 ws.length i (A++T)=some (xs,H')∧∃ (l:List RCmp) (b:Bool),mapO (qak false H') xs=some [.one (encL 5 eCmp l),.one (Cell.bool b)]∧
    match qcv r acc with | some q=>b=decide (q.length≤4∧q.all (fun c=>qgg c.v)=true)∧(b=true→l=q) | none=>b=false:=by
  intro r
  induction r with
  | nil=>
   intro i n acc c T hd hn ha hi hB hg k m hm
   obtain⟨n,rfl⟩:∃ j,n=j+1:=⟨n - 1,by omega⟩
   have:=drop_nil hd
   simp only[qqo,hg.lenA,EV0]
   rw[decide_eq_false (by omega),cond_false]
   have z:=l1 acc c T (by omega) hB hg acc 0 m rfl (by omega) k m
   rw[show((0:Nat):Int)=0 from rfl] at z
   rw[z,qcv]
   cases hall:acc.all (fun c=>qgg c.v) with
   | true=>exact⟨_,_,rfl,acc,decide (acc.length≤4),qcz hg.readA (qcz (qbf _ _ _) (qbq _)),by simp only[hall,and_true],fun _=>rfl⟩
   | false=>exact⟨_,_,rfl,[],false,hz _,by rw[hall];simp,by simp⟩
  | cons x r ih=>
   intro i n acc c T hd hn ha hi hB hg k m hm
   obtain⟨n,rfl⟩:∃ j,n=j+1:=⟨n - 1,by omega⟩
   obtain⟨hlt,hx,hd'⟩:=qas hd
   simp only[List.length_cons] at hn
   have hxl:=hww x (List.mem_of_getElem? hx)
   obtain⟨a,rw',off',q1,q2,q3⟩:=(hl.frame (H':=A++T) fun j hj=>List.getElem?_append_left (r1.lt j hj)).at hx
   simp only[qqo,q1,q2,q3,c_faq x hxl,EV0]
   rw[decide_eq_true (by omega),cond_true]
   cases hq:qip x with
   | none=>
    rw[qcv,hq]
    simp only[Option.isSome_none,Bool.not_false,cond_true]
    exact⟨_,_,rfl,[],false,hz _,rfl⟩
   | some q=>
    have hqB:=qwy hq
    obtain⟨d,T',a1,g1⟩:=qxxb (by':=56) hg (q.map eCmp) (by unfold bound;simp only[List.length_map];omega) (by unfold bound;simp only[List.length_map];omega)
    simp only[Option.isSome_some,Option.getD_some,Bool.not_true,cond_false,qkib,a1,Option.bind_some]
    rw[qag (by omega),qcv,hq]
    exact ih (i+1) n (acc++q) d T' hd' (by omega) (by rw[List.length_append];omega) (by omega) (fun y hy=>by
     rcases List.mem_append.1 hy with hy | hy
     ·exact hB y hy
     ·exact hqB.2 y hy) (by simpa using g1) k m hm
 have hcut:∀ k m,fax k m (bs p)=fax k m (bs p):=fun _ _=>rfl
 cases hh:qwqb ws with
 | some pr=>
  obtain⟨a,c⟩:=pr
  have hw3:=qrp hh
  subst hw3
  have ha:=hww a (by simp)
  have hcl:=hww c (by simp)
  have hs:qjg p=if (qac a).2&&(qac c).2 then some [⟨4,(qac a).1⟩,⟨2,(qac c).1⟩] else none:=by
   rw[hlo,qny,hh]
  obtain⟨cs1,E1,i1,e2,r2,w2,_⟩:=qjfb (f_fai a ha) A (qax [.one (Cell.str (bs a))] _ _)
  obtain⟨c17,rfl⟩:=MVer.open r2
  obtain⟨cs2,E2,i2,e3,r3,w3,_⟩:=qjfb (f_fai c hcl) (A++E1) (qax [.one (Cell.str (bs c))] _ _)
  obtain⟨c26,rfl⟩:=MVer.open r3
  obtain⟨a0,rw0,off0,q1,q2,q3⟩:=hl.at (i:=0) (s:=a) rfl
  obtain⟨a1,rw1,off1,q4,q5,q6⟩:=hl.at (i:=1) (s:=[45]) rfl
  obtain⟨a2,rw2,off2,q7,q8,q9⟩:=(hl.frame (H':=A++E1) fun j hj=>List.getElem?_append_left (r1.lt j hj)).at (i:=2) (s:=c) rfl
  rw[show((0:Nat):Int)=0 from rfl] at q1
  rw[show((1:Nat):Int)=1 from rfl] at q4
  rw[show((2:Nat):Int)=2 from rfl] at q7
  generalize hG:A++E1++E2=G at e3 r3
  have r2':=Rep.app2 E2 r2
  rw[hG] at r2'
  have s1:Sp (Rep (G++[Entry.mk 5 [[Cell.int 4,Cell.int (qac a).1.A,Cell.int (qac a).1.B,Cell.int (qac a).1.C,c17],[Cell.int 2,Cell.int (qac c).1.A,Cell.int (qac c).1.B,Cell.int (qac c).1.C,c26]] 0 false]) true true 2) ([]++i1) [Cell.int 4,Cell.int (qac a).1.A,Cell.int (qac a).1.B,Cell.int (qac a).1.C,c17] (trC ⟨4,(qac a).1⟩):=
   Sp.cons (i:=[]) (qby _) (Rep.app2 _ r2')
  have s2:Sp (Rep (G++[Entry.mk 5 [[Cell.int 4,Cell.int (qac a).1.A,Cell.int (qac a).1.B,Cell.int (qac a).1.C,c17],[Cell.int 2,Cell.int (qac c).1.A,Cell.int (qac c).1.B,Cell.int (qac c).1.C,c26]] 0 false]) true true 2) ([]++i2) [Cell.int 2,Cell.int (qac c).1.A,Cell.int (qac c).1.B,Cell.int (qac c).1.C,c26] (trC ⟨2,(qac c).1⟩):=
   Sp.cons (i:=[]) (qby _) (Rep.app2 _ r3)
  have rr:Rep (G++[Entry.mk 5 [[Cell.int 4,Cell.int (qac a).1.A,Cell.int (qac a).1.B,Cell.int (qac a).1.C,c17],[Cell.int 2,Cell.int (qac c).1.A,Cell.int (qac c).1.B,Cell.int (qac c).1.C,c26]] 0 false]) true true 3 (G.length::(([]++i1)++(([]++i2)++[]))) (.vs G.length 5 0 2 0) (trL 5 trC [⟨4,(qac a).1⟩,⟨2,(qac c).1⟩]):=
   .inr ⟨G.length,0,0,_,false,_,rfl,rfl,by simp;rfl,fun _=>rfl,fun _=>⟨rfl,by simp[trL]⟩,by simp[trL],by simp,by
    simp only[List.drop_zero,trL,List.map_cons,List.map_nil,List.length_cons,List.length_nil]
    exact Sp.cons s1 (Sp.cons s2 .nil)⟩
  have hrd:=qei rr (by omega)
  rw[qbv] at hrd
  have hq2:∀ q,qjg p=some q→q=[⟨4,(qac a).1⟩,⟨2,(qac c).1⟩]:=fun q hq=>by
   rw[hs] at hq
   split at hq
   ·exact(Option.some.inj hq).symm
   ·simp at hq
  refine⟨[⟨4,(qac a).1⟩,⟨2,(qac c).1⟩],?_,hq2⟩
  have hb:(qjg p).isSome=((qac a).2&&(qac c).2):=by
   rw[hs]
   rcases Bool.eq_false_or_eq_true ((qac a).2&&(qac c).2) with h | h
   ·rw[if_pos h,h]
    rfl
   ·rw[if_neg (by rw[h];simp),h]
    rfl
  rw[hb]
  refine qaz (quc 0 ?_) (qcz hrd (qcz (qbf (.one (Cell.bool ((qac a).2&&(qac c).2))) _ _) (qbq _)))
  simp only[fax,c_fea p (by omega),e1,hl.len,q1,q2,q3,q4,q5,q6,q7,q8,q9,e2,e3,EV0]
  rw[show(((0+1+1+1:Nat):Int)==3)=true from rfl]
  simp only[cond_true]
  cases (qac a).2<;>rfl
 | none=>
  have hlw:qjg p=qwtc ws:=by rw[hlo,qny,hh]
  obtain⟨xs,H',z1,l,b,z2,z3⟩:=loop ws 0 (ws.length+4194304+1) [] (.lst true 5 []) [] rfl (by omega) (by simp) (by omega) (by simp) (.inl ⟨rfl,rfl,rfl⟩) (ws.length+4194304+1) (ws.length+4194304+1) (by omega)
  rw[List.append_nil,show((0:Nat):Int)=0 from rfl] at z1
  have hb:b=(qjg p).isSome∧∀ q,qjg p=some q→q=l:=by
   rw[hlw]
   unfold qwtc
   cases hq:qcv ws [] with
   | none=>
    rw[hq] at z3
    exact⟨z3,by simp⟩
   | some q=>
    rw[hq] at z3
    obtain⟨h1,h2⟩:=z3
    simp only
    by_cases h4:q.length≤4∧q.all (fun c=>qgg c.v)=true
    ·rw[if_pos h4]
     rw[decide_eq_true h4] at h1
     exact⟨by rw[h1];rfl,fun q' h=>by simp only[Option.some.injEq] at h;rw[← h];exact(h2 h1).symm⟩
    ·rw[if_neg h4]
     exact⟨by rw[h1,decide_eq_false h4];rfl,by simp⟩
  rw[← hb.1]
  refine⟨l,qaz (H:=H') (quc (ws.length+4194304) ?_) z2,hb.2⟩
  have hrun:∀ q,fax q q (bs p)=qqo q q q (.lst true 5 []) c5 ws.length 0 A:=by
   intro q
   simp only[fax,c_fea p (by omega),e1,hl.len,EV0]
   by_cases h3:ws.length=3
   ·obtain⟨a,d,e,rfl⟩:∃ a d e,ws=[a,d,e]:=by
     match ws,h3 with
     | [a,d,e],_=>exact⟨a,d,e,rfl⟩
    have hd:(d==[45])=false:=by
     cases h:(d==[45]) with
     | false=>rfl
     | true=>
      have:d=[45]:=by simpa using h
      subst this
      simp[qwqb] at hh
    obtain⟨a1,rw1,off1,q4,q5,q6⟩:=hl.at (i:=1) (s:=d) rfl
    rw[show((1:Nat):Int)=1 from rfl] at q4
    rw[show((([a,d,e]:List Str).length:Int)==3)=true from rfl,cond_true]
    simp only[q4,q5,q6,EV0]
    rw[hd,cond_false]
   ·rw[show((ws.length:Int)==3)=false by rw[beq_eq_false_iff_ne];omega,cond_false]
  exact(hrun _).trans z1
theorem c_fah (s:Str)(hs:s.length≤1048576):outL qto [.one (Cell.str (bs s))]=some [.one (qji ((qbk s).getD [])),.one (Cell.bool (qbk s).isSome)]:=by
 have hM:=qah
 have hsl:=qdw s.length s [] (Nat.le_refl _)
 have hll:(sides s).length≤s.length+1:=hsl.1
 have hel:∀ x∈sides s,x.length≤1048576:=fun x hx=>by
  have:=hsl.2 x hx
  simp only[List.length_nil,Nat.zero_add] at this
  omega
 have hz:∀ G:List Entry,mapO (qak false G) [.one (.lst true 1 []),.one (Cell.bool false)]=some [.one (qji []),.one (Cell.bool false)]:=fun G=>rfl
 obtain⟨c3,A,ids,e1,r1,w1,_⟩:=qfdb (qmb s (by omega)) ([]:List Entry) (qax [.one (Cell.str (bs s)),.one (Cell.str (bs oo))] _ _)
 rw[List.nil_append] at e1 r1
 have hl:=qit.of (n:=2) r1
 have loop:∀ (r:List Str) (i n:Nat) (acc:List (List RCmp)) (c:Cell) (T:List Entry),(sides s).drop i=r→r.length < n→acc.length=i→GrowAt A.length 1 c T (acc.map qlhb)→∀ k m,
   ∃ xs H',qwo k m n c c3 (sides s).length i (A++T)=some (xs,H')∧
    mapO (qak false H') xs=some [.one (qji ((qcy r acc).getD [])),.one (Cell.bool (qcy r acc).isSome)]:=by
  intro r
  induction r with
  | nil=>
   intro i n acc c T hd hn ha hg k m
   obtain⟨n,rfl⟩:∃ j,n=j+1:=⟨n - 1,by omega⟩
   have:=drop_nil hd
   simp only[qwo]
   rw[decide_eq_false (by omega),cond_false,qcy]
   exact⟨_,_,rfl,qcz hg.readA (qcz (qbf _ _ _) (qbq _))⟩
  | cons x r ih=>
   intro i n acc c T hd hn ha hg k m
   obtain⟨n,rfl⟩:∃ j,n=j+1:=⟨n - 1,by omega⟩
   obtain⟨hlt,hx,hd'⟩:=qas hd
   simp only[List.length_cons] at hn
   have hxl:=hel x (List.mem_of_getElem? hx)
   obtain⟨a,rw',off',q1,q2,q3⟩:=(hl.frame (H':=A++T) fun j hj=>List.getElem?_append_left (r1.lt j hj)).at hx
   obtain⟨l,p1,p2⟩:=c_fax x hxl
   have e5:∀ {β:Type} (l:List RCmp) (κ:List Cell→Option β),restK [encL 5 eCmp l] κ=κ [encL 5 eCmp l]:=fun l κ=>rfl
   have hsrc:∀ (G:List Entry) (l:List RCmp),qal G 1 (.lst true 1 (chunks 1 1 [encL 5 eCmp l]))=some [qlhb l]:=fun G l=>by simp[qal,rowsOf,chunks,qlhb]
   simp only[qwo,q1,q2,q3,p1,EV0]
   rw[decide_eq_true (by omega),cond_true]
   cases hS:qjg x with
   | none=>
    rw[qcy,hS]
    simp only[Option.isSome_none,Bool.not_false,cond_true]
    exact⟨_,_,rfl,hz _⟩
   | some l'=>
    have:=p2 l' hS
    subst this
    obtain⟨d,T',a1,g1⟩:=qxxb (by':=24) hg [qlhb l'] (by unfold bound;simp;omega) (by unfold bound;simp;omega)
    obtain⟨xs,H',z1,z2⟩:=ih (i+1) n (acc++[l']) d T' hd' (by omega) (by simp;omega) (by simpa using g1) k m
    refine⟨xs,H',?_,by rw[qcy,hS];exact z2⟩
    simp only[Option.isSome_some,Bool.not_true,cond_false,e5,hsrc,a1,Option.bind_some]
    rw[qag (by omega)]
    exact z1
 by_cases h4:(sides s).length≤4
 ·obtain⟨xs,H',z1,z2⟩:=loop (sides s) 0 ((sides s).length+1+1) [] (.lst true 1 []) [] rfl (by omega) rfl (.inl ⟨rfl,rfl,rfl⟩) ((sides s).length+1+1) ((sides s).length+1+1)
  rw[List.append_nil,show((0:Nat):Int)=0 from rfl] at z1
  have hp:qbk s=qcy (sides s) []:=by unfold qbk;rw[if_pos h4]
  rw[hp]
  refine qaz (H:=H') (qrk ((sides s).length+1) ?_) z2
  have hoo:(bs [124,124])=bs oo:=rfl
  simp only[fah,hoo,e1,hl.len,EV0]
  rw[decide_eq_false (by omega),cond_false]
  exact z1
 ·have hp:qbk s=none:=by unfold qbk;rw[if_neg h4]
  rw[hp]
  refine qaz (H:=A) (qrk 0 ?_) (hz _)
  have hoo:(bs [124,124])=bs oo:=rfl
  simp only[fah,hoo,e1,hl.len,EV0]
  rw[decide_eq_true (by omega),cond_true]
def qdn (most:Nat)(s:Str):Bool:=s.all (fun b=>inR b.toNat 32 126)&&decide (s.length≤most)
def keyI {α:Type}(l:List α)(key:α→Str)(good:α→Bool)(i:Nat):Bool:=
 match l[i]? with
 | some f=>good f&&(decide (i=0)||(match l[i - 1]? with
  | some g=>lt (key g) (key f)
  | none=>true))
 | none=>true
theorem qfz {α:Type}{l:List α}{key:α→Str}{good:α→Bool}{f:α}(h:l[0]?=some f):keyI l key good 0=good f:=by
 unfold keyI
 rw[h]
 simp
theorem qft {α:Type}{l:List α}{key:α→Str}{good:α→Bool}{i:Nat}{f g:α}(h:l[i+1]?=some f)(hg:l[i]?=some g):keyI l key good (i+1)=(good f&&lt (key g) (key f)):=by
 unfold keyI
 rw[h]
 simp[hg]
def qnab (c:MCmd):Bool:=c.Acts.all (qdn 40)&&(qcj c.Task&&inR c.Acts.length 1 5)
def qkv (n:MNeed):Bool:=(qbk n.Range).isSome&&(qcj n.Name&&decide (n.Range.length≤20))
def qhv (l:List MNeed):Bool:=(List.range l.length).all (keyI l (·.Name) qkv)&&decide (l.length≤4)
def qmrb (l:List MCmd):Bool:=(List.range l.length).all (keyI l (·.Task) qnab)&&decide (l.length≤4)
def qpm (p:MPack):Bool:=qmrb p.Cmds&&(qcj p.Name&&((p.Uses.all qcj&&decide (p.Uses.length≤4))&&(asc p.Uses&&qhv p.Needs)))
def qhcb (l:List MPack)(nm u:Str):Bool:=!(u==nm)&&!decide (idxF (fun p:MPack=>p.Name==u) l 0 < 0)
def qlyb (l:List MPack)(i:Nat):Bool:=keyI l (·.Name) qpm i&&(match l[i]? with | some f=>f.Uses.all (qhcb l f.Name) | none=>true)
def qza (l:List MPack):Bool:=(List.range l.length).all (qlyb l)&&decide (l.length≤6)
theorem c_fav (b:UInt8):out qug [.one (.sc (.int .u8 (b.toNat:Int)))]=some [.one (Cell.bool (inR b.toNat 32 126))]:=by
 refine qba (H:=[]) (qhpb 0 ?_)
 simp only[fav,inR]
 by_cases h:(32:Int)≤b.toNat
 ·rw[decide_eq_true (by omega:(b.toNat:Int)≥32),cond_true,Bool.true_and]
 ·rw[decide_eq_false (by omega:¬ (b.toNat:Int)≥32),cond_false,Bool.false_and]
theorem c_fcd (s:Str)(most:Nat)(hs:s.length≤1073741824):out qow [.one (Cell.str (bs s)),.one (Cell.int most)]=some [.one (Cell.bool (qdn most s))]:=by
 have hM:=qah
 refine qba (H:=[]) (qkeb (s.length+1) ?_)
 unfold qdn
 simp only[fcd]
 rw[qfb s (fun n i=>qwm (s.length+1+1) (s.length+1+1) n (bs s) most i) (fun b=>inR b.toNat 32 126) (some ([.one (Cell.bool (decide (s.length≤most)))],[])) (some ([.one (Cell.bool false)],[])) ?_ ?_ _ (by omega)]
 ·exact qoeb _ _ _
 ·intro n i x hx hlt
  have:=qrdc x
  simp only[qwm,qcc,hx,wrap_small (n:=(x.toNat:Int)) (by omega) (by omega),qgpb,EV0]
  rw[decide_eq_true (by omega),cond_true,qag (by omega)]
  cases inR (x.toNat:Int) 32 126<;>rfl
 ·intro n
  simp only[qwm,qbe]
  rw[decide_eq_false (by omega),cond_false,show decide ((s.length:Int)≤(most:Int))=decide (s.length≤most) from n_le s.length most]
theorem c_faj (s:Str)(most:Nat)(hs:s.length≤1073741824):out qov [.one (Cell.str (bs s)),.one (Cell.int most)]=some [.one (Cell.bool (qdn most s))]:=by
 have hM:=qah
 refine qba (H:=[]) (qlwb (s.length+1) ?_)
 unfold qdn
 simp only[faj]
 rw[qfb s (fun n i=>qwi (s.length+1+1) (s.length+1+1) n (bs s) most i) (fun b=>inR b.toNat 32 126) (some ([.one (Cell.bool (decide (s.length≤most)))],[])) (some ([.one (Cell.bool false)],[])) ?_ ?_ _ (by omega)]
 ·exact qoeb _ _ _
 ·intro n i x hx hlt
  simp only[qwi,qcc,hx,c_fav,EV0]
  rw[decide_eq_true (by omega),cond_true,qag (by omega)]
  cases inR (x.toNat:Int) 32 126<;>rfl
 ·intro n
  simp only[qwi,qbe]
  rw[decide_eq_false (by omega),cond_false,show decide ((s.length:Int)≤(most:Int))=decide (s.length≤most) from n_le s.length most]
theorem c_fap (c:MCmd)(hc:c.Bd 1048576):out qvi [.agg [Cell.str (bs c.Task),qbj c.Acts]]=some [.one (Cell.bool (qnab c))]:=by
 have hM:=qah
 have hl:=hc.2.1
 have h0:c.Task.length≤1048576:=hc.1
 refine qba (H:=[]) (qhzb (c.Acts.length+1) ?_)
 unfold qnab
 simp only[fap,EV0]
 rw[qfb c.Acts (fun n i=>qxc (c.Acts.length+1+1) (c.Acts.length+1+1) n (qbj c.Acts) c.Acts.length i (bs c.Task) (qbj c.Acts)) (qdn 40) (some ([.one (Cell.bool (qcj c.Task&&inR c.Acts.length 1 5))],[])) (some ([.one (Cell.bool false)],[])) ?_ ?_ _ (by omega)]
 ·exact qoeb _ _ _
 ·intro n i x hx hlt
  have hb:x.length≤1048576:=hc.2.2 x (List.mem_of_getElem? hx)
  have q:out qov [.one (Cell.str (bs x)),.one (Cell.int 40)]=some [.one (Cell.bool (qdn 40 x))]:=c_faj x 40 (by omega)
  simp only[qxc,qar,hx,eStr,q,EV0]
  rw[decide_eq_true (by omega),cond_true,qag (by omega)]
  cases qdn 40 x<;>rfl
 ·intro n
  simp only[qxc,qvxc c.Task (by omega),qkmc,EV0]
  rw[decide_eq_false (by omega),cond_false]
  cases qcj c.Task<;>rfl
theorem c_faz (n:MNeed)(hn:n.Bd 1048576):out qry [.agg [Cell.str (bs n.Name),Cell.str (bs n.Range)]]=some [.one (Cell.bool (qkv n))]:=by
 have h0:n.Name.length≤1048576:=hn.1
 refine qba (H:=[]) (qmbb 0 ?_)
 simp only[faz,c_fah n.Range hn.2,qvxc n.Name (by omega),EV0]
 rw[show decide ((n.Range.length:Int)≤20)=decide (n.Range.length≤20) from n_le _ 20]
 unfold qkv
 cases (qbk n.Range).isSome<;>cases qcj n.Name<;>rfl
theorem c_fdn (n:MNeed)(hn:n.Bd 1048576):out qsc [.agg [Cell.str (bs n.Name),Cell.str (bs n.Range)]]=some [.one (Cell.bool (qkv n))]:=by
 have h0:n.Name.length≤1048576:=hn.1
 refine qba (H:=[]) (qkdb 0 ?_)
 simp only[fdn,c_fcb n.Range hn.2,qwwc n.Name (by omega),EV0]
 rw[show decide ((n.Range.length:Int)≤20)=decide (n.Range.length≤20) from n_le _ 20]
 unfold qkv
 cases (qbk n.Range).isSome<;>cases qcj n.Name<;>cases decide (n.Range.length≤20)<;>rfl
theorem c_fdo (l:List MNeed)(hl:bdL 1048576 (MNeed.Bd 1048576) l):out qtg [.one (encL 2 MNeed.enc l)]=some [.one (Cell.bool (qhv l))]:=by
 have hM:=qah
 have hxl:=hl.1
 refine qba (H:=[]) (qgyb (l.length+1) ?_)
 unfold qhv
 simp only[fdo]
 rw[qee l.length (fun n i=>qvg (l.length+1+1) (l.length+1+1) n (encL 2 MNeed.enc l) i) (keyI l (·.Name) qkv) (some ([.one (Cell.bool (decide (l.length≤4)))],[])) (some ([.one (Cell.bool false)],[])) ?_ ?_ _ (by omega)]
 ·exact qoeb _ _ _
 ·intro n i hlt
  obtain⟨f,hf⟩:∃ f,l[i]?=some f:=⟨l[i],List.getElem?_eq_getElem hlt⟩
  have hb:=hl.2 f (List.mem_of_getElem? hf)
  simp only[qvg,qam,qar,hf,MNeed.enc,c_fdn f hb,EV0]
  rw[decide_eq_true (by omega),cond_true,qag (by omega)]
  cases i with
  | zero=>
   rw[qfz hf,decide_eq_false (p:=((0:Nat):Int) > 0) (by omega)]
   cases qkv f<;>rfl
  | succ i=>
   obtain⟨g,hg⟩:∃ g,l[i]?=some g:=⟨l[i],List.getElem?_eq_getElem (by omega)⟩
   rw[qft hf hg,decide_eq_true (p:=((i+1:Nat):Int) > 0) (by omega),qbu (by omega)]
   simp only[qar,hf,hg,MNeed.enc,qbx,Nat.zero_add,qycb,EV0]
   cases qkv f<;>cases lt g.Name f.Name<;>rfl
 ·intro n
  simp only[qvg,qam,EV0]
  rw[decide_eq_false (by omega),cond_false,show decide ((l.length:Int)≤4)=decide (l.length≤4) from n_le l.length 4]
theorem c_fba (l:List MNeed)(hl:bdL 1048576 (MNeed.Bd 1048576) l):out qrq [.one (encL 2 MNeed.enc l)]=some [.one (Cell.bool (qhv l))]:=by
 have hM:=qah
 have hxl:=hl.1
 refine qba (H:=[]) (qgtb (l.length+1) ?_)
 unfold qhv
 simp only[fba,qam,Option.bind_some]
 rw[qee l.length (fun n i=>qqt (l.length+1+1) (l.length+1+1) n (encL 2 MNeed.enc l) (encL 2 MNeed.enc l) l.length i) (keyI l (·.Name) qkv) (some ([.one (Cell.bool (decide (l.length≤4)))],[])) (some ([.one (Cell.bool false)],[])) ?_ ?_ _ (by omega)]
 ·exact qoeb _ _ _
 ·intro n i hlt
  obtain⟨f,hf⟩:∃ f,l[i]?=some f:=⟨l[i],List.getElem?_eq_getElem hlt⟩
  have hb:=hl.2 f (List.mem_of_getElem? hf)
  simp only[qqt,qam,qar,hf,MNeed.enc,Nat.zero_add,c_faz f hb,EV0]
  rw[decide_eq_true (by omega),cond_true,qag (by omega)]
  cases i with
  | zero=>
   rw[qfz hf,decide_eq_false (p:=((0:Nat):Int) > 0) (by omega)]
   cases qkv f<;>rfl
  | succ i=>
   obtain⟨g,hg⟩:∃ g,l[i]?=some g:=⟨l[i],List.getElem?_eq_getElem (by omega)⟩
   rw[qft hf hg,decide_eq_true (p:=((i+1:Nat):Int) > 0) (by omega),qbu (by omega)]
   simp only[qar,hf,hg,MNeed.enc,qbx,Nat.zero_add,qycb,qkjb,EV0]
   cases qkv f<;>cases lt g.Name f.Name<;>rfl
 ·intro n
  simp only[qqt,qam,EV0]
  rw[decide_eq_false (by omega),cond_false,show decide ((l.length:Int)≤4)=decide (l.length≤4) from n_le l.length 4]
theorem c_fdj (l:List MCmd)(hl:bdL 1048576 (MCmd.Bd 1048576) l):out qty [.one (encL 2 MCmd.enc l)]=some [.one (Cell.bool (qmrb l))]:=by
 have hM:=qah
 have hxl:=hl.1
 refine qba (H:=[]) (qkvb (l.length+1048577) ?_)
 unfold qmrb
 simp only[fdj]
 rw[qee l.length (fun n i=>qtn (l.length+1048577+1) (l.length+1048577+1) n (encL 2 MCmd.enc l) i) (keyI l (·.Task) qnab) (some ([.one (Cell.bool (decide (l.length≤4)))],[])) (some ([.one (Cell.bool false)],[])) ?_ ?_ _ (by omega)]
 ·exact qoeb _ _ _
 ·intro n i hlt
  obtain⟨f,hf⟩:∃ f,l[i]?=some f:=⟨l[i],List.getElem?_eq_getElem hlt⟩
  have hb:=hl.2 f (List.mem_of_getElem? hf)
  have hbl:=hb.2.1
  have h0:f.Task.length≤1048576:=hb.1
  have inner:∀ (bl:Cell→Int→Option Res) (k m:Nat),qpg k m bl (l.length+1048577+1) (encL 2 MCmd.enc l) i 0=cond (f.Acts.all (qdn 40)) (bl (encL 2 MCmd.enc l) ((i+1:Nat):Int)) (some ([.one (Cell.bool false)],[])):=by
   intro bl k m
   rw[qfb f.Acts (fun n j=>qpg k m bl n (encL 2 MCmd.enc l) i j) (qdn 40) (bl (encL 2 MCmd.enc l) ((i+1:Nat):Int)) (some ([.one (Cell.bool false)],[])) ?_ ?_ _ (by omega)]
   ·intro n j x hx hjl
    have hxb:x.length≤1048576:=hb.2.2 x (List.mem_of_getElem? hx)
    have q:out qow [.one (Cell.str (bs x)),.one (Cell.int 40)]=some [.one (Cell.bool (qdn 40 x))]:=c_fcd x 40 (by omega)
    simp only[qpg,qar,hf,hx,MCmd.enc,eStr,qbx,Nat.zero_add,q,EV0]
    rw[decide_eq_true (by omega),cond_true,qag (by omega)]
    cases qdn 40 x<;>rfl
   ·intro n
    simp only[qpg,qar,hf,MCmd.enc,qbx,Nat.zero_add,EV0]
    rw[decide_eq_false (by omega),cond_false,qag (by omega)]
  simp only[qtn,qam,qar,hf,MCmd.enc,qbx,Nat.zero_add,qwwc f.Task (by omega),qgpb,inner,EV0]
  rw[decide_eq_true (by omega),cond_true]
  cases i with
  | zero=>
   rw[qfz hf,decide_eq_false (p:=((0:Nat):Int) > 0) (by omega)]
   unfold qnab
   cases qcj f.Task<;>cases inR (f.Acts.length:Int) 1 5<;>cases f.Acts.all (qdn 40)<;>rfl
  | succ i=>
   obtain⟨g,hg⟩:∃ g,l[i]?=some g:=⟨l[i],List.getElem?_eq_getElem (by omega)⟩
   rw[qft hf hg,decide_eq_true (p:=((i+1:Nat):Int) > 0) (by omega),qbu (by omega)]
   simp only[qar,hf,hg,MCmd.enc,qbx,Nat.zero_add,qycb,EV0]
   unfold qnab
   cases qcj f.Task<;>cases inR (f.Acts.length:Int) 1 5<;>cases f.Acts.all (qdn 40)<;>cases lt g.Task f.Task<;>rfl
 ·intro n
  simp only[qtn,qam,EV0]
  rw[decide_eq_false (by omega),cond_false,show decide ((l.length:Int)≤4)=decide (l.length≤4) from n_le l.length 4]
theorem c_fby (p:MPack)(hp:p.Bd 1048576):out qlc [.agg [Cell.str (bs p.Name),qbj p.Uses,encL 2 MNeed.enc p.Needs,encL 2 MCmd.enc p.Cmds]]=some [.one (Cell.bool (qpm p))]:=by
 obtain⟨b0,b1,b2,b3⟩:=hp
 have h0:p.Name.length≤1048576:=b0
 have h1:=b1.1
 refine qba (H:=[]) (qlmb 0 ?_)
 simp only[fby,qwwc p.Name (by omega),c_fdm p.Uses b1,c_fdh p.Uses (by omega),c_fdo p.Needs b2,c_fdj p.Cmds b3,EV0]
 rw[show decide ((p.Uses.length:Int)≤4)=decide (p.Uses.length≤4) from n_le _ 4]
 unfold qpm
 cases qcj p.Name<;>cases decide (p.Uses.length≤4)<;>cases p.Uses.all qcj<;>cases asc p.Uses<;>cases qhv p.Needs<;>cases qmrb p.Cmds<;>rfl
theorem c_fae (p:MPack)(hp:p.Bd 1048576):out qkr [.agg [Cell.str (bs p.Name),qbj p.Uses,encL 2 MNeed.enc p.Needs,encL 2 MCmd.enc p.Cmds]]=some [.one (Cell.bool (qpm p))]:=by
 have hM:=qah
 obtain⟨b0,b1,b2,b3⟩:=hp
 have h0:p.Name.length≤1048576:=b0
 have h1:=b1.1
 have h3:=b3.1
 refine qba (H:=[]) (qmgb (p.Cmds.length+1) ?_)
 unfold qpm qmrb
 simp only[fae,qam,Option.bind_some]
 rw[qee p.Cmds.length (fun n i=>qvm (p.Cmds.length+1+1) (p.Cmds.length+1+1) n (encL 2 MCmd.enc p.Cmds) p.Cmds.length i (bs p.Name) (qbj p.Uses) (encL 2 MNeed.enc p.Needs) (encL 2 MCmd.enc p.Cmds)) (keyI p.Cmds (·.Task) qnab)
  (some ([.one (Cell.bool (qcj p.Name&&((p.Uses.all qcj&&decide (p.Uses.length≤4))&&(asc p.Uses&&(qhv p.Needs&&decide (p.Cmds.length≤4))))))],[])) (some ([.one (Cell.bool false)],[])) ?_ ?_ _ (by omega)]
 ·generalize (List.range p.Cmds.length).all (keyI p.Cmds (·.Task) qnab)=a
  cases a<;>cases qcj p.Name<;>cases decide (p.Uses.length≤4)<;>cases p.Uses.all qcj<;>cases asc p.Uses<;>cases qhv p.Needs<;>cases decide (p.Cmds.length≤4)<;>rfl
 ·intro n i hlt
  obtain⟨f,hf⟩:∃ f,p.Cmds[i]?=some f:=⟨p.Cmds[i],List.getElem?_eq_getElem hlt⟩
  have hb:=b3.2 f (List.mem_of_getElem? hf)
  simp only[qvm,qam,qar,hf,MCmd.enc,Nat.zero_add,c_fap f hb,EV0]
  rw[decide_eq_true (by omega),cond_true,qag (by omega)]
  cases i with
  | zero=>
   rw[qfz hf,decide_eq_false (p:=((0:Nat):Int) > 0) (by omega)]
   cases qnab f<;>rfl
  | succ i=>
   obtain⟨g,hg⟩:∃ g,p.Cmds[i]?=some g:=⟨p.Cmds[i],List.getElem?_eq_getElem (by omega)⟩
   rw[qft hf hg,decide_eq_true (p:=((i+1:Nat):Int) > 0) (by omega),qbu (by omega)]
   simp only[qar,hf,hg,MCmd.enc,qbx,Nat.zero_add,qycb,qkjb,EV0]
   cases qnab f<;>cases lt g.Task f.Task<;>rfl
 ·intro n
  simp only[qvm,qvxc p.Name (by omega),show out qof [.one (qbj p.Uses),.one (Cell.int 4)]=_ from c_fay p.Uses b1 4,c_fas p.Uses (by omega),c_fba p.Needs b2,EV0]
  rw[decide_eq_false (by omega),cond_false,show decide ((p.Cmds.length:Int)≤4)=decide (p.Cmds.length≤4) from n_le _ 4]
  cases qcj p.Name<;>cases decide (p.Uses.length≤4)<;>cases p.Uses.all qcj<;>cases asc p.Uses<;>cases qhv p.Needs<;>rfl
theorem c_fbz (l:List MPack)(hl:bdL 1048576 (MPack.Bd 1048576) l):out qtb [.one (encL 4 MPack.enc l)]=some [.one (Cell.bool (qza l))]:=by
 have hM:=qah
 have hxl:=hl.1
 refine qba (H:=[]) (qmwb (l.length+1048577) ?_)
 unfold qza
 simp only[fbz]
 rw[qee l.length (fun n i=>qth (l.length+1048577+1) (l.length+1048577+1) n (encL 4 MPack.enc l) i) (qlyb l) (some ([.one (Cell.bool (decide (l.length≤6)))],[])) (some ([.one (Cell.bool false)],[])) ?_ ?_ _ (by omega)]
 ·exact qoeb _ _ _
 ·intro n i hlt
  obtain⟨f,hf⟩:∃ f,l[i]?=some f:=⟨l[i],List.getElem?_eq_getElem hlt⟩
  have hb:=hl.2 f (List.mem_of_getElem? hf)
  have hbl:=hb.2.1.1
  have inner:∀ (bl:Cell→Int→Option Res) (k m:Nat),qph k m bl (l.length+1048577+1) (encL 4 MPack.enc l) i 0=cond (f.Uses.all (qhcb l f.Name)) (bl (encL 4 MPack.enc l) ((i+1:Nat):Int)) (some ([.one (Cell.bool false)],[])):=by
   intro bl k m
   rw[qfb f.Uses (fun n j=>qph k m bl n (encL 4 MPack.enc l) i j) (qhcb l f.Name) (bl (encL 4 MPack.enc l) ((i+1:Nat):Int)) (some ([.one (Cell.bool false)],[])) ?_ ?_ _ (by omega)]
   ·intro n j x hx hjl
    simp only[qph,qar,hf,hx,MPack.enc,eStr,qbx,Nat.zero_add,c_fbv l (by omega) x,EV0]
    rw[decide_eq_true (by omega),cond_true,qag (by omega)]
    unfold qhcb
    cases decide (idxF (fun p:MPack=>p.Name==x) l 0 < 0)<;>cases x==f.Name<;>rfl
   ·intro n
    simp only[qph,qar,hf,MPack.enc,qbx,Nat.zero_add,EV0]
    rw[decide_eq_false (by omega),cond_false,qag (by omega)]
  simp only[qth,qam,qar,hf,MPack.enc,qbx,Nat.zero_add,c_fby f hb,inner,EV0]
  rw[decide_eq_true (by omega),cond_true]
  unfold qlyb
  rw[hf]
  simp only
  cases i with
  | zero=>
   rw[qfz hf,decide_eq_false (p:=((0:Nat):Int) > 0) (by omega)]
   cases qpm f<;>cases f.Uses.all (qhcb l f.Name)<;>rfl
  | succ i=>
   obtain⟨g,hg⟩:∃ g,l[i]?=some g:=⟨l[i],List.getElem?_eq_getElem (by omega)⟩
   rw[qft hf hg,decide_eq_true (p:=((i+1:Nat):Int) > 0) (by omega),qbu (by omega)]
   simp only[qar,hf,hg,MPack.enc,qbx,Nat.zero_add,qycb,EV0]
   cases qpm f<;>cases f.Uses.all (qhcb l f.Name)<;>cases lt g.Name f.Name<;>rfl
 ·intro n
  simp only[qth,qam,EV0]
  rw[decide_eq_false (by omega),cond_false,show decide ((l.length:Int)≤6)=decide (l.length≤6) from n_le l.length 6]
theorem c_faf (l:List MPack)(hl:bdL 1048576 (MPack.Bd 1048576) l):out qvk [.one (encL 4 MPack.enc l)]=some [.one (Cell.bool (qza l))]:=by
 have hM:=qah
 have hxl:=hl.1
 refine qba (H:=[]) (qhob (l.length+1048577) ?_)
 unfold qza
 simp only[faf,qam,Option.bind_some]
 rw[qee l.length (fun n i=>qvp (l.length+1048577+1) (l.length+1048577+1) n (encL 4 MPack.enc l) (encL 4 MPack.enc l) l.length i) (qlyb l) (some ([.one (Cell.bool (decide (l.length≤6)))],[])) (some ([.one (Cell.bool false)],[])) ?_ ?_ _ (by omega)]
 ·exact qoeb _ _ _
 ·intro n i hlt
  obtain⟨f,hf⟩:∃ f,l[i]?=some f:=⟨l[i],List.getElem?_eq_getElem hlt⟩
  have hb:=hl.2 f (List.mem_of_getElem? hf)
  have hbl:=hb.2.1.1
  have inner:∀ (bl:Cell→Cell→Int→Int→Option Res) (k m:Nat),qpt k m bl (l.length+1048577+1) (encL 4 MPack.enc l) (encL 4 MPack.enc l) l.length i (qbj f.Uses) f.Uses.length 0 (bs f.Name) (qbj f.Uses) (encL 2 MNeed.enc f.Needs) (encL 2 MCmd.enc f.Cmds)=cond (f.Uses.all (qhcb l f.Name)) (bl (encL 4 MPack.enc l) (encL 4 MPack.enc l) l.length ((i+1:Nat):Int)) (some ([.one (Cell.bool false)],[])):=by
   intro bl k m
   rw[qfb f.Uses (fun n j=>qpt k m bl n (encL 4 MPack.enc l) (encL 4 MPack.enc l) l.length i (qbj f.Uses) f.Uses.length j (bs f.Name) (qbj f.Uses) (encL 2 MNeed.enc f.Needs) (encL 2 MCmd.enc f.Cmds)) (qhcb l f.Name) (bl (encL 4 MPack.enc l) (encL 4 MPack.enc l) l.length ((i+1:Nat):Int)) (some ([.one (Cell.bool false)],[])) ?_ ?_ _ (by omega)]
   ·intro n j x hx hjl
    simp only[qpt,qar,hx,eStr,c_faa l (by omega) x,EV0]
    rw[decide_eq_true (by omega),cond_true,qag (by omega)]
    unfold qhcb
    cases decide (idxF (fun p:MPack=>p.Name==x) l 0 < 0)<;>cases x==f.Name<;>rfl
   ·intro n
    simp only[qpt]
    rw[decide_eq_false (by omega),cond_false,qag (by omega)]
  simp only[qvp,qam,qar,hf,MPack.enc,Nat.zero_add,c_fae f hb,EV0]
  rw[decide_eq_true (by omega),cond_true]
  unfold qlyb
  rw[hf]
  simp only
  cases i with
  | zero=>
   rw[qfz hf,decide_eq_false (p:=((0:Nat):Int) > 0) (by omega)]
   simp only[cond_false,inner]
   cases qpm f<;>cases f.Uses.all (qhcb l f.Name)<;>rfl
  | succ i=>
   obtain⟨g,hg⟩:∃ g,l[i]?=some g:=⟨l[i],List.getElem?_eq_getElem (by omega)⟩
   rw[qft hf hg,decide_eq_true (p:=((i+1:Nat):Int) > 0) (by omega),qbu (by omega)]
   simp only[qar,hf,hg,MPack.enc,qbx,Nat.zero_add,qycb,qkjb,inner,EV0]
   cases qpm f<;>cases f.Uses.all (qhcb l f.Name)<;>cases lt g.Name f.Name<;>rfl
 ·intro n
  simp only[qvp,qam,EV0]
  rw[decide_eq_false (by omega),cond_false,show decide ((l.length:Int)≤6)=decide (l.length≤6) from n_le l.length 6]
def curE (code:Str)(i:Nat)(h:Int):Entry:=Entry.mk 3 [[qil code,Cell.int i,Cell.int h]] 0 false
def Cur (H:List Entry)(id:Nat)(code:Str):Prop:=∃ i h,i≤code.length∧H[id]?=some (curE code i h)
structure Dr (id:Nat)(code:Str)(H H':List Entry):Prop where
 len:H.length≤H'.length
 old:∀ j,j≠id→j < H.length→H'[j]?=H[j]?
 cur:Cur H' id code
theorem Dr.refl {id:Nat}{code:Str}{H:List Entry}(h:Cur H id code):Dr id code H H:=⟨Nat.le_refl _,fun _ _ _=>rfl,h⟩
theorem Dr.trans {id:Nat}{code:Str}{H H1 H2:List Entry}(h:Dr id code H H1)(k:Dr id code H1 H2):Dr id code H H2:=
 ⟨Nat.le_trans h.len k.len,fun j hj hl=>by rw[k.old j hj (Nat.lt_of_lt_of_le hl h.len),h.old j hj hl],k.cur⟩
theorem Dr.app {id:Nat}{code:Str}{H:List Entry}(h:Cur H id code)(T:List Entry):Dr id code H (H++T):=by
 obtain⟨i,x,h1,h2⟩:=h
 have hid:id < H.length:=(List.getElem?_eq_some_iff.1 h2).1
 exact⟨by simp,fun j _ hj=>List.getElem?_append_left hj,i,x,h1,by rw[List.getElem?_append_left hid];exact h2⟩
structure DrN (N id:Nat)(code:Str)(H H':List Entry):Prop where
 len:H.length≤H'.length
 old:∀ j,j≠id→j < N→H'[j]?=H[j]?
 cur:Cur H' id code
theorem Dr.toN {id:Nat}{code:Str}{H H':List Entry}(h:Dr id code H H'){N:Nat}(hN:N≤H.length):DrN N id code H H':=⟨h.len,fun j hj hl=>h.old j hj (by omega),h.cur⟩
theorem DrN.trans {N id:Nat}{code:Str}{H H1 H2:List Entry}(h:DrN N id code H H1)(k:DrN N id code H1 H2):DrN N id code H H2:=
 ⟨Nat.le_trans h.len k.len,fun j hj hl=>by rw[k.old j hj hl,h.old j hj hl],k.cur⟩
theorem DrN.full {id:Nat}{code:Str}{H H':List Entry}(h:DrN H.length id code H H'):Dr id code H H':=⟨h.len,h.old,h.cur⟩
theorem and255 (x:Int):0≤andI .i64 x 255∧andI .i64 x 255≤255:=by
 unfold andI
 have h1:(BitVec.ofInt 64 x&&& BitVec.ofInt 64 255).toNat≤255:=by
  rw[BitVec.toNat_and]
  have:(BitVec.ofInt 64 255).toNat=255:=rfl
  rw[this]
  exact Nat.and_le_right
 have h2:IntKind.i64.wrap (((BitVec.ofInt 64 x&&& BitVec.ofInt 64 255).toNat:Nat):Int)=(((BitVec.ofInt 64 x&&& BitVec.ofInt 64 255).toNat:Nat):Int):=wrap_small (by omega) (by omega)
 show 0≤IntKind.i64.wrap (((BitVec.ofInt 64 x&&& BitVec.ofInt 64 255).toNat:Nat):Int)∧IntKind.i64.wrap (((BitVec.ofInt 64 x&&& BitVec.ofInt 64 255).toNat:Nat):Int)≤255
 rw[h2]
 omega
theorem qqh {id:Nat}{code:Str}{H:List Entry}(hc:Cur H id code)(hl:code.length≤1048576):∃ v H',qiy [.one (.ptr id 3 0 0 0)] H=some ([.one (Cell.int v)],H')∧Dr id code H H'∧0≤v∧v≤255:=by
 have hM:=qah
 obtain⟨i,h,hi,he⟩:=hc
 have hid:id < H.length:=(List.getElem?_eq_some_iff.1 he).1
 have dd:∀ (G:List Entry) (i':Nat) (h':Int) (j:Nat),G[id]?=some (curE code i' h')→deref G (.ptr id 3 0 j 0)=some ([qil code,Cell.int i',Cell.int h'],j):=fun G i' h' j hg=>by simp[deref,entry?,hg,curE]
 have st2:∀ (G:List Entry) (i':Nat) (h' v:Int),G[id]?=some (curE code i' h')→qbt G (.ptr id 3 0 2 0) [Cell.int v]=some (G.set id (curE code i' v)):=fun G i' h' v hg=>by simp[qbt,entry?,hg,curE,splice]
 have st1:∀ (G:List Entry) (i':Nat) (h':Int) (v:Nat),G[id]?=some (curE code i' h')→qbt G (.ptr id 3 0 1 0) [Cell.int v]=some (G.set id (curE code v h')):=fun G i' h' v hg=>by simp[qbt,entry?,hg,curE,splice]
 have g1:∀ x,(H.set id (curE code i x))[id]?=some (curE code i x):=fun x=>List.getElem?_set_self hid
 obtain⟨x,hx⟩:∃ x,x=IntKind.i64.wrap (IntKind.i64.wrap (h*6364136223846793005)+1442695040888963407):=⟨_,rfl⟩
 by_cases hlt:i < code.length
 ·refine⟨andI .i64 (IntKind.i64.wrap ((andI .i64 (xorI .i64 (shrI .i64 x 33) (shrI .i64 x 47)) 255)+IntKind.i64.wrap ((code[i]).toNat:Int))) 255,(H.set id (curE code i x)).set id (curE code (i+1) x),qrv 0 ?_,?_,and255 _⟩
  ·simp only[fci,ptrC,qlv,Nat.zero_add,dd H i h _ he,EV0]
   rw[← hx]
   clear hx
   simp only[st2 H i h _ he,dd _ i _ _ (g1 _),qam,EV0]
   rw[decide_eq_true (by omega),cond_true]
   simp only[qar,List.getElem?_eq_getElem hlt,qxhb,EV0]
   rw[qag (by omega),st1 _ i _ (i+1) (g1 _)]
   rfl
  ·rw[List.set_set]
   exact⟨by simp,fun j hj hjl=>by rw[List.getElem?_set_ne (Ne.symm hj)],i+1,_,by omega,List.getElem?_set_self hid⟩
 ·refine⟨andI .i64 (xorI .i64 (shrI .i64 x 33) (shrI .i64 x 47)) 255,H.set id (curE code i x),qrv 0 ?_,?_,and255 _⟩
  ·simp only[fci,ptrC,qlv,Nat.zero_add,dd H i h _ he,EV0]
   rw[← hx]
   clear hx
   simp only[st2 H i h _ he,dd _ i _ _ (g1 _),qam,EV0]
   rw[decide_eq_false (by omega),cond_false]
  ·exact⟨by simp,fun j hj hjl=>by rw[List.getElem?_set_ne (Ne.symm hj)],i,_,hi,List.getElem?_set_self hid⟩
theorem qagb (code:Str)(hl:code.length≤1048576)(H:List Entry):∃ h,qfn [.one (qil code)] H=some ([.one (.ptr H.length 3 0 0 0)],H++[curE code 0 h]):=by
 have hM:=qah
 have loop:∀ (r:Str) (i n:Nat) (x:Int),code.drop i=r→r.length < n→∀ k m,∃ h,qwj k m n (qil code) x i H=some ([.one (.ptr H.length 3 0 0 0)],H++[curE code 0 h]):=by
  intro r
  induction r with
  | nil=>
   intro i n x hd hn k m
   obtain⟨n,rfl⟩:∃ j,n=j+1:=⟨n - 1,by omega⟩
   have:=drop_nil hd
   refine⟨x,?_⟩
   simp only[qwj,qam,Option.bind_some]
   rw[decide_eq_false (by omega),cond_false]
   rfl
  | cons b r ih=>
   intro i n x hd hn k m
   obtain⟨n,rfl⟩:∃ j,n=j+1:=⟨n - 1,by omega⟩
   obtain⟨hlt,hx,hd'⟩:=qas hd
   simp only[List.length_cons] at hn
   simp only[qwj,qam,Option.bind_some]
   rw[decide_eq_true (by omega),cond_true]
   by_cases h4:i < 4000
   ·rw[decide_eq_true (by omega),cond_true]
    simp only[qar,hx,qxhb,EV0]
    rw[qag (by omega)]
    exact ih (i+1) n _ hd' (by omega) k m
   ·rw[decide_eq_false (by omega),cond_false]
    exact⟨x,rfl⟩
 obtain⟨h,e⟩:=loop code 0 (code.length+1+1) (IntKind.i64.wrap (778778+(code.length:Int))) rfl (by omega) (code.length+1+1) (code.length+1+1)
 refine⟨h,qgvb (code.length+1) ?_⟩
 rw[show((0:Nat):Int)=0 from rfl] at e
 have hle:lenC (qil code)=some code.length:=qam ..
 unfold fcm
 rw[hle,Option.bind_some]
 exact e
theorem Cur.new (code:Str)(h:Int)(H:List Entry):Cur (H++[curE code 0 h]) H.length code:=⟨0,h,Nat.zero_le _,by simp⟩
theorem qcu {id:Nat}{code:Str}{H:List Entry}(hc:Cur H id code)(hl:code.length≤1048576)(n:Nat)(h0:0 < n)(hn:n≤1073741824):∃ (v:Nat) (H':List Entry),qce [.one (.ptr id 3 0 0 0),.one (Cell.int n)] H=some ([.one (Cell.int (v:Int))],H')∧Dr id code H H'∧v < n:=by
 have hM:=qah
 have hne:(n:Int)≠0:=by omega
 by_cases h2:n≤256
 ·obtain⟨v,H',e,d,v0,v1⟩:=qqh hc hl
  obtain⟨v,rfl⟩:∃ w:Nat,v=(w:Int):=⟨v.toNat,by omega⟩
  refine⟨v % n,H',qsl 0 ?_,d,Nat.mod_lt _ h0⟩
  simp only[fch,e,EV0]
  rw[decide_eq_false (by omega),cond_false,decide_eq_true (by omega),cond_true,if_neg hne,Int.tmod_eq_emod_of_nonneg v0]
  rfl
 ·obtain⟨v,H1,e1,d1,v0,v1⟩:=qqh hc hl
  obtain⟨x,H2,e2,d2,x0,x1⟩:=qqh d1.cur hl
  obtain⟨y,H3,e3,d3,y0,y1⟩:=qqh d2.cur hl
  obtain⟨v,rfl⟩:∃ w:Nat,v=(w:Int):=⟨v.toNat,by omega⟩
  obtain⟨x,rfl⟩:∃ w:Nat,x=(w:Int):=⟨x.toNat,by omega⟩
  obtain⟨y,rfl⟩:∃ w:Nat,y=(w:Int):=⟨y.toNat,by omega⟩
  refine⟨(v*65536+x*256+y) % n,H3,qsl 0 ?_,d1.trans (d2.trans d3),Nat.mod_lt _ h0⟩
  simp only[fch,e1,e2,e3,EV0]
  rw[decide_eq_false (by omega),cond_false,decide_eq_false (by omega),cond_false,if_neg hne,wrap_small (n:=(v:Int)*65536) (by omega) (by omega),wrap_small (n:=(x:Int)*256) (by omega) (by omega),wrap_small (n:=(v:Int)*65536+(x:Int)*256) (by omega) (by omega),wrap_small (by omega) (by omega),Int.tmod_eq_emod_of_nonneg (by omega),
   show(v:Int)*65536+(x:Int)*256+(y:Int)=((v*65536+x*256+y:Nat):Int) by omega]
  rfl
theorem qmp {id:Nat}{code:Str}{H:List Entry}(hc:Cur H id code)(hl:code.length≤1048576)(n:Nat)(h0:0 < n)(hn:n≤1073741824):∃ (b:Bool) (H':List Entry),qfi [.one (.ptr id 3 0 0 0),.one (Cell.int n)] H=some ([.one (Cell.bool b)],H')∧Dr id code H H':=by
 obtain⟨v,H',e,d,_⟩:=qcu hc hl n h0 hn
 refine⟨((v:Int)==0),H',qimb 0 ?_,d⟩
 simp only[fcn,e,EV0]
theorem qen {id:Nat}{code:Str}{H:List Entry}(hc:Cur H id code)(hl:code.length≤1048576)(f:Bool)(xs:List Str)(h0:0 < xs.length)(hn:xs.length≤1073741824):∃ s H',qbw [.one (.ptr id 3 0 0 0),.one (.lst f 1 (xs.map eStr))] H=some ([.one (Cell.str (bs s))],H')∧Dr id code H H'∧s∈xs:=by
 obtain⟨v,H',e,d,hv⟩:=qcu hc hl xs.length h0 hn
 refine⟨xs[v],H',qrx 0 ?_,d,List.getElem_mem hv⟩
 have hi:idxA 1 (.lst f 1 (xs.map eStr)) (v:Int)=some (.ref (eStr xs[v]) 0):=by rw[qfp,List.getElem?_map,List.getElem?_eq_getElem hv];rfl
 simp only[fcp,lenC,List.length_map,e,hi,eStr,EV0]
theorem qngc (a b:Nat):(((a:Nat):Int)==((b:Nat):Int))=(a==b):=by
 rw[Bool.eq_iff_iff,beq_iff_eq,beq_iff_eq]
 omega
def OwnM (lo hi:Nat)(H:List Entry)(n:Nat)(c:Cell)(t:Tr):Prop:=∃ ids,Rep H true true n ids c t∧Mine lo hi ids∧qco c
def OwnS (lo hi:Nat)(H:List Entry)(n:Nat)(cs:List Cell)(ts:List Tr):Prop:=∃ ids,Sp (Rep H true true n) ids cs ts∧Mine lo hi ids
theorem OwnM.nil (sz lo hi:Nat)(n:Nat)(H:List Entry)(h:lo≤hi):OwnM lo hi H (n+1) (.lst true sz []) (.list sz []):=⟨[],.inl ⟨rfl,rfl,true,rfl⟩,Mine.nil h,qdg _⟩
theorem Mine.wide {lo hi lo' hi':Nat}{ids:List Nat}(h:Mine lo hi ids)(h1:lo'≤lo)(h2:hi≤hi'):Mine lo' hi' ids:=⟨by have:=h.le;omega,h.nd,fun j hj=>by have:=h.lo j hj;omega,fun j hj=>by have:=h.hi j hj;omega⟩
theorem Mine.swap {lo hi:Nat}{a b:List Nat}(h:Mine lo hi (a++b)):Mine lo hi (b++a):=
 ⟨h.le,by have:=h.nd;rw[List.nodup_append] at this ⊢;exact⟨this.2.1,this.1,fun x hx y hy e=>this.2.2 y hy x hx e.symm⟩,fun j hj=>h.lo j (by simp at hj ⊢;exact hj.symm),fun j hj=>h.hi j (by simp at hj ⊢;exact hj.symm)⟩
theorem OwnM.wide {lo hi lo' hi' n:Nat}{H:List Entry}{c:Cell}{t:Tr}(h:OwnM lo hi H n c t)(h1:lo'≤lo)(h2:hi≤hi'):OwnM lo' hi' H n c t:=by
 obtain⟨ids,a,b,d⟩:=h
 exact⟨ids,a,b.wide h1 h2,d⟩
theorem OwnM.frame {lo hi n id N:Nat}{code:Str}{H H':List Entry}{c:Cell}{t:Tr}(h:OwnM lo hi H n c t)(d:DrN N id code H H')(hid:id < lo)(hN:hi≤N):OwnM lo hi H' n c t:=by
 obtain⟨ids,a,b,e⟩:=h
 exact⟨ids,a.frame fun j hj=>d.old j (fun h=>by have:=b.lo j hj;omega) (by have:=b.hi j hj;omega),b,e⟩
theorem OwnM.s1 {lo hi n:Nat}{H:List Entry}{c:Cell}{t:Tr}(h:OwnM lo hi H n c t):OwnS lo hi H n [c] [t]:=by
 obtain⟨ids,a,b,_⟩:=h
 exact⟨ids++[],.cons a .nil,by simpa using b⟩
theorem OwnS.leaf {lo hi n:Nat}{H:List Entry}{v:Value}{cs:List Cell}{ts:List Tr}(h:OwnS lo hi H (n+1) cs ts):OwnS lo hi H (n+1) (.sc v::cs) (.leaf v::ts):=by
 obtain⟨ids,a,b⟩:=h
 exact⟨[]++ids,.cons ⟨rfl,rfl⟩ a,by simpa using b⟩
theorem qem (H:List Entry)(sz:Nat)(row:List Cell):qal (H++[Entry.mk sz [row] 0 false]) sz (.vs H.length sz 0 1 0)=some [row]:=by simp[qal,rowsOf,entry?]
theorem OwnM.push {lo mid n sz by' id:Nat}{code:Str}{H:List Entry}{c:Cell}{trs:List (List Tr)}{row:List Cell}{tr:List Tr}(h:OwnM lo mid H (n+1) c (.list sz trs))(hr:OwnS mid H.length H n row tr)(hrl:row.length=sz)
  (hc:Cur H id code) (hid:id < lo) (hlen:trs.length≤1048576) (hby:by'≤1000):
  ∃ p:Cell×List Entry,app (H++[Entry.mk sz [row] 0 false]) sz by' c [row]=some p∧OwnM lo p.2.length p.2 (n+1) p.1 (.list sz (trs++[tr]))∧DrN lo id code H p.2:=by
 obtain⟨ids,h1,h2,h3⟩:=h
 obtain⟨js,k1,k2⟩:=hr
 have hb:(trs.length+1)*by'≤1048577*1000:=Nat.mul_le_mul (by omega) hby
 obtain⟨d,H',ids',a,r,nl,nd,g,m,k,_⟩:=(h1.app [Entry.mk sz [row] 0 false]).append (by':=by') (ys:=[row]) (tys:=[tr]) (js:=js++[]) h3 h2.nd (.cons (Rep.app2 _ k1) .nil) (by intro r hr;simp at hr;rw[hr];exact hrl) (by simpa using k2.nd) (fun j hj h=>by
  have e1:=h2.hi j hj
  have e2:=k2.lo j (by simpa using h)
  omega) (by simp[bound];omega) (by simp[bound];omega)
 obtain⟨i,x,hi,he⟩:=hc
 have hidl:id < H.length:=(List.getElem?_eq_some_iff.1 he).1
 have hm:H.length+1≤H'.length:=by simpa using m
 have hle:=k2.le
 have hle2:=h2.le
 have old:∀ j,j < H.length→j∉ids→H'[j]?=H[j]?:=fun j hj hn=>by rw[k j (by simp;omega) hn,List.getElem?_append_left hj]
 refine⟨(d,H'),a,⟨ids',r,⟨by show lo≤H'.length;omega,nd,fun j hj=>?_,r.lt⟩,nl⟩,by show H.length≤H'.length;omega,fun j hj hl=>old j (by omega) fun h=>by have:=h2.lo j h;omega,i,x,hi,?_⟩
 ·rcases g j hj with h | h | h
  ·exact h2.lo j h
  ·have:=k2.lo j (by simpa using h)
   omega
  ·simp at h
   omega
 ·simp only
  rw[old id hidl fun h=>by have:=h2.lo id h;omega]
  exact he
def VecN (H:List Entry)(ids:List Nat)(c:Cell)(sz:Nat)(rows:List (List Cell)):Prop:=(rows=[]∧ids=[]∧c=.lst true sz [])∨∃ j ep,ids=[j]∧c=.vs j sz 0 rows.length ep∧H[j]?=some ⟨sz,rows,ep,false⟩
theorem VecN.nil (H:List Entry)(sz:Nat):VecN H [] (.lst true sz []) sz []:=.inl ⟨rfl,rfl,rfl⟩
theorem VecN.frame {H H':List Entry}{ids:List Nat}{c:Cell}{sz:Nat}{rows:List (List Cell)}(h:VecN H ids c sz rows)(k:∀ j∈ids,H'[j]?=H[j]?):VecN H' ids c sz rows:=by
 rcases h with h | ⟨j,ep,rfl,rfl,h⟩
 ·exact .inl h
 ·exact .inr ⟨j,ep,rfl,rfl,by rw[k j (by simp)];exact h⟩
theorem VecN.lt {H:List Entry}{ids:List Nat}{c:Cell}{sz:Nat}{rows:List (List Cell)}(h:VecN H ids c sz rows):∀ j∈ids,j < H.length:=by
 rcases h with⟨_,rfl,_⟩ | ⟨j,ep,rfl,rfl,h⟩
 ·simp
 ·intro k hk
  simp at hk
  subst hk
  exact(List.getElem?_eq_some_iff.1 h).1
theorem VecN.len {H:List Entry}{ids:List Nat}{c:Cell}{sz:Nat}{rows:List (List Cell)}(h:VecN H ids c sz rows):lenC c=some rows.length:=by
 rcases h with⟨rfl,_,rfl⟩ | ⟨j,ep,rfl,rfl,h⟩<;>simp[lenC]
theorem VecN.at {H:List Entry}{ids:List Nat}{c:Cell}{sz:Nat}{rows:List (List Cell)}(h:VecN H ids c sz rows){i:Nat}{r:List Cell}(hr:rows[i]?=some r):∃ a,idxA sz c (i:Int)=some a∧∀ f,∃ a',fldA a f=some a'∧deref H a'=some (r,f):=by
 rcases h with⟨rfl,_,_⟩ | ⟨j,ep,rfl,rfl,h⟩
 ·simp at hr
 ·exact⟨.ptr j sz i 0 ep,qhq _ _ _ _ _ (List.getElem?_eq_some_iff.1 hr).1,fun f=>⟨.ptr j sz i f ep,by rw[qlv,Nat.zero_add],by simp[deref,entry?,h,hr]⟩⟩
theorem VecN.tail {H:List Entry}{ids:List Nat}{c:Cell}{sz:Nat}{rows:List (List Cell)}(h:VecN H ids c sz rows){n:Nat}(hn:n≤rows.length):
  ∃ c',slcC sz c (n:Int) none none=some c'∧∀ H',(∀ j∈ids,H'[j]?=H[j]?)→qal H' sz c'=some (rows.drop n):=by
 rcases h with⟨rfl,_,rfl⟩ | ⟨j,ep,rfl,rfl,h⟩
 ·simp at hn
  subst hn
  exact⟨.lst (qhib true none 0 0) sz [],by simp[slcC],fun H' _=>by simp[qal,rowsOf]⟩
 ·by_cases e:n=0∨n < rows.length
  ·refine⟨.vs j sz (0+n) (rows.length - n) ep,?_,fun H' k=>?_⟩
   ·simp only[slcC,Option.getD_none,if_true]
    rw[if_pos (by omega),if_pos (by omega)]
    simp only[Int.toNat_natCast,Nat.zero_add,Option.some.injEq,Cell.vs.injEq,true_and,and_true]
    omega
   ·have:=k j (by simp)
    rw[h] at this
    simp only[qal,rowsOf,if_true,entry?,this]
    rw[if_pos (by omega)]
    simp only[Nat.zero_add,Option.some.injEq]
    exact List.take_of_length_le (by simp)
  ·refine⟨.lst false sz [],?_,fun H' k=>?_⟩
   ·simp only[slcC,Option.getD_none,if_true]
    rw[if_pos (by omega),if_neg (by omega)]
   ·simp only[qal,rowsOf,if_true]
    rw[List.drop_eq_nil_of_le (by omega)]
theorem VecN.head {H:List Entry}{ids:List Nat}{c:Cell}{sz:Nat}{rows:List (List Cell)}(h:VecN H ids c sz rows){n:Nat}(hn:n≤rows.length):
  ∃ c',slcC sz c 0 (some (n:Int)) none=some c'∧∀ H',(∀ j∈ids,H'[j]?=H[j]?)→qal H' sz c'=some (rows.take n):=by
 rcases h with⟨rfl,_,rfl⟩ | ⟨j,ep,rfl,rfl,h⟩
 ·simp at hn
  subst hn
  exact⟨.lst (qhib true none 0 0) sz [],by simp[slcC],fun H' _=>by simp[qal,rowsOf]⟩
 ·refine⟨.vs j sz 0 n ep,?_,fun H' k=>?_⟩
  ·simp only[slcC,Option.getD_some,Option.getD_none,if_true]
   rw[if_pos ⟨by omega,by omega,by omega,Int.le_refl _⟩,if_pos (.inl trivial)]
   simp
  ·have:=k j (by simp)
   rw[h] at this
   simp only[qal,rowsOf,if_true,entry?,this]
   rw[if_pos (by omega)]
   simp
theorem VecN.app {H:List Entry}{ids:List Nat}{c:Cell}{sz by':Nat}{rows:List (List Cell)}(h:VecN H ids c sz rows)(ys:List (List Cell))(hl:rows.length+ys.length≤1048576)(hby:by'≤1000):
  ∃ (p:Cell×List Entry) (ids':List Nat),app H sz by' c ys=some p∧VecN p.2 ids' p.1 sz (rows++ys)∧(∀ j,j < H.length→j∉ids→p.2[j]?=H[j]?)∧H.length≤p.2.length∧(∀ j∈ids',j∈ids∨H.length≤j):=by
 have hb:(rows.length+ys.length)*by'≤1048576*1000:=Nat.mul_le_mul hl hby
 rcases h with⟨rfl,rfl,rfl⟩ | ⟨j,ep,rfl,rfl,h⟩
 ·cases ys with
  | nil=>exact⟨(_,H),[],by simp[Ev.app],.inl ⟨rfl,rfl,rfl⟩,fun _ _ _=>rfl,Nat.le_refl _,by simp⟩
  | cons y ys=>
   simp only[List.length_nil] at hl hb
   refine⟨(.vs H.length sz 0 (0+(y::ys).length) 0,H++[⟨sz,[]++(y::ys),0,false⟩]),[H.length],?_,.inr ⟨H.length,0,rfl,by simp,by simp⟩,fun j hj _=>List.getElem?_append_left hj,by simp,by simp⟩
   simp only[Ev.app,List.isEmpty_cons,List.length_nil]
   rw[if_neg (by simp),if_pos ⟨trivial,.inr trivial,by unfold bound;omega,by unfold bound;omega⟩]
 ·have hj:=(List.getElem?_eq_some_iff.1 h).1
  refine⟨(.vs j sz 0 (rows.length+ys.length) (ep+1),H.set j ⟨sz,rows++ys,ep+1,false⟩),[j],?_,.inr ⟨j,ep+1,rfl,by simp,List.getElem?_set_self hj⟩,fun k hk hn=>List.getElem?_set_ne (fun e=>hn (by simp[e])),by simp,fun k hk=>.inl hk⟩
  simp only[Ev.app,entry?,h,if_true]
  rw[if_pos ⟨trivial,by simp,.inr trivial,by unfold bound;omega,by unfold bound;omega⟩]
  simp
theorem ins_ok {β:Type}{H:List Entry}{ids:List Nat}{c:Cell}{rows:List (List Cell)}(h:VecN H ids c 2 rows){n:Nat}(hn:n≤rows.length)(row:List Cell)(hl:rows.length≤1000)(K:Cell×List Entry→Option β):
  ∃ (p:Cell×List Entry) (ids':List Nat),((slcC 2 c (n:Int) none none).bind fun c1=>(qal H 2 c1).bind fun r1=>(app H 2 32 (.lst true 2 []) r1).bind fun p1=>(slcC 2 c 0 (some (n:Int)) none).bind fun c2=>(qal p1.2 2 c2).bind fun r2=>
   (app p1.2 2 32 (.lst true 2 []) r2).bind fun p2=>(app p2.2 2 32 p2.1 [row]).bind fun p3=>(qal p3.2 2 p1.1).bind fun r3=>(app p3.2 2 32 p3.1 r3).bind K)=K p∧
   VecN p.2 ids' p.1 2 (rows.take n++row::rows.drop n)∧(∀ j,j < H.length→p.2[j]?=H[j]?)∧H.length≤p.2.length∧∀ j∈ids',H.length≤j:=by
 have hlt:=h.lt
 obtain⟨c1,e1,s1⟩:=h.tail hn
 obtain⟨c2,e2,s2⟩:=h.head hn
 obtain⟨p1,i1,a1,v1,f1,l1,m1⟩:=(VecN.nil H 2).app (by':=32) (rows.drop n) (by simp;omega) (by omega)
 obtain⟨p2,i2,a2,v2,f2,l2,m2⟩:=(VecN.nil p1.2 2).app (by':=32) (rows.take n) (by simp;omega) (by omega)
 obtain⟨p3,i3,a3,v3,f3,l3,m3⟩:=v2.app (by':=32) [row] (by simp;omega) (by omega)
 simp only[List.nil_append] at v1 v2 v3
 have hi1:=v1.lt
 have q3:∀ j∈i1,p3.2[j]?=p1.2[j]?:=fun j hj=>by
  have:=hi1 j hj
  rw[f3 j (by omega) fun h=>by
   rcases m2 j h with h | h
   ·simp at h
   ·omega,f2 j this (by simp)]
 have v1':=v1.frame q3
 have s3:qal p3.2 2 p1.1=some (rows.drop n):=by
  rcases v1' with⟨hd,_,hc⟩ | ⟨j,ep,_,hc,he⟩
  ·rw[hc,hd];simp[qal,rowsOf]
  ·rw[hc]
   simp[qal,rowsOf,entry?,he]
   exact List.take_of_length_le (by simp)
 obtain⟨p4,i4,a4,v4,f4,l4,m4⟩:=v3.app (by':=32) (rows.drop n) (by simp;omega) (by omega)
 have low3:∀ j∈i3,H.length≤j:=fun j hj=>by
  rcases m3 j hj with h | h
  ·rcases m2 j h with h | h
   ·simp at h
   ·omega
  ·omega
 refine⟨p4,i4,?_,?_,fun j hj=>?_,by omega,fun j hj=>?_⟩
 ·rw[e1,Option.bind_some,s1 H fun _ _=>rfl,Option.bind_some,a1,Option.bind_some,e2,Option.bind_some,s2 p1.2 fun j hj=>f1 j (hlt j hj) (by simp),Option.bind_some,a2,Option.bind_some,a3,Option.bind_some,s3,Option.bind_some,a4,Option.bind_some]
 ·simpa using v4
 ·rw[f4 j (by omega) fun h=>by have:=low3 j h;omega,f3 j (by omega) fun h=>by
   rcases m2 j h with h | h
   ·simp at h
   ·omega,f2 j (by omega) (by simp),f1 j hj (by simp)]
 ·rcases m4 j hj with h | h
  ·exact low3 j h
  ·omega
def qldb (n:MNeed):Prop:=n.Name.length≤20∧n.Range.length≤20
def qffb (c:MCmd):Prop:=c.Task.length≤20∧c.Acts.length≤3∧(∀ a∈c.Acts,a.length≤100)∧c.Acts≠[]
def qqi (p:MPack):Prop:=p.Name.length≤20∧(p.Uses.length≤4∧∀ u∈p.Uses,u.length≤20)∧(p.Needs.length≤3∧∀ n∈p.Needs,qldb n)∧(p.Cmds.length≤3∧∀ c∈p.Cmds,qffb c)
theorem qdjb {id:Nat}{code:Str}{H:List Entry}(hc:Cur H id code)(hl:code.length≤1048576):∃ (n:MNeed) (H':List Entry),qrz [.one (.ptr id 3 0 0 0)] H=some ([.agg [Cell.str (bs n.Name),Cell.str (bs n.Range)]],H')∧Dr id code H H'∧qldb n:=by
 obtain⟨s1,G1,e1,d1,m1⟩:=qen hc hl true [[108,105,98],[108,111,103],[110,101,116],[122,105,112]] (by simp) (by simp)
 obtain⟨s2,G2,e2,d2,m2⟩:=qen d1.cur hl true [[42],[94,49,46,48,46,48],[126,49,46,49],[62,61,49],[60,50],[49,46,120],[48,46,120,32,124,124,32,50,46,120],[94,48,46,49,46,48]] (by simp) (by simp)
 have h1:s1.length≤20:=(by decide:∀ s∈([[108,105,98],[108,111,103],[110,101,116],[122,105,112]]:List Str),s.length≤20) s1 m1
 have h2:s2.length≤20:=(by decide:∀ s∈([[42],[94,49,46,48,46,48],[126,49,46,49],[62,61,49],[60,50],[49,46,120],[48,46,120,32,124,124,32,50,46,120],[94,48,46,49,46,48]]:List Str),s.length≤20) s2 m2
 simp only[List.map_cons,List.map_nil,eStr] at e1 e2
 refine⟨⟨s1,s2⟩,G2,qlib 0 ?_,d1.trans d2,h1,h2⟩
 simp only[fdp,e1,e2,EV0]
theorem quf {id:Nat}{code:Str}{H:List Entry}(hc:Cur H id code)(hl:code.length≤1048576):∃ (l:List MNeed) (c:Cell) (ids:List Nat) (H':List Entry),qti [.one (.ptr id 3 0 0 0)] H=some ([.one c],H')∧Dr id code H H'∧
  VecN H' ids c 2 (l.map MNeed.enc)∧(∀ j∈ids,H.length≤j)∧l.length≤3∧∀ n∈l,qldb n:=by
 have hM:=qah
 have hid:id < H.length:=by obtain⟨i,x,_,he⟩:=hc;exact(List.getElem?_eq_some_iff.1 he).1
 have inner:∀ (b:Cell→Cell→Int→List Entry→Option Res) (q:Int) (nd:MNeed) (l:List MNeed) (c:Cell) (ids:List Nat) (G:List Entry),VecN G ids c 2 (l.map MNeed.enc)→(∀ j∈ids,H.length≤j)→l.length≤1000→H.length≤G.length→Cur G id code→∀ (e i n:Nat),i+e=l.length→e < n→∀ k m,
   ∃ (c':Cell) (ids':List Nat) (G':List Entry) (l':List MNeed),qxu k m b n (.ptr id 3 0 0 0) c q i (bs nd.Name) (bs nd.Range) G=b (.ptr id 3 0 0 0) c' (IntKind.i64.wrap (q - 1)) G'∧VecN G' ids' c' 2 (l'.map MNeed.enc)∧(∀ j∈ids',H.length≤j)∧Dr id code G G'∧l'.length≤l.length+1∧∀ x∈l',x=nd∨x∈l:=by
  intro b q nd l c ids G hv hlo hll hG hcur e
  have hcur':=hcur
  have ins:∀ i,i≤l.length→∃ (c':Cell) (ids':List Nat) (G':List Entry) (l':List MNeed),((slcC 2 c (i:Int) none none).bind fun c1=>(qal G 2 c1).bind fun r1=>(app G 2 32 (.lst true 2 []) r1).bind fun p1=>(slcC 2 c 0 (some (i:Int)) none).bind fun c2=>(qal p1.2 2 c2).bind fun r2=>
    (app p1.2 2 32 (.lst true 2 []) r2).bind fun p2=>(app p2.2 2 32 p2.1 [[Cell.str (bs nd.Name),Cell.str (bs nd.Range)]]).bind fun p3=>(qal p3.2 2 p1.1).bind fun r3=>(app p3.2 2 32 p3.1 r3).bind fun p4=>b (.ptr id 3 0 0 0) p4.1 (IntKind.i64.wrap (q - 1)) p4.2)=b (.ptr id 3 0 0 0) c' (IntKind.i64.wrap (q - 1)) G'∧
    VecN G' ids' c' 2 (l'.map MNeed.enc)∧(∀ j∈ids',H.length≤j)∧Dr id code G G'∧l'.length≤l.length+1∧∀ x∈l',x=nd∨x∈l:=fun i hi=>by
   obtain⟨p,ids',z1,z2,z3,z4,z5⟩:=ins_ok hv (n:=i) (by simpa using hi) [Cell.str (bs nd.Name),Cell.str (bs nd.Range)] (by simpa using hll) (fun p4=>b (.ptr id 3 0 0 0) p4.1 (IntKind.i64.wrap (q - 1)) p4.2)
   obtain⟨i0,x0,h0,he0⟩:=hcur'
   refine⟨p.1,ids',p.2,l.take i++nd::l.drop i,z1,by simpa[MNeed.enc,List.map_take,List.map_drop] using z2,fun j hj=>by have:=z5 j hj;omega,⟨z4,fun j _ hj=>z3 j hj,i0,x0,h0,by rw[z3 id (by omega)];exact he0⟩,by simp;omega,fun x hx=>?_⟩
   rcases List.mem_append.1 hx with h | h
   ·exact .inr (List.mem_of_mem_take h)
   ·rcases List.mem_cons.1 h with h | h
    ·exact .inl h
    ·exact .inr (List.mem_of_mem_drop h)
  induction e with
  | zero=>
   intro i n hi hn k m
   obtain⟨n,rfl⟩:∃ j,n=j+1:=⟨n - 1,by omega⟩
   have hlc:=hv.len
   rw[List.length_map] at hlc
   simp only[qxu,hlc,Option.bind_some]
   rw[decide_eq_false (by omega),cond_false,qngc,show(i==l.length)=true by simp;omega,cond_true]
   exact ins i (by omega)
  | succ e ih=>
   intro i n hi hn k m
   obtain⟨n,rfl⟩:∃ j,n=j+1:=⟨n - 1,by omega⟩
   have hlc:=hv.len
   rw[List.length_map] at hlc
   obtain⟨x,hx⟩:∃ x,l[i]?=some x:=⟨_,List.getElem?_eq_getElem (by omega)⟩
   obtain⟨a,a1,a2⟩:=hv.at (i:=i) (r:=MNeed.enc x) (by rw[List.getElem?_map,hx];rfl)
   obtain⟨a',a3,a4⟩:=a2 0
   simp only[MNeed.enc] at a4
   simp only[qxu,hlc,Option.bind_some]
   rw[decide_eq_true (by omega),cond_true]
   simp only[a1,a3,a4,qcm,qag (show i < maxLen by omega),EV0]
   cases Op.bytesLess x.Name nd.Name with
   | true=>exact ih (i+1) n (by omega) (by omega) k m
   | false=>
    rw[cond_false,qngc,show(i==l.length)=false by simp;omega,cond_false]
    cases x.Name==nd.Name with
    | true=>exact⟨c,ids,G,l,rfl,hv,hlo,Dr.refl hcur,by omega,fun x hx=>.inr hx⟩
    | false=>
     rw[Bool.not_false,cond_true]
     exact ins i (by omega)
 have loop:∀ (d n:Nat) (l:List MNeed) (c:Cell) (ids:List Nat) (G:List Entry),d < n→VecN G ids c 2 (l.map MNeed.enc)→(∀ j∈ids,H.length≤j)→l.length+d≤3→(∀ x∈l,qldb x)→Dr id code H G→∀ k m,1000≤m→
   ∃ (l':List MNeed) (c':Cell) (ids':List Nat) (H':List Entry),qsj k m n (.ptr id 3 0 0 0) c (d:Int) G=some ([.one c'],H')∧Dr id code H H'∧VecN H' ids' c' 2 (l'.map MNeed.enc)∧(∀ j∈ids',H.length≤j)∧l'.length≤3∧∀ n∈l',qldb n:=by
  intro d
  induction d with
  | zero=>
   intro n l c ids G hn hv hlo hll hs hd k m hm
   obtain⟨n,rfl⟩:∃ j,n=j+1:=⟨n - 1,by omega⟩
   refine⟨l,c,ids,G,?_,hd,hv,hlo,by omega,hs⟩
   simp only[qsj]
   rw[decide_eq_false (by omega),cond_false]
  | succ d ih=>
   intro n l c ids G hn hv hlo hll hs hd k m hm
   obtain⟨n,rfl⟩:∃ j,n=j+1:=⟨n - 1,by omega⟩
   obtain⟨nd,G1,e1,d1,s1⟩:=qdjb hd.cur hl
   have hv1:VecN G1 ids c 2 (l.map MNeed.enc):=hv.frame fun j hj=>d1.old j (fun e=>by have:=hlo j hj;omega) (hv.lt j hj)
   obtain⟨c2,ids2,G2,l2,e2,v2,lo2,d2,ll2,m2⟩:=inner (qsj k m n) ((d+1:Nat):Int) nd l c ids G1 hv1 hlo (by omega) (by have:=hd.len;have:=d1.len;omega) d1.cur l.length 0 m (by omega) (by omega) k m
   obtain⟨l',c',ids',H',e3,r⟩:=ih n l2 c2 ids2 G2 (by omega) v2 lo2 (by omega) (fun x hx=>by
    rcases m2 x hx with rfl | h
    ·exact s1
    ·exact hs x h) (hd.trans (d1.trans d2)) k m hm
   refine⟨l',c',ids',H',?_,r⟩
   simp only[qsj]
   rw[decide_eq_true (by omega),cond_true]
   simp only[e1,EV0]
   rw[show((0:Nat):Int)=0 from rfl] at e2
   rw[e2,qbu (by omega)]
   exact e3
 obtain⟨v,G2,e2,d2,hv⟩:=qcu hc hl 3 (by omega) (by omega)
 obtain⟨l',c',ids',H',e3,r⟩:=loop v 1000 [] (.lst true 2 []) [] G2 (by omega) (VecN.nil _ _) (by simp) (by simp;omega) (by simp) d2 1000 1000 (by omega)
 refine⟨l',c',ids',H',qjcb 999 ?_,r⟩
 rw[show((3:Nat):Int)=3 from rfl] at e2
 simp only[fdl,e2,EV0]
 exact e3
theorem VecN.own {lo hi:Nat}{H:List Entry}{ids:List Nat}{c:Cell}{l:List MNeed}(h:VecN H ids c 2 (l.map MNeed.enc))(hlo:∀ j∈ids,lo≤j)(hh:H.length≤hi)(hl:lo≤hi):OwnM lo hi H 2 c (trL 2 MNeed.tr l):=by
 have hlt:=h.lt
 rcases h with⟨h1,rfl,rfl⟩ | ⟨j,ep,rfl,rfl,h⟩
 ·simp only[List.map_eq_nil_iff] at h1
  subst h1
  exact OwnM.nil 2 lo hi 1 H hl
 ·refine⟨[j],.inr ⟨j,0,ep,l.map MNeed.enc,false,[],by simp,rfl,h,fun _=>rfl,fun _=>⟨rfl,by simp⟩,by simp,?_,?_⟩,⟨hl,by simp,fun k hk=>hlo k hk,fun k hk=>by have:=hlt k hk;omega⟩,qcb _ _ _ _ _⟩
  ·intro r hr
   obtain⟨x,hx,rfl⟩:=List.mem_map.1 hr
   rfl
  ·rw[List.drop_zero,List.take_of_length_le (by simp)]
   clear hlt h hlo
   induction l with
   | nil=>exact .nil
   | cons y ys ih=>
    refine .cons (i:=[]) (is:=[]) ?_ ih
    unfold MNeed.tr MNeed.enc
    exact .cons (i:=[]) (is:=[]) ⟨rfl,rfl⟩ (Sp.leaf1 _)
theorem qasc {id j:Nat}{code:Str}{H:List Entry}(hc:Cur H id code)(hl:code.length≤1048576)(xs:List Str)(h0:0 < xs.length)(hn:xs.length≤1073741824)(hj:j≠id)(he:H[j]?=some ⟨1,xs.map eStr,0,false⟩):
  ∃ s H',qbw [.one (.ptr id 3 0 0 0),.one (.vs j 1 0 xs.length 0)] H=some ([.one (Cell.str (bs s))],H')∧Dr id code H H'∧s∈xs:=by
 obtain⟨v,H',e,d,hv⟩:=qcu hc hl xs.length h0 hn
 have hjl:=(List.getElem?_eq_some_iff.1 he).1
 have he':H'[j]?=some ⟨1,xs.map eStr,0,false⟩:=by rw[d.old j hj hjl];exact he
 refine⟨xs[v],H',qrx 0 ?_,d,List.getElem_mem hv⟩
 have hi:idxA 1 (.vs j 1 0 xs.length 0) (v:Int)=some (.ptr j 1 v 0 0):=qhq _ _ _ _ _ hv
 have hd:deref H' (.ptr j 1 v 0 0)=some (eStr xs[v],0):=by simp[deref,entry?,he',List.getElem?_eq_getElem hv]
 simp only[eStr] at hd
 simp only[fcp,lenC,e,hi,hd,EV0]
theorem qmac {id:Nat}{code:Str}{H:List Entry}(hc:Cur H id code)(hl:code.length≤1048576)(pk:Str)(hp:pk.length≤20):∃ (s:Str) (H':List Entry),qsh [.one (.ptr id 3 0 0 0),.one (Cell.str (bs pk))] H=some ([.one (Cell.str (bs s))],H')∧Dr id code H H'∧s.length≤100:=by
 obtain⟨s1,G1,e1,d1,m1⟩:=qen hc hl true [[112,117,116,32,104,105,32,62,32,111],[99,97,116,32]++pk++[47,120,32,62,32,111],[99,97,116,32]++pk++[47,120,32]++pk++[47,121,32,62,32,112],[101,110,118,32,109,111,100,101,32,62,32,101],[117,115,101,32,97,35,98,117,105,108,100,32,111,32,62,32,113],[117,115,101,32,98,35,98,117,105,108,100,32,111,32,62,32,113],[108,111,103,32,100,111,110,101],[108,111,103,32,120,32,121],[102,97,105,108],[119,104,97,116],[112,117,116,32,62,32,114]] (by simp) (by simp)
 have h1:s1.length≤100:=by
  simp only[List.mem_cons,List.not_mem_nil,or_false] at m1
  rcases m1 with rfl | rfl | rfl | rfl | rfl | rfl | rfl | rfl | rfl | rfl | rfl<;>simp<;>omega
 simp only[List.map_cons,List.map_nil,eStr] at e1
 refine⟨s1,G1,qmvb 0 ?_,d1,h1⟩
 simp only[fdf]
 rw[qcn (by simp;omega),Option.bind_some,qcn (by simp;omega),Option.bind_some,Option.bind_some,qcn (by simp;omega),Option.bind_some,qcn (by simp;omega),Option.bind_some,qcn (by simp;omega),Option.bind_some]
 simp only[e1,EV0]
theorem qsgc {id:Nat}{code:Str}{H:List Entry}(hc:Cur H id code)(hl:code.length≤1048576)(pk:Str)(hp:pk.length≤20)(t:Str)(ht:t.length≤20):∃ (x:MCmd) (c:Cell) (H':List Entry),qmy [.one (.ptr id 3 0 0 0),.one (Cell.str (bs pk)),.one (Cell.str (bs t))] H=some ([.agg [Cell.str (bs t),c]],H')∧Dr id code H H'∧
  OwnM H.length H'.length H' 2 c (trL 1 qcp x.Acts)∧x.Task=t∧qffb x:=by
 have hM:=qah
 have hid:id < H.length:=by obtain⟨i,x,_,he⟩:=hc;exact(List.getElem?_eq_some_iff.1 he).1
 have loop:∀ (d n:Nat) (l:List Str) (c:Cell) (G:List Entry),d < n→DrN H.length id code H G→OwnM H.length G.length G 2 c (trL 1 qcp l)→l.length+d≤3→(∀ a∈l,a.length≤100)→l≠[]→∀ k m,
   ∃ (l':List Str) (c':Cell) (H':List Entry),qyc k m n (.ptr id 3 0 0 0) (bs pk) (d:Int) (bs t) c G=some ([.agg [Cell.str (bs t),c']],H')∧DrN H.length id code H H'∧OwnM H.length H'.length H' 2 c' (trL 1 qcp l')∧l'.length≤3∧(∀ a∈l',a.length≤100)∧l'≠[]:=by
  intro d
  induction d with
  | zero=>
   intro n l c G hn hd ho hll hs hne k m
   obtain⟨n,rfl⟩:∃ j,n=j+1:=⟨n - 1,by omega⟩
   refine⟨l,c,G,?_,hd,ho,by omega,hs,hne⟩
   simp only[qyc]
   rw[decide_eq_false (by omega),cond_false]
  | succ d ih=>
   intro n l c G hn hd ho hll hs hne k m
   obtain⟨n,rfl⟩:∃ j,n=j+1:=⟨n - 1,by omega⟩
   obtain⟨s,G1,e1,d1,h1⟩:=qmac hd.cur hl pk hp
   have ho1:=ho.frame (d1.toN (Nat.le_refl _)) hid (Nat.le_refl _)
   obtain⟨p,e2,o2,d2⟩:=OwnM.push (by':=16) (sz:=1) (row:=[Cell.str (bs s)]) (tr:=qcp s) ho1 ⟨[],Sp.leaf1 _,Mine.nil d1.len⟩ rfl d1.cur hid (by simp;omega) (by omega)
   obtain⟨l',c',H',e3,r⟩:=ih n (l++[s]) p.1 p.2 (by omega) (hd.trans ((d1.toN hd.len).trans d2)) (by
    rw[trL,List.map_append]
    exact o2) (by simp;omega) (fun a ha=>by
    rcases List.mem_append.1 ha with h | h
    ·exact hs a h
    ·simp only[List.mem_singleton] at h
     rw[h];exact h1) (by simp) k m
   refine⟨l',c',H',?_,r⟩
   simp only[qyc]
   rw[decide_eq_true (by omega),cond_true]
   simp only[e1,qem,e2,EV0]
   rw[qbu (by omega)]
   exact e3
 have c0:Cur (H++[Entry.mk 1 (([[112,117,116,32,104,105,32,62,32,111],[99,97,116,32]++pk++[47,120,32,62,32,111],[108,111,103,32]++t]:List Str).map eStr) 0 false]) id code:=(Dr.app hc _).cur
 obtain⟨s1,G1,e1,d1,m1⟩:=qasc (j:=H.length) c0 hl [[112,117,116,32,104,105,32,62,32,111],[99,97,116,32]++pk++[47,120,32,62,32,111],[108,111,103,32]++t] (by simp) (by simp) (by omega) (by simp)
 have h1:s1.length≤100:=by
  simp only[List.mem_cons,List.not_mem_nil,or_false] at m1
  rcases m1 with rfl | rfl | rfl<;>simp<;>omega
 have d1':Dr id code H G1:=(Dr.app hc _).trans d1
 have d1a:=Dr.app d1.cur [Entry.mk 1 [[Cell.str (bs s1)]] 0 false]
 obtain⟨v,G2,e2,d2,hv⟩:=qcu d1a.cur hl 3 (by omega) (by omega)
 have hG1:=d1'.len
 have ho0:OwnM H.length (G1.length+1) (G1++[Entry.mk 1 [[Cell.str (bs s1)]] 0 false]) 2 (.vs G1.length 1 0 1 0) (trL 1 qcp [s1]):=
  ⟨[G1.length],.inr ⟨G1.length,0,0,[[Cell.str (bs s1)]],false,[],rfl,rfl,by simp,fun _=>rfl,fun _=>⟨rfl,rfl⟩,by simp,by simp,.cons (i:=[]) (is:=[]) (Sp.leaf1 _) .nil⟩,⟨by omega,by simp,by simp;omega,by simp⟩,qcb _ _ _ _ _⟩
 have ho:OwnM H.length G2.length G2 2 (.vs G1.length 1 0 1 0) (trL 1 qcp [s1]):=(ho0.frame (d2.toN (Nat.le_refl _)) hid (by simp)).wide (Nat.le_refl _) (by have:=d2.len;simp at this;omega)
 obtain⟨l',c',H',e3,d3,o3,h3,h4,h5⟩:=loop v 1000 [s1] _ G2 (by omega) ((d1'.trans (d1a.trans d2)).toN (Nat.le_refl _)) ho (by simp;omega) (by simpa using h1) (by simp) 1000 1000
 refine⟨⟨t,l'⟩,c',H',qiyb 999 ?_,d3.full,o3,rfl,ht,h3,h4,h5⟩
 simp only[List.map_cons,List.map_nil,eStr,List.length_cons,List.length_nil,Nat.zero_add,Nat.reduceAdd] at e1
 rw[show((3:Nat):Int)=3 from rfl] at e2
 simp only[fdi]
 rw[qcn (by simp;omega),Option.bind_some,qcn (by simp;omega),Option.bind_some,qcn (by simp;omega),Option.bind_some]
 simp only[e1,e2,EV0]
 exact e3
theorem qicb {id:Nat}{code:Str}{H:List Entry}(hc:Cur H id code)(hl:code.length≤1048576)(nm:Str)(hp:nm.length≤20):∃ (p:MPack) (cN cC:Cell) (mid:Nat) (H':List Entry),qne [.one (.ptr id 3 0 0 0),.one (Cell.str (bs nm))] H=some ([.agg [Cell.str (bs nm),.lst true 1 [],cN,cC]],H')∧Dr id code H H'∧
  OwnM H.length mid H' 2 cN (trL 2 MNeed.tr p.Needs)∧OwnM mid H'.length H' 3 cC (trL 2 MCmd.tr p.Cmds)∧p.Name=nm∧p.Uses=[]∧qqi p∧p.Cmds≠[]:=by
 have hM:=qah
 have hid:id < H.length:=by obtain⟨i,x,_,he⟩:=hc;exact(List.getElem?_eq_some_iff.1 he).1
 obtain⟨needs,cN,ids,G,e1,d1,v1,lo1,hn1,hn2⟩:=quf hc hl
 have oN:=v1.own (hi:=G.length) (lo:=H.length) lo1 (Nat.le_refl _) d1.len
 have hG:=d1.len
 have lits:∀ (i:Nat),i < 3→∃ t:Str,idxA 1 (.lst true 1 [[Cell.str (bs [98,117,105,108,100])],[Cell.str (bs [108,105,110,116])],[Cell.str (bs [116,101,115,116])]]) (i:Int)=some (.ref [Cell.str (bs t)] 0)∧t.length≤20:=fun i hi=>by
  have:i=0∨i=1∨i=2:=by omega
  rcases this with rfl | rfl | rfl
  ·exact⟨[98,117,105,108,100],by rw[qfp];rfl,by simp⟩
  ·exact⟨[108,105,110,116],by rw[qfp];rfl,by simp⟩
  ·exact⟨[116,101,115,116],by rw[qfp];rfl,by simp⟩
 have loop:∀ (d i n:Nat) (l:List MCmd) (c:Cell) (F:List Entry),i+d=3→d < n→DrN G.length id code G F→OwnM G.length F.length F 3 c (trL 2 MCmd.tr l)→l.length≤i→(∀ x∈l,qffb x)→(0 < i→l≠[])→∀ k m,
   ∃ (l':List MCmd) (c':Cell) (H':List Entry),qjk k m n (.ptr id 3 0 0 0) (bs nm) (i:Int) (bs nm) cN c F=some ([.agg [Cell.str (bs nm),.lst true 1 [],cN,c']],H')∧DrN G.length id code G H'∧OwnM G.length H'.length H' 3 c' (trL 2 MCmd.tr l')∧l'.length≤3∧(∀ x∈l',qffb x)∧l'≠[]:=by
  intro d
  induction d with
  | zero=>
   intro i n l c F hi hn hd ho hll hs hne k m
   obtain⟨n,rfl⟩:∃ j,n=j+1:=⟨n - 1,by omega⟩
   refine⟨l,c,F,?_,hd,ho,by omega,hs,hne (by omega)⟩
   simp only[qjk]
   rw[decide_eq_false (by omega),cond_false]
  | succ d ih=>
   intro i n l c F hi hn hd ho hll hs hne k m
   obtain⟨n,rfl⟩:∃ j,n=j+1:=⟨n - 1,by omega⟩
   obtain⟨t,t1,t2⟩:=lits i (by omega)
   obtain⟨b,F1,e2,d2⟩:=qmp hd.cur hl 2 (by omega) (by omega)
   have d2n:=d2.toN hd.len
   have ho1:=ho.frame (d2.toN (Nat.le_refl _)) (by omega) (Nat.le_refl _)
   have cmd:∃ (p:Cell×List Entry) (s:Res),qmy [.one (.ptr id 3 0 0 0),.one (Cell.str (bs nm)),.one (Cell.str (bs t))] F1=some s∧
     (∀ (q:Cell→List Entry→Option Res),(cond (qab qseb s.1) ((cS (qaa s.1 0) 0).bind fun s18=>(cC (qaa s.1 0) 1).bind fun c19=>(qal (s.2++[Entry.mk 2 [[Cell.str s18,c19]] 0 false]) 2 (.vs s.2.length 2 0 1 0)).bind fun r20=>(app (s.2++[Entry.mk 2 [[Cell.str s18,c19]] 0 false]) 2 40 c r20).bind fun p21=>q p21.1 p21.2) none)=q p.1 p.2)∧
     DrN G.length id code F1 p.2∧∃ x:MCmd,OwnM G.length p.2.length p.2 3 p.1 (trL 2 MCmd.tr (l++[x]))∧qffb x:=by
    obtain⟨x,c3,F2,e3,d3,o3,x1,x2⟩:=qsgc d2.cur hl nm hp t t2
    have ho2:=ho1.frame (d3.toN (Nat.le_refl _)) (by omega) d2.len
    have hF1:G.length≤F1.length:=Nat.le_trans hd.len d2.len
    obtain⟨p,e4,o4,d4⟩:=OwnM.push (by':=40) (sz:=2) (row:=[Cell.str (bs t),c3]) (tr:=MCmd.tr x) ho2 (by
     obtain⟨js,j1,j2⟩:=(o3.wide d2.len (Nat.le_refl _)).s1.leaf (v:=.string (bs t))
     exact⟨js,by unfold MCmd.tr;rw[x1];exact j1,j2⟩) rfl d3.cur (by omega) (by simp;omega) (by omega)
    refine⟨p,_,e3,fun q=>?_,(d3.toN hF1).trans d4,x,by rw[trL,List.map_append];exact o4,x2⟩
    simp only[qem,e4,EV0]
   obtain⟨p,s,c1,c2,c3,x,c4,c5⟩:=cmd
   have more:∀ k m,∃ (l':List MCmd) (c':Cell) (H':List Entry),qjk k m n (.ptr id 3 0 0 0) (bs nm) ((i+1:Nat):Int) (bs nm) cN p.1 p.2=some ([.agg [Cell.str (bs nm),.lst true 1 [],cN,c']],H')∧DrN G.length id code G H'∧OwnM G.length H'.length H' 3 c' (trL 2 MCmd.tr l')∧l'.length≤3∧(∀ x∈l',qffb x)∧l'≠[]:=
    fun k m=>ih (i+1) n (l++[x]) p.1 p.2 (by omega) (by omega) (hd.trans (d2n.trans c3)) c4 (by simp;omega) (fun y hy=>by
     rcases List.mem_append.1 hy with h | h
     ·exact hs y h
     ·simp only[List.mem_singleton] at h
      rw[h];exact c5) (fun _=>by simp) k m
   simp only[qjk]
   rw[decide_eq_true (by omega),cond_true]
   rw[show((2:Nat):Int)=2 from rfl] at e2
   simp only[t1,e2,EV0]
   rw[qag (by omega)]
   cases b with
   | true=>
    rw[cond_true,c1,Option.bind_some,c2 (fun a b=>qjk k m n (.ptr id 3 0 0 0) (bs nm) ((i+1:Nat):Int) (bs nm) cN a b)]
    exact more k m
   | false=>
    rw[cond_false]
    cases hi0:((i:Int)==0) with
    | true=>
     rw[cond_true,c1,Option.bind_some,c2 (fun a b=>qjk k m n (.ptr id 3 0 0 0) (bs nm) ((i+1:Nat):Int) (bs nm) cN a b)]
     exact more k m
    | false=>
     rw[cond_false]
     exact ih (i+1) n l c F1 (by omega) (by omega) (hd.trans d2n) (ho1.wide (Nat.le_refl _) d2.len) (by omega) hs (fun _=>hne (by
      have:¬ ((i:Int)=0):=by simpa using hi0
      omega)) k m
 obtain⟨cmds,cC,H',e2,d2,o2,h1,h2,h3⟩:=loop 3 0 1000 [] (.lst true 2 []) G (by omega) (by omega) ((Dr.refl d1.cur).toN (Nat.le_refl _)) (OwnM.nil 2 _ _ 2 _ (Nat.le_refl _)) (by simp) (by simp) (fun h=>by omega) 1000 1000
 refine⟨⟨nm,[],needs,cmds⟩,cN,cC,G.length,H',qmub 999 ?_,(d1.trans d2.full),oN.frame d2 hid (Nat.le_refl _),o2,rfl,rfl,⟨hp,⟨by simp,by simp⟩,⟨hn1,hn2⟩,h1,h2⟩,h3⟩
 rw[show((0:Nat):Int)=0 from rfl] at e2
 simp only[fdq,e1,EV0]
 exact e2
def qxp:List Str:=[[97],[98],[99],[100]]
structure Drawn (names:List Str)(l:List MPack):Prop where
 nm:l.map (·.Name)=names.take l.length
 len:l.length≤names.length
 sm:∀ p∈l,qqi p
 us:∀ p∈l,∀ u∈p.Uses,u∈names
theorem qvsb {id:Nat}{code:Str}{H:List Entry}(hc:Cur H id code)(hl:code.length≤1048576)(ring:Bool):∃ (l:List MPack) (v:Nat) (c:Cell) (H':List Entry),qsz [.one (.ptr id 3 0 0 0),.one (Cell.bool ring)] H=some ([.one c],H')∧Dr id code H H'∧
  OwnM H.length H'.length H' 4 c (trL 4 MPack.tr l)∧Drawn (qxp.take (1+v)) l∧v < 4∧l.length=(qxp.take (1+v)).length:=by
 have hM:=qah
 have hid:id < H.length:=by obtain⟨i,x,_,he⟩:=hc;exact(List.getElem?_eq_some_iff.1 he).1
 obtain⟨v,H1,e1,d1,hv⟩:=qcu hc hl 4 (by omega) (by omega)
 obtain⟨names,hnames⟩:∃ names,names=qxp.take (1+v):=⟨_,rfl⟩
 have hn4:names.length≤4:=by rw[hnames];simp[qxp];omega
 have hsm:∀ s∈names,s.length≤20:=fun s hs=>by
  rw[hnames] at hs
  exact(by decide:∀ s∈qxp,s.length≤20) s (List.mem_of_mem_take hs)
 obtain⟨f,hsl⟩:∃ f,slcC 1 (.lst true 1 [[Cell.str (bs [97])],[Cell.str (bs [98])],[Cell.str (bs [99])],[Cell.str (bs [100])]]) 0 (some (IntKind.i64.wrap (1+(v:Int)))) none=some (.lst f 1 (names.map eStr)):=by
  have hw:IntKind.i64.wrap (1+(v:Int))=((1+v:Nat):Int):=by rw[wrap_small (by omega) (by omega)];omega
  rw[hw,hnames]
  have:v=0∨v=1∨v=2∨v=3:=by omega
  rcases this with rfl | rfl | rfl | rfl<;>exact⟨_,rfl⟩
 have hnx:∀ (i:Nat) (s:Str),names[i]?=some s→idxA 1 (.lst f 1 (names.map eStr)) (i:Int)=some (.ref [Cell.str (bs s)] 0):=fun i s hs=>by rw[qfp,List.getElem?_map,hs];rfl
 have hnl:lenC (.lst f 1 (names.map eStr))=some names.length:=by simp[lenC]
 have inner:∀ (b:Cell→Bool→Cell→Cell→Int→List Entry→Option Res) (i:Nat) (p:MPack) (cN cC c9:Cell) (mid:Nat) (l:List MPack) (G0 G:List Entry),H1.length≤mid→mid≤G.length→OwnM H1.length mid G 4 c9 (trL 4 MPack.tr l)→(∃ mm,OwnM mid mm G 2 cN (trL 2 MNeed.tr p.Needs)∧OwnM mm G.length G 3 cC (trL 2 MCmd.tr p.Cmds))→qqi {p with Uses:=[]}→l.length≤10→i < names.length→
   ∀ (d kk n:Nat) (us:List Str) (c:Cell) (F:List Entry),kk+d=names.length→d < n→DrN G.length id code G F→Cur F id code→OwnM G.length F.length F 2 c (trL 1 qcp us)→us.length≤kk→(∀ u∈us,u∈names)→∀ k m,
   ∃ (us':List Str) (q:Cell×List Entry),qgs k m b n (.ptr id 3 0 0 0) ring (.lst f 1 (names.map eStr)) c9 (i:Int) (kk:Int) (bs p.Name) c cN cC F=b (.ptr id 3 0 0 0) ring (.lst f 1 (names.map eStr)) q.1 ((i+1:Nat):Int) q.2∧
    DrN H1.length id code G q.2∧OwnM H1.length q.2.length q.2 4 q.1 (trL 4 MPack.tr (l++[{p with Uses:=us'}]))∧qqi {p with Uses:=us'}∧∀ u∈us',u∈names:=by
  intro b i p cN cC c9 mid l G0 G hm1 hm2 hout hparts hsp hll hi d
  have hidm:id < H1.length:=by have:=d1.len;omega
  induction d with
  | zero=>
   intro kk n us c F hk hn hd hcur ho hul hus k m
   obtain⟨n,rfl⟩:∃ j,n=j+1:=⟨n - 1,by omega⟩
   obtain⟨mm,oN,oC⟩:=hparts
   have hmm:mid≤mm:=by obtain⟨_,_,h,_⟩:=oN;exact h.le
   have hmm2:mm≤G.length:=by obtain⟨_,_,h,_⟩:=oC;exact h.le
   have oN':=oN.frame hd (by omega) hmm2
   have oC':=oC.frame hd (by omega) (Nat.le_refl _)
   have hout':=hout.frame hd hidm hm2
   obtain⟨iN,n1,n2,_⟩:=oN'
   obtain⟨iC,k1,k2,_⟩:=oC'
   obtain⟨iU,u1,u2,_⟩:=ho
   obtain⟨q,e2,o2,d2⟩:=OwnM.push (by':=88) (sz:=4) (row:=[Cell.str (bs p.Name),c,cN,cC]) (tr:=MPack.tr {p with Uses:=us}) hout' (by
    refine⟨[]++(iU++(iN++(iC++[]))),?_,?_⟩
    ·unfold MPack.tr
     exact .cons ⟨rfl,rfl⟩ (.cons (u1.more (by omega)) (.cons (n1.more (by omega)) (.cons (k1.more (by omega)) .nil)))
    ·rw[List.nil_append,List.append_nil]
     exact(Mine.app (n2.app k2) u2).swap) rfl hcur hidm (by simp;omega) (by omega)
   refine⟨us,q,?_,(DrN.trans ⟨hd.len,fun j hj hl=>hd.old j hj (by omega),hd.cur⟩ d2),by rw[trL,List.map_append];exact o2,⟨hsp.1,⟨by show us.length≤4;omega,fun u hu=>hsm u (hus u hu)⟩,hsp.2.2⟩,hus⟩
   simp only[qgs,hnl,Option.bind_some]
   rw[decide_eq_false (by omega),cond_false]
   simp only[qem,e2,EV0]
   rw[qag (by omega)]
  | succ d ih=>
   intro kk n us c F hk hn hd hcur ho hul hus k m
   obtain⟨n,rfl⟩:∃ j,n=j+1:=⟨n - 1,by omega⟩
   obtain⟨s,hs⟩:∃ s,names[kk]?=some s:=⟨_,List.getElem?_eq_getElem (by omega)⟩
   have hsn:=List.mem_of_getElem? hs
   have hGl:=hd.len
   have put:∀ (F1:List Entry),Dr id code F F1→∃ q:Cell×List Entry,app (F1++[Entry.mk 1 [[Cell.str (bs s)]] 0 false]) 1 16 c [[Cell.str (bs s)]]=some q∧OwnM G.length q.2.length q.2 2 q.1 (trL 1 qcp (us++[s]))∧DrN G.length id code G q.2:=fun F1 dd=>by
    have ho1:=ho.frame (dd.toN (Nat.le_refl _)) (by omega) (Nat.le_refl _)
    obtain⟨q,e2,o2,d2⟩:=OwnM.push (by':=16) (sz:=1) (row:=[Cell.str (bs s)]) (tr:=qcp s) ho1 ⟨[],Sp.leaf1 _,Mine.nil dd.len⟩ rfl dd.cur (by omega) (by simp;omega) (by omega)
    exact⟨q,e2,by rw[trL,List.map_append];exact o2,hd.trans ((dd.toN hGl).trans d2)⟩
   have keep:∀ (F1:List Entry),Dr id code F F1→∀ k m,∃ (us':List Str) (q:Cell×List Entry),qgs k m b n (.ptr id 3 0 0 0) ring (.lst f 1 (names.map eStr)) c9 (i:Int) ((kk+1:Nat):Int) (bs p.Name) c cN cC F1=b (.ptr id 3 0 0 0) ring (.lst f 1 (names.map eStr)) q.1 ((i+1:Nat):Int) q.2∧
     DrN H1.length id code G q.2∧OwnM H1.length q.2.length q.2 4 q.1 (trL 4 MPack.tr (l++[{p with Uses:=us'}]))∧qqi {p with Uses:=us'}∧∀ u∈us',u∈names:=fun F1 dd k m=>
    ih (kk+1) n us c F1 (by omega) (by omega) (hd.trans (dd.toN hGl)) dd.cur ((ho.frame (dd.toN (Nat.le_refl _)) (by omega) (Nat.le_refl _)).wide (Nat.le_refl _) dd.len) (by omega) hus k m
   have more:∀ (F1:List Entry) (q:Cell×List Entry),OwnM G.length q.2.length q.2 2 q.1 (trL 1 qcp (us++[s]))→DrN G.length id code G q.2→∀ k m,∃ (us':List Str) (q':Cell×List Entry),qgs k m b n (.ptr id 3 0 0 0) ring (.lst f 1 (names.map eStr)) c9 (i:Int) ((kk+1:Nat):Int) (bs p.Name) q.1 cN cC q.2=b (.ptr id 3 0 0 0) ring (.lst f 1 (names.map eStr)) q'.1 ((i+1:Nat):Int) q'.2∧
     DrN H1.length id code G q'.2∧OwnM H1.length q'.2.length q'.2 4 q'.1 (trL 4 MPack.tr (l++[{p with Uses:=us'}]))∧qqi {p with Uses:=us'}∧∀ u∈us',u∈names:=fun F1 q o2 d2 k m=>
    ih (kk+1) n (us++[s]) q.1 q.2 (by omega) (by omega) d2 d2.cur o2 (by simp;omega) (fun u hu=>by
     rcases List.mem_append.1 hu with h | h
     ·exact hus u h
     ·simp only[List.mem_singleton] at h
      rw[h];exact hsn) k m
   simp only[qgs,hnl,Option.bind_some]
   rw[decide_eq_true (by omega),cond_true]
   have hk1:IntKind.i64.wrap ((kk:Int)+1)=((kk+1:Nat):Int):=qag (by omega)
   by_cases hki:kk < i
   ·rw[decide_eq_true (by omega),cond_true]
    obtain⟨x,F1,e2,d2⟩:=qmp hcur hl 2 (by omega) (by omega)
    rw[show((2:Nat):Int)=2 from rfl] at e2
    simp only[e2,EV0]
    cases x with
    | true=>
     obtain⟨q,e3,o3,d3⟩:=put F1 d2
     simp only[cond_true,hnx kk s hs,qem,e3,hk1,EV0]
     exact more F1 q o3 d3 k m
    | false=>
     simp only[cond_false,hk1]
     exact keep F1 d2 k m
   ·rw[decide_eq_false (by omega),cond_false]
    cases ring with
    | false=>
     simp only[cond_false,hk1]
     exact keep F (Dr.refl hcur) k m
    | true=>
     rw[cond_true]
     by_cases hik:i < kk
     ·rw[decide_eq_true (by omega),cond_true]
      obtain⟨x,F1,e2,d2⟩:=qmp hcur hl 3 (by omega) (by omega)
      rw[show((3:Nat):Int)=3 from rfl] at e2
      simp only[e2,EV0]
      cases x with
      | false=>
       simp only[cond_false,hk1]
       exact keep F1 d2 k m
      | true=>
       obtain⟨y,F2,e3,d3⟩:=qmp d2.cur hl 2 (by omega) (by omega)
       rw[show((2:Nat):Int)=2 from rfl] at e3
       simp only[cond_true,e3,EV0]
       cases y with
       | true=>
        obtain⟨q,e4,o4,d4⟩:=put F2 (d2.trans d3)
        simp only[cond_true,hnx kk s hs,qem,e4,hk1,EV0]
        exact more F2 q o4 d4 k m
       | false=>
        simp only[cond_false,hk1]
        exact keep F2 (d2.trans d3) k m
     ·rw[decide_eq_false (by omega),cond_false]
      simp only[hk1]
      exact keep F (Dr.refl hcur) k m
 have loop:∀ (d i n:Nat) (l:List MPack) (c:Cell) (G:List Entry),i+d=names.length→d < n→DrN H1.length id code H1 G→OwnM H1.length G.length G 4 c (trL 4 MPack.tr l)→Drawn names l→l.length=i→∀ k m,1000≤m→
   ∃ (l':List MPack) (c':Cell) (H':List Entry),qqz k m n (.ptr id 3 0 0 0) ring (.lst f 1 (names.map eStr)) c (i:Int) G=some ([.one c'],H')∧DrN H1.length id code H1 H'∧OwnM H1.length H'.length H' 4 c' (trL 4 MPack.tr l')∧Drawn names l'∧l'.length=names.length:=by
  intro d
  induction d with
  | zero=>
   intro i n l c G hi hn hd ho hdr hll k m hm
   obtain⟨n,rfl⟩:∃ j,n=j+1:=⟨n - 1,by omega⟩
   refine⟨l,c,G,?_,hd,ho,hdr,by omega⟩
   simp only[qqz,hnl,Option.bind_some]
   rw[decide_eq_false (by omega),cond_false]
  | succ d ih=>
   intro i n l c G hi hn hd ho hdr hll k m hm
   obtain⟨n,rfl⟩:∃ j,n=j+1:=⟨n - 1,by omega⟩
   obtain⟨s,hs⟩:∃ s,names[i]?=some s:=⟨_,List.getElem?_eq_getElem (by omega)⟩
   have hidm:id < H1.length:=by have:=d1.len;omega
   obtain⟨p,cN,cC,mid,G1,e2,d2,oN,oC,pn,pu,ps,_⟩:=qicb hd.cur hl s (hsm s (List.mem_of_getElem? hs))
   have ho1:=ho.frame (d2.toN (Nat.le_refl _)) hidm (Nat.le_refl _)
   have hGl:=hd.len
   have hps:qqi {p with Uses:=[]}:=⟨ps.1,⟨by simp,by simp⟩,ps.2.2⟩
   obtain⟨us,q,e3,d3,o3,s3,u3⟩:=inner (qqz k m n) i p cN cC c G.length l G G1 hGl d2.len ho1 ⟨mid,oN,oC⟩ hps (by omega) (by omega) names.length 0 m [] (.lst true 1 []) G1 (by omega) (by omega) ((Dr.refl d2.cur).toN (Nat.le_refl _)) d2.cur (OwnM.nil 1 _ _ 1 _ (Nat.le_refl _)) (by simp) (by simp) k m
   obtain⟨l',c',H',e4,r⟩:=ih (i+1) n (l++[{p with Uses:=us}]) q.1 q.2 (by omega) (by omega) (hd.trans ((d2.toN hGl).trans d3)) o3 ⟨by
     rw[List.map_append,hdr.nm,List.length_append,List.map_cons,List.map_nil,List.length_singleton,hll,List.take_add_one,hs]
     simp[pn],by simp;omega,fun x hx=>by
     rcases List.mem_append.1 hx with h | h
     ·exact hdr.sm x h
     ·simp only[List.mem_singleton] at h
      rw[h];exact s3,fun x hx=>by
     rcases List.mem_append.1 hx with h | h
     ·exact hdr.us x h
     ·simp only[List.mem_singleton] at h
      rw[h];exact u3⟩ (by simp;omega) k m hm
   refine⟨l',c',H',?_,r⟩
   rw[show((0:Nat):Int)=0 from rfl,pn] at e3
   simp only[qqz,hnl,Option.bind_some]
   rw[decide_eq_true (by omega),cond_true]
   simp only[hnx i s hs,e2,EV0]
   rw[e3]
   exact e4
 obtain⟨l',c',H',e4,d4,o4,r1,r2⟩:=loop names.length 0 1000 [] (.vs H1.length 4 0 0 0) (H1++[Entry.mk 4 [] 0 false]) (by omega) (by omega) ((Dr.app d1.cur _).toN (Nat.le_refl _)) (by
  exact⟨[H1.length],.inr ⟨H1.length,0,0,[],false,[],rfl,rfl,by simp,fun _=>rfl,fun _=>⟨rfl,rfl⟩,by simp,by simp,.nil⟩,⟨by simp,by simp,by simp,by simp⟩,qcb _ _ _ _ _⟩) ⟨by simp,by simp,by simp,by simp⟩ rfl 1000 1000 (by omega)
 refine⟨l',v,c',H',qjsb 999 ?_,d1.trans d4.full,o4.wide d1.len (Nat.le_refl _),by rw[← hnames];exact r1,hv,by rw[← hnames];exact r2⟩
 rw[show((4:Nat):Int)=4 from rfl] at e1
 rw[show((0:Nat):Int)=0 from rfl] at e4
 simp only[fdr,e1,hsl,EV0]
 exact e4
end Go.Ev
