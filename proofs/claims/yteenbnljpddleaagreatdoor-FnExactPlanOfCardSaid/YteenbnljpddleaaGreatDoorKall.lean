/- What the functions come to. Conditions: none. -/
import Derived.Test.YteenbnljpddleaaGreatDoorKp0
set_option linter.unusedSimpArgs false
set_option linter.unusedVariables false
namespace Go.Ev
open Go
structure RCmp where
 op:Int
 v:MVer
def eCmp (c:RCmp):List Cell:=[Cell.int c.op,Cell.int c.v.A,Cell.int c.v.B,Cell.int c.v.C,qay c.v.Pre]
instance:CanonE eCmp:=⟨fun _=>CanonLs.canon (cs:=[_,_,_,_,_])⟩
def eInt (x:Int):List Cell:=[Cell.int x]
instance:CanonE eInt:=⟨fun _=>.cons inferInstance .nil⟩
def zeroV:MVer:=⟨0,0,0,[]⟩
def xS:Str:=[120]
def oneV (x:Str):Option (MVer×Nat):=match qas x 9999 with | some a=>some (⟨a,0,0,[]⟩,1) | none=>none
def twoV (x y:Str):Option (MVer×Nat):=match qas x 9999,qas y 9999 with | some a,some b=>some (⟨a,b,0,[]⟩,2) | _,_=>none
def numsOf:List Str→Option (MVer×Nat) | [x]=>oneV x | [x,y]=>if y=xS then oneV x else twoV x y | [x,y,z]=>if z=xS then (if y=xS then oneV x else twoV x y) else none | _=>none
def partOf (s:Str):Option (MVer×Nat):=if (qai s).2 then some ((qai s).1,3) else numsOf (split 46 s)
def qfp (v:MVer)(told:Nat):MVer:=if told=1 then ⟨v.A+1,0,0,[]⟩ else ⟨v.A,v.B+1,0,[]⟩
def qjl (v:MVer):RCmp:=⟨1,⟨v.A,v.B,v.C,[[48]]⟩⟩
def qge (v:MVer)(told:Nat):MVer:=if v.A≠0∨told=1 then ⟨v.A+1,0,0,[]⟩ else if v.B≠0∨told=2 then ⟨0,v.B+1,0,[]⟩ else ⟨0,0,v.C+1,[]⟩
def qdr (g:Str)(v:MVer)(told:Nat):List RCmp:=if g=[94] then [⟨4,v⟩,qjl (qge v told)] else if g=[126] then [⟨4,v⟩,qjl (qfp v told)] else if g=[62,61] then [⟨4,v⟩] else if g=[62] then (if told=3 then [⟨3,v⟩] else [⟨4,qfp v told⟩]) else if g=[60,61] then (if told=3 then [⟨2,v⟩] else [qjl (qfp v told)]) else if g=[60] then [⟨1,v⟩] else if told=3 then [⟨0,v⟩] else [⟨4,v⟩,qjl (qfp v told)]
def signs:List Str:=[[94],[126],[62,61],[62],[60,61],[60],[61],[]]
def qfk (w:Str):List Str→Option (List RCmp) | []=>none | g::r=>if g.isPrefixOf w then (match partOf (w.drop g.length) with | some p=>some (qdr g p.1 p.2) | none=>none) else qfk w r
def qlx (w:Str):Option (List RCmp):=if w=[42] then some [⟨4,zeroV⟩] else qfk w signs
def qeh:List Str→List RCmp→Option (List RCmp)
 | [],acc=>some acc
 | w::r,acc=>match qlx w with | some l=>qeh r (acc++l) | none=>none
def qil (v:MVer):Bool:=qgu v.A v.B v.C v.Pre
def qcne (ws:List Str):Option (List RCmp):=match qeh ws [] with
 | some l=>if l.length≤4∧l.all (fun c=>qil c.v)=true then some l else none
 | none=>none
def qiac (ws:List Str):Option (Str×Str):=match ws with
 | [a,b,c]=>if b=[45] then some (a,c) else none
 | _=>none
def qum (ws:List Str):Option (List RCmp):=match qiac ws with
 | some (a,c)=>if (qai a).2&&(qai c).2 then some [⟨4,(qai a).1⟩,⟨2,(qai c).1⟩] else none
 | none=>qcne ws
def qeeb (s:Str):Str:=s.dropWhile (·==32)
def qqu:Str→Str
 | []=>[]
 | x::s=>match qqu s with | []=>if x=32 then [] else [x] | y::r=>x::y::r
def trim (s:Str):Str:=qeeb (qqu s)
theorem trimLR (s:Str):qqu (qeeb s)=qeeb (qqu s):=by
 induction s with
 | nil=>rfl
 | cons x s ih=>
  by_cases hx:x=32
  ·subst hx
   have e1:qeeb (32::s)=qeeb s:=by simp[qeeb]
   rw[e1,ih]
   simp only[qqu]
   cases h:qqu s with
   | nil=>simp[qeeb]
   | cons y r=>simp[qeeb]
  ·have e1:qeeb (x::s)=x::s:=by simp[qeeb,hx]
   rw[e1]
   simp only[qqu]
   cases h:qqu s with
   | nil=>simp[qeeb,hx]
   | cons y r=>simp[qeeb,hx]
theorem qua (s:Str):qqu (s++[32])=qqu s:=by
 induction s with
 | nil=>rfl
 | cons x s ih=>
  rw[List.cons_append]
  simp only[qqu,ih]
theorem qtv (s:Str)(y:UInt8)(h:y≠32):qqu (s++[y])=s++[y]:=by
 induction s with
 | nil=>simp[qqu,h]
 | cons x s ih=>
  rw[List.cons_append]
  simp only[qqu,ih]
  cases s<;>rfl
theorem qkgd (s:Str):(qqu s).length≤s.length:=by
 induction s with
 | nil=>exact Nat.le_refl _
 | cons x s ih=>
  cases h:qqu s with
  | nil=>
   have e:qqu (x::s)=if x=32 then [] else [x]:=by simp only[qqu,h]
   rw[e]
   split<;>simp
  | cons y r=>
   have e:qqu (x::s)=x::y::r:=by simp only[qqu,h]
   rw[e]
   rw[h] at ih
   simp only[List.length_cons] at ih ⊢
   omega
theorem quxc (s:Str):(qeeb s).length≤s.length:=(List.dropWhile_suffix (fun x=>x==32) (l:=s)).length_le
theorem qtjc (s:Str):(trim s).length≤s.length:=Nat.le_trans (quxc _) (qkgd s)
def qck (cur:Str):Str→List Str | []=>[cur] | [b]=>[cur++[b]] | a::b::r=>if a=124∧b=124 then cur::qck [] r else qck (cur++[a]) (b::r)
def sides (s:Str):List Str:=qck [] s
theorem qfz:∀ (n:Nat) (s cur:Str),s.length≤n→(qck cur s).length≤s.length+1∧∀ x∈qck cur s,x.length≤cur.length+s.length
 | _,[],cur,_=>by simp[qck]
 | _,[b],cur,_=>by simp[qck]
 | 0,a::b::r,_,h=>by simp at h
 | n+1,a::b::r,cur,h=>by
  simp only[List.length_cons] at h
  simp only[qck]
  split
  ·have h1:=qfz n r [] (by omega)
   refine⟨by simp only[List.length_cons];omega,fun x hx=>?_⟩
   rcases List.mem_cons.1 hx with rfl | hx
   ·omega
   ·have:=h1.2 x hx
    simp only[List.length_nil,List.length_cons] at this ⊢
    omega
  ·have h1:=qfz n (b::r) (cur++[a]) (by simp only[List.length_cons];omega)
   simp only[List.length_cons,List.length_append,List.length_nil] at h1 ⊢
   refine⟨by omega,fun x hx=>?_⟩
   have:=h1.2 x hx
   omega
def qmq (piece:Str):Option (List RCmp):=qum (split 32 (trim piece))
def qeb:List Str→List (List RCmp)→Option (List (List RCmp))
 | [],acc=>some acc
 | p::r,acc=>match qmq p with | some l=>qeb r (acc++[l]) | none=>none
def qce (s:Str):Option (List (List RCmp)):=if (sides s).length≤4 then qeb (sides s) [] else none
def qwub (l:List RCmp):List Cell:=[encL 5 eCmp l]
instance:CanonE qwub:=⟨fun _=>.cons inferInstance .nil⟩
def qmt (l:List (List RCmp)):Cell:=encL 1 qwub l
def oo:Str:=[124,124]
theorem qntc (a b:UInt8)(r:Str):oo.isPrefixOf (a::b::r)=decide (a=124∧b=124):=by
 simp only[oo,List.isPrefixOf,Bool.and_true]
 rw[Bool.eq_iff_iff]
 simp only[Bool.and_eq_true,beq_iff_eq,decide_eq_true_eq]
 exact⟨fun h=>⟨h.1.symm,h.2.symm⟩,fun h=>⟨h.1.symm,h.2.symm⟩⟩
theorem qyjb (a b:UInt8)(r:Str):Lib.index (a::b::r) oo=if a=124∧b=124 then 0 else if Lib.index (b::r) oo==-1 then -1 else Lib.index (b::r) oo+1:=by
 rw[Lib.index,qntc]
 simp only[decide_eq_true_eq]
theorem oo_one (b:UInt8):Lib.index [b] oo=-1:=by simp[Lib.index,oo,List.isPrefixOf]
theorem qrb:∀ (s cur:Str),Lib.index s oo=-1→qck cur s=[cur++s]
 | [],cur,_=>by simp[qck]
 | [b],cur,_=>by simp[qck]
 | a::b::r,cur,h=>by
  rw[qyjb] at h
  by_cases hab:a=124∧b=124
  ·rw[if_pos hab] at h
   omega
  ·rw[if_neg hab] at h
   have h2:Lib.index (b::r) oo=-1:=by
    have:=Lib.index_ge (b::r) oo
    split at h
    ·rename_i h3
     simpa using h3
    ·omega
   rw[qck,if_neg hab,qrb (b::r) _ h2]
   simp
theorem qwd:∀ (s cur:Str) (i:Nat),Lib.index s oo=(i:Int)→qck cur s=(cur++s.take i)::qck [] (s.drop (i+2))∧i+2≤s.length
 | [],cur,i,h=>by simp[Lib.index,oo] at h
 | [b],cur,i,h=>by rw[oo_one] at h;omega
 | a::b::r,cur,i,h=>by
  rw[qyjb] at h
  by_cases hab:a=124∧b=124
  ·rw[if_pos hab] at h
   obtain rfl:i=0:=by omega
   rw[qck,if_pos hab]
   simp
  ·rw[if_neg hab] at h
   split at h
   ·omega
   ·rename_i h3
    have hge:=Lib.index_ge (b::r) oo
    obtain⟨j,rfl⟩:∃ j,i=j+1:=⟨i - 1,by simp at h3;omega⟩
    obtain⟨h4,h5⟩:=qwd (b::r) (cur++[a]) j (by omega)
    rw[qck,if_neg hab,h4]
    simp only[List.length_cons] at h5 ⊢
    refine⟨?_,by omega⟩
    rw[show j+1+2=(j+2)+1 by omega,List.drop_succ_cons,List.take_succ_cons]
    simp
theorem qll:∀ (n:Nat) (s:Str),s.length≤n→(sides s).length=Lib.count s oo+1:=by
 intro n
 induction n with
 | zero=>
  intro s h
  obtain rfl:s=[]:=List.eq_nil_of_length_eq_zero (by omega)
  rfl
 | succ n ih=>
  intro s h
  rcases Lib.index_spec s oo with⟨h1,_⟩ | ⟨i,h1,_⟩
  ·rw[sides,qrb _ _ h1,Lib.count_miss h1]
   rfl
  ·obtain⟨h2,h3⟩:=qwd s [] i h1
   rw[sides,h2,List.length_cons]
   have:=ih (s.drop (i+2)) (by simp;omega)
   rw[sides] at this
   rw[this,Lib.count_hit (by simp[oo]) h1]
   have e:i+oo.length=i+2:=rfl
   rw[e]
   omega
theorem qqqb (s:Str):Lib.count s oo≤s.length:=by
 have h1:=qll s.length s (Nat.le_refl _)
 have h2:=(qfz s.length s [] (Nat.le_refl _)).1
 unfold sides at h1
 omega
theorem qpe (s:Str)(hs:s.length≤1073741824):out qbmb [.one (Cell.str (bs s)),.one (Cell.str (bs oo))]=some [.one (Cell.int ((Lib.count s oo:Nat):Int))]:=by
 refine qaw (H:=[]) ?_
 show qeu _ _=_
 have e:qeu [.one (.sc (.string (bs s))),.one (.sc (.string (bs oo)))] []=if (bs s).size < 4294967281∧2≤(bs oo).size then some ([.one (.sc (.int .i64 (Lib.count (bs s).data.toList (bs oo).data.toList:Nat)))],[]) else none:=rfl
 rw[e,if_pos ⟨by rw[qbj];omega,by rw[qbj];decide⟩]
 simp only[qkf]
theorem qju (s:Str)(hs:s.length≤1073741824):qru [.one (Cell.str (bs s)),.one (Cell.str (bs oo)),.one (Cell.int 0),.one (Cell.int (-1))] []=some ([.one (.vs 0 1 0 (Lib.count s oo+1) 0)],[Entry.mk 1 ((sides s).map eStr) 0 false]):=by
 have hM:=qag
 have hct:Lib.count s oo≤s.length:=qqqb s
 have hsl:=qll s.length s (Nat.le_refl _)
 have hput:∀ (rows:List (List Cell)) (i:Nat) (row:List Cell) (y:Str),rows[i]?=some row→row.length=1→qca [Entry.mk 1 rows 0 false] (.ptr 0 1 i 0 0) [Cell.str (bs y)]=some [Entry.mk 1 (rows.set i (eStr y)) 0 false]:=by
  intro rows i row y h hr
  simp only[qca,entry?,List.getElem?_cons_zero,if_true,h]
  rw[if_pos ⟨trivial,by simp,trivial⟩]
  simp[splice,eStr,hr,List.drop_eq_nil_of_le]
 have loop:∀ (d:Nat) (r:Str) (done:List Str) (n:Nat),Lib.count r oo=d→done.length+d=Lib.count s oo→r.length≤s.length→sides s=done++sides r→d < n→∀ k m,
   qsa k m n (bs r) (bs oo) 0 ((Lib.count s oo:Nat):Int) (.vs 0 1 0 (Lib.count s oo+1) 0) ((done.length:Nat):Int) [Entry.mk 1 (done.map eStr++List.replicate (d+1) [Cell.str (bs [])]) 0 false]=
    some ([.one (.vs 0 1 0 (Lib.count s oo+1) 0)],[Entry.mk 1 ((sides s).map eStr) 0 false]):=by
  intro d
  induction d with
  | zero=>
   intro r done n hc hd hr hsp hn k m
   obtain⟨n,rfl⟩:∃ j,n=j+1:=⟨n - 1,by omega⟩
   have hnc:sides r=[r]:=by
    rcases Lib.index_spec r oo with⟨h1,_⟩ | ⟨i,h1,_⟩
    ·rw[sides,qrb _ _ h1]
     rfl
    ·have:=Lib.count_hit (sub:=oo) (by simp[oo]) h1
     omega
   simp only[qsa]
   rw[decide_eq_false (by omega),cond_false]
   have hrow:(done.map eStr++List.replicate (0+1) [Cell.str (bs [])])[done.length]?=some [Cell.str (bs [])]:=by simp
   simp only[qgd 0 1 (Lib.count s oo+1) 0 done.length (by omega),Option.bind_some,hput _ _ _ r hrow rfl]
   have hset:(done.map eStr++List.replicate (0+1) [Cell.str (bs [])]).set done.length (eStr r)=(sides s).map eStr:=by
    rw[hsp,hnc,List.set_append_right _ _ (by simp)]
    simp
   rw[hset,show IntKind.i64.wrap ((done.length:Int)+1)=((Lib.count s oo+1:Nat):Int) by rw[qae (by omega)];omega]
   have hsl':slcC 1 (.vs 0 1 0 (Lib.count s oo+1) 0) 0 (some ((Lib.count s oo+1:Nat):Int)) none=some (.vs 0 1 0 (Lib.count s oo+1) 0):=by
    simp only[slcC,Option.getD_some,Option.getD_none,if_true]
    rw[if_pos ⟨by omega,by omega,by omega,by omega⟩,if_pos (.inl trivial)]
    simp
   rw[hsl']
   rfl
  | succ d ih=>
   intro r done n hc hd hr hsp hn k m
   obtain⟨n,rfl⟩:∃ j,n=j+1:=⟨n - 1,by omega⟩
   obtain⟨i,hi⟩:∃ i:Nat,Lib.index r oo=(i:Int):=by
    rcases Lib.index_spec r oo with⟨h1,_⟩ | ⟨i,h1,_⟩
    ·have:=Lib.count_miss h1
     omega
    ·exact⟨i,h1⟩
   obtain⟨h2,h3⟩:=qwd r [] i hi
   have h4:=Lib.count_hit (sub:=oo) (by simp[oo]) hi
   have e5:i+oo.length=i+2:=rfl
   rw[e5] at h4
   simp only[qsa]
   rw[decide_eq_true (by omega),cond_true]
   simp only[qgw r oo (by omega),hi,EV0]
   rw[decide_eq_false (by omega),cond_false]
   have e1:=qcw r 0 i (by omega) (by omega)
   simp only[Int.natCast_zero,List.drop_zero] at e1
   rw[show IntKind.i64.wrap ((i:Int)+0)=(i:Int) by rw[Int.add_zero];exact wrap_small (by omega) (by omega),e1]
   have hrow:(done.map eStr++List.replicate (d+1+1) [Cell.str (bs [])])[done.length]?=some [Cell.str (bs [])]:=by simp
   simp only[Option.bind_some,qgd 0 1 (Lib.count s oo+1) 0 done.length (by omega),hput _ _ _ (r.take i) hrow rfl]
   have e2:=qcw r (i+2) r.length (by omega) (Nat.le_refl _)
   rw[List.take_length] at e2
   rw[show IntKind.i64.wrap ((i:Int)+((oo.length:Nat):Int))=((i+2:Nat):Int) by rw[wrap_small (by simp[oo];omega) (by simp[oo];omega)];simp[oo],e2,qae (by omega)]
   simp only[Option.bind_some]
   have hset:(done.map eStr++List.replicate (d+1+1) [Cell.str (bs [])]).set done.length (eStr (r.take i))=(done++[r.take i]).map eStr++List.replicate (d+1) [Cell.str (bs [])]:=by
    rw[List.set_append_right _ _ (by simp)]
    simp[List.replicate_succ]
   rw[hset]
   have h6:sides r=r.take i::sides (r.drop (i+2)):=by
    rw[sides,h2]
    rfl
   have:=ih (r.drop (i+2)) (done++[r.take i]) n (by omega) (by simp;omega) (by simp;omega) (by rw[hsp,h6];simp) (by omega) k m
   rw[show(done++[r.take i]).length=done.length+1 by simp] at this
   exact this
 have hmin:(if IntKind.i64.wrap ((s.length:Int)+1) < IntKind.i64.wrap (((Lib.count s oo:Nat):Int)+1) then IntKind.i64.wrap ((s.length:Int)+1) else IntKind.i64.wrap (((Lib.count s oo:Nat):Int)+1))=((Lib.count s oo+1:Nat):Int):=by
  rw[qae (by omega),qae (by omega),if_neg (by omega)]
 have z:=loop (Lib.count s oo) s [] (Lib.count s oo+1+1) rfl (by simp) (Nat.le_refl _) (by simp) (by omega) (Lib.count s oo+1+1) (Lib.count s oo+1+1)
 refine qcub (Lib.count s oo+1) ?_
 ·simp only[fgm]
  rw[show((-1:Int)==0)=false from rfl,cond_false]
  simp only[qdz]
  rw[show((oo:Str)==[])=false from rfl,cond_false,show decide ((-1:Int) < 0)=true from rfl,cond_true]
  simp only[qpe s hs,EV0,hmin]
  rw[if_pos ⟨by omega,by omega,by unfold bound;omega,by unfold bound;omega⟩]
  rw[show IntKind.i64.wrap (((Lib.count s oo+1:Nat):Int) - 1)=((Lib.count s oo:Nat):Int) from qcp (by omega)]
  simpa[qcr] using z
theorem qnj (s:Str)(hs:s.length≤1073741824):Fresh qew true 2 [.one (Cell.str (bs s)),.one (Cell.str (bs oo))] [.one (trL 1 qcx (sides s))]:=by
 have hg:GrowAt ([]:List Entry).length 1 (.vs 0 1 0 (Lib.count s oo+1) 0) [Entry.mk 1 ((sides s).map eStr) 0 false] ((sides s).map eStr):=.inr ⟨0,by rw[List.length_map,qll s.length s (Nat.le_refl _)];rfl,rfl⟩
 obtain⟨ids,r1,r2,_⟩:=hg.list
 refine Fresh.tailO (Fresh.one (qju s hs) r1 r2) [] (qam _ _ _) fun c' E hc=>qbnb 0 ?_
 simp only[fgi,hc,EV0]
theorem qvs {α:Type}{sz:Nat}{e:α→List Cell}[CanonE e](f:Bool)(xs:List α)(H:List Entry):qao false H (.one (.lst f sz (xs.map e)))=some (.one (encL sz e xs)):=by
 have h:=(inferInstance:Canon (encL sz e xs)).nrm
 have e':norm (.lst f sz (xs.map e))=norm (encL sz e xs):=by simp only[encL,norm]
 show((some (norm (.lst f sz (xs.map e)))).map AV.one)=_
 rw[e',h]
 rfl
theorem c_fgj (s:Str)(hs:s.length≤1073741824):out qmmb [.one (Cell.str (bs s)),.one (Cell.str (bs [32]))]=some [.one (Cell.str (bs (trim s)))]:=by
 have key:∀ t:Str,(t.reverse.dropWhile (·==32)).reverse=qqu t:=by
  intro t
  generalize hn:t.length=n
  induction n generalizing t with
  | zero=>
   have:t=[]:=List.eq_nil_of_length_eq_zero hn
   subst this
   rfl
  | succ n ih=>
   obtain⟨u,y,rfl⟩:∃ u y,t=u++[y]:=by
    have hne:t≠[]:=fun h=>by rw[h] at hn;simp at hn
    exact⟨t.dropLast,t.getLast hne,(List.dropLast_concat_getLast hne).symm⟩
   by_cases hy:y=32
   ·subst hy
    rw[qua,← ih u (by simpa using hn)]
    simp
   ·rw[qtv u y hy]
    simp[hy]
 refine qaw (H:=[]) ?_
 show qjs _ _=_
 have e:qjs [.one (.sc (.string (bs s))),.one (.sc (.string (bs [32])))] []=if (32:UInt8).toNat < 128∧(bs s).size≤9223372036854775807 then some ([.one (.sc (.string ⟨(Lib.trimB (bs s).data.toList 32).toArray⟩))],[]) else none:=rfl
 rw[e,if_pos ⟨by decide,by rw[qbj];omega⟩,qkf]
 unfold Lib.trimB Lib.trimLeftB Lib.trimRightB
 rw[key]
 rfl
theorem c_ffr (s:Str)(hs:s.length≤1073741824):out qcab [.one (Cell.str (bs s))]=some [.one (Cell.str (bs (trim s)))]:=by
 have hM:=qag
 have right:∀ (n:Nat) (t:Str),t.length≤1073741824→t.length < n→∀ k m,qhwb k m n (bs t)=some ([.one (Cell.str (bs (qqu t)))],[]):=by
  intro n
  induction n with
  | zero=>intro t h0 h;omega
  | succ n ih=>
   intro t h0 h k m
   by_cases ht:t=[]
   ·subst ht
    rfl
   ·obtain⟨u,y,rfl⟩:∃ u y,t=u++[y]:=⟨t.dropLast,t.getLast ht,(List.dropLast_concat_getLast ht).symm⟩
    have hlen:(u++[y]).length=u.length+1:=by simp
    have hw:IntKind.i64.wrap (((u++[y]).length:Int) - 1)=(u.length:Int):=by
     rw[hlen]
     exact qcp (by omega)
    have hb:bytS (bs (u++[y])) (u.length:Int)=some (y.toNat:Int):=by
     rw[qcn]
     simp
    have h32:((y.toNat:Int)==32)=(y==32):=qmy y 32 (by omega)
    have hsub:subS (bs (u++[y])) 0 (u.length:Int)=some (bs u):=by
     have:=qcw (u++[y]) 0 u.length (Nat.zero_le _) (by simp)
     simpa using this
    simp only[qhwb,qbj,hw,hb,h32,hsub,Option.bind_some]
    rw[decide_eq_true (by rw[hlen];omega),cond_true]
    by_cases hy:y=32
    ·subst hy
     rw[show((32:UInt8)==32)=true from rfl,cond_true,ih u (by omega) (by omega),qua]
    ·rw[show(y==32)=false by simpa using hy,cond_false,qtv u y hy]
 have left:∀ (n:Nat) (t:Str),t.length≤1073741824→t.length < n→∀ k m,t.length < m→qhyb k m n (bs t)=some ([.one (Cell.str (bs (qqu (qeeb t))))],[]):=by
  intro n
  induction n with
  | zero=>intro t h0 h;omega
  | succ n ih=>
   intro t h0 h k m hm
   cases t with
   | nil=>
    simp only[qhyb,qbj]
    rw[show decide (((([]:Str).length:Nat):Int) > 0)=false from rfl,cond_false,right m [] h0 hm]
    rfl
   | cons x t=>
    have hb:bytS (bs (x::t)) 0=some (x.toNat:Int):=by
     have:=qcn (x::t) 0
     simpa using this
    have h32:((x.toNat:Int)==32)=(x==32):=qmy x 32 (by omega)
    have hsub:subS (bs (x::t)) 1 ((x::t).length:Int)=some (bs t):=by
     have:=qcw (x::t) 1 (x::t).length (by simp) (Nat.le_refl _)
     rw[List.take_length] at this
     exact this
    simp only[List.length_cons] at h0 h hm
    simp only[qhyb,qbj,hb,h32,hsub,Option.bind_some]
    rw[decide_eq_true (by simp only[List.length_cons];omega),cond_true]
    by_cases hx:x=32
    ·subst hx
     rw[show((32:UInt8)==32)=true from rfl,cond_true,ih t (by omega) (by omega) k m (by omega)]
     simp[qeeb]
    ·rw[show(x==32)=false by simpa using hx,cond_false,right m (x::t) (by simp;omega) (by simp;omega)]
     simp[qeeb,hx]
 refine qaw (H:=[]) (qaac (s.length+1) ?_)
 have z:=left (s.length+1+1) s hs (by omega) (s.length+1+1) (s.length+1+1) (by omega)
 rw[trimLR] at z
 simp only[ffr]
 exact z
theorem c_ffp (s:Str)(hs:s.length≤1073741824):outL qdlb [.one (Cell.str (bs s))]=some [.one (qay (sides s))]:=by
 have hM:=qag
 have loop:∀ (n:Nat) (r:Str) (i from':Nat) (cur:Str) (cl:Cell) (H:List Entry) (done:List Str),s.drop i=r→from'≤i→i≤s.length→(s.take i).drop from'=cur→r.length < n→Grow 1 cl H (done.map eStr)→done.length≤i→
   ∀ k m,∃ cl' H',qlo k m n (bs s) cl from' i H=some ([.one cl'],H')∧Grow 1 cl' H' ((done++qck cur r).map eStr):=by
  intro n
  induction n with
  | zero=>intro r i from' cur cl H done hd hf hi hc hn;omega
  | succ n ih=>
   intro r i from' cur cl H done hd hf hi hc hn hg hdl k m
   have fin:s.length≤i+1→qck cur r=[s.drop from']→∃ cl' H',qlo k m (n+1) (bs s) cl from' i H=some ([.one cl'],H')∧Grow 1 cl' H' ((done++qck cur r).map eStr):=by
    intro h1 h2
    obtain⟨p,hp,hgp⟩:=hg.app (by':=16) [eStr (s.drop from')] (by simp[bound];omega) (by simp[bound];omega)
    refine⟨p.1,p.2,?_,by rw[h2];simpa using hgp⟩
    have hsub:=qcw s from' s.length (by omega) (Nat.le_refl _)
    rw[List.take_length] at hsub
    simp only[qlo,qbj,qae (show i < maxLen by omega)]
    rw[decide_eq_false (by omega),cond_false,hsub]
    simp only[Option.bind_some]
    rw[show [[Cell.str (bs (s.drop from'))]]=[eStr (s.drop from')] from rfl,hp]
    rfl
   cases r with
   | nil=>
    have:=drop_nil hd
    refine fin (by omega) ?_
    rw[qck,← hc,List.take_of_length_le (by omega)]
   | cons a r=>
    obtain⟨hlt,hga,hda⟩:=qal hd
    have hcur:(s.take (i+1)).drop from'=cur++[a]:=by
     rw[← hc,List.take_add_one,hga,List.drop_append]
     have:from' - (s.take i).length=0:=by rw[List.length_take];omega
     rw[this]
     rfl
    cases r with
    | nil=>
     have:=drop_nil hda
     refine fin (by omega) ?_
     rw[qck,← hcur,List.take_of_length_le (by omega)]
    | cons b r=>
     obtain⟨hlt2,hgb,hdb⟩:=qal hda
     simp only[List.length_cons] at hn
     have ha:((a.toNat:Int)==124)=(a==124):=qmy a 124 (by omega)
     have hb:((b.toNat:Int)==124)=(b==124):=qmy b 124 (by omega)
     have w1:IntKind.i64.wrap ((i:Int)+1)=((i+1:Nat):Int):=qae (by omega)
     have w2:IntKind.i64.wrap ((i:Int)+2)=((i+2:Nat):Int):=by rw[wrap_small (by omega) (by omega)];omega
     have w3:IntKind.i64.wrap (((i+1:Nat):Int)+1)=((i+2:Nat):Int):=qae (by omega)
     have next:qck cur (a::b::r)=qck (cur++[a]) (b::r)→∃ cl' H',qlo k m n (bs s) cl from' ((i+1:Nat):Int) H=some ([.one cl'],H')∧Grow 1 cl' H' ((done++qck cur (a::b::r)).map eStr):=by
      intro h
      rw[h]
      exact ih (b::r) (i+1) from' (cur++[a]) cl H done hda (by omega) (by omega) hcur (by simp only[List.length_cons];omega) hg (by omega) k m
     by_cases h1:a=124
     ·by_cases h2:b=124
      ·obtain⟨p,hp,hgp⟩:=hg.app (by':=16) [eStr cur] (by simp[bound];omega) (by simp[bound];omega)
       obtain⟨cl',H',z1,z2⟩:=ih r (i+2) (i+2) [] p.1 p.2 (done++[cur]) hdb (by omega) (by omega) (by simp) (by omega) (by simpa using hgp) (by simp;omega) k m
       refine⟨cl',H',?_,?_⟩
       ·simp only[qlo,qbj,qcn,w1,w2,w3,hga,hgb,ha,hb,Option.map_some,Option.bind_some]
        rw[decide_eq_true (by omega),cond_true,show(a==124)=true by simpa using h1,show(b==124)=true by simpa using h2,cond_true,cond_true,qcw _ _ _ hf (by omega),hc]
        simp only[Option.bind_some]
        rw[show [[Cell.str (bs cur)]]=[eStr cur] from rfl,hp]
        simp only[Option.bind_some]
        exact z1
       ·rw[qck,if_pos ⟨h1,h2⟩]
        simpa using z2
      ·obtain⟨cl',H',z1,z2⟩:=next (by rw[qck,if_neg fun h=>h2 h.2])
       refine⟨cl',H',?_,z2⟩
       simp only[qlo,qbj,qcn,w1,w2,w3,hga,hgb,ha,hb,Option.map_some,Option.bind_some]
       rw[decide_eq_true (by omega),cond_true,show(a==124)=true by simpa using h1,show(b==124)=false by simpa using h2,cond_true,cond_false]
       exact z1
     ·obtain⟨cl',H',z1,z2⟩:=next (by rw[qck,if_neg fun h=>h1 h.1])
      refine⟨cl',H',?_,z2⟩
      simp only[qlo,qbj,qcn,w1,w2,w3,hga,hgb,ha,hb,Option.map_some,Option.bind_some]
      rw[decide_eq_true (by omega),cond_true,show(a==124)=false by simpa using h1,cond_false]
      exact z1
 obtain⟨cl',H',z1,z2⟩:=loop (s.length+1+1) s 0 0 [] (.lst true 1 []) [] [] rfl (by omega) (by omega) (by simp) (by omega) (Grow.nil 1) (by simp) (s.length+1+1) (s.length+1+1)
 refine qbf (H:=H') (qaqc (s.length+1) ?_) (Grow.read z2)
 simpa[ffp] using z1
def okV (v:MVer):Prop:=(0≤v.A∧v.A≤9999)∧(0≤v.B∧v.B≤9999)∧(0≤v.C∧v.C≤9999)∧v.Pre.length≤3∧∀ x∈v.Pre,x.length≤8
theorem qfs {s:Str}(h:(qai s).2=true):qil (qai s).1=true:=by
 unfold qai at h ⊢
 split at h<;>try (simp at h;done)
 split at h<;>try (simp at h;done)
 split at h<;>try (simp at h;done)
 rename_i hk
 simp only[qil]
 rw[if_pos hk]
 exact hk
theorem xS_num:qas xS 9999=none:=by decide
theorem qboc {x:Str}{p:MVer×Nat}(h:oneV x=some p):okV p.1∧p.2=1:=by
 unfold oneV at h
 split at h
 ·rename_i a ha
  have:=(qda ha).2.1
  simp only[Option.some.injEq] at h
  subst h
  exact⟨⟨by simp only;omega,by simp,by simp,by simp,by simp⟩,rfl⟩
 ·simp at h
theorem qubc {x y:Str}{p:MVer×Nat}(h:twoV x y=some p):okV p.1∧p.2=2:=by
 unfold twoV at h
 split at h
 ·rename_i a b ha hb
  have h1:=(qda ha).2.1
  have h2:=(qda hb).2.1
  simp only[Option.some.injEq] at h
  subst h
  exact⟨⟨by simp only;omega,by simp only;omega,by simp,by simp,by simp⟩,rfl⟩
 ·simp at h
theorem qwj {s:Str}{p:MVer×Nat}(h:partOf s=some p):okV p.1∧(1≤p.2∧p.2≤3):=by
 unfold partOf at h
 split at h
 ·rename_i hk
  simp only[Option.some.injEq] at h
  subst h
  have:=qpk (qfs hk)
  exact⟨this,by simp⟩
 ·unfold numsOf at h
  split at h
  ·obtain⟨h1,h2⟩:=qboc h
   exact⟨h1,by omega⟩
  ·split at h
   ·obtain⟨h1,h2⟩:=qboc h
    exact⟨h1,by omega⟩
   ·obtain⟨h1,h2⟩:=qubc h
    exact⟨h1,by omega⟩
  ·split at h
   ·split at h
    ·obtain⟨h1,h2⟩:=qboc h
     exact⟨h1,by omega⟩
    ·obtain⟨h1,h2⟩:=qubc h
     exact⟨h1,by omega⟩
   ·simp at h
  ·simp at h
def okB (v:MVer):Prop:=(0≤v.A∧v.A≤10000)∧(0≤v.B∧v.B≤10000)∧(0≤v.C∧v.C≤10000)∧v.Pre.length≤3∧∀ x∈v.Pre,x.length≤8
theorem qmpd {v:MVer}(h:okB v):v.Bd 1048576:=by
 obtain⟨h1,h2,h3,h4,h5⟩:=h
 exact⟨by simp only[bdI];omega,by simp only[bdI];omega,by simp only[bdI];omega,by omega,fun x hx=>by have:=h5 x hx;simp only[bdS];omega⟩
theorem okV_B {v:MVer}(h:okV v):okB v:=by
 obtain⟨h1,h2,h3,h4,h5⟩:=h
 exact⟨by omega,by omega,by omega,h4,h5⟩
theorem qsyc {v:MVer}(h:okV v)(t:Nat):okB (qfp v t):=by
 obtain⟨h1,h2,h3,h4,h5⟩:=h
 unfold qfp
 split<;>exact⟨by simp only;omega,by simp only;omega,by simp only;omega,by simp,by simp⟩
theorem qcvd {v:MVer}(h:okV v)(t:Nat):okB (qge v t):=by
 obtain⟨h1,h2,h3,h4,h5⟩:=h
 unfold qge
 split
 ·exact⟨by simp only;omega,by simp only;omega,by simp only;omega,by simp,by simp⟩
 ·split<;>exact⟨by simp only;omega,by simp only;omega,by simp only;omega,by simp,by simp⟩
theorem qxwb {v:MVer}(h:okB v):okB (qjl v).v:=by
 obtain⟨h1,h2,h3,h4,h5⟩:=h
 exact⟨h1,h2,h3,by simp[qjl],by simp[qjl]⟩
theorem qttb (g:Str){v:MVer}(h:okV v)(t:Nat):(qdr g v t).length≤2∧∀ c∈qdr g v t,okB c.v:=by
 have a:=okV_B h
 have b:=qxwb (qcvd h t)
 have c:=qxwb (qsyc h t)
 have d:=qsyc h t
 unfold qdr
 (repeat' split)<;>exact⟨by simp,by simp[a,b,c,d]⟩
theorem qbec (w:Str):∀ (r:List Str) (l:List RCmp),qfk w r=some l→l.length≤2∧∀ c∈l,okB c.v
 | [],l,h=>by simp[qfk] at h
 | g::r,l,h=>by
  unfold qfk at h
  split at h
  ·split at h
   ·rename_i p hp
    simp only[Option.some.injEq] at h
    subst h
    exact qttb g (qwj hp).1 p.2
   ·simp at h
  ·exact qbec w r l h
theorem qhjb {w:Str}{l:List RCmp}(h:qlx w=some l):l.length≤2∧∀ c∈l,okB c.v:=by
 unfold qlx at h
 split at h
 ·simp only[Option.some.injEq] at h
  subst h
  exact⟨by simp,by simp[zeroV,okB]⟩
 ·exact qbec w signs l h
theorem qul (L:List RCmp)(f:Bool)(H:List Entry):mapO (qao false H) [.one (.lst f 5 (L.map eCmp))]=some [.one (encL 5 eCmp L)]:=
 qbt (qvs f L H) (qbh _)
theorem leafRB (L:List RCmp)(f:Bool)(b:Bool)(H:List Entry):mapO (qao false H) [.one (.lst f 5 (L.map eCmp)),.one (Cell.bool b)]=some [.one (encL 5 eCmp L),.one (Cell.bool b)]:=
 qbt (qvs f L H) (qbt (qba _ _ _) (qbh _))
theorem w1 {a:Int}(h:0≤a∧a≤9999):IntKind.i64.wrap (a+1)=a+1:=wrap_small (by omega) (by omega)
theorem c_ffj (v:MVer)(t:Nat)(b:Bool):outL qhn [.agg [Cell.int v.A,Cell.int v.B,Cell.int v.C,qay v.Pre,Cell.int t,Cell.bool b]]=some [.agg [Cell.int 4,Cell.int v.A,Cell.int v.B,Cell.int v.C,qay v.Pre]]:=
 qyg (H:=[]) (qzyb 0 rfl)
theorem qid (a b c:Int)(H:List Entry):mapO (qao false H) [.agg [Cell.int a,Cell.int b,Cell.int c,.lst true 1 []]]=some [.agg [Cell.int a,Cell.int b,Cell.int c,qay []]]:=rfl
theorem c_ffh (v:MVer):outL qfd [.agg [Cell.int v.A,Cell.int v.B,Cell.int v.C,qay v.Pre]]=some [.agg [Cell.int 1,Cell.int v.A,Cell.int v.B,Cell.int v.C,qay [[48]]]]:=
 qbf (H:=[]) (qyfb 0 rfl) rfl
theorem c_fav (v:MVer):outL qmg [.agg [Cell.int v.A,Cell.int v.B,Cell.int v.C,qay v.Pre]]=some [.agg [Cell.int 1,Cell.int v.A,Cell.int v.B,Cell.int v.C,qay [[48]]]]:=
 qbf (H:=[]) (qyzb 0 rfl) rfl
theorem nEq (t n:Nat):((t:Int)==(n:Int))=decide (t=n):=by rw[Bool.eq_iff_iff];simp only[beq_iff_eq,decide_eq_true_eq];omega
theorem i_ne (a:Int):(a != 0)=decide (a≠0):=by rw[Bool.eq_iff_iff];simp
theorem qkb (v:MVer)(hv:okV v)(t:Nat):cond (v.A != 0)
 (some ([AV.agg [Cell.int (IntKind.i64.wrap (v.A+1)),Cell.int 0,Cell.int 0,.lst true 1 []]],([]:List Entry)))
 (cond ((t:Int)==1)
 (some ([.agg [Cell.int (IntKind.i64.wrap (v.A+1)),Cell.int 0,Cell.int 0,.lst true 1 []]],[]))
 (cond (v.B != 0)
 (some ([.agg [Cell.int 0,Cell.int (IntKind.i64.wrap (v.B+1)),Cell.int 0,.lst true 1 []]],[]))
 (cond ((t:Int)==2)
 (some ([.agg [Cell.int 0,Cell.int (IntKind.i64.wrap (v.B+1)),Cell.int 0,.lst true 1 []]],[]))
 (some ([.agg [Cell.int 0,Cell.int 0,Cell.int (IntKind.i64.wrap (v.C+1)),.lst true 1 []]],[])))))=some ([.agg [Cell.int (qge v t).A,Cell.int (qge v t).B,Cell.int (qge v t).C,.lst true 1 []]],[])∧(qge v t).Pre=[]:=by
 rw[w1 hv.1,w1 hv.2.1,w1 hv.2.2.1,i_ne,i_ne,show((t:Int)==1)=decide (t=1) from nEq t 1,show((t:Int)==2)=decide (t=2) from nEq t 2]
 unfold qge
 by_cases h1:v.A≠0
 ·rw[decide_eq_true h1,cond_true,if_pos (.inl h1)]
  exact⟨rfl,rfl⟩
 ·rw[decide_eq_false h1,cond_false]
  by_cases h2:t=1
  ·rw[decide_eq_true h2,cond_true,if_pos (.inr h2)]
   exact⟨rfl,rfl⟩
  ·rw[decide_eq_false h2,cond_false,if_neg (fun h=>h.elim h1 h2)]
   by_cases h3:v.B≠0
   ·rw[decide_eq_true h3,cond_true,if_pos (.inl h3)]
    exact⟨rfl,rfl⟩
   ·rw[decide_eq_false h3,cond_false]
    by_cases h4:t=2
    ·rw[decide_eq_true h4,cond_true,if_pos (.inr h4)]
     exact⟨rfl,rfl⟩
    ·rw[decide_eq_false h4,cond_false,if_neg (fun h=>h.elim h3 h4)]
     exact⟨rfl,rfl⟩
theorem qht (v:MVer)(hv:okV v)(t:Nat):cond ((t:Int)==1)
 (some ([AV.agg [Cell.int (IntKind.i64.wrap (v.A+1)),Cell.int 0,Cell.int 0,.lst true 1 []]],([]:List Entry)))
 (some ([.agg [Cell.int v.A,Cell.int (IntKind.i64.wrap (v.B+1)),Cell.int 0,.lst true 1 []]],[]))=some ([.agg [Cell.int (qfp v t).A,Cell.int (qfp v t).B,Cell.int (qfp v t).C,.lst true 1 []]],[])∧(qfp v t).Pre=[]:=by
 rw[w1 hv.1,w1 hv.2.1,show((t:Int)==1)=decide (t=1) from nEq t 1]
 unfold qfp
 by_cases h2:t=1
 ·rw[decide_eq_true h2,cond_true,if_pos h2]
  exact⟨rfl,rfl⟩
 ·rw[decide_eq_false h2,cond_false,if_neg h2]
  exact⟨rfl,rfl⟩
theorem c_ffi (v:MVer)(hv:okV v)(t:Nat)(b:Bool):outL qyt [.agg [Cell.int v.A,Cell.int v.B,Cell.int v.C,qay v.Pre,Cell.int t,Cell.bool b]]=some [.agg [Cell.int (qge v t).A,Cell.int (qge v t).B,Cell.int (qge v t).C,qay (qge v t).Pre]]:=by
 rw[(qkb v hv t).2]
 exact qbf (H:=[]) (qwqb 0 (qkb v hv t).1) (qid _ _ _ _)
theorem c_faw (v:MVer)(hv:okV v)(t:Nat):outL qyp [.agg [Cell.int v.A,Cell.int v.B,Cell.int v.C,qay v.Pre],.one (Cell.int t)]=some [.agg [Cell.int (qge v t).A,Cell.int (qge v t).B,Cell.int (qge v t).C,qay (qge v t).Pre]]:=by
 rw[(qkb v hv t).2]
 exact qbf (H:=[]) (qagc 0 (qkb v hv t).1) (qid _ _ _ _)
theorem c_ffn (v:MVer)(hv:okV v)(t:Nat)(b:Bool):outL qfb [.agg [Cell.int v.A,Cell.int v.B,Cell.int v.C,qay v.Pre,Cell.int t,Cell.bool b]]=some [.agg [Cell.int (qfp v t).A,Cell.int (qfp v t).B,Cell.int (qfp v t).C,qay (qfp v t).Pre]]:=by
 rw[(qht v hv t).2]
 exact qbf (H:=[]) (qydb 0 (qht v hv t).1) (qid _ _ _ _)
theorem c_ffq (v:MVer)(hv:okV v)(t:Nat)(b:Bool):outL qxg [.agg [Cell.int v.A,Cell.int v.B,Cell.int v.C,qay v.Pre,Cell.int t,Cell.bool b]]=some [.agg [Cell.int (qfp v t).A,Cell.int (qfp v t).B,Cell.int (qfp v t).C,qay (qfp v t).Pre]]:=by
 rw[(qht v hv t).2]
 exact qbf (H:=[]) (qvbb 0 (qht v hv t).1) (qid _ _ _ _)
theorem c_fbo (v:MVer)(hv:okV v)(t:Nat)(ht:t≤2)(h1:1≤t)(c:Cell)(hc:Canon c):outL qkh [.agg [Cell.int v.A,Cell.int v.B,Cell.int v.C,c],.one (Cell.int t)]=some [.agg [Cell.int (qfp v t).A,Cell.int (qfp v t).B,Cell.int (qfp v t).C,qay (qfp v t).Pre]]:=by
 rw[(qht v hv t).2]
 refine qbf (H:=[]) (qdtb 0 ?_) (qid _ _ _ _)
 have:=(qht v hv t).1
 simp only[fbo]
 rw[← this]
 rcases (by omega:t=1∨t=2) with rfl | rfl<;>rfl
theorem qvv (v:MVer)(hv:okV v):outL qkh [.agg [Cell.int v.A,Cell.int v.B,Cell.int v.C,qay v.Pre],.one (Cell.int 3)]=some [.agg [Cell.int v.A,Cell.int v.B,Cell.int (v.C+1),qay []]]:=by
 refine qbf (H:=[]) (qdtb 0 ?_) (qid _ _ _ _)
 simp only[fbo,w1 hv.2.2.1]
 rfl
theorem strEq (g h:Str):(g==h)=decide (g=h):=by rw[Bool.eq_iff_iff];simp
theorem c_ffm (g:Str)(v:MVer)(hv:okV v)(t:Nat)(b:Bool):outL qaob [.one (Cell.str (bs g)),.agg [Cell.int v.A,Cell.int v.B,Cell.int v.C,qay v.Pre,Cell.int t,Cell.bool b]]=some [.one (encL 5 eCmp (qdr g v t))]:=by
 suffices h:∃ xs,ffm (0+1) (0+1) (bs g) v.A v.B v.C (qay v.Pre) t b=some (xs,[])∧mapO (qao false []) xs=some [.one (encL 5 eCmp (qdr g v t))] by
  obtain⟨xs,h1,h2⟩:=h
  exact qbf (qarc 0 h1) h2
 have h3:((t:Int)==3)=decide (t=3):=nEq t 3
 simp only[ffm,c_ffj v t b,c_ffi v hv t b,c_ffq v hv t b,c_ffn v hv t b,c_ffh (qge v t),c_ffh (qfp v t),h3,strEq,EV0]
 unfold qdr
 by_cases e1:g=[94]
 ·rw[decide_eq_true e1,cond_true,if_pos e1]
  exact⟨_,rfl,qul [⟨4,v⟩,qjl (qge v t)] true []⟩
 ·rw[decide_eq_false e1,cond_false,if_neg e1]
  by_cases e2:g=[126]
  ·rw[decide_eq_true e2,cond_true,if_pos e2]
   exact⟨_,rfl,qul [⟨4,v⟩,qjl (qfp v t)] true []⟩
  ·rw[decide_eq_false e2,cond_false,if_neg e2]
   by_cases e3:g=[62,61]
   ·rw[decide_eq_true e3,cond_true,if_pos e3]
    exact⟨_,rfl,qul [⟨4,v⟩] true []⟩
   ·rw[decide_eq_false e3,cond_false,if_neg e3]
    by_cases e4:g=[60]
    ·rw[decide_eq_true e4,cond_true]
     subst e4
     exact⟨_,rfl,qul [⟨1,v⟩] true []⟩
    ·rw[decide_eq_false e4,cond_false]
     by_cases e5:g=[62]
     ·rw[decide_eq_true e5,cond_true,if_pos e5]
      by_cases ht:t=3
      ·rw[decide_eq_true ht,cond_true,if_pos ht]
       exact⟨_,rfl,qul [⟨3,v⟩] true []⟩
      ·rw[decide_eq_false ht,cond_false,if_neg ht]
       exact⟨_,rfl,qul [⟨4,qfp v t⟩] true []⟩
     ·rw[decide_eq_false e5,cond_false,if_neg e5]
      by_cases e6:g=[60,61]
      ·rw[decide_eq_true e6,cond_true,if_pos e6]
       by_cases ht:t=3
       ·rw[decide_eq_true ht,cond_true,if_pos ht]
        exact⟨_,rfl,qul [⟨2,v⟩] true []⟩
       ·rw[decide_eq_false ht,cond_false,if_neg ht]
        exact⟨_,rfl,qul [qjl (qfp v t)] true []⟩
      ·rw[decide_eq_false e6,cond_false,if_neg e6,if_neg e4]
       by_cases ht:t=3
       ·rw[decide_eq_true ht,cond_true,if_pos ht]
        exact⟨_,rfl,qul [⟨0,v⟩] true []⟩
       ·rw[decide_eq_false ht,cond_false,if_neg ht]
        exact⟨_,rfl,qul [⟨4,v⟩,qjl (qfp v t)] true []⟩
theorem c_fbw (g:Str)(v:MVer)(hv:okV v)(t:Nat)(h1:1≤t)(h3:t≤3):outL qbvb [.one (Cell.str (bs g)),.agg [Cell.int v.A,Cell.int v.B,Cell.int v.C,qay v.Pre],.one (Cell.int t)]=some [.one (encL 5 eCmp (qdr g v t))]:=by
 suffices h:∃ xs,fbw (0+1) (0+1) (bs g) v.A v.B v.C (qay v.Pre) t=some (xs,[])∧mapO (qao false []) xs=some [.one (encL 5 eCmp (qdr g v t))] by
  obtain⟨xs,h1,h2⟩:=h
  exact qbf (qtob 0 h1) h2
 have hz:okV ⟨v.A,v.B,0,[]⟩:=⟨hv.1,hv.2.1,by simp,by simp,by simp⟩
 have hq:callL qkh [.agg [Cell.int v.A,Cell.int v.B,Cell.int 0,.lst true 1 []],.one (Cell.int (if 2 < (t:Int) then 2 else (t:Int)))] []=some ([.agg [Cell.int (qfp v t).A,Cell.int (qfp v t).B,Cell.int (qfp v t).C,qay (qfp v t).Pre]],[]):=by
  have e:qfp ⟨v.A,v.B,0,[]⟩ (if 2 < t then 2 else t)=qfp v t:=by
   by_cases h:2 < t
   ·rw[if_pos h]
    unfold qfp
    rw[if_neg (by omega),if_neg (by omega)]
   ·rw[if_neg h]
    rfl
  have h:=c_fbo ⟨v.A,v.B,0,[]⟩ hz (if 2 < t then 2 else t) (by split<;>omega) (by split<;>omega) (qay []) inferInstance
  rw[e] at h
  have ei:((if 2 < t then 2 else t:Nat):Int)=if 2 < (t:Int) then 2 else (t:Int):=by split<;>split<;>omega
  rw[ei] at h
  rw[qrz]
  have e2:mapO (qao true ([AV.agg [Cell.int v.A,Cell.int v.B,Cell.int 0,.lst true 1 []],.one (Cell.int (if 2 < (t:Int) then 2 else (t:Int)))].foldl qdw [])) [.agg [Cell.int v.A,Cell.int v.B,Cell.int 0,.lst true 1 []],.one (Cell.int (if 2 < (t:Int) then 2 else (t:Int)))]=some [.agg [Cell.int v.A,Cell.int v.B,Cell.int 0,qay []],.one (Cell.int (if 2 < (t:Int) then 2 else (t:Int)))]:=rfl
  rw[e2,Option.bind_some,h]
  rfl
 have hd:decide ((t:Int) < 3)=decide (¬ t=3):=by rw[decide_eq_decide];omega
 obtain⟨N,hn,hN⟩:∃ N:MVer,outL qkh [.agg [Cell.int v.A,Cell.int v.B,Cell.int v.C,qay v.Pre],.one (Cell.int t)]=some [.agg [Cell.int N.A,Cell.int N.B,Cell.int N.C,qay N.Pre]]∧(¬ t=3→N=qfp v t):=by
  by_cases ht:t=3
  ·subst ht
   exact⟨⟨v.A,v.B,v.C+1,[]⟩,qvv v hv,fun h=>absurd rfl h⟩
  ·exact⟨qfp v t,c_fbo v hv t (by omega) h1 _ inferInstance,fun _=>rfl⟩
 simp only[fbw,hn,c_fav N,c_fav (qge v t),c_fav (qfp v t),c_faw v hv t,hq,hd,strEq,EV0]
 unfold qdr
 by_cases e3:g=[62,61]
 ·rw[decide_eq_true e3,cond_true]
  subst e3
  exact⟨_,rfl,qul [⟨4,v⟩] true []⟩
 ·rw[decide_eq_false e3,cond_false]
  by_cases e4:g=[60]
  ·rw[decide_eq_true e4,cond_true]
   subst e4
   exact⟨_,rfl,qul [⟨1,v⟩] true []⟩
  ·rw[decide_eq_false e4,cond_false]
   by_cases e5:g=[62]
   ·rw[decide_eq_true e5,cond_true,if_neg (by rw[e5];decide),if_neg (by rw[e5];decide),if_neg e3,if_pos e5]
    by_cases ht:t=3
    ·rw[decide_eq_false (fun h=>h ht),cond_false,if_pos ht]
     exact⟨_,rfl,qul [⟨3,v⟩] true []⟩
    ·rw[decide_eq_true ht,cond_true,if_neg ht,hN ht]
     exact⟨_,rfl,qul [⟨4,qfp v t⟩] true []⟩
   ·rw[decide_eq_false e5,cond_false]
    by_cases e6:g=[60,61]
    ·rw[decide_eq_true e6,cond_true,if_neg (by rw[e6];decide),if_neg (by rw[e6];decide),if_neg e3,if_neg e5,if_pos e6]
     by_cases ht:t=3
     ·rw[decide_eq_false (fun h=>h ht),cond_false,if_pos ht]
      exact⟨_,rfl,qul [⟨2,v⟩] true []⟩
     ·rw[decide_eq_true ht,cond_true,if_neg ht,hN ht]
      exact⟨_,rfl,qul [qjl (qfp v t)] true []⟩
    ·rw[decide_eq_false e6,cond_false]
     by_cases e2:g=[126]
     ·rw[decide_eq_true e2,cond_true,if_neg (by rw[e2];decide),if_pos e2]
      exact⟨_,rfl,qul [⟨4,v⟩,qjl (qfp v t)] true []⟩
     ·rw[decide_eq_false e2,cond_false]
      by_cases e1:g=[94]
      ·rw[decide_eq_true e1,cond_true,if_pos e1]
       exact⟨_,rfl,qul [⟨4,v⟩,qjl (qge v t)] true []⟩
      ·rw[decide_eq_false e1,cond_false,if_neg e1,if_neg e2,if_neg e3,if_neg e5,if_neg e6,if_neg e4]
       by_cases ht:t=3
       ·rw[decide_eq_false (fun h=>h ht),cond_false,if_pos ht]
        exact⟨_,rfl,qul [⟨0,v⟩] true []⟩
       ·rw[decide_eq_true ht,cond_true,if_neg ht,hN ht]
        exact⟨_,rfl,qul [⟨4,v⟩,qjl (qfp v t)] true []⟩
theorem qxnb (cs:List Cell)[h:CanonA (.agg cs)](H:List Entry):mapO (qao false H) [.agg cs]=some [.agg cs]:=qam [.agg cs] _ _
def qgdb:List Str→Nat→List Int→Option (List Int×Nat)
 | [],told,ns=>if 1≤told∧told≤2 then some (ns,told) else none
 | x::r,told,ns=>if x=xS then (if r.all (·==xS) then (if 1≤told∧told≤2 then some (ns,told) else none) else none)
  else match qas x 9999 with
   | none=>none
   | some a=>qgdb r (told+1) (ns.set told a)
theorem quuc (l:List Str)(hl:l.length≤3):(numsOf l=none∧qgdb l 0 [0,0,0]=none)∨∃ v t,numsOf l=some (v,t)∧qgdb l 0 [0,0,0]=some ([v.A,v.B,v.C],t)∧v.Pre=[]:=by
 have hx:=xS_num
 match l,hl with
 | [],_=>exact .inl ⟨rfl,rfl⟩
 | [x],_=>
  simp only[numsOf,qgdb,oneV]
  by_cases e:x=xS
  ·subst e
   simp[hx]
  ·rw[if_neg e]
   cases h:qas x 9999 with
   | none=>exact .inl ⟨rfl,rfl⟩
   | some a=>exact .inr ⟨⟨a,0,0,[]⟩,1,rfl,rfl,rfl⟩
 | [x,y],_=>
  simp only[numsOf,qgdb,oneV,twoV]
  by_cases e:x=xS
  ·subst e
   by_cases e2:y=xS
   ·subst e2
    simp[hx]
   ·simp[hx,e2]
  ·rw[if_neg e]
   cases h:qas x 9999 with
   | none=>by_cases e2:y=xS<;>simp[e2]
   | some a=>
    by_cases e2:y=xS
    ·simp only[e2,if_true,List.all_nil]
     exact .inr ⟨⟨a,0,0,[]⟩,1,rfl,rfl,rfl⟩
    ·simp only[if_neg e2]
     cases h2:qas y 9999 with
     | none=>exact .inl ⟨rfl,rfl⟩
     | some b=>exact .inr ⟨⟨a,b,0,[]⟩,2,rfl,rfl,rfl⟩
 | [x,y,z],_=>
  simp only[numsOf,qgdb,oneV,twoV]
  by_cases e:x=xS
  ·subst e
   by_cases e2:y=xS
   ·subst e2
    by_cases e3:z=xS<;>simp[hx,e3]
   ·by_cases e3:z=xS<;>simp[hx,e2,e3]
  ·rw[if_neg e]
   cases h:qas x 9999 with
   | none=>by_cases e2:y=xS<;>by_cases e3:z=xS<;>simp[e2,e3]
   | some a=>
    by_cases e2:y=xS
    ·by_cases e3:z=xS
     ·simp only[e2,e3,if_true,List.all_cons,List.all_nil,beq_self_eq_true,Bool.and_true]
      exact .inr ⟨⟨a,0,0,[]⟩,1,rfl,rfl,rfl⟩
     ·have:(z==xS)=false:=by simpa using e3
      simp[e2,e3,this]
    ·simp only[if_neg e2]
     cases h2:qas y 9999 with
     | none=>by_cases e3:z=xS<;>simp[e3]
     | some b=>
      by_cases e3:z=xS
      ·simp only[e3,if_true,List.all_nil]
       exact .inr ⟨⟨a,b,0,[]⟩,2,rfl,rfl,rfl⟩
      ·simp only[if_neg e3]
       cases h3:qas z 9999<;>simp
 | _::_::_::_::_,h=>simp at h
def qtbc:Option (List Int×Nat)→Option (MVer×Nat) | some ([a,b,c],t)=>some (⟨a,b,c,[]⟩,t) | _=>none
theorem c_ffo (s:Str)(hs:s.length≤1048576):∃ (w:MVer) (t:Nat),outL qwv [.one (Cell.str (bs s))]=some [.agg [Cell.int w.A,Cell.int w.B,Cell.int w.C,qay w.Pre,Cell.int t,Cell.bool (partOf s).isSome]]∧∀ p,partOf s=some p→p=(w,t):=by
 have hM:=qag
 have hsplit:outL qco [.one (Cell.str (bs s)),.one (.sc (.int .u8 46))]=some [.one (qay (split 46 s))]:=qmcd s 46 (by omega)
 have hz:∀ G:List Entry,mapO (qao false G) [.agg [Cell.int 0,Cell.int 0,Cell.int 0,.lst true 1 [],Cell.int 0,Cell.bool false]]=some [.agg [Cell.int 0,Cell.int 0,Cell.int 0,qay [],Cell.int ((0:Nat):Int),Cell.bool false]]:=fun G=>rfl
 cases hk:(qai s).2 with
 | true=>
  have hp:partOf s=some ((qai s).1,3):=by unfold partOf;rw[if_pos hk]
  refine⟨(qai s).1,3,?_,fun p h=>by rw[hp] at h;exact(Option.some.inj h).symm⟩
  refine qbf (H:=[]) (qqg 0 ?_) (qxnb [Cell.int (qai s).1.A,Cell.int (qai s).1.B,Cell.int (qai s).1.C,qay (qai s).1.Pre,Cell.int ((3:Nat):Int),Cell.bool (partOf s).isSome] [])
  simp only[ffo,qzyd s hs,hk,hp,EV0]
  rfl
 | false=>
  have hp:partOf s=numsOf (split 46 s):=by unfold partOf;rw[if_neg (by rw[hk];simp)]
  have hlen:∀ x∈split 46 s,x.length≤1073741824:=fun x hx=>by
   have:=(qbu 46 s []).2 x hx
   simp only[List.length_nil,Nat.zero_add] at this
   omega
  by_cases h3:(split 46 s).length≤3
  ·
   have l1:∀ (r:List Str) (i n:Nat) (t:Nat) (a b c:Int),(split 46 s).drop i=r→r.length < n→∀ k m,
     qdsb k m n (qay (split 46 s)) (.vs 0 1 0 3 0) i t [Entry.mk 1 [[Cell.int a],[Cell.int b],[Cell.int c]] 0 false]=
      some ([cond (r.all (·==xS)) (.agg [Cell.int a,Cell.int b,Cell.int c,.lst true 1 [],Cell.int t,Cell.bool (inR t 1 2)]) (.agg [Cell.int 0,Cell.int 0,Cell.int 0,.lst true 1 [],Cell.int 0,Cell.bool false])],[Entry.mk 1 [[Cell.int a],[Cell.int b],[Cell.int c]] 0 false]):=by
    intro r
    induction r with
    | nil=>
     intro i n t a b c hd hn k m
     obtain⟨n,rfl⟩:∃ q,n=q+1:=⟨n - 1,by omega⟩
     have:=drop_nil hd
     have g0:idxA 1 (.vs 0 1 0 3 0) 0=some (.ptr 0 1 0 0 0):=rfl
     have g1:idxA 1 (.vs 0 1 0 3 0) 1=some (.ptr 0 1 1 0 0):=rfl
     have g2:idxA 1 (.vs 0 1 0 3 0) 2=some (.ptr 0 1 2 0 0):=rfl
     have d0:deref [Entry.mk 1 [[Cell.int a],[Cell.int b],[Cell.int c]] 0 false] (.ptr 0 1 0 0 0)=some ([Cell.int a],0):=rfl
     have d1:deref [Entry.mk 1 [[Cell.int a],[Cell.int b],[Cell.int c]] 0 false] (.ptr 0 1 1 0 0)=some ([Cell.int b],0):=rfl
     have d2:deref [Entry.mk 1 [[Cell.int a],[Cell.int b],[Cell.int c]] 0 false] (.ptr 0 1 2 0 0)=some ([Cell.int c],0):=rfl
     simp only[qdsb,EV0]
     rw[decide_eq_false (by omega),cond_false]
     simp only[g0,g1,g2,d0,d1,d2,qeab,EV0]
     rfl
    | cons x r ih=>
     intro i n t a b c hd hn k m
     obtain⟨n,rfl⟩:∃ q,n=q+1:=⟨n - 1,by omega⟩
     obtain⟨hlt,hg,hd'⟩:=qal hd
     simp only[List.length_cons] at hn
     simp only[qdsb,qaj,hg,eStr,EV0]
     rw[decide_eq_true (by omega),cond_true,qae (by omega),ih (i+1) n t a b c hd' (by omega)]
     simp only[List.all_cons]
     rw[show(x==[120])=(x==xS) from rfl]
     cases x==xS<;>rfl
   have l0:∀ (r:List Str) (i n:Nat) (ns:List Int),(split 46 s).drop i=r→i+r.length=(split 46 s).length→r.length < n→ns.length=3→∀ k m,(split 46 s).length < m→
     ∃ xs H',qgub k m n (qay (split 46 s)) (.vs 0 1 0 3 0) i [Entry.mk 1 (ns.map eInt) 0 false]=some (xs,H')∧
      ∃ (w:MVer) (t:Nat),mapO (qao false H') xs=some [.agg [Cell.int w.A,Cell.int w.B,Cell.int w.C,qay w.Pre,Cell.int t,Cell.bool (qgdb r i ns).isSome]]∧∀ p,qtbc (qgdb r i ns)=some p→p=(w,t):=by
    intro r
    induction r with
    | nil=>
     intro i n ns hd hi hn h3 k m hm
     obtain⟨n,rfl⟩:∃ q,n=q+1:=⟨n - 1,by omega⟩
     simp only[List.length_nil,Nat.add_zero] at hi
     obtain⟨a,b,c,rfl⟩:∃ a b c,ns=[a,b,c]:=by
      match ns,h3 with
      | [a,b,c],_=>exact⟨a,b,c,rfl⟩
     simp only[qgub,EV0]
     rw[decide_eq_false (by omega),cond_false]
     have z:=l1 [] i m i a b c hd (by simp;omega) k m
     simp only[List.map_cons,List.map_nil,eInt]
     rw[z]
     refine⟨_,_,rfl,⟨a,b,c,[]⟩,i,?_,?_⟩
     ·simp only[List.all_nil,cond_true]
      have e:inR i 1 2=(qgdb [] i [a,b,c]).isSome:=by
       unfold qgdb inR
       by_cases h:1≤i∧i≤2
       ·rw[if_pos h,decide_eq_true (by omega),decide_eq_true (by omega)]
        rfl
       ·rw[if_neg h]
        by_cases h1:1≤i
        ·rw[decide_eq_true (by omega),decide_eq_false (by omega)]
         rfl
        ·rw[decide_eq_false (by omega)]
         rfl
      rw[e]
      rfl
     ·intro p hp
      unfold qgdb at hp
      split at hp
      ·simpa[qtbc] using hp.symm
      ·simp[qtbc] at hp
    | cons x r ih=>
     intro i n ns hd hi hn h3 k m hm
     obtain⟨n,rfl⟩:∃ q,n=q+1:=⟨n - 1,by omega⟩
     obtain⟨hlt,hg,hd'⟩:=qal hd
     simp only[List.length_cons] at hn hi
     have hx:=hlen x (List.mem_of_getElem? hg)
     obtain⟨a,b,c,rfl⟩:∃ a b c,ns=[a,b,c]:=by
      match ns,h3 with
      | [a,b,c],_=>exact⟨a,b,c,rfl⟩
     simp only[qgub,qaj,hg,eStr,EV0]
     rw[decide_eq_true (by omega),cond_true,show(x==[120])=(x==xS) from rfl]
     by_cases e:x=xS
     ·rw[show(x==xS)=true by simpa using e,Bool.not_true,cond_false]
      have z:=l1 (x::r) i m i a b c hd (by simp;omega) k m
      simp only[List.map_cons,List.map_nil,eInt]
      rw[z]
      have ea:(x::r).all (·==xS)=r.all (·==xS):=by simp[e]
      rw[ea]
      unfold qgdb
      rw[if_pos e]
      cases hr:r.all (·==xS) with
      | false=>exact⟨_,_,rfl,⟨0,0,0,[]⟩,0,hz _,fun p hp=>by simp[qtbc] at hp⟩
      | true=>
       refine⟨_,_,rfl,⟨a,b,c,[]⟩,i,?_,?_⟩
       ·simp only[cond_true,if_true]
        have e:inR i 1 2=(if 1≤i∧i≤2 then some ([a,b,c],i) else none:Option (List Int×Nat)).isSome:=by
         unfold inR
         by_cases h:1≤i∧i≤2
         ·rw[if_pos h,decide_eq_true (by omega),decide_eq_true (by omega)]
          rfl
         ·rw[if_neg h]
          by_cases h1:1≤i
          ·rw[decide_eq_true (by omega),decide_eq_false (by omega)]
           rfl
          ·rw[decide_eq_false (by omega)]
           rfl
        rw[e]
        rfl
       ·intro p hp
        simp only[if_true] at hp
        split at hp
        ·simpa[qtbc] using hp.symm
        ·simp[qtbc] at hp
     ·rw[show(x==xS)=false by simpa using e,Bool.not_false,cond_true]
      have hnum:out qdj [.one (Cell.str (bs x)),.one (Cell.int 9999)]=some (numV (qas x 9999)):=c_fei x 9999 hx (by omega)
      simp only[hnum,EV0]
      unfold qgdb
      rw[if_neg e]
      cases hq:qas x 9999 with
      | none=>
       simp only[numV,EV0,Bool.not_false]
       exact⟨_,_,rfl,⟨0,0,0,[]⟩,0,hz _,fun p hp=>by simp[qtbc] at hp⟩
      | some q=>
       simp only[numV,EV0,Bool.not_true]
       have hst:∀ j:Nat,j < 3→(idxA 1 (.vs 0 1 0 3 0) (j:Int)).bind (fun c25=>qca [Entry.mk 1 ([a,b,c].map eInt) 0 false] c25 [Cell.int q])=some [Entry.mk 1 (([a,b,c].set j (q:Int)).map eInt) 0 false]:=by
        intro j hj
        rcases (by omega:j=0∨j=1∨j=2) with rfl | rfl | rfl<;>rfl
       have h4:=hst i (by omega)
       obtain⟨c25,i1,i2⟩:=Option.bind_eq_some_iff.1 h4
       simp only[i1,i2,Option.bind_some]
       rw[qae (by omega)]
       exact ih (i+1) n ([a,b,c].set i (q:Int)) hd' (by omega) (by omega) (by simp) k m hm
   obtain⟨xs,H',z1,w,t,z2,z3⟩:=l0 (split 46 s) 0 ((split 46 s).length+1+1) [0,0,0] rfl (by omega) (by omega) rfl ((split 46 s).length+1+1) ((split 46 s).length+1+1) (by omega)
   have hiso:(partOf s).isSome=(qgdb (split 46 s) 0 [0,0,0]).isSome∧partOf s=qtbc (qgdb (split 46 s) 0 [0,0,0]):=by
    rw[hp]
    rcases quuc (split 46 s) h3 with⟨h4,h5⟩ | ⟨v,t,h4,h5,h6⟩
    ·rw[h4,h5]
     exact⟨rfl,rfl⟩
    ·rw[h4,h5]
     refine⟨rfl,?_⟩
     obtain⟨A,B,C,pre⟩:=v
     simp only at h6
     subst h6
     rfl
   refine⟨w,t,?_,fun p h=>z3 p (by rw[← hiso.2];exact h)⟩
   rw[hiso.1]
   refine qbf (H:=H') (qqg ((split 46 s).length+1) ?_) z2
   simp only[ffo,qzyd s hs,hk,hsplit,EV0]
   rw[decide_eq_false (by omega),cond_false]
   exact z1
  ·have hno:numsOf (split 46 s)=none:=by
    match h:split 46 s with
    | []=>rfl
    | [x]=>rw[h] at h3;simp at h3
    | [x,y]=>rw[h] at h3;simp at h3
    | [x,y,z]=>rw[h] at h3;simp at h3
    | _::_::_::_::_=>rfl
   rw[hp,hno]
   refine⟨⟨0,0,0,[]⟩,0,qbf (H:=[Entry.mk 1 [[Cell.int 0],[Cell.int 0],[Cell.int 0]] 0 false]) (qqg 0 ?_) (hz _),fun p h=>by simp at h⟩
   simp only[ffo,qzyd s hs,hk,hsplit,EV0]
   rw[decide_eq_true (by omega),cond_true]
   rfl
theorem qpnd {i:Nat}{g:Str}(h:signs[i]?=some g):cS [Cell.str (bs [94]),Cell.str (bs [126]),Cell.str (bs [62,61]),Cell.str (bs [62]),Cell.str (bs [60,61]),Cell.str (bs [60]),Cell.str (bs [61]),Cell.str (bs [])] i=some (bs g):=by
 have hlt:i < 8:=(List.getElem?_eq_some_iff.1 h).1
 rcases (by omega:i=0∨i=1∨i=2∨i=3∨i=4∨i=5∨i=6∨i=7) with rfl | rfl | rfl | rfl | rfl | rfl | rfl | rfl<;>
  (simp only[signs,List.getElem?_cons_succ,List.getElem?_cons_zero,Option.some.injEq] at h;subst h;rfl)
theorem qkoc {g w:Str}(h:g.isPrefixOf w=true):qka g w=w.drop g.length:=by
 unfold qka
 rw[h]
 rfl
theorem c_ffs (w:Str)(hw:w.length≤1048576):outL qdib [.one (Cell.str (bs w))]=some [.one (encL 5 eCmp ((qlx w).getD [])),.one (Cell.bool (qlx w).isSome)]:=by
 have hM:=qag
 have hlist:(.lst true 1 [[Cell.str (bs [94])],[Cell.str (bs [126])],[Cell.str (bs [62,61])],[Cell.str (bs [62])],[Cell.str (bs [60,61])],[Cell.str (bs [60])],[Cell.str (bs [61])],[Cell.str (bs [])]]:Cell)=.lst true 1 (signs.map eStr):=rfl
 have hz:mapO (qao false []) [.one (.lst true 5 []),.one (Cell.bool false)]=some [.one (encL 5 eCmp []),.one (Cell.bool false)]:=rfl
 have loop:∀ (r:List Str) (i n:Nat),signs.drop i=r→r.length < n→∀ k m,∃ xs,qvx k m n (bs w) i=some (xs,[])∧mapO (qao false []) xs=some [.one (encL 5 eCmp ((qfk w r).getD [])),.one (Cell.bool (qfk w r).isSome)]:=by
  intro r
  induction r with
  | nil=>
   intro i n hd hn k m
   obtain⟨n,rfl⟩:∃ j,n=j+1:=⟨n - 1,by omega⟩
   have:=drop_nil hd
   simp only[signs,List.length_cons,List.length_nil] at this
   simp only[qvx]
   rw[decide_eq_false (by omega),cond_false]
   exact⟨_,rfl,hz⟩
  | cons g r ih=>
   intro i n hd hn k m
   obtain⟨n,rfl⟩:∃ j,n=j+1:=⟨n - 1,by omega⟩
   obtain⟨hlt,hg,hd'⟩:=qal hd
   simp only[signs,List.length_cons,List.length_nil] at hlt
   simp only[List.length_cons] at hn
   have hi:idxA 1 (.lst true 1 (signs.map eStr)) (i:Int)=some (.ref (eStr g) 0):=by rw[qhhb,List.getElem?_map,hg];rfl
   have hpre:(decide (w.length≥g.length)=true∧(w.take g.length==g)=true)↔g.isPrefixOf w=true:=by
    rw[List.isPrefixOf_iff_prefix,List.prefix_iff_eq_take,decide_eq_true_eq,beq_iff_eq]
    constructor
    ·intro h;exact h.2.symm
    ·intro h
     refine⟨?_,h.symm⟩
     have:=congrArg List.length h
     rw[List.length_take] at this
     omega
   simp only[qvx,hlist,hi,eStr,EV0]
   rw[decide_eq_true (by omega),cond_true]
   obtain⟨xs,z1,z2⟩:=ih (i+1) n hd' (by omega) k m
   by_cases hp:g.isPrefixOf w=true
   ·obtain⟨h1,h2⟩:=hpre.2 hp
    have hge:w.length≥g.length:=by simpa using h1
    have s1:=qcw w 0 g.length (Nat.zero_le _) hge
    have s2:=qcw w g.length w.length hge (Nat.le_refl _)
    rw[List.drop_zero] at s1
    rw[List.take_length] at s2
    rw[show decide ((w.length:Int)≥(g.length:Int))=true by rw[decide_eq_true_eq];omega,cond_true,show((0:Int))=((0:Nat):Int) from rfl,s1]
    simp only[EV0]
    rw[h2,cond_true,s2]
    obtain⟨v,t,q1,q2⟩:=c_ffo (w.drop g.length) (by simp;omega)
    simp only[q1,EV0,qitb,qkyb]
    have hgo:qfk w (g::r)=match partOf (w.drop g.length) with | some p=>some (qdr g p.1 p.2) | none=>none:=by
     rw[qfk,if_pos hp]
    cases hpo:partOf (w.drop g.length) with
    | none=>
     rw[hpo] at hgo
     rw[hgo]
     simp only[Option.isSome_none,Bool.not_false,cond_true]
     exact⟨_,rfl,hz⟩
    | some p=>
     have e:=q2 p hpo
     subst e
     rw[hpo] at hgo
     rw[hgo]
     have hok:=(qwj hpo).1
     simp only[Option.isSome_some,Bool.not_true,cond_false,c_ffm g v hok t true,EV0]
     exact⟨_,rfl,qam [.one (encL 5 eCmp (qdr g v t)),.one (Cell.bool true)] _ _⟩
   ·have hgo:qfk w (g::r)=qfk w r:=by rw[qfk,if_neg hp]
    rw[hgo]
    rw[qae (by omega)]
    by_cases hge:w.length≥g.length
    ·have s1:=qcw w 0 g.length (Nat.zero_le _) hge
     rw[List.drop_zero] at s1
     rw[show decide ((w.length:Int)≥(g.length:Int))=true by rw[decide_eq_true_eq];omega,cond_true,show((0:Int))=((0:Nat):Int) from rfl,s1]
     simp only[EV0]
     have h2:(w.take g.length==g)=false:=by
      cases h:(w.take g.length==g) with
      | false=>rfl
      | true=>exact absurd (hpre.1 ⟨by simpa using hge,h⟩) hp
     rw[h2,cond_false]
     exact⟨xs,z1,z2⟩
    ·rw[show decide ((w.length:Int)≥(g.length:Int))=false by rw[decide_eq_false_iff_not];omega,cond_false]
     exact⟨xs,z1,z2⟩
 by_cases h42:w=[42]
 ·subst h42
  refine qbf (H:=[]) (qbrb 0 ?_) (show mapO (qao false []) [.one (.lst true 5 [[Cell.int 4,Cell.int 0,Cell.int 0,Cell.int 0,.lst true 1 []]]),.one (Cell.bool true)]=some [.one (encL 5 eCmp [⟨4,zeroV⟩]),.one (Cell.bool true)] from rfl)
  have hrun:∀ q,ffs q q (bs [42])=some ([.one (.lst true 5 [[Cell.int 4,Cell.int 0,Cell.int 0,Cell.int 0,.lst true 1 []]]),.one (Cell.bool true)],[]):=by
   intro q
   simp only[ffs,qdz,beq_self_eq_true,cond_true]
  exact hrun _
 ·have hc:qlx w=qfk w signs:=by unfold qlx;rw[if_neg h42]
  rw[hc]
  obtain⟨xs,z1,z2⟩:=loop signs 0 10 rfl (by simp[signs]) (9+1) (9+1)
  have hrun:∀ q,ffs q q (bs w)=qvx q q q (bs w) 0:=by
   intro q
   simp only[ffs,qdz]
   rw[show(w==[42])=false by simpa using h42,cond_false]
  exact qbf (qbrb 9 ((hrun _).trans z1)) z2
theorem c_ffk (l:List RCmp)(hl:l.length≤1073741824)(hc:∀ c∈l,c.v.Bd 1048576):out qdzb [.one (encL 5 eCmp l)]=some [.one (Cell.bool (l.all (fun c=>qil c.v)))]:=by
 have hM:=qag
 have loop:∀ (r:List RCmp) (i n:Nat),l.drop i=r→r.length < n→∀ k m,qfqb k m n (encL 5 eCmp l) i=some ([.one (Cell.bool (r.all (fun c=>qil c.v)))],[]):=by
  intro r
  induction r with
  | nil=>
   intro i n hd hn k m
   obtain⟨n,rfl⟩:∃ j,n=j+1:=⟨n - 1,by omega⟩
   have:=drop_nil hd
   simp only[qfqb,EV0]
   rw[decide_eq_false (by omega),cond_false]
   rfl
  | cons x r ih=>
   intro i n hd hn k m
   obtain⟨n,rfl⟩:∃ j,n=j+1:=⟨n - 1,by omega⟩
   obtain⟨hlt,hg,hd'⟩:=qal hd
   simp only[List.length_cons] at hn
   have hx:=hc x (List.mem_of_getElem? hg)
   simp only[qfqb,qaj,hg,eCmp,qbr,Nat.zero_add,c_fet x.v.A x.v.B x.v.C x.v.Pre hx.2.2.2,EV0]
   rw[decide_eq_true (by omega),cond_true,qae (by omega),ih (i+1) n hd' (by omega)]
   simp only[List.all_cons,qil]
   cases qgu x.v.A x.v.B x.v.C x.v.Pre<;>rfl
 refine qaw (H:=[]) (qvmb (l.length+1) ?_)
 exact loop l 0 (l.length+1+1) rfl (by omega) (l.length+1+1) (l.length+1+1)
def qjjb (ws:List Str):Option (List RCmp):=match qiac ws with
 | some (a,c)=>if (qai a).2&&(qai c).2 then some [⟨4,(qai a).1⟩,⟨2,(qai c).1⟩] else none
 | none=>match qeh ws [] with
  | some l=>if l.length≤4 then some l else none
  | none=>none
theorem qltb:∀ (ws:List Str) (acc l:List RCmp),qeh ws acc=some l→(∀ c∈acc,okB c.v)→∀ c∈l,okB c.v
 | [],acc,l,h,ha=>by
  simp only[qeh,Option.some.injEq] at h
  subst h
  exact ha
 | w::r,acc,l,h,ha=>by
  unfold qeh at h
  split at h
  ·rename_i q hq
   refine qltb r _ l h fun c hc=>?_
   rcases List.mem_append.1 hc with hc | hc
   ·exact ha c hc
   ·exact(qhjb hq).2 c hc
  ·simp at h
theorem qosd {v:MVer}(h:qil v=true):okB v:=okV_B (qpk h)
theorem qzfd {ws:List Str}{l:List RCmp}(h:qjjb ws=some l):l.length≤4∧∀ c∈l,okB c.v:=by
 unfold qjjb at h
 split at h
 ·rename_i a c _
  split at h
  ·rename_i hk
   simp only[Bool.and_eq_true] at hk
   simp only[Option.some.injEq] at h
   subst h
   exact⟨by simp,by simp[qosd (qfs hk.1),qosd (qfs hk.2)]⟩
  ·simp at h
 ·split at h
  ·rename_i q hq
   split at h
   ·rename_i hl
    simp only[Option.some.injEq] at h
    subst h
    exact⟨hl,qltb _ _ _ hq (by simp)⟩
   ·simp at h
  ·simp at h
theorem qxrb (ws:List Str):qum ws=match qjjb ws with | some l=>if l.all (fun c=>qil c.v)=true then some l else none | none=>none:=by
 unfold qum qjjb qcne
 cases qiac ws with
 | some p=>
  obtain⟨a,c⟩:=p
  simp only
  by_cases hk:((qai a).2&&(qai c).2)=true
  ·rw[if_pos hk]
   simp only[Bool.and_eq_true] at hk
   simp[qfs hk.1,qfs hk.2]
  ·rw[if_neg hk]
 | none=>
  simp only
  cases qeh ws [] with
  | none=>rfl
  | some l=>
   simp only
   by_cases h:l.length≤4
   ·simp only[h,true_and,if_true]
   ·simp[h]
theorem qya {ws:List Str}{a c:Str}(h:qiac ws=some (a,c)):ws=[a,[45],c]:=by
 unfold qiac at h
 split at h
 ·split at h
  ·rename_i hb
   simp only[Option.some.injEq,Prod.mk.injEq] at h
   rw[hb,h.1,h.2]
  ·simp at h
 ·simp at h
theorem qzeb (H:List Entry)(l:List RCmp):qbp H 5 (encL 5 eCmp l)=some (l.map eCmp):=by simp[qbp,rowsOf,encL]
theorem c_ffl (ws:List Str)(hl:ws.length≤1048577)(hw:∀ x∈ws,x.length≤1048576):∃ l:List RCmp,outL qamb [.one (qay ws)]=some [.one (encL 5 eCmp l),.one (Cell.bool (qjjb ws).isSome)]∧∀ q,qjjb ws=some q→q=l:=by
 have hM:=qag
 have loop:∀ (r:List Str) (i n:Nat) (acc:List RCmp) (c:Cell) (H:List Entry),ws.drop i=r→r.length < n→acc.length≤2*i→Grow 5 c H (acc.map eCmp)→∀ k m,
   ∃ (c':Cell) (H':List Entry) (l:List RCmp) (b:Bool),qdpb k m n (qay ws) c i H=some ([.one c',.one (Cell.bool b)],H')∧Grow 5 c' H' (l.map eCmp)∧
    match qeh r acc with | some q=>q=l∧b=decide (q.length≤4) | none=>b=false:=by
  intro r
  induction r with
  | nil=>
   intro i n acc c H hd hn ha hg k m
   obtain⟨n,rfl⟩:∃ j,n=j+1:=⟨n - 1,by omega⟩
   have:=drop_nil hd
   have hlc:lenC c=some acc.length:=by
    rcases hg with⟨h1,rfl,_⟩ | ⟨ep,rfl,_⟩
    ·simp only[List.map_eq_nil_iff] at h1
     subst h1
     rfl
    ·simp
   refine⟨c,H,acc,decide (acc.length≤4),?_,hg,by rw[qeh];exact⟨rfl,rfl⟩⟩
   simp only[qdpb,hlc,EV0]
   rw[decide_eq_false (by omega),cond_false,show decide ((acc.length:Int)≤4)=decide (acc.length≤4) by rw[decide_eq_decide];omega]
  | cons x r ih=>
   intro i n acc c H hd hn ha hg k m
   obtain⟨n,rfl⟩:∃ j,n=j+1:=⟨n - 1,by omega⟩
   obtain⟨hlt,hx,hd'⟩:=qal hd
   simp only[List.length_cons] at hn
   have hxl:=hw x (List.mem_of_getElem? hx)
   simp only[qdpb,qaj,hx,eStr,c_ffs x hxl,EV0]
   rw[decide_eq_true (by omega),cond_true]
   cases hq:qlx x with
   | none=>
    refine⟨c,H,acc,false,?_,hg,by rw[qeh,hq]⟩
    simp only[Option.isSome_none,Bool.not_false,cond_true]
   | some q=>
    have hqB:=qhjb hq
    obtain⟨p,e1,e2⟩:=hg.app (by':=56) (q.map eCmp) (by unfold bound;simp only[List.length_map];omega) (by unfold bound;simp only[List.length_map];omega)
    obtain⟨c',H',l,b,z1,z2,z3⟩:=ih (i+1) n (acc++q) p.1 p.2 hd' (by omega) (by rw[List.length_append];omega) (by simpa using e2) k m
    refine⟨c',H',l,b,?_,z2,by rw[qeh,hq];exact z3⟩
    simp only[Option.isSome_some,Option.getD_some,Bool.not_true,cond_false,qzeb,e1,Option.bind_some]
    rw[qae (by omega)]
    exact z1
 cases hh:qiac ws with
 | some p=>
  obtain⟨a,c⟩:=p
  have hws:=qya hh
  subst hws
  have ha:=hw a (by simp)
  have hcl:=hw c (by simp)
  have i0:idxA 1 (encL 1 eStr [a,[45],c]) 0=some (.ref (eStr a) 0):=rfl
  have i1:idxA 1 (encL 1 eStr [a,[45],c]) 1=some (.ref (eStr [45]) 0):=rfl
  have i2:idxA 1 (encL 1 eStr [a,[45],c]) 2=some (.ref (eStr c) 0):=rfl
  have hs:qjjb [a,[45],c]=if (qai a).2&&(qai c).2 then some [⟨4,(qai a).1⟩,⟨2,(qai c).1⟩] else none:=by
   unfold qjjb
   rw[hh]
  have e4:∀ {β:Type} (a1 b1 d1:Int) (x1:List Str) (a2 b2 d2:Int) (x2:List Str) (κ:List Cell→Option β),restK [Cell.int 4,Cell.int a1,Cell.int b1,Cell.int d1,qay x1,Cell.int 2,Cell.int a2,Cell.int b2,Cell.int d2,qay x2] κ=κ [Cell.int 4,Cell.int a1,Cell.int b1,Cell.int d1,qay x1,Cell.int 2,Cell.int a2,Cell.int b2,Cell.int d2,qay x2]:=fun _ _ _ _ _ _ _ _ κ=>rfl
  refine⟨[⟨4,(qai a).1⟩,⟨2,(qai c).1⟩],?_,fun q hq=>by rw[hs] at hq;split at hq<;>simp_all⟩
  have hb:(qjjb [a,[45],c]).isSome=((qai a).2&&(qai c).2):=by
   rw[hs]
   split<;>simp_all
  rw[hb]
  refine qbf (H:=[]) (qzc 0 ?_) (leafRB [⟨4,(qai a).1⟩,⟨2,(qai c).1⟩] true _ [])
  simp only[ffl,i0,i1,i2,eStr,qzyd a ha,qzyd c hcl,e4,EV0]
  rw[show(((0+1+1+1:Nat):Int)==3)=true from rfl]
  simp only[cond_true]
  cases (qai a).2<;>rfl
 | none=>
  obtain⟨c',H',l,b,z1,z2,z3⟩:=loop ws 0 (ws.length+1+1) [] (.lst true 5 []) [] rfl (by omega) (by simp) (Grow.nil 5) (ws.length+1+1) (ws.length+1+1)
  have hb:b=(qjjb ws).isSome∧∀ q,qjjb ws=some q→q=l:=by
   unfold qjjb
   rw[hh]
   simp only
   cases hq:qeh ws [] with
   | none=>
    rw[hq] at z3
    exact⟨z3,by simp⟩
   | some q=>
    rw[hq] at z3
    obtain⟨h1,h2⟩:=z3
    simp only
    by_cases h4:q.length≤4
    ·rw[if_pos h4]
     exact⟨by rw[h2,decide_eq_true h4];rfl,fun q' h=>by simp only[Option.some.injEq] at h;rw[← h];exact h1⟩
    ·rw[if_neg h4]
     exact⟨by rw[h2,decide_eq_false h4];rfl,by simp⟩
  refine⟨l,?_,hb.2⟩
  have hrd:=z2.read (e:=eCmp)
  obtain⟨y,zs,e1,e2,e3⟩:=qey hrd
  have e4:zs=[]:=by simpa[mapO] using e3.symm
  subst e4
  simp only[List.cons.injEq,and_true] at e1
  subst e1
  rw[← hb.1]
  refine qbf (H:=H') (qzc (ws.length+1) ?_) (qbt e2 (qbt (qba _ _ _) (qbh _)))
  simp only[ffl,EV0]
  by_cases h3:ws.length=3
  ·obtain⟨a,d,e,rfl⟩:∃ a d e,ws=[a,d,e]:=by
    match ws,h3 with
    | [a,d,e],_=>exact⟨a,d,e,rfl⟩
   have hd:(d==[45])=false:=by
    cases h:(d==[45]) with
    | false=>rfl
    | true=>
     have:d=[45]:=by simpa using h
     subst this
     simp[qiac] at hh
   have i1:idxA 1 (encL 1 eStr [a,d,e]) 1=some (.ref (eStr d) 0):=rfl
   rw[show((([a,d,e]:List Str).length:Int)==3)=true from rfl,cond_true]
   simp only[i1,eStr,EV0]
   rw[hd,cond_false]
   exact z1
  ·rw[show((ws.length:Int)==3)=false by rw[beq_eq_false_iff_ne];omega,cond_false]
   exact z1
theorem qtn:∀ (r:List Str) (acc l:List (List RCmp)),qeb r acc=some l→l.length=acc.length+r.length
 | [],acc,l,h=>by
  simp only[qeb,Option.some.injEq] at h
  subst h
  rfl
 | p::r,acc,l,h=>by
  unfold qeb at h
  split at h
  ·rename_i q hq
   have:=qtn r _ l h
   simp only[List.length_append,List.length_cons,List.length_nil] at this ⊢
   omega
  ·simp at h
theorem c_fej (s:Str)(hs:s.length≤1048576):outL qbeb [.one (Cell.str (bs s))]=some [.one (qmt ((qce s).getD [])),.one (Cell.bool (qce s).isSome)]:=by
 have hM:=qag
 have hsl:=qfz s.length s [] (Nat.le_refl _)
 have hll:(sides s).length≤s.length+1:=hsl.1
 have hel:∀ x∈sides s,x.length≤1048576:=fun x hx=>by
  have:=hsl.2 x hx
  simp only[List.length_nil,Nat.zero_add] at this
  omega
 have hz:∀ G:List Entry,mapO (qao false G) [.one (.lst true 1 []),.one (Cell.bool false)]=some [.one (qmt []),.one (Cell.bool false)]:=fun G=>rfl
 have loop:∀ (r:List Str) (i n:Nat) (acc:List (List RCmp)) (c:Cell) (H:List Entry),(sides s).drop i=r→r.length < n→acc.length=i→Grow 1 c H (acc.map qwub)→∀ k m,
   ∃ xs H',qfgb k m n c (qay (sides s)) i H=some (xs,H')∧
    mapO (qao false H') xs=some (match qeb r acc with | some l=>if l.length≤4 then [.one (qmt l),.one (Cell.bool true)] else [.one (qmt []),.one (Cell.bool false)] | none=>[.one (qmt []),.one (Cell.bool false)]):=by
  intro r
  induction r with
  | nil=>
   intro i n acc c H hd hn ha hg k m
   obtain⟨n,rfl⟩:∃ j,n=j+1:=⟨n - 1,by omega⟩
   have:=drop_nil hd
   have hlc:lenC c=some acc.length:=by
    rcases hg with⟨h1,rfl,_⟩ | ⟨ep,rfl,_⟩
    ·simp only[List.map_eq_nil_iff] at h1
     subst h1
     rfl
    ·simp
   simp only[qfgb,hlc,EV0]
   rw[decide_eq_false (by omega),cond_false,qeb]
   simp only
   by_cases h4:acc.length≤4
   ·rw[decide_eq_false (by omega),cond_false,if_pos h4]
    have hrd:=hg.read (e:=qwub)
    obtain⟨y,zs,e1,e2,e3⟩:=qey hrd
    have e4:zs=[]:=by simpa[mapO] using e3.symm
    subst e4
    simp only[List.cons.injEq,and_true] at e1
    subst e1
    exact⟨_,_,rfl,qbt e2 (qbt (qba _ _ _) (qbh _))⟩
   ·rw[decide_eq_true (by omega),cond_true,if_neg h4]
    exact⟨_,_,rfl,hz _⟩
  | cons x r ih=>
   intro i n acc c H hd hn ha hg k m
   obtain⟨n,rfl⟩:∃ j,n=j+1:=⟨n - 1,by omega⟩
   obtain⟨hlt,hx,hd'⟩:=qal hd
   simp only[List.length_cons] at hn
   have hxl:=hel x (List.mem_of_getElem? hx)
   have htl:=qtjc x
   have hspl:=qbu 32 (trim x) []
   have hwl:(split 32 (trim x)).length≤1048577:=by have:=hspl.1;unfold split;omega
   have hww:∀ y∈split 32 (trim x),y.length≤1048576:=fun y hy=>by
    have:=hspl.2 y hy
    simp only[List.length_nil,Nat.zero_add] at this
    omega
   have hsplit:outL qco [.one (Cell.str (bs (trim x))),.one (.sc (.int .u8 32))]=some [.one (qay (split 32 (trim x)))]:=qmcd (trim x) 32 (by omega)
   obtain⟨l,q1,q2⟩:=c_ffl (split 32 (trim x)) hwl hww
   have e5:∀ {β:Type} (l:List RCmp) (κ:List Cell→Option β),restK [encL 5 eCmp l] κ=κ [encL 5 eCmp l]:=fun l κ=>rfl
   have hsrc:∀ (G:List Entry) (l:List RCmp),qbp G 1 (.lst true 1 (chunks 1 1 [encL 5 eCmp l]))=some [qwub l]:=fun G l=>by simp[qbp,rowsOf,chunks,qwub]
   simp only[qfgb,qaj,hx,eStr,c_ffr x (by omega),hsplit,q1,EV0]
   rw[decide_eq_true (by omega),cond_true]
   have hlo:qmq x=match qjjb (split 32 (trim x)) with | some l=>if l.all (fun c=>qil c.v)=true then some l else none | none=>none:=qxrb _
   cases hS:qjjb (split 32 (trim x)) with
   | none=>
    rw[hS] at hlo
    simp only at hlo
    rw[qeb,hlo]
    simp only[Option.isSome_none,Bool.not_false,cond_true]
    exact⟨_,_,rfl,hz _⟩
   | some l'=>
    have:=q2 l' hS
    subst this
    have hB:=qzfd hS
    rw[hS] at hlo
    simp only at hlo
    simp only[Option.isSome_some,Bool.not_true,cond_false,c_ffk l' (by omega) (fun c hc=>qmpd (hB.2 c hc)),EV0]
    rw[qeb,hlo]
    by_cases hall:l'.all (fun c=>qil c.v)=true
    ·rw[if_pos hall,hall]
     obtain⟨p,a1,g1⟩:=hg.app (by':=24) [qwub l'] (by unfold bound;simp;omega) (by unfold bound;simp;omega)
     obtain⟨xs,H',z1,z2⟩:=ih (i+1) n (acc++[l']) p.1 p.2 hd' (by omega) (by simp;omega) (by simpa using g1) k m
     refine⟨xs,H',?_,z2⟩
     simp only[Bool.not_true,cond_false,e5,hsrc,a1,Option.bind_some]
     rw[qae (by omega)]
     exact z1
    ·have:l'.all (fun c=>qil c.v)=false:=by simpa using hall
     rw[if_neg hall,this]
     exact⟨_,_,rfl,hz _⟩
 obtain⟨xs,H',z1,z2⟩:=loop (sides s) 0 ((sides s).length+1+1) [] (.lst true 1 []) [] rfl (by omega) rfl (Grow.nil 1) ((sides s).length+1+1) ((sides s).length+1+1)
 have hres:(match qeb (sides s) [] with | some l=>if l.length≤4 then [AV.one (qmt l),.one (Cell.bool true)] else [.one (qmt []),.one (Cell.bool false)] | none=>[.one (qmt []),.one (Cell.bool false)])=[.one (qmt ((qce s).getD [])),.one (Cell.bool (qce s).isSome)]:=by
  unfold qce
  cases hq:qeb (sides s) [] with
  | none=>by_cases h4:(sides s).length≤4<;>simp[h4]
  | some l=>
   have h1:=qtn _ _ _ hq
   simp only[List.length_nil,Nat.zero_add] at h1
   by_cases h4:(sides s).length≤4<;>simp[h1,h4]
 rw[hres] at z2
 refine qbf (H:=H') (quvb ((sides s).length+1) ?_) z2
 simp only[fej,c_ffp s (by omega),EV0]
 exact z1
def resP:Option (MVer×Nat)→List AV | some (v,t)=>[.agg [Cell.int v.A,Cell.int v.B,Cell.int v.C,.lst true 1 []],.one (Cell.int t),.one (Cell.bool true)] | none=>[.agg [Cell.int 0,Cell.int 0,Cell.int 0,.lst true 1 []],.one (Cell.int 0),.one (Cell.bool false)]
theorem qbuc {l:List Str}{p:MVer×Nat}(h:numsOf l=some p):p.1.Pre=[]:=by
 have one:∀ x p,oneV x=some p→p.1.Pre=[]:=fun x p h=>by
  unfold oneV at h
  split at h
  ·simp only[Option.some.injEq] at h
   subst h
   rfl
  ·simp at h
 have two:∀ x y p,twoV x y=some p→p.1.Pre=[]:=fun x y p h=>by
  unfold twoV at h
  split at h
  ·simp only[Option.some.injEq] at h
   subst h
   rfl
  ·simp at h
 unfold numsOf at h
 split at h
 ·exact one _ _ h
 ·split at h
  ·exact one _ _ h
  ·exact two _ _ _ h
 ·split at h
  ·split at h
   ·exact one _ _ h
   ·exact two _ _ _ h
  ·simp at h
 ·simp at h
theorem c_fbp (s:Str)(hs:s.length≤1048576):∃ (w:MVer) (t:Nat),outL qzu [.one (Cell.str (bs s))]=some [.agg [Cell.int w.A,Cell.int w.B,Cell.int w.C,qay w.Pre],.one (Cell.int t),.one (Cell.bool (partOf s).isSome)]∧∀ p,partOf s=some p→p=(w,t):=by
 have hM:=qag
 obtain⟨cs,E,i2,e2,r2,w2,_⟩:=qtm (f_fal s hs) ([]:List Entry) (qam [.one (Cell.str (bs s))] _ _)
 obtain⟨c6,rfl⟩:=MVer.open r2
 rw[List.nil_append] at e2 r2
 cases hk:(qai s).2 with
 | true=>
  have hp:partOf s=some ((qai s).1,3):=by unfold partOf;rw[if_pos hk]
  refine⟨(qai s).1,3,?_,fun p h=>by rw[hp] at h;exact(Option.some.inj h).symm⟩
  have hr:=qeq r2 (by omega)
  simp only[MVer.tr,List.map_cons,List.map_nil,qbg,qbm] at hr
  refine qbf (H:=E) (xs:=[.agg [Cell.int (qai s).1.A,Cell.int (qai s).1.B,Cell.int (qai s).1.C,c6],.one (Cell.int ((3:Nat):Int)),.one (Cell.bool (partOf s).isSome)]) (qsi 0 ?_) (qbt hr (qbt (qba _ _ _) (qbt (qba _ _ _) (qbh _))))
  simp only[fbp,e2,hk,hp,EV0]
  rfl
 | false=>
  have hp:partOf s=numsOf (split 46 s):=by unfold partOf;rw[if_neg (by rw[hk];simp)]
  obtain⟨c9,E2,is,e3,r3,w3,_⟩:=qcz (qmfd s 46 (by omega)) E (qam [.one (Cell.str (bs s)),.one (Cell.str (bs [46]))] _ _)
  have hl:=qfo.of (n:=2) r3
  generalize hH:E++E2=H at e3 r3 hl
  have hlen:∀ x∈split 46 s,x.length≤1073741824:=fun x hx=>by
   have:=(qbu 46 s []).2 x hx
   simp only[List.length_nil,Nat.zero_add] at this
   omega
  have hll:(split 46 s).length≤s.length+1:=(qbu 46 s []).1
  have hne:split 46 s≠[]:=qgf _ _
  have hz:mapO (qao false H) [.agg [Cell.int 0,Cell.int 0,Cell.int 0,.lst true 1 []],.one (Cell.int 0),.one (Cell.bool false)]=some [.agg [Cell.int 0,Cell.int 0,Cell.int 0,qay []],.one (Cell.int ((0:Nat):Int)),.one (Cell.bool false)]:=rfl
  have hnum:∀ x:Str,x.length≤1073741824→out qkl [.one (Cell.str (bs x)),.one (Cell.int 9999)]=some (numV (qas x 9999)):=fun x hx=>c_fai x 9999 hx (by omega)
  by_cases h3:(split 46 s).length≤3
  ·
   obtain⟨id,off,ep,hc⟩:∃ id off ep,c9=.vs id 1 off (split 46 s).length ep:=by
    rcases r3 with⟨h1,_⟩ | ⟨id,off,ep,e,fr,is',h2,_⟩
    ·exact absurd (by simpa using h1) hne
    ·exact⟨id,off,ep,by simpa using h2⟩
   have hsl:∀ t:Nat,t≤(split 46 s).length→slcC 1 c9 0 (some (t:Int)) none=some (.vs id 1 off t ep):=by
    intro t ht
    rw[hc]
    simp only[slcC,Option.getD_some,Option.getD_none,if_true]
    rw[if_pos ⟨by omega,by omega,by omega,by omega⟩,if_pos (.inl trivial)]
    simp
   have hat:∀ (t i:Nat) (x:Str),i < t→t≤(split 46 s).length→(split 46 s)[i]?=some x→∃ a rw' off',idxA 1 (.vs id 1 off t ep) (i:Int)=some a∧deref H a=some (rw',off')∧cS rw' off'=some (bs x):=by
    intro t i x h1 h2 h4
    obtain⟨a,rw',off',q1,q2,q3⟩:=hl.at h4
    refine⟨a,rw',off',?_,q2,q3⟩
    rw[← q1,hc]
    simp only[idxA,if_true]
    rw[if_pos ⟨by omega,by omega⟩,if_pos ⟨by omega,by omega⟩]
   have one:∀ (x:Str),(split 46 s)[0]?=some x→∀ k m n,qpw k m (n+1+1) 1 (.vs id 1 off 1 ep) 1 0 0 0 H=some (resP (oneV x),H):=by
    intro x hx k m n
    obtain⟨a,rw',off',q1,q2,q3⟩:=hat 1 0 x (by omega) (List.length_pos_iff.2 hne) hx
    rw[show((0:Nat):Int)=0 from rfl] at q1
    have hxl:=hlen x (List.mem_of_getElem? hx)
    rw[qpw]
    simp only[q1,q2,q3,hnum x hxl,show decide ((0:Int) < 1)=true from rfl,EV0]
    unfold oneV
    cases hq:qas x 9999 with
    | none=>
     simp only[numV,EV0,Bool.not_false]
     rfl
    | some p=>
     simp only[numV,EV0,Bool.not_true]
     rw[if_neg (by omega),if_pos trivial,show IntKind.i64.wrap ((0:Int)+1)=1 from wrap_small (by omega) (by omega)]
     rfl
   have two:∀ (x y:Str),(split 46 s)[0]?=some x→(split 46 s)[1]?=some y→∀ k m n,qpw k m (n+1+1+1) 2 (.vs id 1 off 2 ep) 2 0 0 0 H=some (resP (twoV x y),H):=by
    intro x y hx hy k m n
    have hlt:=(List.getElem?_eq_some_iff.1 hy).1
    obtain⟨a,rw',off',q1,q2,q3⟩:=hat 2 0 x (by omega) (by omega) hx
    obtain⟨a',rw2,off2,q4,q5,q6⟩:=hat 2 1 y (by omega) (by omega) hy
    rw[show((0:Nat):Int)=0 from rfl] at q1
    rw[show((1:Nat):Int)=1 from rfl] at q4
    have hxl:=hlen x (List.mem_of_getElem? hx)
    have hyl:=hlen y (List.mem_of_getElem? hy)
    rw[qpw]
    simp only[q1,q2,q3,hnum x hxl,show decide ((0:Int) < 2)=true from rfl,EV0]
    unfold twoV
    cases hq:qas x 9999 with
    | none=>
     simp only[numV,EV0,Bool.not_false]
     rfl
    | some p=>
     simp only[numV,EV0,Bool.not_true]
     rw[if_neg (by omega),if_pos trivial,show IntKind.i64.wrap ((0:Int)+1)=1 from wrap_small (by omega) (by omega),qpw]
     simp only[q4,q5,q6,hnum y hyl,show decide ((1:Int) < 2)=true from rfl,EV0]
     cases hq2:qas y 9999 with
     | none=>
      simp only[numV,EV0,Bool.not_false]
      rfl
     | some p2=>
      simp only[numV,EV0,Bool.not_true]
      rw[if_pos trivial,show IntKind.i64.wrap ((1:Int)+1)=2 from wrap_small (by omega) (by omega)]
      rfl
   have w0:∀ t:Nat,1≤t→t≤3→IntKind.i64.wrap ((t:Int) - 1)=((t - 1:Nat):Int):=fun t h1 h2=>by rw[wrap_small (by omega) (by omega)];omega
   have xe:∀ z:Str,(z==[120])=decide (z=xS):=fun z=>strEq z xS
   have l0a:∀ (x:Str),(split 46 s)[0]?=some x→∀ k m n,qsv k (m+3) (n+1) c9 1 H=some (resP (oneV x),H):=by
    intro x hx k m n
    rw[qsv]
    rw[show decide ((1:Int) > 1)=false from rfl,cond_false,show decide ((1:Int) > 2)=false from rfl,cond_false,show(some (1:Int))=some ((1:Nat):Int) from rfl,hsl 1 (List.length_pos_iff.2 hne)]
    simp only[EV0,lenC]
    exact one x hx k (m+3) (m+1)
   have l0b:∀ (x y:Str),(split 46 s)[0]?=some x→(split 46 s)[1]?=some y→∀ k m n,qsv k (m+3) (n+1+1) c9 2 H=some (resP (if y=xS then oneV x else twoV x y),H):=by
    intro x y hx hy k m n
    have hlt:=(List.getElem?_eq_some_iff.1 hy).1
    obtain⟨a',rw2,off2,q4,q5,q6⟩:=hat (split 46 s).length 1 y (by omega) (by omega) hy
    rw[← hc] at q4
    rw[show((1:Nat):Int)=1 from rfl] at q4
    have ww:IntKind.i64.wrap ((2:Int) - 1)=1:=w0 2 (by omega) (by omega)
    rw[qsv]
    rw[show decide ((2:Int) > 1)=true from rfl,cond_true,ww]
    simp only[q4,q5,q6,xe,EV0]
    by_cases h:y=xS
    ·rw[decide_eq_true h,cond_true,if_pos h]
     exact l0a x hx k m n
    ·rw[decide_eq_false h,cond_false,if_neg h,show decide ((2:Int) > 2)=false from rfl,cond_false,show(some (2:Int))=some ((2:Nat):Int) from rfl,hsl 2 (by omega)]
     simp only[EV0,lenC]
     exact two x y hx hy k (m+3) m
   have fin:∀ k m n,qsv k (m+3) (n+1+1+1) c9 (split 46 s).length H=some (resP (numsOf (split 46 s)),H):=by
    intro k m n
    have hcs:(∃ x,split 46 s=[x])∨(∃ x y,split 46 s=[x,y])∨∃ x y z,split 46 s=[x,y,z]:=by
     match hq:split 46 s,h3,hne with
     | [x],_,_=>exact .inl ⟨x,rfl⟩
     | [x,y],_,_=>exact .inr (.inl ⟨x,y,rfl⟩)
     | [x,y,z],_,_=>exact .inr (.inr ⟨x,y,z,rfl⟩)
     | _::_::_::_::_,h5,_=>simp at h5
    rcases hcs with⟨x,hL⟩ | ⟨x,y,hL⟩ | ⟨x,y,z,hL⟩
    ·have z1:=l0a x (by rw[hL];rfl) k m (n+1+1)
     rw[hL]
     exact z1
    ·have z1:=l0b x y (by rw[hL];rfl) (by rw[hL];rfl) k m (n+1)
     rw[hL]
     exact z1
    ·have z1:=l0b x y (by rw[hL];rfl) (by rw[hL];rfl) k m n
     obtain⟨a',rw2,off2,q4,q5,q6⟩:=hat (split 46 s).length 2 z (by rw[hL];simp) (by omega) (by rw[hL];rfl)
     rw[← hc] at q4
     rw[show((2:Nat):Int)=2 from rfl] at q4
     have ww:IntKind.i64.wrap ((3:Int) - 1)=2:=w0 3 (by omega) (by omega)
     rw[hL,qsv]
     rw[show(([x,y,z]:List Str).length:Int)=3 from rfl,show decide ((3:Int) > 1)=true from rfl,cond_true,ww]
     simp only[q4,q5,q6,xe,EV0,numsOf]
     by_cases h:z=xS
     ·rw[decide_eq_true h,cond_true,if_pos h]
      exact z1
     ·rw[decide_eq_false h,cond_false,if_neg h]
      rfl
   have hrun:∀ k m,fbp k (m+3) (bs s)=some (resP (numsOf (split 46 s)),H):=by
    intro k m
    simp only[fbp,e2,hk,e3,hl.len,EV0]
    rw[decide_eq_false (by omega),cond_false]
    exact fin k m m
   rw[hp]
   have z1:=qsi 2 (hrun (2+1) 0)
   cases hq:numsOf (split 46 s) with
   | none=>
    rw[hq] at z1
    exact⟨⟨0,0,0,[]⟩,0,qbf z1 hz,fun p h=>by simp at h⟩
   | some p=>
    obtain⟨v,t⟩:=p
    rw[hq] at z1
    have hpre:=qbuc hq
    simp only at hpre
    refine⟨v,t,qbf z1 ?_,fun p h=>by simp only[Option.some.injEq] at h;exact h.symm⟩
    rw[hpre]
    rfl
  ·have hno:numsOf (split 46 s)=none:=by
    match h:split 46 s with
    | []=>rfl
    | [x]=>rw[h] at h3;simp at h3
    | [x,y]=>rw[h] at h3;simp at h3
    | [x,y,z]=>rw[h] at h3;simp at h3
    | _::_::_::_::_=>rfl
   rw[hp,hno]
   refine⟨⟨0,0,0,[]⟩,0,qbf (H:=H) (qsi 0 ?_) hz,fun p h=>by simp at h⟩
   simp only[fbp,e2,hk,e3,hl.len,EV0]
   rw[decide_eq_true (by omega),cond_true]
theorem c_faz (w:Str)(hw:w.length≤1048576):outL qcfb [.one (Cell.str (bs w))]=some [.one (encL 5 eCmp ((qlx w).getD [])),.one (Cell.bool (qlx w).isSome)]:=by
 have hM:=qag
 have hz:mapO (qao false []) [.one (.lst true 5 []),.one (Cell.bool false)]=some [.one (encL 5 eCmp []),.one (Cell.bool false)]:=rfl
 have loop:∀ (r:List Str) (i n:Nat),signs.drop i=r→r.length < n→∀ k m,∃ xs,qdmb k m n (bs w) i=some (xs,[])∧mapO (qao false []) xs=some [.one (encL 5 eCmp ((qfk w r).getD [])),.one (Cell.bool (qfk w r).isSome)]:=by
  intro r
  induction r with
  | nil=>
   intro i n hd hn k m
   obtain⟨n,rfl⟩:∃ j,n=j+1:=⟨n - 1,by omega⟩
   have:=drop_nil hd
   simp only[signs,List.length_cons,List.length_nil] at this
   simp only[qdmb]
   rw[decide_eq_false (by omega),cond_false]
   exact⟨_,rfl,hz⟩
  | cons g r ih=>
   intro i n hd hn k m
   obtain⟨n,rfl⟩:∃ j,n=j+1:=⟨n - 1,by omega⟩
   obtain⟨hlt,hg,hd'⟩:=qal hd
   simp only[signs,List.length_cons,List.length_nil] at hlt
   simp only[List.length_cons] at hn
   have hsg:=qpnd hg
   simp only[qdmb]
   rw[decide_eq_true (by omega),cond_true,if_pos ⟨by omega,by omega⟩,Int.toNat_natCast,Nat.mul_one,hsg]
   simp only[c_fge,EV0]
   obtain⟨xs,z1,z2⟩:=ih (i+1) n hd' (by omega) k m
   by_cases hp:g.isPrefixOf w=true
   ·rw[hp,Bool.not_true,cond_false,qkoc hp]
    obtain⟨v,t,q1,q2⟩:=c_fbp (w.drop g.length) (by simp;omega)
    simp only[q1,EV0,qitb,qkyb]
    have hgo:qfk w (g::r)=match partOf (w.drop g.length) with | some p=>some (qdr g p.1 p.2) | none=>none:=by
     rw[qfk,if_pos hp]
    cases hpo:partOf (w.drop g.length) with
    | none=>
     rw[hpo] at hgo
     rw[hgo]
     simp only[Option.isSome_none,Bool.not_false,cond_true]
     exact⟨_,rfl,hz⟩
    | some p=>
     have e:=q2 p hpo
     subst e
     rw[hpo] at hgo
     rw[hgo]
     have hok:=qwj hpo
     simp only[Option.isSome_some,Bool.not_true,cond_false,c_fbw g v hok.1 t hok.2.1 hok.2.2,EV0]
     exact⟨_,rfl,qam [.one (encL 5 eCmp (qdr g v t)),.one (Cell.bool true)] _ _⟩
   ·have hgo:qfk w (g::r)=qfk w r:=by rw[qfk,if_neg hp]
    rw[hgo,show g.isPrefixOf w=false from Bool.eq_false_iff.2 hp,Bool.not_false,cond_true,qae (by omega)]
    exact⟨xs,z1,z2⟩
 by_cases h42:w=[42]
 ·subst h42
  refine qbf (H:=[]) (qyc 0 ?_) (show mapO (qao false []) [.one (.lst true 5 [[Cell.int 4,Cell.int 0,Cell.int 0,Cell.int 0,.lst true 1 []]]),.one (Cell.bool true)]=some [.one (encL 5 eCmp [⟨4,zeroV⟩]),.one (Cell.bool true)] from rfl)
  have hrun:∀ q,faz q q (bs [42])=some ([.one (.lst true 5 [[Cell.int 4,Cell.int 0,Cell.int 0,Cell.int 0,.lst true 1 []]]),.one (Cell.bool true)],[]):=by
   intro q
   simp only[faz,qdz,beq_self_eq_true,cond_true]
  exact hrun _
 ·have hc:qlx w=qfk w signs:=by unfold qlx;rw[if_neg h42]
  rw[hc]
  obtain⟨xs,z1,z2⟩:=loop signs 0 10 rfl (by simp[signs]) (9+1) (9+1)
  have hrun:∀ q,faz q q (bs w)=qdmb q q q (bs w) 0:=by
   intro q
   simp only[faz,qdz]
   rw[show(w==[42])=false by simpa using h42,cond_false]
  exact qbf (qyc 9 ((hrun _).trans z1)) z2
theorem qspc {A:List Entry}{sz by':Nat}{c:Cell}{T:List Entry}{rows:List (List Cell)}(h:GrowAt A.length sz c T rows)(ys:List (List Cell))(h1:(rows.length+ys.length)*by'≤bound)(h2:rows.length+ys.length≤bound):
  ∃ d T',app (A++T) sz by' c ys=some (d,A++T')∧GrowAt A.length sz d T' (rows++ys):=by
 rcases h with⟨rfl,rfl,rfl⟩ | ⟨ep,rfl,rfl⟩
 ·cases ys with
  | nil=>exact⟨_,[],by simp[app],.inl ⟨rfl,rfl,rfl⟩⟩
  | cons y ys=>
   refine⟨.vs A.length sz 0 (y::ys).length 0,[Entry.mk sz (y::ys) 0 false],?_,.inr ⟨0,rfl,rfl⟩⟩
   simp only[List.length_nil] at h1 h2
   simp only[app,List.isEmpty_cons,List.length_nil,List.append_nil,List.nil_append]
   rw[if_neg (by simp),if_pos ⟨trivial,.inr trivial,h1,h2⟩]
   simp
 ·refine⟨.vs A.length sz 0 (rows.length+ys.length) (ep+1),[Entry.mk sz (rows++ys) (ep+1) false],?_,.inr ⟨ep+1,by simp,rfl⟩⟩
  have he:entry? (A++[Entry.mk sz rows ep false]) A.length ep=some (Entry.mk sz rows ep false):=by simp[entry?]
  simp only[app,he]
  rw[if_pos ⟨trivial,by simp,.inr trivial,h1,h2⟩]
  simp
theorem GrowAt.readA {α:Type}{A T:List Entry}{sz:Nat}{c:Cell}{e:α→List Cell}[CanonE e]{xs:List α}(h:GrowAt A.length sz c T (xs.map e)):qao false (A++T) (.one c)=some (.one (encL sz e xs)):=by
 rcases h with⟨h1,rfl,rfl⟩ | ⟨ep,rfl,rfl⟩
 ·simp only[List.map_eq_nil_iff] at h1
  subst h1
  exact qvs (e:=e) true [] _
 ·have q:=qhz (sz:=sz) (chk:=false) (H:=A++[Entry.mk sz (xs.map e) ep false]) (id:=A.length) (ep:=ep) (fr:=false) (e:=e) (xs:=xs) 4194303 (by simp) (by simp)
  simp only[qao,depth,List.length_map,q,Option.map_some]
theorem GrowAt.lenA {α:Type}{A T:List Entry}{sz:Nat}{c:Cell}{e:α→List Cell}{xs:List α}(h:GrowAt A.length sz c T (xs.map e)):lenC c=some xs.length:=by
 rcases h with⟨h1,rfl,rfl⟩ | ⟨ep,rfl,rfl⟩
 ·simp only[List.map_eq_nil_iff] at h1
  subst h1
  rfl
 ·simp
theorem GrowAt.atA {α:Type}{A T:List Entry}{sz:Nat}{c:Cell}{e:α→List Cell}{xs:List α}(h:GrowAt A.length sz c T (xs.map e)){i:Nat}{x:α}(hx:xs[i]?=some x):∃ a,idxA sz c (i:Int)=some a∧deref (A++T) a=some (e x,0):=by
 have hlt:=(List.getElem?_eq_some_iff.1 hx).1
 rcases h with⟨h1,_,_⟩ | ⟨ep,rfl,rfl⟩
 ·simp only[List.map_eq_nil_iff] at h1
  subst h1
  simp at hx
 ·exact⟨.ptr A.length sz i 0 ep,qgd _ _ _ _ _ (by simpa using hlt),by simp[deref,entry?,hx]⟩
def trC (c:RCmp):List Tr:=.leaf (.int .i64 c.op)::c.v.tr
instance:TrE trC eCmp:=⟨fun x=>by simp only[trC,MVer.tr,eCmp,List.map_cons,List.map_nil,qbg,qbm]⟩
theorem c_fbk (p:Str)(hp:p.length≤1048576):∃ l:List RCmp,outL qdjb [.one (Cell.str (bs p))]=some [.one (encL 5 eCmp l),.one (Cell.bool (qmq p).isSome)]∧∀ q,qmq p=some q→q=l:=by
 have hM:=qag
 have htl:=qtjc p
 have hspl:=qbu 32 (trim p) []
 have hwl:(split 32 (trim p)).length≤1048577:=by have:=hspl.1;unfold split;omega
 have hww:∀ y∈split 32 (trim p),y.length≤1048576:=fun y hy=>by
  have:=hspl.2 y hy
  simp only[List.length_nil,Nat.zero_add] at this
  omega
 have hlo:qmq p=qum (split 32 (trim p)):=rfl
 obtain⟨c5,A,ids,e1,r1,w1,_⟩:=qcz (qmfd (trim p) 32 (by omega)) ([]:List Entry) (qam [.one (Cell.str (bs (trim p))),.one (Cell.str (bs [32]))] _ _)
 rw[List.nil_append] at e1 r1
 have hl:=qfo.of (n:=2) r1
 generalize hws:split 32 (trim p)=ws at e1 r1 hl hwl hww hlo
 have hz:∀ G:List Entry,mapO (qao false G) [.one (.lst true 5 []),.one (Cell.bool false)]=some [.one (encL 5 eCmp []),.one (Cell.bool false)]:=fun G=>rfl
 have l1:∀ (acc:List RCmp) (c:Cell) (T:List Entry),acc.length≤4194304→(∀ x∈acc,okB x.v)→GrowAt A.length 5 c T (acc.map eCmp)→∀ (r:List RCmp) (i n:Nat),acc.drop i=r→r.length < n→∀ k m,
   qglb k m n c c acc.length i (A++T)=some (cond (r.all (fun c=>qil c.v)) [.one c,.one (Cell.bool (decide (acc.length≤4)))] [.one (.lst true 5 []),.one (Cell.bool false)],A++T):=by
  intro acc c T ha hB hg r
  induction r with
  | nil=>
   intro i n hd hn k m
   obtain⟨n,rfl⟩:∃ j,n=j+1:=⟨n - 1,by omega⟩
   have:=drop_nil hd
   simp only[qglb,hg.lenA,EV0]
   rw[decide_eq_false (by omega),cond_false,show decide ((acc.length:Int)≤4)=decide (acc.length≤4) by rw[decide_eq_decide];omega]
   rfl
  | cons x r ih=>
   intro i n hd hn k m
   obtain⟨n,rfl⟩:∃ j,n=j+1:=⟨n - 1,by omega⟩
   obtain⟨hlt,hx,hd'⟩:=qal hd
   simp only[List.length_cons] at hn
   obtain⟨a,q1,q2⟩:=hg.atA hx
   have hxb:=qmpd (hB x (List.mem_of_getElem? hx))
   simp only[qglb,q1,q2,eCmp,Nat.zero_add,c_fas x.v.A x.v.B x.v.C x.v.Pre hxb.2.2.2,EV0]
   rw[decide_eq_true (by omega),cond_true,qae (by omega),ih (i+1) n hd' (by omega)]
   simp only[List.all_cons,qil]
   cases qgu x.v.A x.v.B x.v.C x.v.Pre<;>rfl
 have loop:∀ (r:List Str) (i n:Nat) (acc:List RCmp) (c:Cell) (T:List Entry),ws.drop i=r→r.length < n→acc.length≤2*i→i≤ws.length→(∀ x∈acc,okB x.v)→GrowAt A.length 5 c T (acc.map eCmp)→∀ k m,4194304 < m→
   ∃ xs H',qwl k m n c c5 ws.length i (A++T)=some (xs,H')∧∃ (l:List RCmp) (b:Bool),mapO (qao false H') xs=some [.one (encL 5 eCmp l),.one (Cell.bool b)]∧
    match qeh r acc with | some q=>b=decide (q.length≤4∧q.all (fun c=>qil c.v)=true)∧(b=true→l=q) | none=>b=false:=by
  intro r
  induction r with
  | nil=>
   intro i n acc c T hd hn ha hi hB hg k m hm
   obtain⟨n,rfl⟩:∃ j,n=j+1:=⟨n - 1,by omega⟩
   have:=drop_nil hd
   simp only[qwl,hg.lenA,EV0]
   rw[decide_eq_false (by omega),cond_false]
   have z:=l1 acc c T (by omega) hB hg acc 0 m rfl (by omega) k m
   rw[show((0:Nat):Int)=0 from rfl] at z
   rw[z,qeh]
   cases hall:acc.all (fun c=>qil c.v) with
   | true=>exact⟨_,_,rfl,acc,decide (acc.length≤4),qbt hg.readA (qbt (qba _ _ _) (qbh _)),by simp only[hall,and_true],fun _=>rfl⟩
   | false=>exact⟨_,_,rfl,[],false,hz _,by rw[hall];simp,by simp⟩
  | cons x r ih=>
   intro i n acc c T hd hn ha hi hB hg k m hm
   obtain⟨n,rfl⟩:∃ j,n=j+1:=⟨n - 1,by omega⟩
   obtain⟨hlt,hx,hd'⟩:=qal hd
   simp only[List.length_cons] at hn
   have hxl:=hww x (List.mem_of_getElem? hx)
   obtain⟨a,rw',off',q1,q2,q3⟩:=(hl.frame (H':=A++T) fun j hj=>List.getElem?_append_left (r1.lt j hj)).at hx
   simp only[qwl,q1,q2,q3,c_faz x hxl,EV0]
   rw[decide_eq_true (by omega),cond_true]
   cases hq:qlx x with
   | none=>
    rw[qeh,hq]
    simp only[Option.isSome_none,Bool.not_false,cond_true]
    exact⟨_,_,rfl,[],false,hz _,rfl⟩
   | some q=>
    have hqB:=qhjb hq
    obtain⟨d,T',a1,g1⟩:=qspc (by':=56) hg (q.map eCmp) (by unfold bound;simp only[List.length_map];omega) (by unfold bound;simp only[List.length_map];omega)
    simp only[Option.isSome_some,Option.getD_some,Bool.not_true,cond_false,qzeb,a1,Option.bind_some]
    rw[qae (by omega),qeh,hq]
    exact ih (i+1) n (acc++q) d T' hd' (by omega) (by rw[List.length_append];omega) (by omega) (fun y hy=>by
     rcases List.mem_append.1 hy with hy | hy
     ·exact hB y hy
     ·exact hqB.2 y hy) (by simpa using g1) k m hm
 have hcut:∀ k m,fbk k m (bs p)=fbk k m (bs p):=fun _ _=>rfl
 cases hh:qiac ws with
 | some pr=>
  obtain⟨a,c⟩:=pr
  have hw3:=qya hh
  subst hw3
  have ha:=hww a (by simp)
  have hcl:=hww c (by simp)
  have hs:qmq p=if (qai a).2&&(qai c).2 then some [⟨4,(qai a).1⟩,⟨2,(qai c).1⟩] else none:=by
   rw[hlo,qum,hh]
  obtain⟨cs1,E1,i1,e2,r2,w2,_⟩:=qtm (f_fal a ha) A (qam [.one (Cell.str (bs a))] _ _)
  obtain⟨c17,rfl⟩:=MVer.open r2
  obtain⟨cs2,E2,i2,e3,r3,w3,_⟩:=qtm (f_fal c hcl) (A++E1) (qam [.one (Cell.str (bs c))] _ _)
  obtain⟨c26,rfl⟩:=MVer.open r3
  obtain⟨a0,rw0,off0,q1,q2,q3⟩:=hl.at (i:=0) (s:=a) rfl
  obtain⟨a1,rw1,off1,q4,q5,q6⟩:=hl.at (i:=1) (s:=[45]) rfl
  obtain⟨a2,rw2,off2,q7,q8,q9⟩:=(hl.frame (H':=A++E1) fun j hj=>List.getElem?_append_left (r1.lt j hj)).at (i:=2) (s:=c) rfl
  rw[show((0:Nat):Int)=0 from rfl] at q1
  rw[show((1:Nat):Int)=1 from rfl] at q4
  rw[show((2:Nat):Int)=2 from rfl] at q7
  generalize hG:A++E1++E2=G at e3 r3
  have r2':=Rep.app2 E2 r2
  rw[hG] at r2'
  have s1:Sp (Rep (G++[Entry.mk 5 [[Cell.int 4,Cell.int (qai a).1.A,Cell.int (qai a).1.B,Cell.int (qai a).1.C,c17],[Cell.int 2,Cell.int (qai c).1.A,Cell.int (qai c).1.B,Cell.int (qai c).1.C,c26]] 0 false]) true true 2) ([]++i1) [Cell.int 4,Cell.int (qai a).1.A,Cell.int (qai a).1.B,Cell.int (qai a).1.C,c17] (trC ⟨4,(qai a).1⟩):=
   Sp.cons (i:=[]) (qdq _) (Rep.app2 _ r2')
  have s2:Sp (Rep (G++[Entry.mk 5 [[Cell.int 4,Cell.int (qai a).1.A,Cell.int (qai a).1.B,Cell.int (qai a).1.C,c17],[Cell.int 2,Cell.int (qai c).1.A,Cell.int (qai c).1.B,Cell.int (qai c).1.C,c26]] 0 false]) true true 2) ([]++i2) [Cell.int 2,Cell.int (qai c).1.A,Cell.int (qai c).1.B,Cell.int (qai c).1.C,c26] (trC ⟨2,(qai c).1⟩):=
   Sp.cons (i:=[]) (qdq _) (Rep.app2 _ r3)
  have rr:Rep (G++[Entry.mk 5 [[Cell.int 4,Cell.int (qai a).1.A,Cell.int (qai a).1.B,Cell.int (qai a).1.C,c17],[Cell.int 2,Cell.int (qai c).1.A,Cell.int (qai c).1.B,Cell.int (qai c).1.C,c26]] 0 false]) true true 3 (G.length::(([]++i1)++(([]++i2)++[]))) (.vs G.length 5 0 2 0) (trL 5 trC [⟨4,(qai a).1⟩,⟨2,(qai c).1⟩]):=
   .inr ⟨G.length,0,0,_,false,_,rfl,rfl,by simp;rfl,fun _=>rfl,fun _=>⟨rfl,by simp[trL]⟩,by simp[trL],by simp,by
    simp only[List.drop_zero,trL,List.map_cons,List.map_nil,List.length_cons,List.length_nil]
    exact Sp.cons s1 (Sp.cons s2 .nil)⟩
  have hrd:=qcq rr (by omega)
  rw[qbm] at hrd
  have hq2:∀ q,qmq p=some q→q=[⟨4,(qai a).1⟩,⟨2,(qai c).1⟩]:=fun q hq=>by
   rw[hs] at hq
   split at hq
   ·exact(Option.some.inj hq).symm
   ·simp at hq
  refine⟨[⟨4,(qai a).1⟩,⟨2,(qai c).1⟩],?_,hq2⟩
  have hb:(qmq p).isSome=((qai a).2&&(qai c).2):=by
   rw[hs]
   rcases Bool.eq_false_or_eq_true ((qai a).2&&(qai c).2) with h | h
   ·rw[if_pos h,h]
    rfl
   ·rw[if_neg (by rw[h];simp),h]
    rfl
  rw[hb]
  refine qbf (qzx 0 ?_) (qbt hrd (qbt (qba (.one (Cell.bool ((qai a).2&&(qai c).2))) _ _) (qbh _)))
  simp only[fbk,c_fgj p (by omega),e1,hl.len,q1,q2,q3,q4,q5,q6,q7,q8,q9,e2,e3,EV0]
  rw[show(((0+1+1+1:Nat):Int)==3)=true from rfl]
  simp only[cond_true]
  cases (qai a).2<;>rfl
 | none=>
  have hlw:qmq p=qcne ws:=by rw[hlo,qum,hh]
  obtain⟨xs,H',z1,l,b,z2,z3⟩:=loop ws 0 (ws.length+4194304+1) [] (.lst true 5 []) [] rfl (by omega) (by simp) (by omega) (by simp) (.inl ⟨rfl,rfl,rfl⟩) (ws.length+4194304+1) (ws.length+4194304+1) (by omega)
  rw[List.append_nil,show((0:Nat):Int)=0 from rfl] at z1
  have hb:b=(qmq p).isSome∧∀ q,qmq p=some q→q=l:=by
   rw[hlw]
   unfold qcne
   cases hq:qeh ws [] with
   | none=>
    rw[hq] at z3
    exact⟨z3,by simp⟩
   | some q=>
    rw[hq] at z3
    obtain⟨h1,h2⟩:=z3
    simp only
    by_cases h4:q.length≤4∧q.all (fun c=>qil c.v)=true
    ·rw[if_pos h4]
     rw[decide_eq_true h4] at h1
     exact⟨by rw[h1];rfl,fun q' h=>by simp only[Option.some.injEq] at h;rw[← h];exact(h2 h1).symm⟩
    ·rw[if_neg h4]
     exact⟨by rw[h1,decide_eq_false h4];rfl,by simp⟩
  rw[← hb.1]
  refine⟨l,qbf (H:=H') (qzx (ws.length+4194304) ?_) z2,hb.2⟩
  have hrun:∀ q,fbk q q (bs p)=qwl q q q (.lst true 5 []) c5 ws.length 0 A:=by
   intro q
   simp only[fbk,c_fgj p (by omega),e1,hl.len,EV0]
   by_cases h3:ws.length=3
   ·obtain⟨a,d,e,rfl⟩:∃ a d e,ws=[a,d,e]:=by
     match ws,h3 with
     | [a,d,e],_=>exact⟨a,d,e,rfl⟩
    have hd:(d==[45])=false:=by
     cases h:(d==[45]) with
     | false=>rfl
     | true=>
      have:d=[45]:=by simpa using h
      subst this
      simp[qiac] at hh
    obtain⟨a1,rw1,off1,q4,q5,q6⟩:=hl.at (i:=1) (s:=d) rfl
    rw[show((1:Nat):Int)=1 from rfl] at q4
    rw[show((([a,d,e]:List Str).length:Int)==3)=true from rfl,cond_true]
    simp only[q4,q5,q6,EV0]
    rw[hd,cond_false]
   ·rw[show((ws.length:Int)==3)=false by rw[beq_eq_false_iff_ne];omega,cond_false]
  exact(hrun _).trans z1
theorem c_faj (s:Str)(hs:s.length≤1048576):outL qxo [.one (Cell.str (bs s))]=some [.one (qmt ((qce s).getD [])),.one (Cell.bool (qce s).isSome)]:=by
 have hM:=qag
 have hsl:=qfz s.length s [] (Nat.le_refl _)
 have hll:(sides s).length≤s.length+1:=hsl.1
 have hel:∀ x∈sides s,x.length≤1048576:=fun x hx=>by
  have:=hsl.2 x hx
  simp only[List.length_nil,Nat.zero_add] at this
  omega
 have hz:∀ G:List Entry,mapO (qao false G) [.one (.lst true 1 []),.one (Cell.bool false)]=some [.one (qmt []),.one (Cell.bool false)]:=fun G=>rfl
 obtain⟨c3,A,ids,e1,r1,w1,_⟩:=qcz (qnj s (by omega)) ([]:List Entry) (qam [.one (Cell.str (bs s)),.one (Cell.str (bs oo))] _ _)
 rw[List.nil_append] at e1 r1
 have hl:=qfo.of (n:=2) r1
 have loop:∀ (r:List Str) (i n:Nat) (acc:List (List RCmp)) (c:Cell) (T:List Entry),(sides s).drop i=r→r.length < n→acc.length=i→GrowAt A.length 1 c T (acc.map qwub)→∀ k m,
   ∃ xs H',qftb k m n c c3 (sides s).length i (A++T)=some (xs,H')∧
    mapO (qao false H') xs=some [.one (qmt ((qeb r acc).getD [])),.one (Cell.bool (qeb r acc).isSome)]:=by
  intro r
  induction r with
  | nil=>
   intro i n acc c T hd hn ha hg k m
   obtain⟨n,rfl⟩:∃ j,n=j+1:=⟨n - 1,by omega⟩
   have:=drop_nil hd
   simp only[qftb]
   rw[decide_eq_false (by omega),cond_false,qeb]
   exact⟨_,_,rfl,qbt hg.readA (qbt (qba _ _ _) (qbh _))⟩
  | cons x r ih=>
   intro i n acc c T hd hn ha hg k m
   obtain⟨n,rfl⟩:∃ j,n=j+1:=⟨n - 1,by omega⟩
   obtain⟨hlt,hx,hd'⟩:=qal hd
   simp only[List.length_cons] at hn
   have hxl:=hel x (List.mem_of_getElem? hx)
   obtain⟨a,rw',off',q1,q2,q3⟩:=(hl.frame (H':=A++T) fun j hj=>List.getElem?_append_left (r1.lt j hj)).at hx
   obtain⟨l,p1,p2⟩:=c_fbk x hxl
   have e5:∀ {β:Type} (l:List RCmp) (κ:List Cell→Option β),restK [encL 5 eCmp l] κ=κ [encL 5 eCmp l]:=fun l κ=>rfl
   have hsrc:∀ (G:List Entry) (l:List RCmp),qbp G 1 (.lst true 1 (chunks 1 1 [encL 5 eCmp l]))=some [qwub l]:=fun G l=>by simp[qbp,rowsOf,chunks,qwub]
   simp only[qftb,q1,q2,q3,p1,EV0]
   rw[decide_eq_true (by omega),cond_true]
   cases hS:qmq x with
   | none=>
    rw[qeb,hS]
    simp only[Option.isSome_none,Bool.not_false,cond_true]
    exact⟨_,_,rfl,hz _⟩
   | some l'=>
    have:=p2 l' hS
    subst this
    obtain⟨d,T',a1,g1⟩:=qspc (by':=24) hg [qwub l'] (by unfold bound;simp;omega) (by unfold bound;simp;omega)
    obtain⟨xs,H',z1,z2⟩:=ih (i+1) n (acc++[l']) d T' hd' (by omega) (by simp;omega) (by simpa using g1) k m
    refine⟨xs,H',?_,by rw[qeb,hS];exact z2⟩
    simp only[Option.isSome_some,Bool.not_true,cond_false,e5,hsrc,a1,Option.bind_some]
    rw[qae (by omega)]
    exact z1
 by_cases h4:(sides s).length≤4
 ·obtain⟨xs,H',z1,z2⟩:=loop (sides s) 0 ((sides s).length+1+1) [] (.lst true 1 []) [] rfl (by omega) rfl (.inl ⟨rfl,rfl,rfl⟩) ((sides s).length+1+1) ((sides s).length+1+1)
  rw[List.append_nil,show((0:Nat):Int)=0 from rfl] at z1
  have hp:qce s=qeb (sides s) []:=by unfold qce;rw[if_pos h4]
  rw[hp]
  refine qbf (H:=H') (qzs ((sides s).length+1) ?_) z2
  have hoo:(bs [124,124])=bs oo:=rfl
  simp only[faj,hoo,e1,hl.len,EV0]
  rw[decide_eq_false (by omega),cond_false]
  exact z1
 ·have hp:qce s=none:=by unfold qce;rw[if_neg h4]
  rw[hp]
  refine qbf (H:=A) (qzs 0 ?_) (hz _)
  have hoo:(bs [124,124])=bs oo:=rfl
  simp only[faj,hoo,e1,hl.len,EV0]
  rw[decide_eq_true (by omega),cond_true]
def qfh (most:Nat)(s:Str):Bool:=s.all (fun b=>inR b.toNat 32 126)&&decide (s.length≤most)
def keyI {α:Type}(l:List α)(key:α→Str)(good:α→Bool)(i:Nat):Bool:=
 match l[i]? with
 | some f=>good f&&(decide (i=0)||(match l[i - 1]? with
  | some g=>lt (key g) (key f)
  | none=>true))
 | none=>true
theorem qhw {α:Type}{l:List α}{key:α→Str}{good:α→Bool}{f:α}(h:l[0]?=some f):keyI l key good 0=good f:=by
 unfold keyI
 rw[h]
 simp
theorem qhr {α:Type}{l:List α}{key:α→Str}{good:α→Bool}{i:Nat}{f g:α}(h:l[i+1]?=some f)(hg:l[i]?=some g):keyI l key good (i+1)=(good f&&lt (key g) (key f)):=by
 unfold keyI
 rw[h]
 simp[hg]
def qzmb (c:MCmd):Bool:=c.Acts.all (qfh 40)&&(qax c.Task&&inR c.Acts.length 1 5)
def qpr (n:MNeed):Bool:=(qce n.Range).isSome&&(qax n.Name&&decide (n.Range.length≤20))
def qkv (l:List MNeed):Bool:=(List.range l.length).all (keyI l (·.Name) qpr)&&decide (l.length≤4)
def qqjb (l:List MCmd):Bool:=(List.range l.length).all (keyI l (·.Task) qzmb)&&decide (l.length≤4)
def qmv (p:MPack):Bool:=qqjb p.Cmds&&(qax p.Name&&((p.Uses.all qax&&decide (p.Uses.length≤4))&&(asc p.Uses&&qkv p.Needs)))
def qypb (l:List MPack)(nm u:Str):Bool:=!(u==nm)&&!decide (idxF (fun p:MPack=>p.Name==u) l 0 < 0)
def qpkb (l:List MPack)(i:Nat):Bool:=keyI l (·.Name) qmv i&&(match l[i]? with | some f=>f.Uses.all (qypb l f.Name) | none=>true)
def qcs (l:List MPack):Bool:=(List.range l.length).all (qpkb l)&&decide (l.length≤6)
theorem c_fbh (b:UInt8):out qdqb [.one (.sc (.int .u8 (b.toNat:Int)))]=some [.one (Cell.bool (inR b.toNat 32 126))]:=by
 refine qaw (H:=[]) (quyb 0 ?_)
 simp only[fbh,inR]
 by_cases h:(32:Int)≤b.toNat
 ·rw[decide_eq_true (by omega:(b.toNat:Int)≥32),cond_true,Bool.true_and]
 ·rw[decide_eq_false (by omega:¬ (b.toNat:Int)≥32),cond_false,Bool.false_and]
theorem c_fem (s:Str)(most:Nat)(hs:s.length≤1073741824):out quc [.one (Cell.str (bs s)),.one (Cell.int most)]=some [.one (Cell.bool (qfh most s))]:=by
 have hM:=qag
 refine qaw (H:=[]) (qxdb (s.length+1) ?_)
 unfold qfh
 simp only[fem]
 rw[qdo s (fun n i=>qhmb (s.length+1+1) (s.length+1+1) n (bs s) most i) (fun b=>inR b.toNat 32 126) (some ([.one (Cell.bool (decide (s.length≤most)))],[])) (some ([.one (Cell.bool false)],[])) ?_ ?_ _ (by omega)]
 ·exact qbcb _ _ _
 ·intro n i x hx hlt
  have:=qrsd x
  simp only[qhmb,qcn,hx,wrap_small (n:=(x.toNat:Int)) (by omega) (by omega),qeab,EV0]
  rw[decide_eq_true (by omega),cond_true,qae (by omega)]
  cases inR (x.toNat:Int) 32 126<;>rfl
 ·intro n
  simp only[qhmb,qbj]
  rw[decide_eq_false (by omega),cond_false,show decide ((s.length:Int)≤(most:Int))=decide (s.length≤most) from n_le s.length most]
theorem c_fam (s:Str)(most:Nat)(hs:s.length≤1073741824):out qtx [.one (Cell.str (bs s)),.one (Cell.int most)]=some [.one (Cell.bool (qfh most s))]:=by
 have hM:=qag
 refine qaw (H:=[]) (qvpb (s.length+1) ?_)
 unfold qfh
 simp only[fam]
 rw[qdo s (fun n i=>qesb (s.length+1+1) (s.length+1+1) n (bs s) most i) (fun b=>inR b.toNat 32 126) (some ([.one (Cell.bool (decide (s.length≤most)))],[])) (some ([.one (Cell.bool false)],[])) ?_ ?_ _ (by omega)]
 ·exact qbcb _ _ _
 ·intro n i x hx hlt
  simp only[qesb,qcn,hx,c_fbh,EV0]
  rw[decide_eq_true (by omega),cond_true,qae (by omega)]
  cases inR (x.toNat:Int) 32 126<;>rfl
 ·intro n
  simp only[qesb,qbj]
  rw[decide_eq_false (by omega),cond_false,show decide ((s.length:Int)≤(most:Int))=decide (s.length≤most) from n_le s.length most]
theorem c_fay (c:MCmd)(hc:c.Bd 1048576):out qcob [.agg [Cell.str (bs c.Task),qay c.Acts]]=some [.one (Cell.bool (qzmb c))]:=by
 have hM:=qag
 have hl:=hc.2.1
 have h0:c.Task.length≤1048576:=hc.1
 refine qaw (H:=[]) (qwbb (c.Acts.length+1) ?_)
 unfold qzmb
 simp only[fay,EV0]
 rw[qdo c.Acts (fun n i=>qgob (c.Acts.length+1+1) (c.Acts.length+1+1) n (qay c.Acts) c.Acts.length i (bs c.Task) (qay c.Acts)) (qfh 40) (some ([.one (Cell.bool (qax c.Task&&inR c.Acts.length 1 5))],[])) (some ([.one (Cell.bool false)],[])) ?_ ?_ _ (by omega)]
 ·exact qbcb _ _ _
 ·intro n i x hx hlt
  have hb:x.length≤1048576:=hc.2.2 x (List.mem_of_getElem? hx)
  have q:out qtx [.one (Cell.str (bs x)),.one (Cell.int 40)]=some [.one (Cell.bool (qfh 40 x))]:=c_fam x 40 (by omega)
  simp only[qgob,qaj,hx,eStr,q,EV0]
  rw[decide_eq_true (by omega),cond_true,qae (by omega)]
  cases qfh 40 x<;>rfl
 ·intro n
  simp only[qgob,qtfb c.Task (by omega),qteb,EV0]
  rw[decide_eq_false (by omega),cond_false]
  cases qax c.Task<;>rfl
theorem c_fbm (n:MNeed)(hn:n.Bd 1048576):out qdfb [.agg [Cell.str (bs n.Name),Cell.str (bs n.Range)]]=some [.one (Cell.bool (qpr n))]:=by
 have h0:n.Name.length≤1048576:=hn.1
 refine qaw (H:=[]) (qauc 0 ?_)
 simp only[fbm,c_faj n.Range hn.2,qtfb n.Name (by omega),EV0]
 rw[show decide ((n.Range.length:Int)≤20)=decide (n.Range.length≤20) from n_le _ 20]
 unfold qpr
 cases (qce n.Range).isSome<;>cases qax n.Name<;>rfl
theorem c_ffz (n:MNeed)(hn:n.Bd 1048576):out qaab [.agg [Cell.str (bs n.Name),Cell.str (bs n.Range)]]=some [.one (Cell.bool (qpr n))]:=by
 have h0:n.Name.length≤1048576:=hn.1
 refine qaw (H:=[]) (qyqb 0 ?_)
 simp only[ffz,c_fej n.Range hn.2,qrxb n.Name (by omega),EV0]
 rw[show decide ((n.Range.length:Int)≤20)=decide (n.Range.length≤20) from n_le _ 20]
 unfold qpr
 cases (qce n.Range).isSome<;>cases qax n.Name<;>cases decide (n.Range.length≤20)<;>rfl
theorem c_fga (l:List MNeed)(hl:bdL 1048576 (MNeed.Bd 1048576) l):out qxt [.one (encL 2 MNeed.enc l)]=some [.one (Cell.bool (qkv l))]:=by
 have hM:=qag
 have hxl:=hl.1
 refine qaw (H:=[]) (qxvb (l.length+1) ?_)
 unfold qkv
 simp only[fga]
 rw[qee l.length (fun n i=>qxk (l.length+1+1) (l.length+1+1) n (encL 2 MNeed.enc l) i) (keyI l (·.Name) qpr) (some ([.one (Cell.bool (decide (l.length≤4)))],[])) (some ([.one (Cell.bool false)],[])) ?_ ?_ _ (by omega)]
 ·exact qbcb _ _ _
 ·intro n i hlt
  obtain⟨f,hf⟩:∃ f,l[i]?=some f:=⟨l[i],List.getElem?_eq_getElem hlt⟩
  have hb:=hl.2 f (List.mem_of_getElem? hf)
  simp only[qxk,qaf,qaj,hf,MNeed.enc,c_ffz f hb,EV0]
  rw[decide_eq_true (by omega),cond_true,qae (by omega)]
  cases i with
  | zero=>
   rw[qhw hf,decide_eq_false (p:=((0:Nat):Int) > 0) (by omega)]
   cases qpr f<;>rfl
  | succ i=>
   obtain⟨g,hg⟩:∃ g,l[i]?=some g:=⟨l[i],List.getElem?_eq_getElem (by omega)⟩
   rw[qhr hf hg,decide_eq_true (p:=((i+1:Nat):Int) > 0) (by omega),qcp (by omega)]
   simp only[qaj,hf,hg,MNeed.enc,qbr,Nat.zero_add,qcmc,EV0]
   cases qpr f<;>cases lt g.Name f.Name<;>rfl
 ·intro n
  simp only[qxk,qaf,EV0]
  rw[decide_eq_false (by omega),cond_false,show decide ((l.length:Int)≤4)=decide (l.length≤4) from n_le l.length 4]
theorem c_fbn (l:List MNeed)(hl:bdL 1048576 (MNeed.Bd 1048576) l):out qzm [.one (encL 2 MNeed.enc l)]=some [.one (Cell.bool (qkv l))]:=by
 have hM:=qag
 have hxl:=hl.1
 refine qaw (H:=[]) (qywb (l.length+1) ?_)
 unfold qkv
 simp only[fbn,qaf,Option.bind_some]
 rw[qee l.length (fun n i=>qza (l.length+1+1) (l.length+1+1) n (encL 2 MNeed.enc l) (encL 2 MNeed.enc l) l.length i) (keyI l (·.Name) qpr) (some ([.one (Cell.bool (decide (l.length≤4)))],[])) (some ([.one (Cell.bool false)],[])) ?_ ?_ _ (by omega)]
 ·exact qbcb _ _ _
 ·intro n i hlt
  obtain⟨f,hf⟩:∃ f,l[i]?=some f:=⟨l[i],List.getElem?_eq_getElem hlt⟩
  have hb:=hl.2 f (List.mem_of_getElem? hf)
  simp only[qza,qaf,qaj,hf,MNeed.enc,Nat.zero_add,c_fbm f hb,EV0]
  rw[decide_eq_true (by omega),cond_true,qae (by omega)]
  cases i with
  | zero=>
   rw[qhw hf,decide_eq_false (p:=((0:Nat):Int) > 0) (by omega)]
   cases qpr f<;>rfl
  | succ i=>
   obtain⟨g,hg⟩:∃ g,l[i]?=some g:=⟨l[i],List.getElem?_eq_getElem (by omega)⟩
   rw[qhr hf hg,decide_eq_true (p:=((i+1:Nat):Int) > 0) (by omega),qcp (by omega)]
   simp only[qaj,hf,hg,MNeed.enc,qbr,Nat.zero_add,qcmc,qhob,EV0]
   cases qpr f<;>cases lt g.Name f.Name<;>rfl
 ·intro n
  simp only[qza,qaf,EV0]
  rw[decide_eq_false (by omega),cond_false,show decide ((l.length:Int)≤4)=decide (l.length≤4) from n_le l.length 4]
theorem c_ffx (l:List MCmd)(hl:bdL 1048576 (MCmd.Bd 1048576) l):out qaub [.one (encL 2 MCmd.enc l)]=some [.one (Cell.bool (qqjb l))]:=by
 have hM:=qag
 have hxl:=hl.1
 refine qaw (H:=[]) (qazc (l.length+1048577) ?_)
 unfold qqjb
 simp only[ffx]
 rw[qee l.length (fun n i=>qajb (l.length+1048577+1) (l.length+1048577+1) n (encL 2 MCmd.enc l) i) (keyI l (·.Task) qzmb) (some ([.one (Cell.bool (decide (l.length≤4)))],[])) (some ([.one (Cell.bool false)],[])) ?_ ?_ _ (by omega)]
 ·exact qbcb _ _ _
 ·intro n i hlt
  obtain⟨f,hf⟩:∃ f,l[i]?=some f:=⟨l[i],List.getElem?_eq_getElem hlt⟩
  have hb:=hl.2 f (List.mem_of_getElem? hf)
  have hbl:=hb.2.1
  have h0:f.Task.length≤1048576:=hb.1
  have inner:∀ (bl:Cell→Int→Option Res) (k m:Nat),qux k m bl (l.length+1048577+1) (encL 2 MCmd.enc l) i 0=cond (f.Acts.all (qfh 40)) (bl (encL 2 MCmd.enc l) ((i+1:Nat):Int)) (some ([.one (Cell.bool false)],[])):=by
   intro bl k m
   rw[qdo f.Acts (fun n j=>qux k m bl n (encL 2 MCmd.enc l) i j) (qfh 40) (bl (encL 2 MCmd.enc l) ((i+1:Nat):Int)) (some ([.one (Cell.bool false)],[])) ?_ ?_ _ (by omega)]
   ·intro n j x hx hjl
    have hxb:x.length≤1048576:=hb.2.2 x (List.mem_of_getElem? hx)
    have q:out quc [.one (Cell.str (bs x)),.one (Cell.int 40)]=some [.one (Cell.bool (qfh 40 x))]:=c_fem x 40 (by omega)
    simp only[qux,qaj,hf,hx,MCmd.enc,eStr,qbr,Nat.zero_add,q,EV0]
    rw[decide_eq_true (by omega),cond_true,qae (by omega)]
    cases qfh 40 x<;>rfl
   ·intro n
    simp only[qux,qaj,hf,MCmd.enc,qbr,Nat.zero_add,EV0]
    rw[decide_eq_false (by omega),cond_false,qae (by omega)]
  simp only[qajb,qaf,qaj,hf,MCmd.enc,qbr,Nat.zero_add,qrxb f.Task (by omega),qeab,inner,EV0]
  rw[decide_eq_true (by omega),cond_true]
  cases i with
  | zero=>
   rw[qhw hf,decide_eq_false (p:=((0:Nat):Int) > 0) (by omega)]
   unfold qzmb
   cases qax f.Task<;>cases inR (f.Acts.length:Int) 1 5<;>cases f.Acts.all (qfh 40)<;>rfl
  | succ i=>
   obtain⟨g,hg⟩:∃ g,l[i]?=some g:=⟨l[i],List.getElem?_eq_getElem (by omega)⟩
   rw[qhr hf hg,decide_eq_true (p:=((i+1:Nat):Int) > 0) (by omega),qcp (by omega)]
   simp only[qaj,hf,hg,MCmd.enc,qbr,Nat.zero_add,qcmc,EV0]
   unfold qzmb
   cases qax f.Task<;>cases inR (f.Acts.length:Int) 1 5<;>cases f.Acts.all (qfh 40)<;>cases lt g.Task f.Task<;>rfl
 ·intro n
  simp only[qajb,qaf,EV0]
  rw[decide_eq_false (by omega),cond_false,show decide ((l.length:Int)≤4)=decide (l.length≤4) from n_le l.length 4]
theorem c_feg (p:MPack)(hp:p.Bd 1048576):out qzh [.agg [Cell.str (bs p.Name),qay p.Uses,encL 2 MNeed.enc p.Needs,encL 2 MCmd.enc p.Cmds]]=some [.one (Cell.bool (qmv p))]:=by
 obtain⟨b0,b1,b2,b3⟩:=hp
 have h0:p.Name.length≤1048576:=b0
 have h1:=b1.1
 refine qaw (H:=[]) (qcac 0 ?_)
 simp only[feg,qrxb p.Name (by omega),c_ffy p.Uses b1,c_ffw p.Uses (by omega),c_fga p.Needs b2,c_ffx p.Cmds b3,EV0]
 rw[show decide ((p.Uses.length:Int)≤4)=decide (p.Uses.length≤4) from n_le _ 4]
 unfold qmv
 cases qax p.Name<;>cases decide (p.Uses.length≤4)<;>cases p.Uses.all qax<;>cases asc p.Uses<;>cases qkv p.Needs<;>cases qqjb p.Cmds<;>rfl
theorem c_fag (p:MPack)(hp:p.Bd 1048576):out qxw [.agg [Cell.str (bs p.Name),qay p.Uses,encL 2 MNeed.enc p.Needs,encL 2 MCmd.enc p.Cmds]]=some [.one (Cell.bool (qmv p))]:=by
 have hM:=qag
 obtain⟨b0,b1,b2,b3⟩:=hp
 have h0:p.Name.length≤1048576:=b0
 have h1:=b1.1
 have h3:=b3.1
 refine qaw (H:=[]) (qujb (p.Cmds.length+1) ?_)
 unfold qmv qqjb
 simp only[fag,qaf,Option.bind_some]
 rw[qee p.Cmds.length (fun n i=>qcib (p.Cmds.length+1+1) (p.Cmds.length+1+1) n (encL 2 MCmd.enc p.Cmds) p.Cmds.length i (bs p.Name) (qay p.Uses) (encL 2 MNeed.enc p.Needs) (encL 2 MCmd.enc p.Cmds)) (keyI p.Cmds (·.Task) qzmb)
  (some ([.one (Cell.bool (qax p.Name&&((p.Uses.all qax&&decide (p.Uses.length≤4))&&(asc p.Uses&&(qkv p.Needs&&decide (p.Cmds.length≤4))))))],[])) (some ([.one (Cell.bool false)],[])) ?_ ?_ _ (by omega)]
 ·generalize (List.range p.Cmds.length).all (keyI p.Cmds (·.Task) qzmb)=a
  cases a<;>cases qax p.Name<;>cases decide (p.Uses.length≤4)<;>cases p.Uses.all qax<;>cases asc p.Uses<;>cases qkv p.Needs<;>cases decide (p.Cmds.length≤4)<;>rfl
 ·intro n i hlt
  obtain⟨f,hf⟩:∃ f,p.Cmds[i]?=some f:=⟨p.Cmds[i],List.getElem?_eq_getElem hlt⟩
  have hb:=b3.2 f (List.mem_of_getElem? hf)
  simp only[qcib,qaf,qaj,hf,MCmd.enc,Nat.zero_add,c_fay f hb,EV0]
  rw[decide_eq_true (by omega),cond_true,qae (by omega)]
  cases i with
  | zero=>
   rw[qhw hf,decide_eq_false (p:=((0:Nat):Int) > 0) (by omega)]
   cases qzmb f<;>rfl
  | succ i=>
   obtain⟨g,hg⟩:∃ g,p.Cmds[i]?=some g:=⟨p.Cmds[i],List.getElem?_eq_getElem (by omega)⟩
   rw[qhr hf hg,decide_eq_true (p:=((i+1:Nat):Int) > 0) (by omega),qcp (by omega)]
   simp only[qaj,hf,hg,MCmd.enc,qbr,Nat.zero_add,qcmc,qhob,EV0]
   cases qzmb f<;>cases lt g.Task f.Task<;>rfl
 ·intro n
  simp only[qcib,qtfb p.Name (by omega),show out qky [.one (qay p.Uses),.one (Cell.int 4)]=_ from c_fbl p.Uses b1 4,c_fbd p.Uses (by omega),c_fbn p.Needs b2,EV0]
  rw[decide_eq_false (by omega),cond_false,show decide ((p.Cmds.length:Int)≤4)=decide (p.Cmds.length≤4) from n_le _ 4]
  cases qax p.Name<;>cases decide (p.Uses.length≤4)<;>cases p.Uses.all qax<;>cases asc p.Uses<;>cases qkv p.Needs<;>rfl
theorem c_feh (l:List MPack)(hl:bdL 1048576 (MPack.Bd 1048576) l):out qmj [.one (encL 4 MPack.enc l)]=some [.one (Cell.bool (qcs l))]:=by
 have hM:=qag
 have hxl:=hl.1
 refine qaw (H:=[]) (qutb (l.length+1048577) ?_)
 unfold qcs
 simp only[feh]
 rw[qee l.length (fun n i=>qxz (l.length+1048577+1) (l.length+1048577+1) n (encL 4 MPack.enc l) i) (qpkb l) (some ([.one (Cell.bool (decide (l.length≤6)))],[])) (some ([.one (Cell.bool false)],[])) ?_ ?_ _ (by omega)]
 ·exact qbcb _ _ _
 ·intro n i hlt
  obtain⟨f,hf⟩:∃ f,l[i]?=some f:=⟨l[i],List.getElem?_eq_getElem hlt⟩
  have hb:=hl.2 f (List.mem_of_getElem? hf)
  have hbl:=hb.2.1.1
  have inner:∀ (bl:Cell→Int→Option Res) (k m:Nat),qvi k m bl (l.length+1048577+1) (encL 4 MPack.enc l) i 0=cond (f.Uses.all (qypb l f.Name)) (bl (encL 4 MPack.enc l) ((i+1:Nat):Int)) (some ([.one (Cell.bool false)],[])):=by
   intro bl k m
   rw[qdo f.Uses (fun n j=>qvi k m bl n (encL 4 MPack.enc l) i j) (qypb l f.Name) (bl (encL 4 MPack.enc l) ((i+1:Nat):Int)) (some ([.one (Cell.bool false)],[])) ?_ ?_ _ (by omega)]
   ·intro n j x hx hjl
    simp only[qvi,qaj,hf,hx,MPack.enc,eStr,qbr,Nat.zero_add,c_fec l (by omega) x,EV0]
    rw[decide_eq_true (by omega),cond_true,qae (by omega)]
    unfold qypb
    cases decide (idxF (fun p:MPack=>p.Name==x) l 0 < 0)<;>cases x==f.Name<;>rfl
   ·intro n
    simp only[qvi,qaj,hf,MPack.enc,qbr,Nat.zero_add,EV0]
    rw[decide_eq_false (by omega),cond_false,qae (by omega)]
  simp only[qxz,qaf,qaj,hf,MPack.enc,qbr,Nat.zero_add,c_feg f hb,inner,EV0]
  rw[decide_eq_true (by omega),cond_true]
  unfold qpkb
  rw[hf]
  simp only
  cases i with
  | zero=>
   rw[qhw hf,decide_eq_false (p:=((0:Nat):Int) > 0) (by omega)]
   cases qmv f<;>cases f.Uses.all (qypb l f.Name)<;>rfl
  | succ i=>
   obtain⟨g,hg⟩:∃ g,l[i]?=some g:=⟨l[i],List.getElem?_eq_getElem (by omega)⟩
   rw[qhr hf hg,decide_eq_true (p:=((i+1:Nat):Int) > 0) (by omega),qcp (by omega)]
   simp only[qaj,hf,hg,MPack.enc,qbr,Nat.zero_add,qcmc,EV0]
   cases qmv f<;>cases f.Uses.all (qypb l f.Name)<;>cases lt g.Name f.Name<;>rfl
 ·intro n
  simp only[qxz,qaf,EV0]
  rw[decide_eq_false (by omega),cond_false,show decide ((l.length:Int)≤6)=decide (l.length≤6) from n_le l.length 6]
theorem c_fah (l:List MPack)(hl:bdL 1048576 (MPack.Bd 1048576) l):out qym [.one (encL 4 MPack.enc l)]=some [.one (Cell.bool (qcs l))]:=by
 have hM:=qag
 have hxl:=hl.1
 refine qaw (H:=[]) (qwxb (l.length+1048577) ?_)
 unfold qcs
 simp only[fah,qaf,Option.bind_some]
 rw[qee l.length (fun n i=>qcvb (l.length+1048577+1) (l.length+1048577+1) n (encL 4 MPack.enc l) (encL 4 MPack.enc l) l.length i) (qpkb l) (some ([.one (Cell.bool (decide (l.length≤6)))],[])) (some ([.one (Cell.bool false)],[])) ?_ ?_ _ (by omega)]
 ·exact qbcb _ _ _
 ·intro n i hlt
  obtain⟨f,hf⟩:∃ f,l[i]?=some f:=⟨l[i],List.getElem?_eq_getElem hlt⟩
  have hb:=hl.2 f (List.mem_of_getElem? hf)
  have hbl:=hb.2.1.1
  have inner:∀ (bl:Cell→Cell→Int→Int→Option Res) (k m:Nat),qve k m bl (l.length+1048577+1) (encL 4 MPack.enc l) (encL 4 MPack.enc l) l.length i (qay f.Uses) f.Uses.length 0 (bs f.Name) (qay f.Uses) (encL 2 MNeed.enc f.Needs) (encL 2 MCmd.enc f.Cmds)=cond (f.Uses.all (qypb l f.Name)) (bl (encL 4 MPack.enc l) (encL 4 MPack.enc l) l.length ((i+1:Nat):Int)) (some ([.one (Cell.bool false)],[])):=by
   intro bl k m
   rw[qdo f.Uses (fun n j=>qve k m bl n (encL 4 MPack.enc l) (encL 4 MPack.enc l) l.length i (qay f.Uses) f.Uses.length j (bs f.Name) (qay f.Uses) (encL 2 MNeed.enc f.Needs) (encL 2 MCmd.enc f.Cmds)) (qypb l f.Name) (bl (encL 4 MPack.enc l) (encL 4 MPack.enc l) l.length ((i+1:Nat):Int)) (some ([.one (Cell.bool false)],[])) ?_ ?_ _ (by omega)]
   ·intro n j x hx hjl
    simp only[qve,qaj,hx,eStr,qdde l (by omega) x,EV0]
    rw[decide_eq_true (by omega),cond_true,qae (by omega)]
    unfold qypb
    cases decide (idxF (fun p:MPack=>p.Name==x) l 0 < 0)<;>cases x==f.Name<;>rfl
   ·intro n
    simp only[qve]
    rw[decide_eq_false (by omega),cond_false,qae (by omega)]
  simp only[qcvb,qaf,qaj,hf,MPack.enc,Nat.zero_add,c_fag f hb,EV0]
  rw[decide_eq_true (by omega),cond_true]
  unfold qpkb
  rw[hf]
  simp only
  cases i with
  | zero=>
   rw[qhw hf,decide_eq_false (p:=((0:Nat):Int) > 0) (by omega)]
   simp only[cond_false,inner]
   cases qmv f<;>cases f.Uses.all (qypb l f.Name)<;>rfl
  | succ i=>
   obtain⟨g,hg⟩:∃ g,l[i]?=some g:=⟨l[i],List.getElem?_eq_getElem (by omega)⟩
   rw[qhr hf hg,decide_eq_true (p:=((i+1:Nat):Int) > 0) (by omega),qcp (by omega)]
   simp only[qaj,hf,hg,MPack.enc,qbr,Nat.zero_add,qcmc,qhob,inner,EV0]
   cases qmv f<;>cases f.Uses.all (qypb l f.Name)<;>cases lt g.Name f.Name<;>rfl
 ·intro n
  simp only[qcvb,qaf,EV0]
  rw[decide_eq_false (by omega),cond_false,show decide ((l.length:Int)≤6)=decide (l.length≤6) from n_le l.length 6]
def nm2 (x:Str×Str):Str:=qbn x.1 x.2
def qcpc (x:Str×Str):List Cell:=[Cell.str (bs x.1),Cell.str (bs x.2)]
instance:CanonE qcpc:=⟨fun _=>.cons inferInstance (.cons inferInstance .nil)⟩
def qqi (l:List MPack)(p:Str):List Str:=match l.find? (fun q=>q.Name==p) with
 | some q=>q.Uses
 | none=>[]
def qix (l:List MPack)(p on:Str):List (Str×Str):=if 35∈on then [(ahead 35 on,behind 35 on)] else if ([94]:Str).isPrefixOf on then (qqi l p).map fun u=>(u,qka [94] on) else [(p,qka [94] on)]
def qbx (l:List MPack)(x:Str×Str):Bool:=(qecb l x.1 x.2).isSome
def qsab (l:List MPack)(rules:List MRule)(p t:Str):List Str:=qbs ((((qbi rules t).1.On.flatMap (qix l p)).filter fun x=>!(x==(p,t))&&qbx l x).map nm2)
def qdf (l:List MPack)(rules:List MRule)(s:Str):List Str:=qsab l rules (qat s).1 (qat s).2.1
def qdd (l:List MPack)(s:Str):Bool:=(qat s).2.2&&qbx l ((qat s).1,(qat s).2.1)
theorem qnub {α:Type}{l:List α}{key:α→Str}{good:α→Bool}(h:(List.range l.length).all (keyI l key good)=true){x:α}(hx:x∈l):good x=true:=by
 obtain⟨i,hi⟩:=List.getElem?_of_mem hx
 have h1:=List.all_eq_true.1 h i (List.mem_range.2 (List.getElem?_eq_some_iff.1 hi).1)
 unfold keyI at h1
 rw[hi] at h1
 simp only[Bool.and_eq_true] at h1
 exact h1.1
theorem qvr {l:List MPack}(h:qcs l=true){q:MPack}(hq:q∈l):qmv q=true:=by
 simp only[qcs,Bool.and_eq_true] at h
 refine qnub (key:=(·.Name)) (List.all_eq_true.2 fun i hi=>?_) hq
 have:=List.all_eq_true.1 h.1 i hi
 simp only[qpkb,Bool.and_eq_true] at this
 exact this.1
theorem qeuc {l:List MPack}(h:qcs l=true):l.length≤6:=by
 simp only[qcs,Bool.and_eq_true,decide_eq_true_eq] at h
 exact h.2
theorem qkc {q:MPack}(h:qmv q=true):qax q.Name=true∧(∀ u∈q.Uses,qax u=true)∧q.Uses.length≤4∧(∀ c∈q.Cmds,qax c.Task=true)∧q.Cmds.length≤4:=by
 simp only[qmv,Bool.and_eq_true,decide_eq_true_eq,qqjb] at h
 refine⟨h.2.1,fun u hu=>List.all_eq_true.1 h.2.2.1.1 u hu,h.2.2.1.2,fun c hc=>?_,h.1.2⟩
 have:=qnub h.1.1 hc
 simp only[qzmb,Bool.and_eq_true] at this
 exact this.2.1
theorem qvib {l:List MPack}{a b:Str}(h:qbx l (a,b)=true):∃ q∈l,q.Name=a∧∃ c∈q.Cmds,c.Task=b:=by
 obtain⟨c,hc⟩:=Option.isSome_iff_exists.1 h
 simp only[qecb,Option.bind_eq_some_iff] at hc
 obtain⟨q,h1,h2⟩:=hc
 exact⟨q,List.mem_of_find?_eq_some h1,by simpa using List.find?_some h1,c,List.mem_of_find?_eq_some h2,by simpa using List.find?_some h2⟩
theorem quk {l:List MPack}(h:qcs l=true){a b:Str}(ht:qbx l (a,b)=true):qax a=true∧qax b=true:=by
 obtain⟨q,hq,rfl,c,hc,rfl⟩:=qvib ht
 have:=qkc (qvr h hq)
 exact⟨this.1,this.2.2.2.1 c hc⟩
theorem qoyd {l:List MPack}(h:qcs l=true)(p:Str):(qqi l p).length≤4∧∀ u∈qqi l p,qax u=true:=by
 unfold qqi
 split
 ·rename_i q hq
  have:=qkc (qvr h (List.mem_of_find?_eq_some hq))
  exact⟨this.2.2.1,this.2.1⟩
 ·simp
theorem qzvb {a:Str}(h:(35:UInt8)∉a)(b:Str):ahead 35 (qbn a b)=a∧behind 35 (qbn a b)=b:=by
 unfold qbn
 induction a with
 | nil=>simp[ahead,behind]
 | cons x a ih=>
  simp only[List.mem_cons,not_or] at h
  have h1:(x != 35)=true:=by simpa using Ne.symm h.1
  obtain⟨i1,i2⟩:=ih h.2
  simp only[ahead,behind,List.cons_append,List.takeWhile_cons,List.dropWhile_cons,h1,if_true] at i1 i2 ⊢
  exact⟨by rw[i1],i2⟩
theorem qlb {a b:Str}(ha:qax a=true)(hb:qax b=true):qat (qbn a b)=(a,b,true):=by
 obtain⟨h1,h2⟩:=qzvb (qct ha).1 b
 simp[qat,h1,h2,ha,hb]
theorem qzub {s:Str}(h:(35:UInt8)∈s):qbn (ahead 35 s) (behind 35 s)=s:=by
 unfold qbn
 induction s with
 | nil=>simp at h
 | cons x s ih=>
  by_cases e:x=35
  ·subst e;simp[ahead,behind]
  ·have h1:(x != 35)=true:=by simpa using e
   have h2:(35:UInt8)∈s:=by
    rcases List.mem_cons.1 h with h | h
    ·exact absurd h.symm e
    ·exact h
   have:=ih h2
   simp only[ahead,behind,List.cons_append,List.takeWhile_cons,List.dropWhile_cons,h1,if_true] at this ⊢
   rw[this]
theorem qvq {s:Str}(h:(qat s).2.2=true):qbn (qat s).1 (qat s).2.1=s∧qax (qat s).1=true∧qax (qat s).2.1=true:=by
 unfold qat at h ⊢
 split at h
 ·rename_i h1
  rw[if_pos h1]
  simp only[Bool.and_eq_true] at h1
  refine⟨?_,h1.1,h1.2⟩
  by_cases hm:(35:UInt8)∈s
  ·exact qzub hm
  ·rw[qga hm,qkq] at h1
   simp at h1
 ·simp at h
theorem qzlb {l:List MPack}(h:qcs l=true){x:Str×Str}(hx:qbx l x=true):qdd l (nm2 x)=true:=by
 obtain⟨a,b⟩:=x
 obtain⟨h1,h2⟩:=quk h hx
 simp only[qdd,nm2,qlb h1 h2,hx,Bool.and_self]
theorem qhu {l:List MPack}(h:qcs l=true)(rules:List MRule)(p t:Str):∀ y∈qsab l rules p t,qdd l y=true:=by
 intro y hy
 have hy:=((qbz _).2 y).1 hy
 obtain⟨x,hx,rfl⟩:=List.mem_map.1 hy
 have:=(List.mem_filter.1 hx).2
 simp only[Bool.and_eq_true] at this
 exact qzlb h this.2
theorem qhkd {l:List MRule}(h:qfg l=true){r:MRule}(hr:r∈l):qlj r=true:=by
 simp only[qfg,Bool.and_eq_true] at h
 obtain⟨i,hi⟩:=List.getElem?_of_mem hr
 have h1:=List.all_eq_true.1 h.1 i (List.mem_range.2 (List.getElem?_eq_some_iff.1 hi).1)
 unfold qudc at h1
 rw[hi] at h1
 simp only[Bool.and_eq_true] at h1
 exact h1.1
theorem on_at {l:List MRule}(h:qfg l=true)(t:Str):(qbi l t).1.On.length≤4∧∀ o∈(qbi l t).1.On,onOk o=true:=by
 unfold qbi
 split
 ·rename_i r hr
  have:=qhkd h (List.mem_of_find?_eq_some hr)
  simp only[qlj,Bool.and_eq_true,decide_eq_true_eq] at this
  exact⟨this.2.2.2.1,fun o ho=>List.all_eq_true.1 this.1 o ho⟩
 ·simp
theorem qubb {l:List MPack}(h:qcs l=true)(p on:Str):(qix l p on).length≤4:=by
 have:=(qoyd h p).1
 unfold qix
 split
 ·simp
 ·split
  ·simpa using this
  ·simp
theorem qlmd {on:Str}(h:onOk on=true):(∃ n,on=94::n∧qax n=true)∨(qax on=true)∨(∃ a b,qax a=true∧qax b=true∧on=qbn a b):=by
 unfold onOk at h
 split at h
 ·rename_i hm
  simp only[Bool.and_eq_true] at h
  exact .inr (.inr ⟨_,_,h.1,h.2,(qzub hm).symm⟩)
 ·unfold qka at h
  split at h
  ·rename_i hp
   cases on with
   | nil=>simp at hp
   | cons x n=>
    simp only[List.isPrefixOf,Bool.and_true,beq_iff_eq] at hp
    subst hp
    exact .inl ⟨n,rfl,by simpa using h⟩
  ·exact .inr (.inl h)
theorem qulb (l:List MPack)(p:Str){n:Str}(h:qax n=true):qix l p (94::n)=(qqi l p).map fun u=>(u,n):=by
 have h1:(35:UInt8)∉(94::n:Str):=by
  simp only[List.mem_cons,not_or]
  exact⟨by decide,(qct h).1⟩
 unfold qix
 rw[if_neg h1,if_pos (by simp[List.isPrefixOf])]
 simp[qka,List.isPrefixOf]
theorem told_plain (l:List MPack)(p:Str){on:Str}(h:qax on=true):qix l p on=[(p,on)]:=by
 have h2:([94]:Str).isPrefixOf on=false:=by
  cases on with
  | nil=>rfl
  | cons x r=>
   have:=(qct h).2
   simp only[List.mem_cons,not_or] at this
   simpa[List.isPrefixOf] using this.1
 unfold qix
 rw[if_neg (qct h).1,h2]
 simp[qka,h2]
theorem qgac (l:List MPack)(p:Str){a b:Str}(ha:qax a=true):qix l p (qbn a b)=[(a,b)]:=by
 obtain⟨h1,h2⟩:=qzvb (qct ha).1 b
 unfold qix
 rw[if_pos (by unfold qbn;simp),h1,h2]
theorem qfi {s:Str}(h:qax s=true):1≤s.length∧s.length≤10:=by
 simp only[qax,inR,Bool.and_eq_true,decide_eq_true_eq] at h
 omega
theorem qvf {α:Type}(f:Bool)(sz:Nat)(e:α→List Cell)[CanonE e](xs:List α)(H:List Entry):qao false H (.one (.lst f sz (xs.map e)))=some (.one (encL sz e xs)):=by
 have h:=(inferInstance:Canon (encL sz e xs)).nrm
 have e1:norm (.lst f sz (xs.map e))=norm (encL sz e xs):=by simp only[encL,norm]
 show((some (norm (.lst f sz (xs.map e)))).map AV.one)=_
 rw[e1,h]
 rfl
theorem qth {l:List MPack}{p:Str}{q:MPack}(h:l.find? (fun q=>q.Name==p)=some q):qqi l p=q.Uses:=by
 unfold qqi
 rw[h]
theorem qub {l:List MPack}{p:Str}(h:l.find? (fun q=>q.Name==p)=none):qqi l p=[]:=by
 unfold qqi
 rw[h]
theorem c_fbt (l:List MPack)(hl:bdL 1048576 (MPack.Bd 1048576) l)(p on:Str)(ho:on.length≤1048576):
  outL qcpb [.one (encL 4 MPack.enc l),.one (Cell.str (bs p)),.one (Cell.str (bs on))]=some [.one (encL 2 qcpc (qix l p on))]:=by
 have hM:=qag
 have hxl:=hl.1
 have e1:=qdpe on 35 (by omega)
 by_cases h1:(35:UInt8)∈on
 ·have hm:qix l p on=[(ahead 35 on,behind 35 on)]:=if_pos h1
  rw[cutV,if_pos h1] at e1
  rw[hm]
  refine qbf (H:=[]) (xs:=[.one (.lst true 2 [[Cell.str (bs (ahead 35 on)),Cell.str (bs (behind 35 on))]])]) (qld 0 ?_) (qbt (qvf true 2 qcpc [(ahead 35 on,behind 35 on)] _) (qbh _))
  simp only[fbt,e1,EV0]
 rw[cutV,if_neg h1] at e1
 have e2:=c_fge on [94]
 by_cases h2:([94]:Str).isPrefixOf on=true
 rotate_left
 ·have h2:([94]:Str).isPrefixOf on=false:=Bool.eq_false_iff.2 h2
  have hm:qix l p on=[(p,qka [94] on)]:=by rw[qix,if_neg h1,h2];rfl
  rw[h2] at e2
  rw[hm]
  refine qbf (H:=[]) (xs:=[.one (.lst true 2 [[Cell.str (bs p),Cell.str (bs (qka [94] on))]])]) (qld 0 ?_) (qbt (qvf true 2 qcpc [(p,qka [94] on)] _) (qbh _))
  simp only[fbt,e1,e2,Bool.not_false,EV0]
 have hm:qix l p on=(qqi l p).map fun u=>(u,qka [94] on):=by rw[qix,if_neg h1,if_pos h2]
 rw[h2] at e2
 rw[hm]
 have e3:=qdde l (by omega) p
 rcases qkn (fun q:MPack=>q.Name==p) l 0 with⟨f1,f2⟩ | ⟨j,x,f1,f2,f3⟩
 ·rw[qub f2]
  refine qbf (H:=[]) (xs:=[.one (.lst true 2 [])]) (qld 0 ?_) rfl
  simp only[fbt,e1,e2,e3,f1,Bool.not_true,EV0]
  rfl
 ·rw[qth f3]
  have hb:=hl.2 x (List.mem_of_getElem? f2)
  have hul:=hb.2.1.1
  have loop:∀ (r:List Str) (i n:Nat) (acc:List (Str×Str)) (c:Cell) (H:List Entry),x.Uses.drop i=r→r.length < n→acc.length≤i→Grow 2 c H (acc.map qcpc)→∀ k m,
    ∃ c' H',qhib k m n (bs (qka [94] on)) c (qay x.Uses) x.Uses.length i H=some ([.one c'],H')∧Grow 2 c' H' ((acc++r.map fun u=>(u,qka [94] on)).map qcpc):=by
   intro r
   induction r with
   | nil=>
    intro i n acc c H hd hn ha hg k m
    obtain⟨n,rfl⟩:∃ j,n=j+1:=⟨n - 1,by omega⟩
    have:=drop_nil hd
    refine⟨c,H,?_,by simpa using hg⟩
    simp only[qhib]
    rw[decide_eq_false (by omega),cond_false]
   | cons u r ih=>
    intro i n acc c H hd hn ha hg k m
    obtain⟨n,rfl⟩:∃ j,n=j+1:=⟨n - 1,by omega⟩
    obtain⟨hlt,hx,hd'⟩:=qal hd
    simp only[List.length_cons] at hn
    obtain⟨q,a1,a2⟩:=hg.app (by':=32) [qcpc (u,qka [94] on)] (by unfold bound;simp;omega) (by unfold bound;simp;omega)
    obtain⟨c',H',z1,z2⟩:=ih (i+1) n (acc++[(u,qka [94] on)]) q.1 q.2 hd' (by omega) (by simp;omega) (by simpa using a2) k m
    refine⟨c',H',?_,by simpa using z2⟩
    simp only[qcpc] at a1
    simp only[qhib]
    rw[decide_eq_true (by omega),cond_true]
    simp only[qaj,hx,eStr,a1,qae (show i < maxLen by omega),EV0]
    exact z1
  obtain⟨c',H',z1,z2⟩:=loop x.Uses 0 (x.Uses.length+1+1) [] (.lst true 2 []) [] rfl (by omega) (by simp) (Grow.nil 2) (x.Uses.length+1+1) (x.Uses.length+1+1)
  refine qbf (H:=H') (qld (x.Uses.length+1) ?_) (by simpa using z2.read)
  simp only[fbt,e1,e2,e3,f1,Bool.not_true,Nat.zero_add,EV0]
  rw[decide_eq_true (by omega),cond_true]
  simp only[qaj,f2,MPack.enc,qbr,Nat.zero_add,EV0]
  exact z1
theorem c_fbb (l:List MPack)(hl:bdL 1048576 (MPack.Bd 1048576) l)(p t:Str):out qdab [.one (encL 4 MPack.enc l),.one (Cell.str (bs p)),.one (Cell.str (bs t))]=some [.one (Cell.bool (qbx l (p,t)))]:=by
 have hM:=qag
 have hxl:=hl.1
 have e0:=qdde l (by omega) p
 unfold qbx qecb
 rcases qkn (fun q:MPack=>q.Name==p) l 0 with⟨h1,h2⟩ | ⟨j,x,h1,h2,h3⟩
 ·rw[h2]
  refine qaw (H:=[]) (qzf 0 ?_)
  simp only[fbb,e0,h1,EV0]
  rfl
 ·have hb:=hl.2 x (List.mem_of_getElem? h2)
  have hcl:=hb.2.2.2.1
  rw[h3,Option.bind_some]
  have loop:∀ (r:List MCmd) (i n:Nat),x.Cmds.drop i=r→r.length < n→∀ k m,qhnb k m n (bs t) (encL 2 MCmd.enc x.Cmds) x.Cmds.length i=some ([.one (Cell.bool (r.find? fun c=>c.Task==t).isSome)],[]):=by
   intro r
   induction r with
   | nil=>
    intro i n hd hn k m
    obtain⟨n,rfl⟩:∃ j,n=j+1:=⟨n - 1,by omega⟩
    have:=drop_nil hd
    simp only[qhnb]
    rw[decide_eq_false (by omega),cond_false]
    rfl
   | cons c r ih=>
    intro i n hd hn k m
    obtain⟨n,rfl⟩:∃ j,n=j+1:=⟨n - 1,by omega⟩
    obtain⟨hlt,hg,hd'⟩:=qal hd
    simp only[List.length_cons] at hn
    simp only[qhnb]
    rw[decide_eq_true (by omega),cond_true]
    simp only[qaj,hg,MCmd.enc,Nat.zero_add,qae (show i < maxLen by omega),List.find?_cons,EV0]
    cases hc:c.Task==t with
    | true=>rfl
    | false=>exact ih (i+1) n hd' (by omega) k m
  have z1:=loop x.Cmds 0 (x.Cmds.length+1+1) rfl (by omega) (x.Cmds.length+1+1) (x.Cmds.length+1+1)
  refine qaw (H:=[]) (qzf (x.Cmds.length+1) ?_)
  simp only[fbb,e0,h1,Nat.zero_add,EV0]
  rw[decide_eq_false (by omega),cond_false]
  simp only[qaj,h2,MPack.enc,qbr,Nat.zero_add,EV0]
  exact z1
theorem c_fbj (l:List MPack)(hl:bdL 1048576 (MPack.Bd 1048576) l)(s:Str)(hs:s.length≤1073741824):out qzb [.one (encL 4 MPack.enc l),.one (Cell.str (bs s))]=some [.one (Cell.bool (qdd l s))]:=by
 refine qaw (H:=[]) (qvcb 0 ?_)
 have e2:=c_fax l hl (qat s).1 (qat s).2.1
 simp only[fbj,c_fak s hs,qdc,e2,EV0]
 unfold qdd qbx
 cases (qat s).2.2
 ·rfl
 ·rw[Bool.not_true,cond_false]
  simp only
  cases qecb l (qat s).1 (qat s).2.1<;>simp only[cmdV,EV0]<;>rfl
theorem qcwc (l:List MPack)(rules:List MRule)(p t:Str):qsab l rules p t=qbs ((((qbi rules t).1.On.flatMap (qix l p)).filter fun x=>!(x==(p,t))&&qbx l x).map nm2):=rfl
theorem qyrb {l:List MPack}(hl:bdL 1048576 (MPack.Bd 1048576) l){p on:Str}(hp:p.length≤1048576)(ho:on.length≤1048576):∀ x∈qix l p on,x.1.length≤1048576∧x.2.length≤1048576:=by
 have ht:(qka [94] on).length≤1048576:=by
  unfold qka
  split
  ·rw[List.length_drop];omega
  ·exact ho
 intro x hx
 unfold qix at hx
 split at hx
 ·simp only[List.mem_singleton] at hx
  subst hx
  have:=qhh 35 on
  have:(behind 35 on).length≤on.length:=by
   unfold behind
   rw[List.length_drop]
   have:=(List.dropWhile_sublist (l:=on) (fun b:UInt8=>b != 35)).length_le
   omega
  exact⟨by simp only;omega,by simp only;omega⟩
 ·split at hx
  ·obtain⟨u,hu,rfl⟩:=List.mem_map.1 hx
   refine⟨?_,ht⟩
   unfold qqi at hu
   split at hu
   ·rename_i q hq
    exact(hl.2 q (List.mem_of_find?_eq_some hq)).2.1.2 u hu
   ·simp at hu
  ·simp only[List.mem_singleton] at hx
   subst hx
   exact⟨hp,ht⟩
def wOk (l:List MPack)(p t:Str)(x:Str×Str):Bool:=!(x==(p,t))&&qbx l x
theorem f_fau (l:List MPack)(hl:bdL 1048576 (MPack.Bd 1048576) l)(rules:List MRule)(hr:bdL 1048576 (MRule.Bd 1048576) rules)(hP:qcs l=true)(hR:qfg rules=true)(p t:Str)(hp:p.length≤1048576)(ht:bdS 1048576 t):
  Fresh qcgb true 2 [.one (encL 4 MPack.enc l),.one (encL 5 MRule.enc rules),.one (Cell.str (bs p)),.one (Cell.str (bs t))] [.one (trL 1 qcx (qsab l rules p t))]:=by
 have hM:=qag
 have ht':t.length≤1048576:=ht
 obtain⟨cs,E,ids,e1,r1,w1,_⟩:=qtm (f_fap rules hr t ht) ([]:List Entry) (qam [.one (encL 5 MRule.enc rules),.one (Cell.str (bs t))] _ _)
 obtain⟨c1,c2,c3,rfl⟩:=MRule.open r1
 obtain⟨o1,o2⟩:=on_at hR t
 have hob:=(qtkb rules hr t ht).2.1.2
 simp only[MRule.tr] at r1
 obtain⟨ia,ib,a,as1,hid,hcs,q1,q2⟩:=r1.cons_inv
 simp only[List.cons.injEq] at hcs
 obtain⟨rfl,rfl⟩:=hcs
 obtain⟨ic,id',a2,as2,hid2,hcs2,q3,q4⟩:=q2.cons_inv
 simp only[List.cons.injEq] at hcs2
 obtain⟨rfl,rfl⟩:=hcs2
 generalize ([]:List Entry)++E=A at e1 q3
 have hOn:=qfo.of (n:=2) q3
 have hic:∀ j∈ic,j < A.length:=q3.lt
 clear r1 q1 q2 q4 w1
 rw[qcwc]
 generalize hO:(qbi rules t).1.On=O at*
 have inner:∀ (T:List (Str×Str)),T.length≤4→(∀ x∈T,x.1.length≤1048576∧x.2.length≤1048576)→∀ (r:List (Str×Str)) (j n:Nat) (acc:List Str) (c:Cell) (H:List Entry) (i1:List Nat),T.drop j=r→r.length < n→RM A.length H i1 [] c (.lst true 1 []) acc []→A.length≤H.length→acc.length+r.length≤1048576→
   ∀ (b0:Cell→ByteArray→ByteArray→Cell→Cell→Int→Int→List Entry→Option Res) (cOn:Cell) (a i:Int) k m,
   ∃ c' H' i1',quy k m b0 n (encL 4 MPack.enc l) (bs p) (bs t) c cOn a i (encL 2 qcpc T) T.length j H=b0 (encL 4 MPack.enc l) (bs p) (bs t) c' cOn a (IntKind.i64.wrap (i+1)) H'∧RM A.length H' i1' [] c' (.lst true 1 []) (acc++(r.filter (wOk l p t)).map nm2) []∧H.length≤H'.length∧∀ j,j < A.length→H'[j]?=H[j]?:=by
  intro T hT hTb r
  induction r with
  | nil=>
   intro j n acc c H i1 hd hn hm hN hb b0 cOn a i k m
   obtain⟨n,rfl⟩:∃ j,n=j+1:=⟨n - 1,by omega⟩
   have:=drop_nil hd
   refine⟨c,H,i1,?_,by simpa using hm,Nat.le_refl _,fun _ _=>rfl⟩
   simp only[quy]
   rw[decide_eq_false (by omega),cond_false]
  | cons x r ih=>
   intro j n acc c H i1 hd hn hm hN hb b0 cOn a i k m
   obtain⟨n,rfl⟩:∃ j,n=j+1:=⟨n - 1,by omega⟩
   obtain⟨hlt,hx,hd'⟩:=qal hd
   simp only[List.length_cons] at hn hb
   obtain⟨x1,x2⟩:=x
   obtain⟨b1,b2⟩:=hTb _ (List.mem_of_getElem? hx)
   simp only at b1 b2
   simp only[quy]
   rw[decide_eq_true (by omega),cond_true]
   simp only[qaj,hx,qcpc,Nat.zero_add,qde,qrdb,c_fbb l hl x1 x2,qae (show j < maxLen by omega),EV0]
   rw[List.filter_cons]
   have hok:wOk l p t (x1,x2)=(!(x1==p&&x2==t)&&qbx l (x1,x2)):=rfl
   rw[hok]
   cases h1:(x1==p&&x2==t) with
   | true=>
    simp only[Bool.not_true,cond_false,Bool.false_and,Bool.false_eq_true,if_false]
    exact ih (j+1) n acc c H i1 hd' (by omega) hm hN (by omega) b0 cOn a i k m
   | false=>
    simp only[Bool.not_false,cond_true,Bool.true_and]
    cases h2:qbx l (x1,x2) with
    | false=>
     simp only[cond_false,Bool.false_eq_true,if_false]
     exact ih (j+1) n acc c H i1 hd' (by omega) hm hN (by omega) b0 cOn a i k m
    | true=>
     have k1:catS (bs x1) (bs [35])=some (bs (x1++[35])):=qfe (by simp;omega)
     have k2:catS (bs (x1++[35])) (bs x2)=some (bs (qbn x1 x2)):=qfe (by simp;omega)
     obtain⟨q,j1,a1,hm',m1,f1,g1⟩:=hm.app1 hN [qbn x1 x2] (by unfold bound;simp;omega)
     simp only[List.map_cons,List.map_nil,eStr] at a1
     obtain⟨c',H',i1',z1,z2,z3,z4⟩:=ih (j+1) n (acc++[qbn x1 x2]) q.1 q.2 j1 hd' (by omega) hm' (by omega) (by simp;omega) b0 cOn a i k m
     refine⟨c',H',i1',?_,by simpa[nm2] using z2,by omega,fun j hj=>?_⟩
     ·simp only[cond_true,k1,k2,a1,EV0]
      exact z1
     ·rw[z4 j hj,f1 j (by omega) fun h=>by have:=hm.2.2.2.2.2.2.2.1 j h;omega]
 have outer:∀ (r:List Str) (i n:Nat) (acc:List Str) (c:Cell) (H:List Entry) (i1:List Nat),O.drop i=r→r.length < n→RM A.length H i1 [] c (.lst true 1 []) acc []→A.length≤H.length→(∀ j,j < A.length→H[j]?=A[j]?)→acc.length+4*r.length≤16→∀ k m,5≤m→
   ∃ c' H' is,qdgb k m n (encL 4 MPack.enc l) (bs p) (bs t) c c1 O.length i H=some ([.one c'],H')∧Rep H' true true 2 is c' (trL 1 qcx (qbs (acc++((r.flatMap (qix l p)).filter (wOk l p t)).map nm2)))∧is.Nodup:=by
  intro r
  induction r with
  | nil=>
   intro i n acc c H i1 hd hn hm hN hA hb k m hk
   obtain⟨n,rfl⟩:∃ j,n=j+1:=⟨n - 1,by omega⟩
   have:=drop_nil hd
   obtain⟨c',E,is,e3,r3,w3,_⟩:=qcz (f_far acc (by omega)) H (qbt (qfo.of (n:=2) hm.1).read (qbh _))
   refine⟨c',H++E,is,?_,by simpa using r3,w3.nd⟩
   simp only[qdgb]
   rw[decide_eq_false (by omega),cond_false]
   simp only[e3,EV0]
  | cons x r ih=>
   intro i n acc c H i1 hd hn hm hN hA hb k m hk
   obtain⟨n,rfl⟩:∃ j,n=j+1:=⟨n - 1,by omega⟩
   obtain⟨hlt,hx,hd'⟩:=qal hd
   simp only[List.length_cons] at hn hb
   have hxb:x.length≤1048576:=hob x (List.mem_of_getElem? hx)
   have htl:=qubb hP p x
   obtain⟨a1,row,off,t1,t2,t3⟩:=(hOn.frame (H':=H) fun j hj=>hA j (hic j hj)).at hx
   have e4:=c_fbt l hl p x hxb
   obtain⟨c',H',i1',z1,z2,z3,z4⟩:=inner (qix l p x) htl (qyrb hl hp hxb) (qix l p x) 0 m acc c H i1 rfl (by omega) hm hN (by omega) (qdgb k m n) c1 O.length i k m
   have hfl:=List.length_filter_le (wOk l p t) (qix l p x)
   obtain⟨c2,H2,is,y1,y2,y3⟩:=ih (i+1) n (acc++((qix l p x).filter (wOk l p t)).map nm2) c' H' i1' hd' (by omega) z2 (by omega) (fun j hj=>by rw[z4 j hj,hA j hj]) (by simp;omega) k m hk
   refine⟨c2,H2,is,?_,by simpa[List.flatMap_cons,List.filter_append,List.map_append,List.append_assoc] using y2,y3⟩
   simp only[qdgb]
   rw[decide_eq_true (by omega),cond_true]
   simp only[t1,t2,t3,e4,EV0]
   rw[show(0:Int)=((0:Nat):Int) from rfl,z1,qae (by omega)]
   exact y1
 obtain⟨c',H',is,z1,z2,z3⟩:=outer O 0 (O.length+5+1) [] (.lst true 1 []) A [] rfl (by omega) (RM.nil _ _) (Nat.le_refl _) (fun _ _=>rfl) (by simp;omega) (O.length+5+1) (O.length+5+1) (by omega)
 refine Fresh.one (qxkb (O.length+5) ?_) (by rw[List.nil_append] at z2;exact z2) z3
 simp only[fau,e1,hOn.len,EV0]
 exact z1
theorem f_fbv (l:List MPack)(hl:bdL 1048576 (MPack.Bd 1048576) l)(rules:List MRule)(hr:bdL 1048576 (MRule.Bd 1048576) rules)(hP:qcs l=true)(hR:qfg rules=true)(s:Str)(hs:s.length≤1048576):
  Fresh qun true 2 [.one (encL 4 MPack.enc l),.one (encL 5 MRule.enc rules),.one (Cell.str (bs s))] [.one (trL 1 qcx (qdf l rules s))]:=by
 have h1:(qat s).1.length≤1048576∧(qat s).2.1.length≤1048576:=by
  unfold qat
  split
  ·rename_i h
   simp only[Bool.and_eq_true] at h
   have:=qfi h.1
   have:=qfi h.2
   exact⟨by simp only;omega,by simp only;omega⟩
  ·simp
 obtain⟨c',E,is,e3,r3,w3,_⟩:=qcz (f_fau l hl rules hr hP hR (qat s).1 (qat s).2.1 h1.1 h1.2) ([]:List Entry) (qam [.one (encL 4 MPack.enc l),.one (encL 5 MRule.enc rules),.one (Cell.str (bs (qat s).1)),.one (Cell.str (bs (qat s).2.1))] _ _)
 refine Fresh.one (qblc 0 ?_) r3 w3.nd
 simp only[fbv,c_fak s (by omega),qdc,e3,EV0]
def allT (l:List MPack):List Str:=l.flatMap fun q=>q.Cmds.map fun c=>qbn q.Name c.Task
theorem quq {l:List MPack}(h:qcs l=true):(allT l).length≤24:=by
 have key:∀ (l:List MPack),(∀ q∈l,q.Cmds.length≤4)→(allT l).length≤4*l.length:=by
  intro l
  induction l with
  | nil=>intro _;simp[allT]
  | cons q l ih=>
   intro hq
   have h1:=ih fun x hx=>hq x (List.mem_cons_of_mem _ hx)
   have h2:=hq q List.mem_cons_self
   simp only[allT,List.flatMap_cons,List.length_append,List.length_map,List.length_cons] at h1 ⊢
   omega
 have:=key l fun q hq=>(qkc (qvr h hq)).2.2.2.2
 have:=qeuc h
 omega
theorem qgm {l:List MPack}{s:Str}(h:qdd l s=true):s∈allT l:=by
 simp only[qdd,Bool.and_eq_true] at h
 obtain⟨h1,_,_⟩:=qvq h.1
 obtain⟨q,hq,e1,c,hc,e2⟩:=qvib h.2
 refine List.mem_flatMap.2 ⟨q,hq,List.mem_map.2 ⟨c,hc,?_⟩⟩
 rw[e1,e2,h1]
theorem qmw {l:List MPack}{s:Str}(h:qdd l s=true):s.length≤21:=by
 simp only[qdd,Bool.and_eq_true] at h
 obtain⟨h1,h2,h3⟩:=qvq h.1
 have:=qfi h2
 have:=qfi h3
 rw[← h1]
 simp only[qbn,List.length_append,List.length_singleton]
 omega
theorem qldb (l:List MPack):qdd l []=false:=rfl
def nx0 (l:List MPack)(rules:List MRule)(want:List Str)(x:Str):List Str:=if x=[] then want.filter (qdd l) else qdf l rules x
theorem quw {l:List MPack}(hP:qcs l=true)(rules:List MRule)(want:List Str)(x:Str):∀ y∈nx0 l rules want x,qdd l y=true:=by
 intro y hy
 unfold nx0 at hy
 split at hy
 ·exact(List.mem_filter.1 hy).2
 ·exact qhu hP rules _ _ y hy
theorem qft {l:List MPack}(hP:qcs l=true)(rules:List MRule)(want:List Str){x:Str}(h:Reach (nx0 l rules want) [] x):qdd l x=true:=by
 cases h with
 | one h=>exact quw hP rules want _ _ h
 | step _ h=>exact quw hP rules want _ _ h
noncomputable def qbl (l:List MPack)(rules:List MRule)(want:List Str):MPlan×Bool:=if qcs l&&qfg rules then if 16 < (qsp (nx0 l rules want) []).length then (⟨[],[]⟩,false) else (⟨qsp (nx0 l rules want) [],(qsp (nx0 l rules want) []).map (qdf l rules)⟩,true) else (⟨[],[]⟩,false)
theorem qjcb {nx:Str→List Str}{a:Str}{o:List Str}(hn:o.Nodup)(h:∀ x,x∈o↔Reach nx a x):qsp nx a=qbs o∧(qsp nx a).length=o.length:=by
 have e:=qntb h
 refine⟨e,?_⟩
 obtain⟨h1,h2⟩:=qbz o
 rw[e]
 exact Nat.le_antisymm (qgh (qgo h1) fun x hx=>(h2 x).1 hx) (qgh hn fun x hx=>(h2 x).2 hx)
def addS (l:List MPack)(row:List Str)(s:Str):List Str:=cond (row.contains s) row (cond (qdd l s) (row++[s]) row)
theorem qukb (l:List MPack):∀ (ys row:List Str),ys.foldl (addS l) row=row++qgi row (ys.filter (qdd l)):=by
 intro ys
 induction ys with
 | nil=>intro row;simp[qgi]
 | cons y ys ih=>
  intro row
  rw[List.foldl_cons,ih,List.filter_cons]
  unfold addS
  cases h1:row.contains y with
  | true=>
   rw[cond_true]
   cases qdd l y with
   | true=>rw[if_pos rfl];conv=>rhs;rw[qgi,h1,cond_true]
   | false=>rw[if_neg (by simp)]
  | false=>
   rw[cond_false]
   cases qdd l y with
   | true=>
    rw[cond_true,if_pos rfl]
    conv=>rhs;rw[qgi,h1,cond_false]
    rw[List.append_assoc,List.singleton_append]
   | false=>rw[cond_false,if_neg (by simp)]
theorem qbgc (l:List MPack)(row:List Str)(s:Str):(addS l row s).length≤row.length+1:=by
 unfold addS
 cases row.contains s<;>cases qdd l s<;>simp
theorem RM.frameI {N:Nat}{H H':List Entry}{i1 i2:List Nat}{cr cm:Cell}{row more:List Str}(h:RM N H i1 i2 cr cm row more)(k1:∀ j∈i1,H'[j]?=H[j]?)(k2:∀ j∈i2,H'[j]?=H[j]?):RM N H' i1 i2 cr cm row more:=by
 obtain⟨h1,h2,h3⟩:=h
 exact⟨h1.frame k1,h2.frame k2,h3⟩
def PS (l:List MPack)(H:List Entry)(i1:List Nat)(row:List Str):Prop:=∃ cr,H[0]?=some ⟨1,[[encL 4 MPack.enc l]],0,false⟩∧H[1]?=some ⟨1,[[cr]],0,false⟩∧RM 2 H i1 [] cr (.lst true 1 []) row []
theorem PS.len {l:List MPack}{H:List Entry}{i1:List Nat}{row:List Str}(h:PS l H i1 row):2≤H.length:=by
 obtain⟨cr,_,h1,_⟩:=h
 exact(List.getElem?_eq_some_iff.1 h1).1
theorem PS.app {l:List MPack}{H:List Entry}{i1:List Nat}{row:List Str}(h:PS l H i1 row)(E:List Entry):PS l (H++E) i1 row:=by
 have:=h.len
 obtain⟨cr,h0,h1,hm⟩:=h
 exact⟨cr,by rw[List.getElem?_append_left (by omega)];exact h0,by rw[List.getElem?_append_left (by omega)];exact h1,hm.frame fun j hj=>List.getElem?_append_left hj⟩
theorem qmx {l:List MPack}(hP:qcs l=true)(rules:List MRule)(s:Str):(qdf l rules s).length≤24∧∀ y∈qdf l rules s,y.length≤21:=by
 have h:=qhu hP rules (qat s).1 (qat s).2.1
 refine⟨Nat.le_trans (qgh (qgo (qbz _).1) fun y hy=>qgm (h y hy)) (quq hP),fun y hy=>qmw (h y hy)⟩
theorem qzz (l:List MPack)(hl:bdL 1048576 (MPack.Bd 1048576) l){H:List Entry}{i1:List Nat}{row:List Str}(h:PS l H i1 row)(hrow:row.length≤536870912)(s:Str)(hs:s.length≤1048576):
  ∃ H' i1',qts [.one (Cell.str (bs s)),.one (.ptr 1 1 0 0 0),.one (.ptr 0 1 0 0 0)] H=some ([],H')∧PS l H' i1' (addS l row s)∧H.length≤H'.length∧(∀ j,2≤j→j < H.length→j∉i1→H'[j]?=H[j]?)∧∀ j∈i1',j∈i1∨H.length≤j:=by
 have h2:=h.len
 have hh:=h
 obtain⟨cr,h0,h1,hm⟩:=h
 have d0:deref H (.ptr 0 1 0 0 0)=some ([encL 4 MPack.enc l],0):=by simp[deref,entry?,h0]
 have d1:deref H (.ptr 1 1 0 0 0)=some ([cr],0):=by simp[deref,entry?,h1]
 have q1:qar qur [.one cr,.one (Cell.str (bs s))] H=some [.one (Cell.bool (row.contains s))]:=by
  rw[qdn (qbt (qfo.of (n:=2) hm.1).read (qbt (qba _ _ _) (qbh _)))]
  exact c_fdy row s (by omega)
 have q2:=c_fbj l hl s (by omega)
 cases a1:row.contains s with
 | true=>
  rw[a1] at q1
  refine⟨H,i1,qrv 0 ?_,by simp only[addS,a1,cond_true];exact hh,Nat.le_refl _,fun _ _ _ _=>rfl,fun j hj=>.inl hj⟩
  simp only[fao,d1,q1,Bool.not_true,EV0]
 | false=>
  rw[a1] at q1
  cases a2:qdd l s with
  | false=>
   rw[a2] at q2
   refine⟨H,i1,qrv 0 ?_,by simp only[addS,a1,a2,cond_false];exact hh,Nat.le_refl _,fun _ _ _ _=>rfl,fun j hj=>.inl hj⟩
   simp only[fao,d0,d1,q1,q2,Bool.not_false,EV0]
  | true=>
   rw[a2] at q2
   obtain⟨q,j1,e1,hm',m1,f1,g1⟩:=hm.app1 h2 [s] (by unfold bound;simp;omega)
   simp only[List.map_cons,List.map_nil,eStr] at e1
   have hi:∀ j∈i1,2≤j:=hm.2.2.2.2.2.2.2.1
   have hj:∀ j∈j1,2≤j:=hm'.2.2.2.2.2.2.2.1
   have p0:q.2[0]?=some ⟨1,[[encL 4 MPack.enc l]],0,false⟩:=by rw[f1 0 (by omega) fun h=>by have:=hi 0 h;omega];exact h0
   have p1:q.2[1]?=some ⟨1,[[cr]],0,false⟩:=by rw[f1 1 (by omega) fun h=>by have:=hi 1 h;omega];exact h1
   have hst:qca q.2 (.ptr 1 1 0 0 0) [q.1]=some (q.2.set 1 ⟨1,[[q.1]],0,false⟩):=by simp[qca,entry?,p1,splice]
   have hfr:∀ j,j≠1→(q.2.set 1 ⟨1,[[q.1]],0,false⟩)[j]?=q.2[j]?:=fun j hj=>by rw[List.getElem?_set_ne (Ne.symm hj)]
   refine⟨q.2.set 1 ⟨1,[[q.1]],0,false⟩,j1,qrv 0 ?_,⟨q.1,?_,?_,?_⟩,by simpa using m1,fun j hj2 hjl hji=>?_,g1⟩
   ·simp only[fao,d0,d1,q1,q2,e1,hst,Bool.not_false,EV0]
   ·rw[hfr 0 (by omega)];exact p0
   ·rw[List.getElem?_set_self (by omega)]
   ·simp only[addS,a1,a2,cond_false,cond_true]
    exact hm'.frameI (fun j hj'=>hfr j (by have:=hj j hj';omega)) (by simp)
   ·rw[hfr j (by omega),f1 j hjl hji]
theorem f_fan (l:List MPack)(hl:bdL 1048576 (MPack.Bd 1048576) l)(rules:List MRule)(hr:bdL 1048576 (MRule.Bd 1048576) rules)(want:List Str)(hw:bdL 1048576 (bdS 1048576) want):
  Fresh qmn true 3 [.one (encL 4 MPack.enc l),.one (encL 5 MRule.enc rules),.one (qay want)] [.agg (qbl l rules want).1.tr,.one (.leaf (.bool (qbl l rules want).2))]:=by
 have hM:=qag
 have hwl:=hw.1
 have zero:∀ H,qmn [.one (encL 4 MPack.enc l),.one (encL 5 MRule.enc rules),.one (qay want)] []=some ([.agg [.lst true 1 [],.lst true 1 []],.one (Cell.bool false)],H)→qbl l rules want=(⟨[],[]⟩,false)→Fresh qmn true 3 [.one (encL 4 MPack.enc l),.one (encL 5 MRule.enc rules),.one (qay want)] [.agg (qbl l rules want).1.tr,.one (.leaf (.bool (qbl l rules want).2))]:=fun H h1 h2=>by
  rw[h2]
  exact Fresh.agg1 (n:=2) (ids:=[]) h1 (.cons (i:=[]) (is:=[]) (.inl ⟨rfl,rfl,true,rfl⟩) (.cons (i:=[]) (is:=[]) (.inl ⟨rfl,rfl,true,rfl⟩) .nil)) (by simp)
 have e1:=c_fah l hl
 have e2:=c_faq rules hr
 cases hP:qcs l with
 | false=>
  rw[hP] at e1
  refine zero [Entry.mk 1 [[encL 4 MPack.enc l]] 0 false] (qsn 0 ?_) (by simp[qbl,hP])
  simp only[fan,e1,Bool.not_false,EV0]
 | true=>
  rw[hP] at e1
  cases hR:qfg rules with
  | false=>
   rw[hR] at e2
   refine zero [Entry.mk 1 [[encL 4 MPack.enc l]] 0 false] (qsn 0 ?_) (by simp[qbl,hP,hR])
   simp only[fan,e1,e2,Bool.not_false,Bool.not_true,EV0]
  | true=>
   rw[hR] at e2
   have L0:∀ (r:List Str) (i n:Nat) (H:List Entry) (i1:List Nat) (row:List Str),want.drop i=r→r.length < n→PS l H i1 row→row.length+r.length≤536870912→∀ k m,
     ∃ H' i1',qhsb k m n (encL 5 MRule.enc rules) (qay want) want.length i H=qtd k m m (encL 5 MRule.enc rules) 0 H'∧PS l H' i1' (r.foldl (addS l) row):=by
    intro r
    induction r with
    | nil=>
     intro i n H i1 row hd hn hps hb k m
     obtain⟨n,rfl⟩:∃ j,n=j+1:=⟨n - 1,by omega⟩
     have:=drop_nil hd
     refine⟨H,i1,?_,hps⟩
     simp only[qhsb]
     rw[decide_eq_false (by omega),cond_false]
    | cons x r ih=>
     intro i n H i1 row hd hn hps hb k m
     obtain⟨n,rfl⟩:∃ j,n=j+1:=⟨n - 1,by omega⟩
     obtain⟨hlt,hx,hd'⟩:=qal hd
     simp only[List.length_cons] at hn hb
     obtain⟨H1,j1,a1,a2,a3,a4,a5⟩:=qzz l hl hps (by omega) x (hw.2 x (List.mem_of_getElem? hx))
     have:=qbgc l row x
     obtain⟨H',i1',z1,z2⟩:=ih (i+1) n H1 j1 (addS l row x) hd' (by omega) a2 (by omega) k m
     refine⟨H',i1',?_,z2⟩
     simp only[qhsb]
     rw[decide_eq_true (by omega),cond_true]
     simp only[qaj,hx,eStr,a1,qae (show i < maxLen by omega),EV0]
     exact z1
   have L2:∀ (ws:List Str),ws.length≤1048576→(∀ y∈ws,y.length≤1048576)→∀ (r:List Str) (i n:Nat) (H:List Entry) (i1 ds:List Nat) (cw:Cell) (row:List Str),ws.drop i=r→r.length < n→PS l H i1 row→qfo H ds cw ws→(∀ j∈ds,2≤j∧j < H.length∧j∉i1)→row.length+r.length≤536870912→∀ (b1:Cell→Int→List Entry→Option Res) (a:Int) k m,
     ∃ H' i1',qgzb k m b1 n (encL 5 MRule.enc rules) a cw ws.length i H=b1 (encL 5 MRule.enc rules) (IntKind.i64.wrap (a+1)) H'∧PS l H' i1' (r.foldl (addS l) row):=by
    intro ws hws hwb r
    induction r with
    | nil=>
     intro i n H i1 ds cw row hd hn hps hc hds hb b1 a k m
     obtain⟨n,rfl⟩:∃ j,n=j+1:=⟨n - 1,by omega⟩
     have:=drop_nil hd
     refine⟨H,i1,?_,hps⟩
     simp only[qgzb]
     rw[decide_eq_false (by omega),cond_false]
    | cons x r ih=>
     intro i n H i1 ds cw row hd hn hps hc hds hb b1 a k m
     obtain⟨n,rfl⟩:∃ j,n=j+1:=⟨n - 1,by omega⟩
     obtain⟨hlt,hx,hd'⟩:=qal hd
     simp only[List.length_cons] at hn hb
     obtain⟨c1,rw1,off,t1,t2,t3⟩:=hc.at hx
     obtain⟨H1,j1,a1,a2,a3,a4,a5⟩:=qzz l hl hps (by omega) x (hwb x (List.mem_of_getElem? hx))
     have:=qbgc l row x
     obtain⟨H',i1',z1,z2⟩:=ih (i+1) n H1 j1 ds cw (addS l row x) hd' (by omega) a2 (hc.frame fun j hj=>by
      obtain⟨d1,d2,d3⟩:=hds j hj
      exact a4 j d1 d2 d3) (fun j hj=>by
      obtain⟨d1,d2,d3⟩:=hds j hj
      refine⟨d1,by omega,fun h=>?_⟩
      rcases a5 j h with h | h
      ·exact d3 h
      ·omega) (by omega) b1 a k m
     refine⟨H',i1',?_,z2⟩
     simp only[qgzb]
     rw[decide_eq_true (by omega),cond_true]
     simp only[t1,t2,t3,a1,qae (show i < maxLen by omega),EV0]
     exact z1
   have L3:∀ (T:List Str),T.length≤1048576→(∀ y∈T,y.length≤1048576)→∀ (r:List Str) (i n:Nat) (H:List Entry) (it jd:List Nat) (ct cd:Cell) (done:List (List Str)),T.drop i=r→r.length < n→H[0]?=some ⟨1,[[encL 4 MPack.enc l]],0,false⟩→Rep H true true 2 it ct (trL 1 qcx T)→Rep H true true 3 jd cd (trL 1 (trLs 1 qcx) done)→qiw cd→it.Nodup→jd.Nodup→(∀ j∈jd,j∉it∧1≤j)→done.length+r.length≤1048576→∀ k m,
     ∃ c' H' is,qfrb k m n (encL 5 MRule.enc rules) ct T.length i ct cd H=some ([.agg [ct,c'],.one (Cell.bool true)],H')∧Rep H' true true 2 it ct (trL 1 qcx T)∧Rep H' true true 3 is c' (trL 1 (trLs 1 qcx) (done++r.map (qdf l rules)))∧is.Nodup∧∀ j∈is,j∉it:=by
    intro T hT hTb r
    induction r with
    | nil=>
     intro i n H it jd ct cd done hd hn h0 ht hdn hnl n1 n2 hdj hb k m
     obtain⟨n,rfl⟩:∃ j,n=j+1:=⟨n - 1,by omega⟩
     have:=drop_nil hd
     refine⟨cd,H,jd,?_,ht,by simpa using hdn,n2,fun j hj=>(hdj j hj).1⟩
     simp only[qfrb]
     rw[decide_eq_false (by omega),cond_false]
    | cons x r ih=>
     intro i n H it jd ct cd done hd hn h0 ht hdn hnl n1 n2 hdj hb k m
     obtain⟨n,rfl⟩:∃ j,n=j+1:=⟨n - 1,by omega⟩
     obtain⟨hlt,hx,hd'⟩:=qal hd
     simp only[List.length_cons] at hn hb
     obtain⟨c1,rw1,off,t1,t2,t3⟩:=(qfo.of (n:=2) ht).at hx
     have d0:deref H (.ptr 0 1 0 0 0)=some ([encL 4 MPack.enc l],0):=by simp[deref,entry?,h0]
     have hHl:0 < H.length:=(List.getElem?_eq_some_iff.1 h0).1
     obtain⟨c65,E,is,e3,r3,w3,_⟩:=qcz (f_fbv l hl rules hr hP hR x (hTb x (List.mem_of_getElem? hx))) H (qam [.one (encL 4 MPack.enc l),.one (encL 5 MRule.enc rules),.one (Cell.str (bs x))] _ _)
     have hlo:=w3.lo
     have hitl:=ht.lt
     have hjdl:=hdn.lt
     obtain⟨c',H',js,b1,b2,b3,b4,b5,b6,b7,_⟩:=((hdn.app E).app [Entry.mk 1 [[c65]] 0 false]).append (n:=2) (by':=24) (ys:=[[c65]]) (tys:=[[trL 1 qcx (qdf l rules x)]]) (js:=is) hnl n2 (by simpa using (Sp.cons (i:=is) (is:=[]) (Sp.one1 (Rep.app [Entry.mk 1 [[c65]] 0 false] r3)) Sp.nil)) (by simp) w3.nd (fun j hj h=>by have:=hlo j h;have:=hjdl j hj;omega) (by unfold bound;simp;omega) (by unfold bound;simp;omega)
     have hfr:∀ j,j < H.length→j∉jd→H'[j]?=H[j]?:=fun j hj hji=>by
      rw[b7 j (by simp;omega) hji,List.getElem?_append_left (by simp;omega),List.getElem?_append_left hj]
     obtain⟨c2,H2,is2,z1,z2,z3,z4,z5⟩:=ih (i+1) n H' it js ct c' (done++[qdf l rules x]) hd' (by omega) (by rw[hfr 0 hHl fun h=>by have:=(hdj 0 h).2;omega];exact h0) (ht.frame fun j hj=>hfr j (hitl j hj) fun h=>(hdj j h).1 hj) (by simpa[trL,trLs] using b2) b3 n1 b4 (fun j hj=>by
      rcases b5 j hj with h | h | h
      ·exact hdj j h
      ·have:=hlo j h
       exact⟨fun h2=>by have:=hitl j h2;omega,by omega⟩
      ·simp only[List.length_append,List.length_singleton] at h
       exact⟨fun h2=>by have:=hitl j h2;omega,by omega⟩) (by simp;omega) k m
     refine⟨c2,H2,is2,?_,z2,by simpa using z3,z4,z5⟩
     simp only[qfrb]
     rw[decide_eq_true (by omega),cond_true]
     simp only[t1,t2,t3,d0,e3,qttd,b1,qae (show i < maxLen by omega),EV0]
     exact z1
   have L1:∀ (d i n:Nat) (H:List Entry) (i1:List Nat) (row:List Str),PS l H i1 row→Found (nx0 l rules want) [] row (row.drop i)→i≤row.length→25 - i≤d→d < n→∀ k m,1048577 < m→
     ∃ cs H' ids,qtd k m n (encL 5 MRule.enc rules) i H=some ([.agg cs,.one (Cell.bool (qbl l rules want).2)],H')∧Sp (Rep H' true true 3) ids cs (qbl l rules want).1.tr∧ids.Nodup:=by
    intro d
    induction d with
    | zero=>
     intro i n H i1 row hps hF hi hd hn k m hm
     have:=qgh hF.nd fun x hx=>qgm (qft hP rules want (hF.ro x hx))
     have:=quq hP
     omega
    | succ d ih=>
     intro i n H i1 row hps hF hi hd hn k m hm
     obtain⟨n,rfl⟩:∃ j,n=j+1:=⟨n - 1,by omega⟩
     have hthere:∀ x∈row,qdd l x=true:=fun x hx=>qft hP rules want (hF.ro x hx)
     have hrl:row.length≤24:=Nat.le_trans (qgh hF.nd fun x hx=>qgm (hthere x hx)) (quq hP)
     have hps2:=hps
     have hH2:=hps.len
     obtain⟨cr,h0,h1,hrm⟩:=hps
     have d0:deref H (.ptr 0 1 0 0 0)=some ([encL 4 MPack.enc l],0):=by simp[deref,entry?,h0]
     have d1:deref H (.ptr 1 1 0 0 0)=some ([cr],0):=by simp[deref,entry?,h1]
     have hlm:=qfo.of (n:=2) hrm.1
     by_cases hlt:i < row.length
     ·obtain⟨x,hx⟩:∃ x,row[i]?=some x:=⟨row[i],List.getElem?_eq_getElem hlt⟩
      have hxm:=List.mem_of_getElem? hx
      have hxt:=hthere x hxm
      have hxn:x≠[]:=fun e=>by rw[e,qldb] at hxt;simp at hxt
      have hnx:nx0 l rules want x=qdf l rules x:=if_neg hxn
      have hdr:row.drop i=x::row.drop (i+1):=by
       rw[List.drop_eq_getElem_cons hlt]
       rw[List.getElem?_eq_getElem hlt,Option.some.injEq] at hx
       rw[hx]
      rw[hdr] at hF
      have hF2:=hF.next
      rw[hnx] at hF2
      have hws:=qmx hP rules x
      have hall:(qdf l rules x).foldl (addS l) row=row++qgi row (qdf l rules x):=by
       rw[qukb,List.filter_eq_self.2 (show ∀ y∈qdf l rules x,qdd l y=true from qhu hP rules _ _)]
      obtain⟨a,rw1,off,t1,t2,t3⟩:=hlm.at hx
      obtain⟨c32,E,is,e3,r3,w3,_⟩:=qcz (f_fbv l hl rules hr hP hR x (Nat.le_trans (qmw hxt) (by omega))) H (qam [.one (encL 4 MPack.enc l),.one (encL 5 MRule.enc rules),.one (Cell.str (bs x))] _ _)
      have hlo:=w3.lo
      have hil:=hrm.1.lt
      have hwm:=qfo.of (n:=2) r3
      obtain⟨H',i1',z1,z2⟩:=L2 (qdf l rules x) (by omega) (fun y hy=>by have:=hws.2 y hy;omega) (qdf l rules x) 0 m (H++E) i1 is c32 row rfl (by omega) (hps2.app E) hwm (fun j hj=>⟨by have:=hlo j hj;omega,w3.hi j hj,fun h=>by have:=hlo j hj;have:=hil j h;omega⟩) (by omega) (qtd k m n) i k m
      rw[hall] at z2
      have hdr2:(row++qgi row (qdf l rules x)).drop (i+1)=row.drop (i+1)++qgi row (qdf l rules x):=List.drop_append_of_le_length (by omega)
      obtain⟨cs,H2,ids,y1,y2,y3⟩:=ih (i+1) n H' i1' (row++qgi row (qdf l rules x)) z2 (by rw[hdr2];exact hF2) (by simp;omega) (by omega) (by omega) k m hm
      refine⟨cs,H2,ids,?_,y2,y3⟩
      simp only[qtd,d1,hlm.len,EV0]
      rw[decide_eq_true (by omega),cond_true]
      simp only[d0,t1,t2,t3,e3,hwm.len,EV0]
      rw[show(0:Int)=((0:Nat):Int) from rfl,z1,qae (by omega)]
      exact y1
     ·have hi2:i=row.length:=by omega
      subst hi2
      rw[List.drop_length] at hF
      obtain⟨s1,s2⟩:=qjcb hF.nd hF.done
      by_cases h16:16 < row.length
      ·have hmz:qbl l rules want=(⟨[],[]⟩,false):=by
        unfold qbl
        rw[hP,hR,s2,if_pos (show(true&&true)=true from rfl),if_pos h16]
       rw[hmz]
       refine⟨[.lst true 1 [],.lst true 1 []],H,[],?_,.cons (i:=[]) (is:=[]) (.inl ⟨rfl,rfl,true,rfl⟩) (.cons (i:=[]) (is:=[]) (.inl ⟨rfl,rfl,true,rfl⟩) .nil),by simp⟩
       simp only[qtd,d1,hlm.len,EV0]
       rw[decide_eq_false (by omega),cond_false,decide_eq_true (by omega),cond_true]
      ·have hmz:qbl l rules want=(⟨qbs row,(qbs row).map (qdf l rules)⟩,true):=by
        unfold qbl
        rw[hP,hR,s2,if_pos (show(true&&true)=true from rfl),if_neg h16,s1]
       rw[hmz]
       have hsl:=qxf row
       obtain⟨c50,E,is,e3,r3,w3,_⟩:=qcz (f_far row (by omega)) H (qbt hlm.read (qbh _))
       obtain⟨c2,H2,is2,z1,z2,z3,z4,z5⟩:=L3 (qbs row) (by omega) (fun y hy=>by have:=qmw (hthere y (((qbz row).2 y).1 hy));omega) (qbs row) 0 m (H++E) is [] c50 (.lst true 1 []) [] rfl (by omega) (by rw[List.getElem?_append_left (by omega)];exact h0) r3 (.inl ⟨rfl,rfl,true,rfl⟩) (qcy _) w3.nd (by simp) (by simp) (by simp;omega) k m
       refine⟨[c50,c2],H2,is++(is2++[]),?_,?_,?_⟩
       ·simp only[qtd,d1,hlm.len,EV0]
        rw[decide_eq_false (by omega),cond_false,decide_eq_false (by omega),cond_false]
        simp only[e3,(qfo.of (n:=2) r3).len,EV0]
        exact z1
       ·simp only[MPlan.tr]
        rw[List.nil_append] at z3
        exact .cons (z2.more (by omega)) (.cons z3 .nil)
       ·rw[List.append_nil,List.nodup_append]
        exact⟨w3.nd,z4,fun a ha b hb e=>by subst e;exact z5 a hb ha⟩
   have hps:PS l [Entry.mk 1 [[encL 4 MPack.enc l]] 0 false,Entry.mk 1 [[.lst true 1 []]] 0 false] [] []:=⟨.lst true 1 [],rfl,rfl,RM.nil _ _⟩
   obtain⟨H',i1',z1,z2⟩:=L0 want 0 (want.length+1048577+1) _ [] [] rfl (by omega) hps (by simp;omega) (want.length+1048577+1) (want.length+1048577+1)
   rw[qukb,List.nil_append] at z2
   have hF:=(Found.start (nx0 l rules want) []).next
   have hn0:nx0 l rules want []=want.filter (qdd l):=if_pos rfl
   rw[hn0,List.nil_append] at hF
   obtain⟨cs,H2,ids,y1,y2,y3⟩:=L1 25 0 (want.length+1048577+1) H' i1' _ z2 (by rw[List.drop_zero];exact hF) (Nat.zero_le _) (by omega) (by omega) (want.length+1048577+1) (want.length+1048577+1) (by omega)
   refine Fresh.agg1 (n:=2) (qsn (want.length+1048577) ?_) y2 y3
   simp only[fan,e1,e2,Bool.not_true,qaf,EV0]
   rw[show(0:Int)=((0:Nat):Int) from rfl,z1]
   exact y1
theorem qizb {s:Str}(h:qax s=true):∃ b r,s=b::r∧(((b.toNat:Nat):Int)==94)=false:=by
 cases s with
 | nil=>simp[qkq] at h
 | cons b r=>
  refine⟨b,r,rfl,?_⟩
  have h1:=(qct h).2
  simp only[List.mem_cons,not_or] at h1
  have:=qmy b 94 (by omega)
  rw[show((94:Nat):Int)=94 from rfl] at this
  rw[this]
  simpa using Ne.symm h1.1
theorem c_fey (l:List MPack)(hl:bdL 1048576 (MPack.Bd 1048576) l)(p on:Str)(hp:p.length≤1048576)(ho:on.length≤1048576)(hok:onOk on=true):
  outL qafb [.one (encL 4 MPack.enc l),.one (Cell.str (bs p)),.one (Cell.str (bs on))]=some [.one (qay (((qix l p on).filter (qbx l)).map nm2))]:=by
 have hM:=qag
 have hxl:=hl.1
 rcases qlmd hok with⟨t,rfl,hn⟩ | hn | ⟨a,b,ha,hb,rfl⟩
 ·rw[qulb l p hn]
  simp only[List.length_cons] at ho
  have tl:t.length≤1073741824:=by omega
  have s1:subS (bs (94::t)) 1 ((t.length+1:Nat):Int)=some (bs t):=by
   have:=qcw (94::t) 1 (94::t).length (by simp) (Nat.le_refl _)
   simpa using this
  have s2:=qff 94 t
  have e0:=c_fec l (by omega) p
  rcases qkn (fun q:MPack=>q.Name==p) l 0 with⟨f1,f2⟩ | ⟨j,x,f1,f2,f3⟩
  ·rw[qub f2]
   refine qbf (H:=[]) (xs:=[.one (.lst true 1 [])]) (qfx 0 ?_) rfl
   simp only[fey,s2,e0,f1,EV0]
   rw[decide_eq_true (by omega),cond_true]
   rfl
  ·rw[qth f3]
   have hb:=hl.2 x (List.mem_of_getElem? f2)
   have hul:=hb.2.1.1
   have loop:∀ (r:List Str) (i n:Nat) (acc:List Str) (c:Cell) (H:List Entry),x.Uses.drop i=r→r.length < n→acc.length≤i→Grow 1 c H (acc.map eStr)→∀ k m,
     ∃ c' H',qxy k m n (encL 4 MPack.enc l) (bs (94::t)) c j i H=some ([.one c'],H')∧Grow 1 c' H' ((acc++((r.map fun u=>(u,t)).filter (qbx l)).map nm2).map eStr):=by
    intro r
    induction r with
    | nil=>
     intro i n acc c H hd hn ha hg k m
     obtain⟨n,rfl⟩:∃ j,n=j+1:=⟨n - 1,by omega⟩
     have:=drop_nil hd
     refine⟨c,H,?_,by simpa using hg⟩
     simp only[qxy]
     rw[decide_eq_true (by omega),cond_true]
     simp only[qaj,f2,MPack.enc,qbr,Nat.zero_add,EV0]
     rw[decide_eq_false (by omega),cond_false]
    | cons u r ih=>
     intro i n acc c H hd hn ha hg k m
     obtain⟨n,rfl⟩:∃ j,n=j+1:=⟨n - 1,by omega⟩
     obtain⟨hlt,hx,hd'⟩:=qal hd
     simp only[List.length_cons] at hn
     have hub:u.length≤1048576:=hb.2.1.2 u (List.mem_of_getElem? hx)
     have q1:out qev [.one (encL 4 MPack.enc l),.one (Cell.str (bs u)),.one (Cell.str (bs t))]=some [.one (Cell.bool (qbx l (u,t)))]:=qaze l hl u t
     simp only[qxy]
     rw[decide_eq_true (by omega),cond_true]
     simp only[qaj,f2,MPack.enc,qbr,Nat.zero_add,EV0]
     rw[decide_eq_true (by omega),cond_true]
     simp only[qaj,f2,hx,eStr,MPack.enc,qbr,Nat.zero_add,s1,q1,qcqe u t (by omega) tl,qae (show i < maxLen by omega),EV0]
     rw[List.map_cons,List.filter_cons]
     cases hc:qbx l (u,t) with
     | false=>
      rw[cond_false,if_neg (by simp)]
      exact ih (i+1) n acc c H hd' (by omega) (by omega) hg k m
     | true=>
      rw[cond_true,if_pos rfl]
      obtain⟨q,a1,a2⟩:=hg.app (by':=16) [[Cell.str (bs (qbn u t))]] (by unfold bound;simp;omega) (by unfold bound;simp;omega)
      obtain⟨c',H',z1,z2⟩:=ih (i+1) n (acc++[qbn u t]) q.1 q.2 hd' (by omega) (by simp;omega) (by simpa[eStr] using a2) k m
      refine⟨c',H',?_,by simpa[nm2] using z2⟩
      simp only[a1,Option.bind_some]
      exact z1
   obtain⟨c',H',z1,z2⟩:=loop x.Uses 0 (x.Uses.length+1+1) [] (.lst true 1 []) [] rfl (by omega) (by simp) (Grow.nil 1) (x.Uses.length+1+1) (x.Uses.length+1+1)
   rw[List.nil_append] at z2
   refine qbf (H:=H') (qfx (x.Uses.length+1) ?_) z2.read
   simp only[fey,s2,e0,f1,Nat.zero_add,EV0]
   rw[decide_eq_true (by omega),cond_true]
   rw[show(((94:UInt8).toNat:Int)==94)=true from rfl,cond_true]
   exact z1
 ·obtain⟨b,r,rfl,hb⟩:=qizb hn
  have hpt:qat (b::r)=([],[],false):=by
   unfold qat
   rw[qga (qct hn).1,qkq,Bool.and_false,if_neg (by simp)]
  rw[told_plain l p hn]
  have e1:=qcie (b::r) (by omega)
  rw[qdc,hpt] at e1
  have q1:out qev [.one (encL 4 MPack.enc l),.one (Cell.str (bs p)),.one (Cell.str (bs (b::r)))]=some [.one (Cell.bool (qbx l (p,b::r)))]:=qaze l hl p (b::r)
  have q2:=qcqe p (b::r) (by omega) (by omega)
  obtain⟨q,a1,a2⟩:=(Grow.nil 1).app (by':=16) [[Cell.str (bs (qbn p (b::r)))]] (by unfold bound;simp) (by unfold bound;simp)
  cases hc:qbx l (p,b::r) with
  | false=>
   rw[hc] at q1
   refine qbf (H:=[]) (xs:=[.one (.lst true 1 [])]) (qfx 0 ?_) (by simp only[List.filter_cons,hc];rfl)
   simp only[fey,qff,hb,e1,q1,Bool.not_false,EV0]
   rw[decide_eq_true (by omega),cond_true]
  | true=>
   rw[hc] at q1
   have a3:Grow 1 q.1 q.2 (([(p,b::r)].map nm2).map eStr):=by simpa[eStr,nm2] using a2
   refine qbf (H:=q.2) (qfx 0 ?_) (by simp only[List.filter_cons,hc,if_true,List.filter_nil];exact a3.read)
   simp only[fey,qff,hb,e1,q1,q2,a1,Bool.not_false,EV0]
   rw[decide_eq_true (by omega),cond_true]
 ·rw[qgac l p ha]
  have hpt:=qlb ha hb
  obtain⟨x,r,e,hx⟩:=qizb ha
  have hd:qbn a b=x::(r++[35]++b):=by rw[e];rfl
  have e1:=qcie (qbn a b) (by omega)
  rw[qdc,hpt] at e1
  have q1:out qev [.one (encL 4 MPack.enc l),.one (Cell.str (bs a)),.one (Cell.str (bs b))]=some [.one (Cell.bool (qbx l (a,b)))]:=qaze l hl a b
  have q2:=qcqe a b (by have:=qfi ha;omega) (by have:=qfi hb;omega)
  obtain⟨q,a1,a2⟩:=(Grow.nil 1).app (by':=16) [[Cell.str (bs (qbn a b))]] (by unfold bound;simp) (by unfold bound;simp)
  have s2:bytS (bs (qbn a b)) 0=some (x.toNat:Int):=by rw[hd];exact qff _ _
  have s3:0 < (qbn a b).length:=by rw[hd];simp
  cases hc:qbx l (a,b) with
  | false=>
   rw[hc] at q1
   refine qbf (H:=[]) (xs:=[.one (.lst true 1 [])]) (qfx 0 ?_) (by simp only[List.filter_cons,hc];rfl)
   simp only[fey,s2,hx,e1,q1,Bool.not_true,EV0]
   rw[decide_eq_true (by omega),cond_true]
  | true=>
   rw[hc] at q1
   have a3:Grow 1 q.1 q.2 (([(a,b)].map nm2).map eStr):=by simpa[eStr,nm2] using a2
   refine qbf (H:=q.2) (qfx 0 ?_) (by simp only[List.filter_cons,hc,if_true,List.filter_nil];exact a3.read)
   simp only[fey,s2,hx,e1,q1,q2,a1,Bool.not_true,EV0]
   rw[decide_eq_true (by omega),cond_true]
theorem qcvc (l:List MPack)(p:Str):∀ (O:List Str),O.flatMap (fun o=>((qix l p o).filter (qbx l)).map nm2)=((O.flatMap (qix l p)).filter (qbx l)).map nm2:=by
 intro O
 induction O with
 | nil=>rfl
 | cons o O ih=>simp only[List.flatMap_cons,List.filter_append,List.map_append,ih]
theorem qgsc {l:List MPack}(hP:qcs l=true){p t:Str}(hp:qax p=true)(ht:qax t=true):∀ (X:List (Str×Str)),((X.filter (qbx l)).map nm2).filter (fun y=>!(y==qbn p t))=(X.filter fun x=>!(x==(p,t))&&qbx l x).map nm2:=by
 intro X
 induction X with
 | nil=>rfl
 | cons x X ih=>
  obtain⟨a,b⟩:=x
  rw[List.filter_cons,List.filter_cons]
  cases hc:qbx l (a,b) with
  | false=>simpa using ih
  | true=>
   obtain⟨ha,hb⟩:=quk hP hc
   have he:(qbn a b==qbn p t)=((a,b)==(p,t)):=by
    rw[Bool.eq_iff_iff]
    simp only[beq_iff_eq]
    constructor
    ·intro h
     have h1:=qlb ha hb
     rw[h,qlb hp ht] at h1
     simp only[Prod.mk.injEq] at h1 ⊢
     exact⟨h1.1.symm,h1.2.1.symm⟩
    ·intro h
     simp only[Prod.mk.injEq] at h
     rw[h.1,h.2]
   rw[if_pos rfl,List.map_cons,List.filter_cons]
   have hn:nm2 (a,b)=qbn a b:=rfl
   rw[hn,he,Bool.and_true]
   cases ((a,b)==(p,t)) with
   | true=>simpa using ih
   | false=>simp[hn,ih]
theorem c_feu (l:List MPack)(hl:bdL 1048576 (MPack.Bd 1048576) l)(rules:List MRule)(hr:bdL 1048576 (MRule.Bd 1048576) rules)(hP:qcs l=true)(hR:qfg rules=true)(p t:Str)(hp:qax p=true)(ht:qax t=true):
  outL qasb [.one (encL 4 MPack.enc l),.one (encL 5 MRule.enc rules),.one (Cell.str (bs p)),.one (Cell.str (bs t))]=some [.one (qay (qsab l rules p t))]:=by
 have hM:=qag
 have pl:=qfi hp
 have tl:=qfi ht
 have e1:=c_feo rules hr t (by unfold bdS;omega)
 obtain⟨o1,o2⟩:=on_at hR t
 have hob:=(qtkb rules hr t (by unfold bdS;omega)).2.1.2
 have hW:qsab l rules p t=qbs (((qbi rules t).1.On.flatMap (fun o=>((qix l p o).filter (qbx l)).map nm2)).filter (fun y=>!(y==qbn p t))):=by rw[qcvc,qgsc hP hp ht];rfl
 rw[hW]
 generalize (qbi rules t).1=R at*
 have q2:=qcqe p t (by omega) (by omega)
 generalize hB:R.On.flatMap (fun o=>((qix l p o).filter (qbx l)).map nm2)=B
 have L1:∀ (i1:List Nat) (ca:Cell),B.length≤1048576→∀ (r:List Str) (i n:Nat) (o:List Str) (c:Cell) (H:List Entry) (i2:List Nat),B.drop i=r→r.length < n→RM 0 H i1 i2 ca c B o→o.length+r.length≤1048576→∀ k m,
   ∃ xs H',qwk k m n (bs p) (bs t) ca c i H=some (xs,H')∧mapO (qao false H') xs=some [.one (qay (qbs (o++r.filter (fun y=>!(y==qbn p t)))))]:=by
  intro i1 ca hBl r
  induction r with
  | nil=>
   intro i n o c H i2 hd hn hm ho k m
   obtain⟨n,rfl⟩:∃ j,n=j+1:=⟨n - 1,by omega⟩
   have:=drop_nil hd
   have hlm:=qfo.of (n:=2) hm.1
   obtain⟨H1,_,e3⟩:=qqd (run:=qfw) (n:=2) (by omega) (Sp.cons (a:=AV.one c) (b:=AT.one (trL 1 qcx o)) hm.2.1 .nil)
   have e4:callL qfw [.one c] H=some ([.one (qay (qbs o))],H1):=by
    rw[e3]
    simp only[List.map_cons,List.map_nil,AT.av,qbm]
    rw[c_feq _ (by omega)]
    rfl
   refine⟨[.one (qay (qbs o))],H1,?_,by rw[List.filter_nil,List.append_nil];exact qam _ _ _⟩
   simp only[qwk,hlm.len,Option.bind_some]
   rw[decide_eq_false (by omega),cond_false]
   simp only[e4,EV0]
  | cons y r ih=>
   intro i n o c H i2 hd hn hm ho k m
   obtain⟨n,rfl⟩:∃ j,n=j+1:=⟨n - 1,by omega⟩
   obtain⟨hlt,hx,hd'⟩:=qal hd
   simp only[List.length_cons] at hn ho
   have hlm:=qfo.of (n:=2) hm.1
   obtain⟨a,row,off,t1,t2,t3⟩:=hlm.at hx
   simp only[qwk,hlm.len,Option.bind_some]
   rw[decide_eq_true (by omega),cond_true]
   simp only[t1,t2,t3,q2,qae (show i < maxLen by omega),EV0]
   rw[List.filter_cons]
   cases hc:(y==qbn p t) with
   | true=>
    simp only[Bool.not_true,cond_false,Bool.false_eq_true,if_false]
    exact ih (i+1) n o c H i2 hd' (by omega) hm (by omega) k m
   | false=>
    simp only[Bool.not_false,cond_true,if_true]
    obtain⟨q,j1,a1,hm',m1,f1,g1⟩:=hm.swap.app1 (Nat.zero_le _) [y] (by unfold bound;simp;omega)
    simp only[List.map_cons,List.map_nil,eStr] at a1
    obtain⟨xs,H',z1,z2⟩:=ih (i+1) n (o++[y]) q.1 q.2 j1 hd' (by omega) hm'.swap (by simp;omega) k m
    refine⟨xs,H',?_,by simpa using z2⟩
    simp only[a1,Option.bind_some]
    exact z1
 have hfl:∀ o,(((qix l p o).filter (qbx l)).map nm2).length≤4:=fun o=>by
  rw[List.length_map]
  exact Nat.le_trans (List.length_filter_le _ _) (qubb hP p o)
 have L0:∀ (r:List Str) (i n:Nat) (acc:List Str) (c:Cell) (H:List Entry),R.On.drop i=r→r.length < n→Grow 1 c H (acc.map eStr)→acc.length+4*r.length≤16→∀ (s17:ByteArray) (c19 c20:Cell) (b21:Bool) k m,
   ∃ c' H',qemb k m n (encL 4 MPack.enc l) (bs p) (bs t) c i s17 (qay R.On) c19 c20 b21 H=qwk k m m (bs p) (bs t) c' (.lst true 1 []) 0 H'∧Grow 1 c' H' ((acc++r.flatMap (fun o=>((qix l p o).filter (qbx l)).map nm2)).map eStr)∧(acc++r.flatMap (fun o=>((qix l p o).filter (qbx l)).map nm2)).length≤16:=by
  intro r
  induction r with
  | nil=>
   intro i n acc c H hd hn hg hb s17 c19 c20 b21 k m
   obtain⟨n,rfl⟩:∃ j,n=j+1:=⟨n - 1,by omega⟩
   have:=drop_nil hd
   refine⟨c,H,?_,by simpa using hg,by simpa using hb⟩
   simp only[qemb,qaf,Option.bind_some]
   rw[decide_eq_false (by omega),cond_false]
  | cons x r ih=>
   intro i n acc c H hd hn hg hb s17 c19 c20 b21 k m
   obtain⟨n,rfl⟩:∃ j,n=j+1:=⟨n - 1,by omega⟩
   obtain⟨hlt,hx,hd'⟩:=qal hd
   simp only[List.length_cons] at hn hb
   have hxm:=List.mem_of_getElem? hx
   have e4:=c_fey l hl p x (by omega) (hob x hxm) (o2 x hxm)
   have hf:=hfl x
   generalize hF:((qix l p x).filter (qbx l)).map nm2=F at*
   obtain⟨q,a1,a2⟩:=hg.app (by':=16) (F.map eStr) (by unfold bound;simp;omega) (by unfold bound;simp;omega)
   obtain⟨c',H',z1,z2,z3⟩:=ih (i+1) n (acc++F) q.1 q.2 hd' (by omega) (by simpa using a2) (by simp;omega) s17 c19 c20 b21 k m
   refine⟨c',H',?_,by simpa[List.flatMap_cons,hF] using z2,by simpa[List.flatMap_cons,hF] using z3⟩
   simp only[qemb,qaf,Option.bind_some]
   rw[decide_eq_true (by omega),cond_true]
   simp only[qaj,hx,eStr,e4,qhxb,a1,qae (show i < maxLen by omega),EV0]
   exact z1
 obtain⟨c',H',z1,z2,z3⟩:=L0 R.On 0 (R.On.length+20+1) [] (.lst true 1 []) [] rfl (by omega) (Grow.nil 1) (by simp;omega) (bs R.Task) (qay R.Ins) (qay R.Envs) R.Keep (R.On.length+20+1) (R.On.length+20+1)
 rw[List.nil_append,hB] at z2 z3
 obtain⟨i1,r1,r2,_⟩:=z2.rep (tr:=qcx) (fun _ _=>rfl) (fun x _ H'=>Sp.leaf1 _)
 have hnl:qiw c':=by
  rcases z2 with⟨_,h,_⟩ | ⟨ep,h,_⟩
  ·rw[h];exact qcy _
  ·rw[h];exact qkr _ _ _ _ _
 obtain⟨xs,H2,y1,y2⟩:=L1 i1 c' (by omega) B 0 (R.On.length+20+1) [] (.lst true 1 []) H' [] rfl (by omega) ⟨r1,.inl ⟨rfl,rfl,true,rfl⟩,hnl,qcy _,r2,by simp,by simp,by simp,by simp⟩ (by simp;omega) (R.On.length+20+1) (R.On.length+20+1)
 rw[List.nil_append] at y2
 refine qbf (H:=H2) (qabc (R.On.length+20) ?_) y2
 simp only[feu,e1,EV0]
 rw[show(0:Int)=((0:Nat):Int) from rfl,z1]
 exact y1
theorem c_ffa (l:List MPack)(hl:bdL 1048576 (MPack.Bd 1048576) l)(rules:List MRule)(hr:bdL 1048576 (MRule.Bd 1048576) rules)(hP:qcs l=true)(hR:qfg rules=true)(s:Str)(hs:s.length≤1048576)(ht:(qat s).2.2=true):
  outL qui [.one (encL 4 MPack.enc l),.one (encL 5 MRule.enc rules),.one (Cell.str (bs s))]=some [.one (qay (qdf l rules s))]:=by
 obtain⟨_,h1,h2⟩:=qvq ht
 have e1:=c_feu l hl rules hr hP hR _ _ h1 h2
 refine qyg (H:=[]) (qccc 0 ?_)
 simp only[ffa,qcie s (by omega),qdc,ht,e1,Bool.not_true,EV0]
 rfl
theorem qztc (l:List MPack)(hl:bdL 1048576 (MPack.Bd 1048576) l)(rules:List MRule)(hr:bdL 1048576 (MRule.Bd 1048576) rules)(want:List Str)(hw:bdL 1048576 (bdS 1048576) want):(qbl l rules want).1.Bd 1048576:=by
 unfold qbl
 split
 ·rename_i h
  simp only[Bool.and_eq_true] at h
  split
  ·exact⟨⟨by simp,by simp⟩,⟨by simp,by simp⟩⟩
  ·rename_i h16
   have hall:∀ x y,y∈nx0 l rules want x→y∈allT l:=fun x y hy=>qgm (quw h.1 rules want x y hy)
   have hb:=qpwc (s:=[]) hall
   have ha:∀ x∈allT l,x.length≤1048576:=fun x hx=>by
    obtain⟨q,hq,hx⟩:=List.mem_flatMap.1 hx
    obtain⟨c,hc,rfl⟩:=List.mem_map.1 hx
    have hp:=qkc (qvr h.1 hq)
    have:=qfi hp.1
    have:=qfi (hp.2.2.2.1 c hc)
    simp only[qbn,List.length_append,List.length_singleton]
    omega
   refine⟨⟨by simp only;omega,fun x hx=>ha x (hb.2 x hx)⟩,⟨by simp only[List.length_map];omega,fun d hd=>?_⟩⟩
   obtain⟨x,hx,rfl⟩:=List.mem_map.1 hd
   have hw:=qmx h.1 rules x
   exact⟨by omega,fun y hy=>by have:=hw.2 y hy;unfold bdS;omega⟩
 ·exact⟨⟨by simp,by simp⟩,⟨by simp,by simp⟩⟩
theorem qxhb (l:List MPack)(hl:bdL 1048576 (MPack.Bd 1048576) l)(rules:List MRule)(hr:bdL 1048576 (MRule.Bd 1048576) rules)(want:List Str)(hw:bdL 1048576 (bdS 1048576) want):(qbl l rules want).1.cntA≤1099511627776:=by
 unfold qbl
 split
 ·rename_i h
  simp only[Bool.and_eq_true] at h
  split
  ·simp[MPlan.cntA,cntL]
  ·rename_i h16
   generalize qsp (nx0 l rules want) []=T at h16
   have key:∀ T:List Str,cntL (cntL one1) (T.map (qdf l rules))≤24*T.length:=by
    intro T
    induction T with
    | nil=>simp[cntL]
    | cons x T ih=>
     rw[List.map_cons,qgp,List.length_cons,qjfb]
     have:=(qmx h.1 rules x).1
     omega
   have:=key T
   simp only[MPlan.cntA,qjfb] at this ⊢
   omega
 ·simp[MPlan.cntA,cntL]
theorem qkgc (T:List Str){c:Cell}{A X:List Entry}{ds:List (List Str)}(h:GrowAt A.length 1 c X (ds.map qdi)):qao false (A++X) (.agg [qay T,c])=some (.agg [qay T,encL 1 qdi ds]):=by
 have q1:reify false (A++X) depth (qay T)=some (qay T):=Canon.reify inferInstance _ _ _
 rcases h with⟨h1,rfl,rfl⟩ | ⟨ep,rfl,rfl⟩
 ·simp only[List.map_eq_nil_iff] at h1
  subst h1
  have q2:reify false (A++[]) depth (.lst true 1 [])=some (encL 1 qdi []):=by
   have:=qvf true 1 qdi [] (A++[])
   simpa[qao] using this
  simp only[qao,mapO,q1,q2,Option.map_some]
 ·have q2:=qhz (chk:=false) (sz:=1) (e:=qdi) (xs:=ds) (H:=A++[Entry.mk 1 (ds.map qdi) ep false]) (id:=A.length) (ep:=ep) (fr:=false) 4194303 (by simp) (by simp)
  simp only[List.length_map,qao,depth,mapO,q2,Option.map_some] at q1 ⊢
  rw[q1]
  rfl
theorem c_fen (l:List MPack)(hl:bdL 1048576 (MPack.Bd 1048576) l)(rules:List MRule)(hr:bdL 1048576 (MRule.Bd 1048576) rules)(want:List Str)(hw:bdL 1048576 (bdS 1048576) want):
  outL qrh [.one (encL 4 MPack.enc l),.one (encL 5 MRule.enc rules),.one (qay want)]=some [.agg [qay (qbl l rules want).1.Tasks,encL 1 qdi (qbl l rules want).1.Deps],.one (Cell.bool (qbl l rules want).2)]:=by
 have hM:=qag
 have hwl:=hw.1
 have e1:=c_feh l hl
 have e2:=c_fep rules hr
 have e3:qbp [] 1 (qay want)=some (want.map eStr):=qhxb _ _
 obtain⟨q,j0,a0,hm0,_,_,_⟩:=(RM.nil 0 []).swap.app1 (Nat.zero_le _) want (by unfold bound;simp;omega)
 rw[List.nil_append] at hm0
 have zr:∀ H,mapO (qao false H) [.agg [.lst true 1 [],.lst true 1 []],.one (Cell.bool false)]=some [.agg [qay [],encL 1 qdi []],.one (Cell.bool false)]:=fun H=>rfl
 cases hP:qcs l with
 | false=>
  rw[hP] at e1
  have hmz:qbl l rules want=(⟨[],[]⟩,false):=by simp[qbl,hP]
  rw[hmz]
  refine qbf (H:=q.2) (qqt 0 ?_) (zr _)
  simp only[fen,e3,a0,EV0,qjv,(qfo.of (n:=2) hm0.1).len,e1,Bool.not_false]
  cases decide (((want.length:Nat):Int) > 0)<;>rfl
 | true=>
  rw[hP] at e1
  cases hR:qfg rules with
  | false=>
   rw[hR] at e2
   have hmz:qbl l rules want=(⟨[],[]⟩,false):=by simp[qbl,hP,hR]
   rw[hmz]
   refine qbf (H:=q.2) (qqt 0 ?_) (zr _)
   simp only[fen,e3,a0,EV0,qjv,(qfo.of (n:=2) hm0.1).len,e1,e2,Bool.not_false,Bool.not_true]
   cases decide (((want.length:Nat):Int) > 0)<;>rfl
  | true=>
   rw[hR] at e2
   have hwt:=qmx hP rules
   have L1:∀ (T:List Str),T.length≤24→(∀ y∈T,qdd l y=true)→∀ (A:List Entry) (r:List Str) (i n:Nat) (done:List (List Str)) (c:Cell) (X:List Entry),T.drop i=r→r.length < n→GrowAt A.length 1 c X (done.map qdi)→done.length+r.length≤24→∀ k m,
     ∃ c' X',qwh k m n (encL 4 MPack.enc l) (encL 5 MRule.enc rules) i (qay T) c (A++X)=some ([.agg [qay T,c'],.one (Cell.bool true)],A++X')∧GrowAt A.length 1 c' X' ((done++r.map (qdf l rules)).map qdi):=by
    intro T hT hTt A r
    induction r with
    | nil=>
     intro i n done c X hd hn hg hb k m
     obtain⟨n,rfl⟩:∃ j,n=j+1:=⟨n - 1,by omega⟩
     have:=drop_nil hd
     refine⟨c,X,?_,by simpa using hg⟩
     simp only[qwh,qaf,Option.bind_some]
     rw[decide_eq_false (by omega),cond_false]
    | cons x r ih=>
     intro i n done c X hd hn hg hb k m
     obtain⟨n,rfl⟩:∃ j,n=j+1:=⟨n - 1,by omega⟩
     obtain⟨hlt,hx,hd'⟩:=qal hd
     simp only[List.length_cons] at hn hb
     have hxt:=hTt x (List.mem_of_getElem? hx)
     have hpt:(qat x).2.2=true:=by
      simp only[qdd,Bool.and_eq_true] at hxt
      exact hxt.1
     have e4:=c_ffa l hl rules hr hP hR x (Nat.le_trans (qmw hxt) (by omega)) hpt
     have e5:∀ (d:Cell) (G:List Entry),qbp G 1 (.lst true 1 (chunks 1 1 [d]))=some [[d]]:=fun d G=>by simp[qbp,rowsOf,chunks]
     have e6:∀ {β:Type} (xs:List Str) (κ:List Cell→Option β),restK [qay xs] κ=κ [qay xs]:=fun xs κ=>rfl
     obtain⟨d,X',b1,b2⟩:=app_at (by':=24) hg [qay (qdf l rules x)] (by unfold bound;simp;omega) (by unfold bound;simp;omega)
     obtain⟨c',X2,z1,z2⟩:=ih (i+1) n (done++[qdf l rules x]) d X' hd' (by omega) (by simpa[qdi] using b2) (by simp;omega) k m
     refine⟨c',X2,?_,by simpa using z2⟩
     simp only[qwh,qaf,Option.bind_some]
     rw[decide_eq_true (by omega),cond_true]
     simp only[qaj,hx,eStr,e4,e5,e6,b1,qae (show i < maxLen by omega),EV0]
     exact z1
   have fin:∀ (o:List Str) (c8 c9:Cell) (H:List Entry) (i1 i2:List Nat) (n:Nat),Seen (nx0 l rules want) [] o []→RM 0 H i1 i2 c8 c9 o []→0 < n→∀ k m,30 < m→
     ∃ xs H',qjv k m n (encL 4 MPack.enc l) (encL 5 MRule.enc rules) c8 c9 H=some (xs,H')∧mapO (qao false H') xs=some [.agg [qay (qbl l rules want).1.Tasks,encL 1 qdi (qbl l rules want).1.Deps],.one (Cell.bool (qbl l rules want).2)]:=by
    intro o c8 c9 H i1 i2 n hs hm hn k m hk
    obtain⟨n,rfl⟩:∃ j,n=j+1:=⟨n - 1,by omega⟩
    have hthere:∀ x∈o,qdd l x=true:=fun x hx=>qft hP rules want (hs.ro x hx)
    have hol:o.length≤24:=Nat.le_trans (qgh hs.nd fun x hx=>qgm (hthere x hx)) (quq hP)
    obtain⟨s1,s2⟩:=qjcb hs.nd hs.done
    have hl8:=qfo.of (n:=2) hm.1
    have hl9:=qfo.of (n:=2) hm.2.1
    by_cases h16:16 < o.length
    ·have hmz:qbl l rules want=(⟨[],[]⟩,false):=by
      unfold qbl
      rw[hP,hR,s2,if_pos (show(true&&true)=true from rfl),if_pos h16]
     rw[hmz]
     refine⟨_,H,?_,zr H⟩
     simp only[qjv,hl9.len,List.length_nil,Option.bind_some]
     rw[decide_eq_false (by omega),cond_false]
     simp only[e1,e2,hl8.len,Bool.not_true,EV0]
     rw[decide_eq_true (by omega),cond_true]
    ·have hmz:qbl l rules want=(⟨qbs o,(qbs o).map (qdf l rules)⟩,true):=by
      unfold qbl
      rw[hP,hR,s2,if_pos (show(true&&true)=true from rfl),if_neg h16,s1]
     rw[hmz]
     have hsl:=qxf o
     obtain⟨H1,_,e3⟩:=qqd (run:=qfw) (n:=2) (by omega) (Sp.cons (a:=AV.one c8) (b:=AT.one (trL 1 qcx o)) hm.1 .nil)
     have e4:callL qfw [.one c8] H=some ([.one (qay (qbs o))],H1):=by
      rw[e3]
      simp only[List.map_cons,List.map_nil,AT.av,qbm]
      rw[c_feq _ (by omega)]
      rfl
     obtain⟨c',X',z1,z2⟩:=L1 (qbs o) (by omega) (fun y hy=>hthere y (((qbz o).2 y).1 hy)) H1 (qbs o) 0 m [] (.lst true 1 []) [] rfl (by omega) (.inl ⟨rfl,rfl,rfl⟩) (by simp;omega) k m
     rw[List.nil_append] at z2
     rw[List.append_nil] at z1
     refine⟨_,H1++X',?_,qbt (qkgc (qbs o) z2) (qbt (qba _ _ _) (qbh _))⟩
     simp only[qjv,hl9.len,List.length_nil,Option.bind_some]
     rw[decide_eq_false (by omega),cond_false]
     simp only[e1,e2,hl8.len,Bool.not_true,EV0]
     rw[decide_eq_false (by omega),cond_false]
     simp only[e4,EV0]
     exact z1
   have loop:∀ (d:Nat) (o left:List Str) (c8 c9:Cell) (H:List Entry) (i1 i2:List Nat) (n:Nat),Seen (nx0 l rules want) [] o (left.filter (qdd l))→RM 0 H i1 i2 c8 c9 o left→(∀ y∈left,y.length≤1048576)→left.length+(24 - o.length)*24≤d→left.length≤1048576+24*o.length→d < n→∀ k m,30 < m→
     ∃ xs H',qjv k m n (encL 4 MPack.enc l) (encL 5 MRule.enc rules) c8 c9 H=some (xs,H')∧mapO (qao false H') xs=some [.agg [qay (qbl l rules want).1.Tasks,encL 1 qdi (qbl l rules want).1.Deps],.one (Cell.bool (qbl l rules want).2)]:=by
    intro d
    induction d with
    | zero=>
     intro o left c8 c9 H i1 i2 n hs hm hlb hd hll hn k m hk
     have:left=[]:=List.eq_nil_of_length_eq_zero (by omega)
     subst this
     exact fin o c8 c9 H i1 i2 n (by simpa using hs) hm (by omega) k m hk
    | succ d ih=>
     intro o left c8 c9 H i1 i2 n hs hm hlb hd hll hn k m hk
     cases left with
     | nil=>exact fin o c8 c9 H i1 i2 n (by simpa using hs) hm (by omega) k m hk
     | cons x left=>
      obtain⟨n,rfl⟩:∃ j,n=j+1:=⟨n - 1,by omega⟩
      have hthere:∀ x∈o,qdd l x=true:=fun x hx=>qft hP rules want (hs.ro x hx)
      have hol:o.length≤24:=Nat.le_trans (qgh hs.nd fun x hx=>qgm (hthere x hx)) (quq hP)
      simp only[List.length_cons] at hd hll
      have hxl:=hlb x List.mem_cons_self
      have hlb':∀ y∈left,y.length≤1048576:=fun y hy=>hlb y (List.mem_cons_of_mem _ hy)
      obtain⟨a,row',off,c',p,j2,t1,t2,t3,t4,t5,t6,hm',t8,t9⟩:=hm.pop (Nat.zero_le _) (by unfold bound;omega)
      have q1:qar qko [.one c8,.one (Cell.str (bs x))] p.2=some [.one (Cell.bool (o.contains x))]:=by
       rw[qdn (qbt (qfo.of (n:=2) hm'.1).read (qbt (qba _ _ _) (qbh _)))]
       exact c_ffc o x (by omega)
      have q2:=qcie x (by omega)
      have q3:out qev [.one (encL 4 MPack.enc l),.one (Cell.str (bs (qat x).1)),.one (Cell.str (bs (qat x).2.1))]=some [.one (Cell.bool (qbx l ((qat x).1,(qat x).2.1)))]:=qaze l hl _ _
      have hth:qdd l x=((qat x).2.2&&qbx l ((qat x).1,(qat x).2.1)):=rfl
      simp only[qjv,t9,Option.bind_some]
      rw[decide_eq_true (by omega),cond_true]
      simp only[e1,e2,t1,t2,t3,t4,t5,t6,q2,qdc,EV0]
      rw[List.filter_cons] at hs
      cases hp:(qat x).2.2 with
      | false=>
       rw[hp,Bool.false_and] at hth
       rw[hth,if_neg (by simp)] at hs
       rw[cond_false]
       exact ih o left c8 p.1 p.2 i1 j2 n hs hm' hlb' (by omega) (by omega) (by omega) k m hk
      | true=>
       rw[hp,Bool.true_and] at hth
       simp only[cond_true,q3,EV0]
       cases hi:qbx l ((qat x).1,(qat x).2.1) with
       | false=>
        rw[hi] at hth
        rw[hth,if_neg (by simp)] at hs
        rw[cond_false]
        exact ih o left c8 p.1 p.2 i1 j2 n hs hm' hlb' (by omega) (by omega) (by omega) k m hk
       | true=>
        rw[hi] at hth
        rw[hth,if_pos rfl] at hs
        simp only[cond_true,q1,EV0]
        cases hc:o.contains x with
        | true=>
         have hx:x∈o:=by simpa using hc
         simp only[Bool.not_true,cond_false]
         exact ih o left c8 p.1 p.2 i1 j2 n (hs.old hx) hm' hlb' (by omega) (by omega) (by omega) k m hk
        | false=>
         have hx:x∉o:=by simpa using hc
         have hs':=hs.new hx
         have hxn:x≠[]:=fun e=>by rw[e,qldb] at hth;simp at hth
         have hnx:nx0 l rules want x=qdf l rules x:=if_neg hxn
         rw[hnx] at hs'
         have hthere':∀ y∈o++[x],qdd l y=true:=fun y hy=>qft hP rules want (hs'.ro y hy)
         have ho':(o++[x]).length≤24:=Nat.le_trans (qgh hs'.nd fun y hy=>qgm (hthere' y hy)) (quq hP)
         rw[List.length_append,List.length_singleton] at ho'
         have hwx:=hwt x
         have hwf:(qdf l rules x).filter (qdd l)=qdf l rules x:=List.filter_eq_self.2 (show ∀ y∈qdf l rules x,qdd l y=true from qhu hP rules _ _)
         obtain⟨q,k1,a1,hr2,m1,_,_⟩:=hm'.app1 (Nat.zero_le _) [x] (by unfold bound;simp;omega)
         obtain⟨r,k2,a2,hr3,m2,_,_⟩:=hr2.swap.app1 (Nat.zero_le _) (qdf l rules x) (by unfold bound;omega)
         simp only[List.map_cons,List.map_nil,eStr] at a1
         have e3:qbp q.2 1 (qay (qdf l rules x))=some ((qdf l rules x).map eStr):=qhxb _ _
         simp only[Bool.not_false,cond_true,a1,c_ffa l hl rules hr hP hR x hxl hp,EV0]
         simp only[e3,a2,Option.bind_some]
         refine ih (o++[x]) (left++qdf l rules x) q.1 r.1 r.2 k1 k2 n (by rw[List.filter_append,hwf];exact hs') hr3.swap (fun y hy=>?_) ?_ ?_ (by omega) k m hk
         ·rcases List.mem_append.1 hy with hy | hy
          ·exact hlb' y hy
          ·have:=hwx.2 y hy;omega
         ·rw[List.length_append,List.length_append,List.length_singleton]
          have:(24 - o.length)=(24 - (o.length+1))+1:=by omega
          rw[this] at hd
          omega
         ·rw[List.length_append,List.length_append,List.length_singleton]
          omega
   have hs0:=Seen.start (nx0 l rules want) []
   have hn0:nx0 l rules want []=want.filter (qdd l):=if_pos rfl
   rw[hn0] at hs0
   obtain⟨xs,H',z1,z2⟩:=loop (want.length+24*24) [] want (.lst true 1 []) q.1 q.2 [] j0 (want.length+24*24+30+1) hs0 hm0.swap (fun y hy=>hw.2 y hy) (by simp) (by simp;omega) (by omega) (want.length+24*24+30+1) (want.length+24*24+30+1) (by omega)
   refine qbf (H:=H') (qqt (want.length+24*24+30) ?_) z2
   simp only[fen,e3,a0,Option.bind_some]
   exact z1
end Go.Ev
