/- Conditions: none. -/
import Derived.Test.YtholafaogipaiaaGreatDoorKp0
set_option linter.unusedSimpArgs false
set_option linter.unusedVariables false
namespace Go.Ev
open Go
structure RCmp where
 op:Int
 v:MVer
def eCmp (c:RCmp):List Cell:=[Cell.int c.op,Cell.int c.v.A,Cell.int c.v.B,Cell.int c.v.C,qba c.v.Pre]
instance:CanonE eCmp:=⟨fun _=>CanonLs.canon (cs:=[_,_,_,_,_])⟩
def eInt (x:Int):List Cell:=[Cell.int x]
instance:CanonE eInt:=⟨fun _=>.cons inferInstance .nil⟩
def zeroV:MVer:=⟨0,0,0,[]⟩
def xS:Str:=[120]
def oneV (x:Str):Option (MVer×Nat):=match qao x 9999 with | some a=>some (⟨a,0,0,[]⟩,1) | none=>none
def twoV (x y:Str):Option (MVer×Nat):=match qao x 9999,qao y 9999 with | some a,some b=>some (⟨a,b,0,[]⟩,2) | _,_=>none
def numsOf:List Str→Option (MVer×Nat) | [x]=>oneV x | [x,y]=>if y=xS then oneV x else twoV x y | [x,y,z]=>if z=xS then (if y=xS then oneV x else twoV x y) else none | _=>none
def partOf (s:Str):Option (MVer×Nat):=if (qac s).2 then some ((qac s).1,3) else numsOf (split 46 s)
def qel (v:MVer)(told:Nat):MVer:=if told=1 then ⟨v.A+1,0,0,[]⟩ else ⟨v.A,v.B+1,0,[]⟩
def qhw (v:MVer):RCmp:=⟨1,⟨v.A,v.B,v.C,[[48]]⟩⟩
def qey (v:MVer)(told:Nat):MVer:=if v.A≠0∨told=1 then ⟨v.A+1,0,0,[]⟩ else if v.B≠0∨told=2 then ⟨0,v.B+1,0,[]⟩ else ⟨0,0,v.C+1,[]⟩
def qcr (g:Str)(v:MVer)(told:Nat):List RCmp:=if g=[94] then [⟨4,v⟩,qhw (qey v told)] else if g=[126] then [⟨4,v⟩,qhw (qel v told)] else if g=[62,61] then [⟨4,v⟩] else if g=[62] then (if told=3 then [⟨3,v⟩] else [⟨4,qel v told⟩]) else if g=[60,61] then (if told=3 then [⟨2,v⟩] else [qhw (qel v told)]) else if g=[60] then [⟨1,v⟩] else if told=3 then [⟨0,v⟩] else [⟨4,v⟩,qhw (qel v told)]
def signs:List Str:=[[94],[126],[62,61],[62],[60,61],[60],[61],[]]
def qeg (w:Str):List Str→Option (List RCmp) | []=>none | g::r=>if g.isPrefixOf w then (match partOf (w.drop g.length) with | some p=>some (qcr g p.1 p.2) | none=>none) else qeg w r
def qjm (w:Str):Option (List RCmp):=if w=[42] then some [⟨4,zeroV⟩] else qeg w signs
def qdh:List Str→List RCmp→Option (List RCmp)
 | [],acc=>some acc
 | w::r,acc=>match qjm w with | some l=>qdh r (acc++l) | none=>none
def qex (v:MVer):Bool:=qdo v.A v.B v.C v.Pre
def listW (ws:List Str):Option (List RCmp):=match qdh ws [] with
 | some l=>if l.length≤4∧l.all (fun c=>qex c.v)=true then some l else none
 | none=>none
def hyphW (ws:List Str):Option (Str×Str):=match ws with
 | [a,b,c]=>if b=[45] then some (a,c) else none
 | _=>none
def qni (ws:List Str):Option (List RCmp):=match hyphW ws with
 | some (a,c)=>if (qac a).2&&(qac c).2 then some [⟨4,(qac a).1⟩,⟨2,(qac c).1⟩] else none
 | none=>listW ws
def qzc (s:Str):Str:=s.dropWhile (·==32)
def qnq:Str→Str
 | []=>[]
 | x::s=>match qnq s with | []=>if x=32 then [] else [x] | y::r=>x::y::r
def trim (s:Str):Str:=qzc (qnq s)
theorem trimLR (s:Str):qnq (qzc s)=qzc (qnq s):=by
 induction s with
 | nil=>rfl
 | cons x s ih=>
  by_cases hx:x=32
  ·subst hx
   have e1:qzc (32::s)=qzc s:=by simp[qzc]
   rw[e1,ih]
   simp only[qnq]
   cases h:qnq s with
   | nil=>simp[qzc]
   | cons y r=>simp[qzc]
  ·have e1:qzc (x::s)=x::s:=by simp[qzc,hx]
   rw[e1]
   simp only[qnq]
   cases h:qnq s with
   | nil=>simp[qzc,hx]
   | cons y r=>simp[qzc,hx]
theorem qqk (s:Str):qnq (s++[32])=qnq s:=by
 induction s with
 | nil=>rfl
 | cons x s ih=>
  rw[List.cons_append]
  simp only[qnq,ih]
theorem qqg (s:Str)(y:UInt8)(h:y≠32):qnq (s++[y])=s++[y]:=by
 induction s with
 | nil=>simp[qnq,h]
 | cons x s ih=>
  rw[List.cons_append]
  simp only[qnq,ih]
  cases s<;>rfl
theorem trimR_le (s:Str):(qnq s).length≤s.length:=by
 induction s with
 | nil=>exact Nat.le_refl _
 | cons x s ih=>
  cases h:qnq s with
  | nil=>
   have e:qnq (x::s)=if x=32 then [] else [x]:=by simp only[qnq,h]
   rw[e]
   split<;>simp
  | cons y r=>
   have e:qnq (x::s)=x::y::r:=by simp only[qnq,h]
   rw[e]
   rw[h] at ih
   simp only[List.length_cons] at ih ⊢
   omega
theorem trimL_le (s:Str):(qzc s).length≤s.length:=(List.dropWhile_suffix (fun x=>x==32) (l:=s)).length_le
theorem trim_le (s:Str):(trim s).length≤s.length:=Nat.le_trans (trimL_le _) (trimR_le s)
def qbx (cur:Str):Str→List Str | []=>[cur] | [b]=>[cur++[b]] | a::b::r=>if a=124∧b=124 then cur::qbx [] r else qbx (cur++[a]) (b::r)
def sides (s:Str):List Str:=qbx [] s
theorem qeq:∀ (n:Nat) (s cur:Str),s.length≤n→(qbx cur s).length≤s.length+1∧∀ x∈qbx cur s,x.length≤cur.length+s.length
 | _,[],cur,_=>by simp[qbx]
 | _,[b],cur,_=>by simp[qbx]
 | 0,a::b::r,_,h=>by simp at h
 | n+1,a::b::r,cur,h=>by
  simp only[List.length_cons] at h
  simp only[qbx]
  split
  ·have h1:=qeq n r [] (by omega)
   refine⟨by simp only[List.length_cons];omega,fun x hx=>?_⟩
   rcases List.mem_cons.1 hx with rfl | hx
   ·omega
   ·have:=h1.2 x hx
    simp only[List.length_nil,List.length_cons] at this ⊢
    omega
  ·have h1:=qeq n (b::r) (cur++[a]) (by simp only[List.length_cons];omega)
   simp only[List.length_cons,List.length_append,List.length_nil] at h1 ⊢
   refine⟨by omega,fun x hx=>?_⟩
   have:=h1.2 x hx
   omega
def qko (piece:Str):Option (List RCmp):=qni (split 32 (trim piece))
def qcp:List Str→List (List RCmp)→Option (List (List RCmp))
 | [],acc=>some acc
 | p::r,acc=>match qko p with | some l=>qcp r (acc++[l]) | none=>none
def qbo (s:Str):Option (List (List RCmp)):=if (sides s).length≤4 then qcp (sides s) [] else none
def qqw (l:List RCmp):List Cell:=[encL 5 eCmp l]
instance:CanonE qqw:=⟨fun _=>.cons inferInstance .nil⟩
def qew (l:List (List RCmp)):Cell:=encL 1 qqw l
def cmpI (a b:Int):Int:=if a < b then -1 else if b < a then 1 else 0
def cmpS (a b:Str):Int:=if lt a b then -1 else if lt b a then 1 else 0
def figs (s:Str):Bool:=s.all qas
def cmpW (a b:Str):Int:=if figs a&&figs b then (if cmpI a.length b.length=0 then cmpS a b else cmpI a.length b.length) else if figs a then -1 else if figs b then 1 else cmpS a b
def cmpL:List Str→List Str→Int | [],[]=>0 | [],_::_=>-1 | _::_,[]=>1 | x::r,y::t=>if cmpW x y=0 then cmpL r t else cmpW x y
def qjxb (a b:List Str):Int:=match a,b with
 | [],[]=>0
 | [],_::_=>1
 | _::_,[]=>-1
 | x::r,y::t=>cmpL (x::r) (y::t)
def cmpV (v w:MVer):Int:=if cmpI v.A w.A=0 then (if cmpI v.B w.B=0 then (if cmpI v.C w.C=0 then qjxb v.Pre w.Pre else cmpI v.C w.C) else cmpI v.B w.B) else cmpI v.A w.A
def qzb (v w:MVer):Bool:=v.A==w.A&&(v.B==w.B&&(v.C==w.C&&v.Pre==w.Pre))
theorem qku (a b:Int):cmpI b a=- cmpI a b:=by unfold cmpI;split<;>split<;>omega
theorem qbw (a b:Int):cmpI a b=0↔a=b:=by unfold cmpI;split<;>(try split)<;>omega
theorem cmpS_anti (a b:Str):cmpS b a=- cmpS a b:=by
 unfold cmpS
 cases h1:lt a b<;>cases h2:lt b a<;>try rfl
 have:=lt_not a b
 rw[h1,h2] at this
 simp at this
theorem qfjb (a b:Str):cmpS a b=0↔a=b:=by
 unfold cmpS
 constructor
 ·intro h
  cases h1:lt a b with
  | true=>rw[h1] at h;simp at h
  | false=>
   cases h2:lt b a with
   | true=>rw[h1,h2] at h;simp at h
   | false=>
    have:=lt_not a b
    rw[h1,h2] at this
    simpa using this
 ·rintro rfl
  simp[lt_self]
theorem cmpW_anti (a b:Str):cmpW b a=- cmpW a b:=by
 unfold cmpW
 have h1:=qku a.length b.length
 have h2:=cmpS_anti a b
 rw[h1,h2]
 cases figs a<;>cases figs b<;>simp
 split<;>rfl
theorem qky (a b:Str):cmpW a b=0↔a=b:=by
 unfold cmpW
 cases ha:figs a<;>cases hb:figs b<;>simp only[Bool.and_self,Bool.and_false,Bool.and_true,if_true,Bool.false_eq_true,if_false]
 ·exact qfjb a b
 ·exact⟨fun h=>by simp at h,fun h=>by rw[h,hb] at ha;simp at ha⟩
 ·exact⟨fun h=>by simp at h,fun h=>by rw[h,hb] at ha;simp at ha⟩
 ·split
  ·exact qfjb a b
  ·rename_i h
   exact⟨fun h2=>absurd h2 h,fun h2=>by rw[h2] at h;exact absurd ((qbw _ _).2 rfl) h⟩
theorem qhab:∀ (a b:List Str),cmpL b a=- cmpL a b
 | [],[]=>rfl
 | [],_::_=>rfl
 | _::_,[]=>rfl
 | x::r,y::t=>by
  simp only[cmpL]
  have h:=cmpW_anti x y
  rw[h]
  by_cases h0:cmpW x y=0
  ·rw[if_pos h0,if_pos (by omega),qhab r t]
  ·rw[if_neg h0,if_neg (by omega)]
theorem qebb:∀ (a b:List Str),cmpL a b=0↔a=b
 | [],[]=>by simp[cmpL]
 | [],_::_=>by simp[cmpL]
 | _::_,[]=>by simp[cmpL]
 | x::r,y::t=>by
  simp only[cmpL]
  by_cases h0:cmpW x y=0
  ·rw[if_pos h0,qebb r t,(qky x y).1 h0]
   simp
  ·rw[if_neg h0]
   exact⟨fun h=>absurd h h0,fun h=>by
    simp only[List.cons.injEq] at h
    exact absurd ((qky x y).2 h.1) h0⟩
theorem qhwb (a b:List Str):qjxb b a=- qjxb a b:=by
 cases a<;>cases b<;>try rfl
 exact qhab _ _
theorem qlib (a b:List Str):qjxb a b=0↔a=b:=by
 cases a<;>cases b<;>try simp[qjxb]
 have:=qebb
 rename_i x r y t
 have h:=this (x::r) (y::t)
 simpa using h
theorem cmpV_anti (v w:MVer):cmpV w v=- cmpV v w:=by
 unfold cmpV
 rw[qku v.A w.A,qku v.B w.B,qku v.C w.C,qhwb v.Pre w.Pre]
 by_cases h1:cmpI v.A w.A=0
 ·rw[if_pos h1,if_pos (by omega)]
  by_cases h2:cmpI v.B w.B=0
  ·rw[if_pos h2,if_pos (by omega)]
   by_cases h3:cmpI v.C w.C=0
   ·rw[if_pos h3,if_pos (by omega)]
   ·rw[if_neg h3,if_neg (by omega)]
  ·rw[if_neg h2,if_neg (by omega)]
 ·rw[if_neg h1,if_neg (by omega)]
theorem cmpV_zero (v w:MVer):decide (cmpV v w=0)=qzb v w:=by
 rw[Bool.eq_iff_iff]
 simp only[decide_eq_true_eq,qzb,Bool.and_eq_true,beq_iff_eq]
 unfold cmpV
 by_cases h1:cmpI v.A w.A=0
 ·rw[if_pos h1]
  by_cases h2:cmpI v.B w.B=0
  ·rw[if_pos h2]
   by_cases h3:cmpI v.C w.C=0
   ·rw[if_pos h3,qlib]
    rw[qbw] at h1 h2 h3
    simp[h1,h2,h3]
   ·rw[if_neg h3]
    rw[qbw] at h3
    constructor
    ·intro h;exact absurd ((qbw _ _).1 h) h3
    ·intro h;exact absurd h.2.2.1 h3
  ·rw[if_neg h2]
   rw[qbw] at h2
   constructor
   ·intro h;exact absurd ((qbw _ _).1 h) h2
   ·intro h;exact absurd h.2.1 h2
 ·rw[if_neg h1]
  rw[qbw] at h1
  constructor
  ·intro h;exact absurd ((qbw _ _).1 h) h1
  ·intro h;exact absurd h.1 h1
def cmpOk (c:RCmp)(v:MVer):Bool:=if c.op=0 then decide (cmpV v c.v=0) else if c.op=1 then decide (cmpV v c.v < 0) else if c.op=2 then decide (cmpV v c.v≤0) else if c.op=3 then decide (cmpV v c.v > 0) else if c.op=4 then decide (cmpV v c.v≥0) else false
def tells (c:RCmp)(v:MVer):Bool:=decide (0 < c.v.Pre.length)&&(c.v.A==v.A&&(c.v.B==v.B&&c.v.C==v.C))
def takes (l:List RCmp)(v:MVer):Bool:=l.all (fun c=>cmpOk c v)&&(decide (v.Pre.length=0)||l.any (fun c=>tells c v))
def qrj (r:List (List RCmp))(v:MVer):Bool:=qex v&&r.any (fun l=>takes l v)
def qit (range:Str)(v:MVer):Bool:=match qbo range with | some r=>qrj r v | none=>false
def oo:Str:=[124,124]
theorem oo_prefix (a b:UInt8)(r:Str):oo.isPrefixOf (a::b::r)=decide (a=124∧b=124):=by
 simp only[oo,List.isPrefixOf,Bool.and_true]
 rw[Bool.eq_iff_iff]
 simp only[Bool.and_eq_true,beq_iff_eq,decide_eq_true_eq]
 exact⟨fun h=>⟨h.1.symm,h.2.symm⟩,fun h=>⟨h.1.symm,h.2.symm⟩⟩
theorem qqib (a b:UInt8)(r:Str):Lib.index (a::b::r) oo=if a=124∧b=124 then 0 else if Lib.index (b::r) oo==-1 then -1 else Lib.index (b::r) oo+1:=by
 rw[Lib.index,oo_prefix]
 simp only[decide_eq_true_eq]
theorem oo_one (b:UInt8):Lib.index [b] oo=-1:=by simp[Lib.index,oo,List.isPrefixOf]
theorem qmh:∀ (s cur:Str),Lib.index s oo=-1→qbx cur s=[cur++s]
 | [],cur,_=>by simp[qbx]
 | [b],cur,_=>by simp[qbx]
 | a::b::r,cur,h=>by
  rw[qqib] at h
  by_cases hab:a=124∧b=124
  ·rw[if_pos hab] at h
   omega
  ·rw[if_neg hab] at h
   have h2:Lib.index (b::r) oo=-1:=by
    have:=Lib.index_ge (b::r) oo
    split at h
    ·rename_i h3
     simpa using h3
    ·omega
   rw[qbx,if_neg hab,qmh (b::r) _ h2]
   simp
theorem qso:∀ (s cur:Str) (i:Nat),Lib.index s oo=(i:Int)→qbx cur s=(cur++s.take i)::qbx [] (s.drop (i+2))∧i+2≤s.length
 | [],cur,i,h=>by simp[Lib.index,oo] at h
 | [b],cur,i,h=>by rw[oo_one] at h;omega
 | a::b::r,cur,i,h=>by
  rw[qqib] at h
  by_cases hab:a=124∧b=124
  ·rw[if_pos hab] at h
   obtain rfl:i=0:=by omega
   rw[qbx,if_pos hab]
   simp
  ·rw[if_neg hab] at h
   split at h
   ·omega
   ·rename_i h3
    have hge:=Lib.index_ge (b::r) oo
    obtain⟨j,rfl⟩:∃ j,i=j+1:=⟨i - 1,by simp at h3;omega⟩
    obtain⟨h4,h5⟩:=qso (b::r) (cur++[a]) j (by omega)
    rw[qbx,if_neg hab,h4]
    simp only[List.length_cons] at h5 ⊢
    refine⟨?_,by omega⟩
    rw[show j+1+2=(j+2)+1 by omega,List.drop_succ_cons,List.take_succ_cons]
    simp
theorem qjn:∀ (n:Nat) (s:Str),s.length≤n→(sides s).length=Lib.count s oo+1:=by
 intro n
 induction n with
 | zero=>
  intro s h
  obtain rfl:s=[]:=List.eq_nil_of_length_eq_zero (by omega)
  rfl
 | succ n ih=>
  intro s h
  rcases Lib.index_spec s oo with⟨h1,_⟩ | ⟨i,h1,_⟩
  ·rw[sides,qmh _ _ h1,Lib.count_miss h1]
   rfl
  ·obtain⟨h2,h3⟩:=qso s [] i h1
   rw[sides,h2,List.length_cons]
   have:=ih (s.drop (i+2)) (by simp;omega)
   rw[sides] at this
   rw[this,Lib.count_hit (by simp[oo]) h1]
   have e:i+oo.length=i+2:=rfl
   rw[e]
   omega
theorem qkrb (s:Str):Lib.count s oo≤s.length:=by
 have h1:=qjn s.length s (Nat.le_refl _)
 have h2:=(qeq s.length s [] (Nat.le_refl _)).1
 unfold sides at h1
 omega
theorem qme (s:Str)(hs:s.length≤1073741824):out qyn [.one (Cell.str (bs s)),.one (Cell.str (bs oo))]=some [.one (Cell.int ((Lib.count s oo:Nat):Int))]:=by
 refine qaw (H:=[]) ?_
 show qdw _ _=_
 have e:qdw [.one (.sc (.string (bs s))),.one (.sc (.string (bs oo)))] []=if (bs s).size < 4294967281∧2≤(bs oo).size then some ([.one (.sc (.int .i64 (Lib.count (bs s).data.toList (bs oo).data.toList:Nat)))],[]) else none:=rfl
 rw[e,if_pos ⟨by rw[qbm];omega,by rw[qbm];decide⟩]
 simp only[qhf]
theorem qjf (s:Str)(hs:s.length≤1073741824):qlg [.one (Cell.str (bs s)),.one (Cell.str (bs oo)),.one (Cell.int 0),.one (Cell.int (-1))] []=some ([.one (.vs 0 1 0 (Lib.count s oo+1) 0)],[Entry.mk 1 ((sides s).map eStr) 0 false]):=by
 have hM:=qah
 have hct:Lib.count s oo≤s.length:=qkrb s
 have hsl:=qjn s.length s (Nat.le_refl _)
 have hput:∀ (rows:List (List Cell)) (i:Nat) (row:List Cell) (y:Str),rows[i]?=some row→row.length=1→qce [Entry.mk 1 rows 0 false] (.ptr 0 1 i 0 0) [Cell.str (bs y)]=some [Entry.mk 1 (rows.set i (eStr y)) 0 false]:=by
  intro rows i row y h hr
  simp only[qce,entry?,List.getElem?_cons_zero,if_true,h]
  rw[if_pos ⟨trivial,by simp,trivial⟩]
  simp[splice,eStr,hr,List.drop_eq_nil_of_le]
 have loop:∀ (d:Nat) (r:Str) (done:List Str) (n:Nat),Lib.count r oo=d→done.length+d=Lib.count s oo→r.length≤s.length→sides s=done++sides r→d < n→∀ k m,
   qmk k m n (bs r) (bs oo) 0 ((Lib.count s oo:Nat):Int) (.vs 0 1 0 (Lib.count s oo+1) 0) ((done.length:Nat):Int) [Entry.mk 1 (done.map eStr++List.replicate (d+1) [Cell.str (bs [])]) 0 false]=
    some ([.one (.vs 0 1 0 (Lib.count s oo+1) 0)],[Entry.mk 1 ((sides s).map eStr) 0 false]):=by
  intro d
  induction d with
  | zero=>
   intro r done n hc hd hr hsp hn k m
   obtain⟨n,rfl⟩:∃ j,n=j+1:=⟨n - 1,by omega⟩
   have hnc:sides r=[r]:=by
    rcases Lib.index_spec r oo with⟨h1,_⟩ | ⟨i,h1,_⟩
    ·rw[sides,qmh _ _ h1]
     rfl
    ·have:=Lib.count_hit (sub:=oo) (by simp[oo]) h1
     omega
   simp only[qmk]
   rw[decide_eq_false (by omega),cond_false]
   have hrow:(done.map eStr++List.replicate (0+1) [Cell.str (bs [])])[done.length]?=some [Cell.str (bs [])]:=by simp
   simp only[qfk 0 1 (Lib.count s oo+1) 0 done.length (by omega),Option.bind_some,hput _ _ _ r hrow rfl]
   have hset:(done.map eStr++List.replicate (0+1) [Cell.str (bs [])]).set done.length (eStr r)=(sides s).map eStr:=by
    rw[hsp,hnc,List.set_append_right _ _ (by simp)]
    simp
   rw[hset,show IntKind.i64.wrap ((done.length:Int)+1)=((Lib.count s oo+1:Nat):Int) by rw[qag (by omega)];omega]
   have hsl':slcC 1 (.vs 0 1 0 (Lib.count s oo+1) 0) 0 (some ((Lib.count s oo+1:Nat):Int)) none=some (.vs 0 1 0 (Lib.count s oo+1) 0):=by
    simp only[slcC,Option.getD_some,Option.getD_none,if_true]
    rw[if_pos ⟨by omega,by omega,by omega,by omega⟩,if_pos (.inl trivial)]
    simp
   rw[hsl']
   rfl
  | succ d ih=>
   intro r done n hc hd hr hsp hn k m
   obtain⟨n,rfl⟩:∃ j,n=j+1:=⟨n - 1,by omega⟩
   obtain⟨i,hi⟩:∃ i:Nat,Lib.index r oo=(i:Int):=by
    rcases Lib.index_spec r oo with⟨h1,_⟩ | ⟨i,h1,_⟩
    ·have:=Lib.count_miss h1
     omega
    ·exact⟨i,h1⟩
   obtain⟨h2,h3⟩:=qso r [] i hi
   have h4:=Lib.count_hit (sub:=oo) (by simp[oo]) hi
   have e5:i+oo.length=i+2:=rfl
   rw[e5] at h4
   simp only[qmk]
   rw[decide_eq_true (by omega),cond_true]
   simp only[qgi r oo (by omega),hi,EV0]
   rw[decide_eq_false (by omega),cond_false]
   have e1:=qcw r 0 i (by omega) (by omega)
   simp only[Int.natCast_zero,List.drop_zero] at e1
   rw[show IntKind.i64.wrap ((i:Int)+0)=(i:Int) by rw[Int.add_zero];exact wrap_small (by omega) (by omega),e1]
   have hrow:(done.map eStr++List.replicate (d+1+1) [Cell.str (bs [])])[done.length]?=some [Cell.str (bs [])]:=by simp
   simp only[Option.bind_some,qfk 0 1 (Lib.count s oo+1) 0 done.length (by omega),hput _ _ _ (r.take i) hrow rfl]
   have e2:=qcw r (i+2) r.length (by omega) (Nat.le_refl _)
   rw[List.take_length] at e2
   rw[show IntKind.i64.wrap ((i:Int)+((oo.length:Nat):Int))=((i+2:Nat):Int) by rw[wrap_small (by simp[oo];omega) (by simp[oo];omega)];simp[oo],e2,qag (by omega)]
   simp only[Option.bind_some]
   have hset:(done.map eStr++List.replicate (d+1+1) [Cell.str (bs [])]).set done.length (eStr (r.take i))=(done++[r.take i]).map eStr++List.replicate (d+1) [Cell.str (bs [])]:=by
    rw[List.set_append_right _ _ (by simp)]
    simp[List.replicate_succ]
   rw[hset]
   have h6:sides r=r.take i::sides (r.drop (i+2)):=by
    rw[sides,h2]
    rfl
   have:=ih (r.drop (i+2)) (done++[r.take i]) n (by omega) (by simp;omega) (by simp;omega) (by rw[hsp,h6];simp) (by omega) k m
   rw[show(done++[r.take i]).length=done.length+1 by simp] at this
   exact this
 have hmin:(if IntKind.i64.wrap ((s.length:Int)+1) < IntKind.i64.wrap (((Lib.count s oo:Nat):Int)+1) then IntKind.i64.wrap ((s.length:Int)+1) else IntKind.i64.wrap (((Lib.count s oo:Nat):Int)+1))=((Lib.count s oo+1:Nat):Int):=by
  rw[qag (by omega),qag (by omega),if_neg (by omega)]
 have z:=loop (Lib.count s oo) s [] (Lib.count s oo+1+1) rfl (by simp) (Nat.le_refl _) (by simp) (by omega) (Lib.count s oo+1+1) (Lib.count s oo+1+1)
 refine qxe (Lib.count s oo+1) ?_
 ·simp only[ffh]
  rw[show((-1:Int)==0)=false from rfl,cond_false]
  simp only[qcg]
  rw[show((oo:Str)==[])=false from rfl,cond_false,show decide ((-1:Int) < 0)=true from rfl,cond_true]
  simp only[qme s hs,EV0,hmin]
  rw[if_pos ⟨by omega,by omega,by unfold bound;omega,by unfold bound;omega⟩]
  rw[show IntKind.i64.wrap (((Lib.count s oo+1:Nat):Int) - 1)=((Lib.count s oo:Nat):Int) from qsb (by omega)]
  simpa[qcd] using z
theorem qoa (s:Str)(hs:s.length≤1073741824):Fresh qer true 2 [.one (Cell.str (bs s)),.one (Cell.str (bs oo))] [.one (trL 1 qfm (sides s))]:=by
 have hg:GrowAt ([]:List Entry).length 1 (.vs 0 1 0 (Lib.count s oo+1) 0) [Entry.mk 1 ((sides s).map eStr) 0 false] ((sides s).map eStr):=.inr ⟨0,by rw[List.length_map,qjn s.length s (Nat.le_refl _)];rfl,rfl⟩
 obtain⟨ids,r1,r2,_⟩:=hg.list
 refine Fresh.tailO (Fresh.one (qjf s hs) r1 r2) [] (qbe _ _ _) fun c' E hc=>qvf 0 ?_
 simp only[ffe,hc,EV0]
theorem c_fad (a:Int):out qqe [.one (Cell.int a)]=some [.one (Cell.bool false)]:=by
 refine qaw (H:=[]) (qrib 0 ?_)
 simp[fad]
theorem c_fae (a:Str):out qrr [.one (Cell.str (bs a))]=some [.one (Cell.bool false)]:=by
 refine qaw (H:=[]) (qmdb 0 ?_)
 simp[fae]
theorem c_faa (a b:Int):out qfl [.one (Cell.int a),.one (Cell.int b)]=some [.one (Cell.int (cmpI a b))]:=by
 refine qaw (H:=[]) (qreb 0 ?_)
 simp only[faa,c_fad,EV0]
 unfold cmpI
 by_cases h:a < b
 ·rw[decide_eq_true h,cond_true,if_pos h]
 ·rw[decide_eq_false h,cond_false,if_neg h]
  by_cases h2:b < a
  ·rw[decide_eq_true h2,cond_true,if_pos h2]
  ·rw[decide_eq_false h2,cond_false,if_neg h2]
theorem c_fab (a b:Str):out qhd [.one (Cell.str (bs a)),.one (Cell.str (bs b))]=some [.one (Cell.int (cmpS a b))]:=by
 refine qaw (H:=[]) (qrob 0 ?_)
 simp only[fab,c_fae,EV0]
 rw[bl_eq,lt_not]
 unfold cmpS
 cases lt a b<;>cases lt b a<;>rfl
def qrh:List Int→Int | []=>0 | x::r=>if x=0 then qrh r else x
theorem c_fac (xs:List Int)(hl:xs.length≤8):out qfh [.one (encL 1 eInt xs)]=some [.one (Cell.int (qrh xs))]:=by
 have hM:=qah
 have loop:∀ (r:List Int) (i n:Nat),xs.drop i=r→r.length < n→∀ k m,qbgb k m n (encL 1 eInt xs) xs.length i=some ([.one (Cell.int (qrh r))],[]):=by
  intro r
  induction r with
  | nil=>
   intro i n hd hn k m
   obtain⟨n,rfl⟩:∃ j,n=j+1:=⟨n - 1,by omega⟩
   have:=drop_nil hd
   simp only[qbgb]
   rw[decide_eq_false (by omega),cond_false]
   rfl
  | cons x r ih=>
   intro i n hd hn k m
   obtain⟨n,rfl⟩:∃ j,n=j+1:=⟨n - 1,by omega⟩
   obtain⟨hlt,hg,hd'⟩:=qai hd
   simp only[List.length_cons] at hn
   simp only[qbgb,qak,hg,eInt,EV0]
   rw[decide_eq_true (by omega),cond_true,qag (by omega),ih (i+1) n hd' (by omega)]
   simp only[qrh]
   by_cases h:x=0
   ·rw[if_pos h,h]
    rfl
   ·rw[if_neg h,show(x != 0)=true by simpa using h,cond_true]
 refine qaw (H:=[]) (qmnb (xs.length+1) ?_)
 simp only[fac,EV0]
 exact loop xs 0 (xs.length+1+1) rfl (by omega) (xs.length+1+1) (xs.length+1+1)
theorem or2 (a b:Int)(H:List Entry):qau qfh [.one (.lst true 1 [[Cell.int a],[Cell.int b]])] H=some [.one (Cell.int (if a=0 then b else a))]:=by
 rw[qgd (show mapO (qan false H) [.one (.lst true 1 [[Cell.int a],[Cell.int b]])]=some [.one (encL 1 eInt [a,b])] from rfl),c_fac _ (by simp)]
 simp only[qrh]
 by_cases h:b=0
 ·rw[if_pos h,h]
 ·rw[if_neg h]
theorem or3 (a b c:Int)(H:List Entry):qau qfh [.one (.lst true 1 [[Cell.int a],[Cell.int b],[Cell.int c]])] H=some [.one (Cell.int (if a=0 then (if b=0 then c else b) else a))]:=by
 rw[qgd (show mapO (qan false H) [.one (.lst true 1 [[Cell.int a],[Cell.int b],[Cell.int c]])]=some [.one (encL 1 eInt [a,b,c])] from rfl),c_fac _ (by simp)]
 simp only[qrh]
 by_cases h:c=0
 ·rw[if_pos h,h]
 ·rw[if_neg h]
theorem qdxb (a b:Str):cmpW a b=cond (a.all qas) (cond (b.all qas) (if cmpI a.length b.length=0 then cmpS a b else cmpI a.length b.length) (-1)) (cond (b.all qas) 1 (cmpS a b)):=by
 unfold cmpW figs
 rcases Bool.eq_false_or_eq_true (a.all qas) with h1 | h1<;>rcases Bool.eq_false_or_eq_true (b.all qas) with h2 | h2<;>simp[h1,h2]
theorem qjy (x:Str)(r:List Str):((((x::r).length:Nat):Int)==0)=false:=by
 rw[beq_eq_false_iff_ne]
 simp only[List.length_cons]
 omega
theorem len_pos (x:Str)(r:List Str):decide ((((x::r).length:Nat):Int) > 0)=true:=by
 rw[decide_eq_true_eq]
 simp only[List.length_cons]
 omega
theorem len_nil:(((([]:List Str).length:Nat):Int)==0)=true:=rfl
theorem r_faz (a b:Str)(ha:a.length≤1073741824)(hb:b.length≤1073741824):qog [.one (Cell.str (bs a)),.one (Cell.str (bs b))] []=some ([.one (Cell.int (cmpW a b))],[]):=by
 refine qpfb 0 ?_
 simp only[faz,c_fbe a ha,c_fbe b hb,c_faa,c_fab,or2,figV,EV0]
 rw[qdxb]
 by_cases h1:a=[]
 ·subst h1
  by_cases h2:b=[]
  ·subst h2
   rfl
  ·rw[show(b==[])=false by simpa using h2]
   simp only[show(([]:Str)==[])=true from rfl,cond_true,cond_false,Bool.not_false,Bool.and_true,List.all_nil]
   cases b.all qas<;>rfl
 ·rw[show(a==[])=false by simpa using h1]
  by_cases h2:b=[]
  ·subst h2
   simp only[show(([]:Str)==[])=true from rfl,cond_true,cond_false,Bool.not_false,Bool.and_true,List.all_nil]
   cases a.all qas<;>rfl
  ·rw[show(b==[])=false by simpa using h2]
   simp only[cond_false,Bool.not_false,Bool.and_true]
   cases a.all qas<;>cases b.all qas<;>rfl
theorem qia (a b:List Str)(ha:bdL 1048576 (bdS 1048576) a)(hb:bdL 1048576 (bdS 1048576) b):qtd [.one (qba a),.one (qba b),.one (.fn qhi [] [])] []=some ([.one (Cell.int (cmpL a b))],[]):=by
 have hM:=qah
 have hal:=ha.1
 have hbl:=hb.1
 have loop:∀ (r:List Str) (i n:Nat),a.drop i=r→i≤b.length→i≤a.length→r.length < n→∀ k m,qaq k m n (qba a) (qba b) (qba a) a.length i []=some ([.one (Cell.int (cmpL r (b.drop i)))],[]):=by
  intro r
  induction r with
  | nil=>
   intro i n hd hi hia hn k m
   obtain⟨n,rfl⟩:∃ j,n=j+1:=⟨n - 1,by omega⟩
   have:=drop_nil hd
   have hi2:i=a.length∨a.length < i:=by omega
   simp only[qaq,EV0]
   rw[decide_eq_false (by omega),cond_false]
   cases ht:b.drop i with
   | nil=>
    have:=drop_nil ht
    rw[decide_eq_false (by omega),cond_false]
    rfl
   | cons y t=>
    obtain⟨hlt,_,_⟩:=qai ht
    by_cases h:a.length < b.length
    ·rw[decide_eq_true (by omega),cond_true]
     rfl
    ·omega
  | cons x r ih=>
   intro i n hd hi hia hn k m
   obtain⟨n,rfl⟩:∃ j,n=j+1:=⟨n - 1,by omega⟩
   obtain⟨hlt,hg,hd'⟩:=qai hd
   simp only[List.length_cons] at hn
   have hx:=ha.2 x (List.mem_of_getElem? hg)
   simp only[qaq,qak,hg,eStr,EV0]
   rw[decide_eq_true (by omega),cond_true]
   cases ht:b.drop i with
   | nil=>
    have:=drop_nil ht
    rw[decide_eq_true (by omega),cond_true]
    rfl
   | cons y t=>
    obtain⟨hlt2,hg2,hd2⟩:=qai ht
    have hy:=hb.2 y (List.mem_of_getElem? hg2)
    have q:out qog [.one (Cell.str (bs x)),.one (Cell.str (bs y))]=some [.one (Cell.int (cmpW x y))]:=qaw (r_faz x y (Nat.le_trans hx (by omega)) (Nat.le_trans hy (by omega)))
    rw[decide_eq_false (by omega),cond_false]
    simp only[hg2,q,EV0]
    rw[qag (by omega)]
    simp only[cmpL]
    by_cases h0:cmpW x y=0
    ·rw[if_pos h0,h0,show((0:Int) != 0)=false from rfl,cond_false,ih (i+1) n hd' (by omega) (by omega) (by omega),hd2]
    ·rw[if_neg h0,show(cmpW x y != 0)=true by simpa using h0,cond_true]
 refine qcm (a.length+1) ?_
 simp only[qbg,EV0]
 exact loop a 0 (a.length+1+1) rfl (by omega) (by omega) (by omega) (a.length+1+1) (a.length+1+1)
theorem c_fay (v w:MVer)(hv:v.Bd 1048576)(hw:w.Bd 1048576):out qwp [.agg [Cell.int v.A,Cell.int v.B,Cell.int v.C,qba v.Pre],.agg [Cell.int w.A,Cell.int w.B,Cell.int w.C,qba w.Pre]]=some [.one (Cell.int (cmpV v w))]:=by
 have hl1:=hv.2.2.2.1
 have hl2:=hw.2.2.2.1
 refine qaw (H:=[]) (qqqb 0 ?_)
 simp only[fay,c_faa,or3,qia v.Pre w.Pre hv.2.2.2 hw.2.2.2,EV0]
 unfold cmpV
 by_cases h1:cmpI v.A w.A=0
 ·rw[if_pos h1,if_pos h1]
  by_cases h2:cmpI v.B w.B=0
  ·rw[if_pos h2,if_pos h2]
   by_cases h3:cmpI v.C w.C=0
   ·rw[if_pos h3,h3,show((0:Int) != 0)=false from rfl,cond_false]
    cases hp:v.Pre<;>cases hq:w.Pre
    ·rfl
    ·rw[qjy,len_nil]
     rfl
    ·rw[qjy,len_nil,len_pos]
     rfl
    ·rw[qjy,qjy]
     rfl
   ·rw[if_neg h3,show(cmpI v.C w.C != 0)=true by simpa using h3,cond_true]
  ·rw[if_neg h2,if_neg h2,show(cmpI v.B w.B != 0)=true by simpa using h2,cond_true]
 ·rw[if_neg h1,if_neg h1,show(cmpI v.A w.A != 0)=true by simpa using h1,cond_true]
theorem qsl (a b:Int):decide (cmpI a b < 0)=decide (a < b):=by
 unfold cmpI
 rw[decide_eq_decide]
 split<;>(try split)<;>omega
theorem qqnb (a b:Str):decide (cmpS a b < 0)=lt a b:=by
 unfold cmpS
 cases lt a b<;>cases lt b a<;>rfl
theorem c_fee (a b:Str)(ha:a.length≤1073741824)(hb:b.length≤1073741824):out qxg [.one (Cell.str (bs a)),.one (Cell.str (bs b))]=some [.one (Cell.bool (decide (cmpW a b < 0)))]:=by
 refine qaw (H:=[]) (qmzb 0 ?_)
 simp only[fee,c_fed a ha,c_fed b hb,figV,EV0]
 rw[bl_eq,qdxb]
 cases a.all qas<;>cases b.all qas<;>simp only[cond_true,cond_false,beq_self_eq_true,Bool.not_true,show(true==false)=false from rfl,show(false==true)=false from rfl,Bool.not_false]
 ·rw[qqnb]
 ·rfl
 ·rfl
 ·by_cases h:a.length=b.length
  ·rw[if_pos ((qbw _ _).2 (by omega)),show((a.length:Int) != (b.length:Int))=false by rw[h];simp,cond_false,qqnb]
  ·rw[if_neg fun h2=>h (by have:=(qbw _ _).1 h2;omega),show((a.length:Int) != (b.length:Int))=true by rw[bne_iff_ne];omega,cond_true,qsl]
theorem c_fef (a b:List Str)(ha:bdL 1048576 (bdS 1048576) a)(hb:bdL 1048576 (bdS 1048576) b):out qxo [.one (qba a),.one (qba b)]=some [.one (Cell.bool (decide (qjxb a b < 0)))]:=by
 have hM:=qah
 have hal:=ha.1
 have hbl:=hb.1
 have loop:∀ (r:List Str) (i n:Nat),a.drop i=r→i≤b.length→i≤a.length→r.length < n→∀ k m,qzr k m n (qba a) (qba b) i=some ([.one (Cell.bool (decide (cmpL r (b.drop i) < 0)))],[]):=by
  intro r
  induction r with
  | nil=>
   intro i n hd hi hia hn k m
   obtain⟨n,rfl⟩:∃ j,n=j+1:=⟨n - 1,by omega⟩
   have:=drop_nil hd
   simp only[qzr,EV0]
   rw[decide_eq_false (by omega),cond_false]
   cases ht:b.drop i with
   | nil=>
    have:=drop_nil ht
    rw[decide_eq_false (by omega)]
    rfl
   | cons y t=>
    obtain⟨hlt,_,_⟩:=qai ht
    rw[decide_eq_true (by omega)]
    rfl
  | cons x r ih=>
   intro i n hd hi hia hn k m
   obtain⟨n,rfl⟩:∃ j,n=j+1:=⟨n - 1,by omega⟩
   obtain⟨hlt,hg,hd'⟩:=qai hd
   simp only[List.length_cons] at hn
   have hx:=ha.2 x (List.mem_of_getElem? hg)
   simp only[qzr,qak,hg,eStr,EV0]
   rw[decide_eq_true (by omega),cond_true]
   cases ht:b.drop i with
   | nil=>
    have:=drop_nil ht
    rw[decide_eq_false (by omega),cond_false,decide_eq_false (by omega)]
    rfl
   | cons y t=>
    obtain⟨hlt2,hg2,hd2⟩:=qai ht
    have hy:=hb.2 y (List.mem_of_getElem? hg2)
    rw[decide_eq_true (by omega),cond_true]
    simp only[hg2,c_fee x y (Nat.le_trans hx (by omega)) (Nat.le_trans hy (by omega)),EV0]
    have hcl:cmpL (x::r) (y::t)=if cmpW x y=0 then cmpL r t else cmpW x y:=rfl
    by_cases h0:x=y
    ·have e:cmpL (x::r) (y::t)=cmpL r t:=by rw[hcl,if_pos ((qky x y).2 h0)]
     rw[e,show(x==y)=true by simpa using h0,Bool.not_true,cond_false,qag (by omega),ih (i+1) n hd' (by omega) (by omega) (by omega),hd2]
    ·have e:cmpL (x::r) (y::t)=cmpW x y:=by rw[hcl,if_neg fun h=>h0 ((qky x y).1 h)]
     rw[e,show(x==y)=false by simpa using h0,Bool.not_false,cond_true]
 refine qaw (H:=[]) (qnvb (a.length+1) ?_)
 have z:=loop a 0 (a.length+1+1) rfl (by omega) (by omega) (by omega) (a.length+1+1) (a.length+1+1)
 simp only[fef,EV0]
 cases a with
 | nil=>cases b with
  | nil=>rfl
  | cons y t=>rfl
 | cons x r=>
  rw[qjy,cond_false]
  cases b with
  | nil=>
   rw[len_nil,cond_true,len_pos,cond_true]
   rfl
  | cons y t=>
   rw[qjy,cond_false]
   exact z
theorem c_fdj (v w:MVer)(hv:v.Bd 1048576)(hw:w.Bd 1048576):out qkg [.agg [Cell.int v.A,Cell.int v.B,Cell.int v.C,qba v.Pre],.agg [Cell.int w.A,Cell.int w.B,Cell.int w.C,qba w.Pre]]=some [.one (Cell.bool (decide (cmpV v w < 0)))]:=by
 refine qaw (H:=[]) (qswb 0 ?_)
 simp only[fdj,c_fef v.Pre w.Pre hv.2.2.2 hw.2.2.2,EV0]
 unfold cmpV
 by_cases h1:v.A=w.A
 ·rw[if_pos ((qbw _ _).2 h1),show(v.A != w.A)=false by simpa using h1,cond_false]
  by_cases h2:v.B=w.B
  ·rw[if_pos ((qbw _ _).2 h2),show(v.B != w.B)=false by simpa using h2,cond_false]
   by_cases h3:v.C=w.C
   ·rw[if_pos ((qbw _ _).2 h3),show(v.C != w.C)=false by simpa using h3,cond_false]
   ·rw[if_neg fun h=>h3 ((qbw _ _).1 h),show(v.C != w.C)=true by simpa using h3,cond_true,qsl]
  ·rw[if_neg fun h=>h2 ((qbw _ _).1 h),show(v.B != w.B)=true by simpa using h2,cond_true,qsl]
 ·rw[if_neg fun h=>h1 ((qbw _ _).1 h),show(v.A != w.A)=true by simpa using h1,cond_true,qsl]
theorem c_feh (v w:MVer)(c d:Cell)(hc:Canon c)(hd:Canon d):out qkd [.agg [Cell.int v.A,Cell.int v.B,Cell.int v.C,c],.agg [Cell.int w.A,Cell.int w.B,Cell.int w.C,d]]=some [.one (Cell.bool (v.A==w.A&&(v.B==w.B&&v.C==w.C)))]:=by
 refine qaw (H:=[]) (qoxb 0 ?_)
 simp only[feh]
 cases v.A==w.A<;>cases v.B==w.B<;>rfl
theorem c_feb_eq (a b:List Str)(ha:bdL 1048576 (bdS 1048576) a):out qyf [.one (qba a),.one (qba b)]=some [.one (Cell.bool (a==b))]:=by
  have hM := qah
  have hal := ha.1
  by_cases hl : a.length = b.length
  · refine qaw (H := []) (qwa (a.length + 1) ?_)
    simp only [feb, EV0]
    rw [show ((a.length : Int) != (b.length : Int)) = false by rw [hl]; simp, cond_false]
    have hd : ∀ (r : List Str) (i : Nat), a.drop i = r → (b.drop i).length = r.length := fun r i h => by rw [← h, List.length_drop, List.length_drop, hl]
    first
    | have loop : ∀ (r : List Str) (i n : Nat), a.drop i = r → r.length < n → ∀ k m, qps k m n (qba a) (qba b) i = some ([.one (Cell.bool (r == b.drop i))], []) := by
        intro r
        induction r with
        | nil =>
          intro i n hdr hn k m
          obtain ⟨n, rfl⟩ : ∃ j, n = j + 1 := ⟨n - 1, by omega⟩
          have := drop_nil hdr
          simp only [qps, EV0]
          rw [decide_eq_false (by omega), cond_false, show b.drop i = [] from List.eq_nil_of_length_eq_zero (hd [] i hdr)]
          rfl
        | cons x r ih =>
          intro i n hdr hn k m
          obtain ⟨n, rfl⟩ : ∃ j, n = j + 1 := ⟨n - 1, by omega⟩
          obtain ⟨hlt, hg, hd'⟩ := qai hdr
          simp only [List.length_cons] at hn
          obtain ⟨y, t, ht⟩ : ∃ y t, b.drop i = y :: t := by
            match h : b.drop i, hd _ i hdr with
            | y :: t, _ => exact ⟨y, t, rfl⟩
          obtain ⟨hlt2, hg2, hd2⟩ := qai ht
          simp only [qps, qak, hg, hg2, eStr, EV0]
          rw [decide_eq_true (by omega), cond_true, qag (by omega), ih (i + 1) n hd' (by omega), hd2, ht]
          rw [List.cons_beq_cons]
          cases x == y <;> rfl
      have := loop a 0 (a.length + 1 + 1) rfl (by omega) (a.length + 1 + 1) (a.length + 1 + 1)
      simpa using this
    | have loop : ∀ (r : List Str) (i n : Nat), a.drop i = r → r.length < n → ∀ k m, qps k m n (qba a) (qba b) a.length i = some ([.one (Cell.bool (r == b.drop i))], []) := by
        intro r
        induction r with
        | nil =>
          intro i n hdr hn k m
          obtain ⟨n, rfl⟩ : ∃ j, n = j + 1 := ⟨n - 1, by omega⟩
          have := drop_nil hdr
          simp only [qps, EV0]
          rw [decide_eq_false (by omega), cond_false, show b.drop i = [] from List.eq_nil_of_length_eq_zero (hd [] i hdr)]
          rfl
        | cons x r ih =>
          intro i n hdr hn k m
          obtain ⟨n, rfl⟩ : ∃ j, n = j + 1 := ⟨n - 1, by omega⟩
          obtain ⟨hlt, hg, hd'⟩ := qai hdr
          simp only [List.length_cons] at hn
          obtain ⟨y, t, ht⟩ : ∃ y t, b.drop i = y :: t := by
            match h : b.drop i, hd _ i hdr with
            | y :: t, _ => exact ⟨y, t, rfl⟩
          obtain ⟨hlt2, hg2, hd2⟩ := qai ht
          simp only [qps, qak, hg, hg2, eStr, EV0]
          rw [decide_eq_true (by omega), cond_true, qag (by omega), ih (i + 1) n hd' (by omega), hd2, ht]
          rw [List.cons_beq_cons]
          cases x == y <;> rfl
      have := loop a 0 (a.length + 1 + 1) rfl (by omega) (a.length + 1 + 1) (a.length + 1 + 1)
      simpa using this
  · refine qaw (H := []) (qwa 0 ?_)
    simp only [feb, EV0]
    rw [show ((a.length : Int) != (b.length : Int)) = true by rw [bne_iff_ne]; omega, cond_true, show (a == b) = false by rw [beq_eq_false_iff_ne]; exact fun h => hl (by rw [h])]
theorem c_fdd_eq (a b:List Str)(ha:bdL 1048576 (bdS 1048576) a):out qte [.one (qba a),.one (qba b)]=some [.one (Cell.bool (a==b))]:=by
  have hM := qah
  have hal := ha.1
  by_cases hl : a.length = b.length
  · refine qaw (H := []) (qxt (a.length + 1) ?_)
    simp only [fdd, EV0]
    rw [show ((a.length : Int) != (b.length : Int)) = false by rw [hl]; simp, cond_false]
    have hd : ∀ (r : List Str) (i : Nat), a.drop i = r → (b.drop i).length = r.length := fun r i h => by rw [← h, List.length_drop, List.length_drop, hl]
    first
    | have loop : ∀ (r : List Str) (i n : Nat), a.drop i = r → r.length < n → ∀ k m, qpr k m n (qba a) (qba b) i = some ([.one (Cell.bool (r == b.drop i))], []) := by
        intro r
        induction r with
        | nil =>
          intro i n hdr hn k m
          obtain ⟨n, rfl⟩ : ∃ j, n = j + 1 := ⟨n - 1, by omega⟩
          have := drop_nil hdr
          simp only [qpr, EV0]
          rw [decide_eq_false (by omega), cond_false, show b.drop i = [] from List.eq_nil_of_length_eq_zero (hd [] i hdr)]
          rfl
        | cons x r ih =>
          intro i n hdr hn k m
          obtain ⟨n, rfl⟩ : ∃ j, n = j + 1 := ⟨n - 1, by omega⟩
          obtain ⟨hlt, hg, hd'⟩ := qai hdr
          simp only [List.length_cons] at hn
          obtain ⟨y, t, ht⟩ : ∃ y t, b.drop i = y :: t := by
            match h : b.drop i, hd _ i hdr with
            | y :: t, _ => exact ⟨y, t, rfl⟩
          obtain ⟨hlt2, hg2, hd2⟩ := qai ht
          simp only [qpr, qak, hg, hg2, eStr, EV0]
          rw [decide_eq_true (by omega), cond_true, qag (by omega), ih (i + 1) n hd' (by omega), hd2, ht]
          rw [List.cons_beq_cons]
          cases x == y <;> rfl
      have := loop a 0 (a.length + 1 + 1) rfl (by omega) (a.length + 1 + 1) (a.length + 1 + 1)
      simpa using this
    | have loop : ∀ (r : List Str) (i n : Nat), a.drop i = r → r.length < n → ∀ k m, qpr k m n (qba a) (qba b) a.length i = some ([.one (Cell.bool (r == b.drop i))], []) := by
        intro r
        induction r with
        | nil =>
          intro i n hdr hn k m
          obtain ⟨n, rfl⟩ : ∃ j, n = j + 1 := ⟨n - 1, by omega⟩
          have := drop_nil hdr
          simp only [qpr, EV0]
          rw [decide_eq_false (by omega), cond_false, show b.drop i = [] from List.eq_nil_of_length_eq_zero (hd [] i hdr)]
          rfl
        | cons x r ih =>
          intro i n hdr hn k m
          obtain ⟨n, rfl⟩ : ∃ j, n = j + 1 := ⟨n - 1, by omega⟩
          obtain ⟨hlt, hg, hd'⟩ := qai hdr
          simp only [List.length_cons] at hn
          obtain ⟨y, t, ht⟩ : ∃ y t, b.drop i = y :: t := by
            match h : b.drop i, hd _ i hdr with
            | y :: t, _ => exact ⟨y, t, rfl⟩
          obtain ⟨hlt2, hg2, hd2⟩ := qai ht
          simp only [qpr, qak, hg, hg2, eStr, EV0]
          rw [decide_eq_true (by omega), cond_true, qag (by omega), ih (i + 1) n hd' (by omega), hd2, ht]
          rw [List.cons_beq_cons]
          cases x == y <;> rfl
      have := loop a 0 (a.length + 1 + 1) rfl (by omega) (a.length + 1 + 1) (a.length + 1 + 1)
      simpa using this
  · refine qaw (H := []) (qxt 0 ?_)
    simp only [fdd, EV0]
    rw [show ((a.length : Int) != (b.length : Int)) = true by rw [bne_iff_ne]; omega, cond_true, show (a == b) = false by rw [beq_eq_false_iff_ne]; exact fun h => hl (by rw [h])]
theorem c_fdr (v w:MVer)(hv:v.Bd 1048576):out qpn [.agg [Cell.int v.A,Cell.int v.B,Cell.int v.C,qba v.Pre],.agg [Cell.int w.A,Cell.int w.B,Cell.int w.C,qba w.Pre]]=some [.one (Cell.bool (qzb v w))]:=by
 refine qaw (H:=[]) (qonb 0 ?_)
 simp only[fdr,c_feh v w (qba v.Pre) (qba w.Pre) inferInstance inferInstance,c_feb_eq v.Pre w.Pre hv.2.2.2,EV0,qzb]
 cases v.A==w.A<;>cases v.B==w.B<;>cases v.C==w.C<;>rfl
theorem c_fdg (c:RCmp)(v:MVer)(hc:c.v.Bd 1048576)(hv:v.Bd 1048576):out qum [.agg [Cell.int c.op,Cell.int c.v.A,Cell.int c.v.B,Cell.int c.v.C,qba c.v.Pre],.agg [Cell.int v.A,Cell.int v.B,Cell.int v.C,qba v.Pre]]=some [.one (Cell.bool (cmpOk c v))]:=by
 refine qaw (H:=[]) (qrbb 0 ?_)
 simp only[fdg,c_fdr c.v v hc,c_fdj v c.v hv hc,c_fdj c.v v hc hv,EV0]
 unfold cmpOk
 have ha:=cmpV_anti v c.v
 have hs:qzb c.v v=decide (cmpV v c.v=0):=by
  rw[← cmpV_zero,ha,decide_eq_decide]
  omega
 have hl:decide (cmpV c.v v < 0)=decide (cmpV v c.v > 0):=by
  rw[decide_eq_decide]
  omega
 have h2:(!decide (cmpV v c.v > 0))=decide (cmpV v c.v≤0):=by
  rw[← decide_not,decide_eq_decide]
  omega
 have h4:(!decide (cmpV v c.v < 0))=decide (cmpV v c.v≥0):=by
  rw[← decide_not,decide_eq_decide]
  omega
 have k:∀ n:Int,(c.op==n)=decide (c.op=n):=fun n=>by rw[Bool.eq_iff_iff];simp
 rw[hs,hl,h2,h4,k,k,k,k,k]
 by_cases e0:c.op=0
 ·rw[decide_eq_true e0,if_pos e0,cond_true]
 ·rw[decide_eq_false e0,if_neg e0,cond_false]
  by_cases e1:c.op=1
  ·rw[decide_eq_true e1,if_pos e1,cond_true]
  ·rw[decide_eq_false e1,if_neg e1,cond_false]
   by_cases e2:c.op=2
   ·rw[decide_eq_true e2,if_pos e2,cond_true]
   ·rw[decide_eq_false e2,if_neg e2,cond_false]
    by_cases e3:c.op=3
    ·rw[decide_eq_true e3,if_pos e3,cond_true]
    ·rw[decide_eq_false e3,if_neg e3,cond_false]
     by_cases e4:c.op=4
     ·rw[decide_eq_true e4,if_pos e4,cond_true]
     ·rw[decide_eq_false e4,if_neg e4,cond_false]
theorem c_faf (c:RCmp)(v:MVer)(hc:c.v.Bd 1048576)(hv:v.Bd 1048576):out qvn [.agg [Cell.int c.op,Cell.int c.v.A,Cell.int c.v.B,Cell.int c.v.C,qba c.v.Pre],.agg [Cell.int v.A,Cell.int v.B,Cell.int v.C,qba v.Pre]]=some [.one (Cell.bool (cmpOk c v))]:=by
 refine qaw (H:=[]) (qssb 0 ?_)
 simp only[faf,c_fay v c.v hv hc,EV0]
 unfold cmpOk
 have k:∀ x n:Int,(x==n)=decide (x=n):=fun x n=>by rw[Bool.eq_iff_iff];simp
 rw[k,k,k,k,k,k]
 by_cases e0:c.op=0
 ·rw[decide_eq_true e0,if_pos e0,cond_true]
 ·rw[decide_eq_false e0,if_neg e0,cond_false]
  by_cases e1:c.op=1
  ·rw[decide_eq_true e1,if_pos e1,cond_true]
  ·rw[decide_eq_false e1,if_neg e1,cond_false]
   by_cases e2:c.op=2
   ·rw[decide_eq_true e2,if_pos e2,cond_true]
   ·rw[decide_eq_false e2,if_neg e2,cond_false]
    by_cases e3:c.op=3
    ·rw[decide_eq_true e3,if_pos e3,cond_true]
    ·rw[decide_eq_false e3,if_neg e3,cond_false]
     by_cases e4:c.op=4
     ·rw[decide_eq_true e4,if_pos e4,cond_true]
     ·rw[decide_eq_false e4,if_neg e4,cond_false]
theorem c_fbn (l:List RCmp)(hl:l.length≤1048576)(hc:∀ c∈l,c.v.Bd 1048576)(v:MVer)(hv:v.Bd 1048576):out quz [.one (encL 5 eCmp l),.agg [Cell.int v.A,Cell.int v.B,Cell.int v.C,qba v.Pre]]=some [.one (Cell.bool (takes l v))]:=by
 have hM:=qah
 have loop:∀ (r:List RCmp) (i n:Nat) (b:Bool),l.drop i=r→r.length < n→∀ k m,qlh k m n b (encL 5 eCmp l) l.length i v.A v.B v.C (qba v.Pre)=some ([.one (Cell.bool (r.all (fun c=>cmpOk c v)&&(b||r.any (fun c=>tells c v))))],[]):=by
  intro r
  induction r with
  | nil=>
   intro i n b hd hn k m
   obtain⟨n,rfl⟩:∃ j,n=j+1:=⟨n - 1,by omega⟩
   have:=drop_nil hd
   simp only[qlh]
   rw[decide_eq_false (by omega),cond_false]
   simp
  | cons x r ih=>
   intro i n b hd hn k m
   obtain⟨n,rfl⟩:∃ j,n=j+1:=⟨n - 1,by omega⟩
   obtain⟨hlt,hg,hd'⟩:=qai hd
   simp only[List.length_cons] at hn
   have hx:=hc x (List.mem_of_getElem? hg)
   simp only[qlh,qak,hg,eCmp,Nat.zero_add,c_faf x v hx hv,EV0]
   rw[decide_eq_true (by omega),cond_true]
   simp only[List.all_cons,List.any_cons]
   cases h1:cmpOk x v with
   | false=>rfl
   | true=>
    simp only[Bool.not_true,cond_false,qag (show i < maxLen by omega),ih (i+1) n _ hd' (by omega),Bool.true_and]
    unfold tells
    cases b
    ·have hp:decide ((x.v.Pre.length:Int) > 0)=decide (0 < x.v.Pre.length):=by rw[decide_eq_decide];omega
     rw[hp]
     cases decide (0 < x.v.Pre.length)<;>cases x.v.A==v.A<;>cases x.v.B==v.B<;>simp
    ·simp
 refine qaw (H:=[]) (qrgb (l.length+1) ?_)
 simp only[fbn,EV0]
 have z:=loop l 0 (l.length+1+1) ((v.Pre.length:Int)==0) rfl (by omega) (l.length+1+1) (l.length+1+1)
 rw[show((0:Nat):Int)=0 from rfl] at z
 rw[z]
 unfold takes
 rw[show((v.Pre.length:Int)==0)=decide (v.Pre.length=0) by rw[Bool.eq_iff_iff];simp]
theorem c_fag (r:List (List RCmp))(hr:r.length≤1048576)(hc:∀ l∈r,l.length≤1048576∧∀ c∈l,c.v.Bd 1048576)(v:MVer)(hv:v.Bd 1048576):out qqr [.one (qew r),.agg [Cell.int v.A,Cell.int v.B,Cell.int v.C,qba v.Pre]]=some [.one (Cell.bool (qrj r v))]:=by
 have hM:=qah
 have loop:∀ (t:List (List RCmp)) (i n:Nat),r.drop i=t→t.length < n→∀ k m,qbtb k m n (encL 1 qqw r) r.length i v.A v.B v.C (qba v.Pre)=some ([.one (Cell.bool (t.any (fun l=>takes l v)))],[]):=by
  intro t
  induction t with
  | nil=>
   intro i n hd hn k m
   obtain⟨n,rfl⟩:∃ j,n=j+1:=⟨n - 1,by omega⟩
   have:=drop_nil hd
   simp only[qbtb]
   rw[decide_eq_false (by omega),cond_false]
   rfl
  | cons x t ih=>
   intro i n hd hn k m
   obtain⟨n,rfl⟩:∃ j,n=j+1:=⟨n - 1,by omega⟩
   obtain⟨hlt,hg,hd'⟩:=qai hd
   simp only[List.length_cons] at hn
   have hx:=hc x (List.mem_of_getElem? hg)
   simp only[qbtb,qak,hg,qqw,c_fbn x hx.1 hx.2 v hv,EV0]
   rw[decide_eq_true (by omega),cond_true,qag (by omega),ih (i+1) n hd' (by omega)]
   simp only[List.any_cons]
   cases takes x v<;>rfl
 refine qaw (H:=[]) (qrub (r.length+1) ?_)
 have z:=loop r 0 (r.length+1+1) rfl (by omega) (r.length+1+1) (r.length+1+1)
 simp only[fag,qew,c_fas v.A v.B v.C v.Pre hv.2.2.2,EV0]
 unfold qrj qex
 cases qdo v.A v.B v.C v.Pre with
 | false=>rfl
 | true=>
  simp only[Bool.not_true,cond_false,Bool.true_and]
  exact z
theorem c_fdi (r:List (List RCmp))(hr:r.length≤1048576)(hc:∀ l∈r,l.length≤1048576∧∀ c∈l,c.v.Bd 1048576)(v:MVer)(hv:v.Bd 1048576):out qqx [.one (qew r),.agg [Cell.int v.A,Cell.int v.B,Cell.int v.C,qba v.Pre]]=some [.one (Cell.bool (qrj r v))]:=by
 have hM:=qah
 have inner:∀ (i:Nat) (l:List RCmp),r[i]?=some l→∀ (bl:Cell→Int→Int→Int→Int→Cell→Option Res) (t:List RCmp) (j n:Nat) (b1 b2:Bool),l.drop j=t→t.length < n→∀ k m,
   qkn k m bl n (encL 1 qqw r) i b1 b2 j v.A v.B v.C (qba v.Pre)=cond ((b1&&t.all (fun c=>cmpOk c v))&&(b2||t.any (fun c=>tells c v))) (some ([.one (Cell.bool true)],[])) (bl (encL 1 qqw r) ((i+1:Nat):Int) v.A v.B v.C (qba v.Pre)):=by
  intro i l hi bl t
  have hil:=(List.getElem?_eq_some_iff.1 hi).1
  have hl:=hc l (List.mem_of_getElem? hi)
  induction t with
  | nil=>
   intro j n b1 b2 hd hn k m
   obtain⟨n,rfl⟩:∃ q,n=q+1:=⟨n - 1,by omega⟩
   have:=drop_nil hd
   simp only[qkn,qak,hi,qqw,EV0]
   rw[decide_eq_false (by omega),cond_false,qag (by omega)]
   cases b1<;>cases b2<;>simp
  | cons x t ih=>
   intro j n b1 b2 hd hn k m
   obtain⟨n,rfl⟩:∃ q,n=q+1:=⟨n - 1,by omega⟩
   obtain⟨hlt,hg,hd'⟩:=qai hd
   simp only[List.length_cons] at hn
   have hx:=hl.2 x (List.mem_of_getElem? hg)
   have hj:j < maxLen:=by have:=hl.1;omega
   have hp:decide ((x.v.Pre.length:Int) > 0)=decide (0 < x.v.Pre.length):=by rw[decide_eq_decide];omega
   simp only[qkn,qak,hi,hg,qqw,eCmp,Nat.zero_add,qcl,c_fdg x v hx hv,c_feh x.v v (qba x.v.Pre) (qba v.Pre) inferInstance inferInstance,qag hj,ih (j+1) n _ _ hd' (by omega),hp,EV0]
   rw[decide_eq_true (by omega),cond_true]
   simp only[List.all_cons,List.any_cons,tells]
   cases b1<;>cases b2<;>cases cmpOk x v<;>cases decide (0 < x.v.Pre.length)<;>simp
 have loop:∀ (t:List (List RCmp)) (i n:Nat),r.drop i=t→t.length < n→∀ k m,(∀ l∈r,l.length < m)→qtu k m n (encL 1 qqw r) i v.A v.B v.C (qba v.Pre)=some ([.one (Cell.bool (qex v&&t.any (fun l=>takes l v)))],[]):=by
  intro t
  induction t with
  | nil=>
   intro i n hd hn k m hm
   obtain⟨n,rfl⟩:∃ j,n=j+1:=⟨n - 1,by omega⟩
   have:=drop_nil hd
   simp only[qtu,EV0]
   rw[decide_eq_false (by omega),cond_false]
   simp
  | cons x t ih=>
   intro i n hd hn k m hm
   obtain⟨n,rfl⟩:∃ j,n=j+1:=⟨n - 1,by omega⟩
   obtain⟨hlt,hg,hd'⟩:=qai hd
   simp only[List.length_cons] at hn
   simp only[qtu,c_fdv v.A v.B v.C v.Pre hv.2.2.2,EV0]
   rw[decide_eq_true (by omega),cond_true]
   have z:=inner i x hg (qtu k m n) x 0 m (qdo v.A v.B v.C v.Pre) ((v.Pre.length:Int)==0) rfl (hm x (List.mem_of_getElem? hg)) k m
   rw[show((0:Nat):Int)=0 from rfl] at z
   rw[z,ih (i+1) n hd' (by omega) k m hm]
   simp only[List.any_cons,qex,takes]
   rw[show((v.Pre.length:Int)==0)=decide (v.Pre.length=0) by rw[Bool.eq_iff_iff];simp]
   cases qdo v.A v.B v.C v.Pre<;>cases (x.all fun c=>cmpOk c v)<;>cases (decide (v.Pre.length=0)||x.any fun c=>tells c v)<;>simp
 refine qaw (H:=[]) (qnjb (r.length+1048577) ?_)
 have z:=loop r 0 (r.length+1048577+1) rfl (by omega) (r.length+1048577+1) (r.length+1048577+1) (fun l hl=>by have:=(hc l hl).1;omega)
 simp only[fdi,qew]
 exact z
theorem qsx {α:Type}{sz:Nat}{e:α→List Cell}[CanonE e](f:Bool)(xs:List α)(H:List Entry):qan false H (.one (.lst f sz (xs.map e)))=some (.one (encL sz e xs)):=by
 have h:=(inferInstance:Canon (encL sz e xs)).nrm
 have e':norm (.lst f sz (xs.map e))=norm (encL sz e xs):=by simp only[encL,norm]
 show((some (norm (.lst f sz (xs.map e)))).map AV.one)=_
 rw[e',h]
 rfl
theorem c_fff (s:Str)(hs:s.length≤1073741824):out qdqb [.one (Cell.str (bs s)),.one (Cell.str (bs [32]))]=some [.one (Cell.str (bs (trim s)))]:=by
 have key:∀ t:Str,(t.reverse.dropWhile (·==32)).reverse=qnq t:=by
  intro t
  generalize hn:t.length=n
  induction n generalizing t with
  | zero=>
   have:t=[]:=List.eq_nil_of_length_eq_zero hn
   subst this
   rfl
  | succ n ih=>
   obtain⟨u,y,rfl⟩:∃ u y,t=u++[y]:=by
    have hne:t≠[]:=fun h=>by rw[h] at hn;simp at hn
    exact⟨t.dropLast,t.getLast hne,(List.dropLast_concat_getLast hne).symm⟩
   by_cases hy:y=32
   ·subst hy
    rw[qqk,← ih u (by simpa using hn)]
    simp
   ·rw[qqg u y hy]
    simp[hy]
 refine qaw (H:=[]) ?_
 show qje _ _=_
 have e:qje [.one (.sc (.string (bs s))),.one (.sc (.string (bs [32])))] []=if (32:UInt8).toNat < 128∧(bs s).size≤9223372036854775807 then some ([.one (.sc (.string ⟨(Lib.trimB (bs s).data.toList 32).toArray⟩))],[]) else none:=rfl
 rw[e,if_pos ⟨by decide,by rw[qbm];omega⟩,qhf]
 unfold Lib.trimB Lib.trimLeftB Lib.trimRightB
 rw[key]
 rfl
theorem c_fes (s:Str)(hs:s.length≤1073741824):out qyq [.one (Cell.str (bs s))]=some [.one (Cell.str (bs (trim s)))]:=by
 have hM:=qah
 have right:∀ (n:Nat) (t:Str),t.length≤1073741824→t.length < n→∀ k m,qzx k m n (bs t)=some ([.one (Cell.str (bs (qnq t)))],[]):=by
  intro n
  induction n with
  | zero=>intro t h0 h;omega
  | succ n ih=>
   intro t h0 h k m
   by_cases ht:t=[]
   ·subst ht
    rfl
   ·obtain⟨u,y,rfl⟩:∃ u y,t=u++[y]:=⟨t.dropLast,t.getLast ht,(List.dropLast_concat_getLast ht).symm⟩
    have hlen:(u++[y]).length=u.length+1:=by simp
    have hw:IntKind.i64.wrap (((u++[y]).length:Int) - 1)=(u.length:Int):=by
     rw[hlen]
     exact qsb (by omega)
    have hb:bytS (bs (u++[y])) (u.length:Int)=some (y.toNat:Int):=by
     rw[qcu]
     simp
    have h32:((y.toNat:Int)==32)=(y==32):=u8_eq y 32 (by omega)
    have hsub:subS (bs (u++[y])) 0 (u.length:Int)=some (bs u):=by
     have:=qcw (u++[y]) 0 u.length (Nat.zero_le _) (by simp)
     simpa using this
    simp only[qzx,qbm,hw,hb,h32,hsub,Option.bind_some]
    rw[decide_eq_true (by rw[hlen];omega),cond_true]
    by_cases hy:y=32
    ·subst hy
     rw[show((32:UInt8)==32)=true from rfl,cond_true,ih u (by omega) (by omega),qqk]
    ·rw[show(y==32)=false by simpa using hy,cond_false,qqg u y hy]
 have left:∀ (n:Nat) (t:Str),t.length≤1073741824→t.length < n→∀ k m,t.length < m→qalb k m n (bs t)=some ([.one (Cell.str (bs (qnq (qzc t))))],[]):=by
  intro n
  induction n with
  | zero=>intro t h0 h;omega
  | succ n ih=>
   intro t h0 h k m hm
   cases t with
   | nil=>
    simp only[qalb,qbm]
    rw[show decide (((([]:Str).length:Nat):Int) > 0)=false from rfl,cond_false,right m [] h0 hm]
    rfl
   | cons x t=>
    have hb:bytS (bs (x::t)) 0=some (x.toNat:Int):=by
     have:=qcu (x::t) 0
     simpa using this
    have h32:((x.toNat:Int)==32)=(x==32):=u8_eq x 32 (by omega)
    have hsub:subS (bs (x::t)) 1 ((x::t).length:Int)=some (bs t):=by
     have:=qcw (x::t) 1 (x::t).length (by simp) (Nat.le_refl _)
     rw[List.take_length] at this
     exact this
    simp only[List.length_cons] at h0 h hm
    simp only[qalb,qbm,hb,h32,hsub,Option.bind_some]
    rw[decide_eq_true (by simp only[List.length_cons];omega),cond_true]
    by_cases hx:x=32
    ·subst hx
     rw[show((32:UInt8)==32)=true from rfl,cond_true,ih t (by omega) (by omega) k m (by omega)]
     simp[qzc]
    ·rw[show(x==32)=false by simpa using hx,cond_false,right m (x::t) (by simp;omega) (by simp;omega)]
     simp[qzc,hx]
 refine qaw (H:=[]) (qsmb (s.length+1) ?_)
 have z:=left (s.length+1+1) s hs (by omega) (s.length+1+1) (s.length+1+1) (by omega)
 rw[trimLR] at z
 simp only[fes]
 exact z
theorem c_feq (s:Str)(hs:s.length≤1073741824):outL qxy [.one (Cell.str (bs s))]=some [.one (qba (sides s))]:=by
 have hM:=qah
 have loop:∀ (n:Nat) (r:Str) (i from':Nat) (cur:Str) (cl:Cell) (H:List Entry) (done:List Str),s.drop i=r→from'≤i→i≤s.length→(s.take i).drop from'=cur→r.length < n→Grow 1 cl H (done.map eStr)→done.length≤i→
   ∀ k m,∃ cl' H',qjw k m n (bs s) cl from' i H=some ([.one cl'],H')∧Grow 1 cl' H' ((done++qbx cur r).map eStr):=by
  intro n
  induction n with
  | zero=>intro r i from' cur cl H done hd hf hi hc hn;omega
  | succ n ih=>
   intro r i from' cur cl H done hd hf hi hc hn hg hdl k m
   have fin:s.length≤i+1→qbx cur r=[s.drop from']→∃ cl' H',qjw k m (n+1) (bs s) cl from' i H=some ([.one cl'],H')∧Grow 1 cl' H' ((done++qbx cur r).map eStr):=by
    intro h1 h2
    obtain⟨p,hp,hgp⟩:=hg.app (by':=16) [eStr (s.drop from')] (by simp[bound];omega) (by simp[bound];omega)
    refine⟨p.1,p.2,?_,by rw[h2];simpa using hgp⟩
    have hsub:=qcw s from' s.length (by omega) (Nat.le_refl _)
    rw[List.take_length] at hsub
    simp only[qjw,qbm,qag (show i < maxLen by omega)]
    rw[decide_eq_false (by omega),cond_false,hsub]
    simp only[Option.bind_some]
    rw[show [[Cell.str (bs (s.drop from'))]]=[eStr (s.drop from')] from rfl,hp]
    rfl
   cases r with
   | nil=>
    have:=drop_nil hd
    refine fin (by omega) ?_
    rw[qbx,← hc,List.take_of_length_le (by omega)]
   | cons a r=>
    obtain⟨hlt,hga,hda⟩:=qai hd
    have hcur:(s.take (i+1)).drop from'=cur++[a]:=by
     rw[← hc,List.take_add_one,hga,List.drop_append]
     have:from' - (s.take i).length=0:=by rw[List.length_take];omega
     rw[this]
     rfl
    cases r with
    | nil=>
     have:=drop_nil hda
     refine fin (by omega) ?_
     rw[qbx,← hcur,List.take_of_length_le (by omega)]
    | cons b r=>
     obtain⟨hlt2,hgb,hdb⟩:=qai hda
     simp only[List.length_cons] at hn
     have ha:((a.toNat:Int)==124)=(a==124):=u8_eq a 124 (by omega)
     have hb:((b.toNat:Int)==124)=(b==124):=u8_eq b 124 (by omega)
     have w1:IntKind.i64.wrap ((i:Int)+1)=((i+1:Nat):Int):=qag (by omega)
     have w2:IntKind.i64.wrap ((i:Int)+2)=((i+2:Nat):Int):=by rw[wrap_small (by omega) (by omega)];omega
     have w3:IntKind.i64.wrap (((i+1:Nat):Int)+1)=((i+2:Nat):Int):=qag (by omega)
     have next:qbx cur (a::b::r)=qbx (cur++[a]) (b::r)→∃ cl' H',qjw k m n (bs s) cl from' ((i+1:Nat):Int) H=some ([.one cl'],H')∧Grow 1 cl' H' ((done++qbx cur (a::b::r)).map eStr):=by
      intro h
      rw[h]
      exact ih (b::r) (i+1) from' (cur++[a]) cl H done hda (by omega) (by omega) hcur (by simp only[List.length_cons];omega) hg (by omega) k m
     by_cases h1:a=124
     ·by_cases h2:b=124
      ·obtain⟨p,hp,hgp⟩:=hg.app (by':=16) [eStr cur] (by simp[bound];omega) (by simp[bound];omega)
       obtain⟨cl',H',z1,z2⟩:=ih r (i+2) (i+2) [] p.1 p.2 (done++[cur]) hdb (by omega) (by omega) (by simp) (by omega) (by simpa using hgp) (by simp;omega) k m
       refine⟨cl',H',?_,?_⟩
       ·simp only[qjw,qbm,qcu,w1,w2,w3,hga,hgb,ha,hb,Option.map_some,Option.bind_some]
        rw[decide_eq_true (by omega),cond_true,show(a==124)=true by simpa using h1,show(b==124)=true by simpa using h2,cond_true,cond_true,qcw _ _ _ hf (by omega),hc]
        simp only[Option.bind_some]
        rw[show [[Cell.str (bs cur)]]=[eStr cur] from rfl,hp]
        simp only[Option.bind_some]
        exact z1
       ·rw[qbx,if_pos ⟨h1,h2⟩]
        simpa using z2
      ·obtain⟨cl',H',z1,z2⟩:=next (by rw[qbx,if_neg fun h=>h2 h.2])
       refine⟨cl',H',?_,z2⟩
       simp only[qjw,qbm,qcu,w1,w2,w3,hga,hgb,ha,hb,Option.map_some,Option.bind_some]
       rw[decide_eq_true (by omega),cond_true,show(a==124)=true by simpa using h1,show(b==124)=false by simpa using h2,cond_true,cond_false]
       exact z1
     ·obtain⟨cl',H',z1,z2⟩:=next (by rw[qbx,if_neg fun h=>h1 h.1])
      refine⟨cl',H',?_,z2⟩
      simp only[qjw,qbm,qcu,w1,w2,w3,hga,hgb,ha,hb,Option.map_some,Option.bind_some]
      rw[decide_eq_true (by omega),cond_true,show(a==124)=false by simpa using h1,cond_false]
      exact z1
 obtain⟨cl',H',z1,z2⟩:=loop (s.length+1+1) s 0 0 [] (.lst true 1 []) [] [] rfl (by omega) (by omega) (by simp) (by omega) (Grow.nil 1) (by simp) (s.length+1+1) (s.length+1+1)
 refine qbb (H:=H') (qrhb (s.length+1) ?_) (Grow.read z2)
 simpa[feq] using z1
def okV (v:MVer):Prop:=(0≤v.A∧v.A≤9999)∧(0≤v.B∧v.B≤9999)∧(0≤v.C∧v.C≤9999)∧v.Pre.length≤3∧∀ x∈v.Pre,x.length≤8
theorem qez {s:Str}(h:(qac s).2=true):qex (qac s).1=true:=by
 unfold qac at h ⊢
 split at h<;>try (simp at h;done)
 split at h<;>try (simp at h;done)
 split at h<;>try (simp at h;done)
 rename_i hk
 simp only[qex]
 rw[if_pos hk]
 exact hk
theorem xS_num:qao xS 9999=none:=by decide
theorem qnyb {x:Str}{p:MVer×Nat}(h:oneV x=some p):okV p.1∧p.2=1:=by
 unfold oneV at h
 split at h
 ·rename_i a ha
  have:=(qbq ha).2.1
  simp only[Option.some.injEq] at h
  subst h
  exact⟨⟨by simp only;omega,by simp,by simp,by simp,by simp⟩,rfl⟩
 ·simp at h
theorem twoV_ok {x y:Str}{p:MVer×Nat}(h:twoV x y=some p):okV p.1∧p.2=2:=by
 unfold twoV at h
 split at h
 ·rename_i a b ha hb
  have h1:=(qbq ha).2.1
  have h2:=(qbq hb).2.1
  simp only[Option.some.injEq] at h
  subst h
  exact⟨⟨by simp only;omega,by simp only;omega,by simp,by simp,by simp⟩,rfl⟩
 ·simp at h
theorem qsh {s:Str}{p:MVer×Nat}(h:partOf s=some p):okV p.1∧(1≤p.2∧p.2≤3):=by
 unfold partOf at h
 split at h
 ·rename_i hk
  simp only[Option.some.injEq] at h
  subst h
  have:=qjb (qez hk)
  exact⟨this,by simp⟩
 ·unfold numsOf at h
  split at h
  ·obtain⟨h1,h2⟩:=qnyb h
   exact⟨h1,by omega⟩
  ·split at h
   ·obtain⟨h1,h2⟩:=qnyb h
    exact⟨h1,by omega⟩
   ·obtain⟨h1,h2⟩:=twoV_ok h
    exact⟨h1,by omega⟩
  ·split at h
   ·split at h
    ·obtain⟨h1,h2⟩:=qnyb h
     exact⟨h1,by omega⟩
    ·obtain⟨h1,h2⟩:=twoV_ok h
     exact⟨h1,by omega⟩
   ·simp at h
  ·simp at h
def okB (v:MVer):Prop:=(0≤v.A∧v.A≤10000)∧(0≤v.B∧v.B≤10000)∧(0≤v.C∧v.C≤10000)∧v.Pre.length≤3∧∀ x∈v.Pre,x.length≤8
theorem okB_bd {v:MVer}(h:okB v):v.Bd 1048576:=by
 obtain⟨h1,h2,h3,h4,h5⟩:=h
 exact⟨by simp only[bdI];omega,by simp only[bdI];omega,by simp only[bdI];omega,by omega,fun x hx=>by have:=h5 x hx;simp only[bdS];omega⟩
theorem okV_B {v:MVer}(h:okV v):okB v:=by
 obtain⟨h1,h2,h3,h4,h5⟩:=h
 exact⟨by omega,by omega,by omega,h4,h5⟩
theorem nextV_B {v:MVer}(h:okV v)(t:Nat):okB (qel v t):=by
 obtain⟨h1,h2,h3,h4,h5⟩:=h
 unfold qel
 split<;>exact⟨by simp only;omega,by simp only;omega,by simp only;omega,by simp,by simp⟩
theorem caretV_B {v:MVer}(h:okV v)(t:Nat):okB (qey v t):=by
 obtain⟨h1,h2,h3,h4,h5⟩:=h
 unfold qey
 split
 ·exact⟨by simp only;omega,by simp only;omega,by simp only;omega,by simp,by simp⟩
 ·split<;>exact⟨by simp only;omega,by simp only;omega,by simp only;omega,by simp,by simp⟩
theorem qppb {v:MVer}(h:okB v):okB (qhw v).v:=by
 obtain⟨h1,h2,h3,h4,h5⟩:=h
 exact⟨h1,h2,h3,by simp[qhw],by simp[qhw]⟩
theorem qnlb (g:Str){v:MVer}(h:okV v)(t:Nat):(qcr g v t).length≤2∧∀ c∈qcr g v t,okB c.v:=by
 have a:=okV_B h
 have b:=qppb (caretV_B h t)
 have c:=qppb (nextV_B h t)
 have d:=nextV_B h t
 unfold qcr
 (repeat' split)<;>exact⟨by simp,by simp[a,b,c,d]⟩
theorem qmsb (w:Str):∀ (r:List Str) (l:List RCmp),qeg w r=some l→l.length≤2∧∀ c∈l,okB c.v
 | [],l,h=>by simp[qeg] at h
 | g::r,l,h=>by
  unfold qeg at h
  split at h
  ·split at h
   ·rename_i p hp
    simp only[Option.some.injEq] at h
    subst h
    exact qnlb g (qsh hp).1 p.2
   ·simp at h
  ·exact qmsb w r l h
theorem qapb {w:Str}{l:List RCmp}(h:qjm w=some l):l.length≤2∧∀ c∈l,okB c.v:=by
 unfold qjm at h
 split at h
 ·simp only[Option.some.injEq] at h
  subst h
  exact⟨by simp,by simp[zeroV,okB]⟩
 ·exact qmsb w signs l h
theorem qrd (L:List RCmp)(f:Bool)(H:List Entry):mapO (qan false H) [.one (.lst f 5 (L.map eCmp))]=some [.one (encL 5 eCmp L)]:=
 qcv (qsx f L H) (qbu _)
theorem leafRB (L:List RCmp)(f:Bool)(b:Bool)(H:List Entry):mapO (qan false H) [.one (.lst f 5 (L.map eCmp)),.one (Cell.bool b)]=some [.one (encL 5 eCmp L),.one (Cell.bool b)]:=
 qcv (qsx f L H) (qcv (qbf _ _ _) (qbu _))
theorem w1 {a:Int}(h:0≤a∧a≤9999):IntKind.i64.wrap (a+1)=a+1:=wrap_small (by omega) (by omega)
theorem c_fek (v:MVer)(t:Nat)(b:Bool):outL qfq [.agg [Cell.int v.A,Cell.int v.B,Cell.int v.C,qba v.Pre,Cell.int t,Cell.bool b]]=some [.agg [Cell.int 4,Cell.int v.A,Cell.int v.B,Cell.int v.C,qba v.Pre]]:=
 qfw (H:=[]) (qsab 0 rfl)
theorem qgw (a b c:Int)(H:List Entry):mapO (qan false H) [.agg [Cell.int a,Cell.int b,Cell.int c,.lst true 1 []]]=some [.agg [Cell.int a,Cell.int b,Cell.int c,qba []]]:=rfl
theorem c_fei (v:MVer):outL qed [.agg [Cell.int v.A,Cell.int v.B,Cell.int v.C,qba v.Pre]]=some [.agg [Cell.int 1,Cell.int v.A,Cell.int v.B,Cell.int v.C,qba [[48]]]]:=
 qbb (H:=[]) (qnxb 0 rfl) rfl
theorem c_fav (v:MVer):outL qkj [.agg [Cell.int v.A,Cell.int v.B,Cell.int v.C,qba v.Pre]]=some [.agg [Cell.int 1,Cell.int v.A,Cell.int v.B,Cell.int v.C,qba [[48]]]]:=
 qbb (H:=[]) (qrcb 0 rfl) rfl
theorem nEq (t n:Nat):((t:Int)==(n:Int))=decide (t=n):=by rw[Bool.eq_iff_iff];simp only[beq_iff_eq,decide_eq_true_eq];omega
theorem i_ne (a:Int):(a != 0)=decide (a≠0):=by rw[Bool.eq_iff_iff];simp
theorem qif (v:MVer)(hv:okV v)(t:Nat):cond (v.A != 0)
 (some ([AV.agg [Cell.int (IntKind.i64.wrap (v.A+1)),Cell.int 0,Cell.int 0,.lst true 1 []]],([]:List Entry)))
 (cond ((t:Int)==1)
 (some ([.agg [Cell.int (IntKind.i64.wrap (v.A+1)),Cell.int 0,Cell.int 0,.lst true 1 []]],[]))
 (cond (v.B != 0)
 (some ([.agg [Cell.int 0,Cell.int (IntKind.i64.wrap (v.B+1)),Cell.int 0,.lst true 1 []]],[]))
 (cond ((t:Int)==2)
 (some ([.agg [Cell.int 0,Cell.int (IntKind.i64.wrap (v.B+1)),Cell.int 0,.lst true 1 []]],[]))
 (some ([.agg [Cell.int 0,Cell.int 0,Cell.int (IntKind.i64.wrap (v.C+1)),.lst true 1 []]],[])))))=some ([.agg [Cell.int (qey v t).A,Cell.int (qey v t).B,Cell.int (qey v t).C,.lst true 1 []]],[])∧(qey v t).Pre=[]:=by
 rw[w1 hv.1,w1 hv.2.1,w1 hv.2.2.1,i_ne,i_ne,show((t:Int)==1)=decide (t=1) from nEq t 1,show((t:Int)==2)=decide (t=2) from nEq t 2]
 unfold qey
 by_cases h1:v.A≠0
 ·rw[decide_eq_true h1,cond_true,if_pos (.inl h1)]
  exact⟨rfl,rfl⟩
 ·rw[decide_eq_false h1,cond_false]
  by_cases h2:t=1
  ·rw[decide_eq_true h2,cond_true,if_pos (.inr h2)]
   exact⟨rfl,rfl⟩
  ·rw[decide_eq_false h2,cond_false,if_neg (fun h=>h.elim h1 h2)]
   by_cases h3:v.B≠0
   ·rw[decide_eq_true h3,cond_true,if_pos (.inl h3)]
    exact⟨rfl,rfl⟩
   ·rw[decide_eq_false h3,cond_false]
    by_cases h4:t=2
    ·rw[decide_eq_true h4,cond_true,if_pos (.inr h4)]
     exact⟨rfl,rfl⟩
    ·rw[decide_eq_false h4,cond_false,if_neg (fun h=>h.elim h3 h4)]
     exact⟨rfl,rfl⟩
theorem qgr (v:MVer)(hv:okV v)(t:Nat):cond ((t:Int)==1)
 (some ([AV.agg [Cell.int (IntKind.i64.wrap (v.A+1)),Cell.int 0,Cell.int 0,.lst true 1 []]],([]:List Entry)))
 (some ([.agg [Cell.int v.A,Cell.int (IntKind.i64.wrap (v.B+1)),Cell.int 0,.lst true 1 []]],[]))=some ([.agg [Cell.int (qel v t).A,Cell.int (qel v t).B,Cell.int (qel v t).C,.lst true 1 []]],[])∧(qel v t).Pre=[]:=by
 rw[w1 hv.1,w1 hv.2.1,show((t:Int)==1)=decide (t=1) from nEq t 1]
 unfold qel
 by_cases h2:t=1
 ·rw[decide_eq_true h2,cond_true,if_pos h2]
  exact⟨rfl,rfl⟩
 ·rw[decide_eq_false h2,cond_false,if_neg h2]
  exact⟨rfl,rfl⟩
theorem c_fej (v:MVer)(hv:okV v)(t:Nat)(b:Bool):outL qtc [.agg [Cell.int v.A,Cell.int v.B,Cell.int v.C,qba v.Pre,Cell.int t,Cell.bool b]]=some [.agg [Cell.int (qey v t).A,Cell.int (qey v t).B,Cell.int (qey v t).C,qba (qey v t).Pre]]:=by
 rw[(qif v hv t).2]
 exact qbb (H:=[]) (qsrb 0 (qif v hv t).1) (qgw _ _ _ _)
theorem c_faw (v:MVer)(hv:okV v)(t:Nat):outL qun [.agg [Cell.int v.A,Cell.int v.B,Cell.int v.C,qba v.Pre],.one (Cell.int t)]=some [.agg [Cell.int (qey v t).A,Cell.int (qey v t).B,Cell.int (qey v t).C,qba (qey v t).Pre]]:=by
 rw[(qif v hv t).2]
 exact qbb (H:=[]) (qtbb 0 (qif v hv t).1) (qgw _ _ _ _)
theorem c_feo (v:MVer)(hv:okV v)(t:Nat)(b:Bool):outL qee [.agg [Cell.int v.A,Cell.int v.B,Cell.int v.C,qba v.Pre,Cell.int t,Cell.bool b]]=some [.agg [Cell.int (qel v t).A,Cell.int (qel v t).B,Cell.int (qel v t).C,qba (qel v t).Pre]]:=by
 rw[(qgr v hv t).2]
 exact qbb (H:=[]) (qrpb 0 (qgr v hv t).1) (qgw _ _ _ _)
theorem c_fer (v:MVer)(hv:okV v)(t:Nat)(b:Bool):outL qto [.agg [Cell.int v.A,Cell.int v.B,Cell.int v.C,qba v.Pre,Cell.int t,Cell.bool b]]=some [.agg [Cell.int (qel v t).A,Cell.int (qel v t).B,Cell.int (qel v t).C,qba (qel v t).Pre]]:=by
 rw[(qgr v hv t).2]
 exact qbb (H:=[]) (qogb 0 (qgr v hv t).1) (qgw _ _ _ _)
theorem c_fbi (v:MVer)(hv:okV v)(t:Nat)(ht:t≤2)(h1:1≤t)(c:Cell)(hc:Canon c):outL qii [.agg [Cell.int v.A,Cell.int v.B,Cell.int v.C,c],.one (Cell.int t)]=some [.agg [Cell.int (qel v t).A,Cell.int (qel v t).B,Cell.int (qel v t).C,qba (qel v t).Pre]]:=by
 rw[(qgr v hv t).2]
 refine qbb (H:=[]) (qvo 0 ?_) (qgw _ _ _ _)
 have:=(qgr v hv t).1
 simp only[fbi]
 rw[← this]
 rcases (by omega:t=1∨t=2) with rfl | rfl<;>rfl
theorem qsj (v:MVer)(hv:okV v):outL qii [.agg [Cell.int v.A,Cell.int v.B,Cell.int v.C,qba v.Pre],.one (Cell.int 3)]=some [.agg [Cell.int v.A,Cell.int v.B,Cell.int (v.C+1),qba []]]:=by
 refine qbb (H:=[]) (qvo 0 ?_) (qgw _ _ _ _)
 simp only[fbi,w1 hv.2.2.1]
 rfl
theorem strEq (g h:Str):(g==h)=decide (g=h):=by rw[Bool.eq_iff_iff];simp
theorem c_fen (g:Str)(v:MVer)(hv:okV v)(t:Nat)(b:Bool):outL qxn [.one (Cell.str (bs g)),.agg [Cell.int v.A,Cell.int v.B,Cell.int v.C,qba v.Pre,Cell.int t,Cell.bool b]]=some [.one (encL 5 eCmp (qcr g v t))]:=by
 suffices h:∃ xs,fen (0+1) (0+1) (bs g) v.A v.B v.C (qba v.Pre) t b=some (xs,[])∧mapO (qan false []) xs=some [.one (encL 5 eCmp (qcr g v t))] by
  obtain⟨xs,h1,h2⟩:=h
  exact qbb (qpeb 0 h1) h2
 have h3:((t:Int)==3)=decide (t=3):=nEq t 3
 simp only[fen,c_fek v t b,c_fej v hv t b,c_fer v hv t b,c_feo v hv t b,c_fei (qey v t),c_fei (qel v t),h3,strEq,EV0]
 unfold qcr
 by_cases e1:g=[94]
 ·rw[decide_eq_true e1,cond_true,if_pos e1]
  exact⟨_,rfl,qrd [⟨4,v⟩,qhw (qey v t)] true []⟩
 ·rw[decide_eq_false e1,cond_false,if_neg e1]
  by_cases e2:g=[126]
  ·rw[decide_eq_true e2,cond_true,if_pos e2]
   exact⟨_,rfl,qrd [⟨4,v⟩,qhw (qel v t)] true []⟩
  ·rw[decide_eq_false e2,cond_false,if_neg e2]
   by_cases e3:g=[62,61]
   ·rw[decide_eq_true e3,cond_true,if_pos e3]
    exact⟨_,rfl,qrd [⟨4,v⟩] true []⟩
   ·rw[decide_eq_false e3,cond_false,if_neg e3]
    by_cases e4:g=[60]
    ·rw[decide_eq_true e4,cond_true]
     subst e4
     exact⟨_,rfl,qrd [⟨1,v⟩] true []⟩
    ·rw[decide_eq_false e4,cond_false]
     by_cases e5:g=[62]
     ·rw[decide_eq_true e5,cond_true,if_pos e5]
      by_cases ht:t=3
      ·rw[decide_eq_true ht,cond_true,if_pos ht]
       exact⟨_,rfl,qrd [⟨3,v⟩] true []⟩
      ·rw[decide_eq_false ht,cond_false,if_neg ht]
       exact⟨_,rfl,qrd [⟨4,qel v t⟩] true []⟩
     ·rw[decide_eq_false e5,cond_false,if_neg e5]
      by_cases e6:g=[60,61]
      ·rw[decide_eq_true e6,cond_true,if_pos e6]
       by_cases ht:t=3
       ·rw[decide_eq_true ht,cond_true,if_pos ht]
        exact⟨_,rfl,qrd [⟨2,v⟩] true []⟩
       ·rw[decide_eq_false ht,cond_false,if_neg ht]
        exact⟨_,rfl,qrd [qhw (qel v t)] true []⟩
      ·rw[decide_eq_false e6,cond_false,if_neg e6,if_neg e4]
       by_cases ht:t=3
       ·rw[decide_eq_true ht,cond_true,if_pos ht]
        exact⟨_,rfl,qrd [⟨0,v⟩] true []⟩
       ·rw[decide_eq_false ht,cond_false,if_neg ht]
        exact⟨_,rfl,qrd [⟨4,v⟩,qhw (qel v t)] true []⟩
theorem c_fbo (g:Str)(v:MVer)(hv:okV v)(t:Nat)(h1:1≤t)(h3:t≤3):outL qwu [.one (Cell.str (bs g)),.agg [Cell.int v.A,Cell.int v.B,Cell.int v.C,qba v.Pre],.one (Cell.int t)]=some [.one (encL 5 eCmp (qcr g v t))]:=by
 suffices h:∃ xs,fbo (0+1) (0+1) (bs g) v.A v.B v.C (qba v.Pre) t=some (xs,[])∧mapO (qan false []) xs=some [.one (encL 5 eCmp (qcr g v t))] by
  obtain⟨xs,h1,h2⟩:=h
  exact qbb (qpxb 0 h1) h2
 have hz:okV ⟨v.A,v.B,0,[]⟩:=⟨hv.1,hv.2.1,by simp,by simp,by simp⟩
 have hq:callL qii [.agg [Cell.int v.A,Cell.int v.B,Cell.int 0,.lst true 1 []],.one (Cell.int (if 2 < (t:Int) then 2 else (t:Int)))] []=some ([.agg [Cell.int (qel v t).A,Cell.int (qel v t).B,Cell.int (qel v t).C,qba (qel v t).Pre]],[]):=by
  have e:qel ⟨v.A,v.B,0,[]⟩ (if 2 < t then 2 else t)=qel v t:=by
   by_cases h:2 < t
   ·rw[if_pos h]
    unfold qel
    rw[if_neg (by omega),if_neg (by omega)]
   ·rw[if_neg h]
    rfl
  have h:=c_fbi ⟨v.A,v.B,0,[]⟩ hz (if 2 < t then 2 else t) (by split<;>omega) (by split<;>omega) (qba []) inferInstance
  rw[e] at h
  have ei:((if 2 < t then 2 else t:Nat):Int)=if 2 < (t:Int) then 2 else (t:Int):=by split<;>split<;>omega
  rw[ei] at h
  rw[qsw]
  have e2:mapO (qan true ([AV.agg [Cell.int v.A,Cell.int v.B,Cell.int 0,.lst true 1 []],.one (Cell.int (if 2 < (t:Int) then 2 else (t:Int)))].foldl qdn [])) [.agg [Cell.int v.A,Cell.int v.B,Cell.int 0,.lst true 1 []],.one (Cell.int (if 2 < (t:Int) then 2 else (t:Int)))]=some [.agg [Cell.int v.A,Cell.int v.B,Cell.int 0,qba []],.one (Cell.int (if 2 < (t:Int) then 2 else (t:Int)))]:=rfl
  rw[e2,Option.bind_some,h]
  rfl
 have hd:decide ((t:Int) < 3)=decide (¬ t=3):=by rw[decide_eq_decide];omega
 obtain⟨N,hn,hN⟩:∃ N:MVer,outL qii [.agg [Cell.int v.A,Cell.int v.B,Cell.int v.C,qba v.Pre],.one (Cell.int t)]=some [.agg [Cell.int N.A,Cell.int N.B,Cell.int N.C,qba N.Pre]]∧(¬ t=3→N=qel v t):=by
  by_cases ht:t=3
  ·subst ht
   exact⟨⟨v.A,v.B,v.C+1,[]⟩,qsj v hv,fun h=>absurd rfl h⟩
  ·exact⟨qel v t,c_fbi v hv t (by omega) h1 _ inferInstance,fun _=>rfl⟩
 simp only[fbo,hn,c_fav N,c_fav (qey v t),c_fav (qel v t),c_faw v hv t,hq,hd,strEq,EV0]
 unfold qcr
 by_cases e3:g=[62,61]
 ·rw[decide_eq_true e3,cond_true]
  subst e3
  exact⟨_,rfl,qrd [⟨4,v⟩] true []⟩
 ·rw[decide_eq_false e3,cond_false]
  by_cases e4:g=[60]
  ·rw[decide_eq_true e4,cond_true]
   subst e4
   exact⟨_,rfl,qrd [⟨1,v⟩] true []⟩
  ·rw[decide_eq_false e4,cond_false]
   by_cases e5:g=[62]
   ·rw[decide_eq_true e5,cond_true,if_neg (by rw[e5];decide),if_neg (by rw[e5];decide),if_neg e3,if_pos e5]
    by_cases ht:t=3
    ·rw[decide_eq_false (fun h=>h ht),cond_false,if_pos ht]
     exact⟨_,rfl,qrd [⟨3,v⟩] true []⟩
    ·rw[decide_eq_true ht,cond_true,if_neg ht,hN ht]
     exact⟨_,rfl,qrd [⟨4,qel v t⟩] true []⟩
   ·rw[decide_eq_false e5,cond_false]
    by_cases e6:g=[60,61]
    ·rw[decide_eq_true e6,cond_true,if_neg (by rw[e6];decide),if_neg (by rw[e6];decide),if_neg e3,if_neg e5,if_pos e6]
     by_cases ht:t=3
     ·rw[decide_eq_false (fun h=>h ht),cond_false,if_pos ht]
      exact⟨_,rfl,qrd [⟨2,v⟩] true []⟩
     ·rw[decide_eq_true ht,cond_true,if_neg ht,hN ht]
      exact⟨_,rfl,qrd [qhw (qel v t)] true []⟩
    ·rw[decide_eq_false e6,cond_false]
     by_cases e2:g=[126]
     ·rw[decide_eq_true e2,cond_true,if_neg (by rw[e2];decide),if_pos e2]
      exact⟨_,rfl,qrd [⟨4,v⟩,qhw (qel v t)] true []⟩
     ·rw[decide_eq_false e2,cond_false]
      by_cases e1:g=[94]
      ·rw[decide_eq_true e1,cond_true,if_pos e1]
       exact⟨_,rfl,qrd [⟨4,v⟩,qhw (qey v t)] true []⟩
      ·rw[decide_eq_false e1,cond_false,if_neg e1,if_neg e2,if_neg e3,if_neg e5,if_neg e6,if_neg e4]
       by_cases ht:t=3
       ·rw[decide_eq_false (fun h=>h ht),cond_false,if_pos ht]
        exact⟨_,rfl,qrd [⟨0,v⟩] true []⟩
       ·rw[decide_eq_true ht,cond_true,if_neg ht,hN ht]
        exact⟨_,rfl,qrd [⟨4,v⟩,qhw (qel v t)] true []⟩
theorem qpdb (cs:List Cell)[h:CanonA (.agg cs)](H:List Entry):mapO (qan false H) [.agg cs]=some [.agg cs]:=qbe [.agg cs] _ _
def qze:List Str→Nat→List Int→Option (List Int×Nat)
 | [],told,ns=>if 1≤told∧told≤2 then some (ns,told) else none
 | x::r,told,ns=>if x=xS then (if r.all (·==xS) then (if 1≤told∧told≤2 then some (ns,told) else none) else none)
  else match qao x 9999 with
   | none=>none
   | some a=>qze r (told+1) (ns.set told a)
theorem readP_eq (l:List Str)(hl:l.length≤3):(numsOf l=none∧qze l 0 [0,0,0]=none)∨∃ v t,numsOf l=some (v,t)∧qze l 0 [0,0,0]=some ([v.A,v.B,v.C],t)∧v.Pre=[]:=by
 have hx:=xS_num
 match l,hl with
 | [],_=>exact .inl ⟨rfl,rfl⟩
 | [x],_=>
  simp only[numsOf,qze,oneV]
  by_cases e:x=xS
  ·subst e
   simp[hx]
  ·rw[if_neg e]
   cases h:qao x 9999 with
   | none=>exact .inl ⟨rfl,rfl⟩
   | some a=>exact .inr ⟨⟨a,0,0,[]⟩,1,rfl,rfl,rfl⟩
 | [x,y],_=>
  simp only[numsOf,qze,oneV,twoV]
  by_cases e:x=xS
  ·subst e
   by_cases e2:y=xS
   ·subst e2
    simp[hx]
   ·simp[hx,e2]
  ·rw[if_neg e]
   cases h:qao x 9999 with
   | none=>by_cases e2:y=xS<;>simp[e2]
   | some a=>
    by_cases e2:y=xS
    ·simp only[e2,if_true,List.all_nil]
     exact .inr ⟨⟨a,0,0,[]⟩,1,rfl,rfl,rfl⟩
    ·simp only[if_neg e2]
     cases h2:qao y 9999 with
     | none=>exact .inl ⟨rfl,rfl⟩
     | some b=>exact .inr ⟨⟨a,b,0,[]⟩,2,rfl,rfl,rfl⟩
 | [x,y,z],_=>
  simp only[numsOf,qze,oneV,twoV]
  by_cases e:x=xS
  ·subst e
   by_cases e2:y=xS
   ·subst e2
    by_cases e3:z=xS<;>simp[hx,e3]
   ·by_cases e3:z=xS<;>simp[hx,e2,e3]
  ·rw[if_neg e]
   cases h:qao x 9999 with
   | none=>by_cases e2:y=xS<;>by_cases e3:z=xS<;>simp[e2,e3]
   | some a=>
    by_cases e2:y=xS
    ·by_cases e3:z=xS
     ·simp only[e2,e3,if_true,List.all_cons,List.all_nil,beq_self_eq_true,Bool.and_true]
      exact .inr ⟨⟨a,0,0,[]⟩,1,rfl,rfl,rfl⟩
     ·have:(z==xS)=false:=by simpa using e3
      simp[e2,e3,this]
    ·simp only[if_neg e2]
     cases h2:qao y 9999 with
     | none=>by_cases e3:z=xS<;>simp[e3]
     | some b=>
      by_cases e3:z=xS
      ·simp only[e3,if_true,List.all_nil]
       exact .inr ⟨⟨a,b,0,[]⟩,2,rfl,rfl,rfl⟩
      ·simp only[if_neg e3]
       cases h3:qao z 9999<;>simp
 | _::_::_::_::_,h=>simp at h
def readR:Option (List Int×Nat)→Option (MVer×Nat) | some ([a,b,c],t)=>some (⟨a,b,c,[]⟩,t) | _=>none
theorem c_fep (s:Str)(hs:s.length≤1048576):∃ (w:MVer) (t:Nat),outL qwd [.one (Cell.str (bs s))]=some [.agg [Cell.int w.A,Cell.int w.B,Cell.int w.C,qba w.Pre,Cell.int t,Cell.bool (partOf s).isSome]]∧∀ p,partOf s=some p→p=(w,t):=by
 have hM:=qah
 have hsplit:outL qci [.one (Cell.str (bs s)),.one (.sc (.int .u8 46))]=some [.one (qba (split 46 s))]:=c_fdt s 46 (by omega)
 have hz:∀ G:List Entry,mapO (qan false G) [.agg [Cell.int 0,Cell.int 0,Cell.int 0,.lst true 1 [],Cell.int 0,Cell.bool false]]=some [.agg [Cell.int 0,Cell.int 0,Cell.int 0,qba [],Cell.int ((0:Nat):Int),Cell.bool false]]:=fun G=>rfl
 cases hk:(qac s).2 with
 | true=>
  have hp:partOf s=some ((qac s).1,3):=by unfold partOf;rw[if_pos hk]
  refine⟨(qac s).1,3,?_,fun p h=>by rw[hp] at h;exact(Option.some.inj h).symm⟩
  refine qbb (H:=[]) (qns 0 ?_) (qpdb [Cell.int (qac s).1.A,Cell.int (qac s).1.B,Cell.int (qac s).1.C,qba (qac s).1.Pre,Cell.int ((3:Nat):Int),Cell.bool (partOf s).isSome] [])
  simp only[fep,c_fdp s hs,hk,hp,EV0]
  rfl
 | false=>
  have hp:partOf s=numsOf (split 46 s):=by unfold partOf;rw[if_neg (by rw[hk];simp)]
  have hlen:∀ x∈split 46 s,x.length≤1073741824:=fun x hx=>by
   have:=(qbj 46 s []).2 x hx
   simp only[List.length_nil,Nat.zero_add] at this
   omega
  by_cases h3:(split 46 s).length≤3
  ·
   have l1:∀ (r:List Str) (i n:Nat) (t:Nat) (a b c:Int),(split 46 s).drop i=r→r.length < n→∀ k m,
     qwv k m n (qba (split 46 s)) (.vs 0 1 0 3 0) i t [Entry.mk 1 [[Cell.int a],[Cell.int b],[Cell.int c]] 0 false]=
      some ([cond (r.all (·==xS)) (.agg [Cell.int a,Cell.int b,Cell.int c,.lst true 1 [],Cell.int t,Cell.bool (inR t 1 2)]) (.agg [Cell.int 0,Cell.int 0,Cell.int 0,.lst true 1 [],Cell.int 0,Cell.bool false])],[Entry.mk 1 [[Cell.int a],[Cell.int b],[Cell.int c]] 0 false]):=by
    intro r
    induction r with
    | nil=>
     intro i n t a b c hd hn k m
     obtain⟨n,rfl⟩:∃ q,n=q+1:=⟨n - 1,by omega⟩
     have:=drop_nil hd
     have g0:idxA 1 (.vs 0 1 0 3 0) 0=some (.ptr 0 1 0 0 0):=rfl
     have g1:idxA 1 (.vs 0 1 0 3 0) 1=some (.ptr 0 1 1 0 0):=rfl
     have g2:idxA 1 (.vs 0 1 0 3 0) 2=some (.ptr 0 1 2 0 0):=rfl
     have d0:deref [Entry.mk 1 [[Cell.int a],[Cell.int b],[Cell.int c]] 0 false] (.ptr 0 1 0 0 0)=some ([Cell.int a],0):=rfl
     have d1:deref [Entry.mk 1 [[Cell.int a],[Cell.int b],[Cell.int c]] 0 false] (.ptr 0 1 1 0 0)=some ([Cell.int b],0):=rfl
     have d2:deref [Entry.mk 1 [[Cell.int a],[Cell.int b],[Cell.int c]] 0 false] (.ptr 0 1 2 0 0)=some ([Cell.int c],0):=rfl
     simp only[qwv,EV0]
     rw[decide_eq_false (by omega),cond_false]
     simp only[g0,g1,g2,d0,d1,d2,c_fdz,EV0]
     rfl
    | cons x r ih=>
     intro i n t a b c hd hn k m
     obtain⟨n,rfl⟩:∃ q,n=q+1:=⟨n - 1,by omega⟩
     obtain⟨hlt,hg,hd'⟩:=qai hd
     simp only[List.length_cons] at hn
     simp only[qwv,qak,hg,eStr,EV0]
     rw[decide_eq_true (by omega),cond_true,qag (by omega),ih (i+1) n t a b c hd' (by omega)]
     simp only[List.all_cons]
     rw[show(x==[120])=(x==xS) from rfl]
     cases x==xS<;>rfl
   have l0:∀ (r:List Str) (i n:Nat) (ns:List Int),(split 46 s).drop i=r→i+r.length=(split 46 s).length→r.length < n→ns.length=3→∀ k m,(split 46 s).length < m→
     ∃ xs H',qajb k m n (qba (split 46 s)) (.vs 0 1 0 3 0) i [Entry.mk 1 (ns.map eInt) 0 false]=some (xs,H')∧
      ∃ (w:MVer) (t:Nat),mapO (qan false H') xs=some [.agg [Cell.int w.A,Cell.int w.B,Cell.int w.C,qba w.Pre,Cell.int t,Cell.bool (qze r i ns).isSome]]∧∀ p,readR (qze r i ns)=some p→p=(w,t):=by
    intro r
    induction r with
    | nil=>
     intro i n ns hd hi hn h3 k m hm
     obtain⟨n,rfl⟩:∃ q,n=q+1:=⟨n - 1,by omega⟩
     simp only[List.length_nil,Nat.add_zero] at hi
     obtain⟨a,b,c,rfl⟩:∃ a b c,ns=[a,b,c]:=by
      match ns,h3 with
      | [a,b,c],_=>exact⟨a,b,c,rfl⟩
     simp only[qajb,EV0]
     rw[decide_eq_false (by omega),cond_false]
     have z:=l1 [] i m i a b c hd (by simp;omega) k m
     simp only[List.map_cons,List.map_nil,eInt]
     rw[z]
     refine⟨_,_,rfl,⟨a,b,c,[]⟩,i,?_,?_⟩
     ·simp only[List.all_nil,cond_true]
      have e:inR i 1 2=(qze [] i [a,b,c]).isSome:=by
       unfold qze inR
       by_cases h:1≤i∧i≤2
       ·rw[if_pos h,decide_eq_true (by omega),decide_eq_true (by omega)]
        rfl
       ·rw[if_neg h]
        by_cases h1:1≤i
        ·rw[decide_eq_true (by omega),decide_eq_false (by omega)]
         rfl
        ·rw[decide_eq_false (by omega)]
         rfl
      rw[e]
      rfl
     ·intro p hp
      unfold qze at hp
      split at hp
      ·simpa[readR] using hp.symm
      ·simp[readR] at hp
    | cons x r ih=>
     intro i n ns hd hi hn h3 k m hm
     obtain⟨n,rfl⟩:∃ q,n=q+1:=⟨n - 1,by omega⟩
     obtain⟨hlt,hg,hd'⟩:=qai hd
     simp only[List.length_cons] at hn hi
     have hx:=hlen x (List.mem_of_getElem? hg)
     obtain⟨a,b,c,rfl⟩:∃ a b c,ns=[a,b,c]:=by
      match ns,h3 with
      | [a,b,c],_=>exact⟨a,b,c,rfl⟩
     simp only[qajb,qak,hg,eStr,EV0]
     rw[decide_eq_true (by omega),cond_true,show(x==[120])=(x==xS) from rfl]
     by_cases e:x=xS
     ·rw[show(x==xS)=true by simpa using e,Bool.not_true,cond_false]
      have z:=l1 (x::r) i m i a b c hd (by simp;omega) k m
      simp only[List.map_cons,List.map_nil,eInt]
      rw[z]
      have ea:(x::r).all (·==xS)=r.all (·==xS):=by simp[e]
      rw[ea]
      unfold qze
      rw[if_pos e]
      cases hr:r.all (·==xS) with
      | false=>exact⟨_,_,rfl,⟨0,0,0,[]⟩,0,hz _,fun p hp=>by simp[readR] at hp⟩
      | true=>
       refine⟨_,_,rfl,⟨a,b,c,[]⟩,i,?_,?_⟩
       ·simp only[cond_true,if_true]
        have e:inR i 1 2=(if 1≤i∧i≤2 then some ([a,b,c],i) else none:Option (List Int×Nat)).isSome:=by
         unfold inR
         by_cases h:1≤i∧i≤2
         ·rw[if_pos h,decide_eq_true (by omega),decide_eq_true (by omega)]
          rfl
         ·rw[if_neg h]
          by_cases h1:1≤i
          ·rw[decide_eq_true (by omega),decide_eq_false (by omega)]
           rfl
          ·rw[decide_eq_false (by omega)]
           rfl
        rw[e]
        rfl
       ·intro p hp
        simp only[if_true] at hp
        split at hp
        ·simpa[readR] using hp.symm
        ·simp[readR] at hp
     ·rw[show(x==xS)=false by simpa using e,Bool.not_false,cond_true]
      have hnum:out qco [.one (Cell.str (bs x)),.one (Cell.int 9999)]=some (numV (qao x 9999)):=c_fdn x 9999 hx (by omega)
      simp only[hnum,EV0]
      unfold qze
      rw[if_neg e]
      cases hq:qao x 9999 with
      | none=>
       simp only[numV,EV0,Bool.not_false]
       exact⟨_,_,rfl,⟨0,0,0,[]⟩,0,hz _,fun p hp=>by simp[readR] at hp⟩
      | some q=>
       simp only[numV,EV0,Bool.not_true]
       have hst:∀ j:Nat,j < 3→(idxA 1 (.vs 0 1 0 3 0) (j:Int)).bind (fun c25=>qce [Entry.mk 1 ([a,b,c].map eInt) 0 false] c25 [Cell.int q])=some [Entry.mk 1 (([a,b,c].set j (q:Int)).map eInt) 0 false]:=by
        intro j hj
        rcases (by omega:j=0∨j=1∨j=2) with rfl | rfl | rfl<;>rfl
       have h4:=hst i (by omega)
       obtain⟨c25,i1,i2⟩:=Option.bind_eq_some_iff.1 h4
       simp only[i1,i2,Option.bind_some]
       rw[qag (by omega)]
       exact ih (i+1) n ([a,b,c].set i (q:Int)) hd' (by omega) (by omega) (by simp) k m hm
   obtain⟨xs,H',z1,w,t,z2,z3⟩:=l0 (split 46 s) 0 ((split 46 s).length+1+1) [0,0,0] rfl (by omega) (by omega) rfl ((split 46 s).length+1+1) ((split 46 s).length+1+1) (by omega)
   have hiso:(partOf s).isSome=(qze (split 46 s) 0 [0,0,0]).isSome∧partOf s=readR (qze (split 46 s) 0 [0,0,0]):=by
    rw[hp]
    rcases readP_eq (split 46 s) h3 with⟨h4,h5⟩ | ⟨v,t,h4,h5,h6⟩
    ·rw[h4,h5]
     exact⟨rfl,rfl⟩
    ·rw[h4,h5]
     refine⟨rfl,?_⟩
     obtain⟨A,B,C,pre⟩:=v
     simp only at h6
     subst h6
     rfl
   refine⟨w,t,?_,fun p h=>z3 p (by rw[← hiso.2];exact h)⟩
   rw[hiso.1]
   refine qbb (H:=H') (qns ((split 46 s).length+1) ?_) z2
   simp only[fep,c_fdp s hs,hk,hsplit,EV0]
   rw[decide_eq_false (by omega),cond_false]
   exact z1
  ·have hno:numsOf (split 46 s)=none:=by
    match h:split 46 s with
    | []=>rfl
    | [x]=>rw[h] at h3;simp at h3
    | [x,y]=>rw[h] at h3;simp at h3
    | [x,y,z]=>rw[h] at h3;simp at h3
    | _::_::_::_::_=>rfl
   rw[hp,hno]
   refine⟨⟨0,0,0,[]⟩,0,qbb (H:=[Entry.mk 1 [[Cell.int 0],[Cell.int 0],[Cell.int 0]] 0 false]) (qns 0 ?_) (hz _),fun p h=>by simp at h⟩
   simp only[fep,c_fdp s hs,hk,hsplit,EV0]
   rw[decide_eq_true (by omega),cond_true]
   rfl
theorem sign_at {i:Nat}{g:Str}(h:signs[i]?=some g):cS [Cell.str (bs [94]),Cell.str (bs [126]),Cell.str (bs [62,61]),Cell.str (bs [62]),Cell.str (bs [60,61]),Cell.str (bs [60]),Cell.str (bs [61]),Cell.str (bs [])] i=some (bs g):=by
 have hlt:i < 8:=(List.getElem?_eq_some_iff.1 h).1
 rcases (by omega:i=0∨i=1∨i=2∨i=3∨i=4∨i=5∨i=6∨i=7) with rfl | rfl | rfl | rfl | rfl | rfl | rfl | rfl<;>
  (simp only[signs,List.getElem?_cons_succ,List.getElem?_cons_zero,Option.some.injEq] at h;subst h;rfl)
theorem trimP_pre {g w:Str}(h:g.isPrefixOf w=true):trimP g w=w.drop g.length:=by
 unfold trimP
 rw[h]
 rfl
theorem c_fet (w:Str)(hw:w.length≤1048576):outL qxb [.one (Cell.str (bs w))]=some [.one (encL 5 eCmp ((qjm w).getD [])),.one (Cell.bool (qjm w).isSome)]:=by
 have hM:=qah
 have hlist:(.lst true 1 [[Cell.str (bs [94])],[Cell.str (bs [126])],[Cell.str (bs [62,61])],[Cell.str (bs [62])],[Cell.str (bs [60,61])],[Cell.str (bs [60])],[Cell.str (bs [61])],[Cell.str (bs [])]]:Cell)=.lst true 1 (signs.map eStr):=rfl
 have hz:mapO (qan false []) [.one (.lst true 5 []),.one (Cell.bool false)]=some [.one (encL 5 eCmp []),.one (Cell.bool false)]:=rfl
 have loop:∀ (r:List Str) (i n:Nat),signs.drop i=r→r.length < n→∀ k m,∃ xs,qrx k m n (bs w) i=some (xs,[])∧mapO (qan false []) xs=some [.one (encL 5 eCmp ((qeg w r).getD [])),.one (Cell.bool (qeg w r).isSome)]:=by
  intro r
  induction r with
  | nil=>
   intro i n hd hn k m
   obtain⟨n,rfl⟩:∃ j,n=j+1:=⟨n - 1,by omega⟩
   have:=drop_nil hd
   simp only[signs,List.length_cons,List.length_nil] at this
   simp only[qrx]
   rw[decide_eq_false (by omega),cond_false]
   exact⟨_,rfl,hz⟩
  | cons g r ih=>
   intro i n hd hn k m
   obtain⟨n,rfl⟩:∃ j,n=j+1:=⟨n - 1,by omega⟩
   obtain⟨hlt,hg,hd'⟩:=qai hd
   simp only[signs,List.length_cons,List.length_nil] at hlt
   simp only[List.length_cons] at hn
   have hi:idxA 1 (.lst true 1 (signs.map eStr)) (i:Int)=some (.ref (eStr g) 0):=by rw[qakb,List.getElem?_map,hg];rfl
   have hpre:(decide (w.length≥g.length)=true∧(w.take g.length==g)=true)↔g.isPrefixOf w=true:=by
    rw[List.isPrefixOf_iff_prefix,List.prefix_iff_eq_take,decide_eq_true_eq,beq_iff_eq]
    constructor
    ·intro h;exact h.2.symm
    ·intro h
     refine⟨?_,h.symm⟩
     have:=congrArg List.length h
     rw[List.length_take] at this
     omega
   simp only[qrx,hlist,hi,eStr,EV0]
   rw[decide_eq_true (by omega),cond_true]
   obtain⟨xs,z1,z2⟩:=ih (i+1) n hd' (by omega) k m
   by_cases hp:g.isPrefixOf w=true
   ·obtain⟨h1,h2⟩:=hpre.2 hp
    have hge:w.length≥g.length:=by simpa using h1
    have s1:=qcw w 0 g.length (Nat.zero_le _) hge
    have s2:=qcw w g.length w.length hge (Nat.le_refl _)
    rw[List.drop_zero] at s1
    rw[List.take_length] at s2
    rw[show decide ((w.length:Int)≥(g.length:Int))=true by rw[decide_eq_true_eq];omega,cond_true,show((0:Int))=((0:Nat):Int) from rfl,s1]
    simp only[EV0]
    rw[h2,cond_true,s2]
    obtain⟨v,t,q1,q2⟩:=c_fep (w.drop g.length) (by simp;omega)
    simp only[q1,EV0,qoh,qcwb]
    have hgo:qeg w (g::r)=match partOf (w.drop g.length) with | some p=>some (qcr g p.1 p.2) | none=>none:=by
     rw[qeg,if_pos hp]
    cases hpo:partOf (w.drop g.length) with
    | none=>
     rw[hpo] at hgo
     rw[hgo]
     simp only[Option.isSome_none,Bool.not_false,cond_true]
     exact⟨_,rfl,hz⟩
    | some p=>
     have e:=q2 p hpo
     subst e
     rw[hpo] at hgo
     rw[hgo]
     have hok:=(qsh hpo).1
     simp only[Option.isSome_some,Bool.not_true,cond_false,c_fen g v hok t true,EV0]
     exact⟨_,rfl,qbe [.one (encL 5 eCmp (qcr g v t)),.one (Cell.bool true)] _ _⟩
   ·have hgo:qeg w (g::r)=qeg w r:=by rw[qeg,if_neg hp]
    rw[hgo]
    rw[qag (by omega)]
    by_cases hge:w.length≥g.length
    ·have s1:=qcw w 0 g.length (Nat.zero_le _) hge
     rw[List.drop_zero] at s1
     rw[show decide ((w.length:Int)≥(g.length:Int))=true by rw[decide_eq_true_eq];omega,cond_true,show((0:Int))=((0:Nat):Int) from rfl,s1]
     simp only[EV0]
     have h2:(w.take g.length==g)=false:=by
      cases h:(w.take g.length==g) with
      | false=>rfl
      | true=>exact absurd (hpre.1 ⟨by simpa using hge,h⟩) hp
     rw[h2,cond_false]
     exact⟨xs,z1,z2⟩
    ·rw[show decide ((w.length:Int)≥(g.length:Int))=false by rw[decide_eq_false_iff_not];omega,cond_false]
     exact⟨xs,z1,z2⟩
 by_cases h42:w=[42]
 ·subst h42
  refine qbb (H:=[]) (qwo 0 ?_) (show mapO (qan false []) [.one (.lst true 5 [[Cell.int 4,Cell.int 0,Cell.int 0,Cell.int 0,.lst true 1 []]]),.one (Cell.bool true)]=some [.one (encL 5 eCmp [⟨4,zeroV⟩]),.one (Cell.bool true)] from rfl)
  have hrun:∀ q,fet q q (bs [42])=some ([.one (.lst true 5 [[Cell.int 4,Cell.int 0,Cell.int 0,Cell.int 0,.lst true 1 []]]),.one (Cell.bool true)],[]):=by
   intro q
   simp only[fet,qcg,beq_self_eq_true,cond_true]
  exact hrun _
 ·have hc:qjm w=qeg w signs:=by unfold qjm;rw[if_neg h42]
  rw[hc]
  obtain⟨xs,z1,z2⟩:=loop signs 0 10 rfl (by simp[signs]) (9+1) (9+1)
  have hrun:∀ q,fet q q (bs w)=qrx q q q (bs w) 0:=by
   intro q
   simp only[fet,qcg]
   rw[show(w==[42])=false by simpa using h42,cond_false]
  exact qbb (qwo 9 ((hrun _).trans z1)) z2
theorem c_fel (l:List RCmp)(hl:l.length≤1073741824)(hc:∀ c∈l,c.v.Bd 1048576):out qul [.one (encL 5 eCmp l)]=some [.one (Cell.bool (l.all (fun c=>qex c.v)))]:=by
 have hM:=qah
 have loop:∀ (r:List RCmp) (i n:Nat),l.drop i=r→r.length < n→∀ k m,qzw k m n (encL 5 eCmp l) i=some ([.one (Cell.bool (r.all (fun c=>qex c.v)))],[]):=by
  intro r
  induction r with
  | nil=>
   intro i n hd hn k m
   obtain⟨n,rfl⟩:∃ j,n=j+1:=⟨n - 1,by omega⟩
   have:=drop_nil hd
   simp only[qzw,EV0]
   rw[decide_eq_false (by omega),cond_false]
   rfl
  | cons x r ih=>
   intro i n hd hn k m
   obtain⟨n,rfl⟩:∃ j,n=j+1:=⟨n - 1,by omega⟩
   obtain⟨hlt,hg,hd'⟩:=qai hd
   simp only[List.length_cons] at hn
   have hx:=hc x (List.mem_of_getElem? hg)
   simp only[qzw,qak,hg,eCmp,qcl,Nat.zero_add,c_fdv x.v.A x.v.B x.v.C x.v.Pre hx.2.2.2,EV0]
   rw[decide_eq_true (by omega),cond_true,qag (by omega),ih (i+1) n hd' (by omega)]
   simp only[List.all_cons,qex]
   cases qdo x.v.A x.v.B x.v.C x.v.Pre<;>rfl
 refine qaw (H:=[]) (qneb (l.length+1) ?_)
 exact loop l 0 (l.length+1+1) rfl (by omega) (l.length+1+1) (l.length+1+1)
def qdkb (ws:List Str):Option (List RCmp):=match hyphW ws with
 | some (a,c)=>if (qac a).2&&(qac c).2 then some [⟨4,(qac a).1⟩,⟨2,(qac c).1⟩] else none
 | none=>match qdh ws [] with
  | some l=>if l.length≤4 then some l else none
  | none=>none
theorem qfzb:∀ (ws:List Str) (acc l:List RCmp),qdh ws acc=some l→(∀ c∈acc,okB c.v)→∀ c∈l,okB c.v
 | [],acc,l,h,ha=>by
  simp only[qdh,Option.some.injEq] at h
  subst h
  exact ha
 | w::r,acc,l,h,ha=>by
  unfold qdh at h
  split at h
  ·rename_i q hq
   refine qfzb r _ l h fun c hc=>?_
   rcases List.mem_append.1 hc with hc | hc
   ·exact ha c hc
   ·exact(qapb hq).2 c hc
  ·simp at h
theorem okB_of {v:MVer}(h:qex v=true):okB v:=okV_B (qjb h)
theorem listS_B {ws:List Str}{l:List RCmp}(h:qdkb ws=some l):l.length≤4∧∀ c∈l,okB c.v:=by
 unfold qdkb at h
 split at h
 ·rename_i a c _
  split at h
  ·rename_i hk
   simp only[Bool.and_eq_true] at hk
   simp only[Option.some.injEq] at h
   subst h
   exact⟨by simp,by simp[okB_of (qez hk.1),okB_of (qez hk.2)]⟩
  ·simp at h
 ·split at h
  ·rename_i q hq
   split at h
   ·rename_i hl
    simp only[Option.some.injEq] at h
    subst h
    exact⟨hl,qfzb _ _ _ hq (by simp)⟩
   ·simp at h
  ·simp at h
theorem qut (ws:List Str):qni ws=match qdkb ws with | some l=>if l.all (fun c=>qex c.v)=true then some l else none | none=>none:=by
 unfold qni qdkb listW
 cases hyphW ws with
 | some p=>
  obtain⟨a,c⟩:=p
  simp only
  by_cases hk:((qac a).2&&(qac c).2)=true
  ·rw[if_pos hk]
   simp only[Bool.and_eq_true] at hk
   simp[qez hk.1,qez hk.2]
  ·rw[if_neg hk]
 | none=>
  simp only
  cases qdh ws [] with
  | none=>rfl
  | some l=>
   simp only
   by_cases h:l.length≤4
   ·simp only[h,true_and,if_true]
   ·simp[h]
theorem qtp {ws:List Str}{a c:Str}(h:hyphW ws=some (a,c)):ws=[a,[45],c]:=by
 unfold hyphW at h
 split at h
 ·split at h
  ·rename_i hb
   simp only[Option.some.injEq,Prod.mk.injEq] at h
   rw[hb,h.1,h.2]
  ·simp at h
 ·simp at h
theorem qqmb (H:List Entry)(l:List RCmp):qbr H 5 (encL 5 eCmp l)=some (l.map eCmp):=by simp[qbr,rowsOf,encL]
theorem c_fem (ws:List Str)(hl:ws.length≤1048577)(hw:∀ x∈ws,x.length≤1048576):∃ l:List RCmp,outL qvm [.one (qba ws)]=some [.one (encL 5 eCmp l),.one (Cell.bool (qdkb ws).isSome)]∧∀ q,qdkb ws=some q→q=l:=by
 have hM:=qah
 have loop:∀ (r:List Str) (i n:Nat) (acc:List RCmp) (c:Cell) (H:List Entry),ws.drop i=r→r.length < n→acc.length≤2*i→Grow 5 c H (acc.map eCmp)→∀ k m,
   ∃ (c':Cell) (H':List Entry) (l:List RCmp) (b:Bool),quw k m n (qba ws) c i H=some ([.one c',.one (Cell.bool b)],H')∧Grow 5 c' H' (l.map eCmp)∧
    match qdh r acc with | some q=>q=l∧b=decide (q.length≤4) | none=>b=false:=by
  intro r
  induction r with
  | nil=>
   intro i n acc c H hd hn ha hg k m
   obtain⟨n,rfl⟩:∃ j,n=j+1:=⟨n - 1,by omega⟩
   have:=drop_nil hd
   have hlc:lenC c=some acc.length:=by
    rcases hg with⟨h1,rfl,_⟩ | ⟨ep,rfl,_⟩
    ·simp only[List.map_eq_nil_iff] at h1
     subst h1
     rfl
    ·simp
   refine⟨c,H,acc,decide (acc.length≤4),?_,hg,by rw[qdh];exact⟨rfl,rfl⟩⟩
   simp only[quw,hlc,EV0]
   rw[decide_eq_false (by omega),cond_false,show decide ((acc.length:Int)≤4)=decide (acc.length≤4) by rw[decide_eq_decide];omega]
  | cons x r ih=>
   intro i n acc c H hd hn ha hg k m
   obtain⟨n,rfl⟩:∃ j,n=j+1:=⟨n - 1,by omega⟩
   obtain⟨hlt,hx,hd'⟩:=qai hd
   simp only[List.length_cons] at hn
   have hxl:=hw x (List.mem_of_getElem? hx)
   simp only[quw,qak,hx,eStr,c_fet x hxl,EV0]
   rw[decide_eq_true (by omega),cond_true]
   cases hq:qjm x with
   | none=>
    refine⟨c,H,acc,false,?_,hg,by rw[qdh,hq]⟩
    simp only[Option.isSome_none,Bool.not_false,cond_true]
   | some q=>
    have hqB:=qapb hq
    obtain⟨p,e1,e2⟩:=hg.app (by':=56) (q.map eCmp) (by unfold bound;simp only[List.length_map];omega) (by unfold bound;simp only[List.length_map];omega)
    obtain⟨c',H',l,b,z1,z2,z3⟩:=ih (i+1) n (acc++q) p.1 p.2 hd' (by omega) (by rw[List.length_append];omega) (by simpa using e2) k m
    refine⟨c',H',l,b,?_,z2,by rw[qdh,hq];exact z3⟩
    simp only[Option.isSome_some,Option.getD_some,Bool.not_true,cond_false,qqmb,e1,Option.bind_some]
    rw[qag (by omega)]
    exact z1
 cases hh:hyphW ws with
 | some p=>
  obtain⟨a,c⟩:=p
  have hws:=qtp hh
  subst hws
  have ha:=hw a (by simp)
  have hcl:=hw c (by simp)
  have i0:idxA 1 (encL 1 eStr [a,[45],c]) 0=some (.ref (eStr a) 0):=rfl
  have i1:idxA 1 (encL 1 eStr [a,[45],c]) 1=some (.ref (eStr [45]) 0):=rfl
  have i2:idxA 1 (encL 1 eStr [a,[45],c]) 2=some (.ref (eStr c) 0):=rfl
  have hs:qdkb [a,[45],c]=if (qac a).2&&(qac c).2 then some [⟨4,(qac a).1⟩,⟨2,(qac c).1⟩] else none:=by
   unfold qdkb
   rw[hh]
  have e4:∀ {β:Type} (a1 b1 d1:Int) (x1:List Str) (a2 b2 d2:Int) (x2:List Str) (κ:List Cell→Option β),restK [Cell.int 4,Cell.int a1,Cell.int b1,Cell.int d1,qba x1,Cell.int 2,Cell.int a2,Cell.int b2,Cell.int d2,qba x2] κ=κ [Cell.int 4,Cell.int a1,Cell.int b1,Cell.int d1,qba x1,Cell.int 2,Cell.int a2,Cell.int b2,Cell.int d2,qba x2]:=fun _ _ _ _ _ _ _ _ κ=>rfl
  refine⟨[⟨4,(qac a).1⟩,⟨2,(qac c).1⟩],?_,fun q hq=>by rw[hs] at hq;split at hq<;>simp_all⟩
  have hb:(qdkb [a,[45],c]).isSome=((qac a).2&&(qac c).2):=by
   rw[hs]
   split<;>simp_all
  rw[hb]
  refine qbb (H:=[]) (qyc 0 ?_) (leafRB [⟨4,(qac a).1⟩,⟨2,(qac c).1⟩] true _ [])
  simp only[fem,i0,i1,i2,eStr,c_fdp a ha,c_fdp c hcl,e4,EV0]
  rw[show(((0+1+1+1:Nat):Int)==3)=true from rfl]
  simp only[cond_true]
  cases (qac a).2<;>rfl
 | none=>
  obtain⟨c',H',l,b,z1,z2,z3⟩:=loop ws 0 (ws.length+1+1) [] (.lst true 5 []) [] rfl (by omega) (by simp) (Grow.nil 5) (ws.length+1+1) (ws.length+1+1)
  have hb:b=(qdkb ws).isSome∧∀ q,qdkb ws=some q→q=l:=by
   unfold qdkb
   rw[hh]
   simp only
   cases hq:qdh ws [] with
   | none=>
    rw[hq] at z3
    exact⟨z3,by simp⟩
   | some q=>
    rw[hq] at z3
    obtain⟨h1,h2⟩:=z3
    simp only
    by_cases h4:q.length≤4
    ·rw[if_pos h4]
     exact⟨by rw[h2,decide_eq_true h4];rfl,fun q' h=>by simp only[Option.some.injEq] at h;rw[← h];exact h1⟩
    ·rw[if_neg h4]
     exact⟨by rw[h2,decide_eq_false h4];rfl,by simp⟩
  refine⟨l,?_,hb.2⟩
  have hrd:=z2.read (e:=eCmp)
  obtain⟨y,zs,e1,e2,e3⟩:=qdg hrd
  have e4:zs=[]:=by simpa[mapO] using e3.symm
  subst e4
  simp only[List.cons.injEq,and_true] at e1
  subst e1
  rw[← hb.1]
  refine qbb (H:=H') (qyc (ws.length+1) ?_) (qcv e2 (qcv (qbf _ _ _) (qbu _)))
  simp only[fem,EV0]
  by_cases h3:ws.length=3
  ·obtain⟨a,d,e,rfl⟩:∃ a d e,ws=[a,d,e]:=by
    match ws,h3 with
    | [a,d,e],_=>exact⟨a,d,e,rfl⟩
   have hd:(d==[45])=false:=by
    cases h:(d==[45]) with
    | false=>rfl
    | true=>
     have:d=[45]:=by simpa using h
     subst this
     simp[hyphW] at hh
   have i1:idxA 1 (encL 1 eStr [a,d,e]) 1=some (.ref (eStr d) 0):=rfl
   rw[show((([a,d,e]:List Str).length:Int)==3)=true from rfl,cond_true]
   simp only[i1,eStr,EV0]
   rw[hd,cond_false]
   exact z1
  ·rw[show((ws.length:Int)==3)=false by rw[beq_eq_false_iff_ne];omega,cond_false]
   exact z1
theorem qjq:∀ (r:List Str) (acc l:List (List RCmp)),qcp r acc=some l→l.length=acc.length+r.length
 | [],acc,l,h=>by
  simp only[qcp,Option.some.injEq] at h
  subst h
  rfl
 | p::r,acc,l,h=>by
  unfold qcp at h
  split at h
  ·rename_i q hq
   have:=qjq r _ l h
   simp only[List.length_append,List.length_cons,List.length_nil] at this ⊢
   omega
  ·simp at h
theorem c_fdo (s:Str)(hs:s.length≤1048576):outL qus [.one (Cell.str (bs s))]=some [.one (qew ((qbo s).getD [])),.one (Cell.bool (qbo s).isSome)]:=by
 have hM:=qah
 have hsl:=qeq s.length s [] (Nat.le_refl _)
 have hll:(sides s).length≤s.length+1:=hsl.1
 have hel:∀ x∈sides s,x.length≤1048576:=fun x hx=>by
  have:=hsl.2 x hx
  simp only[List.length_nil,Nat.zero_add] at this
  omega
 have hz:∀ G:List Entry,mapO (qan false G) [.one (.lst true 1 []),.one (Cell.bool false)]=some [.one (qew []),.one (Cell.bool false)]:=fun G=>rfl
 have loop:∀ (r:List Str) (i n:Nat) (acc:List (List RCmp)) (c:Cell) (H:List Entry),(sides s).drop i=r→r.length < n→acc.length=i→Grow 1 c H (acc.map qqw)→∀ k m,
   ∃ xs H',qbib k m n c (qba (sides s)) i H=some (xs,H')∧
    mapO (qan false H') xs=some (match qcp r acc with | some l=>if l.length≤4 then [.one (qew l),.one (Cell.bool true)] else [.one (qew []),.one (Cell.bool false)] | none=>[.one (qew []),.one (Cell.bool false)]):=by
  intro r
  induction r with
  | nil=>
   intro i n acc c H hd hn ha hg k m
   obtain⟨n,rfl⟩:∃ j,n=j+1:=⟨n - 1,by omega⟩
   have:=drop_nil hd
   have hlc:lenC c=some acc.length:=by
    rcases hg with⟨h1,rfl,_⟩ | ⟨ep,rfl,_⟩
    ·simp only[List.map_eq_nil_iff] at h1
     subst h1
     rfl
    ·simp
   simp only[qbib,hlc,EV0]
   rw[decide_eq_false (by omega),cond_false,qcp]
   simp only
   by_cases h4:acc.length≤4
   ·rw[decide_eq_false (by omega),cond_false,if_pos h4]
    have hrd:=hg.read (e:=qqw)
    obtain⟨y,zs,e1,e2,e3⟩:=qdg hrd
    have e4:zs=[]:=by simpa[mapO] using e3.symm
    subst e4
    simp only[List.cons.injEq,and_true] at e1
    subst e1
    exact⟨_,_,rfl,qcv e2 (qcv (qbf _ _ _) (qbu _))⟩
   ·rw[decide_eq_true (by omega),cond_true,if_neg h4]
    exact⟨_,_,rfl,hz _⟩
  | cons x r ih=>
   intro i n acc c H hd hn ha hg k m
   obtain⟨n,rfl⟩:∃ j,n=j+1:=⟨n - 1,by omega⟩
   obtain⟨hlt,hx,hd'⟩:=qai hd
   simp only[List.length_cons] at hn
   have hxl:=hel x (List.mem_of_getElem? hx)
   have htl:=trim_le x
   have hspl:=qbj 32 (trim x) []
   have hwl:(split 32 (trim x)).length≤1048577:=by have:=hspl.1;unfold split;omega
   have hww:∀ y∈split 32 (trim x),y.length≤1048576:=fun y hy=>by
    have:=hspl.2 y hy
    simp only[List.length_nil,Nat.zero_add] at this
    omega
   have hsplit:outL qci [.one (Cell.str (bs (trim x))),.one (.sc (.int .u8 32))]=some [.one (qba (split 32 (trim x)))]:=c_fdt (trim x) 32 (by omega)
   obtain⟨l,q1,q2⟩:=c_fem (split 32 (trim x)) hwl hww
   have e5:∀ {β:Type} (l:List RCmp) (κ:List Cell→Option β),restK [encL 5 eCmp l] κ=κ [encL 5 eCmp l]:=fun l κ=>rfl
   have hsrc:∀ (G:List Entry) (l:List RCmp),qbr G 1 (.lst true 1 (chunks 1 1 [encL 5 eCmp l]))=some [qqw l]:=fun G l=>by simp[qbr,rowsOf,chunks,qqw]
   simp only[qbib,qak,hx,eStr,c_fes x (by omega),hsplit,q1,EV0]
   rw[decide_eq_true (by omega),cond_true]
   have hlo:qko x=match qdkb (split 32 (trim x)) with | some l=>if l.all (fun c=>qex c.v)=true then some l else none | none=>none:=qut _
   cases hS:qdkb (split 32 (trim x)) with
   | none=>
    rw[hS] at hlo
    simp only at hlo
    rw[qcp,hlo]
    simp only[Option.isSome_none,Bool.not_false,cond_true]
    exact⟨_,_,rfl,hz _⟩
   | some l'=>
    have:=q2 l' hS
    subst this
    have hB:=listS_B hS
    rw[hS] at hlo
    simp only at hlo
    simp only[Option.isSome_some,Bool.not_true,cond_false,c_fel l' (by omega) (fun c hc=>okB_bd (hB.2 c hc)),EV0]
    rw[qcp,hlo]
    by_cases hall:l'.all (fun c=>qex c.v)=true
    ·rw[if_pos hall,hall]
     obtain⟨p,a1,g1⟩:=hg.app (by':=24) [qqw l'] (by unfold bound;simp;omega) (by unfold bound;simp;omega)
     obtain⟨xs,H',z1,z2⟩:=ih (i+1) n (acc++[l']) p.1 p.2 hd' (by omega) (by simp;omega) (by simpa using g1) k m
     refine⟨xs,H',?_,z2⟩
     simp only[Bool.not_true,cond_false,e5,hsrc,a1,Option.bind_some]
     rw[qag (by omega)]
     exact z1
    ·have:l'.all (fun c=>qex c.v)=false:=by simpa using hall
     rw[if_neg hall,this]
     exact⟨_,_,rfl,hz _⟩
 obtain⟨xs,H',z1,z2⟩:=loop (sides s) 0 ((sides s).length+1+1) [] (.lst true 1 []) [] rfl (by omega) rfl (Grow.nil 1) ((sides s).length+1+1) ((sides s).length+1+1)
 have hres:(match qcp (sides s) [] with | some l=>if l.length≤4 then [AV.one (qew l),.one (Cell.bool true)] else [.one (qew []),.one (Cell.bool false)] | none=>[.one (qew []),.one (Cell.bool false)])=[.one (qew ((qbo s).getD [])),.one (Cell.bool (qbo s).isSome)]:=by
  unfold qbo
  cases hq:qcp (sides s) [] with
  | none=>by_cases h4:(sides s).length≤4<;>simp[h4]
  | some l=>
   have h1:=qjq _ _ _ hq
   simp only[List.length_nil,Nat.zero_add] at h1
   by_cases h4:(sides s).length≤4<;>simp[h1,h4]
 rw[hres] at z2
 refine qbb (H:=H') (qmyb ((sides s).length+1) ?_) z2
 simp only[fdo,c_feq s (by omega),EV0]
 exact z1
def resP:Option (MVer×Nat)→List AV | some (v,t)=>[.agg [Cell.int v.A,Cell.int v.B,Cell.int v.C,.lst true 1 []],.one (Cell.int t),.one (Cell.bool true)] | none=>[.agg [Cell.int 0,Cell.int 0,Cell.int 0,.lst true 1 []],.one (Cell.int 0),.one (Cell.bool false)]
theorem qmeb {l:List Str}{p:MVer×Nat}(h:numsOf l=some p):p.1.Pre=[]:=by
 have one:∀ x p,oneV x=some p→p.1.Pre=[]:=fun x p h=>by
  unfold oneV at h
  split at h
  ·simp only[Option.some.injEq] at h
   subst h
   rfl
  ·simp at h
 have two:∀ x y p,twoV x y=some p→p.1.Pre=[]:=fun x y p h=>by
  unfold twoV at h
  split at h
  ·simp only[Option.some.injEq] at h
   subst h
   rfl
  ·simp at h
 unfold numsOf at h
 split at h
 ·exact one _ _ h
 ·split at h
  ·exact one _ _ h
  ·exact two _ _ _ h
 ·split at h
  ·split at h
   ·exact one _ _ h
   ·exact two _ _ _ h
  ·simp at h
 ·simp at h
theorem c_fbj (s:Str)(hs:s.length≤1048576):∃ (w:MVer) (t:Nat),outL qvd [.one (Cell.str (bs s))]=some [.agg [Cell.int w.A,Cell.int w.B,Cell.int w.C,qba w.Pre],.one (Cell.int t),.one (Cell.bool (partOf s).isSome)]∧∀ p,partOf s=some p→p=(w,t):=by
 have hM:=qah
 obtain⟨cs,E,i2,e2,r2,w2,_⟩:=qgdb (f_fao s hs) ([]:List Entry) (qbe [.one (Cell.str (bs s))] _ _)
 obtain⟨c6,rfl⟩:=MVer.open r2
 rw[List.nil_append] at e2 r2
 cases hk:(qac s).2 with
 | true=>
  have hp:partOf s=some ((qac s).1,3):=by unfold partOf;rw[if_pos hk]
  refine⟨(qac s).1,3,?_,fun p h=>by rw[hp] at h;exact(Option.some.inj h).symm⟩
  have hr:=qkr r2 (by omega)
  simp only[MVer.tr,List.map_cons,List.map_nil,qch,qbz] at hr
  refine qbb (H:=E) (xs:=[.agg [Cell.int (qac s).1.A,Cell.int (qac s).1.B,Cell.int (qac s).1.C,c6],.one (Cell.int ((3:Nat):Int)),.one (Cell.bool (partOf s).isSome)]) (qpd 0 ?_) (qcv hr (qcv (qbf _ _ _) (qcv (qbf _ _ _) (qbu _))))
  simp only[fbj,e2,hk,hp,EV0]
  rfl
 | false=>
  have hp:partOf s=numsOf (split 46 s):=by unfold partOf;rw[if_neg (by rw[hk];simp)]
  obtain⟨c9,E2,is,e3,r3,w3,_⟩:=qsvb (f_ffe s 46 (by omega)) E (qbe [.one (Cell.str (bs s)),.one (Cell.str (bs [46]))] _ _)
  have hl:=qkh.of (n:=2) r3
  generalize hH:E++E2=H at e3 r3 hl
  have hlen:∀ x∈split 46 s,x.length≤1073741824:=fun x hx=>by
   have:=(qbj 46 s []).2 x hx
   simp only[List.length_nil,Nat.zero_add] at this
   omega
  have hll:(split 46 s).length≤s.length+1:=(qbj 46 s []).1
  have hne:split 46 s≠[]:=qes _ _
  have hz:mapO (qan false H) [.agg [Cell.int 0,Cell.int 0,Cell.int 0,.lst true 1 []],.one (Cell.int 0),.one (Cell.bool false)]=some [.agg [Cell.int 0,Cell.int 0,Cell.int 0,qba []],.one (Cell.int ((0:Nat):Int)),.one (Cell.bool false)]:=rfl
  have hnum:∀ x:Str,x.length≤1073741824→out qiv [.one (Cell.str (bs x)),.one (Cell.int 9999)]=some (numV (qao x 9999)):=fun x hx=>c_fam x 9999 hx (by omega)
  by_cases h3:(split 46 s).length≤3
  ·
   obtain⟨id,off,ep,hc⟩:∃ id off ep,c9=.vs id 1 off (split 46 s).length ep:=by
    rcases r3 with⟨h1,_⟩ | ⟨id,off,ep,e,fr,is',h2,_⟩
    ·exact absurd (by simpa using h1) hne
    ·exact⟨id,off,ep,by simpa using h2⟩
   have hsl:∀ t:Nat,t≤(split 46 s).length→slcC 1 c9 0 (some (t:Int)) none=some (.vs id 1 off t ep):=by
    intro t ht
    rw[hc]
    simp only[slcC,Option.getD_some,Option.getD_none,if_true]
    rw[if_pos ⟨by omega,by omega,by omega,by omega⟩,if_pos (.inl trivial)]
    simp
   have hat:∀ (t i:Nat) (x:Str),i < t→t≤(split 46 s).length→(split 46 s)[i]?=some x→∃ a rw' off',idxA 1 (.vs id 1 off t ep) (i:Int)=some a∧deref H a=some (rw',off')∧cS rw' off'=some (bs x):=by
    intro t i x h1 h2 h4
    obtain⟨a,rw',off',q1,q2,q3⟩:=hl.at h4
    refine⟨a,rw',off',?_,q2,q3⟩
    rw[← q1,hc]
    simp only[idxA,if_true]
    rw[if_pos ⟨by omega,by omega⟩,if_pos ⟨by omega,by omega⟩]
   have one:∀ (x:Str),(split 46 s)[0]?=some x→∀ k m n,qoq k m (n+1+1) 1 (.vs id 1 off 1 ep) 1 0 0 0 H=some (resP (oneV x),H):=by
    intro x hx k m n
    obtain⟨a,rw',off',q1,q2,q3⟩:=hat 1 0 x (by omega) (List.length_pos_iff.2 hne) hx
    rw[show((0:Nat):Int)=0 from rfl] at q1
    have hxl:=hlen x (List.mem_of_getElem? hx)
    rw[qoq]
    simp only[q1,q2,q3,hnum x hxl,show decide ((0:Int) < 1)=true from rfl,EV0]
    unfold oneV
    cases hq:qao x 9999 with
    | none=>
     simp only[numV,EV0,Bool.not_false]
     rfl
    | some p=>
     simp only[numV,EV0,Bool.not_true]
     rw[if_neg (by omega),if_pos trivial,show IntKind.i64.wrap ((0:Int)+1)=1 from wrap_small (by omega) (by omega)]
     rfl
   have two:∀ (x y:Str),(split 46 s)[0]?=some x→(split 46 s)[1]?=some y→∀ k m n,qoq k m (n+1+1+1) 2 (.vs id 1 off 2 ep) 2 0 0 0 H=some (resP (twoV x y),H):=by
    intro x y hx hy k m n
    have hlt:=(List.getElem?_eq_some_iff.1 hy).1
    obtain⟨a,rw',off',q1,q2,q3⟩:=hat 2 0 x (by omega) (by omega) hx
    obtain⟨a',rw2,off2,q4,q5,q6⟩:=hat 2 1 y (by omega) (by omega) hy
    rw[show((0:Nat):Int)=0 from rfl] at q1
    rw[show((1:Nat):Int)=1 from rfl] at q4
    have hxl:=hlen x (List.mem_of_getElem? hx)
    have hyl:=hlen y (List.mem_of_getElem? hy)
    rw[qoq]
    simp only[q1,q2,q3,hnum x hxl,show decide ((0:Int) < 2)=true from rfl,EV0]
    unfold twoV
    cases hq:qao x 9999 with
    | none=>
     simp only[numV,EV0,Bool.not_false]
     rfl
    | some p=>
     simp only[numV,EV0,Bool.not_true]
     rw[if_neg (by omega),if_pos trivial,show IntKind.i64.wrap ((0:Int)+1)=1 from wrap_small (by omega) (by omega),qoq]
     simp only[q4,q5,q6,hnum y hyl,show decide ((1:Int) < 2)=true from rfl,EV0]
     cases hq2:qao y 9999 with
     | none=>
      simp only[numV,EV0,Bool.not_false]
      rfl
     | some p2=>
      simp only[numV,EV0,Bool.not_true]
      rw[if_pos trivial,show IntKind.i64.wrap ((1:Int)+1)=2 from wrap_small (by omega) (by omega)]
      rfl
   have w0:∀ t:Nat,1≤t→t≤3→IntKind.i64.wrap ((t:Int) - 1)=((t - 1:Nat):Int):=fun t h1 h2=>by rw[wrap_small (by omega) (by omega)];omega
   have xe:∀ z:Str,(z==[120])=decide (z=xS):=fun z=>strEq z xS
   have l0a:∀ (x:Str),(split 46 s)[0]?=some x→∀ k m n,qqc k (m+3) (n+1) c9 1 H=some (resP (oneV x),H):=by
    intro x hx k m n
    rw[qqc]
    rw[show decide ((1:Int) > 1)=false from rfl,cond_false,show decide ((1:Int) > 2)=false from rfl,cond_false,show(some (1:Int))=some ((1:Nat):Int) from rfl,hsl 1 (List.length_pos_iff.2 hne)]
    simp only[EV0,lenC]
    exact one x hx k (m+3) (m+1)
   have l0b:∀ (x y:Str),(split 46 s)[0]?=some x→(split 46 s)[1]?=some y→∀ k m n,qqc k (m+3) (n+1+1) c9 2 H=some (resP (if y=xS then oneV x else twoV x y),H):=by
    intro x y hx hy k m n
    have hlt:=(List.getElem?_eq_some_iff.1 hy).1
    obtain⟨a',rw2,off2,q4,q5,q6⟩:=hat (split 46 s).length 1 y (by omega) (by omega) hy
    rw[← hc] at q4
    rw[show((1:Nat):Int)=1 from rfl] at q4
    have ww:IntKind.i64.wrap ((2:Int) - 1)=1:=w0 2 (by omega) (by omega)
    rw[qqc]
    rw[show decide ((2:Int) > 1)=true from rfl,cond_true,ww]
    simp only[q4,q5,q6,xe,EV0]
    by_cases h:y=xS
    ·rw[decide_eq_true h,cond_true,if_pos h]
     exact l0a x hx k m n
    ·rw[decide_eq_false h,cond_false,if_neg h,show decide ((2:Int) > 2)=false from rfl,cond_false,show(some (2:Int))=some ((2:Nat):Int) from rfl,hsl 2 (by omega)]
     simp only[EV0,lenC]
     exact two x y hx hy k (m+3) m
   have fin:∀ k m n,qqc k (m+3) (n+1+1+1) c9 (split 46 s).length H=some (resP (numsOf (split 46 s)),H):=by
    intro k m n
    have hcs:(∃ x,split 46 s=[x])∨(∃ x y,split 46 s=[x,y])∨∃ x y z,split 46 s=[x,y,z]:=by
     match hq:split 46 s,h3,hne with
     | [x],_,_=>exact .inl ⟨x,rfl⟩
     | [x,y],_,_=>exact .inr (.inl ⟨x,y,rfl⟩)
     | [x,y,z],_,_=>exact .inr (.inr ⟨x,y,z,rfl⟩)
     | _::_::_::_::_,h5,_=>simp at h5
    rcases hcs with⟨x,hL⟩ | ⟨x,y,hL⟩ | ⟨x,y,z,hL⟩
    ·have z1:=l0a x (by rw[hL];rfl) k m (n+1+1)
     rw[hL]
     exact z1
    ·have z1:=l0b x y (by rw[hL];rfl) (by rw[hL];rfl) k m (n+1)
     rw[hL]
     exact z1
    ·have z1:=l0b x y (by rw[hL];rfl) (by rw[hL];rfl) k m n
     obtain⟨a',rw2,off2,q4,q5,q6⟩:=hat (split 46 s).length 2 z (by rw[hL];simp) (by omega) (by rw[hL];rfl)
     rw[← hc] at q4
     rw[show((2:Nat):Int)=2 from rfl] at q4
     have ww:IntKind.i64.wrap ((3:Int) - 1)=2:=w0 3 (by omega) (by omega)
     rw[hL,qqc]
     rw[show(([x,y,z]:List Str).length:Int)=3 from rfl,show decide ((3:Int) > 1)=true from rfl,cond_true,ww]
     simp only[q4,q5,q6,xe,EV0,numsOf]
     by_cases h:z=xS
     ·rw[decide_eq_true h,cond_true,if_pos h]
      exact z1
     ·rw[decide_eq_false h,cond_false,if_neg h]
      rfl
   have hrun:∀ k m,fbj k (m+3) (bs s)=some (resP (numsOf (split 46 s)),H):=by
    intro k m
    simp only[fbj,e2,hk,e3,hl.len,EV0]
    rw[decide_eq_false (by omega),cond_false]
    exact fin k m m
   rw[hp]
   have z1:=qpd 2 (hrun (2+1) 0)
   cases hq:numsOf (split 46 s) with
   | none=>
    rw[hq] at z1
    exact⟨⟨0,0,0,[]⟩,0,qbb z1 hz,fun p h=>by simp at h⟩
   | some p=>
    obtain⟨v,t⟩:=p
    rw[hq] at z1
    have hpre:=qmeb hq
    simp only at hpre
    refine⟨v,t,qbb z1 ?_,fun p h=>by simp only[Option.some.injEq] at h;exact h.symm⟩
    rw[hpre]
    rfl
  ·have hno:numsOf (split 46 s)=none:=by
    match h:split 46 s with
    | []=>rfl
    | [x]=>rw[h] at h3;simp at h3
    | [x,y]=>rw[h] at h3;simp at h3
    | [x,y,z]=>rw[h] at h3;simp at h3
    | _::_::_::_::_=>rfl
   rw[hp,hno]
   refine⟨⟨0,0,0,[]⟩,0,qbb (H:=H) (qpd 0 ?_) hz,fun p h=>by simp at h⟩
   simp only[fbj,e2,hk,e3,hl.len,EV0]
   rw[decide_eq_true (by omega),cond_true]
theorem c_fax (w:Str)(hw:w.length≤1048576):outL qvy [.one (Cell.str (bs w))]=some [.one (encL 5 eCmp ((qjm w).getD [])),.one (Cell.bool (qjm w).isSome)]:=by
 have hM:=qah
 have hz:mapO (qan false []) [.one (.lst true 5 []),.one (Cell.bool false)]=some [.one (encL 5 eCmp []),.one (Cell.bool false)]:=rfl
 have loop:∀ (r:List Str) (i n:Nat),signs.drop i=r→r.length < n→∀ k m,∃ xs,qvj k m n (bs w) i=some (xs,[])∧mapO (qan false []) xs=some [.one (encL 5 eCmp ((qeg w r).getD [])),.one (Cell.bool (qeg w r).isSome)]:=by
  intro r
  induction r with
  | nil=>
   intro i n hd hn k m
   obtain⟨n,rfl⟩:∃ j,n=j+1:=⟨n - 1,by omega⟩
   have:=drop_nil hd
   simp only[signs,List.length_cons,List.length_nil] at this
   simp only[qvj]
   rw[decide_eq_false (by omega),cond_false]
   exact⟨_,rfl,hz⟩
  | cons g r ih=>
   intro i n hd hn k m
   obtain⟨n,rfl⟩:∃ j,n=j+1:=⟨n - 1,by omega⟩
   obtain⟨hlt,hg,hd'⟩:=qai hd
   simp only[signs,List.length_cons,List.length_nil] at hlt
   simp only[List.length_cons] at hn
   have hsg:=sign_at hg
   simp only[qvj]
   rw[decide_eq_true (by omega),cond_true,if_pos ⟨by omega,by omega⟩,Int.toNat_natCast,Nat.mul_one,hsg]
   simp only[c_ffb,EV0]
   obtain⟨xs,z1,z2⟩:=ih (i+1) n hd' (by omega) k m
   by_cases hp:g.isPrefixOf w=true
   ·rw[hp,Bool.not_true,cond_false,trimP_pre hp]
    obtain⟨v,t,q1,q2⟩:=c_fbj (w.drop g.length) (by simp;omega)
    simp only[q1,EV0,qoh,qcwb]
    have hgo:qeg w (g::r)=match partOf (w.drop g.length) with | some p=>some (qcr g p.1 p.2) | none=>none:=by
     rw[qeg,if_pos hp]
    cases hpo:partOf (w.drop g.length) with
    | none=>
     rw[hpo] at hgo
     rw[hgo]
     simp only[Option.isSome_none,Bool.not_false,cond_true]
     exact⟨_,rfl,hz⟩
    | some p=>
     have e:=q2 p hpo
     subst e
     rw[hpo] at hgo
     rw[hgo]
     have hok:=qsh hpo
     simp only[Option.isSome_some,Bool.not_true,cond_false,c_fbo g v hok.1 t hok.2.1 hok.2.2,EV0]
     exact⟨_,rfl,qbe [.one (encL 5 eCmp (qcr g v t)),.one (Cell.bool true)] _ _⟩
   ·have hgo:qeg w (g::r)=qeg w r:=by rw[qeg,if_neg hp]
    rw[hgo,show g.isPrefixOf w=false from Bool.eq_false_iff.2 hp,Bool.not_false,cond_true,qag (by omega)]
    exact⟨xs,z1,z2⟩
 by_cases h42:w=[42]
 ·subst h42
  refine qbb (H:=[]) (qxp 0 ?_) (show mapO (qan false []) [.one (.lst true 5 [[Cell.int 4,Cell.int 0,Cell.int 0,Cell.int 0,.lst true 1 []]]),.one (Cell.bool true)]=some [.one (encL 5 eCmp [⟨4,zeroV⟩]),.one (Cell.bool true)] from rfl)
  have hrun:∀ q,fax q q (bs [42])=some ([.one (.lst true 5 [[Cell.int 4,Cell.int 0,Cell.int 0,Cell.int 0,.lst true 1 []]]),.one (Cell.bool true)],[]):=by
   intro q
   simp only[fax,qcg,beq_self_eq_true,cond_true]
  exact hrun _
 ·have hc:qjm w=qeg w signs:=by unfold qjm;rw[if_neg h42]
  rw[hc]
  obtain⟨xs,z1,z2⟩:=loop signs 0 10 rfl (by simp[signs]) (9+1) (9+1)
  have hrun:∀ q,fax q q (bs w)=qvj q q q (bs w) 0:=by
   intro q
   simp only[fax,qcg]
   rw[show(w==[42])=false by simpa using h42,cond_false]
  exact qbb (qxp 9 ((hrun _).trans z1)) z2
theorem app_atL {A:List Entry}{sz by':Nat}{c:Cell}{T:List Entry}{rows:List (List Cell)}(h:GrowAt A.length sz c T rows)(ys:List (List Cell))(h1:(rows.length+ys.length)*by'≤bound)(h2:rows.length+ys.length≤bound):
  ∃ d T',app (A++T) sz by' c ys=some (d,A++T')∧GrowAt A.length sz d T' (rows++ys):=by
 rcases h with⟨rfl,rfl,rfl⟩ | ⟨ep,rfl,rfl⟩
 ·cases ys with
  | nil=>exact⟨_,[],by simp[app],.inl ⟨rfl,rfl,rfl⟩⟩
  | cons y ys=>
   refine⟨.vs A.length sz 0 (y::ys).length 0,[Entry.mk sz (y::ys) 0 false],?_,.inr ⟨0,rfl,rfl⟩⟩
   simp only[List.length_nil] at h1 h2
   simp only[app,List.isEmpty_cons,List.length_nil,List.append_nil,List.nil_append]
   rw[if_neg (by simp),if_pos ⟨trivial,.inr trivial,h1,h2⟩]
   simp
 ·refine⟨.vs A.length sz 0 (rows.length+ys.length) (ep+1),[Entry.mk sz (rows++ys) (ep+1) false],?_,.inr ⟨ep+1,by simp,rfl⟩⟩
  have he:entry? (A++[Entry.mk sz rows ep false]) A.length ep=some (Entry.mk sz rows ep false):=by simp[entry?]
  simp only[app,he]
  rw[if_pos ⟨trivial,by simp,.inr trivial,h1,h2⟩]
  simp
theorem GrowAt.readA {α:Type}{A T:List Entry}{sz:Nat}{c:Cell}{e:α→List Cell}[CanonE e]{xs:List α}(h:GrowAt A.length sz c T (xs.map e)):qan false (A++T) (.one c)=some (.one (encL sz e xs)):=by
 rcases h with⟨h1,rfl,rfl⟩ | ⟨ep,rfl,rfl⟩
 ·simp only[List.map_eq_nil_iff] at h1
  subst h1
  exact qsx (e:=e) true [] _
 ·have q:=qir (sz:=sz) (chk:=false) (H:=A++[Entry.mk sz (xs.map e) ep false]) (id:=A.length) (ep:=ep) (fr:=false) (e:=e) (xs:=xs) 4194303 (by simp) (by simp)
  simp only[qan,depth,List.length_map,q,Option.map_some]
theorem GrowAt.lenA {α:Type}{A T:List Entry}{sz:Nat}{c:Cell}{e:α→List Cell}{xs:List α}(h:GrowAt A.length sz c T (xs.map e)):lenC c=some xs.length:=by
 rcases h with⟨h1,rfl,rfl⟩ | ⟨ep,rfl,rfl⟩
 ·simp only[List.map_eq_nil_iff] at h1
  subst h1
  rfl
 ·simp
theorem GrowAt.atA {α:Type}{A T:List Entry}{sz:Nat}{c:Cell}{e:α→List Cell}{xs:List α}(h:GrowAt A.length sz c T (xs.map e)){i:Nat}{x:α}(hx:xs[i]?=some x):∃ a,idxA sz c (i:Int)=some a∧deref (A++T) a=some (e x,0):=by
 have hlt:=(List.getElem?_eq_some_iff.1 hx).1
 rcases h with⟨h1,_,_⟩ | ⟨ep,rfl,rfl⟩
 ·simp only[List.map_eq_nil_iff] at h1
  subst h1
  simp at hx
 ·exact⟨.ptr A.length sz i 0 ep,qfk _ _ _ _ _ (by simpa using hlt),by simp[deref,entry?,hx]⟩
def trC (c:RCmp):List Tr:=.leaf (.int .i64 c.op)::c.v.tr
instance:TrE trC eCmp:=⟨fun x=>by simp only[trC,MVer.tr,eCmp,List.map_cons,List.map_nil,qch,qbz]⟩
theorem c_fbg (p:Str)(hp:p.length≤1048576):∃ l:List RCmp,outL qwt [.one (Cell.str (bs p))]=some [.one (encL 5 eCmp l),.one (Cell.bool (qko p).isSome)]∧∀ q,qko p=some q→q=l:=by
 have hM:=qah
 have htl:=trim_le p
 have hspl:=qbj 32 (trim p) []
 have hwl:(split 32 (trim p)).length≤1048577:=by have:=hspl.1;unfold split;omega
 have hww:∀ y∈split 32 (trim p),y.length≤1048576:=fun y hy=>by
  have:=hspl.2 y hy
  simp only[List.length_nil,Nat.zero_add] at this
  omega
 have hlo:qko p=qni (split 32 (trim p)):=rfl
 obtain⟨c5,A,ids,e1,r1,w1,_⟩:=qsvb (f_ffe (trim p) 32 (by omega)) ([]:List Entry) (qbe [.one (Cell.str (bs (trim p))),.one (Cell.str (bs [32]))] _ _)
 rw[List.nil_append] at e1 r1
 have hl:=qkh.of (n:=2) r1
 generalize hws:split 32 (trim p)=ws at e1 r1 hl hwl hww hlo
 have hz:∀ G:List Entry,mapO (qan false G) [.one (.lst true 5 []),.one (Cell.bool false)]=some [.one (encL 5 eCmp []),.one (Cell.bool false)]:=fun G=>rfl
 have l1:∀ (acc:List RCmp) (c:Cell) (T:List Entry),acc.length≤4194304→(∀ x∈acc,okB x.v)→GrowAt A.length 5 c T (acc.map eCmp)→∀ (r:List RCmp) (i n:Nat),acc.drop i=r→r.length < n→∀ k m,
   qzj k m n c c acc.length i (A++T)=some (cond (r.all (fun c=>qex c.v)) [.one c,.one (Cell.bool (decide (acc.length≤4)))] [.one (.lst true 5 []),.one (Cell.bool false)],A++T):=by
  intro acc c T ha hB hg r
  induction r with
  | nil=>
   intro i n hd hn k m
   obtain⟨n,rfl⟩:∃ j,n=j+1:=⟨n - 1,by omega⟩
   have:=drop_nil hd
   simp only[qzj,hg.lenA,EV0]
   rw[decide_eq_false (by omega),cond_false,show decide ((acc.length:Int)≤4)=decide (acc.length≤4) by rw[decide_eq_decide];omega]
   rfl
  | cons x r ih=>
   intro i n hd hn k m
   obtain⟨n,rfl⟩:∃ j,n=j+1:=⟨n - 1,by omega⟩
   obtain⟨hlt,hx,hd'⟩:=qai hd
   simp only[List.length_cons] at hn
   obtain⟨a,q1,q2⟩:=hg.atA hx
   have hxb:=okB_bd (hB x (List.mem_of_getElem? hx))
   simp only[qzj,q1,q2,eCmp,Nat.zero_add,c_fas x.v.A x.v.B x.v.C x.v.Pre hxb.2.2.2,EV0]
   rw[decide_eq_true (by omega),cond_true,qag (by omega),ih (i+1) n hd' (by omega)]
   simp only[List.all_cons,qex]
   cases qdo x.v.A x.v.B x.v.C x.v.Pre<;>rfl
 have loop:∀ (r:List Str) (i n:Nat) (acc:List RCmp) (c:Cell) (T:List Entry),ws.drop i=r→r.length < n→acc.length≤2*i→i≤ws.length→(∀ x∈acc,okB x.v)→GrowAt A.length 5 c T (acc.map eCmp)→∀ k m,4194304 < m→
   ∃ xs H',qsf k m n c c5 ws.length i (A++T)=some (xs,H')∧∃ (l:List RCmp) (b:Bool),mapO (qan false H') xs=some [.one (encL 5 eCmp l),.one (Cell.bool b)]∧
    match qdh r acc with | some q=>b=decide (q.length≤4∧q.all (fun c=>qex c.v)=true)∧(b=true→l=q) | none=>b=false:=by
  intro r
  induction r with
  | nil=>
   intro i n acc c T hd hn ha hi hB hg k m hm
   obtain⟨n,rfl⟩:∃ j,n=j+1:=⟨n - 1,by omega⟩
   have:=drop_nil hd
   simp only[qsf,hg.lenA,EV0]
   rw[decide_eq_false (by omega),cond_false]
   have z:=l1 acc c T (by omega) hB hg acc 0 m rfl (by omega) k m
   rw[show((0:Nat):Int)=0 from rfl] at z
   rw[z,qdh]
   cases hall:acc.all (fun c=>qex c.v) with
   | true=>exact⟨_,_,rfl,acc,decide (acc.length≤4),qcv hg.readA (qcv (qbf _ _ _) (qbu _)),by simp only[hall,and_true],fun _=>rfl⟩
   | false=>exact⟨_,_,rfl,[],false,hz _,by rw[hall];simp,by simp⟩
  | cons x r ih=>
   intro i n acc c T hd hn ha hi hB hg k m hm
   obtain⟨n,rfl⟩:∃ j,n=j+1:=⟨n - 1,by omega⟩
   obtain⟨hlt,hx,hd'⟩:=qai hd
   simp only[List.length_cons] at hn
   have hxl:=hww x (List.mem_of_getElem? hx)
   obtain⟨a,rw',off',q1,q2,q3⟩:=(hl.frame (H':=A++T) fun j hj=>List.getElem?_append_left (r1.lt j hj)).at hx
   simp only[qsf,q1,q2,q3,c_fax x hxl,EV0]
   rw[decide_eq_true (by omega),cond_true]
   cases hq:qjm x with
   | none=>
    rw[qdh,hq]
    simp only[Option.isSome_none,Bool.not_false,cond_true]
    exact⟨_,_,rfl,[],false,hz _,rfl⟩
   | some q=>
    have hqB:=qapb hq
    obtain⟨d,T',a1,g1⟩:=app_atL (by':=56) hg (q.map eCmp) (by unfold bound;simp only[List.length_map];omega) (by unfold bound;simp only[List.length_map];omega)
    simp only[Option.isSome_some,Option.getD_some,Bool.not_true,cond_false,qqmb,a1,Option.bind_some]
    rw[qag (by omega),qdh,hq]
    exact ih (i+1) n (acc++q) d T' hd' (by omega) (by rw[List.length_append];omega) (by omega) (fun y hy=>by
     rcases List.mem_append.1 hy with hy | hy
     ·exact hB y hy
     ·exact hqB.2 y hy) (by simpa using g1) k m hm
 have hcut:∀ k m,fbg k m (bs p)=fbg k m (bs p):=fun _ _=>rfl
 cases hh:hyphW ws with
 | some pr=>
  obtain⟨a,c⟩:=pr
  have hw3:=qtp hh
  subst hw3
  have ha:=hww a (by simp)
  have hcl:=hww c (by simp)
  have hs:qko p=if (qac a).2&&(qac c).2 then some [⟨4,(qac a).1⟩,⟨2,(qac c).1⟩] else none:=by
   rw[hlo,qni,hh]
  obtain⟨cs1,E1,i1,e2,r2,w2,_⟩:=qgdb (f_fao a ha) A (qbe [.one (Cell.str (bs a))] _ _)
  obtain⟨c17,rfl⟩:=MVer.open r2
  obtain⟨cs2,E2,i2,e3,r3,w3,_⟩:=qgdb (f_fao c hcl) (A++E1) (qbe [.one (Cell.str (bs c))] _ _)
  obtain⟨c26,rfl⟩:=MVer.open r3
  obtain⟨a0,rw0,off0,q1,q2,q3⟩:=hl.at (i:=0) (s:=a) rfl
  obtain⟨a1,rw1,off1,q4,q5,q6⟩:=hl.at (i:=1) (s:=[45]) rfl
  obtain⟨a2,rw2,off2,q7,q8,q9⟩:=(hl.frame (H':=A++E1) fun j hj=>List.getElem?_append_left (r1.lt j hj)).at (i:=2) (s:=c) rfl
  rw[show((0:Nat):Int)=0 from rfl] at q1
  rw[show((1:Nat):Int)=1 from rfl] at q4
  rw[show((2:Nat):Int)=2 from rfl] at q7
  generalize hG:A++E1++E2=G at e3 r3
  have r2':=Rep.app2 E2 r2
  rw[hG] at r2'
  have s1:Sp (Rep (G++[Entry.mk 5 [[Cell.int 4,Cell.int (qac a).1.A,Cell.int (qac a).1.B,Cell.int (qac a).1.C,c17],[Cell.int 2,Cell.int (qac c).1.A,Cell.int (qac c).1.B,Cell.int (qac c).1.C,c26]] 0 false]) true true 2) ([]++i1) [Cell.int 4,Cell.int (qac a).1.A,Cell.int (qac a).1.B,Cell.int (qac a).1.C,c17] (trC ⟨4,(qac a).1⟩):=
   Sp.cons (i:=[]) (qbt _) (Rep.app2 _ r2')
  have s2:Sp (Rep (G++[Entry.mk 5 [[Cell.int 4,Cell.int (qac a).1.A,Cell.int (qac a).1.B,Cell.int (qac a).1.C,c17],[Cell.int 2,Cell.int (qac c).1.A,Cell.int (qac c).1.B,Cell.int (qac c).1.C,c26]] 0 false]) true true 2) ([]++i2) [Cell.int 2,Cell.int (qac c).1.A,Cell.int (qac c).1.B,Cell.int (qac c).1.C,c26] (trC ⟨2,(qac c).1⟩):=
   Sp.cons (i:=[]) (qbt _) (Rep.app2 _ r3)
  have rr:Rep (G++[Entry.mk 5 [[Cell.int 4,Cell.int (qac a).1.A,Cell.int (qac a).1.B,Cell.int (qac a).1.C,c17],[Cell.int 2,Cell.int (qac c).1.A,Cell.int (qac c).1.B,Cell.int (qac c).1.C,c26]] 0 false]) true true 3 (G.length::(([]++i1)++(([]++i2)++[]))) (.vs G.length 5 0 2 0) (trL 5 trC [⟨4,(qac a).1⟩,⟨2,(qac c).1⟩]):=
   .inr ⟨G.length,0,0,_,false,_,rfl,rfl,by simp;rfl,fun _=>rfl,fun _=>⟨rfl,by simp[trL]⟩,by simp[trL],by simp,by
    simp only[List.drop_zero,trL,List.map_cons,List.map_nil,List.length_cons,List.length_nil]
    exact Sp.cons s1 (Sp.cons s2 .nil)⟩
  have hrd:=qgu rr (by omega)
  rw[qbz] at hrd
  have hq2:∀ q,qko p=some q→q=[⟨4,(qac a).1⟩,⟨2,(qac c).1⟩]:=fun q hq=>by
   rw[hs] at hq
   split at hq
   ·exact(Option.some.inj hq).symm
   ·simp at hq
  refine⟨[⟨4,(qac a).1⟩,⟨2,(qac c).1⟩],?_,hq2⟩
  have hb:(qko p).isSome=((qac a).2&&(qac c).2):=by
   rw[hs]
   rcases Bool.eq_false_or_eq_true ((qac a).2&&(qac c).2) with h | h
   ·rw[if_pos h,h]
    rfl
   ·rw[if_neg (by rw[h];simp),h]
    rfl
  rw[hb]
  refine qbb (qwx 0 ?_) (qcv hrd (qcv (qbf (.one (Cell.bool ((qac a).2&&(qac c).2))) _ _) (qbu _)))
  simp only[fbg,c_fff p (by omega),e1,hl.len,q1,q2,q3,q4,q5,q6,q7,q8,q9,e2,e3,EV0]
  rw[show(((0+1+1+1:Nat):Int)==3)=true from rfl]
  simp only[cond_true]
  cases (qac a).2<;>rfl
 | none=>
  have hlw:qko p=listW ws:=by rw[hlo,qni,hh]
  obtain⟨xs,H',z1,l,b,z2,z3⟩:=loop ws 0 (ws.length+4194304+1) [] (.lst true 5 []) [] rfl (by omega) (by simp) (by omega) (by simp) (.inl ⟨rfl,rfl,rfl⟩) (ws.length+4194304+1) (ws.length+4194304+1) (by omega)
  rw[List.append_nil,show((0:Nat):Int)=0 from rfl] at z1
  have hb:b=(qko p).isSome∧∀ q,qko p=some q→q=l:=by
   rw[hlw]
   unfold listW
   cases hq:qdh ws [] with
   | none=>
    rw[hq] at z3
    exact⟨z3,by simp⟩
   | some q=>
    rw[hq] at z3
    obtain⟨h1,h2⟩:=z3
    simp only
    by_cases h4:q.length≤4∧q.all (fun c=>qex c.v)=true
    ·rw[if_pos h4]
     rw[decide_eq_true h4] at h1
     exact⟨by rw[h1];rfl,fun q' h=>by simp only[Option.some.injEq] at h;rw[← h];exact(h2 h1).symm⟩
    ·rw[if_neg h4]
     exact⟨by rw[h1,decide_eq_false h4];rfl,by simp⟩
  rw[← hb.1]
  refine⟨l,qbb (H:=H') (qwx (ws.length+4194304) ?_) z2,hb.2⟩
  have hrun:∀ q,fbg q q (bs p)=qsf q q q (.lst true 5 []) c5 ws.length 0 A:=by
   intro q
   simp only[fbg,c_fff p (by omega),e1,hl.len,EV0]
   by_cases h3:ws.length=3
   ·obtain⟨a,d,e,rfl⟩:∃ a d e,ws=[a,d,e]:=by
     match ws,h3 with
     | [a,d,e],_=>exact⟨a,d,e,rfl⟩
    have hd:(d==[45])=false:=by
     cases h:(d==[45]) with
     | false=>rfl
     | true=>
      have:d=[45]:=by simpa using h
      subst this
      simp[hyphW] at hh
    obtain⟨a1,rw1,off1,q4,q5,q6⟩:=hl.at (i:=1) (s:=d) rfl
    rw[show((1:Nat):Int)=1 from rfl] at q4
    rw[show((([a,d,e]:List Str).length:Int)==3)=true from rfl,cond_true]
    simp only[q4,q5,q6,EV0]
    rw[hd,cond_false]
   ·rw[show((ws.length:Int)==3)=false by rw[beq_eq_false_iff_ne];omega,cond_false]
  exact(hrun _).trans z1
theorem c_fan (s:Str)(hs:s.length≤1048576):outL qxm [.one (Cell.str (bs s))]=some [.one (qew ((qbo s).getD [])),.one (Cell.bool (qbo s).isSome)]:=by
 have hM:=qah
 have hsl:=qeq s.length s [] (Nat.le_refl _)
 have hll:(sides s).length≤s.length+1:=hsl.1
 have hel:∀ x∈sides s,x.length≤1048576:=fun x hx=>by
  have:=hsl.2 x hx
  simp only[List.length_nil,Nat.zero_add] at this
  omega
 have hz:∀ G:List Entry,mapO (qan false G) [.one (.lst true 1 []),.one (Cell.bool false)]=some [.one (qew []),.one (Cell.bool false)]:=fun G=>rfl
 obtain⟨c3,A,ids,e1,r1,w1,_⟩:=qsvb (qoa s (by omega)) ([]:List Entry) (qbe [.one (Cell.str (bs s)),.one (Cell.str (bs oo))] _ _)
 rw[List.nil_append] at e1 r1
 have hl:=qkh.of (n:=2) r1
 have loop:∀ (r:List Str) (i n:Nat) (acc:List (List RCmp)) (c:Cell) (T:List Entry),(sides s).drop i=r→r.length < n→acc.length=i→GrowAt A.length 1 c T (acc.map qqw)→∀ k m,
   ∃ xs H',qbmb k m n c c3 (sides s).length i (A++T)=some (xs,H')∧
    mapO (qan false H') xs=some [.one (qew ((qcp r acc).getD [])),.one (Cell.bool (qcp r acc).isSome)]:=by
  intro r
  induction r with
  | nil=>
   intro i n acc c T hd hn ha hg k m
   obtain⟨n,rfl⟩:∃ j,n=j+1:=⟨n - 1,by omega⟩
   have:=drop_nil hd
   simp only[qbmb]
   rw[decide_eq_false (by omega),cond_false,qcp]
   exact⟨_,_,rfl,qcv hg.readA (qcv (qbf _ _ _) (qbu _))⟩
  | cons x r ih=>
   intro i n acc c T hd hn ha hg k m
   obtain⟨n,rfl⟩:∃ j,n=j+1:=⟨n - 1,by omega⟩
   obtain⟨hlt,hx,hd'⟩:=qai hd
   simp only[List.length_cons] at hn
   have hxl:=hel x (List.mem_of_getElem? hx)
   obtain⟨a,rw',off',q1,q2,q3⟩:=(hl.frame (H':=A++T) fun j hj=>List.getElem?_append_left (r1.lt j hj)).at hx
   obtain⟨l,p1,p2⟩:=c_fbg x hxl
   have e5:∀ {β:Type} (l:List RCmp) (κ:List Cell→Option β),restK [encL 5 eCmp l] κ=κ [encL 5 eCmp l]:=fun l κ=>rfl
   have hsrc:∀ (G:List Entry) (l:List RCmp),qbr G 1 (.lst true 1 (chunks 1 1 [encL 5 eCmp l]))=some [qqw l]:=fun G l=>by simp[qbr,rowsOf,chunks,qqw]
   simp only[qbmb,q1,q2,q3,p1,EV0]
   rw[decide_eq_true (by omega),cond_true]
   cases hS:qko x with
   | none=>
    rw[qcp,hS]
    simp only[Option.isSome_none,Bool.not_false,cond_true]
    exact⟨_,_,rfl,hz _⟩
   | some l'=>
    have:=p2 l' hS
    subst this
    obtain⟨d,T',a1,g1⟩:=app_atL (by':=24) hg [qqw l'] (by unfold bound;simp;omega) (by unfold bound;simp;omega)
    obtain⟨xs,H',z1,z2⟩:=ih (i+1) n (acc++[l']) d T' hd' (by omega) (by simp;omega) (by simpa using g1) k m
    refine⟨xs,H',?_,by rw[qcp,hS];exact z2⟩
    simp only[Option.isSome_some,Bool.not_true,cond_false,e5,hsrc,a1,Option.bind_some]
    rw[qag (by omega)]
    exact z1
 by_cases h4:(sides s).length≤4
 ·obtain⟨xs,H',z1,z2⟩:=loop (sides s) 0 ((sides s).length+1+1) [] (.lst true 1 []) [] rfl (by omega) rfl (.inl ⟨rfl,rfl,rfl⟩) ((sides s).length+1+1) ((sides s).length+1+1)
  rw[List.append_nil,show((0:Nat):Int)=0 from rfl] at z1
  have hp:qbo s=qcp (sides s) []:=by unfold qbo;rw[if_pos h4]
  rw[hp]
  refine qbb (H:=H') (qwz ((sides s).length+1) ?_) z2
  have hoo:(bs [124,124])=bs oo:=rfl
  simp only[fan,hoo,e1,hl.len,EV0]
  rw[decide_eq_false (by omega),cond_false]
  exact z1
 ·have hp:qbo s=none:=by unfold qbo;rw[if_neg h4]
  rw[hp]
  refine qbb (H:=A) (qwz 0 ?_) (hz _)
  have hoo:(bs [124,124])=bs oo:=rfl
  simp only[fan,hoo,e1,hl.len,EV0]
  rw[decide_eq_true (by omega),cond_true]
theorem qhrb:∀ (ps:List Str) (acc r:List (List RCmp)),qcp ps acc=some r→(∀ l∈acc,l.length≤4∧∀ c∈l,okB c.v)→∀ l∈r,l.length≤4∧∀ c∈l,okB c.v
 | [],acc,r,h,ha=>by
  simp only[qcp,Option.some.injEq] at h
  subst h
  exact ha
 | p::ps,acc,r,h,ha=>by
  unfold qcp at h
  split at h
  ·rename_i q hq
   refine qhrb ps _ r h fun l hl=>?_
   rcases List.mem_append.1 hl with hl | hl
   ·exact ha l hl
   ·simp only[List.mem_singleton] at hl
    subst hl
    have hq':qni (split 32 (trim p))=some l:=hq
    rw[qut] at hq'
    split at hq'
    ·rename_i l' hl'
     split at hq'
     ·simp only[Option.some.injEq] at hq'
      subst hq'
      exact listS_B hl'
     ·simp at hq'
    ·simp at hq'
  ·simp at h
theorem qmc {s:Str}{r:List (List RCmp)}(h:qbo s=some r):r.length≤4∧∀ l∈r,l.length≤1048576∧∀ c∈l,c.v.Bd 1048576:=by
 unfold qbo at h
 split at h
 ·rename_i h4
  have h1:=qjq _ _ _ h
  have h2:=qhrb _ _ _ h (by simp)
  refine⟨by simp only[List.length_nil,Nat.zero_add] at h1;omega,fun l hl=>?_⟩
  have h3:=h2 l hl
  exact⟨by omega,fun c hc=>okB_bd (h3.2 c hc)⟩
 ·simp at h
theorem c_fdk (nm rg:Str)(v:MVer)(hn:rg.length≤1048576)(hv:v.Bd 1048576):out qtz [.agg [Cell.str (bs nm),Cell.str (bs rg)],.agg [Cell.int v.A,Cell.int v.B,Cell.int v.C,qba v.Pre]]=some [.one (Cell.bool (qit rg v))]:=by
 refine qaw (H:=[]) (qrwb 0 ?_)
 simp only[fdk,c_fdo rg hn,EV0]
 unfold qit
 cases h:qbo rg with
 | none=>rfl
 | some r=>
  have hB:=qmc h
  have e:=c_fdi r (by omega) hB.2 v hv
  simp only[Option.isSome_some,Option.getD_some,cond_true]
  have q:qau qqx [.one (qew r),.agg [Cell.int v.A,Cell.int v.B,Cell.int v.C,qba v.Pre]] []=some [.one (Cell.bool (qrj r v))]:=by
   rw[show qew r=encL 1 qqw r from rfl,qgn]
   exact e
  rw[q]
  rfl
theorem c_fai (nm rg:Str)(v:MVer)(hn:rg.length≤1048576)(hv:v.Bd 1048576):out quq [.agg [Cell.str (bs nm),Cell.str (bs rg)],.agg [Cell.int v.A,Cell.int v.B,Cell.int v.C,qba v.Pre]]=some [.one (Cell.bool (qit rg v))]:=by
 refine qaw (H:=[]) (qovb 0 ?_)
 simp only[fai,c_fan rg hn,EV0]
 unfold qit
 cases h:qbo rg with
 | none=>rfl
 | some r=>
  have hB:=qmc h
  have e:=c_fag r (by omega) hB.2 v hv
  simp only[Option.isSome_some,Option.getD_some,cond_true]
  have q:qau qqr [.one (qew r),.agg [Cell.int v.A,Cell.int v.B,Cell.int v.C,qba v.Pre]] []=some [.one (Cell.bool (qrj r v))]:=by
   rw[show qew r=encL 1 qqw r from rfl,qgn]
   exact e
  rw[q]
  rfl
def qic (needs:List MNeed)(l:List MPick):Bool:=needs.all fun n=>match l.find? (fun p=>p.Name==n.Name) with | some p=>qit n.Range p.V | none=>false
def qea (r:List MEntry)(s:Str)(v:MVer):Option MEntry:=r.find? fun e=>e.Name==s&&qzb e.V v
def qqub (r:List MEntry)(l:List MPick)(i:Nat)(p:MPick):Bool:=match qea r p.Name p.V with
 | some e=>!((l.take i).any fun q=>q.Name==p.Name)&&qic e.Needs l
 | none=>false
def qhx (r:List MEntry)(l:List MPick):Nat→List MPick→Bool | _,[]=>true | i,p::t=>qqub r l i p&&qhx r l (i+1) t
def qro (r:List MEntry)(needs:List MNeed)(l:List MPick):Bool:=qic needs l&&qhx r l 0 l
theorem qqab {α:Type}(p:α→Bool):∀ (l:List α) (k i:Nat) (x:α),l[i]?=some x→p x=true→(idxF p l k != ((k+i:Nat):Int))=(l.take i).any p:=by
 intro l
 induction l with
 | nil=>intro k i x h;simp at h
 | cons b r ih=>
  intro k i x h hp
  cases i with
  | zero=>
   simp only[List.getElem?_cons_zero,Option.some.injEq] at h
   subst h
   simp[idxF,hp]
  | succ i=>
   simp only[List.getElem?_cons_succ] at h
   have:=ih (k+1) i x h hp
   cases hb:p b with
   | true=>
    simp only[idxF,hb,cond_true,List.take_succ_cons,List.any_cons,Bool.true_or]
    rw[bne_iff_ne]
    omega
   | false=>
    simp only[idxF,hb,cond_false,List.take_succ_cons,List.any_cons,Bool.false_or]
    rw[← this]
    congr 1
    omega
theorem c_fev (needs:List MNeed)(l:List MPick)(hn:bdL 1048576 (MNeed.Bd 1048576) needs)(hl:bdL 1048576 (MPick.Bd 1048576) l):out qrq [.one (encL 2 MNeed.enc needs),.one (encL 5 MPick.enc l)]=some [.one (Cell.bool (qic needs l))]:=by
 have hM:=qah
 have hxl:=hn.1
 have loop:∀ (r:List MNeed) (i n:Nat),needs.drop i=r→r.length < n→∀ k m,qbnb k m n (encL 2 MNeed.enc needs) (encL 5 MPick.enc l) i []=some ([.one (Cell.bool (qic r l))],[]):=by
  intro r
  induction r with
  | nil=>
   intro i n hd hn k m
   obtain⟨n,rfl⟩:∃ j,n=j+1:=⟨n - 1,by omega⟩
   have:=drop_nil hd
   simp only[qbnb,EV0]
   rw[decide_eq_false (by omega),cond_false]
   rfl
  | cons x r ih=>
   intro i n hd hn' k m
   obtain⟨n,rfl⟩:∃ j,n=j+1:=⟨n - 1,by omega⟩
   obtain⟨hlt,hg,hd'⟩:=qai hd
   simp only[List.length_cons] at hn'
   have hx:=hn.2 x (List.mem_of_getElem? hg)
   have hb:=b_PickOf l hl x.Name hx.1
   simp only[qbnb,qak,hg,MNeed.enc,qcl,Nat.zero_add,c_fdq l hl x.Name hx.1,EV0,qoh,qrm]
   rw[decide_eq_true (by omega),cond_true]
   simp only[c_fdk x.Name x.Range (qca l x.Name).1 hx.2 hb,EV0]
   rw[qag (by omega),ih (i+1) n hd' (by omega)]
   have hm:qic (x::r) l=((match l.find? (fun p=>p.Name==x.Name) with | some p=>qit x.Range p.V | none=>false)&&qic r l):=rfl
   rw[hm]
   unfold qca
   cases l.find? (fun p=>p.Name==x.Name) with
   | none=>rfl
   | some p=>
    simp only[Bool.not_true,cond_false]
    cases qit x.Range p.V<;>rfl
 refine qaw (H:=[]) (qnzb (needs.length+1) ?_)
 exact loop needs 0 (needs.length+1+1) rfl (by omega) (needs.length+1+1) (needs.length+1+1)
theorem c_fbh (needs:List MNeed)(l:List MPick)(hn:bdL 1048576 (MNeed.Bd 1048576) needs)(hl:bdL 1048576 (MPick.Bd 1048576) l):out qqi [.one (encL 2 MNeed.enc needs),.one (encL 5 MPick.enc l)]=some [.one (Cell.bool (qic needs l))]:=by
 have hM:=qah
 have hxl:=hn.1
 have hll:=hl.1
 have loop:∀ (r:List MNeed) (i n:Nat),needs.drop i=r→r.length < n→∀ k m,qasb k m n (encL 5 MPick.enc l) (encL 2 MNeed.enc needs) needs.length i=some ([.one (Cell.bool (qic r l))],[]):=by
  intro r
  induction r with
  | nil=>
   intro i n hd hn k m
   obtain⟨n,rfl⟩:∃ j,n=j+1:=⟨n - 1,by omega⟩
   have:=drop_nil hd
   simp only[qasb,EV0]
   rw[decide_eq_false (by omega),cond_false]
   rfl
  | cons x r ih=>
   intro i n hd hn' k m
   obtain⟨n,rfl⟩:∃ j,n=j+1:=⟨n - 1,by omega⟩
   obtain⟨hlt,hg,hd'⟩:=qai hd
   simp only[List.length_cons] at hn'
   have hx:=hn.2 x (List.mem_of_getElem? hg)
   simp only[qasb,qak,hg,MNeed.enc,Nat.zero_add,c_fbk l (by omega) x.Name,EV0]
   rw[decide_eq_true (by omega),cond_true]
   have hm:qic (x::r) l=((match l.find? (fun p=>p.Name==x.Name) with | some p=>qit x.Range p.V | none=>false)&&qic r l):=rfl
   rw[hm]
   rcases qgzb (fun p:MPick=>p.Name==x.Name) l 0 with⟨h1,h2⟩ | ⟨j,y,h1,h2,h3⟩
   ·rw[h1,h2]
    rfl
   ·have hy:=hl.2 y (List.mem_of_getElem? h2)
    rw[h1,h3,decide_eq_false (by omega),cond_false,Nat.zero_add]
    simp only[qak,h2,MPick.enc,qcl,Nat.zero_add,EV0,c_fai x.Name x.Range y.V hx.2 hy.2]
    rw[qag (by omega),ih (i+1) n hd' (by omega)]
    cases qit x.Range y.V<;>rfl
 refine qaw (H:=[]) (qrqb (needs.length+1) ?_)
 simp only[fbh,EV0]
 exact loop needs 0 (needs.length+1+1) rfl (by omega) (needs.length+1+1) (needs.length+1+1)
theorem c_fap (v w:MVer)(hv:v.Bd 1048576):out qtj [.agg [Cell.int v.A,Cell.int v.B,Cell.int v.C,qba v.Pre],.agg [Cell.int w.A,Cell.int w.B,Cell.int w.C,qba w.Pre]]=some [.one (Cell.bool (qzb v w))]:=by
 refine qaw (H:=[]) (qocb 0 ?_)
 simp only[fap,c_fdd_eq v.Pre w.Pre hv.2.2.2,EV0,qzb]
 cases v.A==w.A<;>cases v.B==w.B<;>cases v.C==w.C<;>rfl
theorem c_fba (r:List MEntry)(hr:bdL 1048576 (MEntry.Bd 1048576) r)(s:Str)(v:MVer):out qyr [.one (encL 6 MEntry.enc r),.one (Cell.str (bs s)),.agg [Cell.int v.A,Cell.int v.B,Cell.int v.C,qba v.Pre]]=some [.one (Cell.int (idxF (fun e=>e.Name==s&&qzb e.V v) r 0))]:=by
 have hM:=qah
 have hl:=hr.1
 generalize hH:[Entry.mk 1 [[Cell.str (bs s)]] 0 false,Entry.mk 4 [[Cell.int v.A,Cell.int v.B,Cell.int v.C,qba v.Pre]] 0 false]=H
 have d0:deref H (.ptr 0 1 0 0 0)=some ([Cell.str (bs s)],0):=by subst hH;rfl
 have d1:deref H (.ptr 1 4 0 0 0)=some ([Cell.int v.A,Cell.int v.B,Cell.int v.C,qba v.Pre],0):=by subst hH;rfl
 have hc:∀ x:MEntry,x.V.Bd 1048576→qrp [.agg [Cell.str (bs x.Name),Cell.int x.V.A,Cell.int x.V.B,Cell.int x.V.C,qba x.V.Pre,encL 2 MNeed.enc x.Needs],.one (.ptr 0 1 0 0 0),.one (.ptr 1 4 0 0 0)] H=some ([.one (Cell.bool (x.Name==s&&qzb x.V v))],H):=by
  intro x hx
  refine qmtb 0 ?_
  simp only[fbb,d0,d1,Nat.zero_add,c_fap x.V v hx,EV0]
  cases x.Name==s<;>rfl
 have loop:∀ (t:List MEntry) (i n:Nat),r.drop i=t→t.length < n→∀ k m,qat k m n (encL 6 MEntry.enc r) (.ptr 0 1 0 0 0) (.ptr 1 4 0 0 0) r.length i H=some ([.one (Cell.int (idxF (fun e=>e.Name==s&&qzb e.V v) t i))],H):=by
  intro t
  induction t with
  | nil=>
   intro i n hd hn k m
   obtain⟨n,rfl⟩:∃ j,n=j+1:=⟨n - 1,by omega⟩
   have:=drop_nil hd
   simp only[qat]
   rw[decide_eq_false (by omega),cond_false]
   rfl
  | cons x t ih=>
   intro i n hd hn k m
   obtain⟨n,rfl⟩:∃ j,n=j+1:=⟨n - 1,by omega⟩
   obtain⟨hlt,hg,hd'⟩:=qai hd
   simp only[List.length_cons] at hn
   have hx:=hr.2 x (List.mem_of_getElem? hg)
   simp only[qat,qak,hg,MEntry.enc,hc x hx.2.1,Nat.zero_add,EV0]
   rw[decide_eq_true (by omega),cond_true,qag (by omega),ih (i+1) n hd' (by omega)]
   simp only[idxF]
   cases (x.Name==s&&qzb x.V v)<;>rfl
 refine qaw (H:=H) (qpcb 0 ?_)
 have h:=qdb (c1:=encL 6 MEntry.enc r) (q2:=.ptr 0 1 0 0 0) (q3:=.ptr 1 4 0 0 0) (H:=H) (r.length+1) (by
  simpa[qbl] using loop r 0 (r.length+1+1) rfl (by omega) (r.length+1+1) (r.length+1+1))
 simp only[fba,hH,h,EV0]
theorem reify_mix {H:List Entry}{cs:List Cell}{c d:Cell}(hc:qjh cs)(h:qan false H (.one c)=some (.one d)):qan false H (.agg (cs++[c]))=some (.agg (cs++[d])):=by
 have h1:reify false H depth c=some d:=by
  simp only[qan,Option.map_eq_some_iff,AV.one.injEq,exists_eq_right] at h
  exact h
 have:∀ cs:List Cell,qjh cs→mapO (reify false H depth) (cs++[c])=some (cs++[d]):=by
  intro cs
  induction cs with
  | nil=>intro _;simp only[List.nil_append,mapO,h1]
  | cons x cs ih=>
   intro hc
   simp only[List.cons_append,mapO,(hc x (by simp)).reify,ih fun y hy=>hc y (by simp[hy])]
 simp only[qan,this cs hc,Option.map_some]
theorem c_feu (x:MEntry)(hx:x.Bd 1048576):outL qwq [.agg [Cell.str (bs x.Name),Cell.int x.V.A,Cell.int x.V.B,Cell.int x.V.C,qba x.V.Pre,encL 2 MNeed.enc x.Needs]]=some [.agg [Cell.str (bs x.Name),Cell.int x.V.A,Cell.int x.V.B,Cell.int x.V.C,qba x.V.Pre,encL 2 MNeed.enc x.Needs]]:=by
 have hl:=hx.2.2.1
 obtain⟨p,e1,g1⟩:=(Grow.nil 2).app (by':=32) (x.Needs.map MNeed.enc) (by unfold bound;simp;omega) (by unfold bound;simp;omega)
 rw[List.nil_append] at g1
 have hrd:=g1.read (e:=MNeed.enc)
 obtain⟨y,zs,f1,f2,f3⟩:=qdg hrd
 have f4:zs=[]:=by simpa[mapO] using f3.symm
 subst f4
 simp only[List.cons.injEq,and_true] at f1
 subst f1
 have hs:∀ H,qbr H 2 (encL 2 MNeed.enc x.Needs)=some (x.Needs.map MNeed.enc):=fun H=>by simp[qbr,rowsOf,encL]
 refine qbb (H:=p.2) (xs:=[.agg ([Cell.str (bs x.Name),Cell.int x.V.A,Cell.int x.V.B,Cell.int x.V.C,qba x.V.Pre]++[p.1])]) (qpib 0 ?_) (qcv (reify_mix (CanonLs.canon (cs:=[_,_,_,_,_])) f2) (qbu _))
 simp only[feu,c_fec x.V hx.2.1,hs,e1,EV0]
 rfl
def zeroE:MEntry:=⟨[],⟨0,0,0,[]⟩,[]⟩
def qht:Option MEntry→MEntry×Bool | some e=>(e,true) | none=>(zeroE,false)
theorem c_fdh (r:List MEntry)(hr:bdL 1048576 (MEntry.Bd 1048576) r)(s:Str)(v:MVer):outL qvw [.one (encL 6 MEntry.enc r),.one (Cell.str (bs s)),.agg [Cell.int v.A,Cell.int v.B,Cell.int v.C,qba v.Pre]]=
  some [.agg [Cell.str (bs (qht (qea r s v)).1.Name),Cell.int (qht (qea r s v)).1.V.A,Cell.int (qht (qea r s v)).1.V.B,Cell.int (qht (qea r s v)).1.V.C,qba (qht (qea r s v)).1.V.Pre,encL 2 MNeed.enc (qht (qea r s v)).1.Needs],.one (Cell.bool (qht (qea r s v)).2)]:=by
 have hM:=qah
 have hl:=hr.1
 have loop:∀ (t:List MEntry) (i n:Nat),r.drop i=t→t.length < n→∀ k m,∃ xs,qtx k m n (encL 6 MEntry.enc r) (bs s) i v.A v.B v.C (qba v.Pre)=some (xs,[])∧
   mapO (qan false []) xs=some [.agg [Cell.str (bs (qht (qea t s v)).1.Name),Cell.int (qht (qea t s v)).1.V.A,Cell.int (qht (qea t s v)).1.V.B,Cell.int (qht (qea t s v)).1.V.C,qba (qht (qea t s v)).1.V.Pre,encL 2 MNeed.enc (qht (qea t s v)).1.Needs],.one (Cell.bool (qht (qea t s v)).2)]:=by
  intro t
  induction t with
  | nil=>
   intro i n hd hn k m
   obtain⟨n,rfl⟩:∃ j,n=j+1:=⟨n - 1,by omega⟩
   have:=drop_nil hd
   simp only[qtx,EV0]
   rw[decide_eq_false (by omega),cond_false]
   exact⟨_,rfl,rfl⟩
  | cons x t ih=>
   intro i n hd hn k m
   obtain⟨n,rfl⟩:∃ j,n=j+1:=⟨n - 1,by omega⟩
   obtain⟨hlt,hg,hd'⟩:=qai hd
   simp only[List.length_cons] at hn
   have hx:=hr.2 x (List.mem_of_getElem? hg)
   obtain⟨xs,z1,z2⟩:=ih (i+1) n hd' (by omega) k m
   simp only[qtx,qak,hg,MEntry.enc,qcl,Nat.zero_add,c_fdr x.V v hx.2.1,c_feu x hx,EV0,qceb,qoh,qrm]
   rw[decide_eq_true (by omega),cond_true,qag (by omega)]
   have hm:qea (x::t) s v=if (x.Name==s&&qzb x.V v)=true then some x else qea t s v:=by
    unfold qea
    rw[List.find?_cons]
    cases (x.Name==s&&qzb x.V v)<;>rfl
   cases h1:x.Name==s with
   | false=>
    rw[h1,Bool.false_and,if_neg (by simp)] at hm
    rw[hm]
    exact⟨xs,z1,z2⟩
   | true=>
    cases h2:qzb x.V v with
    | false=>
     rw[h1,h2,Bool.and_false,if_neg (by simp)] at hm
     rw[hm]
     exact⟨xs,z1,z2⟩
    | true=>
     rw[h1,h2,Bool.and_self,if_pos rfl] at hm
     rw[hm]
     exact⟨_,rfl,qbe [.agg [Cell.str (bs x.Name),Cell.int x.V.A,Cell.int x.V.B,Cell.int x.V.C,qba x.V.Pre,encL 2 MNeed.enc x.Needs],.one (Cell.bool true)] _ _⟩
 obtain⟨xs,z1,z2⟩:=loop r 0 (r.length+1+1) rfl (by omega) (r.length+1+1) (r.length+1+1)
 exact qbb (qndb (r.length+1) z1) z2
theorem qeyb {r:List MEntry}(hr:bdL 1048576 (MEntry.Bd 1048576) r){s:Str}{v:MVer}{e:MEntry}(h:qea r s v=some e):e.Bd 1048576:=hr.2 e (List.mem_of_find?_eq_some h)
theorem c_fds (r:List MEntry)(needs:List MNeed)(l:List MPick)(hr:bdL 1048576 (MEntry.Bd 1048576) r)(hn:bdL 1048576 (MNeed.Bd 1048576) needs)(hl:bdL 1048576 (MPick.Bd 1048576) l):out qxv [.one (encL 6 MEntry.enc r),.one (encL 2 MNeed.enc needs),.one (encL 5 MPick.enc l)]=some [.one (Cell.bool (qro r needs l))]:=by
 have hM:=qah
 have hll:=hl.1
 have inner:∀ (i:Nat) (x:MPick),l[i]?=some x→∀ (bl:Cell→Cell→Int→List Entry→Option Res) (d j n:Nat),j+d=i→d < n→∀ k m,
   qbkb k m bl n (encL 6 MEntry.enc r) (encL 5 MPick.enc l) i j []=cond (((l.take i).drop j).any fun q=>q.Name==x.Name) (some ([.one (Cell.bool false)],[])) (bl (encL 6 MEntry.enc r) (encL 5 MPick.enc l) ((i+1:Nat):Int) []):=by
  intro i x hi bl d
  have hil:=(List.getElem?_eq_some_iff.1 hi).1
  induction d with
  | zero=>
   intro j n hj hn k m
   obtain⟨n,rfl⟩:∃ q,n=q+1:=⟨n - 1,by omega⟩
   obtain rfl:j=i:=by omega
   simp only[qbkb]
   rw[decide_eq_false (by omega),cond_false,qag (by omega),List.drop_eq_nil_of_le (by rw[List.length_take];omega)]
   rfl
  | succ d ih=>
   intro j n hj hn k m
   obtain⟨n,rfl⟩:∃ q,n=q+1:=⟨n - 1,by omega⟩
   have hjl:j < l.length:=by omega
   have hgj:l[j]?=some l[j]:=List.getElem?_eq_getElem hjl
   have hdr:(l.take i).drop j=l[j]::(l.take i).drop (j+1):=by
    have h2:(l.take i)[j]?=some l[j]:=by rw[List.getElem?_take,if_pos (by omega)];exact hgj
    have h3:=List.drop_eq_getElem_cons (l:=l.take i) (i:=j) (by simp;omega)
    rw[h3]
    congr 1
    have:=List.getElem?_eq_some_iff.1 h2
    exact this.2
   simp only[qbkb,qak,hgj,hi,MPick.enc,qcl,Nat.zero_add,EV0]
   rw[decide_eq_true (by omega),cond_true,qag (by omega),ih (j+1) n (by omega) (by omega),hdr,List.any_cons]
   cases l[j].Name==x.Name<;>rfl
 have loop:∀ (t:List MPick) (i n:Nat),l.drop i=t→t.length < n→∀ k m,l.length < m→qxz k m n (encL 6 MEntry.enc r) (encL 5 MPick.enc l) i []=some ([.one (Cell.bool (qhx r l i t))],[]):=by
  intro t
  induction t with
  | nil=>
   intro i n hd hn k m hm
   obtain⟨n,rfl⟩:∃ j,n=j+1:=⟨n - 1,by omega⟩
   have:=drop_nil hd
   simp only[qxz,EV0]
   rw[decide_eq_false (by omega),cond_false]
   rfl
  | cons x t ih=>
   intro i n hd hn' k m hm
   obtain⟨n,rfl⟩:∃ j,n=j+1:=⟨n - 1,by omega⟩
   obtain⟨hlt,hg,hd'⟩:=qai hd
   simp only[List.length_cons] at hn'
   have hx:=hl.2 x (List.mem_of_getElem? hg)
   have q:=c_fdh r hr x.Name x.V
   simp only[qxz,qak,hg,MPick.enc,qcl,Nat.zero_add,q,EV0,qceb,qoh,qrm]
   rw[decide_eq_true (by omega),cond_true]
   simp only[qhx,qqub]
   cases he:qea r x.Name x.V with
   | none=>rfl
   | some e=>
    have hb:=qeyb hr he
    simp only[qht,Bool.not_true,cond_false,c_fev e.Needs l hb.2.2 hl,EV0]
    have z:=inner i x hg (qxz k m n) i 0 m (by omega) (by omega) k m
    rw[show((0:Nat):Int)=0 from rfl,ih (i+1) n hd' (by omega) k m hm,List.drop_zero] at z
    rw[z]
    cases qic e.Needs l<;>cases ((l.take i).any fun q=>q.Name==x.Name)<;>simp
 refine qaw (H:=[]) (qmjb (l.length+1) ?_)
 have z:=loop l 0 (l.length+1+1) rfl (by omega) (l.length+1+1) (l.length+1+1) (by omega)
 simp only[fds,c_fev needs l hn hl,EV0]
 unfold qro
 cases qic needs l with
 | false=>rfl
 | true=>exact z
theorem c_faq (r:List MEntry)(needs:List MNeed)(l:List MPick)(hr:bdL 1048576 (MEntry.Bd 1048576) r)(hn:bdL 1048576 (MNeed.Bd 1048576) needs)(hl:bdL 1048576 (MPick.Bd 1048576) l):out qql [.one (encL 6 MEntry.enc r),.one (encL 2 MNeed.enc needs),.one (encL 5 MPick.enc l)]=some [.one (Cell.bool (qro r needs l))]:=by
 have hM:=qah
 have hll:=hl.1
 have loop:∀ (t:List MPick) (i n:Nat),l.drop i=t→t.length < n→∀ k m,qaeb k m n (encL 6 MEntry.enc r) (encL 2 MNeed.enc needs) (encL 5 MPick.enc l) (encL 5 MPick.enc l) l.length i=some ([.one (Cell.bool (qhx r l i t&&qic needs l))],[]):=by
  intro t
  induction t with
  | nil=>
   intro i n hd hn' k m
   obtain⟨n,rfl⟩:∃ j,n=j+1:=⟨n - 1,by omega⟩
   have:=drop_nil hd
   simp only[qaeb,c_fbh needs l hn hl,EV0]
   rw[decide_eq_false (by omega),cond_false]
   rfl
  | cons x t ih=>
   intro i n hd hn' k m
   obtain⟨n,rfl⟩:∃ j,n=j+1:=⟨n - 1,by omega⟩
   obtain⟨hlt,hg,hd'⟩:=qai hd
   simp only[List.length_cons] at hn'
   have hx:=hl.2 x (List.mem_of_getElem? hg)
   have q:=c_fba r hr x.Name x.V
   have hpk:(idxF (fun p:MPick=>p.Name==x.Name) l 0 != (i:Int))=((l.take i).any fun p=>p.Name==x.Name):=by
    have:=qqab (fun p:MPick=>p.Name==x.Name) l 0 i x hg (by simp)
    rw[Nat.zero_add] at this
    exact this
   simp only[qaeb,qak,hg,MPick.enc,Nat.zero_add,q,c_fbk l (by omega) x.Name,EV0]
   rw[decide_eq_true (by omega),cond_true]
   simp only[qhx,qqub]
   rcases qgzb (fun e:MEntry=>e.Name==x.Name&&qzb e.V x.V) r 0 with⟨h1,h2⟩ | ⟨j,e,h1,h2,h3⟩
   ·have he:qea r x.Name x.V=none:=h2
    rw[h1,he]
    rfl
   ·have he:qea r x.Name x.V=some e:=h3
    have hb:=qeyb hr he
    rw[h1,he,decide_eq_false (by omega),cond_false,hpk,Nat.zero_add]
    simp only[qak,h2,MEntry.enc,qcl,Nat.zero_add,EV0,qrm,c_fbh e.Needs l hb.2.2 hl]
    rw[qag (by omega),ih (i+1) n hd' (by omega)]
    cases qic e.Needs l<;>cases ((l.take i).any fun q=>q.Name==x.Name)<;>simp
 refine qaw (H:=[]) (qmpb (l.length+1) ?_)
 have z:=loop l 0 (l.length+1+1) rfl (by omega) (l.length+1+1) (l.length+1+1)
 simp only[faq,EV0]
 rw[show(0:Int)=((0:Nat):Int) from rfl,z]
 unfold qro
 cases qic needs l<;>cases qhx r l 0 l<;>rfl
theorem fresh_out {run:Run}{n:Nat}{ys:List AV}{t:Tr}(h:Fresh run true n ys [.one t])(hn:n≤4194304):outL run ys=some [.one t.cell]:=by
 obtain⟨_,xs,E,ids,h1,h2,_⟩:=h
 obtain⟨i,i',x,xs',rfl,rfl,h7,h8⟩:=h2.cons_inv
 cases h8
 refine qbb h1 (qcv ?_ (qbu _))
 cases x with
 | one c=>exact qgu h7 hn
 | agg cs=>exact h7.elim
def staleM (r:List MEntry)(l:List MPack)(s:Str):Bool:=!(qay s).2||!qro r (qbp l) (qay s).1
theorem c_fdu (r:List MEntry)(l:List MPack)(s:Str)(hr:bdL 1048576 (MEntry.Bd 1048576) r)(hl:bdL 1048576 (MPack.Bd 1048576) l)(hw:wtL MPack.wt l≤1048576)(hs:bdS 1048576 s):out qyt [.one (encL 6 MEntry.enc r),.one (encL 4 MPack.enc l),.one (Cell.str (bs s))]=some [.one (Cell.bool (staleM r l s))]:=by
 refine qaw (H:=[]) (qoub 0 ?_)
 have bp:=qqn s hs
 have bw:=qscb l hl hw
 simp only[fdu,c_fdm s hs,c_fdw l hl hw,c_fds r (qbp l) (qay s).1 hr bw bp,EV0]
 unfold staleM
 cases (qay s).2<;>rfl
theorem c_far (r:List MEntry)(l:List MPack)(s:Str)(hr:bdL 1048576 (MEntry.Bd 1048576) r)(hl:bdL 1048576 (MPack.Bd 1048576) l)(hw:wtL MPack.wt l≤1048576)(hs:bdS 1048576 s):out qwi [.one (encL 6 MEntry.enc r),.one (encL 4 MPack.enc l),.one (Cell.str (bs s))]=some [.one (Cell.bool (staleM r l s))]:=by
 have bp:=qqn s hs
 have bw:=qscb l hl hw
 obtain⟨c5,E,ids,e1,r1,w1,_⟩:=freshO1 (f_fal s hs) ([]:List Entry) (qbe [.one (Cell.str (bs s))] _ _)
 rw[List.nil_append] at e1 r1
 have hq:outL qqj [.one (encL 4 MPack.enc l)]=some [.one (encL 2 MNeed.enc (qbp l))]:=by
  have:=fresh_out (f_fau l hl hw) (by omega)
  rwa [qbz] at this
 have h1:=qgu r1 (by omega)
 rw[qbz] at h1
 have q:qau qql [.one (encL 6 MEntry.enc r),.one (encL 2 MNeed.enc (qbp l)),.one c5] E=some [.one (Cell.bool (qro r (qbp l) (qay s).1))]:=by
  rw[qgd (qcv (qbf _ _ _) (qcv (qbf _ _ _) (qcv h1 (qbu _))))]
  exact c_faq r (qbp l) (qay s).1 hr bw bp
 refine qaw (H:=E) (qrrb 0 ?_)
 simp only[far,e1,hq,q,EV0]
 unfold staleM
 cases (qay s).2<;>rfl
theorem c_fbx (x:List MEntry)(y:List MPack)(s:Str)(hx:bdL maxLen (MEntry.Bd maxLen) x)(hy:bdL maxLen (MPack.Bd maxLen) y)(hs:bdS maxLen s):out qnkb [.one (encL 6 MEntry.enc x),.one (encL 4 MPack.enc y),.one (Cell.str (bs s))]=some [.one (Cell.bool true)]:=by
 refine qaw (H:=[]) (qqrb 0 ?_)
 simp only[fbx,EV0]
 by_cases g0:s.length≤1048576
 ·rw[decide_eq_false (by omega),cond_false,c_fcl _ _ hx (by omega) (by omega)]
  simp only[EV0,qjt]
  by_cases g:((wtL MEntry.wt x:Nat):Int)≤1048576
  ·rw[if_pos g,qdc g,c_fcp _ _ hy (by omega) (by omega)]
   simp only[EV0,qjt]
   by_cases g2:((wtL MPack.wt y:Nat):Int)≤1048576 - ((wtL MEntry.wt x:Nat):Int)
   ·rw[if_pos g2]
    have bx:bdL 1048576 (MEntry.Bd 1048576) x:=qox hx (by omega) fun y h hw=>MEntry.bd_wt h hw
    have by':bdL 1048576 (MPack.Bd 1048576) y:=qox hy (by omega) fun y h hw=>MPack.bd_wt h hw
    have hw:wtL MPack.wt y≤1048576:=by omega
    simp only[c_fcv _ bx,c_fcz _ by',c_fdu _ _ _ bx by' hw g0,c_far _ _ _ bx by' hw g0,EV0]
    simp[c_fcb _ _ bx bx,c_fcf _ _ by' by',cB,qab,qaa,AV.cells]
   ·rw[if_neg g2]
  ·rw[if_neg g]
 ·rw[decide_eq_true (by omega),cond_true]
end Go.Ev
