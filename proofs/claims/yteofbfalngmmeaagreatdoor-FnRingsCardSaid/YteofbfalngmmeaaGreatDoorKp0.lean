/- What the functions come to. Conditions: none. -/
import Derived.Test.YteofbfalngmmeaaGreatDoorEvCon
set_option linter.unusedSimpArgs false
set_option linter.unusedVariables false
namespace Go.Ev
open Go
def inR (x a b:Int):Bool:=decide (a≤x)&&decide (x≤b)
def qrh (b:UInt8):Bool:=inR b.toNat 97 122
def qbt (b:UInt8):Bool:=inR b.toNat 48 57
def qsnb (first:Bool):Str→Bool | []=>true | b::r=>(qrh b||(!first&&(qbt b||b==45)))&&qsnb false r
def qgi (s:Str):Bool:=qsnb true s&&inR s.length 1 10
theorem u8_eq (b:UInt8)(n:Nat)(h:n < 256):((b.toNat:Int)==(n:Int))=(b==UInt8.ofNat n):=by
 rw[Bool.eq_iff_iff]
 simp only[beq_iff_eq]
 constructor
 ·intro e
  apply UInt8.toNat_inj.1
  have:(UInt8.ofNat n).toNat=n:=by simp;omega
  omega
 ·intro e
  have:(UInt8.ofNat n).toNat=n:=by simp;omega
  rw[e,this]
theorem u8_ne (b:UInt8)(n:Nat)(h:n < 256):((b.toNat:Int) != (n:Int))=(b != UInt8.ofNat n):=by
 simp only[bne,u8_eq b n h]
theorem u8_lt (b:UInt8):(b.toNat:Int) < 256:=by have:=b.toNat_lt;omega
theorem qsgc (x a b:Int):out qes [.one (Cell.int x),.one (Cell.int a),.one (Cell.int b)]=some [.one (Cell.bool (inR x a b))]:=by
 refine qbw (H:=[]) (qppb 0 ?_)
 simp only[fbh,inR]
 by_cases h:a≤x
 ·rw[decide_eq_true (by omega:x≥a),cond_true,Bool.true_and]
 ·rw[decide_eq_false (by omega:¬ x≥a),cond_false,Bool.false_and]
theorem c_fbm (b:UInt8):out qoc [.one (.sc (.int .u8 (b.toNat:Int)))]=some [.one (Cell.bool (qrh b))]:=by
 refine qbw (H:=[]) (qmvb 0 ?_)
 simp only[fbm,qrh,inR]
 by_cases h:(97:Int)≤b.toNat
 ·rw[decide_eq_true (by omega:(b.toNat:Int)≥97),cond_true,Bool.true_and]
 ·rw[decide_eq_false (by omega:¬ (b.toNat:Int)≥97),cond_false,Bool.false_and]
theorem qfbd (b:UInt8):out qge [.one (.sc (.int .u8 (b.toNat:Int)))]=some [.one (Cell.bool (qbt b))]:=by
 refine qbw (H:=[]) (qnzb 0 ?_)
 simp only[fbj,qbt,inR]
 by_cases h:(48:Int)≤b.toNat
 ·rw[decide_eq_true (by omega:(b.toNat:Int)≥48),cond_true,Bool.true_and]
 ·rw[decide_eq_false (by omega:¬ (b.toNat:Int)≥48),cond_false,Bool.false_and]
theorem qdpd (s:Str)(hs:s.length≤1073741824):out qgk [.one (Cell.str (bs s))]=some [.one (Cell.bool (qgi s))]:=by
 have hM:=qag
 have loop:∀ (r:Str) (i n:Nat),s.drop i=r→r.length < n→∀ k m,qtb k m n (bs s) i=some ([.one (Cell.bool (qsnb (i==0) r&&inR s.length 1 10))],[]):=by
  intro r
  induction r with
  | nil=>
   intro i n hd hn k m
   obtain⟨n,rfl⟩:∃ j,n=j+1:=⟨n - 1,by omega⟩
   have:=drop_nil hd
   simp only[qtb,qee]
   rw[decide_eq_false (by omega),cond_false]
   simp only[qsgc,EV0,qsnb]
  | cons b r ih=>
   intro i n hd hn k m
   obtain⟨n,rfl⟩:∃ j,n=j+1:=⟨n - 1,by omega⟩
   obtain⟨hlt,hg,hd'⟩:=qaq hd
   simp only[List.length_cons] at hn
   have hz:((i:Int)==0)=(i==0):=by rw[Bool.eq_iff_iff];simp
   simp only[qtb,qpj,hg,c_fbm,qfbd,EV0]
   rw[decide_eq_true (by omega),cond_true,qae (by omega),ih (i+1) n hd' (by omega)]
   have h45:((b.toNat:Int) != 45)=!(b==45):=u8_ne b 45 (by omega)
   simp only[qsnb,hz,show((i+1:Nat)==0)=false from rfl,h45]
   cases qrh b<;>cases qbt b<;>cases (b==45)<;>cases (i==0)<;>rfl
 refine qbw (H:=[]) (qsgb (s.length+1) ?_)
 have:=loop s 0 (s.length+1+1) rfl (by omega) (s.length+1+1) (s.length+1+1)
 simpa[fae,qgi] using this
def qek (c:UInt8)(cur:Str):Str→List Str | []=>[cur] | b::r=>if b=c then cur::qek c [] r else qek c (cur++[b]) r
def split (c:UInt8)(s:Str):List Str:=qek c [] s
def ahead (c:UInt8)(s:Str):Str:=s.takeWhile (· != c)
def behind (c:UInt8)(s:Str):Str:=(s.dropWhile (· != c)).drop 1
theorem qdj (c:UInt8):∀ (s cur:Str),(qek c cur s).length≤s.length+1∧∀ x∈qek c cur s,x.length≤cur.length+s.length:=by
 intro s
 induction s with
 | nil=>intro cur;simp[qek]
 | cons b r ih=>
  intro cur
  simp only[qek]
  split
  ·obtain⟨h1,h2⟩:=ih []
   refine⟨by simp;omega,fun x hx=>?_⟩
   rcases List.mem_cons.1 hx with rfl | hx
   ·simp
   ·have:=h2 x hx;simp at this;simp;omega
  ·obtain⟨h1,h2⟩:=ih (cur++[b])
   refine⟨by simp;omega,fun x hx=>?_⟩
   have:=h2 x hx;simp at this;simp;omega
theorem qhwb {c:UInt8}:∀ {s:Str} (cur:Str),c∉s→qek c cur s=[cur++s]:=by
 intro s
 induction s with
 | nil=>intro cur _;simp[qek]
 | cons b r ih=>
  intro cur h
  simp only[List.mem_cons,not_or] at h
  simp only[qek]
  rw[if_neg fun e=>h.1 e.symm,ih _ h.2]
  simp
theorem qlab {c:UInt8}:∀ {s:Str} (cur:Str),c∈s→qek c cur s=(cur++ahead c s)::qek c [] (behind c s):=by
 intro s
 induction s with
 | nil=>intro cur h;simp at h
 | cons b r ih=>
  intro cur h
  simp only[qek]
  by_cases e:b=c
  ·subst e
   simp[ahead,behind]
  ·rw[if_neg e,ih _ (by simpa[Ne.symm e] using h)]
   simp[ahead,behind,e]
theorem qmb {c:UInt8}{s:Str}(h:c∉s):split c s=[s]:=qhwb [] h
theorem qtn {c:UInt8}{s:Str}(h:c∈s):split c s=ahead c s::split c (behind c s):=qlab [] h
theorem qne {c:UInt8}:∀ (s cur:Str),qek c cur s≠[]:=by
 intro s
 induction s with
 | nil=>intro cur;simp[qek]
 | cons b r ih=>intro cur;simp only[qek];split<;>simp[ih]
theorem qprb (c:UInt8)(s:Str):(ahead c s).length≤s.length:=by
 have:=(List.takeWhile_prefix (fun x=>x != c) (l:=s)).length_le
 exact this
theorem qtg (c:UInt8)(s:Str):(behind c s).length≤s.length:=by
 have:=(List.dropWhile_suffix (fun x=>x != c) (l:=s)).length_le
 simp only[behind,List.length_drop]
 omega
theorem qyqb {c:UInt8}(s:Str):c∉ahead c s:=by
 induction s with
 | nil=>simp[ahead]
 | cons b r ih=>
  unfold ahead
  rw[List.takeWhile_cons]
  split
  ·rename_i h
   intro hm
   rcases List.mem_cons.1 hm with e | e
   ·rw[← e] at h;simp at h
   ·exact ih e
  ·simp
theorem qdlb {c:UInt8}{s:Str}(h:c∉s):ahead c s=s:=by
 induction s with
 | nil=>rfl
 | cons b r ih=>
  simp only[List.mem_cons,not_or] at h
  have:ahead c (b::r)=b::ahead c r:=by simp[ahead,Ne.symm h.1]
  rw[this,ih h.2]
theorem qkmb {c:UInt8}{s:Str}(h:c∉s):behind c s=[]:=by
 induction s with
 | nil=>rfl
 | cons b r ih=>
  simp only[List.mem_cons,not_or] at h
  have:behind c (b::r)=behind c r:=by simp[behind,Ne.symm h.1]
  rw[this,ih h.2]
def qyxc (p s:Str):Str:=if p.isPrefixOf s then s.drop p.length else s
theorem qdcc (b:UInt8)(r:Str):bytS (bs (b::r)) 0=some (b.toNat:Int):=by
 have:=qpj (b::r) 0
 simpa using this
theorem qpm (c:UInt8)(s:Str):Lib.indexByte s c=if c∈s then ((ahead c s).length:Int) else -1:=by
 induction s with
 | nil=>rfl
 | cons b r ih=>
  simp only[Lib.indexByte]
  by_cases e:b=c
  ·subst e
   simp[ahead]
  ·have e1:(b==c)=false:=by simpa using e
   simp only[e1,Bool.false_eq_true,if_false]
   have e2:ahead c (b::r)=b::ahead c r:=by simp[ahead,e]
   by_cases h:c∈r
   ·rw[if_pos h] at ih
    rw[ih,if_neg (by simp<;>omega),if_pos (List.mem_cons_of_mem _ h),e2]
    simp
   ·rw[if_neg h] at ih
    rw[ih,if_pos (by simp),if_neg]
    intro hm
    rcases List.mem_cons.1 hm with q | q
    ·exact e q.symm
    ·exact h q
theorem qms (c:UInt8)(s:Str):s.take (ahead c s).length=ahead c s:=
 (List.prefix_iff_eq_take.1 (List.takeWhile_prefix _)).symm
theorem qalb {c:UInt8}{s:Str}(h:c∈s):(ahead c s).length < s.length:=by
 have h1:=qprb c s
 rcases Nat.lt_or_ge (ahead c s).length s.length with h2 | h2
 ·exact h2
 ·have h3:=qms c s
  rw[List.take_of_length_le h2] at h3
  rw[h3] at h
  exact absurd h (qyqb s)
theorem qkh (c:UInt8)(s:Str):s.drop ((ahead c s).length+1)=behind c s:=by
 have h:s=ahead c s++s.dropWhile (· != c):=(List.takeWhile_append_dropWhile).symm
 have h2:s.drop (ahead c s).length=s.dropWhile (· != c):=by
  rw[congrArg (List.drop (ahead c s).length) h,List.drop_left]
 rw[← List.drop_drop,h2]
 rfl
theorem c_fcc (s:Str)(c:UInt8):out qru [.one (Cell.str (bs s)),.one (.sc (.int .u8 (c.toNat:Int)))]=some [.one (Cell.int (Lib.indexByte s c))]:=by
 simp[out,qru]
theorem c_fcb (s:Str)(c:UInt8):out qxi [.one (Cell.str (bs s)),.one (Cell.str (bs [c]))]=some [.one (Cell.int (Lib.indexByte s c))]:=by
 refine qbw (H:=[]) (qrnb 0 ?_)
 simp only[fcb,qdcc,c_fcc,EV0]
 rw[show(((0+1:Nat):Int)==0)=false from rfl,show(((0+1:Nat):Int)==1)=true from rfl,cond_false,cond_true]
 by_cases h:[c]=s
 ·rw[← h]
  simp[Lib.indexByte]
 ·rw[show([c]==s)=false by simpa using h,cond_false]
def cutV (c:UInt8)(s:Str):List AV:=if c∈s then [.one (Cell.str (bs (ahead c s))),.one (Cell.str (bs (behind c s))),.one (Cell.bool true)] else [.one (Cell.str (bs s)),.one (Cell.str (bs [])),.one (Cell.bool false)]
theorem c_fby (s:Str)(c:UInt8)(hs:s.length≤1073741824):out qyj [.one (Cell.str (bs s)),.one (Cell.str (bs [c]))]=some (cutV c s):=by
 refine qbw (H:=[]) (qpxb 0 ?_)
 simp only[fby,c_fcb,EV0]
 rw[qpm]
 unfold cutV
 by_cases h:c∈s
 ·have h1:=qalb h
  rw[if_pos h,if_pos h,decide_eq_true (by omega),cond_true]
  have e1:=qlp s 0 (ahead c s).length (by omega) (by omega)
  simp only[Int.natCast_zero,List.drop_zero,qms] at e1
  rw[e1]
  simp only[Option.bind_some]
  rw[show(((ahead c s).length:Int)+((0+1:Nat):Int))=(((ahead c s).length+1:Nat):Int) by omega,wrap_small (by omega) (by omega),qlp s _ _ (by omega) (Nat.le_refl _),List.take_length,qkh]
  rfl
 ·rw[if_neg h,if_neg h,decide_eq_false (by omega),cond_false]
theorem c_fee (s:Str)(c:UInt8)(hs:s.length≤1073741824):out qrx [.one (Cell.str (bs s)),.one (Cell.str (bs [c]))]=some (cutV c s):=by
 refine qbw (H:=[]) (qmyb 0 ?_)
 simp only[fee,c_fby s c hs,EV0]
 unfold cutV
 by_cases h:c∈s
 ·simp only[if_pos h,EV0]
 ·simp only[if_neg h,EV0]
theorem c_fca (s p:Str):out qzq [.one (Cell.str (bs s)),.one (Cell.str (bs p))]=some [.one (Cell.bool (p.isPrefixOf s))]:=by
 refine qbw (H:=[]) (qrob 0 ?_)
 simp only[fca,EV0]
 by_cases h:p.length≤s.length
 ·have e1:=qlp s 0 p.length (by omega) h
  simp only[Int.natCast_zero,List.drop_zero] at e1
  rw[decide_eq_true (by omega),cond_true,e1]
  simp only[EV0]
  congr 5
  rw[Bool.eq_iff_iff,List.isPrefixOf_iff_prefix,List.prefix_iff_eq_take,beq_iff_eq]
  exact eq_comm
 ·rw[decide_eq_false (by omega),cond_false]
  congr 5
  symm
  rw[← Bool.not_eq_true,List.isPrefixOf_iff_prefix]
  exact fun hp=>h hp.length_le
def lt (a b:Str):Bool:=Op.bytesLess a b
theorem qlub:∀ (a b:Str),(lt a b||a==b)=!lt b a:=by
 unfold lt
 intro a
 induction a with
 | nil=>intro b;cases b<;>rfl
 | cons x a ih=>
  intro b
  cases b with
  | nil=>rfl
  | cons y b=>
   have h:=ih b
   simp only[Op.bytesLess]
   have e:((x::a)==(y::b))=(x==y&&a==b):=rfl
   rw[e]
   rcases Nat.lt_trichotomy x.toNat y.toNat with h1 | h1 | h1
   ·have e1:decide (x < y)=true:=by simpa[UInt8.lt_iff_toNat_lt] using h1
    have e2:decide (y < x)=false:=by simp[UInt8.lt_iff_toNat_lt];omega
    have e3:(y==x)=false:=by simp;intro e;rw[e] at h1;omega
    simp[e1,e2,e3]
   ·have e0:=UInt8.toNat_inj.1 h1
    subst e0
    have e1:decide (x < x)=false:=by simp
    simp only[e1,Bool.false_or,beq_self_eq_true,Bool.true_and,h]
   ·have e1:decide (y < x)=true:=by simpa[UInt8.lt_iff_toNat_lt] using h1
    have e2:decide (x < y)=false:=by simp[UInt8.lt_iff_toNat_lt];omega
    have e3:(x==y)=false:=by simp;intro e;rw[e] at h1;omega
    simp[e1,e2,e3]
theorem qwmc (a b:Str):Op.bytesLess a b=lt a b:=rfl
def asc:List Str→Bool | []=>true | [_]=>true | a::b::r=>lt a b&&asc (b::r)
theorem qcw {i:Nat}(h:i < Go.maxLen):IntKind.i64.wrap (((i+1:Nat):Int) - 1)=(i:Int):=by
 have:=qag
 rw[wrap_small (by omega) (by omega)]
 omega
theorem c_fbi (xs:List Str)(hx:xs.length≤1073741824):out qwa [.one (qax xs)]=some [.one (Cell.bool (asc xs))]:=by
 have hM:=qag
 have loop:∀ (r:List Str) (p:Str) (i n:Nat),xs[i]?=some p→xs.drop (i+1)=r→r.length < n→∀ k m,qvk k m n (qax xs) ((i+1:Nat):Int)=some ([.one (Cell.bool (asc (p::r)))],[]):=by
  intro r
  induction r with
  | nil=>
   intro p i n hp hd hn k m
   obtain⟨n,rfl⟩:∃ j,n=j+1:=⟨n - 1,by omega⟩
   have:=drop_nil hd
   simp only[qvk,qan,Option.bind_some]
   rw[decide_eq_false (by omega),cond_false]
   rfl
  | cons b r ih=>
   intro p i n hp hd hn k m
   obtain⟨n,rfl⟩:∃ j,n=j+1:=⟨n - 1,by omega⟩
   obtain⟨hlt,hg,hd'⟩:=qaq hd
   simp only[List.length_cons] at hn
   simp only[qvk,qan,Option.bind_some]
   rw[decide_eq_true (by omega),cond_true,qcw (by omega),qae (by omega)]
   simp only[qav,hp,hg,eStr,qwmc,EV0]
   rw[ih b (i+1) n hg hd' (by omega)]
   simp only[asc,qlub]
   cases lt p b<;>rfl
 refine qbw (H:=[]) (qotb (xs.length+1) ?_)
 cases xs with
 | nil=>
  simp only[fbi,qvk,qan,Option.bind_some]
  rw[decide_eq_false (by simp),cond_false]
  rfl
 | cons a r=>
  have:=loop r a 0 (r.length+1+1+1) rfl rfl (by omega) (r.length+1+1+1) (r.length+1+1+1)
  simpa[fbi] using this
theorem qsrb (xs:List Str)(s:Str)(hx:xs.length≤1073741824):out qby [.one (qax xs),.one (Cell.str (bs s))]=some [.one (Cell.bool (xs.contains s))]:=by
 have hM:=qag
 have loop:∀ (r:List Str) (i n:Nat),xs.drop i=r→r.length < n→∀ k m,qcob k m n (qax xs) (bs s) i=some ([.one (Cell.bool (r.contains s))],[]):=by
  intro r
  induction r with
  | nil=>
   intro i n hd hn k m
   obtain⟨n,rfl⟩:∃ j,n=j+1:=⟨n - 1,by omega⟩
   have:=drop_nil hd
   simp only[qcob,qan,Option.bind_some]
   rw[decide_eq_false (by omega),cond_false]
   rfl
  | cons b r ih=>
   intro i n hd hn k m
   obtain⟨n,rfl⟩:∃ j,n=j+1:=⟨n - 1,by omega⟩
   obtain⟨hlt,hg,hd'⟩:=qaq hd
   simp only[List.length_cons] at hn
   simp only[qcob,qav,hg,eStr,EV0]
   rw[decide_eq_true (by omega),cond_true,qae (by omega),ih (i+1) n hd' (by omega),List.contains_cons]
   have:(b==s)=(s==b):=by rw[Bool.eq_iff_iff];simp only[beq_iff_eq];exact eq_comm
   rw[this]
   cases (s==b)<;>rfl
 refine qbw (H:=[]) (qpwb (xs.length+1) ?_)
 have:=loop xs 0 (xs.length+1+1) rfl (by omega) (xs.length+1+1) (xs.length+1+1)
 simpa[fdn] using this
def idxS (s:Str):List Str→Nat→Int | [],_=>-1 | b::r,i=>if s=b then (i:Int) else idxS s r (i+1)
theorem qnxb (s:Str):∀ (l:List Str) (i:Nat),(decide (idxS s l i≥0))=l.contains s:=by
 intro l
 induction l with
 | nil=>intro i;rfl
 | cons b r ih=>
  intro i
  rw[List.contains_cons]
  by_cases e:s=b
  ·have e1:idxS s (b::r) i=(i:Int):=if_pos e
   rw[e1,show(s==b)=true by simpa using e,decide_eq_true (by omega)];rfl
  ·have e1:idxS s (b::r) i=idxS s r (i+1):=if_neg e
   rw[e1,ih,show(s==b)=false by simpa using e];rfl
theorem c_fco (xs:List Str)(s:Str)(hx:xs.length≤1073741824):out qlg [.one (qax xs),.one (Cell.str (bs s))]=some [.one (Cell.int (idxS s xs 0))]:=by
 have hM:=qag
 have loop:∀ (r:List Str) (i n:Nat),xs.drop i=r→r.length < n→∀ k m,qbmb k m n (qax xs) (bs s) xs.length i=some ([.one (Cell.int (idxS s r i))],[]):=by
  intro r
  induction r with
  | nil=>
   intro i n hd hn k m
   obtain⟨n,rfl⟩:∃ j,n=j+1:=⟨n - 1,by omega⟩
   have:=drop_nil hd
   simp only[qbmb]
   rw[decide_eq_false (by omega),cond_false]
   rfl
  | cons b r ih=>
   intro i n hd hn k m
   obtain⟨n,rfl⟩:∃ j,n=j+1:=⟨n - 1,by omega⟩
   obtain⟨hlt,hg,hd'⟩:=qaq hd
   simp only[List.length_cons] at hn
   simp only[qbmb,qav,hg,eStr,EV0]
   rw[decide_eq_true (by omega),cond_true,qae (by omega),ih (i+1) n hd' (by omega)]
   simp only[idxS]
   by_cases e:s=b
   ·rw[show(s==b)=true by simpa using e,if_pos e];rfl
   ·rw[show(s==b)=false by simpa using e,if_neg e];rfl
 refine qbw (H:=[]) (qsib (xs.length+1) ?_)
 have:=loop xs 0 (xs.length+1+1) rfl (by omega) (xs.length+1+1) (xs.length+1+1)
 simpa[fco] using this
theorem qelc (xs:List Str)(s:Str)(hx:xs.length≤1073741824):out qch [.one (qax xs),.one (Cell.str (bs s))]=some [.one (Cell.bool (xs.contains s))]:=by
 refine qbw (H:=[]) (qnyb 0 ?_)
 simp only[fcl,c_fco xs s hx,EV0,qnxb]
theorem qcfb (s:Str):∀ (l:List Str) (i:Nat),(idxS s l i=-1∧s∉l)∨∃ j x,idxS s l i=((i+j:Nat):Int)∧l[j]?=some x:=by
 intro l
 induction l with
 | nil=>intro i;exact .inl ⟨rfl,by simp⟩
 | cons b r ih=>
  intro i
  by_cases e:s=b
  ·exact .inr ⟨0,b,by simp[idxS,e],rfl⟩
  ·rcases ih (i+1) with⟨h1,h2⟩ | ⟨j,x,h1,h2⟩
   ·exact .inl ⟨by simp[idxS,e,h1],by simp[e,h2]⟩
   ·exact .inr ⟨j+1,x,by simp only[idxS,if_neg e,h1];congr 1;omega,by simpa using h2⟩
def qak (names:List Str)(next:List (List Str))(s:Str):List Str:=if idxS s names 0 < 0 then [] else (next[(idxS s names 0).toNat]?).getD []
theorem qxec (xs:List Str)(c:Cell)[Canon c](s:Str)(hx:xs.length≤1073741824):out qfm [.agg [qax xs,c],.one (Cell.str (bs s))]=some [.one (Cell.int (idxS s xs 0))]:=by
 have hM:=qag
 have loop:∀ (r:List Str) (i n:Nat),xs.drop i=r→r.length < n→∀ k m,qbgb k m n (bs s) i (qax xs) c=some ([.one (Cell.int (idxS s r i))],[]):=by
  intro r
  induction r with
  | nil=>
   intro i n hd hn k m
   obtain⟨n,rfl⟩:∃ j,n=j+1:=⟨n - 1,by omega⟩
   have:=drop_nil hd
   simp only[qbgb,qan,Option.bind_some]
   rw[decide_eq_false (by omega),cond_false]
   rfl
  | cons b r ih=>
   intro i n hd hn k m
   obtain⟨n,rfl⟩:∃ j,n=j+1:=⟨n - 1,by omega⟩
   obtain⟨hlt,hg,hd'⟩:=qaq hd
   simp only[List.length_cons] at hn
   simp only[qbgb,qav,hg,eStr,EV0]
   rw[decide_eq_true (by omega),cond_true,qae (by omega),ih (i+1) n hd' (by omega)]
   simp only[idxS]
   by_cases e:s=b
   ·rw[show(b==s)=true by simpa using e.symm,if_pos e];rfl
   ·rw[show(b==s)=false by simpa using Ne.symm e,if_neg e];rfl
 refine qbw (H:=[]) (qoqb (xs.length+1) ?_)
 have:=loop xs 0 (xs.length+1+1) rfl (by omega) (xs.length+1+1) (xs.length+1+1)
 simpa[fdb] using this
theorem qeod (xs:List Str)(ds:List (List Str))(s:Str)(hx:xs.length≤1073741824)(hl:xs.length=ds.length):outL qic [.agg [qax xs,encL 1 qcz ds],.one (Cell.str (bs s))]=some [.one (qax (qak xs ds s))]:=by
 rcases qcfb s xs 0 with⟨h1,_⟩ | ⟨j,x,h1,h2⟩
 ·refine qbz (H:=[]) (xs:=[.one (.lst true 1 [])]) (qvj 0 ?_) ?_
  ·simp only[fdd,qxec xs _ s hx,EV0,h1]
   rfl
  ·rw[qak,h1,if_pos (by omega)]
   rfl
 ·have hj:=(List.getElem?_eq_some_iff.1 h2).1
  obtain⟨d,hd⟩:∃ d,ds[j]?=some d:=⟨ds[j],List.getElem?_eq_getElem (by omega)⟩
  have e:qak xs ds s=d:=by
   rw[qak,h1,if_neg (by omega)]
   simp[hd]
  rw[e]
  refine qeb (H:=[]) (qvj 0 ?_)
  simp only[fdd,qxec xs _ s hx,EV0,h1]
  rw[decide_eq_false (by omega),cond_false,Nat.zero_add]
  simp only[qav,hd,qcz,EV0]
theorem f_fcj (xs:List Str)(hx:xs.length≤1073741824):Fresh qvv true 2 [.one (qax xs)] [.one (trL 1 qbx xs)]:=by
 obtain⟨p,h1,h2⟩:=(Grow.nil 1).app (by':=16) (xs.map eStr) (by unfold bound;simp;omega) (by unfold bound;simp;omega)
 rw[List.nil_append] at h2
 obtain⟨ids,h3,h4,h5⟩:=h2.rep (tr:=qbx) (fun _ _=>rfl) (fun x _ H'=>Sp.leaf1 _)
 refine Fresh.one (c:=p.1) (H:=p.2) (qqkb 0 ?_) h3 h4
 have hs:qah [] 1 (qax xs)=some (xs.map eStr):=by simp[qah,rowsOf,encL]
 simp only[fcj,hs,h1,EV0]
 cases xs with
 | nil=>
  simp only[List.map_nil,app,List.isEmpty_nil,if_true,Option.some.injEq] at h1
  subst h1
  simp[nilC,encL,both]
 | cons x xs=>simp[nilC,encL]
def idxF {α:Type}(p:α→Bool):List α→Nat→Int | [],_=>-1 | x::r,i=>cond (p x) (i:Int) (idxF p r (i+1))
theorem qfsb {α:Type}(p:α→Bool):∀ (l:List α) (i:Nat),(idxF p l i=-1∧l.find? p=none)∨∃ (j:Nat) (x:α),idxF p l i=((i+j:Nat):Int)∧l[j]?=some x∧l.find? p=some x:=by
 intro l
 induction l with
 | nil=>intro i;exact .inl ⟨rfl,rfl⟩
 | cons b r ih=>
  intro i
  by_cases e:p b=true
  ·exact .inr ⟨0,b,by simp[idxF,e],rfl,by simp[e]⟩
  ·rcases ih (i+1) with⟨h1,h2⟩ | ⟨j,x,h1,h2,h3⟩
   ·exact .inl ⟨by simp[idxF,e,h1],by simp[e,h2]⟩
   ·exact .inr ⟨j+1,x,by simp only[idxF,Bool.eq_false_iff.2 e,cond_false,h1];congr 1;omega,by simpa using h2,by simp[e,h3]⟩
def qohb (names:List Str)(next:List (List Str))(s:Str)(done:List Str):Bool:=(qak names next s).all fun x=>!(names.contains x&&!done.contains x)
def qcac (names:List Str)(next:List (List Str))(done:List Str)(s:Str):Bool:=!done.contains s&&qohb names next s done
def qfr (names:List Str)(next:List (List Str)):Nat→List Str→List Str×Bool
 | 0,o=>(o,true)
 | d+1,o=>match names.find? (qcac names next o) with
  | some s=>qfr names next d (o++[s])
  | none=>([],false)
def qib (names:List Str)(next:List (List Str)):List Str×Bool:=qfr names next names.length []
theorem qnib (names:List Str)(next:List (List Str)):∀ (d:Nat) (o:List Str),(qfr names next d o).1.length≤d+o.length∧∀ x∈(qfr names next d o).1,x∈o∨x∈names:=by
 intro d
 induction d with
 | zero=>intro o;exact⟨by simp[qfr],fun x hx=>.inl hx⟩
 | succ d ih=>
  intro o
  simp only[qfr]
  split
  ·rename_i s hs
   obtain⟨h1,h2⟩:=ih (o++[s])
   refine⟨by simp at h1;omega,fun x hx=>?_⟩
   rcases h2 x hx with h | h
   ·rcases List.mem_append.1 h with h | h
    ·exact .inl h
    ·simp only[List.mem_singleton] at h
     subst h
     exact .inr (List.mem_of_find?_eq_some hs)
   ·exact .inr h
  ·exact⟨by simp,by simp⟩
theorem qplb (names:List Str)(next:List (List Str)):(qib names next).1.length≤names.length∧∀ x∈(qib names next).1,x∈names:=by
 obtain⟨h1,h2⟩:=qnib names next names.length []
 exact⟨by simpa[qib] using h1,fun x hx=>(h2 x hx).resolve_left (by simp)⟩
theorem qjp {names:List Str}{next:List (List Str)}(h:∀ d∈next,d.length≤1073741824)(s:Str):(qak names next s).length≤1073741824:=by
 unfold qak
 split
 ·simp
 ·cases hd:next[(idxS s names 0).toNat]? with
  | none=>simp
  | some d=>exact h d (List.mem_of_getElem? hd)
theorem c_fdh (names:List Str)(next:List (List Str))(s:Str)(done:List Str)(h1:names.length≤1073741824)(h2:names.length=next.length)(h3:∀ d∈next,d.length≤1073741824)(h4:done.length≤1073741824):
  out qrn [.agg [qax names,encL 1 qcz next],.one (Cell.str (bs s)),.one (qax done)]=some [.one (Cell.bool (qohb names next s done))]:=by
 have hM:=qag
 have hN:=qjp (names:=names) h3 s
 have loop:∀ (r:List Str) (i n:Nat),(qak names next s).drop i=r→r.length < n→∀ k m,qyz k m n (qax done) (qax (qak names next s)) i (qax names) (encL 1 qcz next) []=some ([.one (Cell.bool (r.all fun x=>!(names.contains x&&!done.contains x)))],[]):=by
  intro r
  induction r with
  | nil=>
   intro i n hd hn k m
   obtain⟨n,rfl⟩:∃ j,n=j+1:=⟨n - 1,by omega⟩
   have:=drop_nil hd
   simp only[qyz,qan,Option.bind_some]
   rw[decide_eq_false (by omega),cond_false]
   rfl
  | cons x r ih=>
   intro i n hd hn k m
   obtain⟨n,rfl⟩:∃ j,n=j+1:=⟨n - 1,by omega⟩
   obtain⟨hlt,hg,hd'⟩:=qaq hd
   simp only[List.length_cons] at hn
   simp only[qyz,qan,Option.bind_some]
   rw[decide_eq_true (by omega),cond_true]
   simp only[qav,hg,eStr,qsrb done x h4,qxec names _ x h1,qnxb,qae (show i < maxLen by omega),ih (i+1) n hd' (by omega),EV0,List.all_cons]
   cases done.contains x<;>cases names.contains x<;>rfl
 refine qbw (H:=[]) (qlvb ((qak names next s).length+1) ?_)
 have:=loop (qak names next s) 0 ((qak names next s).length+1+1) rfl (by omega) ((qak names next s).length+1+1) ((qak names next s).length+1+1)
 simp only[fdh,qeod names next s h1 h2,EV0]
 exact this
theorem c_fde (names:List Str)(next:List (List Str))(h1:names.length≤1048576)(h2:names.length=next.length)(h3:∀ d∈next,d.length≤1073741824):
  outL qur [.agg [qax names,encL 1 qcz next]]=some [.one (qax (qib names next).1),.one (Cell.bool (qib names next).2)]:=by
 have hM:=qag
 have inner:∀ (b:Cell→Cell→Cell→List Entry→Option Res) (o:List Str) (c:Cell) (H:List Entry),o.length≤1073741824→Grow 1 c H (o.map eStr)→∀ (r:List Str) (i n:Nat),names.drop i=r→i≤names.length→r.length < n→∀ k m,
   qua k m b n c i (qax names) (encL 1 qcz next) H=match r.find? (qcac names next o) with
    | some s=>(app H 1 16 c [[Cell.str (bs s)]]).bind fun p=>b p.1 (qax names) (encL 1 qcz next) p.2
    | none=>some ([.one (.lst true 1 []),.one (Cell.bool false)],H):=by
  intro b o c H ho hg r
  have hrd:qal false H (.one c)=some (.one (qax o)):=by
   have:=hg.read
   simp only[mapO] at this
   cases h:qal false H (.one c) with
   | none=>rw[h] at this;simp at this
   | some y=>rw[h] at this;simpa using this
  induction r with
  | nil=>
   intro i n hd h5 hn k m
   obtain⟨n,rfl⟩:∃ j,n=j+1:=⟨n - 1,by omega⟩
   have h4:=drop_nil hd
   simp only[qua,qan,Option.bind_some]
   rw[decide_eq_false (by omega),cond_false,show((i:Int)==(names.length:Int))=true by simp;omega,cond_true]
   rfl
  | cons x r ih=>
   intro i n hd h5 hn k m
   obtain⟨n,rfl⟩:∃ j,n=j+1:=⟨n - 1,by omega⟩
   obtain⟨hlt,hx,hd'⟩:=qaq hd
   simp only[List.length_cons] at hn
   have q1:qbc qby [.one c,.one (Cell.str (bs x))] H=some [.one (Cell.bool (o.contains x))]:=by
    rw[qbv (qbb hrd (qbb (qam _ _ _) (qas _)))]
    exact qsrb o x ho
   have q2:qbc qrn [.agg [qax names,encL 1 qcz next],.one (Cell.str (bs x)),.one c] H=some [.one (Cell.bool (qohb names next x o))]:=by
    rw[qbv (qbb (qam _ _ _) (qbb (qam _ _ _) (qbb hrd (qas _))))]
    exact c_fdh names next x o (by omega) h2 h3 ho
   simp only[qua,qan,Option.bind_some]
   rw[decide_eq_true (by omega),cond_true]
   simp only[qav,hx,eStr,q1,q2,qae (show i < maxLen by omega),ih (i+1) n hd' (by omega) (by omega),EV0]
   rw[show((i:Int)==(names.length:Int))=false by simp;omega,cond_false,List.find?_cons]
   simp only[qcac]
   cases o.contains x<;>cases qohb names next x o<;>rfl
 have loop:∀ (d:Nat) (o:List Str) (c:Cell) (H:List Entry) (n:Nat),o.length+d=names.length→d < n→Grow 1 c H (o.map eStr)→∀ k m,names.length < m→
   ∃ c' H',qou k m n c (qax names) (encL 1 qcz next) H=some ([.one c',.one (Cell.bool (qfr names next d o).2)],H')∧Grow 1 c' H' ((qfr names next d o).1.map eStr)∨
    ∃ H',qou k m n c (qax names) (encL 1 qcz next) H=some ([.one (.lst true 1 []),.one (Cell.bool false)],H')∧qfr names next d o=([],false):=by
  intro d
  induction d with
  | zero=>
   intro o c H n hd hn hg k m hm
   obtain⟨n,rfl⟩:∃ j,n=j+1:=⟨n - 1,by omega⟩
   refine⟨c,H,.inl ⟨?_,hg⟩⟩
   have hlen:lenC c=some o.length:=by
    rcases hg with⟨h4,rfl,_⟩ | ⟨ep,rfl,_⟩
    ·simp only[List.map_eq_nil_iff] at h4
     subst h4;rfl
    ·simp
   simp only[qou,hlen,qan,Option.bind_some]
   rw[decide_eq_false (by omega),cond_false]
   rfl
  | succ d ih=>
   intro o c H n hd hn hg k m hm
   obtain⟨n,rfl⟩:∃ j,n=j+1:=⟨n - 1,by omega⟩
   have hlen:lenC c=some o.length:=by
    rcases hg with⟨h4,rfl,_⟩ | ⟨ep,rfl,_⟩
    ·simp only[List.map_eq_nil_iff] at h4
     subst h4;rfl
    ·simp
   have hin:=inner (qou k m n) o c H (by omega) hg names 0 m rfl (by omega) hm k m
   simp only[qou,hlen,qan,Option.bind_some]
   rw[decide_eq_true (by omega),cond_true]
   simp only[qfr]
   cases hf:names.find? (qcac names next o) with
   | none=>
    rw[hf] at hin
    exact⟨c,H,.inr ⟨H,hin,rfl⟩⟩
   | some s=>
    rw[hf] at hin
    obtain⟨q,e1,e2⟩:=hg.app (by':=16) [[Cell.str (bs s)]] (by unfold bound;simp;omega) (by unfold bound;simp;omega)
    obtain⟨c',H',h5⟩:=ih (o++[s]) q.1 q.2 n (by simp;omega) (by omega) (by simpa[eStr] using e2) k m hm
    refine⟨c',H',?_⟩
    have hin':qua k m (qou k m n) m c 0 (qax names) (encL 1 qcz next) H=qou k m n q.1 (qax names) (encL 1 qcz next) q.2:=by
     refine hin.trans ?_
     simp only[e1,Option.bind_some]
    rw[hin']
    exact h5
 obtain⟨c',H',h5⟩:=loop names.length [] (.lst true 1 []) [] (names.length+1+1) (by simp) (by omega) (Grow.nil 1) (names.length+1+1) (names.length+1+1) (by omega)
 rcases h5 with⟨h5,h6⟩ | ⟨H',h5,h6⟩
 ·refine qbz (H:=H') (qwk (names.length+1) h5) ?_
  have:=h6.read
  simp only[mapO] at this
  cases h:qal false H' (.one c') with
  | none=>rw[h] at this;simp at this
  | some y=>
   rw[h] at this
   simp only[Option.some.injEq,List.cons.injEq,and_true] at this
   subst this
   exact qbb h (qbb (qam _ _ _) (qas _))
 ·refine qbz (H:=H') (qwk (names.length+1) h5) ?_
  unfold qib
  rw[h6]
  rfl
theorem qwq {H:List Entry}{ids:List Nat}{g:Nat}{names:List Str}{next:List (List Str)}(h:GraphM H ids g names next)(h1:names.length≤1073741824)(s:Str):
  ∃ d,qev [.one (.ptr g 2 0 0 0),.one (Cell.str (bs s))] H=some ([.one d],H)∧qce H ids d (qak names next s):=by
 obtain⟨_,_,hlen,cn,co,fr,he,hn,ho⟩:=h
 have d0:deref H (.ptr g 2 0 0 0)=some ([cn,co],0):=by simp[deref,entry?,he]
 have d1:deref H (.ptr g 2 0 1 0)=some ([cn,co],1):=by simp[deref,entry?,he]
 have q1:qbc qlg [.one cn,.one (Cell.str (bs s))] H=some [.one (Cell.int (idxS s names 0))]:=by
  rw[qbv (qbb hn.read (qbb (qam _ _ _) (qas _)))]
  exact c_fco names s h1
 rcases qcfb s names 0 with⟨e1,_⟩ | ⟨j,x,e1,e2⟩
 ·refine⟨.lst true 1 [],quv 0 ?_,?_⟩
  ·simp only[fbc,ptrC,qcu,Nat.zero_add,d0,q1,e1,EV0]
   rfl
  ·rw[qak,e1,if_pos (by omega)]
   exact .nil _ _
 ·have hj:=(List.getElem?_eq_some_iff.1 e2).1
  obtain⟨d,hd⟩:∃ d,next[j]?=some d:=⟨next[j],List.getElem?_eq_getElem (by omega)⟩
  have e:qak names next s=d:=by
   rw[qak,e1,if_neg (by omega)]
   simp[hd]
  rw[e]
  obtain⟨a,dc,i1,i2,i3⟩:=ho.at hd
  refine⟨dc,quv 0 ?_,i3⟩
  simp only[fbc,ptrC,qcu,Nat.zero_add,d0,q1,e1,EV0]
  rw[decide_eq_false (by omega),cond_false]
  simp only[d1,qhcb,qhc,i1,i2,Option.bind_some]
theorem qbob {H:List Entry}{ids is:List Nat}{g:Nat}{names:List Str}{next:List (List Str)}(h:GraphM H ids g names next)(h1:names.length≤1073741824)(h3:∀ d∈next,d.length≤1073741824)(s:Str){c:Cell}{done:List Str}(hc:qce H is c done)(h4:done.length≤1073741824):
  qzv [.one (.ptr g 2 0 0 0),.one (Cell.str (bs s)),.one c] H=some ([.one (Cell.bool (qohb names next s done))],H):=by
 have hM:=qag
 have hN:=qjp (names:=names) h3 s
 obtain⟨d,o1,o2⟩:=qwq h h1 s
 obtain⟨_,_,hlen,cn,co,fr,he,hn,ho⟩:=h
 have d0:deref H (.ptr g 2 0 0 0)=some ([cn,co],0):=by simp[deref,entry?,he]
 have q1:∀ x,qbc qch [.one cn,.one (Cell.str (bs x))] H=some [.one (Cell.bool (names.contains x))]:=fun x=>by
  rw[qbv (qbb hn.read (qbb (qam _ _ _) (qas _)))]
  exact qelc names x h1
 have q2:∀ x,qbc qch [.one c,.one (Cell.str (bs x))] H=some [.one (Cell.bool (done.contains x))]:=fun x=>by
  rw[qbv (qbb hc.read (qbb (qam _ _ _) (qas _)))]
  exact qelc done x h4
 have loop:∀ (r:List Str) (i n:Nat),(qak names next s).drop i=r→r.length < n→∀ k m,qwr k m n (.ptr g 2 0 0 0) c d (qak names next s).length i H=some ([.one (Cell.bool (r.all fun x=>!(names.contains x&&!done.contains x)))],H):=by
  intro r
  induction r with
  | nil=>
   intro i n hd hn k m
   obtain⟨n,rfl⟩:∃ j,n=j+1:=⟨n - 1,by omega⟩
   have:=drop_nil hd
   simp only[qwr]
   rw[decide_eq_false (by omega),cond_false]
   rfl
  | cons x r ih=>
   intro i n hd hn k m
   obtain⟨n,rfl⟩:∃ j,n=j+1:=⟨n - 1,by omega⟩
   obtain⟨hlt,hg,hd'⟩:=qaq hd
   simp only[List.length_cons] at hn
   obtain⟨a,row,off,i1,i2,i3⟩:=o2.at hg
   simp only[qwr]
   rw[decide_eq_true (by omega),cond_true]
   simp only[i1,i2,i3,ptrC,qcu,Nat.zero_add,d0,q1,q2,qae (show i < maxLen by omega),ih (i+1) n hd' (by omega),EV0,List.all_cons]
   cases done.contains x<;>cases names.contains x<;>rfl
 refine qozb ((qak names next s).length+1) ?_
 have:=loop (qak names next s) 0 ((qak names next s).length+1+1) rfl (by omega) ((qak names next s).length+1+1) ((qak names next s).length+1+1)
 simp only[fbb,o1,o2.len,EV0]
 exact this
theorem qmlc {H:List Entry}{ids:List Nat}{g:Nat}{names:List Str}{next:List (List Str)}(h:GraphM H ids g names next)(h1:names.length≤1048576)(h3:∀ d∈next,d.length≤1073741824):
  ∃ c H' is,qvq [.one (.ptr g 2 0 0 0)] H=some ([.one c,.one (Cell.bool (qib names next).2)],H')∧Rep H' true true 2 is c (trL 1 qbx (qib names next).1)∧is.Nodup:=by
 have hM:=qag
 let A:Cell→List Entry:=fun c=>H++[Entry.mk 1 [[.ptr g 2 0 0 0]] 0 false]++[Entry.mk 1 [[c]] 0 false]
 have hAl:∀ c,(A c).length=H.length+2:=fun c=>by simp[A]
 have hA:∀ c T,∀ j∈ids,(A c++T)[j]?=H[j]?:=fun c T j hj=>by
  have:=h.lt j hj
  simp only[A]
  rw[List.getElem?_append_left (by simp;omega),List.getElem?_append_left (by simp;omega),List.getElem?_append_left (by omega)]
 have hG:∀ c T,GraphM (A c++T) ids g names next:=fun c T=>h.app (hA c T) (by simp[A])
 have dg:∀ c T,deref (A c++T) (.ptr H.length 1 0 0 0)=some ([.ptr g 2 0 0 0],0):=fun c T=>by simp[A,deref,entry?]
 have dv:∀ c T,deref (A c++T) (.ptr (H.length+1) 1 0 0 0)=some ([c],0):=fun c T=>by simp[A,deref,entry?]
 have sv:∀ c T d,qbu (A c++T) (.ptr (H.length+1) 1 0 0 0) [d]=some (A d++T):=fun c T d=>by
  simp[A,qbu,entry?,splice,List.set_append]
 have loop:∀ (d:Nat) (o:List Str) (c:Cell) (T:List Entry) (n:Nat),o.length+d=names.length→d < n→GrowAt (H.length+2) 1 c T (o.map eStr)→∀ k m,
   ∃ c' H' is,qanb k m n (.ptr H.length 1 0 0 0) (.ptr (H.length+1) 1 0 0 0) (A c++T)=some ([.one c',.one (Cell.bool (qfr names next d o).2)],H')∧Rep H' true true 2 is c' (trL 1 qbx (qfr names next d o).1)∧is.Nodup:=by
  intro d
  induction d with
  | zero=>
   intro o c T n hd hn hg k m
   obtain⟨n,rfl⟩:∃ j,n=j+1:=⟨n - 1,by omega⟩
   rw[← hAl c] at hg
   obtain⟨is,r1,r2,r3⟩:=hg.list
   obtain⟨_,_,_,cn,co,fr,he,hn',_⟩:=hG c T
   have d0:deref (A c++T) (.ptr g 2 0 0 0)=some ([cn,co],0):=by simp only[deref,entry?,he];rfl
   refine⟨c,A c++T,is,?_,r1,r2⟩
   simp only[qanb,dv,dg,qhc,ptrC,qcu,Nat.zero_add,d0,(qce.of (n:=2) r1).len,hn'.len,Option.bind_some]
   rw[decide_eq_false (by omega),cond_false]
   rfl
  | succ d ih=>
   intro o c T n hd hn hg k m
   obtain⟨n,rfl⟩:∃ j,n=j+1:=⟨n - 1,by omega⟩
   rw[← hAl c] at hg
   obtain⟨is,r1,r2,r3⟩:=hg.list
   have hGc:=hG c T
   obtain⟨_,_,_,cn,co,fr,he,hn',_⟩:=hG c T
   have d0:deref (A c++T) (.ptr g 2 0 0 0)=some ([cn,co],0):=by simp only[deref,entry?,he];rfl
   have hoc:qce (A c++T) is c o:=qce.of (n:=2) r1
   have hc:∀ s,qsd [.one (Cell.str (bs s)),.one (.ptr (H.length+1) 1 0 0 0),.one (.ptr H.length 1 0 0 0)] (A c++T)=some ([.one (Cell.bool (qcac names next o s))],A c++T):=by
    intro s
    refine qoeb 0 ?_
    have q:qbc qch [.one c,.one (Cell.str (bs s))] (A c++T)=some [.one (Cell.bool (o.contains s))]:=by
     rw[qbv (qbb hoc.read (qbb (qam _ _ _) (qas _)))]
     exact qelc o s (by omega)
    simp only[fbe,dv,dg,qhc,q,qbob hGc (by omega) h3 s hoc (by omega),EV0,qcac]
    cases o.contains s<;>rfl
   have idx:∀ (r:List Str) (i n:Nat),names.drop i=r→r.length < n→∀ k m,qar k m n cn (.ptr (H.length+1) 1 0 0 0) (.ptr H.length 1 0 0 0) names.length i (A c++T)=some ([.one (Cell.int (idxF (qcac names next o) r i))],A c++T):=by
    intro r
    induction r with
    | nil=>
     intro i n hd hn k m
     obtain⟨n,rfl⟩:∃ j,n=j+1:=⟨n - 1,by omega⟩
     have:=drop_nil hd
     simp only[qar]
     rw[decide_eq_false (by omega),cond_false]
     rfl
    | cons x r ihr=>
     intro i n hd hn k m
     obtain⟨n,rfl⟩:∃ j,n=j+1:=⟨n - 1,by omega⟩
     obtain⟨hlt,hg,hd'⟩:=qaq hd
     simp only[List.length_cons] at hn
     obtain⟨a,row,off,i1,i2,i3⟩:=hn'.at hg
     simp only[qar,i1,i2,i3,hc,EV0]
     rw[decide_eq_true (by omega),cond_true,qae (by omega),ihr (i+1) n hd' (by omega)]
     simp only[idxF]
     cases qcac names next o x<;>rfl
   have hi:=qde (c1:=cn) (q2:=.ptr (H.length+1) 1 0 0 0) (q3:=.ptr H.length 1 0 0 0) (H:=A c++T) (names.length+1) (by
    have:=idx names 0 (names.length+1+1) rfl (by omega) (names.length+1+1) (names.length+1+1)
    simp only[qbg,hn'.len,Option.bind_some]
    exact this)
   simp only[qanb,dv,dg,qhc,ptrC,qcu,Nat.zero_add,d0,hoc.len,hn'.len,Option.bind_some]
   rw[decide_eq_true (by omega),cond_true]
   simp only[qfr]
   rcases qfsb (qcac names next o) names 0 with⟨e1,e2⟩ | ⟨j,x,e1,e2,e3⟩
   ·refine⟨.lst true 1 [],A c++T,[],?_,?_,by simp⟩
    ·simp only[hi,e1,e2,EV0]
     rfl
    ·rw[e2]
     exact .inl ⟨rfl,rfl,true,rfl⟩
   ·rw[e3]
    obtain⟨c1,T1,a1,g1⟩:=qnpc (A:=A c) (by':=16) hg (eStr x) (by simp[bound];omega) (by simp[bound];omega)
    rw[hAl] at g1
    obtain⟨a,row,off,i1,i2,i3⟩:=hn'.at e2
    obtain⟨c2,H2,is2,z1,z2,z3⟩:=ih (o++[x]) c1 T1 n (by simp;omega) (by omega) (by simpa using g1) k m
    refine⟨c2,H2,is2,?_,z2,z3⟩
    simp only[eStr] at a1
    simp only[hi,e1,EV0]
    rw[decide_eq_false (by omega),cond_false,Nat.zero_add]
    simp only[dv,dg,qhc,ptrC,qcu,Nat.zero_add,d0,i1,i2,i3,a1,sv,Option.bind_some]
    exact z1
 obtain⟨c,H',is,z1,z2,z3⟩:=loop names.length [] (.lst true 1 []) [] (names.length+1+1) (by simp) (by omega) (.inl ⟨rfl,rfl,rfl⟩) (names.length+1+1) (names.length+1+1)
 refine⟨c,H',is,qreb (names.length+1) ?_,z2,z3⟩
 simpa[fbd,A,qib] using z1
theorem c_fdf (l:List MPack)(hl:bdL 1048576 (MPack.Bd 1048576) l):outL qjx [.one (encL 4 MPack.enc l)]=some [.agg [qax (l.map (·.Name)),encL 1 qcz (l.map (·.Uses))]]:=by
 have hM:=qag
 have hxl:=hl.1
 have loop:∀ (r:List MPack) (i n:Nat) (c6 c7:Cell) (H:List Entry),l.drop i=r→i+r.length=l.length→r.length < n→Two H c6 c7 ((l.take i).map (·.Name)) ((l.take i).map (·.Uses))→∀ k m,
   ∃ c6' c7' H',qckb k m n (encL 4 MPack.enc l) i c6 c7 H=some ([.agg [c6',c7']],H')∧Two H' c6' c7' (l.map (·.Name)) (l.map (·.Uses)):=by
  intro r
  induction r with
  | nil=>
   intro i n c6 c7 H hd hi hn ht k m
   obtain⟨n,rfl⟩:∃ j,n=j+1:=⟨n - 1,by omega⟩
   have h1:=drop_nil hd
   rw[List.take_of_length_le h1] at ht
   refine⟨c6,c7,H,?_,ht⟩
   simp only[qckb,qan,Option.bind_some]
   rw[decide_eq_false (by omega),cond_false]
  | cons x r ih=>
   intro i n c6 c7 H hd hi hn ht k m
   obtain⟨n,rfl⟩:∃ j,n=j+1:=⟨n - 1,by omega⟩
   obtain⟨hlt,hx,hd'⟩:=qaq hd
   simp only[List.length_cons] at hn hi
   have hb:=hl.2 x (List.mem_of_getElem? hx)
   have e1:∀ {β:Type} (f:MPack→β),(l.take i).map f++[f x]=(l.take (i+1)).map f:=fun f=>by rw[List.take_add_one,hx];simp
   obtain⟨p,q,s,a1,a2,a3,ht'⟩:=ht.step x.Name x.Uses (by simp;omega) (by simp;omega) hb.2.1.1
   rw[e1,e1] at ht'
   obtain⟨c6',c7',H',z1,z2⟩:=ih (i+1) n p.1 s.1 s.2 hd' (by omega) (by omega) ht' k m
   refine⟨c6',c7',H',?_,z2⟩
   simp only[qckb,qan,Option.bind_some]
   rw[decide_eq_true (by omega),cond_true]
   simp only[qav,hx,MPack.enc,qgn,Nat.zero_add,qesc,a1,a2,a3,EV0]
   have hs:qah (p.2++[Entry.mk 1 [] 0 false]) 1 (encL 1 eStr x.Uses)=some (x.Uses.map eStr):=qpq _ _
   simp only[hs,a2,a3,qesc,Option.bind_some]
   rw[qae (by omega)]
   exact z1
 obtain⟨c6,c7,H,h1,h2⟩:=loop l 0 (l.length+1+1) (.lst true 1 []) (.lst true 1 []) [] rfl (by omega) (by omega) Two.nil (l.length+1+1) (l.length+1+1)
 exact qbz (H:=H) (qpvb (l.length+1) h1) h2.read
def qeic (ns:List Str)(us:List (List Str))(H:List Entry):Prop:=(ns=[]∧us=[]∧H=[Entry.mk 2 [[.lst true 1 [],.lst true 1 []]] 0 false])∨∃ e1 e2,H=[Entry.mk 2 [[.vs 1 1 0 ns.length e1,.vs 2 1 0 us.length e2]] 0 false,Entry.mk 1 (ns.map eStr) e1 false,Entry.mk 1 (us.map qcz) e2 false]
theorem qeic.step {ns:List Str}{us:List (List Str)}{H:List Entry}(h:qeic ns us H)(t:Str)(e:List Str)(h1:ns.length < 1048576)(h2:us.length < 1048576):
  ∃ c0 p H1 c1 q H2,(deref H (.ptr 0 2 0 0 0)).bind (fun p=>cC p.1 p.2)=some c0∧app H 1 16 c0 [[Cell.str (bs t)]]=some p∧qbu p.2 (.ptr 0 2 0 0 0) [p.1]=some H1∧
   (deref H1 (.ptr 0 2 0 1 0)).bind (fun p=>cC p.1 p.2)=some c1∧app H1 1 24 c1 [[qax e]]=some q∧qbu q.2 (.ptr 0 2 0 1 0) [q.1]=some H2∧qeic (ns++[t]) (us++[e]) H2:=by
 rcases h with⟨rfl,rfl,rfl⟩ | ⟨e1,e2,rfl⟩
 ·refine⟨.lst true 1 [],(.vs 1 1 0 1 0,_),_,.lst true 1 [],(.vs 2 1 0 1 0,_),_,rfl,rfl,rfl,rfl,rfl,rfl,.inr ⟨0,0,rfl⟩⟩
 ·refine⟨.vs 1 1 0 ns.length e1,(.vs 1 1 0 (ns.length+1) (e1+1),[Entry.mk 2 [[.vs 1 1 0 ns.length e1,.vs 2 1 0 us.length e2]] 0 false,Entry.mk 1 (ns.map eStr++[eStr t]) (e1+1) false,Entry.mk 1 (us.map qcz) e2 false]),_,.vs 2 1 0 us.length e2,
   (.vs 2 1 0 (us.length+1) (e2+1),[Entry.mk 2 [[.vs 1 1 0 (ns.length+1) (e1+1),.vs 2 1 0 us.length e2]] 0 false,Entry.mk 1 (ns.map eStr++[eStr t]) (e1+1) false,Entry.mk 1 (us.map qcz++[qcz e]) (e2+1) false]),_,rfl,?_,rfl,rfl,?_,rfl,.inr ⟨e1+1,e2+1,?_⟩⟩
  ·simp only[app,entry?,List.getElem?_cons_succ,List.getElem?_cons_zero,if_true,List.length_map,Nat.zero_add,List.length_singleton]
   rw[if_pos ⟨trivial,Nat.le_refl _,.inl trivial,by unfold bound;omega,by unfold bound;omega⟩]
   simp[eStr,List.take_of_length_le]
  ·simp only[app,entry?,List.set_cons_succ,List.set_cons_zero,List.getElem?_cons_succ,List.getElem?_cons_zero,if_true,List.length_map,Nat.zero_add,List.length_singleton]
   rw[if_pos ⟨trivial,Nat.le_refl _,.inl trivial,by unfold bound;omega,by unfold bound;omega⟩]
   simp[qcz,List.take_of_length_le,splice]
  ·simp[splice]
theorem qwuc (l:List MPack)(hl:bdL 1048576 (MPack.Bd 1048576) l):∃ H,qeic (l.map (·.Name)) (l.map (·.Uses)) H∧qfo [.one (encL 4 MPack.enc l)] []=some ([.one (.ptr 0 2 0 0 0)],H):=by
 have hM:=qag
 have hxl:=hl.1
 have loop:∀ (r:List MPack) (i n:Nat) (H:List Entry),l.drop i=r→i+r.length=l.length→r.length < n→qeic ((l.take i).map (·.Name)) ((l.take i).map (·.Uses)) H→∀ k m,
   ∃ H',qcjb k m n (.ptr 0 2 0 0 0) (encL 4 MPack.enc l) l.length i H=some ([.one (.ptr 0 2 0 0 0)],H')∧qeic (l.map (·.Name)) (l.map (·.Uses)) H':=by
  intro r
  induction r with
  | nil=>
   intro i n H hd hi hn ht k m
   obtain⟨n,rfl⟩:∃ j,n=j+1:=⟨n - 1,by omega⟩
   have h1:=drop_nil hd
   rw[List.take_of_length_le h1] at ht
   refine⟨H,?_,ht⟩
   simp only[qcjb]
   rw[decide_eq_false (by omega),cond_false]
  | cons x r ih=>
   intro i n H hd hi hn ht k m
   obtain⟨n,rfl⟩:∃ j,n=j+1:=⟨n - 1,by omega⟩
   obtain⟨hlt,hx,hd'⟩:=qaq hd
   simp only[List.length_cons] at hn hi
   have e1:∀ {β:Type} (f:MPack→β),(l.take i).map f++[f x]=(l.take (i+1)).map f:=fun f=>by rw[List.take_add_one,hx];simp
   obtain⟨c0,p,H1,c1,q,H2,a1,a2,a3,a4,a5,a6,ht'⟩:=ht.step x.Name x.Uses (by simp;omega) (by simp;omega)
   rw[e1,e1] at ht'
   obtain⟨H',z1,z2⟩:=ih (i+1) n H2 hd' (by omega) (by omega) ht' k m
   refine⟨H',?_,z2⟩
   have hrk:∀ (f:List Cell→Option Res),restK [encL 1 eStr x.Uses] f=f [qax x.Uses]:=fun f=>by simp[restK,mapO,qfkb,encL]
   have hsr:∀ G,qah G 1 (.lst true 1 (chunks 1 1 [qax x.Uses]))=some [[qax x.Uses]]:=fun G=>by simp[qah,rowsOf,chunks]
   obtain⟨d1,b1,b2⟩:=Option.bind_eq_some_iff.1 a1
   obtain⟨d4,b4,b5⟩:=Option.bind_eq_some_iff.1 a4
   simp only[qcjb]
   rw[decide_eq_true (by omega),cond_true]
   simp only[qav,hx,MPack.enc,EV0]
   simp only[ptrC,qcu,Nat.zero_add,Option.bind_some,b1,b2,a2,a3,b4,b5,hrk,hsr,a5,a6]
   rw[qae (by omega)]
   exact z1
 obtain⟨H,h1,h2⟩:=loop l 0 (l.length+1+1) [Entry.mk 2 [[.lst true 1 [],.lst true 1 []]] 0 false] rfl (by omega) (by omega) (.inl ⟨rfl,rfl,rfl⟩) (l.length+1+1) (l.length+1+1)
 refine⟨H,h2,qnjb (l.length+1) ?_⟩
 simpa[fay] using h1
theorem qeic.graph {ns:List Str}{us:List (List Str)}{H:List Entry}(h:qeic ns us H)(hl:ns.length=us.length):∃ ids,GraphM H ids 0 ns us:=by
 rcases h with⟨rfl,rfl,rfl⟩ | ⟨e1,e2,rfl⟩
 ·exact⟨[0],by simp,by simp,rfl,.lst true 1 [],.lst true 1 [],false,rfl,.nil _ _,.inl ⟨rfl,rfl⟩⟩
 ·refine⟨[0,1,2],by simp,by simp,hl,_,_,false,rfl,?_,.inr ⟨2,e2,false,us.map qcz,rfl,by simp,rfl,by simp,fun j xs hj=>⟨qax xs,by rw[List.getElem?_map,hj];rfl,(qce.canon _ _).mono (by simp)⟩⟩⟩
  have:=(GrowAt.list (A:=[Entry.mk 2 [[.vs 1 1 0 ns.length e1,.vs 2 1 0 us.length e2]] 0 false]) (T:=[Entry.mk 1 (ns.map eStr) e1 false]) (c:=.vs 1 1 0 ns.length e1) (xs:=ns) (.inr ⟨e1,by simp,rfl⟩))
  obtain⟨is,r1,r2,r3⟩:=this
  refine((qce.of (n:=2) (r1.app [Entry.mk 1 (us.map qcz) e2 false])).mono fun j hj=>?_ :)
  have:=r3 j hj
  simp at this
  simp[this]
theorem qiy {l:List MPack}(hl:bdL 1048576 (MPack.Bd 1048576) l):∀ d∈l.map (·.Uses),d.length≤1073741824:=fun d hd=>by
 obtain⟨p,hp,rfl⟩:=List.mem_map.1 hd
 exact Nat.le_trans (hl.2 p hp).2.1.1 (by omega)
def qvi (l:List MPack):List Str×Bool:=qib (l.map (·.Name)) (l.map (·.Uses))
theorem qbqd (l:List MPack)(hl:bdL 1048576 (MPack.Bd 1048576) l):bdL 1048576 (bdS 1048576) (qvi l).1:=by
 obtain⟨h1,h2⟩:=qplb (l.map (·.Name)) (l.map (·.Uses))
 have:=hl.1
 refine⟨Nat.le_trans h1 (by simpa using this),fun x hx=>?_⟩
 obtain⟨p,hp,rfl⟩:=List.mem_map.1 (h2 x hx)
 exact(hl.2 p hp).1
theorem c_fcx (l:List MPack)(hl:bdL 1048576 (MPack.Bd 1048576) l):outL qwd [.one (encL 4 MPack.enc l)]=some [.one (qax (qvi l).1),.one (Cell.bool (qvi l).2)]:=by
 have h1:=hl.1
 refine qeb (H:=[]) (qokb 0 ?_)
 simp only[fcx,c_fdf l hl,c_fde (l.map (·.Name)) (l.map (·.Uses)) (by simpa using h1) (by simp) (qiy hl),EV0]
 rfl
theorem f_fag (l:List MPack)(hl:bdL 1048576 (MPack.Bd 1048576) l):Fresh qwv true 2 [.one (encL 4 MPack.enc l)] [.one (trL 1 qbx (qvi l).1),.one (.leaf (.bool (qvi l).2))]:=by
 have h1:=hl.1
 obtain⟨H,g1,e1⟩:=qwuc l hl
 obtain⟨ids,hG⟩:=g1.graph (by simp)
 obtain⟨c',H',is,e2,r1,r2⟩:=qmlc hG (by simpa using h1) (qiy hl)
 refine Fresh.one1 (n:=1) (qqzb 0 ?_) r1 r2
 simp only[fag,e1,e2,EV0]
 rfl
theorem qqzc:∀ (a b:Str),lt a b=true↔a < b:=by
 intro a
 unfold lt
 induction a with
 | nil=>intro b;cases b<;>simp[Op.bytesLess]
 | cons x a ih=>
  intro b
  cases b with
  | nil=>simp[Op.bytesLess]
  | cons y b=>rw[List.cons_lt_cons_iff,← ih b];simp[Op.bytesLess]
theorem qlq:∀ {a b:List Str},a.Pairwise (· < ·)→b.Pairwise (· < ·)→(∀ x,x∈a↔x∈b)→a=b:=by
 intro a
 induction a with
 | nil=>
  intro b _ _ h
  cases b with
  | nil=>rfl
  | cons y b=>exact absurd ((h y).2 List.mem_cons_self) (by simp)
 | cons x a ih=>
  intro b ha hb h
  cases b with
  | nil=>exact absurd ((h x).1 List.mem_cons_self) (by simp)
  | cons y b=>
   obtain⟨a1,a2⟩:=List.pairwise_cons.1 ha
   obtain⟨b1,b2⟩:=List.pairwise_cons.1 hb
   have hxy:x=y:=by
    rcases List.mem_cons.1 ((h x).1 List.mem_cons_self) with e | e
    ·exact e
    ·rcases List.mem_cons.1 ((h y).2 List.mem_cons_self) with e' | e'
     ·exact e'.symm
     ·exact absurd (List.lt_trans (b1 x e) (a1 y e')) (List.lt_irrefl _)
   subst hxy
   congr 1
   refine ih a2 b2 fun z=>⟨fun hz=>?_,fun hz=>?_⟩
   ·rcases List.mem_cons.1 ((h z).1 (List.mem_cons_of_mem _ hz)) with rfl | e
    ·exact absurd (a1 z hz) (List.lt_irrefl _)
    ·exact e
   ·rcases List.mem_cons.1 ((h z).2 (List.mem_cons_of_mem _ hz)) with rfl | e
    ·exact absurd (b1 z hz) (List.lt_irrefl _)
    ·exact e
def qcm (xs:List Str):List Str:=Lib.compact (qlhb xs)
theorem qbs (xs:List Str):(qcm xs).Pairwise (· < ·)∧∀ x,x∈qcm xs↔x∈xs:=by
 have hp:(qlhb xs).Pairwise (fun a b=>a≤b):=by
  have:=List.pairwise_mergeSort (le:=fun x y:Str=>decide (x≤y)) (fun a b c h1 h2=>by simp only[decide_eq_true_eq] at*;exact List.le_trans h1 h2) (fun a b=>by simpa using List.le_total a b) xs
  simpa[qlhb] using this
 have hm:∀ x,x∈qlhb xs↔x∈xs:=fun x=>List.mem_mergeSort
 generalize hs:qlhb xs=s at hp hm
 have key:∀ m,m < s.length→∃ C,Lib.compactUpTo s.toArray (m+1)=C++[s[m]!]∧(C++[s[m]!]).Pairwise (· < ·)∧∀ x,x∈C++[s[m]!]↔x∈s.take (m+1):=by
  intro m
  induction m with
  | zero=>
   intro h
   obtain⟨x,r,rfl⟩:∃ x r,s=x::r:=by cases s with | nil=>simp at h | cons x r=>exact⟨x,r,rfl⟩
   exact⟨[],by rw[Lib.compactUpTo_succ];simp[Lib.compactUpTo,Lib.keeps],by simp,by simp⟩
  | succ m ih=>
   intro h
   obtain⟨C,h1,h2,h3⟩:=ih (by omega)
   have e0:s[m]! =s[m]:=by simp[show m < s.length by omega]
   have e1:s[m+1]! =s[m+1]:=by simp[h]
   have ht:s.take (m+1+1)=s.take (m+1)++[s[m+1]]:=by rw[List.take_add_one,List.getElem?_eq_getElem h];rfl
   have hle:s[m]≤s[m+1]:=List.pairwise_iff_getElem.1 hp m (m+1) (by omega) h (by omega)
   rw[Lib.compactUpTo_succ,h1]
   have hk:Lib.keeps s.toArray (m+1)=decide (s[m+1]≠s[m]):=by
    simp[Lib.keeps,h,show m < s.length by omega]
   rw[hk,e1,ht]
   by_cases he:s[m+1]=s[m]
   ·refine⟨C,by simp[he,e0],by rw[he,← e0];exact h2,fun x=>?_⟩
    have h4:=h3 x
    rw[e0] at h4
    rw[he]
    constructor
    ·exact fun h=>List.mem_append_left _ (h4.1 h)
    ·intro h
     rcases List.mem_append.1 h with h | h
     ·exact h4.2 h
     ·exact List.mem_append_right _ h
   ·refine⟨C++[s[m]!],by simp[he,h],?_,fun x=>?_⟩
    ·refine List.pairwise_append.2 ⟨h2,by simp,fun a ha b hb=>?_⟩
     simp only[List.mem_singleton] at hb
     subst hb
     have hlt:s[m] < s[m+1]:=by
      rcases Classical.em (s[m] < s[m+1]) with h | h
      ·exact h
      ·exact absurd (List.le_antisymm (List.not_lt.1 h) hle) he
     rcases List.mem_append.1 ha with ha | ha
     ·have:=(List.pairwise_append.1 h2).2.2 a ha s[m]! (by simp)
      rw[e0] at this
      exact List.lt_trans this hlt
     ·simp only[List.mem_singleton] at ha
      rw[ha,e0]
      exact hlt
    ·rw[List.mem_append,h3 x,List.mem_append]
 unfold qcm
 rw[hs]
 cases hl:s.length with
 | zero=>
  have:s=[]:=List.eq_nil_of_length_eq_zero hl
  subst this
  exact⟨by simp[Lib.compact,Lib.compactUpTo],fun x=>by rw[← hm x];simp[Lib.compact,Lib.compactUpTo]⟩
 | succ m=>
  obtain⟨C,h1,h2,h3⟩:=key m (by omega)
  have he:Lib.compact s=C++[s[m]!]:=by rw[Lib.compact,hl,h1]
  rw[he]
  refine⟨h2,fun x=>?_⟩
  rw[h3 x,← hm x,List.take_of_length_le (by omega)]
theorem qsj {o xs:List Str}(h1:o.Pairwise (· < ·))(h2:∀ x,x∈o↔x∈xs):o=qcm xs:=
 qlq h1 (qbs xs).1 fun x=>(h2 x).trans ((qbs xs).2 x).symm
theorem qrdb (xs:List Str):(qcm xs).length≤xs.length:=Nat.le_trans (qul _) (Nat.le_of_eq (List.length_mergeSort xs))
theorem c_fcz (xs:List Str)(hx:xs.length≤1073741824):outL qfs [.one (qax xs)]=some [.one (qax (qcm xs))]:=by
 have hM:=qag
 have inner:∀ (o:List Str) (x:Str) (i:Nat) (ep:Nat),xs[i]?=some x→o.length < 1073741824→x∉o→o.Pairwise (· < ·)→∀ (k:Nat) (z:Str) (n:Nat),k≤o.length→k < n→(∀ y∈o.drop k,x < y)→∀ (b:Cell→Cell→Int→List Entry→Option Res) kk m,
   ∃ k',k'≤o.length∧(∀ y∈o.drop k',x < y)∧(∀ y∈o.take k',y < x)∧
    qcsb kk m b n (qax xs) (.vs 0 1 0 (o.length+1) ep) i k [Entry.mk 1 ((o.take k++z::o.drop k).map eStr) ep false]=b (qax xs) (.vs 0 1 0 (o.length+1) ep) ((i+1:Nat):Int) [Entry.mk 1 ((o.take k'++x::o.drop k').map eStr) ep false]:=by
  intro o x i ep hxi hol hxo hp k
  have hi:i < xs.length:=(List.getElem?_eq_some_iff.1 hxi).1
  have hput:∀ (k:Nat) (z y:Str),k≤o.length→qbu [Entry.mk 1 ((o.take k++z::o.drop k).map eStr) ep false] (.ptr 0 1 k 0 ep) [Cell.str (bs y)]=some [Entry.mk 1 ((o.take k++y::o.drop k).map eStr) ep false]:=by
   intro k z y hk
   have hr:((o.take k++z::o.drop k).map eStr)[k]?=some (eStr z):=by
    rw[List.getElem?_map,List.getElem?_append_right (by simp;omega)]
    simp[Nat.min_eq_left hk]
   simp only[qbu,entry?,List.getElem?_cons_zero,if_true,hr]
   rw[if_pos ⟨trivial,by simp,trivial⟩]
   simp[splice,eStr,List.set_append,Nat.min_eq_left hk]
  have hix:∀ (k:Nat),k < o.length+1→idxA 1 (.vs 0 1 0 (o.length+1) ep) ((k:Nat):Int)=some (.ptr 0 1 k 0 ep):=fun k hk=>qgu _ _ _ _ _ hk
  induction k with
  | zero=>
   intro z n hk hn hd b kk m
   obtain⟨n,rfl⟩:∃ j,n=j+1:=⟨n - 1,by omega⟩
   refine⟨0,by omega,hd,by simp,?_⟩
   simp only[qcsb]
   rw[decide_eq_false (by omega),cond_false]
   simp only[qav,hxi,eStr,hix 0 (by omega),hput 0 z x (by omega),EV0]
   rw[qae (by omega)]
  | succ k ih=>
   intro z n hk hn hd b kk m
   obtain⟨n,rfl⟩:∃ j,n=j+1:=⟨n - 1,by omega⟩
   obtain⟨y,hy⟩:∃ y,o[k]?=some y:=⟨o[k],List.getElem?_eq_getElem (by omega)⟩
   have hyo:y∈o:=List.mem_of_getElem? hy
   have hwp:IntKind.i64.wrap (((k+1:Nat):Int) - 1)=(k:Int):=qcw (by omega)
   have hdr:deref [Entry.mk 1 ((o.take (k+1)++z::o.drop (k+1)).map eStr) ep false] (.ptr 0 1 k 0 ep)=some (eStr y,0):=by
    have hr:((o.take (k+1)++z::o.drop (k+1)).map eStr)[k]?=some (eStr y):=by
     rw[List.getElem?_map,List.getElem?_append_left (by simp;omega),List.getElem?_take_of_lt (by omega),hy]
     rfl
    simp only[deref,entry?,List.getElem?_cons_zero,if_true,hr]
   have hdrop:o.drop k=y::o.drop (k+1):=by
    rw[List.drop_eq_getElem_cons (by omega)]
    congr 1
    rw[List.getElem?_eq_getElem (by omega)] at hy
    simpa using hy
   simp only[qcsb]
   rw[decide_eq_true (by omega),cond_true]
   have hbl:(!(Op.bytesLess y x||y==x))=lt x y:=by rw[qwmc,qlub,Bool.not_not]
   simp only[hwp,qav,hxi,hix k (by omega),hdr,eStr,hbl,EV0]
   by_cases hlt:x < y
   ·rw[(qqzc x y).2 hlt,cond_true]
    simp only[hix (k+1) (by omega),hdr,eStr,EV0]
    have hst:=hput (k+1) z y hk
    have hrows:o.take (k+1)++y::o.drop (k+1)=o.take k++y::o.drop k:=by
     rw[List.take_add_one,hy,hdrop]
     simp
    rw[hrows] at hst
    simp only[hst,Option.bind_some]
    have:=ih y n (by omega) (by omega) (fun w hw=>by
     rw[hdrop] at hw
     rcases List.mem_cons.1 hw with rfl | hw
     ·exact hlt
     ·exact hd w hw) b kk m
    exact this
   ·have hf:lt x y=false:=Bool.eq_false_iff.2 fun h=>hlt ((qqzc x y).1 h)
    rw[hf,cond_false]
    refine⟨k+1,hk,hd,fun w hw=>?_,?_⟩
    ·have hyx:y < x:=by
      rcases Classical.em (y < x) with h | h
      ·exact h
      ·exact absurd (List.le_antisymm (List.not_lt.1 h) (List.not_lt.1 hlt)) fun e=>hxo (e▸hyo)
     rw[List.take_add_one,hy] at hw
     rcases List.mem_append.1 hw with hw | hw
     ·have h1:o=o.take k++y::o.drop (k+1):=by rw[← hdrop,List.take_append_drop]
      rw[h1] at hp
      exact List.lt_trans ((List.pairwise_append.1 hp).2.2 w hw y List.mem_cons_self) hyx
     ·simp only[Option.toList_some,List.mem_singleton] at hw
      rw[hw]
      exact hyx
    ·have hst:=hput (k+1) z x hk
     simp only[hix (k+1) (by omega),hst,EV0]
     rw[qae (by omega)]
 have loop:∀ (r:List Str) (i n:Nat) (o:List Str) (c:Cell) (H:List Entry),xs.drop i=r→i+r.length=xs.length→r.length < n→Grow 1 c H (o.map eStr)→o.length≤i→o.Pairwise (· < ·)→(∀ x,x∈o↔x∈xs.take i)→∀ k m,xs.length < m→
   ∃ (c':Cell) (H':List Entry) (o':List Str),qtd k m n (qax xs) c i H=some ([.one c'],H')∧Grow 1 c' H' (o'.map eStr)∧o'.Pairwise (· < ·)∧∀ x,x∈o'↔x∈xs:=by
  intro r
  induction r with
  | nil=>
   intro i n o c H hd hi hn hg hol hp hm k m hm'
   obtain⟨n,rfl⟩:∃ j,n=j+1:=⟨n - 1,by omega⟩
   have h1:=drop_nil hd
   rw[List.take_of_length_le h1] at hm
   refine⟨c,H,o,?_,hg,hp,hm⟩
   simp only[qtd,qan,Option.bind_some]
   rw[decide_eq_false (by omega),cond_false]
  | cons x r ih=>
   intro i n o c H hd hi hn hg hol hp hm k m hm'
   obtain⟨n,rfl⟩:∃ j,n=j+1:=⟨n - 1,by omega⟩
   obtain⟨hlt,hxi,hd'⟩:=qaq hd
   simp only[List.length_cons] at hn hi
   have htake:xs.take (i+1)=xs.take i++[x]:=by rw[List.take_add_one,hxi];rfl
   have hrd:qal false H (.one c)=some (.one (qax o)):=by
    have:=hg.read
    simp only[mapO] at this
    cases h:qal false H (.one c) with
    | none=>rw[h] at this;simp at this
    | some y=>rw[h] at this;simpa using this
   have q1:qbc qby [.one c,.one (Cell.str (bs x))] H=some [.one (Cell.bool (o.contains x))]:=by
    rw[qbv (qbb hrd (qbb (qam _ _ _) (qas _)))]
    exact qsrb o x (by omega)
   simp only[qtd,qan,Option.bind_some]
   rw[decide_eq_true (by omega),cond_true]
   simp only[qav,hxi,eStr,q1,qae (show i < maxLen by omega),EV0]
   by_cases hc:x∈o
   ·rw[show o.contains x=true by simpa using hc,cond_true]
    exact ih (i+1) n o c H hd' (by omega) (by omega) hg (by omega) hp (fun w=>by
     rw[htake,List.mem_append,← hm w]
     refine⟨.inl,fun h=>h.elim id fun h=>?_⟩
     simp only[List.mem_singleton] at h
     subst h
     exact hc) k m hm'
   ·rw[show o.contains x=false by simpa using hc,cond_false]
    obtain⟨q,e1,e2⟩:=hg.app (by':=16) [[Cell.str (bs x)]] (by unfold bound;simp;omega) (by unfold bound;simp;omega)
    have hrows:o.map eStr++[[Cell.str (bs x)]]=(o++[x]).map eStr:=by simp[eStr]
    rw[hrows] at e2
    rcases e2 with⟨h,_,_⟩ | ⟨ep,h1,h2⟩
    ·simp at h
    obtain⟨qc,qH⟩:=q
    simp only at h1 h2
    subst h1 h2
    have hlen:((o++[x]).map eStr).length=o.length+1:=by simp
    obtain⟨k',z1,z2,z3,z4⟩:=inner o x i ep hxi (by omega) hc hp o.length x m (Nat.le_refl _) (by omega) (by simp) (qtd k m n) k m
    rw[hlen] at e1
    simp only[e1,Option.bind_some,qxwc]
    rw[show IntKind.i64.wrap (((o.length+1:Nat):Int) - 1)=(o.length:Int) from qcw (by omega)]
    simp only[List.take_length,List.drop_length] at z4
    rw[z4]
    have hl2:(o.take k'++x::o.drop k').length=o.length+1:=by simp;omega
    have hmem:∀ w,w∈o.take k'++x::o.drop k'↔w∈o∨w=x:=by
     intro w
     conv=>rhs;rw[← List.take_append_drop k' o]
     simp only[List.mem_append,List.mem_cons]
     constructor
     ·rintro (h | h | h)
      ·exact .inl (.inl h)
      ·exact .inr h
      ·exact .inl (.inr h)
     ·rintro ((h | h) | h)
      ·exact .inl h
      ·exact .inr (.inr h)
      ·exact .inr (.inl h)
    refine ih (i+1) n (o.take k'++x::o.drop k') (.vs 0 1 0 (o.length+1) ep) [Entry.mk 1 ((o.take k'++x::o.drop k').map eStr) ep false] hd' (by omega) (by omega) (.inr ⟨ep,by rw[List.length_map,hl2],rfl⟩) (by rw[hl2];omega) ?_ ?_ k m hm'
    ·have h0:=hp
     rw[← List.take_append_drop k' o] at h0
     obtain⟨p1,p2,p3⟩:=List.pairwise_append.1 h0
     refine List.pairwise_append.2 ⟨p1,List.pairwise_cons.2 ⟨z2,p2⟩,fun a ha b hb=>?_⟩
     rcases List.mem_cons.1 hb with rfl | hb
     ·exact z3 a ha
     ·exact p3 a ha b hb
    ·intro w
     rw[hmem w,hm w,htake]
     simp
 obtain⟨c',H',o',h1,h2,h3,h4⟩:=loop xs 0 (xs.length+1+1) [] (.lst true 1 []) [] rfl (by omega) (by omega) (Grow.nil 1) (by simp) (by simp) (by simp) (xs.length+1+1) (xs.length+1+1) (by omega)
 rw[qsj h3 h4] at h2
 refine qbz (H:=H') (qrbb (xs.length+1) ?_) h2.read
 simpa[fcz] using h1
theorem qsmc (xs:List Str)(hx:xs.length≤1073741824):Fresh qll true 2 [.one (qax xs)] [.one (trL 1 qbx (qcm xs))]:=by
 obtain⟨c1,E1,i1,e1,r1,w1,g1⟩:=qir (f_fcj xs hx) ([]:List Entry) (qaz [.one (qax xs)] _ _)
 rw[List.nil_append] at e1 r1
 rcases r1 with⟨h1,_,f,rfl⟩ | ⟨id,off,ep,e,fr,is,rfl,rfl,he,hq,hwh,hl,hr,hs⟩
 ·simp only[List.map_eq_nil_iff] at h1
  subst h1
  have hnil:qcm []=[]:=by simp[qcm,qlhb,Lib.compact,Lib.compactUpTo]
  have h2:qyu [.one (.lst f 1 [])] E1=some ([],E1):=rfl
  have h3:qut [.one (.lst f 1 [])] E1=some ([.one (.lst f 1 [])],E1):=rfl
  have h4:qsc [.one (.lst f 1 [])] E1=some ([.one (.lst true 1 [])],E1):=qzn 0 (by simp[fci,slcC,qya])
  refine Fresh.one (c:=.lst true 1 []) (H:=E1) (ids:=[]) (qyn 0 ?_) (.inl ⟨by rw[hnil];rfl,rfl,true,rfl⟩) (by simp)
  simp only[fao,e1,h2,h3,h4,EV0]
 ·obtain⟨rfl,hle⟩:=hwh rfl
  obtain rfl:=hq rfl
  rw[List.drop_zero,hle,List.take_of_length_le (Nat.le_refl _)] at hs
  have hrows:e=xs.map eStr:=by
   have key:∀ {is:List Nat} {e:List (List Cell)} {xs:List Str},Sp (Sp (Rep E1 true true 1)) is e (xs.map qbx)→(∀ r∈e,r.length=1)→e=xs.map eStr:=by
    intro is e xs
    induction xs generalizing is e with
    | nil=>intro h _;obtain⟨_,rfl⟩:=h.nil_inv;rfl
    | cons x xs ih=>
     intro h hl
     obtain⟨i,i',a,as',rfl,rfl,h1,h2⟩:=h.cons_inv
     obtain⟨r',rfl,h3⟩:=h1.leaf_inv
     have:=hl _ List.mem_cons_self
     have:r'=[]:=List.eq_nil_of_length_eq_zero (by simpa using this)
     subst this
     rw[ih h2 fun r hr=>hl r (List.mem_cons_of_mem _ hr)]
     rfl
   exact key hs hr
  subst hrows
  simp only[List.length_map] at hle
  have hv:vecS E1 id 1 0 (xs.map qbx).length ep=some xs:=by
   simp[vecS,entry?,he,qie]
   omega
  have h2:qyu [.one (.vs id 1 0 (xs.map qbx).length ep)] E1=some ([],E1.set id ⟨1,(qlhb xs).map eStr,ep,false⟩):=by
   show qnt _ _=_
   simp only[qnt,hv]
  have hid:id < E1.length:=(List.getElem?_eq_some_iff.1 he).1
  have hv2:vecS (E1.set id ⟨1,(qlhb xs).map eStr,ep,false⟩) id 1 0 (xs.map qbx).length ep=some (qlhb xs):=by
   have:(qlhb xs).length=xs.length:=List.length_mergeSort xs
   simp[vecS,entry?,hid,qie,this]
   omega
  have h3:qut [.one (.vs id 1 0 (xs.map qbx).length ep)] (E1.set id ⟨1,(qlhb xs).map eStr,ep,false⟩)=some ([.one (.vs id 1 0 (qcm xs).length ep)],(E1.set id ⟨1,(qlhb xs).map eStr,ep,false⟩).set id ⟨1,(qcm xs).map eStr,ep,false⟩):=by
   show qfq _ _=_
   simp only[qfq,hv2]
   rfl
  rw[List.set_set] at h3
  have h4:qsc [.one (.vs id 1 0 (qcm xs).length ep)] (E1.set id ⟨1,(qcm xs).map eStr,ep,false⟩)=some ([.one (.vs id 1 0 (qcm xs).length ep)],E1.set id ⟨1,(qcm xs).map eStr,ep,false⟩):=qzn 0 (by simp[fci,slcC])
  refine Fresh.one (c:=.vs id 1 0 (qcm xs).length ep) (H:=E1.set id ⟨1,(qcm xs).map eStr,ep,false⟩) (ids:=[id]) (qyn 0 ?_) (.inr ⟨id,0,ep,(qcm xs).map eStr,false,[],by simp,rfl,by simp[hid],fun _=>rfl,fun _=>⟨rfl,by simp⟩,by simp,?_,?_⟩) (by simp)
  ·simp only[fao,e1,h2,h3,h4,EV0]
  ·intro r hr
   obtain⟨x,_,rfl⟩:=List.mem_map.1 hr
   rfl
  ·rw[List.drop_zero,List.take_of_length_le (by simp)]
   have:∀ (l:List Str) (G:List Entry),Sp (Sp (Rep G true true 1)) [] (l.map eStr) (l.map qbx):=by
    intro l G
    induction l with
    | nil=>exact .nil
    | cons x l ih=>exact .cons (i:=[]) (is:=[]) (Sp.leaf1 _) ih
   exact this _ _
def byOf (names:List Str)(next:List (List Str))(s:Str):List Str:=((names.zip next).filter fun p=>p.2.contains s).map (·.1)
theorem gm_by {H:List Entry}{ids:List Nat}{g:Nat}{names:List Str}{next:List (List Str)}(h:GraphM H ids g names next)(h1:names.length≤1048576)(h3:∀ d∈next,d.length≤1073741824)(s:Str):
  ∃ c T,qkf [.one (.ptr g 2 0 0 0),.one (Cell.str (bs s))] H=some ([.one c],H++T)∧GrowAt H.length 1 c T ((byOf names next s).map eStr):=by
 have hM:=qag
 have hG:∀ T,GraphM (H++T) ids g names next:=fun T=>h.app (fun j hj=>by rw[List.getElem?_append_left (h.lt j hj)]) (by simp)
 obtain⟨_,hlt,hlen,cn,co,fr,he,hn,ho⟩:=h
 have hgl:g < H.length:=(List.getElem?_eq_some_iff.1 he).1
 have d0:∀ T,deref (H++T) (.ptr g 2 0 0 0)=some ([cn,co],0):=fun T=>by simp[deref,entry?,List.getElem?_append_left hgl,he]
 have d1:deref H (.ptr g 2 0 1 0)=some ([cn,co],1):=by simp[deref,entry?,he]
 have fr':∀ (T:List Entry),∀ j∈ids,(H++T)[j]?=H[j]?:=fun T j hj=>List.getElem?_append_left (hlt j hj)
 have loop:∀ (r:List (Str×List Str)) (i n:Nat) (acc:List Str) (c:Cell) (T:List Entry),(names.zip next).drop i=r→r.length < n→acc.length≤i→GrowAt H.length 1 c T (acc.map eStr)→∀ k m,
   ∃ c' T',qaeb k m n (.ptr g 2 0 0 0) (bs s) c co next.length i (H++T)=some ([.one c'],H++T')∧GrowAt H.length 1 c' T' ((acc++(r.filter fun p=>p.2.contains s).map (·.1)).map eStr):=by
  intro r
  induction r with
  | nil=>
   intro i n acc c T hd hn' ha hg k m
   obtain⟨n,rfl⟩:∃ j,n=j+1:=⟨n - 1,by omega⟩
   have:=drop_nil hd
   simp only[List.length_zip] at this
   refine⟨c,T,?_,by simpa using hg⟩
   simp only[qaeb]
   rw[decide_eq_false (by omega),cond_false]
  | cons x r ih=>
   intro i n acc c T hd hn' ha hg k m
   obtain⟨n,rfl⟩:∃ j,n=j+1:=⟨n - 1,by omega⟩
   obtain⟨hlt',hx,hd'⟩:=qaq hd
   simp only[List.length_cons] at hn'
   simp only[List.length_zip] at hlt'
   obtain⟨nm,d⟩:=x
   obtain⟨hxn,hxd⟩:names[i]?=some nm∧next[i]?=some d:=by
    rw[List.getElem?_zip_eq_some] at hx
    exact hx
   obtain⟨a,dc,i1,i2,i3⟩:=(ho.frame (fr' T)).at hxd
   have q1:qbc qch [.one dc,.one (Cell.str (bs s))] (H++T)=some [.one (Cell.bool (d.contains s))]:=by
    rw[qbv (qbb i3.read (qbb (qam _ _ _) (qas _)))]
    exact qelc d s (h3 d (List.mem_of_getElem? hxd))
   simp only[qaeb]
   rw[decide_eq_true (by omega),cond_true]
   simp only[i1,i2,q1,qae (show i < maxLen by omega),EV0]
   cases hc:d.contains s with
   | false=>
    rw[cond_false]
    obtain⟨c',T',z1,z2⟩:=ih (i+1) n acc c T hd' (by omega) (by omega) hg k m
    have hf:((nm,d)::r).filter (fun p=>p.2.contains s)=r.filter fun p=>p.2.contains s:=by simp only[List.filter_cons,hc];rfl
    exact⟨c',T',z1,by rw[hf];exact z2⟩
   | true=>
    rw[cond_true]
    obtain⟨a2,row,off,j1,j2,j3⟩:=(hn.frame (fr' T)).at hxn
    obtain⟨c1,T1,a1,g1⟩:=qnpc (A:=H) (by':=16) hg (eStr nm) (by simp[bound];omega) (by simp[bound];omega)
    have hrow:acc.map eStr++[eStr nm]=(acc++[nm]).map eStr:=by simp
    rw[hrow] at g1
    obtain⟨c',T',z1,z2⟩:=ih (i+1) n (acc++[nm]) c1 T1 hd' (by omega) (by simp;omega) g1 k m
    have hf:((nm,d)::r).filter (fun p=>p.2.contains s)=(nm,d)::r.filter fun p=>p.2.contains s:=by simp only[List.filter_cons,hc];rfl
    refine⟨c',T',?_,by rw[hf,List.map_cons,List.append_cons];exact z2⟩
    simp only[eStr] at a1
    simp only[ptrC,qcu,Nat.zero_add,d0,qhc,j1,j2,j3,a1,Option.bind_some]
    exact z1
 obtain⟨c,T,z1,z2⟩:=loop (names.zip next) 0 (next.length+1+1) [] (.lst true 1 []) [] rfl (by simp;omega) (by simp) (.inl ⟨rfl,rfl,rfl⟩) (next.length+1+1) (next.length+1+1)
 refine⟨c,T,qmmb (next.length+1) ?_,z2⟩
 rw[List.append_nil] at z1
 simp only[fba,ptrC,qcu,Nat.zero_add,d1,qhcb,qhc,ho.len,Option.bind_some]
 exact z1
def qca (l:List MPack)(s:Str):List Str:=(l.filter fun p=>p.Uses.contains s).map (·.Name)
def qcg (l:List MPack)(s:Str):List Str:=qcm (qca l s)
theorem qpfb (l:List MPack)(hl:bdL 1048576 (MPack.Bd 1048576) l)(s:Str)(hs:bdS 1048576 s):bdL 1048576 (bdS 1048576) (qcg l s):=by
 have h1:=hl.1
 refine⟨Nat.le_trans (qrdb _) (Nat.le_trans (by simp only[qca,List.length_map];exact List.length_filter_le _ _) h1),fun x hx=>?_⟩
 have hx:=((qbs _).2 x).1 hx
 obtain⟨p,hp,rfl⟩:=List.mem_map.1 hx
 exact(hl.2 p (List.mem_filter.1 hp).1).1
theorem c_fda (l:List MPack)(hl:bdL 1048576 (MPack.Bd 1048576) l)(s:Str)(hs:bdS 1048576 s):outL qlj [.one (encL 4 MPack.enc l),.one (Cell.str (bs s))]=some [.one (qax (qcg l s))]:=by
 have hM:=qag
 have hxl:=hl.1
 have hbl:(qca l s).length≤1048576:=Nat.le_trans (by simp only[qca,List.length_map];exact List.length_filter_le _ _) hxl
 have loop:∀ (r:List MPack) (i n:Nat) (acc:List Str) (c:Cell) (H:List Entry),l.drop i=r→r.length < n→acc.length≤i→Grow 1 c H (acc.map eStr)→acc++qca r s=qca l s→∀ k m,
   ∃ xs H',qwc k m n (encL 4 MPack.enc l) (bs s) c i H=some (xs,H')∧mapO (qal false H') xs=some [.one (qax (qcg l s))]:=by
  intro r
  induction r with
  | nil=>
   intro i n acc c H hd hn ha hg he k m
   obtain⟨n,rfl⟩:∃ j,n=j+1:=⟨n - 1,by omega⟩
   have:=drop_nil hd
   have he:acc=qca l s:=by simpa[qca] using he
   subst he
   obtain⟨ids,r1,r2,_⟩:=hg.rep (tr:=qbx) (fun _ _=>rfl) (fun x _ H'=>Sp.leaf1 _)
   obtain⟨H1,_,e1⟩:=qom (run:=qfs) (n:=2) (by omega) (Sp.cons (a:=AV.one c) (b:=AT.one (trL 1 qbx (qca l s))) r1 .nil)
   have e2:callL qfs [.one c] H=some ([.one (qax (qcg l s))],H1):=by
    rw[e1]
    simp only[List.map_cons,List.map_nil,AT.av,qck]
    rw[c_fcz _ (by omega)]
    rfl
   refine⟨[.one (qax (qcg l s))],H1,?_,qaz _ _ _⟩
   simp only[qwc,qan,Option.bind_some]
   rw[decide_eq_false (by omega),cond_false]
   simp only[e2,EV0]
  | cons x r ih=>
   intro i n acc c H hd hn ha hg he k m
   obtain⟨n,rfl⟩:∃ j,n=j+1:=⟨n - 1,by omega⟩
   obtain⟨hlt,hx,hd'⟩:=qaq hd
   simp only[List.length_cons] at hn
   have hb:=hl.2 x (List.mem_of_getElem? hx)
   have q1:out qby [.one (encL 1 eStr x.Uses),.one (Cell.str (bs s))]=some [.one (Cell.bool (x.Uses.contains s))]:=qsrb x.Uses s (Nat.le_trans hb.2.1.1 (by omega))
   simp only[qwc,qan,Option.bind_some]
   rw[decide_eq_true (by omega),cond_true]
   simp only[qav,hx,MPack.enc,qgn,Nat.zero_add,q1,qae (show i < maxLen by omega),EV0]
   cases hc:x.Uses.contains s with
   | false=>
    rw[cond_false]
    exact ih (i+1) n acc c H hd' (by omega) (by omega) hg (by rw[← he];simp only[qca,List.filter_cons,hc];rfl) k m
   | true=>
    rw[cond_true]
    obtain⟨q,e1,e2⟩:=hg.app (by':=16) [[Cell.str (bs x.Name)]] (by unfold bound;simp;omega) (by unfold bound;simp;omega)
    simp only[e1,Option.bind_some]
    exact ih (i+1) n (acc++[x.Name]) q.1 q.2 hd' (by omega) (by simp;omega) (by simpa[eStr] using e2) (by rw[← he];simp only[qca,List.filter_cons,hc,if_true,List.map_cons,List.append_assoc,List.singleton_append]) k m
 obtain⟨xs,H',z1,z2⟩:=loop l 0 (l.length+1+1) [] (.lst true 1 []) [] rfl (by omega) (by simp) (Grow.nil 1) (by simp) (l.length+1+1) (l.length+1+1)
 refine qbz (H:=H') (qnab (l.length+1) ?_) z2
 simpa[fda] using z1
theorem f_fap (l:List MPack)(hl:bdL 1048576 (MPack.Bd 1048576) l)(s:Str)(hs:bdS 1048576 s):Fresh qug true 2 [.one (encL 4 MPack.enc l),.one (Cell.str (bs s))] [.one (trL 1 qbx (qcg l s))]:=by
 have h1:=hl.1
 have hbl:(qca l s).length≤1048576:=Nat.le_trans (by simp only[qca,List.length_map];exact List.length_filter_le _ _) h1
 have hby:byOf (l.map (·.Name)) (l.map (·.Uses)) s=qca l s:=by
  unfold byOf qca
  rw[List.zip_map',List.filter_map,List.map_map]
  rfl
 obtain⟨H,g1,e1⟩:=qwuc l hl
 obtain⟨ids,hG⟩:=g1.graph (by simp)
 obtain⟨c,T,e2,g2⟩:=gm_by hG (by simpa using h1) (qiy hl) s
 rw[hby] at g2
 obtain⟨is,r1,r2,_⟩:=g2.list
 refine Fresh.tailO (qsmc (qca l s) (by omega)) (H++T) (qbb (qce.of (n:=2) r1).read (qas _)) fun c' E hc=>qqdb 0 ?_
 simp only[fap,e1,e2,hc,EV0]
open Classical in
noncomputable def qeq (nx:Str→List Str)(a:Str):List Str:=if h:∃ o:List Str,∀ x,x∈o↔Reach nx a x then qcm h.choose else []
theorem qdx {nx:Str→List Str}{a:Str}{o:List Str}(h:∀ x,x∈o↔Reach nx a x):qeq nx a=qcm o:=by
 have hh:∃ o:List Str,∀ x,x∈o↔Reach nx a x:=⟨o,h⟩
 unfold qeq
 rw[dif_pos hh]
 refine qlq (qbs _).1 (qbs _).1 fun x=>?_
 rw[(qbs _).2 x,(qbs _).2 x,h x,hh.choose_spec x]
theorem c_fdg (names:List Str)(next:List (List Str))(s:Str)(U:List Str)(h1:names.length≤1073741824)(h2:names.length=next.length)(h3:∀ d∈next,d.length≤1048576)(hU:U.length≤1048576)(hm:∀ x,∀ y∈qak names next x,y∈U):
  outL qfe [.agg [qax names,encL 1 qcz next],.one (Cell.str (bs s))]=some [.one (qax (qeq (qak names next) s))]∧∃ o:List Str,∀ x,x∈o↔Reach (qak names next) s x:=by
 have hM:=qag
 have hnl:∀ x,(qak names next x).length≤1048576:=fun x=>by
  unfold qak
  split
  ·simp
  ·cases hd:next[(idxS x names 0).toNat]? with
   | none=>simp
   | some d=>exact h3 d (List.mem_of_getElem? hd)
 have hreach:∀ x,Reach (qak names next) s x→x∈U:=fun x h=>by
  cases h with
  | one h=>exact hm _ _ h
  | step _ k=>exact hm _ _ k
 have loop:∀ (d:Nat) (o left:List Str) (c9 c10:Cell) (H:List Entry) (i1 i2:List Nat) (n:Nat),Seen (qak names next) s o left→RM 0 H i1 i2 c9 c10 o left→left.length+(U.length - o.length)*1048576≤d→left.length≤(o.length+1)*1048576→d < n→∀ k m,
   ∃ xs H',qtc k m n c9 c10 (qax names) (encL 1 qcz next) H=some (xs,H')∧mapO (qal false H') xs=some [.one (qax (qeq (qak names next) s))]∧∃ o:List Str,∀ x,x∈o↔Reach (qak names next) s x:=by
  intro d
  induction d with
  | zero=>
   intro o left c9 c10 H i1 i2 n hs hr hd hll hn k m
   obtain⟨n,rfl⟩:∃ j,n=j+1:=⟨n - 1,by omega⟩
   have:left=[]:=List.eq_nil_of_length_eq_zero (by omega)
   subst this
   have ho:o.length≤U.length:=qcy hs.nd fun x hx=>hreach x (hs.ro x hx)
   obtain⟨r1,r2,_⟩:=hr
   obtain⟨H1,_,e1⟩:=qom (run:=qfs) (n:=2) (by omega) (Sp.cons (a:=AV.one c9) (b:=AT.one (trL 1 qbx o)) r1 .nil)
   have e2:callL qfs [.one c9] H=some ([.one (qax (qeq (qak names next) s))],H1):=by
    rw[e1]
    simp only[List.map_cons,List.map_nil,AT.av,qck]
    rw[c_fcz _ (by omega),qdx hs.done]
    rfl
   refine⟨[.one (qax (qeq (qak names next) s))],H1,?_,qaz _ _ _,o,hs.done⟩
   simp only[qtc,(qce.of (n:=2) r2).len,List.length_nil,Option.bind_some]
   rw[decide_eq_false (by omega),cond_false]
   simp only[e2,EV0]
  | succ d ih=>
   intro o left c9 c10 H i1 i2 n hs hr hd hll hn k m
   obtain⟨n,rfl⟩:∃ j,n=j+1:=⟨n - 1,by omega⟩
   have ho:o.length≤U.length:=qcy hs.nd fun x hx=>hreach x (hs.ro x hx)
   cases left with
   | nil=>
    obtain⟨r1,r2,_⟩:=hr
    obtain⟨H1,_,e1⟩:=qom (run:=qfs) (n:=2) (by omega) (Sp.cons (a:=AV.one c9) (b:=AT.one (trL 1 qbx o)) r1 .nil)
    have e2:callL qfs [.one c9] H=some ([.one (qax (qeq (qak names next) s))],H1):=by
     rw[e1]
     simp only[List.map_cons,List.map_nil,AT.av,qck]
     rw[c_fcz _ (by omega),qdx hs.done]
     rfl
    refine⟨[.one (qax (qeq (qak names next) s))],H1,?_,qaz _ _ _,o,hs.done⟩
    simp only[qtc,(qce.of (n:=2) r2).len,List.length_nil,Option.bind_some]
    rw[decide_eq_false (by omega),cond_false]
    simp only[e2,EV0]
   | cons x left=>
    simp only[List.length_cons] at hd hll
    obtain⟨a,row',off,c',p,j2,t1,t2,t3,t4,t5,t6,hr',t8,t9⟩:=hr.pop (Nat.zero_le _) (by unfold bound;omega)
    have q1:qbc qby [.one c9,.one (Cell.str (bs x))] p.2=some [.one (Cell.bool (o.contains x))]:=by
     rw[qbv (qbb (qce.of (n:=2) hr'.1).read (qbb (qam _ _ _) (qas _)))]
     exact qsrb o x (by omega)
    simp only[qtc,t9,Option.bind_some]
    rw[decide_eq_true (by omega),cond_true]
    simp only[t1,t2,t3,t4,t5,t6,q1,EV0]
    cases hc:o.contains x with
    | true=>
     have hx:x∈o:=by simpa using hc
     simp only[Bool.not_true,cond_false]
     exact ih o left c9 p.1 p.2 i1 j2 n (hs.old hx) hr' (by omega) (by omega) (by omega) k m
    | false=>
     have hx:x∉o:=by simpa using hc
     have hs':=hs.new hx
     have ho':(o++[x]).length≤U.length:=qcy hs'.nd fun y hy=>hreach y (hs'.ro y hy)
     rw[List.length_append,List.length_singleton] at ho'
     have hnx:=hnl x
     obtain⟨q,k1,a1,hr2,m1,_,_⟩:=hr'.app1 (Nat.zero_le _) [x] (by unfold bound;simp;omega)
     obtain⟨r,k2,a2,hr3,m2,_,_⟩:=hr2.swap.app1 (Nat.zero_le _) (qak names next x) (by unfold bound;omega)
     simp only[List.map_cons,List.map_nil,eStr] at a1
     have e3:qah q.2 1 (qax (qak names next x))=some ((qak names next x).map eStr):=qpq _ _
     simp only[Bool.not_false,cond_true,a1,qeod names next x h1 h2,EV0]
     simp only[e3,a2,Option.bind_some]
     refine ih (o++[x]) (left++qak names next x) q.1 r.1 r.2 k1 k2 n hs' hr3.swap ?_ ?_ (by omega) k m
     ·rw[List.length_append,List.length_append,List.length_singleton]
      have:(U.length - o.length)=(U.length - (o.length+1))+1:=by omega
      rw[this] at hd
      omega
     ·rw[List.length_append,List.length_append,List.length_singleton]
      omega
 have hfirst:=hnl s
 obtain⟨r,k2,a2,hr3,m2,_,_⟩:=(RM.nil 0 []).swap.app1 (Nat.zero_le _) (qak names next s) (by unfold bound;simp;omega)
 rw[List.nil_append] at hr3
 have e3:qah [] 1 (qax (qak names next s))=some ((qak names next s).map eStr):=qpq _ _
 obtain⟨xs,H',z1,z2,z3⟩:=loop ((qak names next s).length+U.length*1048576) [] (qak names next s) (.lst true 1 []) r.1 r.2 [] k2 ((qak names next s).length+U.length*1048576+1+1) (Seen.start _ _) hr3.swap (by simp) (by simp;omega) (by omega) ((qak names next s).length+U.length*1048576+1+1) ((qak names next s).length+U.length*1048576+1+1)
 refine⟨qbz (H:=H') (qqcb ((qak names next s).length+U.length*1048576+1) ?_) z2,z3⟩
 simp only[fdg,qeod names next s h1 h2,EV0]
 simp only[e3,a2,Option.bind_some]
 exact z1
theorem qgq {H0:List Entry}{ids:List Nat}{g:Nat}{names:List Str}{next:List (List Str)}(hG:GraphM H0 ids g names next)(nx:Str→List Str)(U:List Str)(hU:U.length≤1048576)(hm:∀ x,∀ y∈nx x,y∈U)(hl:∀ x,(nx x).length≤1048576)
  (hnext:∀ (H:List Entry) (x:Str),GraphM H ids g names next→∃ d H' ds,qev [.one (.ptr g 2 0 0 0),.one (Cell.str (bs x))] H=some ([.one d],H')∧qce H' ds d (nx x)∧H.length≤H'.length∧(∀ j,j < H.length→H'[j]?=H[j]?)∧(∀ j∈ds,j < H'.length∧(j < H0.length∨H.length≤j))) (s:Str):
  ∃ c H' is,qgs [.one (Cell.str (bs s)),.one (.fn qdb [.ptr g 2 0 0 0] [])] H0=some ([.one c],H')∧Rep H' true true 2 is c (trL 1 qbx (qeq nx s))∧is.Nodup∧H0.length≤H'.length∧∀ j,j < H0.length→H'[j]?=H0[j]?:=by
 have hM:=qag
 have hreach:∀ x,Reach nx s x→x∈U:=fun x h=>by
  cases h with
  | one h=>exact hm _ _ h
  | step _ k=>exact hm _ _ k
 have L2:∀ (ys:List Str),ys.length≤1048576→∀ (r:List Str) (i n:Nat) (H:List Entry) (i1 i2 ds:List Nat) (cr cm cy cf:Cell) (row more:List Str) (a b:Int),ys.drop i=r→r.length < n→RM H0.length H i1 i2 cr cm row more→H0.length≤H.length→
   qce H ds cy ys→(∀ j∈ds,j < H.length∧j∉i1∧j∉i2)→(row++qdp row r).length≤1048576→more.length≤row.length→∀ (b0:Cell→Cell→Cell→List Entry→Option Res) (b1:Cell→Cell→Cell→Cell→Int→Int→List Entry→Option Res) k m,
   ∃ cr' cm' H' j1 j2,qbm k m b0 b1 n (.ptr g 2 0 0 0) cr cm cf a b cy ys.length i H=b1 (.ptr g 2 0 0 0) cr' cm' cf a (IntKind.i64.wrap (b+1)) H'∧RM H0.length H' j1 j2 cr' cm' (row++qdp row r) (more++qdp row r)∧H.length≤H'.length∧
    (∀ j,j < H.length→j∉i1→j∉i2→H'[j]?=H[j]?)∧(∀ j∈j1,j∈i1∨H.length≤j)∧∀ j∈j2,j∈i2∨H.length≤j:=by
  intro ys hys r
  induction r with
  | nil=>
   intro i n H i1 i2 ds cr cm cy cf row more a b hd hn hr hN hy hds hb hmr b0 b1 k m
   obtain⟨n,rfl⟩:∃ j,n=j+1:=⟨n - 1,by omega⟩
   have:=drop_nil hd
   refine⟨cr,cm,H,i1,i2,?_,by simpa[qdp] using hr,Nat.le_refl _,fun _ _ _ _=>rfl,fun j h=>.inl h,fun j h=>.inl h⟩
   simp only[qbm]
   rw[decide_eq_false (by omega),cond_false]
  | cons y r ih=>
   intro i n H i1 i2 ds cr cm cy cf row more a b hd hn hr hN hy hds hb hmr b0 b1 k m
   obtain⟨n,rfl⟩:∃ j,n=j+1:=⟨n - 1,by omega⟩
   obtain⟨hlt,hx,hd'⟩:=qaq hd
   simp only[List.length_cons] at hn
   obtain⟨a1,rw1,off,t1,t2,t3⟩:=hy.at hx
   have hrl:row.length≤1048576:=by simp at hb;omega
   have q1:qbc qch [.one cr,.one (Cell.str (bs y))] H=some [.one (Cell.bool (row.contains y))]:=by
    rw[qbv (qbb (qce.of (n:=2) hr.1).read (qbb (qam _ _ _) (qas _)))]
    exact qelc row y (by omega)
   simp only[qbm]
   rw[decide_eq_true (by omega),cond_true]
   simp only[t1,t2,t3,q1,qae (show i < maxLen by omega),EV0]
   unfold qdp at hb ⊢
   cases hc:row.contains y with
   | true=>
    rw[hc,cond_true] at hb
    simp only[Bool.not_true,cond_false,cond_true]
    exact ih (i+1) n H i1 i2 ds cr cm cy cf row more a b hd' (by omega) hr hN hy hds hb hmr b0 b1 k m
   | false=>
    rw[hc,cond_false,List.append_cons] at hb
    obtain⟨p,q,j1,j2,e1,e2,hr',m1,k1,g1,g2⟩:=hr.push hN y (by omega) (by omega)
    simp only[Bool.not_false,cond_true,cond_false,e1,e2,Option.bind_some]
    obtain⟨cr',cm',H',l1,l2,z1,z2,z3,z4,z5,z6⟩:=ih (i+1) n q.2 j1 j2 ds p.1 q.1 cy cf (row++[y]) (more++[y]) a b hd' (by omega) hr' (by omega) (hy.frame fun j hj=>by
     obtain⟨d1,d2,d3⟩:=hds j hj
     exact k1 j d1 d2 d3) (fun j hj=>by
     obtain⟨d1,d2,d3⟩:=hds j hj
     refine⟨by omega,fun h=>?_,fun h=>?_⟩
     ·rcases g1 j h with h | h
      ·exact d2 h
      ·omega
     ·rcases g2 j h with h | h
      ·exact d3 h
      ·omega) hb (by simp;omega) b0 b1 k m
    refine⟨cr',cm',H',l1,l2,z1,by rw[List.append_cons,List.append_cons more];exact z2,by omega,fun j hj n1 n2=>?_,fun j hj=>?_,fun j hj=>?_⟩
    ·rw[z4 j (by omega) (fun h=>?_) fun h=>?_,k1 j hj n1 n2]
     ·rcases g1 j h with h | h
      ·exact n1 h
      ·omega
     ·rcases g2 j h with h | h
      ·exact n2 h
      ·omega
    ·rcases z5 j hj with h | h
     ·exact g1 j h
     ·exact .inr (by omega)
    ·rcases z6 j hj with h | h
     ·exact g2 j h
     ·exact .inr (by omega)
 have L1:∀ (fr:List Str),fr.length≤1048577→∀ (r:List Str) (i n:Nat) (H:List Entry) (i1 i2 fs:List Nat) (cr cm cf:Cell) (row more:List Str),fr.drop i=r→r.length < n→RM H0.length H i1 i2 cr cm row more→H0.length≤H.length→(∀ j,j < H0.length→H[j]?=H0[j]?)→
   qce H fs cf fr→(∀ j∈fs,j < H.length∧j∉i1∧j∉i2)→Found nx s row (r++more)→more.length≤row.length→∀ (b0:Cell→Cell→Cell→List Entry→Option Res) k m,1048576 < m→
   ∃ cr' cm' H' j1 j2 row' more',qbp k m b0 n (.ptr g 2 0 0 0) cr cm cf fr.length i H=b0 (.ptr g 2 0 0 0) cr' cm' H'∧RM H0.length H' j1 j2 cr' cm' row' more'∧H0.length≤H'.length∧(∀ j,j < H0.length→H'[j]?=H0[j]?)∧Found nx s row' more'∧more'.length≤row'.length∧row.length+more'.length≤row'.length+more.length:=by
  intro fr hfr r
  induction r with
  | nil=>
   intro i n H i1 i2 fs cr cm cf row more hd hn hr hN h0 hf hfs hF hmr b0 k m hm'
   obtain⟨n,rfl⟩:∃ j,n=j+1:=⟨n - 1,by omega⟩
   have:=drop_nil hd
   refine⟨cr,cm,H,i1,i2,row,more,?_,hr,hN,h0,hF,hmr,by omega⟩
   simp only[qbp]
   rw[decide_eq_false (by omega),cond_false]
  | cons x r ih=>
   intro i n H i1 i2 fs cr cm cf row more hd hn hr hN h0 hf hfs hF hmr b0 k m hm'
   obtain⟨n,rfl⟩:∃ j,n=j+1:=⟨n - 1,by omega⟩
   obtain⟨hlt,hx,hd'⟩:=qaq hd
   simp only[List.length_cons] at hn
   obtain⟨a1,rw1,off,t1,t2,t3⟩:=hf.at hx
   have hGH:GraphM H ids g names next:=hG.app (fun j hj=>h0 j (hG.lt j hj)) hN
   obtain⟨d,H1,ds,u1,u2,u3,u4,u5⟩:=hnext H x hGH
   have hr1:=hr.frame u4
   have hF':=hF.next
   have hrow':(row++qdp row (nx x)).length≤U.length:=qcy hF'.nd fun y hy=>hreach y (hF'.ro y hy)
   have hb:∀ j,(j∈i1∨j∈i2)→H0.length≤j∧j < H.length:=fun j hj=>by
    obtain⟨p1,p2,_,_,_,_,_,p3,p4⟩:=hr
    rcases hj with hj | hj
    ·exact⟨p3 j hj,p1.lt j hj⟩
    ·exact⟨p4 j hj,p2.lt j hj⟩
   obtain⟨cr',cm',H',j1,j2,z1,z2,z3,z4,z5,z6⟩:=L2 (nx x) (hl x) (nx x) 0 m H1 i1 i2 ds cr cm d cf row more fr.length i rfl (by have:=hl x;omega) hr1 (by omega) u2 (fun j hj=>by
    obtain⟨d1,d2⟩:=u5 j hj
    refine⟨d1,fun h=>?_,fun h=>?_⟩
    ·have:=hb j (.inl h);omega
    ·have:=hb j (.inr h);omega) (by omega) hmr b0 (qbp k m b0 n) k m
   have hfs':∀ j∈fs,j < H'.length∧j∉j1∧j∉j2:=fun j hj=>by
    obtain⟨d1,d2,d3⟩:=hfs j hj
    refine⟨by omega,fun h=>?_,fun h=>?_⟩
    ·rcases z5 j h with h | h
     ·exact d2 h
     ·omega
    ·rcases z6 j h with h | h
     ·exact d3 h
     ·omega
   obtain⟨cr2,cm2,H2,l1,l2,row2,more2,y1,y2,y3,y4,y5,y6,y7⟩:=ih (i+1) n H' j1 j2 fs cr' cm' cf (row++qdp row (nx x)) (more++qdp row (nx x)) hd' (by omega) z2 (by omega) (fun j hj=>by
    rw[z4 j (by omega) (fun h=>by have:=hb j (.inl h);omega) fun h=>by have:=hb j (.inr h);omega,u4 j (by omega),h0 j hj]) (hf.frame fun j hj=>by
    obtain⟨d1,d2,d3⟩:=hfs j hj
    rw[z4 j (by omega) d2 d3,u4 j d1]) hfs' (by rw[← List.append_assoc];exact hF') (by simp;omega) b0 k m hm'
   refine⟨cr2,cm2,H2,l1,l2,row2,more2,?_,y2,y3,y4,y5,y6,by simp at y7;omega⟩
   simp only[qbp]
   rw[decide_eq_true (by omega),cond_true]
   simp only[t1,t2,t3,u1,u2.len,EV0]
   rw[show(0:Int)=((0:Nat):Int) from rfl,z1,qae (by omega)]
   exact y1
 have L0:∀ (d:Nat) (H:List Entry) (i1 fs:List Nat) (cr cf:Cell) (row fr:List Str) (n:Nat),RM H0.length H i1 [] cr (.lst true 1 []) row []→H0.length≤H.length→(∀ j,j < H0.length→H[j]?=H0[j]?)→qce H fs cf fr→(∀ j∈fs,j < H.length∧j∉i1)→Found nx s row fr→fr.length≤row.length+1→
   2*(U.length - row.length)+(if fr=[] then 0 else 1)≤d→d < n→∀ k m,1048577 < m→∃ c H' is,qbd k m n (.ptr g 2 0 0 0) cr cf H=some ([.one c],H')∧Rep H' true true 2 is c (trL 1 qbx (qeq nx s))∧is.Nodup∧H0.length≤H'.length∧∀ j,j < H0.length→H'[j]?=H0[j]?:=by
  intro d
  induction d with
  | zero=>
   intro H i1 fs cr cf row fr n hr hN h0 hf hfs hF hfl hd hn k m hm'
   obtain⟨n,rfl⟩:∃ j,n=j+1:=⟨n - 1,by omega⟩
   have hfr:fr=[]:=by
    rcases Classical.em (fr=[]) with h | h
    ·exact h
    ·rw[if_neg h] at hd;omega
   subst hfr
   have hrl:row.length≤U.length:=qcy hF.nd fun y hy=>hreach y (hF.ro y hy)
   obtain⟨c',E,is,e1,r1,w1,_⟩:=qir (qsmc row (by omega)) H (qbb (qce.of (n:=2) hr.1).read (qas _))
   refine⟨c',H++E,is,?_,by rw[qdx hF.done];exact r1,w1.nd,by simp;omega,fun j hj=>by rw[List.getElem?_append_left (by omega)];exact h0 j hj⟩
   simp only[qbd,hf.len,List.length_nil,Option.bind_some]
   rw[decide_eq_false (by omega),cond_false]
   simp only[e1,EV0]
  | succ d ih=>
   intro H i1 fs cr cf row fr n hr hN h0 hf hfs hF hfl hd hn k m hm'
   obtain⟨n,rfl⟩:∃ j,n=j+1:=⟨n - 1,by omega⟩
   have hrl:row.length≤U.length:=qcy hF.nd fun y hy=>hreach y (hF.ro y hy)
   cases fr with
   | nil=>
    obtain⟨c',E,is,e1,r1,w1,_⟩:=qir (qsmc row (by omega)) H (qbb (qce.of (n:=2) hr.1).read (qas _))
    refine⟨c',H++E,is,?_,by rw[qdx hF.done];exact r1,w1.nd,by simp;omega,fun j hj=>by rw[List.getElem?_append_left (by omega)];exact h0 j hj⟩
    simp only[qbd,hf.len,List.length_nil,Option.bind_some]
    rw[decide_eq_false (by omega),cond_false]
    simp only[e1,EV0]
   | cons x fr=>
    rw[if_neg (by simp)] at hd
    obtain⟨cr',cm',H',j1,j2,row',more',z1,z2,z3,z4,z5,z6,z7⟩:=L1 (x::fr) (by omega) (x::fr) 0 m H i1 [] fs cr (.lst true 1 []) cf row [] rfl (by omega) hr hN h0 hf (fun j hj=>⟨(hfs j hj).1,(hfs j hj).2,by simp⟩) (by simpa using hF) (by simp) (qbd k m n) k m (by omega)
    have hrl':row'.length≤U.length:=qcy z5.nd fun y hy=>hreach y (z5.ro y hy)
    simp only[List.length_nil] at z7
    obtain⟨c,H2,is,y1,y2,y3⟩:=ih H' j1 j2 cr' cm' row' more' n z2.anew z3 z4 (qce.of (n:=2) z2.2.1) (fun j hj=>⟨z2.2.1.lt j hj,fun h=>z2.2.2.2.2.2.2.1 j h hj⟩) z5 (by omega) (by
     by_cases hm0:more'=[]
     ·rw[if_pos hm0];omega
     ·rw[if_neg hm0]
      have:=List.length_pos_iff.2 hm0
      omega) (by omega) k m hm'
    refine⟨c,H2,is,?_,y2,y3⟩
    simp only[qbd,hf.len,Option.bind_some]
    rw[decide_eq_true (by simp),cond_true,show(0:Int)=((0:Nat):Int) from rfl,z1]
    exact y1
 obtain⟨c,H',is,z1,z2,z3⟩:=L0 (2*U.length+1) H0 [] [] (.lst true 1 []) (.lst true 1 ([s].map eStr)) [] [s] (2*U.length+1048577+1) (RM.nil _ _).anew (Nat.le_refl _) (fun _ _=>rfl) (.inl ⟨true,rfl⟩) (by simp) (Found.start nx s) (by simp) (by simp) (by omega) (2*U.length+1048577+1) (2*U.length+1048577+1) (by omega)
 exact⟨c,H',is,qip (2*U.length+1048577) (by simpa[qey,eStr] using z1),z2,z3⟩
theorem qmr {H0:List Entry}{ids:List Nat}{g:Nat}{names:List Str}{next:List (List Str)}(hG:GraphM H0 ids g names next)(nx:Str→List Str)(U:List Str)(hU:U.length≤1048576)(hm:∀ x,∀ y∈nx x,y∈U)(hl:∀ x,(nx x).length≤1048576)
  (hnext:∀ (H:List Entry) (x:Str),GraphM H ids g names next→∃ d H' ds,qkf [.one (.ptr g 2 0 0 0),.one (Cell.str (bs x))] H=some ([.one d],H')∧qce H' ds d (nx x)∧H.length≤H'.length∧(∀ j,j < H.length→H'[j]?=H[j]?)∧(∀ j∈ds,j < H'.length∧(j < H0.length∨H.length≤j))) (s:Str):
  ∃ c H' is,qgs [.one (Cell.str (bs s)),.one (.fn qej [.ptr g 2 0 0 0] [])] H0=some ([.one c],H')∧Rep H' true true 2 is c (trL 1 qbx (qeq nx s))∧is.Nodup∧H0.length≤H'.length∧∀ j,j < H0.length→H'[j]?=H0[j]?:=by
 have hM:=qag
 have hreach:∀ x,Reach nx s x→x∈U:=fun x h=>by
  cases h with
  | one h=>exact hm _ _ h
  | step _ k=>exact hm _ _ k
 have L2:∀ (ys:List Str),ys.length≤1048576→∀ (r:List Str) (i n:Nat) (H:List Entry) (i1 i2 ds:List Nat) (cr cm cy cf:Cell) (row more:List Str) (a b:Int),ys.drop i=r→r.length < n→RM H0.length H i1 i2 cr cm row more→H0.length≤H.length→
   qce H ds cy ys→(∀ j∈ds,j < H.length∧j∉i1∧j∉i2)→(row++qdp row r).length≤1048576→more.length≤row.length→∀ (b0:Cell→Cell→Cell→List Entry→Option Res) (b1:Cell→Cell→Cell→Cell→Int→Int→List Entry→Option Res) k m,
   ∃ cr' cm' H' j1 j2,qbn k m b0 b1 n (.ptr g 2 0 0 0) cr cm cf a b cy ys.length i H=b1 (.ptr g 2 0 0 0) cr' cm' cf a (IntKind.i64.wrap (b+1)) H'∧RM H0.length H' j1 j2 cr' cm' (row++qdp row r) (more++qdp row r)∧H.length≤H'.length∧
    (∀ j,j < H.length→j∉i1→j∉i2→H'[j]?=H[j]?)∧(∀ j∈j1,j∈i1∨H.length≤j)∧∀ j∈j2,j∈i2∨H.length≤j:=by
  intro ys hys r
  induction r with
  | nil=>
   intro i n H i1 i2 ds cr cm cy cf row more a b hd hn hr hN hy hds hb hmr b0 b1 k m
   obtain⟨n,rfl⟩:∃ j,n=j+1:=⟨n - 1,by omega⟩
   have:=drop_nil hd
   refine⟨cr,cm,H,i1,i2,?_,by simpa[qdp] using hr,Nat.le_refl _,fun _ _ _ _=>rfl,fun j h=>.inl h,fun j h=>.inl h⟩
   simp only[qbn]
   rw[decide_eq_false (by omega),cond_false]
  | cons y r ih=>
   intro i n H i1 i2 ds cr cm cy cf row more a b hd hn hr hN hy hds hb hmr b0 b1 k m
   obtain⟨n,rfl⟩:∃ j,n=j+1:=⟨n - 1,by omega⟩
   obtain⟨hlt,hx,hd'⟩:=qaq hd
   simp only[List.length_cons] at hn
   obtain⟨a1,rw1,off,t1,t2,t3⟩:=hy.at hx
   have hrl:row.length≤1048576:=by simp at hb;omega
   have q1:qbc qch [.one cr,.one (Cell.str (bs y))] H=some [.one (Cell.bool (row.contains y))]:=by
    rw[qbv (qbb (qce.of (n:=2) hr.1).read (qbb (qam _ _ _) (qas _)))]
    exact qelc row y (by omega)
   simp only[qbn]
   rw[decide_eq_true (by omega),cond_true]
   simp only[t1,t2,t3,q1,qae (show i < maxLen by omega),EV0]
   unfold qdp at hb ⊢
   cases hc:row.contains y with
   | true=>
    rw[hc,cond_true] at hb
    simp only[Bool.not_true,cond_false,cond_true]
    exact ih (i+1) n H i1 i2 ds cr cm cy cf row more a b hd' (by omega) hr hN hy hds hb hmr b0 b1 k m
   | false=>
    rw[hc,cond_false,List.append_cons] at hb
    obtain⟨p,q,j1,j2,e1,e2,hr',m1,k1,g1,g2⟩:=hr.push hN y (by omega) (by omega)
    simp only[Bool.not_false,cond_true,cond_false,e1,e2,Option.bind_some]
    obtain⟨cr',cm',H',l1,l2,z1,z2,z3,z4,z5,z6⟩:=ih (i+1) n q.2 j1 j2 ds p.1 q.1 cy cf (row++[y]) (more++[y]) a b hd' (by omega) hr' (by omega) (hy.frame fun j hj=>by
     obtain⟨d1,d2,d3⟩:=hds j hj
     exact k1 j d1 d2 d3) (fun j hj=>by
     obtain⟨d1,d2,d3⟩:=hds j hj
     refine⟨by omega,fun h=>?_,fun h=>?_⟩
     ·rcases g1 j h with h | h
      ·exact d2 h
      ·omega
     ·rcases g2 j h with h | h
      ·exact d3 h
      ·omega) hb (by simp;omega) b0 b1 k m
    refine⟨cr',cm',H',l1,l2,z1,by rw[List.append_cons,List.append_cons more];exact z2,by omega,fun j hj n1 n2=>?_,fun j hj=>?_,fun j hj=>?_⟩
    ·rw[z4 j (by omega) (fun h=>?_) fun h=>?_,k1 j hj n1 n2]
     ·rcases g1 j h with h | h
      ·exact n1 h
      ·omega
     ·rcases g2 j h with h | h
      ·exact n2 h
      ·omega
    ·rcases z5 j hj with h | h
     ·exact g1 j h
     ·exact .inr (by omega)
    ·rcases z6 j hj with h | h
     ·exact g2 j h
     ·exact .inr (by omega)
 have L1:∀ (fr:List Str),fr.length≤1048577→∀ (r:List Str) (i n:Nat) (H:List Entry) (i1 i2 fs:List Nat) (cr cm cf:Cell) (row more:List Str),fr.drop i=r→r.length < n→RM H0.length H i1 i2 cr cm row more→H0.length≤H.length→(∀ j,j < H0.length→H[j]?=H0[j]?)→
   qce H fs cf fr→(∀ j∈fs,j < H.length∧j∉i1∧j∉i2)→Found nx s row (r++more)→more.length≤row.length→∀ (b0:Cell→Cell→Cell→List Entry→Option Res) k m,1048576 < m→
   ∃ cr' cm' H' j1 j2 row' more',qbo k m b0 n (.ptr g 2 0 0 0) cr cm cf fr.length i H=b0 (.ptr g 2 0 0 0) cr' cm' H'∧RM H0.length H' j1 j2 cr' cm' row' more'∧H0.length≤H'.length∧(∀ j,j < H0.length→H'[j]?=H0[j]?)∧Found nx s row' more'∧more'.length≤row'.length∧row.length+more'.length≤row'.length+more.length:=by
  intro fr hfr r
  induction r with
  | nil=>
   intro i n H i1 i2 fs cr cm cf row more hd hn hr hN h0 hf hfs hF hmr b0 k m hm'
   obtain⟨n,rfl⟩:∃ j,n=j+1:=⟨n - 1,by omega⟩
   have:=drop_nil hd
   refine⟨cr,cm,H,i1,i2,row,more,?_,hr,hN,h0,hF,hmr,by omega⟩
   simp only[qbo]
   rw[decide_eq_false (by omega),cond_false]
  | cons x r ih=>
   intro i n H i1 i2 fs cr cm cf row more hd hn hr hN h0 hf hfs hF hmr b0 k m hm'
   obtain⟨n,rfl⟩:∃ j,n=j+1:=⟨n - 1,by omega⟩
   obtain⟨hlt,hx,hd'⟩:=qaq hd
   simp only[List.length_cons] at hn
   obtain⟨a1,rw1,off,t1,t2,t3⟩:=hf.at hx
   have hGH:GraphM H ids g names next:=hG.app (fun j hj=>h0 j (hG.lt j hj)) hN
   obtain⟨d,H1,ds,u1,u2,u3,u4,u5⟩:=hnext H x hGH
   have hr1:=hr.frame u4
   have hF':=hF.next
   have hrow':(row++qdp row (nx x)).length≤U.length:=qcy hF'.nd fun y hy=>hreach y (hF'.ro y hy)
   have hb:∀ j,(j∈i1∨j∈i2)→H0.length≤j∧j < H.length:=fun j hj=>by
    obtain⟨p1,p2,_,_,_,_,_,p3,p4⟩:=hr
    rcases hj with hj | hj
    ·exact⟨p3 j hj,p1.lt j hj⟩
    ·exact⟨p4 j hj,p2.lt j hj⟩
   obtain⟨cr',cm',H',j1,j2,z1,z2,z3,z4,z5,z6⟩:=L2 (nx x) (hl x) (nx x) 0 m H1 i1 i2 ds cr cm d cf row more fr.length i rfl (by have:=hl x;omega) hr1 (by omega) u2 (fun j hj=>by
    obtain⟨d1,d2⟩:=u5 j hj
    refine⟨d1,fun h=>?_,fun h=>?_⟩
    ·have:=hb j (.inl h);omega
    ·have:=hb j (.inr h);omega) (by omega) hmr b0 (qbo k m b0 n) k m
   have hfs':∀ j∈fs,j < H'.length∧j∉j1∧j∉j2:=fun j hj=>by
    obtain⟨d1,d2,d3⟩:=hfs j hj
    refine⟨by omega,fun h=>?_,fun h=>?_⟩
    ·rcases z5 j h with h | h
     ·exact d2 h
     ·omega
    ·rcases z6 j h with h | h
     ·exact d3 h
     ·omega
   obtain⟨cr2,cm2,H2,l1,l2,row2,more2,y1,y2,y3,y4,y5,y6,y7⟩:=ih (i+1) n H' j1 j2 fs cr' cm' cf (row++qdp row (nx x)) (more++qdp row (nx x)) hd' (by omega) z2 (by omega) (fun j hj=>by
    rw[z4 j (by omega) (fun h=>by have:=hb j (.inl h);omega) fun h=>by have:=hb j (.inr h);omega,u4 j (by omega),h0 j hj]) (hf.frame fun j hj=>by
    obtain⟨d1,d2,d3⟩:=hfs j hj
    rw[z4 j (by omega) d2 d3,u4 j d1]) hfs' (by rw[← List.append_assoc];exact hF') (by simp;omega) b0 k m hm'
   refine⟨cr2,cm2,H2,l1,l2,row2,more2,?_,y2,y3,y4,y5,y6,by simp at y7;omega⟩
   simp only[qbo]
   rw[decide_eq_true (by omega),cond_true]
   simp only[t1,t2,t3,u1,u2.len,EV0]
   rw[show(0:Int)=((0:Nat):Int) from rfl,z1,qae (by omega)]
   exact y1
 have L0:∀ (d:Nat) (H:List Entry) (i1 fs:List Nat) (cr cf:Cell) (row fr:List Str) (n:Nat),RM H0.length H i1 [] cr (.lst true 1 []) row []→H0.length≤H.length→(∀ j,j < H0.length→H[j]?=H0[j]?)→qce H fs cf fr→(∀ j∈fs,j < H.length∧j∉i1)→Found nx s row fr→fr.length≤row.length+1→
   2*(U.length - row.length)+(if fr=[] then 0 else 1)≤d→d < n→∀ k m,1048577 < m→∃ c H' is,qbe k m n (.ptr g 2 0 0 0) cr cf H=some ([.one c],H')∧Rep H' true true 2 is c (trL 1 qbx (qeq nx s))∧is.Nodup∧H0.length≤H'.length∧∀ j,j < H0.length→H'[j]?=H0[j]?:=by
  intro d
  induction d with
  | zero=>
   intro H i1 fs cr cf row fr n hr hN h0 hf hfs hF hfl hd hn k m hm'
   obtain⟨n,rfl⟩:∃ j,n=j+1:=⟨n - 1,by omega⟩
   have hfr:fr=[]:=by
    rcases Classical.em (fr=[]) with h | h
    ·exact h
    ·rw[if_neg h] at hd;omega
   subst hfr
   have hrl:row.length≤U.length:=qcy hF.nd fun y hy=>hreach y (hF.ro y hy)
   obtain⟨c',E,is,e1,r1,w1,_⟩:=qir (qsmc row (by omega)) H (qbb (qce.of (n:=2) hr.1).read (qas _))
   refine⟨c',H++E,is,?_,by rw[qdx hF.done];exact r1,w1.nd,by simp;omega,fun j hj=>by rw[List.getElem?_append_left (by omega)];exact h0 j hj⟩
   simp only[qbe,hf.len,List.length_nil,Option.bind_some]
   rw[decide_eq_false (by omega),cond_false]
   simp only[e1,EV0]
  | succ d ih=>
   intro H i1 fs cr cf row fr n hr hN h0 hf hfs hF hfl hd hn k m hm'
   obtain⟨n,rfl⟩:∃ j,n=j+1:=⟨n - 1,by omega⟩
   have hrl:row.length≤U.length:=qcy hF.nd fun y hy=>hreach y (hF.ro y hy)
   cases fr with
   | nil=>
    obtain⟨c',E,is,e1,r1,w1,_⟩:=qir (qsmc row (by omega)) H (qbb (qce.of (n:=2) hr.1).read (qas _))
    refine⟨c',H++E,is,?_,by rw[qdx hF.done];exact r1,w1.nd,by simp;omega,fun j hj=>by rw[List.getElem?_append_left (by omega)];exact h0 j hj⟩
    simp only[qbe,hf.len,List.length_nil,Option.bind_some]
    rw[decide_eq_false (by omega),cond_false]
    simp only[e1,EV0]
   | cons x fr=>
    rw[if_neg (by simp)] at hd
    obtain⟨cr',cm',H',j1,j2,row',more',z1,z2,z3,z4,z5,z6,z7⟩:=L1 (x::fr) (by omega) (x::fr) 0 m H i1 [] fs cr (.lst true 1 []) cf row [] rfl (by omega) hr hN h0 hf (fun j hj=>⟨(hfs j hj).1,(hfs j hj).2,by simp⟩) (by simpa using hF) (by simp) (qbe k m n) k m (by omega)
    have hrl':row'.length≤U.length:=qcy z5.nd fun y hy=>hreach y (z5.ro y hy)
    simp only[List.length_nil] at z7
    obtain⟨c,H2,is,y1,y2,y3⟩:=ih H' j1 j2 cr' cm' row' more' n z2.anew z3 z4 (qce.of (n:=2) z2.2.1) (fun j hj=>⟨z2.2.1.lt j hj,fun h=>z2.2.2.2.2.2.2.1 j h hj⟩) z5 (by omega) (by
     by_cases hm0:more'=[]
     ·rw[if_pos hm0];omega
     ·rw[if_neg hm0]
      have:=List.length_pos_iff.2 hm0
      omega) (by omega) k m hm'
    refine⟨c,H2,is,?_,y2,y3⟩
    simp only[qbe,hf.len,Option.bind_some]
    rw[decide_eq_true (by simp),cond_true,show(0:Int)=((0:Nat):Int) from rfl,z1]
    exact y1
 obtain⟨c,H',is,z1,z2,z3⟩:=L0 (2*U.length+1) H0 [] [] (.lst true 1 []) (.lst true 1 ([s].map eStr)) [] [s] (2*U.length+1048577+1) (RM.nil _ _).anew (Nat.le_refl _) (fun _ _=>rfl) (.inl ⟨true,rfl⟩) (by simp) (Found.start nx s) (by simp) (by simp) (by omega) (2*U.length+1048577+1) (2*U.length+1048577+1) (by omega)
 exact⟨c,H',is,qik (2*U.length+1048577) (by simpa[qew,eStr] using z1),z2,z3⟩
theorem qti {nx:Str→List Str}{s:Str}{U:List Str}(hm:∀ x,∀ y∈nx x,y∈U):∃ o:List Str,∀ x,x∈o↔Reach nx s x:=by
 classical
 refine⟨U.filter fun x=>decide (Reach nx s x),fun x=>?_⟩
 rw[List.mem_filter,decide_eq_true_eq]
 refine⟨fun h=>h.2,fun h=>⟨?_,h⟩⟩
 cases h with
 | one h=>exact hm _ _ h
 | step _ k=>exact hm _ _ k
theorem qtt {l:List Str}(h:l.Pairwise (· < ·)):l.Nodup:=h.imp fun h e=>by subst e;exact List.lt_irrefl _ h
theorem qlz {nx:Str→List Str}{s:Str}{U:List Str}(hm:∀ x,∀ y∈nx x,y∈U):(qeq nx s).length≤U.length∧∀ x∈qeq nx s,x∈U:=by
 obtain⟨o,ho⟩:=qti (s:=s) hm
 rw[qdx ho]
 obtain⟨h1,h2⟩:=qbs o
 have h3:∀ x∈qcm o,x∈U:=fun x hx=>by
  cases (ho x).1 ((h2 x).1 hx) with
  | one h=>exact hm _ _ h
  | step _ k=>exact hm _ _ k
 exact⟨qcy (qtt h1) h3,h3⟩
theorem qvn {names:List Str}{next:List (List Str)}{x y:Str}(h:y∈qak names next x):∃ d∈next,y∈d:=by
 unfold qak at h
 split at h
 ·simp at h
 ·cases hd:next[(idxS x names 0).toNat]? with
  | none=>rw[hd] at h;simp at h
  | some d=>rw[hd] at h;exact⟨d,List.mem_of_getElem? hd,h⟩
def qgd (l:List MPack):List Str:=l.flatMap (·.Uses)
theorem qfh (l:List MPack):(qgd l).length≤wtL MPack.wt l:=by
 induction l with
 | nil=>simp[qgd]
 | cons x l ih=>
  simp only[qgd,wtL,List.flatMap_cons,List.length_append,List.length_cons,List.map_cons,List.sum_cons] at ih ⊢
  have:x.Uses.length≤MPack.wt x:=by simp only[MPack.wt,wtL];omega
  omega
def qgf (l:List MPack):Str→List Str:=qak (l.map (·.Name)) (l.map (·.Uses))
theorem qfj {l:List MPack}{x y:Str}(h:y∈qgf l x):y∈qgd l:=by
 obtain⟨d,hd,hy⟩:=qvn h
 obtain⟨p,hp,rfl⟩:=List.mem_map.1 hd
 exact List.mem_flatMap.2 ⟨p,hp,hy⟩
theorem qmdb {l:List MPack}(hl:bdL 1048576 (MPack.Bd 1048576) l)(x:Str):(qgf l x).length≤1048576:=by
 unfold qgf qak
 split
 ·simp
 ·cases hd:(l.map (·.Uses))[(idxS x (l.map (·.Name)) 0).toNat]? with
  | none=>simp
  | some d=>
   obtain⟨p,hp,rfl⟩:=List.mem_map.1 (List.mem_of_getElem? hd)
   exact(hl.2 p hp).2.1.1
noncomputable def qgx (l:List MPack)(s:Str):List Str:=qeq (qgf l) s
theorem qpib (l:List MPack)(hl:bdL 1048576 (MPack.Bd 1048576) l)(hw:wtL MPack.wt l≤1048576)(s:Str)(hs:bdS 1048576 s)(hs':bdS 1048576 s):bdL 1048576 (bdS 1048576) (qgx l s):=by
 obtain⟨h1,h2⟩:=qlz (s:=s) (U:=qgd l) fun x y h=>qfj h
 refine⟨Nat.le_trans h1 (Nat.le_trans (qfh l) hw),fun x hx=>?_⟩
 obtain⟨p,hp,hx⟩:=List.mem_flatMap.1 (h2 x hx)
 exact(hl.2 p hp).2.1.2 x hx
theorem c_fcr (l:List MPack)(hl:bdL 1048576 (MPack.Bd 1048576) l)(hw:wtL MPack.wt l≤1048576)(s:Str)(hs:bdS 1048576 s)(hs':bdS 1048576 s):outL qys [.one (encL 4 MPack.enc l),.one (Cell.str (bs s))]=some [.one (qax (qgx l s))]:=by
 have h1:=hl.1
 have hmm:∀ x,∀ y∈qak (l.map (·.Name)) (l.map (·.Uses)) x,y∈qgd l:=fun x y h=>qfj (l:=l) (x:=x) h
 have e:=(c_fdg (l.map (·.Name)) (l.map (·.Uses)) s (qgd l) (by simp;omega) (by simp) (fun d hd=>by
  obtain⟨p,hp,rfl⟩:=List.mem_map.1 hd
  exact(hl.2 p hp).2.1.1) (Nat.le_trans (qfh l) hw) hmm).1
 refine qeb (H:=[]) (qoub 0 ?_)
 simp only[fcr,c_fdf l hl,e,EV0]
 rfl
theorem f_fab (l:List MPack)(hl:bdL 1048576 (MPack.Bd 1048576) l)(hw:wtL MPack.wt l≤1048576)(s:Str)(hs:bdS 1048576 s)(hs':bdS 1048576 s):Fresh qqa true 2 [.one (encL 4 MPack.enc l),.one (Cell.str (bs s))] [.one (trL 1 qbx (qgx l s))]:=by
 have h1:=hl.1
 obtain⟨H,g1,e1⟩:=qwuc l hl
 obtain⟨ids,hG⟩:=g1.graph (by simp)
 obtain⟨c,H',is,e2,r1,r2,_⟩:=qgq hG (qgf l) (qgd l) (Nat.le_trans (qfh l) hw) (fun x y h=>qfj h) (qmdb hl) (fun H1 x hG1=>by
  obtain⟨d,q1,q2⟩:=qwq hG1 (by simp;omega) x
  exact⟨d,H1,ids,q1,q2,Nat.le_refl _,fun _ _=>rfl,fun j hj=>⟨hG1.lt j hj,.inl (hG.lt j hj)⟩⟩) s
 refine Fresh.one (qlsb 0 ?_) r1 r2
 simp only[fab,e1,e2,EV0]
def qcj (l:List MPack)(s:Str):List Str:=if s∈l.map (·.Name) then l.map (·.Name) else l.map (·.Name)++[s]
def qks (l:List MPack)(s:Str):List (List Str):=if s∈l.map (·.Name) then (l.map (·.Name)).map (qcg l) else (l.map (·.Name)).map (qcg l)++[qcg l s]
theorem quj (l:List MPack)(s:Str):qks l s=(qcj l s).map (qcg l):=by
 unfold qks qcj
 split<;>simp
theorem qpy (l:List MPack)(s:Str):s∈qcj l s:=by
 unfold qcj
 split
 ·assumption
 ·simp
theorem qda {l:List MPack}{x y:Str}(h:y∈qca l x):y∈l.map (·.Name):=by
 obtain⟨p,hp,rfl⟩:=List.mem_map.1 h
 exact List.mem_map.2 ⟨p,(List.mem_filter.1 hp).1,rfl⟩
theorem qez {l:List MPack}{s x:Str}(h:x∈l.map (·.Name)):x∈qcj l s:=by
 unfold qcj
 split
 ·exact h
 ·exact List.mem_append_left _ h
theorem qmob (names:List Str)(f:Str→List Str){x:Str}(h:x∈names):qak names (names.map f) x=f x:=by
 have key:∀ (l:List Str) (i:Nat),x∈l→∃ j:Nat,idxS x l i=((i+j:Nat):Int)∧l[j]?=some x:=by
  intro l
  induction l with
  | nil=>intro i h;simp at h
  | cons b r ih=>
   intro i h
   by_cases e:x=b
   ·exact⟨0,by simp[idxS,e],by simp[e]⟩
   ·obtain⟨j,h1,h2⟩:=ih (i+1) (by
     rcases List.mem_cons.1 h with h | h
     ·exact absurd h e
     ·exact h)
    exact⟨j+1,by simp only[idxS,if_neg e,h1];congr 1;omega,by simpa using h2⟩
 obtain⟨j,h1,h2⟩:=key names 0 h
 rw[qak,h1,if_neg (by omega)]
 simp[h2]
theorem qrkc {l:List MPack}{s x:Str}:Reach (qak (qcj l s) (qks l s)) s x↔Reach (qca l) s x:=by
 have heq:∀ x∈qcj l s,∀ y,y∈qak (qcj l s) (qks l s) x↔y∈qca l x:=fun x hx y=>by
  rw[quj,qmob _ _ hx]
  exact(qbs _).2 y
 constructor
 ·intro h
  have:Reach (qca l) s x∧x∈qcj l s:=by
   induction h with
   | one hb=>
    have:=(heq s (qpy l s) _).1 hb
    exact⟨.one this,qez (qda this)⟩
   | step _ k ih=>
    have:=(heq _ ih.2 _).1 k
    exact⟨.step ih.1 this,qez (qda this)⟩
  exact this.1
 ·intro h
  have:Reach (qak (qcj l s) (qks l s)) s x∧x∈qcj l s:=by
   induction h with
   | one hb=>exact⟨.one ((heq s (qpy l s) _).2 hb),qez (qda hb)⟩
   | step _ k ih=>exact⟨.step ih.1 ((heq _ ih.2 _).2 k),qez (qda k)⟩
  exact this.1
noncomputable def qco (l:List MPack)(s:Str):List Str:=qeq (qca l) s
theorem qqo (l:List MPack)(s:Str):qeq (qak (qcj l s) (qks l s)) s=qco l s:=by
 obtain⟨o,ho⟩:=qti (nx:=qca l) (s:=s) (U:=l.map (·.Name)) fun x y h=>qda h
 unfold qco
 rw[qdx ho,qdx (o:=o) fun x=>(ho x).trans qrkc.symm]
theorem qafb (l:List MPack)(hl:bdL 1048576 (MPack.Bd 1048576) l)(hw:wtL MPack.wt l≤1048576)(s:Str)(hs:bdS 1048576 s)(hs':bdS 1048576 s):bdL 1048576 (bdS 1048576) (qco l s):=by
 obtain⟨h1,h2⟩:=qlz (nx:=qca l) (s:=s) (U:=l.map (·.Name)) fun x y h=>qda h
 refine⟨Nat.le_trans h1 (by simpa using hl.1),fun x hx=>?_⟩
 obtain⟨p,hp,rfl⟩:=List.mem_map.1 (h2 x hx)
 exact(hl.2 p hp).1
theorem c_fcq (l:List MPack)(hl:bdL 1048576 (MPack.Bd 1048576) l)(hw:wtL MPack.wt l≤1048576)(s:Str)(hs:bdS 1048576 s)(hs':bdS 1048576 s):outL qyt [.one (encL 4 MPack.enc l),.one (Cell.str (bs s))]=some [.one (qax (qco l s))]:=by
 have hM:=qag
 have hxl:l.length≤1048576:=hl.1
 have hlw:l.length≤1048575∨l=[]∨True:=.inr (.inr trivial)
 have hub:∀ x,bdS 1048576 x→(qcg l x).length≤1048576:=fun x hx=>(qpfb l hl x hx).1
 have hin:s∈l.map (·.Name)↔(l.map (·.Name)).contains s=true:=by simp
 have fin:∀ (c6 c7:Cell) (H:List Entry) (ns:List Str),qspb ns (ns.map (qcg l)) c6 c7 H→ns=qcj l s→∃ H1,callL qfe [.agg [c6,c7],.one (Cell.str (bs s))] H=some ([.one (qax (qco l s))],H1):=by
  intro c6 c7 H ns hd hns
  obtain⟨H1,e1⟩:=hd.callL (run:=qfe) (.string (bs s))
  refine⟨H1,?_⟩
  have hnl:ns.length≤1048577:=by
   rw[hns]
   unfold qcj
   split<;>simp<;>omega
  have hmem:∀ x,∀ y∈qak ns (ns.map (qcg l)) x,y∈l.map (·.Name):=fun x y h=>by
   obtain⟨d,hd,hy⟩:=qvn h
   obtain⟨z,_,rfl⟩:=List.mem_map.1 hd
   exact qda (((qbs _).2 y).1 hy)
  have hb:∀ x∈ns,bdS 1048576 x:=fun x hx=>by
   rw[hns] at hx
   unfold qcj at hx
   split at hx
   ·obtain⟨p,hp,rfl⟩:=List.mem_map.1 hx
    exact(hl.2 p hp).1
   ·rcases List.mem_append.1 hx with hx | hx
    ·obtain⟨p,hp,rfl⟩:=List.mem_map.1 hx
     exact(hl.2 p hp).1
    ·rw[List.mem_singleton.1 hx]
     exact hs
  have e2:=(c_fdg ns (ns.map (qcg l)) s (l.map (·.Name)) (by omega) (by simp) (fun d hd=>by
   obtain⟨x,hx,rfl⟩:=List.mem_map.1 hd
   exact hub x (hb x hx)) (by simpa using hxl) hmem).1
  have e3:qeq (qak ns (ns.map (qcg l))) s=qco l s:=by
   rw[hns,← quj]
   exact qqo l s
  rw[e3] at e2
  have e1':callL qfe [.agg [c6,c7],.one (Cell.str (bs s))] H=_:=e1
  rw[e1',e2]
  rfl
 have hrk:∀ (xs:List Str) (f:List Cell→Option Res),restK [qax xs] f=f [qax xs]:=fun xs f=>by simp[restK,mapO,qfkb,encL]
 have hsr:∀ (G:List Entry) (xs:List Str),qah G 1 (.lst true 1 (chunks 1 1 [qax xs]))=some [[qax xs]]:=fun G xs=>by simp[qah,rowsOf,chunks]
 have loop:∀ (r:List MPack) (i n:Nat) (c6 c7:Cell) (H:List Entry),l.drop i=r→i+r.length=l.length→r.length < n→qspb ((l.take i).map (·.Name)) (((l.take i).map (·.Name)).map (qcg l)) c6 c7 H→∀ k m,
   ∃ H',qaib k m n (encL 4 MPack.enc l) (bs s) i c6 c7 H=some ([.one (qax (qco l s))],H'):=by
  intro r
  induction r with
  | nil=>
   intro i n c6 c7 H hd hi hn ht k m
   obtain⟨n,rfl⟩:∃ j,n=j+1:=⟨n - 1,by omega⟩
   have h1:=drop_nil hd
   rw[List.take_of_length_le h1] at ht
   have q1:qbc qfm [.agg [c6,c7],.one (Cell.str (bs s))] H=some [.one (Cell.int (idxS s (l.map (·.Name)) 0))]:=by
    rw[qbv (qbb ht.read (qbb (qam _ _ _) (qas _)))]
    exact qxec _ _ s (by simp;omega)
   simp only[qaib,qan,Option.bind_some]
   rw[decide_eq_false (by omega),cond_false]
   simp only[q1,EV0]
   have hge:=qnxb s (l.map (·.Name)) 0
   by_cases hm:s∈l.map (·.Name)
   ·rw[hin.1 hm] at hge
    have:=of_decide_eq_true hge
    rw[decide_eq_false (by omega),cond_false]
    obtain⟨H1,e1⟩:=fin c6 c7 H _ ht (by unfold qcj;rw[if_pos hm])
    refine⟨H1,?_⟩
    simp only[e1,EV0]
   ·have hge':decide (idxS s (l.map (·.Name)) 0≥0)=false:=by
     rw[hge]
     exact Bool.eq_false_iff.2 fun h=>hm (hin.2 h)
    have:=of_decide_eq_false hge'
    rw[decide_eq_true (by omega),cond_true]
    obtain⟨p,q,a1,a2,ht'⟩:=ht.step s (qcg l s) (by simp;omega) (by simp;omega)
    obtain⟨H1,e1⟩:=fin p.1 q.1 q.2 (l.map (·.Name)++[s]) (by simpa using ht') (by unfold qcj;rw[if_neg hm])
    refine⟨H1,?_⟩
    simp only[a1,c_fda l hl s hs,EV0,qjh]
    simp only[hrk,hsr,a2,e1,EV0]
  | cons x r ih=>
   intro i n c6 c7 H hd hi hn ht k m
   obtain⟨n,rfl⟩:∃ j,n=j+1:=⟨n - 1,by omega⟩
   obtain⟨hlt,hx,hd'⟩:=qaq hd
   simp only[List.length_cons] at hn hi
   have hb:=hl.2 x (List.mem_of_getElem? hx)
   have e1:(l.take i).map (·.Name)++[x.Name]=(l.take (i+1)).map (·.Name):=by rw[List.take_add_one,hx];simp
   obtain⟨p,q,a1,a2,ht'⟩:=ht.step x.Name (qcg l x.Name) (by simp;omega) (by simp;omega)
   have ht2:qspb ((l.take (i+1)).map (·.Name)) (((l.take (i+1)).map (·.Name)).map (qcg l)) p.1 q.1 q.2:=by
    rw[← e1,List.map_append]
    exact ht'
   obtain⟨H',z1⟩:=ih (i+1) n p.1 q.1 q.2 hd' (by omega) (by omega) ht2 k m
   refine⟨H',?_⟩
   simp only[qaib,qan,Option.bind_some]
   rw[decide_eq_true (by omega),cond_true]
   simp only[qav,hx,MPack.enc,qgn,Nat.zero_add,EV0]
   simp only[a1,EV0]
   have hu:=c_fda l hl x.Name hb.1
   simp only[hu,EV0,qjh]
   simp only[hrk,hsr,a2,Option.bind_some]
   rw[qae (by omega)]
   exact z1
 obtain⟨H',z1⟩:=loop l 0 (l.length+1+1) (.lst true 1 []) (.lst true 1 []) [] rfl (by omega) (by omega) (.inl ⟨rfl,rfl,rfl,rfl,rfl⟩) (l.length+1+1) (l.length+1+1)
 refine qeb (H:=H') (qnnb (l.length+1) ?_)
 simpa[fcq] using z1
theorem f_faa (l:List MPack)(hl:bdL 1048576 (MPack.Bd 1048576) l)(hw:wtL MPack.wt l≤1048576)(s:Str)(hs:bdS 1048576 s)(hs':bdS 1048576 s):Fresh qwt true 2 [.one (encL 4 MPack.enc l),.one (Cell.str (bs s))] [.one (trL 1 qbx (qco l s))]:=by
 have h1:l.length≤1048576:=hl.1
 have hby:∀ x,byOf (l.map (·.Name)) (l.map (·.Uses)) x=qca l x:=fun x=>by
  unfold byOf qca
  rw[List.zip_map',List.filter_map,List.map_map]
  rfl
 have hlen:∀ x,(qca l x).length≤1048576:=fun x=>Nat.le_trans (by simp only[qca,List.length_map];exact List.length_filter_le _ _) h1
 obtain⟨H,g1,e1⟩:=qwuc l hl
 obtain⟨ids,hG⟩:=g1.graph (by simp)
 obtain⟨c,H',is,e2,r1,r2,_⟩:=qmr hG (qca l) (l.map (·.Name)) (by simpa using h1) (fun x y h=>qda h) hlen (fun H1 x hG1=>by
  obtain⟨d,T,q1,q2⟩:=gm_by hG1 (by simp;omega) (qiy hl) x
  rw[hby] at q2
  obtain⟨is,k1,k2,k3⟩:=q2.list
  exact⟨d,H1++T,is,q1,qce.of (n:=2) k1,by simp,fun j hj=>List.getElem?_append_left hj,fun j hj=>⟨k1.lt j hj,.inr (by have:=k3 j hj;omega)⟩⟩) s
 refine Fresh.one (qmrb 0 ?_) r1 r2
 simp only[faa,e1,e2,EV0]
def Wk (nx:Str→List Str)(g:Str):Nat→Str→Prop | 0,x=>x=g | k+1,x=>∃ y,y∈nx x∧Wk nx g k y
theorem qnac {p:Nat→Prop}{k:Nat}(h:p k):∃ j,j≤k∧p j∧∀ i,i < j→¬ p i:=by
 induction k using Nat.strongRecOn with
 | ind k ih=>
  by_cases q:∃ i,i < k∧p i
  ·obtain⟨i,h1,h2⟩:=q
   obtain⟨j,h3,h4⟩:=ih i h1 h2
   exact⟨j,by omega,h4⟩
  ·exact⟨k,Nat.le_refl _,h,fun i hi hp=>q ⟨i,hi,hp⟩⟩
open Classical in
noncomputable def dst (nx:Str→List Str)(g x:Str):Nat:=if h:∃ j,Wk nx g (j+1) x∧∀ i,i < j→¬ Wk nx g (i+1) x then h.choose+1 else 0
theorem qarc {nx:Str→List Str}{g x:Str}{j:Nat}(h1:Wk nx g (j+1) x)(h2:∀ i,i < j→¬ Wk nx g (i+1) x):dst nx g x=j+1:=by
 have h:∃ j,Wk nx g (j+1) x∧∀ i,i < j→¬ Wk nx g (i+1) x:=⟨j,h1,h2⟩
 unfold dst
 rw[dif_pos h]
 obtain⟨k1,k2⟩:=h.choose_spec
 have a:¬ h.choose < j:=fun hh=>h2 _ hh k1
 have b:¬ j < h.choose:=fun hh=>k2 _ hh h1
 omega
theorem qzkb {nx:Str→List Str}{g x:Str}{k:Nat}(h:Wk nx g (k+1) x):0 < dst nx g x∧dst nx g x≤k+1:=by
 obtain⟨j,h1,h2,h3⟩:=qnac (p:=fun k=>Wk nx g (k+1) x) h
 rw[qarc h2 h3]
 omega
theorem qjd {nx:Str→List Str}{g x:Str}{k:Nat}(h:dst nx g x=k+1):Wk nx g (k+1) x∧∀ i,i < k→¬ Wk nx g (i+1) x:=by
 by_cases q:∃ j,Wk nx g (j+1) x∧∀ i,i < j→¬ Wk nx g (i+1) x
 ·obtain⟨j,h1,h2⟩:=q
  have:=qarc h1 h2
  obtain rfl:j=k:=by omega
  exact⟨h1,h2⟩
 ·unfold dst at h
  rw[dif_neg q] at h
  omega
theorem qsp {nx:Str→List Str}{g x:Str}{k:Nat}(h:dst nx g x=k+2):∃ y,y∈nx x∧dst nx g y=k+1:=by
 obtain⟨⟨y,h1,h2⟩,h3⟩:=qjd h
 exact⟨y,h1,qarc h2 fun i hi hw=>h3 (i+1) (by omega) ⟨y,h1,hw⟩⟩
theorem qyhc {nx:Str→List Str}{g x y:Str}{k:Nat}(hy:y∈nx x)(h:dst nx g y=k+1):0 < dst nx g x∧dst nx g x≤k+2:=qzkb ⟨y,hy,(qjd h).1⟩
theorem qhsb {nx:Str→List Str}{g x:Str}:dst nx g x=1↔g∈nx x:=by
 constructor
 ·intro h
  obtain⟨⟨y,h1,h2⟩,_⟩:=qjd (k:=0) h
  rw[show y=g from h2] at h1
  exact h1
 ·exact fun h=>qarc (j:=0) ⟨g,h,rfl⟩ (by omega)
theorem qeqc {nx:Str→List Str}{b c:Str}(hc:c∈nx b):∀ {k:Nat} {x:Str},Wk nx b k x→Wk nx c (k+1) x
 | 0,x,h=>⟨c,by rw[show x=b from h];exact hc,rfl⟩
 | k+1,x,⟨y,h1,h2⟩=>⟨y,h1,qeqc hc h2⟩
theorem qsdb {nx:Str→List Str}{x y g:Str}(hy:y∈nx x)(h:Reach nx y g):Reach nx x g:=by
 induction h with
 | one hb=>exact .step (.one hy) hb
 | step _ k ih=>exact .step ih k
theorem qwmb {nx:Str→List Str}{x g:Str}:Reach nx x g↔0 < dst nx g x:=by
 constructor
 ·intro h
  have:∃ k,Wk nx g (k+1) x:=by
   induction h with
   | one hb=>exact⟨0,_,hb,rfl⟩
   | step _ k ih=>
    obtain⟨j,hj⟩:=ih
    exact⟨j+1,qeqc k hj⟩
  obtain⟨k,hk⟩:=this
  exact(qzkb hk).1
 ·intro h
  obtain⟨k,hk⟩:∃ k,dst nx g x=k+1:=⟨dst nx g x - 1,by omega⟩
  have:=(qjd hk).1
  clear h hk
  induction k generalizing x with
  | zero=>
   obtain⟨y,h1,h2⟩:=this
   rw[show y=g from h2] at h1
   exact .one h1
  | succ k ih=>
   obtain⟨y,h1,h2⟩:=this
   exact qsdb h1 (ih h2)
theorem qvjb {nx:Str→List Str}{g:Str}{names:List Str}(hn:∀ x y,y∈nx x→x∈names):∀ (d:Nat) (x:Str),dst nx g x=d→∃ l:List Str,l.length=d∧l.Nodup∧∀ y∈l,y∈names∧dst nx g y≤d:=by
 intro d
 induction d with
 | zero=>exact fun x _=>⟨[],rfl,.nil,by simp⟩
 | succ d ih=>
  intro x hx
  have hxn:x∈names:=by
   obtain⟨⟨y,h1,_⟩,_⟩:=qjd hx
   exact hn x y h1
  cases d with
  | zero=>exact⟨[x],rfl,by simp,by simp[hxn,hx]⟩
  | succ d=>
   obtain⟨y,_,h2⟩:=qsp hx
   obtain⟨l,h3,h4,h5⟩:=ih y h2
   refine⟨x::l,by simp[h3],List.nodup_cons.2 ⟨fun h=>?_,h4⟩,fun z hz=>?_⟩
   ·have:=(h5 x h).2
    omega
   ·rcases List.mem_cons.1 hz with rfl | hz
    ·exact⟨hxn,by omega⟩
    ·exact⟨(h5 z hz).1,by have:=(h5 z hz).2;omega⟩
theorem qavc {nx:Str→List Str}{names:List Str}(hn:∀ x y,y∈nx x→x∈names)(g x:Str):dst nx g x≤names.length:=by
 obtain⟨l,h1,h2,h3⟩:=qvjb (g:=g) hn _ x rfl
 rw[← h1]
 exact qcy h2 fun y hy=>(h3 y hy).1
structure Bf (nx:Str→List Str)(g:Str)(row:List Str)(i:Nat):Prop where
 nd:row.Nodup
 pos:∀ x∈row,0 < dst nx g x
 srt:∀ (p q:Nat) x y,row[p]?=some x→row[q]?=some y→p≤q→dst nx g x≤dst nx g y
 one:∀ x,dst nx g x=1→x∈row
 done:∀ (p:Nat) x y,row[p]?=some x→p < i→x∈nx y→y∈row
 near:∀ x y,row[i]?=some x→y∈row→dst nx g y≤dst nx g x+1
theorem Bf.low {nx:Str→List Str}{g:Str}{row:List Str}{i:Nat}(h:Bf nx g row i){f:Nat}(hi:∀ (p:Nat) x,row[p]?=some x→dst nx g x < f→p < i):∀ (k:Nat) (z:Str),dst nx g z=k+1→k+1 < f→z∈row:=by
 intro k
 induction k with
 | zero=>exact fun z hz _=>h.one z hz
 | succ k ih=>
  intro z hz hf
  obtain⟨u,h1,h2⟩:=qsp hz
  have hu:=ih u h2 (by omega)
  obtain⟨p,hp⟩:=List.getElem?_of_mem hu
  exact h.done p u z hp (hi p u hp (by omega)) h1
theorem Bf.far {nx:Str→List Str}{g:Str}{row:List Str}{i:Nat}(h:Bf nx g row i){x y:Str}(hx:row[i]?=some x)(hxy:x∈nx y)(hy:y∉row):dst nx g y=dst nx g x+1:=by
 have hxp:=h.pos x (List.mem_of_getElem? hx)
 obtain⟨k,hk⟩:∃ k,dst nx g x=k+1:=⟨dst nx g x - 1,by omega⟩
 obtain⟨u1,u2⟩:=qyhc hxy hk
 have hlow:∀ (p:Nat) z,row[p]?=some z→dst nx g z < dst nx g x→p < i:=fun p z hz hlt=>by
  apply Classical.byContradiction
  intro hp
  have:=h.srt i p x z hx hz (by omega)
  omega
 by_cases e:dst nx g y=dst nx g x+1
 ·exact e
 ·exfalso
  obtain⟨j,hj⟩:∃ j,dst nx g y=j+1:=⟨dst nx g y - 1,by omega⟩
  cases j with
  | zero=>exact hy (h.one y hj)
  | succ j=>
   obtain⟨z,z1,z2⟩:=qsp hj
   have hz:=h.low hlow j z z2 (by omega)
   obtain⟨p,hp⟩:=List.getElem?_of_mem hz
   exact hy (h.done p z y hp (hlow p z hp (by omega)) z1)
theorem qavb {α:Type}{row:List α}{y z:α}{p:Nat}(h:(row++[y])[p]?=some z):row[p]?=some z∨(p=row.length∧z=y):=by
 rcases Nat.lt_or_ge p row.length with hp | hp
 ·rw[List.getElem?_append_left hp] at h
  exact .inl h
 ·rw[List.getElem?_append_right hp] at h
  cases hq:p - row.length with
  | zero=>rw[hq] at h;simp at h;exact .inr ⟨by omega,h.symm⟩
  | succ q=>rw[hq] at h;simp at h
theorem Bf.push {nx:Str→List Str}{g:Str}{row:List Str}{i:Nat}(h:Bf nx g row i){x y:Str}(hx:row[i]?=some x)(hxy:x∈nx y)(hy:y∉row):Bf nx g (row++[y]) i:=by
 have hd:=h.far hx hxy hy
 have hil:=(List.getElem?_eq_some_iff.1 hx).1
 have hx':(row++[y])[i]?=some x:=by rw[List.getElem?_append_left hil];exact hx
 refine⟨?_,?_,?_,fun z hz=>List.mem_append_left _ (h.one z hz),?_,?_⟩
 ·rw[List.nodup_append]
  refine⟨h.nd,by simp,fun a ha b hb e=>?_⟩
  simp only[List.mem_singleton] at hb
  rw[e,hb] at ha
  exact hy ha
 ·intro z hz
  rcases List.mem_append.1 hz with hz | hz
  ·exact h.pos z hz
  ·simp only[List.mem_singleton] at hz
   rw[hz]
   omega
 ·intro p q a b ha hb hpq
  rcases qavb ha with ha' | ⟨hp1,hp2⟩<;>rcases qavb hb with hb' | ⟨hq1,hq2⟩
  ·exact h.srt p q a b ha' hb' hpq
  ·have:=h.near x a hx (List.mem_of_getElem? ha')
   rw[hq2]
   omega
  ·have:=(List.getElem?_eq_some_iff.1 hb').1
   omega
  ·rw[hp2,hq2]
   exact Nat.le_refl _
 ·intro p a b ha hp hab
  rcases qavb ha with ha | ⟨rfl,_⟩
  ·exact List.mem_append_left _ (h.done p a b ha hp hab)
  ·omega
 ·intro a b ha hb
  rw[hx'] at ha
  simp only[Option.some.injEq] at ha
  subst ha
  rcases List.mem_append.1 hb with hb | hb
  ·exact h.near _ b hx hb
  ·simp only[List.mem_singleton] at hb
   rw[hb]
   omega
theorem Bf.next {nx:Str→List Str}{g:Str}{row:List Str}{i:Nat}(h:Bf nx g row i){x:Str}(hx:row[i]?=some x)(ha:∀ y,x∈nx y→y∈row):Bf nx g row (i+1):=by
 refine⟨h.nd,h.pos,h.srt,h.one,fun p a b hp hlt hab=>?_,fun a b hp hb=>?_⟩
 ·by_cases e:p=i
  ·subst e
   rw[hx] at hp
   simp only[Option.some.injEq] at hp
   subst hp
   exact ha b hab
  ·exact h.done p a b hp (by omega) hab
 ·have h1:=h.near x b hx hb
  have h2:=h.srt i (i+1) x a hx hp (by omega)
  omega
theorem Bf.all {nx:Str→List Str}{g:Str}{row:List Str}{i:Nat}(h:Bf nx g row i)(hi:row.length≤i){x:Str}(hx:0 < dst nx g x):x∈row:=by
 obtain⟨k,hk⟩:∃ k,dst nx g x=k+1:=⟨dst nx g x - 1,by omega⟩
 refine h.low (f:=k+2) (fun p z hz _=>?_) k x hk (by omega)
 have:=(List.getElem?_eq_some_iff.1 hz).1
 omega
theorem Bf.start {nx:Str→List Str}{g:Str}{row:List Str}(h1:row.Nodup)(h2:∀ x∈row,dst nx g x=1)(h3:∀ x,g∈nx x→x∈row):Bf nx g row 0:=by
 refine⟨h1,fun x hx=>by rw[h2 x hx];omega,fun p q a b ha hb _=>?_,fun x hx=>h3 x (qhsb.1 hx),fun p _ _ _ hp=>by omega,fun a b ha hb=>?_⟩
 ·rw[h2 a (List.mem_of_getElem? ha),h2 b (List.mem_of_getElem? hb)]
  exact Nat.le_refl _
 ·rw[h2 a (List.mem_of_getElem? ha),h2 b hb]
  omega
noncomputable def wayL (nx:Str→List Str)(g:Str):Nat→Str→List Str
 | 0,_=>[]
 | k+1,x=>match (nx x).find? fun y=>dst nx g y==k+1 with
  | some y=>y::wayL nx g k y
  | none=>[]
noncomputable def qbvb (nx:Str→List Str)(g:Str):List Str:=g::wayL nx g (dst nx g g - 1) g
open Classical in
noncomputable def qbub (names:List Str)(nx:Str→List Str):List Str:=match names.find? fun x=>decide (0 < dst nx x x) with
 | some x=>qbvb nx x
 | none=>[]
theorem qsq {nx:Str→List Str}{g x:Str}{k:Nat}(h:dst nx g x=k+2):∃ y,((nx x).find? fun y=>dst nx g y==k+1)=some y∧dst nx g y=k+1∧y∈nx x:=by
 obtain⟨z,h1,h2⟩:=qsp h
 cases hf:(nx x).find? fun y=>dst nx g y==k+1 with
 | none=>
  rw[List.find?_eq_none] at hf
  have:=hf z h1
  simp[h2] at this
 | some y=>exact⟨y,rfl,by simpa using List.find?_some hf,List.mem_of_find?_eq_some hf⟩
theorem qlec (nx:Str→List Str)(g:Str):∀ (k:Nat) (x:Str),(wayL nx g k x).length≤k∧∀ y∈wayL nx g k x,∃ z,y∈nx z:=by
 intro k
 induction k with
 | zero=>simp[wayL]
 | succ k ih=>
  intro x
  simp only[wayL]
  split
  ·rename_i y hy
   obtain⟨h1,h2⟩:=ih y
   refine⟨by simp;omega,fun z hz=>?_⟩
   rcases List.mem_cons.1 hz with rfl | hz
   ·exact⟨x,List.mem_of_find?_eq_some hy⟩
   ·exact h2 z hz
  ·simp
theorem qurb {names:List Str}{nx:Str→List Str}(hn:∀ x y,y∈nx x→x∈names):(qbub names nx).length≤names.length∧∀ y∈qbub names nx,y∈names∨∃ z,y∈nx z:=by
 unfold qbub
 split
 ·rename_i x hx
  have hp:0 < dst nx x x:=by simpa using List.find?_some hx
  have hb:=qavc hn x x
  obtain⟨h1,h2⟩:=qlec nx x (dst nx x x - 1) x
  refine⟨by simp only[qbvb,List.length_cons];omega,fun y hy=>?_⟩
  rcases List.mem_cons.1 hy with rfl | hy
  ·exact .inl (List.mem_of_find?_eq_some hx)
  ·exact .inr (h2 y hy)
 ·simp
def qhx (f:Str→Nat)(row:List Str):List (List Cell):=row.map fun x=>[Cell.str (bs x),Cell.int (f x:Nat)]
theorem qrj (f:Str→Nat)(s:Str):∀ row:List Str,qvr (qhx f row) (bs s)=some (if s∈row then ((f s:Nat):Int) else 0)
 | []=>by simp[qhx,qvr]
 | x::row=>by
  have ih:=qrj f s row
  simp only[qhx,List.map_cons,qvr] at ih ⊢
  by_cases e:x=s
  ·subst e
   rw[(Go.MapKept.bytes_beq _ _).2 rfl]
   simp
  ·have hb:(bs x==bs s)=false:=by
    cases h:(bs x==bs s)
    ·rfl
    ·exact absurd (qbjd.1 ((Go.MapKept.bytes_beq _ _).1 h)) e
   rw[hb,cond_false,ih]
   have:(s∈x::row)↔s∈row:=by
    rw[List.mem_cons]
    exact⟨fun h=>h.resolve_left fun h=>e h.symm,.inr⟩
   simp only[this]
theorem qry (f:Str→Nat)(y:Str):∀ row:List Str,y∉row→qyh (qhx f row) (bs y) (f y:Nat)=some (qhx f (row++[y]))
 | [],_=>by simp[qhx,qyh]
 | x::row,h=>by
  have ih:=qry f y row fun h'=>h (List.mem_cons_of_mem _ h')
  have e:x≠y:=fun e=>h (by rw[e];exact List.mem_cons_self ..)
  have hb:(bs x==bs y)=false:=by
   cases h:(bs x==bs y)
   ·rfl
   ·exact absurd (qbjd.1 ((Go.MapKept.bytes_beq _ _).1 h)) e
  simp only[qhx,List.map_cons,qyh,List.cons_append] at ih ⊢
  rw[hb,cond_false,ih]
  rfl
structure WayM (H0 H:List Entry)(f:Str→Nat)(row:List Str):Prop where
 len:H0.length < H.length
 old:∀ j,j < H0.length→H[j]?=H0[j]?
 mp:H[H0.length]?=some ⟨2,qhx f row,0,false⟩
theorem WayM.get {H0 H:List Entry}{f:Str→Nat}{row:List Str}(h:WayM H0 H f row)(s:Str):qlb H (.mp H0.length 0) (bs s)=some (if s∈row then ((f s:Nat):Int) else 0):=by
 simp only[qlb,qdsd,entry?,h.mp,if_true,Option.bind_some]
 exact qrj f s row
theorem WayM.put {H0 H:List Entry}{f:Str→Nat}{row:List Str}(h:WayM H0 H f row){y:Str}(hy:y∉row):
  ∃ H',qls H (.mp H0.length 0) (bs y) (f y:Nat)=some H'∧WayM H0 H' f (row++[y])∧H'.length=H.length∧∀ j,j≠H0.length→H'[j]?=H[j]?:=by
 refine⟨H.set H0.length ⟨2,qhx f (row++[y]),0,false⟩,?_,⟨by simpa using h.len,fun j hj=>?_,by rw[List.getElem?_set_self h.len]⟩,by simp,fun j hj=>List.getElem?_set_ne (Ne.symm hj)⟩
 ·simp only[qls,qsvb,entry?,h.mp,if_true,Option.bind_some,qry f y row hy,Option.map_some]
 ·rw[List.getElem?_set_ne (by omega)]
  exact h.old j hj
theorem WayM.frame {H0 H H':List Entry}{f:Str→Nat}{row:List Str}(h:WayM H0 H f row)(hl:H.length≤H'.length)(k:∀ j,j≤H0.length→H'[j]?=H[j]?):WayM H0 H' f row:=
 ⟨Nat.lt_of_lt_of_le h.len hl,fun j hj=>(k j (by omega)).trans (h.old j hj),(k _ (Nat.le_refl _)).trans h.mp⟩
theorem qneb (H:List Entry)(c:Cell):qah (H++[Entry.mk 1 [[c]] 0 false]) 1 (.vs H.length 1 0 1 0)=some [[c]]:=by
 simp[qah,rowsOf,entry?]
theorem RM.at {N:Nat}{H H':List Entry}{i1 i2:List Nat}{cr cm:Cell}{row more:List Str}(h:RM N H i1 i2 cr cm row more)(k:∀ j,N≤j→j < H.length→H'[j]?=H[j]?):RM N H' i1 i2 cr cm row more:=by
 obtain⟨r1,r2,f1,f2,n1,n2,dj,b1,b2⟩:=h
 exact⟨r1.frame fun j hj=>k j (b1 j hj) (r1.lt j hj),r2.frame fun j hj=>k j (b2 j hj) (r2.lt j hj),f1,f2,n1,n2,dj,b1,b2⟩
theorem RM.own1 {N:Nat}{H:List Entry}{i1:List Nat}{cr:Cell}{row:List Str}(h:RM N H i1 [] cr (.lst true 1 []) row [])(hN:N≤H.length)(y:Str)(l1:row.length < 1073741824):
  ∃ p j1,app (H++[Entry.mk 1 [[Cell.str (bs y)]] 0 false]) 1 16 cr [[Cell.str (bs y)]]=some p∧RM N p.2 j1 [] p.1 (.lst true 1 []) (row++[y]) []∧H.length≤p.2.length∧(∀ j,j < H.length→j∉i1→p.2[j]?=H[j]?)∧∀ j∈j1,j∈i1∨H.length≤j:=by
 have h':RM N (H++[Entry.mk 1 [[Cell.str (bs y)]] 0 false]) i1 [] cr (.lst true 1 []) row []:=h.frame fun j hj=>List.getElem?_append_left hj
 obtain⟨p,j1,a1,r1,m1,k1,g1⟩:=h'.app1 (by simp;omega) [y] (by simp[bound];omega)
 refine⟨p,j1,a1,r1,by simp at m1;omega,fun j hj hn=>?_,fun j hj=>?_⟩
 ·rw[k1 j (by simp;omega) hn,List.getElem?_append_left hj]
 ·rcases g1 j hj with h | h
  ·exact .inl h
  ·simp at h
   exact .inr (by omega)
theorem RM.lo {N:Nat}{H:List Entry}{i1 i2:List Nat}{cr cm:Cell}{row more:List Str}(h:RM N H i1 i2 cr cm row more):(∀ j∈i1,N≤j∧j < H.length):=fun j hj=>⟨h.2.2.2.2.2.2.2.1 j hj,h.1.lt j hj⟩
def ahOf (names:List Str)(nx:Str→List Str)(s:Str):List Str:=names.filter fun x=>(nx x).contains s
theorem qtp {names:List Str}{nx:Str→List Str}(hn:∀ x y,y∈nx x→x∈names){s x:Str}:x∈ahOf names nx s↔s∈nx x:=by
 simp only[ahOf,List.mem_filter,List.contains_iff_mem]
 exact⟨fun h=>h.2,fun h=>⟨hn x s h,h⟩⟩
theorem qrib {H:List Entry}{ids:List Nat}{g:Nat}{names:List Str}{next:List (List Str)}(h:GraphM H ids g names next)(h1:names.length≤1048576)(h3:∀ d∈next,d.length≤1073741824)(s:Str):
  ∃ c T,qrs [.one (.ptr g 2 0 0 0),.one (Cell.str (bs s))] H=some ([.one c],H++T)∧GrowAt H.length 1 c T ((ahOf names (qak names next) s).map eStr):=by
 have hM:=qag
 have hG:∀ T,GraphM (H++T) ids g names next:=fun T=>h.app (fun j hj=>by rw[List.getElem?_append_left (h.lt j hj)]) (by simp)
 obtain⟨_,hlt,hlen,cn,co,fr,he,hn,ho⟩:=h
 have d1:deref H (.ptr g 2 0 0 0)=some ([cn,co],0):=by simp[deref,entry?,he]
 have fr':∀ (T:List Entry),∀ j∈ids,(H++T)[j]?=H[j]?:=fun T j hj=>List.getElem?_append_left (hlt j hj)
 have loop:∀ (r:List Str) (i n:Nat) (acc:List Str) (c:Cell) (T:List Entry),names.drop i=r→r.length < n→acc.length≤i→GrowAt H.length 1 c T (acc.map eStr)→∀ k m,
   ∃ c' T',qwe k m n (.ptr g 2 0 0 0) (bs s) c cn names.length i (H++T)=some ([.one c'],H++T')∧GrowAt H.length 1 c' T' ((acc++r.filter fun x=>(qak names next x).contains s).map eStr):=by
  intro r
  induction r with
  | nil=>
   intro i n acc c T hd hn' ha hg k m
   obtain⟨n,rfl⟩:∃ j,n=j+1:=⟨n - 1,by omega⟩
   have:=drop_nil hd
   refine⟨c,T,?_,by simpa using hg⟩
   simp only[qwe]
   rw[decide_eq_false (by omega),cond_false]
  | cons x r ih=>
   intro i n acc c T hd hn' ha hg k m
   obtain⟨n,rfl⟩:∃ j,n=j+1:=⟨n - 1,by omega⟩
   obtain⟨hlt',hx,hd'⟩:=qaq hd
   simp only[List.length_cons] at hn'
   obtain⟨a2,row,off,j1,j2,j3⟩:=(hn.frame (fr' T)).at hx
   obtain⟨d,o1,o2⟩:=qwq (hG T) (by omega) x
   have q1:qbc qch [.one d,.one (Cell.str (bs s))] (H++T)=some [.one (Cell.bool ((qak names next x).contains s))]:=by
    rw[qbv (qbb o2.read (qbb (qam _ _ _) (qas _)))]
    exact qelc _ s (qjp h3 x)
   simp only[qwe]
   rw[decide_eq_true (by omega),cond_true]
   simp only[j1,j2,j3,o1,q1,qae (show i < maxLen by omega),EV0]
   cases hc:(qak names next x).contains s with
   | false=>
    rw[cond_false]
    obtain⟨c',T',z1,z2⟩:=ih (i+1) n acc c T hd' (by omega) (by omega) hg k m
    have hf:(x::r).filter (fun x=>(qak names next x).contains s)=r.filter fun x=>(qak names next x).contains s:=by simp only[List.filter_cons,hc];rfl
    exact⟨c',T',z1,by rw[hf];exact z2⟩
   | true=>
    rw[cond_true]
    obtain⟨c1,T1,a1,g1⟩:=qnpc (A:=H) (by':=16) hg (eStr x) (by simp[bound];omega) (by simp[bound];omega)
    have hrow:acc.map eStr++[eStr x]=(acc++[x]).map eStr:=by simp
    rw[hrow] at g1
    obtain⟨c',T',z1,z2⟩:=ih (i+1) n (acc++[x]) c1 T1 hd' (by omega) (by simp;omega) g1 k m
    have hf:(x::r).filter (fun x=>(qak names next x).contains s)=x::r.filter fun x=>(qak names next x).contains s:=by simp only[List.filter_cons,hc];rfl
    refine⟨c',T',?_,by rw[hf,List.append_cons];exact z2⟩
    simp only[eStr] at a1
    simp only[a1,Option.bind_some]
    exact z1
 obtain⟨c,T,z1,z2⟩:=loop names 0 (names.length+1+1) [] (.lst true 1 []) [] rfl (by omega) (by simp) (.inl ⟨rfl,rfl,rfl⟩) (names.length+1+1) (names.length+1+1)
 refine⟨c,T,qmbb (names.length+1) ?_,z2⟩
 rw[List.append_nil] at z1
 simp only[faz,ptrC,qcu,d1,qhc,hn.len,Option.bind_some]
 exact z1
theorem gm_way {H0:List Entry}{ids:List Nat}{g:Nat}{names:List Str}{next:List (List Str)}(hG:GraphM H0 ids g names next)(h1:names.length≤1048576)(h3:∀ d∈next,d.length≤1073741824)
  (hnm:∀ x y,y∈qak names next x→x∈names) (s:Str) (hs:0 < dst (qak names next) s s):
  ∃ c H' is,qxs [.one (.ptr g 2 0 0 0),.one (Cell.str (bs s)),.one (Cell.str (bs s))] H0=some ([.one c],H')∧Rep H' true true 2 is c (trL 1 qbx (qbvb (qak names next) s))∧is.Nodup:=by
 have hM:=qag
 generalize hnx:qak names next=nx at hs hnm
 have hdb:∀ x,dst nx s x≤1048576:=fun x=>Nat.le_trans (qavc hnm s x) h1
 have hGH:∀ {H row},WayM H0 H (dst nx s) row→GraphM H ids g names next:=fun h=>hG.app (fun j hj=>h.old j (hG.lt j hj)) (Nat.le_of_lt h.len)
 have hnl:∀ x,(nx x).length≤1073741824:=fun x=>by rw[← hnx];exact qjp h3 x
 have hin:∀ {row:List Str},row.Nodup→(∀ x∈row,0 < dst nx s x)→row.length≤1048576:=fun {row} hnd hp=>Nat.le_trans (qcy hnd fun x hx=>by
  have:=hp x hx
  obtain⟨k,hk⟩:∃ k,dst nx s x=k+1:=⟨dst nx s x - 1,by omega⟩
  obtain⟨⟨y,hy,_⟩,_⟩:=qjd hk
  exact hnm x y hy) h1
 have found:∀ {H:List Entry} {i1:List Nat} {cr:Cell} {row:List Str} {y:Str},WayM H0 H (dst nx s) row→RM (H0.length+1) H i1 [] cr (.lst true 1 []) row []→y∉row→row.length≤1048576→
   ∃ H1 p j1,qls H (.mp H0.length 0) (bs y) (dst nx s y:Nat)=some H1∧app (H1++[Entry.mk 1 [[Cell.str (bs y)]] 0 false]) 1 16 cr [[Cell.str (bs y)]]=some p∧WayM H0 p.2 (dst nx s) (row++[y])∧
    RM (H0.length+1) p.2 j1 [] p.1 (.lst true 1 []) (row++[y]) []∧H.length≤p.2.length∧(∀ j,j < H.length→j≠H0.length→j∉i1→p.2[j]?=H[j]?)∧∀ j∈j1,j∈i1∨H.length≤j:=by
  intro H i1 cr row y hw hr hy hl
  obtain⟨H1,u1,u2,u3,u4⟩:=hw.put hy
  have hr1:RM (H0.length+1) H1 i1 [] cr (.lst true 1 []) row []:=hr.at fun j hj _=>u4 j (by omega)
  have hlen:=u2.len
  obtain⟨p,j1,a1,r1,m1,k1,g1⟩:=hr1.own1 (by omega) y (by omega)
  have hlo:=hr.lo
  refine⟨H1,p,j1,u1,a1,u2.frame m1 fun j hj=>k1 j (by omega) fun h=>?_,r1,by omega,fun j hj hne hni=>?_,fun j hj=>?_⟩
  ·have:=(hlo j h).1
   omega
  ·rw[k1 j (by omega) hni,u4 j hne]
  ·rcases g1 j hj with h | h
   ·exact .inl h
   ·exact .inr (by omega)
 have L4:∀ (x:Str) (j:Nat),dst nx s x=j+2→∀ (y:Str) (r:List Str) (i n:Nat) (H:List Entry) (i2 ds:List Nat) (c cy:Cell) (row out:List Str),(nx x).drop i=r→r.length < n→(r.find? fun y=>dst nx s y==j+1)=some y→
   WayM H0 H (dst nx s) row→(∀ z,0 < dst nx s z→z∈row)→RM (H0.length+1) H i2 [] c (.lst true 1 []) out []→qce H ds cy (nx x)→out.length≤1048576→∀ (b:Cell→ByteArray→Cell→Cell→List Entry→Option Res) k m,
   ∃ c' H' j2,qbqb k m b n (.ptr g 2 0 0 0) (bs x) (.mp H0.length 0) c cy (nx x).length i H=b (.ptr g 2 0 0 0) (bs y) (.mp H0.length 0) c' H'∧WayM H0 H' (dst nx s) row∧RM (H0.length+1) H' j2 [] c' (.lst true 1 []) (out++[y]) []:=by
  intro x j hxj y r
  induction r with
  | nil=>
   intro i n H i2 ds c cy row out hd hn hf
   simp at hf
  | cons z r ih=>
   intro i n H i2 ds c cy row out hd hn hf hw hall hr hcy hol b k m
   obtain⟨n,rfl⟩:∃ j,n=j+1:=⟨n - 1,by omega⟩
   obtain⟨hlt,hx,hd'⟩:=qaq hd
   simp only[List.length_cons] at hn
   obtain⟨a1,rw1,off,t1,t2,t3⟩:=hcy.at hx
   have hnlx:=hnl x
   have get:∀ z,qlb H (.mp H0.length 0) (bs z)=some ((dst nx s z:Nat):Int):=fun z=>by
    rw[hw.get z]
    by_cases hz:z∈row
    ·rw[if_pos hz]
    ·rw[if_neg hz]
     have:dst nx s z=0:=by
      apply Classical.byContradiction
      intro h0
      exact hz (hall z (by omega))
     rw[this]
     rfl
   have hwr:IntKind.i64.wrap (((dst nx s x:Nat):Int) - 1)=((j+1:Nat):Int):=by
    rw[hxj,wrap_small (by omega) (by have:=hdb x;omega)]
    omega
   simp only[qbqb]
   rw[decide_eq_true (by omega),cond_true]
   simp only[t1,t2,t3,get,hwr,Option.bind_some]
   rw[List.find?_cons] at hf
   by_cases hz:dst nx s z=j+1
   ·rw[show(dst nx s z==j+1)=true by simpa using hz] at hf
    simp only[Option.some.injEq] at hf
    subst hf
    have hlen:=hw.len
    obtain⟨p,j1,a1,r1,m1,k1,g1⟩:=hr.own1 (by omega) z (by omega)
    have hlo:=hr.lo
    refine⟨p.1,p.2,j1,?_,hw.frame m1 fun q hq=>k1 q (by omega) fun h=>by have:=(hlo q h).1;omega,r1⟩
    rw[decide_eq_true (by omega),cond_true,hz]
    rw[show(((j+1:Nat):Int)==((j+1:Nat):Int))=true by simp,cond_true]
    simp only[qneb,a1,Option.bind_some]
   ·rw[show(dst nx s z==j+1)=false by simpa using hz] at hf
    obtain⟨c',H',j2,z1,z2,z3⟩:=ih (i+1) n H i2 ds c cy row out hd' (by omega) hf hw hall hr hcy hol b k m
    refine⟨c',H',j2,?_,z2,z3⟩
    rw[qae (by omega)]
    by_cases h0:dst nx s z=0
    ·rw[h0,decide_eq_false (by omega),cond_false]
     exact z1
    ·rw[decide_eq_true (by omega),cond_true]
     rw[show(((dst nx s z:Nat):Int)==((j+1:Nat):Int))=false by rw[beq_eq_false_iff_ne];omega,cond_false]
     exact z1
 have L3:∀ (j:Nat) (x:Str) (n:Nat) (H:List Entry) (i2:List Nat) (c:Cell) (row out:List Str),dst nx s x=j+1→j < n→WayM H0 H (dst nx s) row→(∀ z,0 < dst nx s z→z∈row)→RM (H0.length+1) H i2 [] c (.lst true 1 []) out []→out.length+j≤1048576→
   ∀ k m,1073741824 < m→∃ c' H' is,qwu k m n (.ptr g 2 0 0 0) (bs x) (.mp H0.length 0) c H=some ([.one c'],H')∧Rep H' true true 2 is c' (trL 1 qbx (out++wayL nx s j x))∧is.Nodup:=by
  intro j
  induction j with
  | zero=>
   intro x n H i2 c row out hx hn hw hall hr hol k m hm
   obtain⟨n,rfl⟩:∃ j,n=j+1:=⟨n - 1,by omega⟩
   refine⟨c,H,i2,?_,by simpa[wayL] using hr.1,hr.2.2.2.2.1⟩
   simp only[qwu,hw.get x,Option.bind_some]
   rw[if_pos (hall x (by omega)),hx,decide_eq_false (by omega),cond_false]
  | succ j ih=>
   intro x n H i2 c row out hx hn hw hall hr hol k m hm
   obtain⟨n,rfl⟩:∃ j,n=j+1:=⟨n - 1,by omega⟩
   obtain⟨d,o1,o2⟩:=qwq (hGH hw) (by omega) x
   rw[hnx] at o2
   obtain⟨y,f1,f2,f3⟩:=qsq hx
   have hnlx:=hnl x
   obtain⟨c',H',j2,z1,z2,z3⟩:=L4 x j hx y (nx x) 0 m H i2 ids c d row out rfl (by omega) f1 hw hall hr o2 (by omega) (qwu k m n) k m
   obtain⟨c2,H2,is,y1,y2,y3⟩:=ih y n H' j2 c' row (out++[y]) f2 (by omega) z2 hall z3 (by simp;omega) k m hm
   refine⟨c2,H2,is,?_,?_,y3⟩
   ·simp only[qwu,hw.get x,Option.bind_some]
    rw[if_pos (hall x (by omega)),hx,decide_eq_true (by omega),cond_true]
    simp only[o1,o2.len,EV0]
    rw[show(0:Int)=((0:Nat):Int) from rfl,z1]
    exact y1
   ·simp only[wayL,f1]
    rw[List.append_cons]
    exact y2
 have L2:∀ (x:Str) (a:Nat) (ys:List Str),ys.length≤1048576→(∀ y∈ys,x∈nx y)→∀ (r:List Str) (i n:Nat) (H:List Entry) (i1 ds:List Nat) (cr cy:Cell) (row:List Str),ys.drop i=r→r.length < n→WayM H0 H (dst nx s) row→RM (H0.length+1) H i1 [] cr (.lst true 1 []) row []→
   qce H ds cy ys→(∀ j∈ds,j < H.length∧H0.length < j∧j∉i1)→Bf nx s row a→row[a]?=some x→∀ (b:Cell→ByteArray→Cell→Cell→Int→List Entry→Option Res) k m,
   ∃ cr' H' j1 row',qzp k m b n (.ptr g 2 0 0 0) (bs s) (.mp H0.length 0) cr a cy ys.length i H=b (.ptr g 2 0 0 0) (bs s) (.mp H0.length 0) cr' (IntKind.i64.wrap ((a:Int)+1)) H'∧WayM H0 H' (dst nx s) row'∧
    RM (H0.length+1) H' j1 [] cr' (.lst true 1 []) row' []∧Bf nx s row' a∧row'[a]?=some x∧(∀ y∈row,y∈row')∧∀ y∈r,y∈row':=by
  intro x a ys hys hyx r
  induction r with
  | nil=>
   intro i n H i1 ds cr cy row hd hn hw hr hcy hds hb hxa b k m
   obtain⟨n,rfl⟩:∃ j,n=j+1:=⟨n - 1,by omega⟩
   have:=drop_nil hd
   refine⟨cr,H,i1,row,?_,hw,hr,hb,hxa,fun _ h=>h,by simp⟩
   simp only[qzp]
   rw[decide_eq_false (by omega),cond_false]
  | cons y r ih=>
   intro i n H i1 ds cr cy row hd hn hw hr hcy hds hb hxa b k m
   obtain⟨n,rfl⟩:∃ j,n=j+1:=⟨n - 1,by omega⟩
   obtain⟨hlt,hx,hd'⟩:=qaq hd
   simp only[List.length_cons] at hn
   obtain⟨a1,rw1,off,t1,t2,t3⟩:=hcy.at hx
   have hrl:=hin hb.nd hb.pos
   have hxr:=List.mem_of_getElem? hxa
   simp only[qzp]
   rw[decide_eq_true (by omega),cond_true]
   simp only[t1,t2,t3,hw.get y,qae (show i < maxLen by omega),Option.bind_some]
   by_cases hyr:y∈row
   ·have hp:=hb.pos y hyr
    rw[if_pos hyr,show(((dst nx s y:Nat):Int)==0)=false by rw[beq_eq_false_iff_ne];omega,cond_false]
    obtain⟨cr',H',j1,row',z1,z2,z3,z4,z5,z6,z7⟩:=ih (i+1) n H i1 ds cr cy row hd' (by omega) hw hr hcy hds hb hxa b k m
    refine⟨cr',H',j1,row',z1,z2,z3,z4,z5,z6,fun q hq=>?_⟩
    rcases List.mem_cons.1 hq with rfl | hq
    ·exact z6 _ hyr
    ·exact z7 q hq
   ·have hxy:=hyx y (List.mem_of_getElem? hx)
    have hfar:=hb.far hxa hxy hyr
    rw[if_neg hyr,show((0:Int)==0)=true from rfl,cond_true]
    obtain⟨a2,rw2,off2,s1,s2,s3⟩:=(qce.of (n:=2) hr.1).at hxa
    have hwr:IntKind.i64.wrap (((dst nx s x:Nat):Int)+1)=((dst nx s y:Nat):Int):=by
     rw[hfar,qae (by have:=hdb x;omega)]
    obtain⟨H1,p,j1,u1,u2,u3,u4,u5,u6,u7⟩:=found hw hr hyr hrl
    simp only[s1,s2,s3,hw.get x,if_pos hxr,hwr,u1,qneb,u2,Option.bind_some]
    have hxa':(row++[y])[a]?=some x:=by rw[List.getElem?_append_left (List.getElem?_eq_some_iff.1 hxa).1];exact hxa
    obtain⟨cr',H',j2,row',z1,z2,z3,z4,z5,z6,z7⟩:=ih (i+1) n p.2 j1 ds p.1 cy (row++[y]) hd' (by omega) u3 u4 (hcy.frame fun j hj=>by
     obtain⟨d1,d2,d3⟩:=hds j hj
     exact u6 j d1 (by omega) d3) (fun j hj=>by
     obtain⟨d1,d2,d3⟩:=hds j hj
     refine⟨by omega,d2,fun h=>?_⟩
     rcases u7 j h with h | h
     ·exact d3 h
     ·omega) (hb.push hxa hxy hyr) hxa' b k m
    refine⟨cr',H',j2,row',z1,z2,z3,z4,z5,fun q hq=>z6 q (List.mem_append_left _ hq),fun q hq=>?_⟩
    rcases List.mem_cons.1 hq with rfl | hq
    ·exact z6 _ (List.mem_append_right _ (by simp))
    ·exact z7 q hq
 have L1:∀ (d i n:Nat) (H:List Entry) (i1:List Nat) (cr:Cell) (row:List Str),names.length≤i+d→d < n→WayM H0 H (dst nx s) row→RM (H0.length+1) H i1 [] cr (.lst true 1 []) row []→Bf nx s row i→∀ k m,1073741824 < m→
   ∃ c H' is,qtq k m n (.ptr g 2 0 0 0) (bs s) (.mp H0.length 0) cr i H=some ([.one c],H')∧Rep H' true true 2 is c (trL 1 qbx (qbvb nx s))∧is.Nodup:=by
  intro d
  induction d with
  | zero=>
   intro i n H i1 cr row hd hn hw hr hb k m hm
   obtain⟨n,rfl⟩:∃ j,n=j+1:=⟨n - 1,by omega⟩
   have hrn:row.length≤names.length:=qcy hb.nd fun x hx=>by
    have:=hb.pos x hx
    obtain⟨k,hk⟩:∃ k,dst nx s x=k+1:=⟨dst nx s x - 1,by omega⟩
    obtain⟨⟨y,hy,_⟩,_⟩:=qjd hk
    exact hnm x y hy
   have hlen:=hw.len
   obtain⟨j,hj⟩:∃ j,dst nx s s=j+1:=⟨dst nx s s - 1,by omega⟩
   have hjb:=hdb s
   have hw':WayM H0 (H++[Entry.mk 1 [[Cell.str (bs s)]] 0 false]) (dst nx s) row:=hw.frame (by simp) fun q hq=>List.getElem?_append_left (by omega)
   have hr':RM (H0.length+1) (H++[Entry.mk 1 [[Cell.str (bs s)]] 0 false]) [H.length] [] (.vs H.length 1 0 1 0) (.lst true 1 []) [s] []:=by
    refine⟨.inr ⟨H.length,0,0,[[Cell.str (bs s)]],false,[],rfl,by simp[trL],by simp,fun _=>rfl,fun _=>⟨rfl,by simp[trL]⟩,by simp[trL],by simp,?_⟩,.inl ⟨rfl,rfl,true,rfl⟩,qcd _ _ _ _ _,qci _,by simp,by simp,by simp,by simp;omega,by simp⟩
    exact qfwb [s] _
   obtain⟨c,H',is,z1,z2,z3⟩:=L3 j s m _ [H.length] _ row [s] hj (by omega) hw' (fun z hz=>hb.all (by omega) hz) hr' (by simp;omega) k m hm
   refine⟨c,H',is,?_,by rw[qbvb,hj];exact z2,z3⟩
   simp only[qtq,(qce.of (n:=2) hr.1).len,Option.bind_some]
   rw[decide_eq_false (by omega),cond_false]
   exact z1
  | succ d ih=>
   intro i n H i1 cr row hd hn hw hr hb k m hm
   obtain⟨n,rfl⟩:∃ j,n=j+1:=⟨n - 1,by omega⟩
   by_cases hi:i < row.length
   ·have hrl:=hin hb.nd hb.pos
    have hx:row[i]?=some row[i]:=List.getElem?_eq_getElem hi
    generalize row[i]=x at hx
    obtain⟨a1,rw1,off,t1,t2,t3⟩:=(qce.of (n:=2) hr.1).at hx
    obtain⟨cy,T,e1,g1⟩:=qrib (hGH hw) h1 h3 x
    rw[hnx] at g1
    have hahl:(ahOf names nx x).length≤1048576:=Nat.le_trans (List.length_filter_le _ _) h1
    obtain⟨ds,p1,p2,p3⟩:=g1.list
    have hlen:=hw.len
    have hlo:=hr.lo
    have hw':WayM H0 (H++T) (dst nx s) row:=hw.frame (by simp) fun q hq=>List.getElem?_append_left (by omega)
    obtain⟨cr',H',j1,row',z1,z2,z3,z4,z5,z6,z7⟩:=L2 x i (ahOf names nx x) hahl (fun y hy=>(qtp hnm).1 hy) (ahOf names nx x) 0 m (H++T) i1 ds cr cy row rfl (by omega) hw' (hr.frame fun q hq=>List.getElem?_append_left hq) (qce.of (n:=2) p1) (fun j hj=>by
     have h5:=p1.lt j hj
     have h6:=p3 j hj
     refine⟨h5,by omega,fun h=>?_⟩
     have:=(hlo j h).2
     omega) hb hx (qtq k m n) k m
    obtain⟨c,H2,is,y1,y2,y3⟩:=ih (i+1) n H' j1 cr' row' (by omega) (by omega) z2 z3 (z4.next z5 fun y hy=>z7 y ((qtp hnm).2 hy)) k m hm
    refine⟨c,H2,is,?_,y2,y3⟩
    simp only[qtq,(qce.of (n:=2) hr.1).len,Option.bind_some]
    rw[decide_eq_true (by omega),cond_true]
    simp only[t1,t2,t3,e1,(qce.of (n:=2) p1).len,EV0]
    rw[show(0:Int)=((0:Nat):Int) from rfl,z1,qae (by omega)]
    exact y1
   ·have hlen:=hw.len
    obtain⟨j,hj⟩:∃ j,dst nx s s=j+1:=⟨dst nx s s - 1,by omega⟩
    have hjb:=hdb s
    have hw':WayM H0 (H++[Entry.mk 1 [[Cell.str (bs s)]] 0 false]) (dst nx s) row:=hw.frame (by simp) fun q hq=>List.getElem?_append_left (by omega)
    have hr':RM (H0.length+1) (H++[Entry.mk 1 [[Cell.str (bs s)]] 0 false]) [H.length] [] (.vs H.length 1 0 1 0) (.lst true 1 []) [s] []:=by
     refine⟨.inr ⟨H.length,0,0,[[Cell.str (bs s)]],false,[],rfl,by simp[trL],by simp,fun _=>rfl,fun _=>⟨rfl,by simp[trL]⟩,by simp[trL],by simp,?_⟩,.inl ⟨rfl,rfl,true,rfl⟩,qcd _ _ _ _ _,qci _,by simp,by simp,by simp,by simp;omega,by simp⟩
     exact qfwb [s] _
    obtain⟨c,H',is,z1,z2,z3⟩:=L3 j s m _ [H.length] _ row [s] hj (by omega) hw' (fun z hz=>hb.all (by omega) hz) hr' (by simp;omega) k m hm
    refine⟨c,H',is,?_,by rw[qbvb,hj];exact z2,z3⟩
    simp only[qtq,(qce.of (n:=2) hr.1).len,Option.bind_some]
    rw[decide_eq_false (by omega),cond_false]
    exact z1
 have L0:∀ (ys:List Str),ys.length≤1048576→(∀ y,s∈nx y→y∈ys)→(∀ y∈ys,s∈nx y)→∀ (r:List Str) (i n:Nat) (H:List Entry) (i1 ds:List Nat) (cr cy:Cell) (row:List Str),ys.drop i=r→r.length < n→WayM H0 H (dst nx s) row→RM (H0.length+1) H i1 [] cr (.lst true 1 []) row []→
   qce H ds cy ys→(∀ j∈ds,j < H.length∧H0.length < j∧j∉i1)→row.Nodup→(∀ x∈row,dst nx s x=1)→(∀ y∈ys,y∈row∨y∈r)→∀ k m,1073741824 < m→
   ∃ c H' is,qze k m n (.ptr g 2 0 0 0) (bs s) (.mp H0.length 0) cr cy ys.length i H=some ([.one c],H')∧Rep H' true true 2 is c (trL 1 qbx (qbvb nx s))∧is.Nodup:=by
  intro ys hys hys1 hys2 r
  induction r with
  | nil=>
   intro i n H i1 ds cr cy row hd hn hw hr hcy hds hnd hone hin2 k m hm
   obtain⟨n,rfl⟩:∃ j,n=j+1:=⟨n - 1,by omega⟩
   have:=drop_nil hd
   obtain⟨c,H',is,z1,z2⟩:=L1 names.length 0 m H i1 cr row (by omega) (by omega) hw hr (Bf.start hnd hone fun x hx=>by
    rcases hin2 x (hys1 x hx) with h | h
    ·exact h
    ·simp at h) k m hm
   refine⟨c,H',is,?_,z2⟩
   simp only[qze]
   rw[decide_eq_false (by omega),cond_false]
   exact z1
  | cons y r ih=>
   intro i n H i1 ds cr cy row hd hn hw hr hcy hds hnd hone hin2 k m hm
   obtain⟨n,rfl⟩:∃ j,n=j+1:=⟨n - 1,by omega⟩
   obtain⟨hlt,hx,hd'⟩:=qaq hd
   simp only[List.length_cons] at hn
   obtain⟨a1,rw1,off,t1,t2,t3⟩:=hcy.at hx
   have hrl:=hin hnd fun x hx=>by rw[hone x hx];omega
   simp only[qze]
   rw[decide_eq_true (by omega),cond_true]
   simp only[t1,t2,t3,hw.get y,qae (show i < maxLen by omega),Option.bind_some]
   by_cases hyr:y∈row
   ·rw[if_pos hyr,hone y hyr,show(((1:Nat):Int)==0)=false from rfl,cond_false]
    exact ih (i+1) n H i1 ds cr cy row hd' (by omega) hw hr hcy hds hnd hone (fun q hq=>by
     rcases hin2 q hq with h | h
     ·exact .inl h
     ·rcases List.mem_cons.1 h with rfl | h
      ·exact .inl hyr
      ·exact .inr h) k m hm
   ·have hd1:dst nx s y=1:=qhsb.2 (hys2 y (List.mem_of_getElem? hx))
    rw[if_neg hyr,show((0:Int)==0)=true from rfl,cond_true]
    obtain⟨H1,p,j1,u1,u2,u3,u4,u5,u6,u7⟩:=found hw hr hyr hrl
    rw[hd1] at u1
    simp only[show((1:Nat):Int)=1 from rfl] at u1
    simp only[u1,qneb,u2,Option.bind_some]
    refine ih (i+1) n p.2 j1 ds p.1 cy (row++[y]) hd' (by omega) u3 u4 (hcy.frame fun j hj=>by
     obtain⟨d1,d2,d3⟩:=hds j hj
     exact u6 j d1 (by omega) d3) (fun j hj=>by
     obtain⟨d1,d2,d3⟩:=hds j hj
     refine⟨by omega,d2,fun h=>?_⟩
     rcases u7 j h with h | h
     ·exact d3 h
     ·omega) ?_ (fun x hx=>?_) (fun q hq=>?_) k m hm
    ·rw[List.nodup_append]
     refine⟨hnd,by simp,fun a ha b hb e=>?_⟩
     simp only[List.mem_singleton] at hb
     rw[e,hb] at ha
     exact hyr ha
    ·rcases List.mem_append.1 hx with h | h
     ·exact hone x h
     ·simp only[List.mem_singleton] at h
      rw[h]
      exact hd1
    ·rcases hin2 q hq with h | h
     ·exact .inl (List.mem_append_left _ h)
     ·rcases List.mem_cons.1 h with rfl | h
      ·exact .inl (List.mem_append_right _ (by simp))
      ·exact .inr h
 have hw0:WayM H0 (H0++[Entry.mk 2 [] 0 false]++[Entry.mk 1 [] 0 false]) (dst nx s) []:=⟨by simp,fun j hj=>by rw[List.getElem?_append_left (by simp;omega),List.getElem?_append_left hj],by simp[qhx]⟩
 have hr0:RM (H0.length+1) (H0++[Entry.mk 2 [] 0 false]++[Entry.mk 1 [] 0 false]) [H0.length+1] [] (.vs (H0.length+1) 1 0 0 0) (.lst true 1 []) [] []:=
  ⟨.inr ⟨H0.length+1,0,0,[],false,[],rfl,by simp[trL],by simp,fun _=>rfl,fun _=>⟨rfl,by simp[trL]⟩,by simp[trL],by simp,.nil⟩,.inl ⟨rfl,rfl,true,rfl⟩,qcd _ _ _ _ _,qci _,by simp,by simp,by simp,by simp,by simp⟩
 obtain⟨cy,T,e1,g1⟩:=qrib (hGH hw0) h1 h3 s
 rw[hnx] at g1
 have hahl:(ahOf names nx s).length≤1048576:=Nat.le_trans (List.length_filter_le _ _) h1
 obtain⟨ds,p1,p2,p3⟩:=g1.list
 have hw1:WayM H0 (H0++[Entry.mk 2 [] 0 false]++[Entry.mk 1 [] 0 false]++T) (dst nx s) []:=hw0.frame (by simp) fun q hq=>List.getElem?_append_left (by simp;omega)
 obtain⟨c,H',is,z1,z2⟩:=L0 (ahOf names nx s) hahl (fun y hy=>(qtp hnm).2 hy) (fun y hy=>(qtp hnm).1 hy) (ahOf names nx s) 0 (1073741824+1+1) (H0++[Entry.mk 2 [] 0 false]++[Entry.mk 1 [] 0 false]++T) [H0.length+1] ds (.vs (H0.length+1) 1 0 0 0) cy [] rfl (by omega) hw1 (hr0.frame fun q hq=>List.getElem?_append_left hq) (qce.of (n:=2) p1) (fun j hj=>by
  have h5:=p1.lt j hj
  have h6:=p3 j hj
  simp only[List.length_append,List.length_singleton] at h6
  exact⟨h5,by omega,by simp;omega⟩) (by simp) (by simp) (fun q hq=>.inr hq) (1073741824+1+1) (1073741824+1+1) (by omega)
 refine⟨c,H',is,qmkb (1073741824+1) ?_,z2⟩
 have hl2:(H0++[Entry.mk 2 [] 0 false]).length=H0.length+1:=by simp
 simp only[fbg,e1,hl2,(qce.of (n:=2) p1).len,EV0]
 exact z1
theorem qww {nx:Str→List Str}{U:List Str}(hm:∀ x,∀ y∈nx x,y∈U)(s t:Str):(qeq nx s).contains t=decide (0 < dst nx t s):=by
 obtain⟨o,ho⟩:=qti (s:=s) hm
 rw[qdx ho]
 have:t∈qcm o↔0 < dst nx t s:=((qbs o).2 t).trans ((ho t).trans qwmb)
 by_cases h:0 < dst nx t s
 ·rw[decide_eq_true h]
  exact List.contains_iff_mem.2 (this.2 h)
 ·rw[decide_eq_false h]
  cases hc:(qcm o).contains t with
  | false=>rfl
  | true=>exact absurd (this.1 (List.contains_iff_mem.1 hc)) h
theorem qaad {H0:List Entry}{ids:List Nat}{g:Nat}{names:List Str}{next:List (List Str)}(hG:GraphM H0 ids g names next)(h1:names.length≤1048576)(h3:∀ d∈next,d.length≤1048576)
  (U:List Str) (hU:U.length≤1048576) (hm:∀ x,∀ y∈qak names next x,y∈U) (hnm:∀ x y,y∈qak names next x→x∈names):
  ∃ c H' is,quz [.one (.ptr g 2 0 0 0)] H0=some ([.one c],H')∧Rep H' true true 2 is c (trL 1 qbx (qbub names (qak names next)))∧is.Nodup:=by
 have hM:=qag
 have h3':∀ d∈next,d.length≤1073741824:=fun d hd=>Nat.le_trans (h3 d hd) (by omega)
 have hnl:∀ x,(qak names next x).length≤1048576:=fun x=>by
  unfold qak
  split
  ·simp
  ·cases hd:next[(idxS x names 0).toNat]? with
   | none=>simp
   | some d=>exact h3 d (List.mem_of_getElem? hd)
 obtain⟨_,hlt,hlen,cn,co,fr,he,hn,ho⟩:=id hG
 have d0:deref H0 (.ptr g 2 0 0 0)=some ([cn,co],0):=by simp[deref,entry?,he]
 have loop:∀ (r:List Str) (i n:Nat) (H:List Entry),names.drop i=r→r.length < n→H0.length≤H.length→(∀ j,j < H0.length→H[j]?=H0[j]?)→∀ k m,
   ∃ c H' is,qasb k m n (.ptr g 2 0 0 0) cn names.length i H=some ([.one c],H')∧Rep H' true true 2 is c (trL 1 qbx (match r.find? fun x=>decide (0 < dst (qak names next) x x) with
    | some x=>qbvb (qak names next) x
    | none=>[]))∧is.Nodup:=by
  intro r
  induction r with
  | nil=>
   intro i n H hd hn' hl h0 k m
   obtain⟨n,rfl⟩:∃ j,n=j+1:=⟨n - 1,by omega⟩
   have:=drop_nil hd
   refine⟨.lst true 1 [],H,[],?_,.inl ⟨rfl,rfl,true,rfl⟩,by simp⟩
   simp only[qasb]
   rw[decide_eq_false (by omega),cond_false]
  | cons x r ih=>
   intro i n H hd hn' hl h0 k m
   obtain⟨n,rfl⟩:∃ j,n=j+1:=⟨n - 1,by omega⟩
   obtain⟨hlt',hx,hd'⟩:=qaq hd
   simp only[List.length_cons] at hn'
   have hGH:GraphM H ids g names next:=hG.app (fun j hj=>h0 j (hG.lt j hj)) hl
   obtain⟨a1,rw1,off,t1,t2,t3⟩:=(hn.frame fun j hj=>h0 j (hlt j hj)).at hx
   obtain⟨c,H1,is,e1,r1,r2,r3,r4⟩:=qgq hGH (qak names next) U hU hm hnl (fun H1 x hG1=>by
    obtain⟨d,q1,q2⟩:=qwq hG1 (by omega) x
    exact⟨d,H1,ids,q1,q2,Nat.le_refl _,fun _ _=>rfl,fun j hj=>⟨hG1.lt j hj,.inl (hGH.lt j hj)⟩⟩) x
   have hrl:(qeq (qak names next) x).length≤1048576:=Nat.le_trans (qlz (s:=x) hm).1 hU
   have q1:qbc qch [.one c,.one (Cell.str (bs x))] H1=some [.one (Cell.bool (decide (0 < dst (qak names next) x x)))]:=by
    rw[qbv (qbb (qce.of (n:=2) r1).read (qbb (qam _ _ _) (qas _))),← qww hm]
    exact qelc _ x (by omega)
   have h01:∀ j,j < H0.length→H1[j]?=H0[j]?:=fun j hj=>(r4 j (by omega)).trans (h0 j hj)
   simp only[qasb]
   rw[decide_eq_true (by omega),cond_true]
   simp only[t1,t2,t3,e1,q1,qae (show i < maxLen by omega),EV0,List.find?_cons]
   by_cases hp:0 < dst (qak names next) x x
   ·rw[decide_eq_true hp,cond_true]
    obtain⟨c2,H2,is2,y1,y2,y3⟩:=gm_way (hG.app (fun j hj=>h01 j (hG.lt j hj)) (by omega)) h1 h3' hnm x hp
    refine⟨c2,H2,is2,?_,y2,y3⟩
    simp only[y1,EV0]
   ·rw[decide_eq_false hp,cond_false]
    exact ih (i+1) n H1 hd' (by omega) (by omega) h01 k m
 obtain⟨c,H',is,z1,z2⟩:=loop names 0 (names.length+1+1) H0 rfl (by omega) (Nat.le_refl _) (fun _ _=>rfl) (names.length+1+1) (names.length+1+1)
 refine⟨c,H',is,qmnb (names.length+1) ?_,z2⟩
 simp only[fbf,ptrC,qcu,d0,qhc,hn.len,Option.bind_some]
 exact z1
theorem qgub (s:Str):∀ (l:List Str) (i j:Nat),idxS s l i=((i+j:Nat):Int)→l[j]?=some s
 | [],i,j,h=>by
  simp only[idxS] at h
  omega
 | b::r,i,j,h=>by
  unfold idxS at h
  split at h
  ·rename_i e
   obtain rfl:j=0:=by omega
   simp[e]
  ·cases j with
   | zero=>rcases qcfb s r (i+1) with⟨e,_⟩ | ⟨j,x,e,_⟩<;>omega
   | succ j=>
    have:=qgub s r (i+1) j (by rw[h];congr 1;omega)
    simpa using this
def qmx (names l:List Str):List (Str×List Str)→Nat→List Str | [],_=>[] | x::r,i=>(if idxS x.1 names 0=(i:Int)∧x.2.any l.contains=true then [x.1] else [])++qmx names l r (i+1)
def qujc (names:List Str)(next:List (List Str))(l:List Str):List Str:=qmx names l (names.zip next) 0
theorem qzf (names l:List Str):∀ (r:List (Str×List Str)) (i:Nat),(qmx names l r i).length≤r.length
 | [],_=>by simp[qmx]
 | x::r,i=>by
  have:=qzf names l r (i+1)
  simp only[qmx,List.length_append,List.length_cons]
  split<;>simp<;>omega
theorem qsfb {names:List Str}{next:List (List Str)}{l:List Str}{x:Str}:∀ (r:List (Str×List Str)) (i:Nat),(names.zip next).drop i=r→
  (x∈qmx names l r i↔∃ j:Nat,i≤j∧idxS x names 0=(j:Int)∧∃ d,next[j]?=some d∧∃ y,y∈d∧y∈l):=by
 intro r
 induction r with
 | nil=>
  intro i hd
  have:=drop_nil hd
  simp only[List.length_zip] at this
  refine⟨fun h=>by simp[qmx] at h,fun ⟨j,h1,h2,d,h3,_⟩=>?_⟩
  have a:=(List.getElem?_eq_some_iff.1 (qgub x names 0 j (by rw[h2];congr 1;omega))).1
  have b:=(List.getElem?_eq_some_iff.1 h3).1
  omega
 | cons p r ih=>
  intro i hd
  obtain⟨hlt,hx,hd'⟩:=qaq hd
  obtain⟨a,d⟩:=p
  obtain⟨hxn,hxd⟩:names[i]?=some a∧next[i]?=some d:=by
   rw[List.getElem?_zip_eq_some] at hx
   exact hx
  simp only[qmx,List.mem_append]
  rw[ih (i+1) hd']
  constructor
  ·rintro (h | ⟨j,h1,h2⟩)
   ·split at h
    ·rename_i hc
     simp only[List.mem_singleton] at h
     subst h
     obtain⟨y,hy,hyl⟩:=List.any_eq_true.1 hc.2
     exact⟨i,Nat.le_refl _,hc.1,d,hxd,y,hy,List.contains_iff_mem.1 hyl⟩
    ·simp at h
   ·exact⟨j,by omega,h2⟩
  ·rintro ⟨j,h1,h2,d',h3,y,hy,hyl⟩
   by_cases e:j=i
   ·subst e
    left
    have hh:=qgub x names 0 j (by rw[h2];congr 1;omega)
    rw[hxn] at hh
    rw[hxd] at h3
    simp only[Option.some.injEq] at hh h3
    subst hh
    subst h3
    rw[if_pos ⟨h2,List.any_eq_true.2 ⟨y,hy,List.contains_iff_mem.2 hyl⟩⟩]
    simp
   ·exact .inr ⟨j,by omega,h2,d',h3,y,hy,hyl⟩
theorem qutb {names:List Str}{next:List (List Str)}{l:List Str}{x:Str}:x∈qujc names next l↔∃ y,y∈qak names next x∧y∈l:=by
 unfold qujc
 rw[qsfb (next:=next) (names.zip next) 0 (by simp)]
 constructor
 ·rintro ⟨j,_,h2,d,h3,y,hy,hyl⟩
  refine⟨y,?_,hyl⟩
  rw[qak,h2,if_neg (by omega)]
  simpa[h3] using hy
 ·rintro ⟨y,hy,hyl⟩
  unfold qak at hy
  split at hy
  ·simp at hy
  ·rename_i hn
   obtain⟨j,hj⟩:∃ j:Nat,idxS x names 0=(j:Int):=⟨(idxS x names 0).toNat,by omega⟩
   rw[hj,Int.toNat_natCast] at hy
   cases hd:next[j]? with
   | none=>rw[hd] at hy;simp at hy
   | some d=>
    rw[hd] at hy
    exact⟨j,by omega,hj,d,hd,y,hy,hyl⟩
theorem c_fdc (names:List Str)(next:List (List Str))(l:List Str)(h1:names.length≤1048576)(h2:names.length=next.length)(h3:∀ d∈next,d.length≤1073741824)(hl:l.length≤1073741824):
  outL qoo [.agg [qax names,encL 1 qcz next],.one (qax l)]=some [.one (qax (qujc names next l))]:=by
 have hM:=qag
 have L1:∀ (i:Nat) (x:Str) (d:List Str),names[i]?=some x→next[i]?=some d→∀ (r:List Str) (q n:Nat) (acc:List Str) (c:Cell) (H:List Entry),d.drop q=r→r.length < n→acc.length≤i→Grow 1 c H (acc.map eStr)→∀ (b:Cell→Cell→Int→Cell→Cell→List Entry→Option Res) k m,
   ∃ c' H',qbfb k m b n (qax l) c i q (qax names) (encL 1 qcz next) H=b (qax l) c' ((i+1:Nat):Int) (qax names) (encL 1 qcz next) H'∧Grow 1 c' H' ((acc++if idxS x names 0=(i:Int)∧r.any l.contains=true then [x] else []).map eStr):=by
  intro i x d hx hd r
  have hil:=(List.getElem?_eq_some_iff.1 hx).1
  have hdl:=h3 d (List.mem_of_getElem? hd)
  have q2:out qfm [.agg [qax names,encL 1 qcz next],.one (Cell.str (bs x))]=some [.one (Cell.int (idxS x names 0))]:=qxec names _ x (by omega)
  induction r with
  | nil=>
   intro q n acc c H hdr hn ha hg b k m
   obtain⟨n,rfl⟩:∃ j,n=j+1:=⟨n - 1,by omega⟩
   have:=drop_nil hdr
   refine⟨c,H,?_,by simpa using hg⟩
   simp only[qbfb,qav,hd,qcz,EV0]
   rw[decide_eq_false (by omega),cond_false,qae (by omega)]
  | cons y r ih=>
   intro q n acc c H hdr hn ha hg b k m
   obtain⟨n,rfl⟩:∃ j,n=j+1:=⟨n - 1,by omega⟩
   obtain⟨hlt,hy,hdr'⟩:=qaq hdr
   simp only[List.length_cons] at hn
   have q1:out qby [.one (qax l),.one (Cell.str (bs y))]=some [.one (Cell.bool (l.contains y))]:=qsrb l y hl
   simp only[qbfb,qav,hd,hx,qcz,EV0]
   rw[decide_eq_true (by omega),cond_true]
   simp only[eStr,q2,EV0]
   by_cases hi:idxS x names 0=(i:Int)
   ·rw[hi]
    simp only[hy,eStr,q1,EV0]
    cases hc:l.contains y with
    | true=>
     obtain⟨p,e1,e2⟩:=hg.app (by':=16) [[Cell.str (bs x)]] (by unfold bound;simp;omega) (by unfold bound;simp;omega)
     refine⟨p.1,p.2,?_,?_⟩
     ·simp only[cond_true,e1,Option.bind_some]
      rw[qae (by omega)]
     ·rw[if_pos ⟨trivial,List.any_eq_true.2 ⟨y,by simp,hc⟩⟩]
      simpa[eStr] using e2
    | false=>
     obtain⟨c',H',z1,z2⟩:=ih (q+1) n acc c H hdr' (by omega) ha hg b k m
     refine⟨c',H',?_,?_⟩
     ·simp only[cond_false]
      rw[qae (by omega)]
      exact z1
     ·have e:(y::r).any l.contains=r.any l.contains:=by rw[List.any_cons,hc,Bool.false_or]
      rw[e]
      simp only[hi] at z2
      exact z2
   ·refine⟨c,H,?_,?_⟩
    ·rw[show(idxS x names 0==(i:Int))=false by rw[beq_eq_false_iff_ne];exact hi,cond_false,qae (by omega)]
    ·rw[if_neg fun h=>hi h.1]
     simpa using hg
 have L0:∀ (r:List (Str×List Str)) (i n:Nat) (acc:List Str) (c:Cell) (H:List Entry),(names.zip next).drop i=r→r.length < n→acc.length≤i→Grow 1 c H (acc.map eStr)→∀ k m,1073741824 < m→
   ∃ c' H',qyo k m n (qax l) c i (qax names) (encL 1 qcz next) H=some ([.one c'],H')∧Grow 1 c' H' ((acc++qmx names l r i).map eStr):=by
  intro r
  induction r with
  | nil=>
   intro i n acc c H hd hn ha hg k m hm
   obtain⟨n,rfl⟩:∃ j,n=j+1:=⟨n - 1,by omega⟩
   have:=drop_nil hd
   simp only[List.length_zip] at this
   refine⟨c,H,?_,by simpa[qmx] using hg⟩
   simp only[qyo,EV0]
   rw[decide_eq_false (by omega),cond_false]
  | cons p r ih=>
   intro i n acc c H hd hn ha hg k m hm
   obtain⟨n,rfl⟩:∃ j,n=j+1:=⟨n - 1,by omega⟩
   obtain⟨hlt,hx,hd'⟩:=qaq hd
   simp only[List.length_cons] at hn
   simp only[List.length_zip] at hlt
   obtain⟨a,d⟩:=p
   obtain⟨hxn,hxd⟩:names[i]?=some a∧next[i]?=some d:=by
    rw[List.getElem?_zip_eq_some] at hx
    exact hx
   have hdl:=h3 d (List.mem_of_getElem? hxd)
   obtain⟨c',H',z1,z2⟩:=L1 i a d hxn hxd d 0 m acc c H rfl (by omega) ha hg (qyo k m n) k m
   obtain⟨c2,H2,y1,y2⟩:=ih (i+1) n _ c' H' hd' (by omega) (by
    rw[List.length_append]
    split<;>simp<;>omega) z2 k m hm
   refine⟨c2,H2,?_,by simp only[qmx];rw[← List.append_assoc];exact y2⟩
   simp only[qyo,EV0]
   rw[decide_eq_true (by omega),cond_true,show(0:Int)=((0:Nat):Int) from rfl,z1]
   exact y1
 obtain⟨c,H,z1,z2⟩:=L0 (names.zip next) 0 (1073741824+1+1) [] (.lst true 1 []) [] rfl (by simp;omega) (by simp) (Grow.nil 1) (1073741824+1+1) (1073741824+1+1) (by omega)
 exact qbz (H:=H) (qrmb (1073741824+1) z1) (Grow.read (e:=eStr) z2)
def VecM (N:Nat)(H:List Entry)(c:Cell)(rows:List (List Cell)):Prop:=c=.lst true 1 rows∨∃ id ep,N≤id∧c=.vs id 1 0 rows.length ep∧H[id]?=some (Entry.mk 1 rows ep false)
theorem VecM.len {N:Nat}{H:List Entry}{c:Cell}{rows:List (List Cell)}(h:VecM N H c rows):lenC c=some rows.length:=by
 rcases h with rfl | ⟨id,ep,_,rfl,_⟩<;>simp
theorem VecM.at {N:Nat}{H:List Entry}{c:Cell}{rows:List (List Cell)}(h:VecM N H c rows){i:Nat}{row:List Cell}(hr:rows[i]?=some row):∃ a,idxA 1 c (i:Int)=some a∧deref H a=some (row,0):=by
 have hlt:=(List.getElem?_eq_some_iff.1 hr).1
 rcases h with rfl | ⟨id,ep,_,rfl,he⟩
 ·exact⟨.ref row 0,by rw[qgl,hr];rfl,rfl⟩
 ·refine⟨.ptr id 1 i 0 ep,qgu _ _ _ _ _ hlt,?_⟩
  simp[deref,entry?,he,hr]
theorem VecM.app {N by':Nat}{H:List Entry}{c:Cell}{rows:List (List Cell)}(h:VecM N H c rows)(hN:N≤H.length)(row:List Cell)(h1:(rows.length+1)*by'≤bound)(h2:rows.length+1≤bound):
  ∃ p,Ev.app H 1 by' c [row]=some p∧VecM N p.2 p.1 (rows++[row])∧H.length≤p.2.length∧∀ j,j < N→p.2[j]?=H[j]?:=by
 rcases h with rfl | ⟨id,ep,hid,rfl,he⟩
 ·refine⟨(.vs H.length 1 0 (rows.length+1) 0,H++[⟨1,rows++[row],0,false⟩]),?_,.inr ⟨H.length,0,hN,by simp,by simp⟩,by simp,fun j hj=>List.getElem?_append_left (by omega)⟩
  simp only[Ev.app,List.isEmpty_cons,List.length_singleton]
  rw[if_neg (by simp),if_pos ⟨trivial,.inl trivial,h1,h2⟩]
 ·have hlt:=(List.getElem?_eq_some_iff.1 he).1
  refine⟨(.vs id 1 0 (rows.length+1) (ep+1),H.set id ⟨1,rows++[row],ep+1,false⟩),?_,.inr ⟨id,ep+1,hid,by simp,by simp[hlt]⟩,by simp,fun j hj=>List.getElem?_set_ne (by omega)⟩
  simp only[Ev.app,entry?,he,if_true,List.length_singleton,Nat.zero_add]
  rw[if_pos ⟨trivial,Nat.le_refl _,.inl trivial,h1,h2⟩]
  simp
theorem VecM.keep {N M:Nat}{H H':List Entry}{c:Cell}{rows:List (List Cell)}(h:VecM N H c rows)(k:∀ j,j < H.length→H'[j]?=H[j]?)(hM:M≤N):VecM M H' c rows:=by
 rcases h with h | ⟨id,ep,hid,h1,he⟩
 ·exact .inl h
 ·exact .inr ⟨id,ep,by omega,h1,by rw[k id (List.getElem?_eq_some_iff.1 he).1];exact he⟩
theorem VecM.list {N:Nat}{H:List Entry}{c:Cell}{xs:List Str}(h:VecM N H c (xs.map eStr)):∃ ids,qce H ids c xs:=by
 rcases h with rfl | ⟨id,ep,hid,rfl,he⟩
 ·exact⟨[],.inl ⟨true,rfl⟩⟩
 ·refine⟨[id],.inr ⟨[id],.inr ⟨id,0,ep,xs.map eStr,false,[],by simp,rfl,he,fun _=>rfl,fun _=>⟨rfl,by simp⟩,by simp,by simp[eStr],?_⟩,fun j h=>h⟩⟩
  have:=qfwb xs H
  rw[List.drop_zero,List.length_map,List.take_of_length_le (by simp)]
  exact this.mono fun _ _ _ _ h=>h.mono fun _ _ _ _ h=>h.weak (fun h=>by simp at h) fun h=>by simp at h
theorem qjlb (f:Bool)(xs:List Str)(H:List Entry):qal true H (.one (.lst f 1 (xs.map eStr)))=some (.one (qax xs)):=by
 have h:=(inferInstance:Canon (qax xs)).nrm
 have e:norm (.lst f 1 (xs.map eStr))=norm (qax xs):=by simp only[encL,norm]
 show((some (norm (.lst f 1 (xs.map eStr)))).map AV.one)=_
 rw[e,h]
 rfl
theorem qbzc (p:Run)(x:AV)[CanonA x](f:Bool)(xs:List Str)(H:List Entry):callL p [x,.one (.lst f 1 (xs.map eStr))] H=(outL p [x,.one (qax xs)]).map fun ys=>(ys,H):=by
 have hf:qdf H (.one (.lst f 1 (xs.map eStr)))=H:=rfl
 rw[qkg]
 simp only[List.foldl_cons,List.foldl_nil,qjb,hf]
 rw[qbb (qam _ _ _) (qbb (qjlb f xs H) (qas _))]
 rfl
def lev (names:List Str)(next:List (List Str))(g:Str):Nat→List Str | 0=>[g] | k+1=>qujc names next (lev names next g k)
theorem qwb {names:List Str}{next:List (List Str)}{g:Str}:∀ {k:Nat} {x:Str},x∈lev names next g k↔Wk (qak names next) g k x
 | 0,x=>by simp[lev,Wk]
 | k+1,x=>by
  simp only[lev,Wk,qutb]
  exact⟨fun ⟨y,h1,h2⟩=>⟨y,h1,qwb.1 h2⟩,fun ⟨y,h1,h2⟩=>⟨y,h1,qwb.2 h2⟩⟩
theorem qzcc (names:List Str)(next:List (List Str))(g:Str)(hn:1≤names.length):∀ k,(lev names next g k).length≤names.length
 | 0=>by simpa[lev] using hn
 | k+1=>by
  have:=qzf names (lev names next g k) (names.zip next) 0
  simp only[List.length_zip] at this
  simp only[lev,qujc]
  omega
def qqi (names:List Str)(next:List (List Str))(g:Str):Nat→List Cell | 0=>[.lst true 1 ([g].map eStr)] | k+1=>[qax (lev names next g (k+1))]
theorem qpp (names:List Str)(next:List (List Str))(g:Str):∀ k,∃ f,qqi names next g k=[.lst f 1 ((lev names next g k).map eStr)]
 | 0=>⟨true,rfl⟩
 | k+1=>⟨false,rfl⟩
theorem qiwc {names:List Str}{next:List (List Str)}{g x y:Str}{k:Nat}(hx:dst (qak names next) g x=k+2)(hy:y∈qak names next x):(lev names next g (k+1)).contains y=(dst (qak names next) g y==k+1):=by
 have key:y∈lev names next g (k+1)↔dst (qak names next) g y=k+1:=by
  rw[qwb]
  constructor
  ·intro h
   obtain⟨h1,h2⟩:=qzkb h
   obtain⟨j,hj⟩:∃ j,dst (qak names next) g y=j+1:=⟨dst (qak names next) g y - 1,by omega⟩
   have:=(qyhc hy hj).2
   omega
  ·exact fun h=>(qjd h).1
 by_cases h:dst (qak names next) g y=k+1
 ·rw[h,beq_self_eq_true]
  exact List.contains_iff_mem.2 (key.2 h)
 ·rw[show(dst (qak names next) g y==k+1)=false by simpa using h]
  cases hc:(lev names next g (k+1)).contains y with
  | false=>rfl
  | true=>exact absurd (key.1 (List.contains_iff_mem.1 hc)) h
theorem c_fdk (names:List Str)(next:List (List Str))(g:Str)(h1:names.length≤1048576)(h2:names.length=next.length)(h3:∀ d∈next,d.length≤1073741824)(hnm:∀ x y,y∈qak names next x→x∈names)(hg:0 < dst (qak names next) g g):
  outL quw [.agg [qax names,encL 1 qcz next],.one (Cell.str (bs g))]=some [.one (qax (qbvb (qak names next) g))]:=by
 have hM:=qag
 have hnl:∀ x,(qak names next x).length≤1073741824:=fun x=>qjp h3 x
 have hdb:∀ x,dst (qak names next) g x≤1048576:=fun x=>Nat.le_trans (qavc hnm g x) h1
 have hn1:1≤names.length:=by
  have:=qavc hnm g g
  omega
 have hll:∀ k,(lev names next g k).length≤1048576:=fun k=>Nat.le_trans (qzcc names next g hn1 k) h1
 have hrows:∀ (D k:Nat),k < D→((List.range D).map (qqi names next g))[k]?=some (qqi names next g k):=fun D k h=>by
  rw[List.getElem?_map,List.getElem?_range h]
  rfl
 have L2:∀ (D:Nat) (x:Str) (j:Nat),dst (qak names next) g x=j+2→j+1 < D→∀ (y:Str) (r:List Str) (i n N:Nat) (H:List Entry) (cl c:Cell) (out:List Str),(qak names next x).drop i=r→r.length < n→(r.find? fun y=>dst (qak names next) g y==j+1)=some y→
   VecM 0 H cl ((List.range D).map (qqi names next g))→VecM N H c (out.map eStr)→N≤H.length→out.length≤1048576→∀ (b:Cell→Cell→Int→Cell→Cell→List Entry→Option Res) k m,
   ∃ p:Cell×List Entry,qjvb k m b n cl c ((j+1:Nat):Int) (qax (qak names next x)) i (qax names) (encL 1 qcz next) H=b cl p.1 (j:Int) (qax names) (encL 1 qcz next) p.2∧VecM N p.2 p.1 ((out++[y]).map eStr)∧H.length≤p.2.length∧∀ q,q < N→p.2[q]?=H[q]?:=by
  intro D x j hx hjD y r
  induction r with
  | nil=>
   intro i n N H cl c out hd hn hf
   simp at hf
  | cons z r ih=>
   intro i n N H cl c out hd hn hf hcl hc hN hol b k m
   obtain⟨n,rfl⟩:∃ j,n=j+1:=⟨n - 1,by omega⟩
   obtain⟨hlt,hz,hd'⟩:=qaq hd
   simp only[List.length_cons] at hn
   have hnlx:=hnl x
   obtain⟨a1,t1,t2⟩:=hcl.at (hrows D (j+1) hjD)
   obtain⟨f,hf2⟩:=qpp names next g (j+1)
   rw[hf2] at t2
   have q1:qbc qby [.one (.lst f 1 ((lev names next g (j+1)).map eStr)),.one (Cell.str (bs z))] H=some [.one (Cell.bool (dst (qak names next) g z==j+1))]:=by
    rw[qbv (qbb (qfi _ _ _) (qbb (qam _ _ _) (qas _))),← qiwc hx (List.mem_of_getElem? hz)]
    exact qsrb _ z (Nat.le_trans (hll _) (by omega))
   simp only[qjvb,EV0]
   rw[decide_eq_true (by omega),cond_true]
   simp only[t1,t2,qav,hz,eStr,q1,EV0]
   rw[List.find?_cons] at hf
   cases hb:(dst (qak names next) g z==j+1) with
   | true=>
    rw[hb] at hf
    simp only[Option.some.injEq] at hf
    subst hf
    obtain⟨p,a1,v1,m1,k1⟩:=hc.app (by':=16) hN (eStr z) (by simp[bound];omega) (by simp[bound];omega)
    refine⟨p,?_,by simpa using v1,m1,k1⟩
    simp only[eStr] at a1
    simp only[Bool.not_true,cond_false]
    rw[show((i:Int)==((qak names next x).length:Int))=false by rw[beq_eq_false_iff_ne];omega,cond_false]
    simp only[a1,Option.bind_some]
    rw[wrap_small (by omega) (by have:=hdb x;omega),show(((j+1:Nat):Int) - 1)=(j:Int) by omega]
   | false=>
    rw[hb] at hf
    obtain⟨p,z1,z2⟩:=ih (i+1) n N H cl c out hd' (by omega) hf hcl hc hN hol b k m
    refine⟨p,?_,z2⟩
    simp only[Bool.not_false,cond_true]
    rw[qae (by omega)]
    exact z1
 have L1:∀ (D:Nat) (j:Nat) (x:Str) (n N:Nat) (H:List Entry) (cl c:Cell) (o:List Str),dst (qak names next) g x=j+1→j < D→j < n→VecM 0 H cl ((List.range D).map (qqi names next g))→VecM N H c ((o++[x]).map eStr)→(∀ H':List Entry,(∀ q,q < N→H'[q]?=H[q]?)→VecM 0 H' cl ((List.range D).map (qqi names next g)))→N≤H.length→o.length+j≤1048576→∀ k m,1073741824 < m→
   ∃ c' H' ids,qwf k m n cl c (j:Int) (qax names) (encL 1 qcz next) H=some ([.one c'],H')∧qce H' ids c' (o++[x]++wayL (qak names next) g j x):=by
  intro D j
  induction j with
  | zero=>
   intro x n N H cl c o hx hD hn hcl hc hk hN ho k m hm
   obtain⟨n,rfl⟩:∃ j,n=j+1:=⟨n - 1,by omega⟩
   obtain⟨ids,hl⟩:=hc.list
   refine⟨c,H,ids,?_,by simpa[wayL] using hl⟩
   simp only[qwf]
   rw[decide_eq_false (by omega),cond_false]
  | succ j ih=>
   intro x n N H cl c o hx hD hn hcl hc hk hN ho k m hm
   obtain⟨n,rfl⟩:∃ j,n=j+1:=⟨n - 1,by omega⟩
   obtain⟨y,f1,f2,f3⟩:=qsq hx
   have hnlx:=hnl x
   obtain⟨a1,t1,t2⟩:=hc.at (i:=o.length) (row:=eStr x) (by simp)
   obtain⟨p,z1,z2,z3,z4⟩:=L2 D x j hx hD y (qak names next x) 0 m N H cl c (o++[x]) rfl (by omega) f1 hcl hc hN (by simp;omega) (qwf k m n) k m
   obtain⟨c',H',ids,y1,y2⟩:=ih y n N p.2 cl p.1 (o++[x]) f2 (by omega) (by omega) (hk p.2 z4) z2 (fun H' hq=>hk H' fun q hqN=>(hq q hqN).trans (z4 q hqN)) (by omega) (by simp;omega) k m hm
   refine⟨c',H',ids,?_,?_⟩
   ·simp only[qwf,hc.len,List.length_map,List.length_append,List.length_cons,List.length_nil,Option.bind_some]
    rw[decide_eq_true (by omega),cond_true,wrap_small (by omega) (by omega),show(((o.length+(0+1):Nat):Int) - 1)=(o.length:Int) by omega]
    simp only[t1,t2,eStr,qeod names next x (by omega) h2,EV0]
    rw[show(0:Int)=((0:Nat):Int) from rfl,z1]
    exact y1
   ·simp only[wayL,f1]
    rw[List.append_cons]
    exact y2
 have L0:∀ (e j n:Nat) (H:List Entry) (cl:Cell),j+e=dst (qak names next) g g→e < n→VecM 0 H cl ((List.range (j+1)).map (qqi names next g))→∀ k m,1073741824 < m→
   ∃ c' H' ids,qyr k m n (bs g) cl (qax names) (encL 1 qcz next) H=some ([.one c'],H')∧qce H' ids c' (qbvb (qak names next) g):=by
  intro e
  induction e with
  | zero=>
   intro j n H cl hj hn hcl k m hm
   obtain⟨n,rfl⟩:∃ j,n=j+1:=⟨n - 1,by omega⟩
   have hjb:=hdb g
   obtain⟨i,rfl⟩:∃ i,j=i+1:=⟨j - 1,by omega⟩
   obtain⟨a1,t1,t2⟩:=hcl.at (hrows (i+1+1) (i+1) (by omega))
   obtain⟨f,hf2⟩:=qpp names next g (i+1)
   rw[hf2] at t2
   have hd:dst (qak names next) g g=i+1:=by omega
   have hin:(lev names next g (i+1)).contains g=true:=List.contains_iff_mem.2 (qwb.2 (qjd hd).1)
   have q1:qbc qby [.one (.lst f 1 ((lev names next g (i+1)).map eStr)),.one (Cell.str (bs g))] H=some [.one (Cell.bool true)]:=by
    rw[qbv (qbb (qfi _ _ _) (qbb (qam _ _ _) (qas _))),← hin]
    exact qsrb _ g (Nat.le_trans (hll _) (by omega))
   obtain⟨c',H',ids,y1,y2⟩:=L1 (i+1+1) i g m H.length H cl (.lst true 1 ([g].map eStr)) [] hd (by omega) (by omega) hcl (.inl rfl) (fun H' hq=>hcl.keep hq (Nat.le_refl _)) (Nat.le_refl _) (by simp;omega) k m hm
   refine⟨c',H',ids,?_,by simpa[qbvb,hd] using y2⟩
   simp only[qyr,hcl.len,List.length_map,List.length_range,Option.bind_some]
   rw[show(((i+1+1:Nat):Int)==1)=false by rw[beq_eq_false_iff_ne];omega,cond_false,wrap_small (by omega) (by omega),show(((i+1+1:Nat):Int) - 1)=((i+1:Nat):Int) by omega]
   simp only[t1,t2,q1,EV0,Bool.not_true]
   rw[wrap_small (by omega) (by omega),show(((i+1+1:Nat):Int) - 2)=(i:Int) by omega]
   exact y1
  | succ e ih=>
   intro j n H cl hj hn hcl k m hm
   obtain⟨n,rfl⟩:∃ j,n=j+1:=⟨n - 1,by omega⟩
   have hjb:=hdb g
   obtain⟨a1,t1,t2⟩:=hcl.at (hrows (j+1) j (by omega))
   obtain⟨f,hf2⟩:=qpp names next g j
   rw[hf2] at t2
   have e2:callL qoo [.agg [qax names,encL 1 qcz next],.one (.lst f 1 ((lev names next g j).map eStr))] H=some ([.one (qax (lev names next g (j+1)))],H):=by
    rw[qbzc,c_fdc names next _ h1 h2 h3 (Nat.le_trans (hll _) (by omega))]
    rfl
   have e3:∀ (d:Cell) (G:List Entry),qah G 1 (.lst true 1 (chunks 1 1 [d]))=some [[d]]:=fun d G=>by simp[qah,rowsOf,chunks]
   have e4:∀ {β:Type} (xs:List Str) (κ:List Cell→Option β),restK [qax xs] κ=κ [qax xs]:=fun xs κ=>rfl
   obtain⟨p,a2,v1,m1,_⟩:=hcl.app (by':=24) (Nat.zero_le _) [qax (lev names next g (j+1))] (by simp[bound];omega) (by simp[bound];omega)
   have hv:(List.range (j+1)).map (qqi names next g)++[[qax (lev names next g (j+1))]]=(List.range (j+1+1)).map (qqi names next g):=by
    rw[List.range_succ (n:=j+1),List.map_append]
    rfl
   rw[hv] at v1
   obtain⟨c',H',ids,y1,y2⟩:=ih (j+1) n p.2 p.1 (by omega) (by omega) v1 k m hm
   refine⟨c',H',ids,?_,y2⟩
   simp only[qyr,hcl.len,List.length_map,List.length_range,Option.bind_some]
   rw[wrap_small (by omega) (by omega),show(((j+1:Nat):Int) - 1)=(j:Int) by omega]
   cases j with
   | zero=>
    rw[show(((0+1:Nat):Int)==1)=true from rfl,cond_true]
    simp only[t1,t2,e2,e3,e4,a2,EV0]
    exact y1
   | succ i=>
    have hin:(lev names next g (i+1)).contains g=false:=by
     cases hc:(lev names next g (i+1)).contains g with
     | false=>rfl
     | true=>
      have:=(qzkb (qwb.1 (List.contains_iff_mem.1 hc))).2
      omega
    have q1:qbc qby [.one (.lst f 1 ((lev names next g (i+1)).map eStr)),.one (Cell.str (bs g))] H=some [.one (Cell.bool false)]:=by
     rw[qbv (qbb (qfi _ _ _) (qbb (qam _ _ _) (qas _))),← hin]
     exact qsrb _ g (Nat.le_trans (hll _) (by omega))
    rw[show(((i+1+1:Nat):Int)==1)=false by rw[beq_eq_false_iff_ne];omega,cond_false]
    simp only[t1,t2,q1,e2,e3,e4,a2,EV0,Bool.not_false]
    exact y1
 have hgb:=hdb g
 obtain⟨c',H',ids,z1,z2⟩:=L0 (dst (qak names next) g g) 0 (1073741824+1+1) [] (.lst true 1 [qqi names next g 0]) (by omega) (by omega) (.inl rfl) (1073741824+1+1) (1073741824+1+1) (by omega)
 refine qbz (H:=H') (qqpb (1073741824+1) z1) (qbb z2.read (qas _))
theorem c_fdi (names:List Str)(next:List (List Str))(U:List Str)(h1:names.length≤1048576)(h2:names.length=next.length)(h3:∀ d∈next,d.length≤1048576)(hU:U.length≤1048576)(hm:∀ x,∀ y∈qak names next x,y∈U)
    (hnm : ∀ x y, y ∈ qak names next x → x ∈ names) : outL qyv [.agg [qax names, encL 1 qcz next]] = some [.one (qax (qbub names (qak names next)))] := by
  have hM := qag
  have h3' : ∀ d ∈ next, d.length ≤ 1073741824 := fun d hd => Nat.le_trans (h3 d hd) (by omega)
  have loop : ∀ (r : List Str) (i n : Nat), names.drop i = r → r.length < n → ∀ k m, ∃ xs, qccb k m n i (qax names) (encL 1 qcz next) = some (xs, []) ∧ mapO (qal false []) xs = some [.one (qax (match r.find? fun x => decide (0 < dst (qak names next) x x) with
        | some x => qbvb (qak names next) x
        | none => []))] := by
    intro r
    induction r with
    | nil =>
      intro i n hd hn k m
      obtain ⟨n, rfl⟩ : ∃ j, n = j + 1 := ⟨n - 1, by omega⟩
      have := drop_nil hd
      refine ⟨[.one (.lst true 1 [])], ?_, qbb (qfi true [] []) (qas _)⟩
      simp only [qccb, EV0]
      rw [decide_eq_false (by omega), cond_false]
    | cons x r ih =>
      intro i n hd hn k m
      obtain ⟨n, rfl⟩ : ∃ j, n = j + 1 := ⟨n - 1, by omega⟩
      obtain ⟨hlt, hx, hd'⟩ := qaq hd
      simp only [List.length_cons] at hn
      have hrl : (qeq (qak names next) x).length ≤ 1048576 := Nat.le_trans (qlz (s := x) hm).1 hU
      have q0 := (c_fdg names next x U (by omega) h2 h3 hU hm).1
      have q1 : out qby [.one (qax (qeq (qak names next) x)), .one (Cell.str (bs x))] = some [.one (Cell.bool (decide (0 < dst (qak names next) x x)))] := by
        rw [← qww hm]
        exact qsrb _ x (by omega)
      simp only [qccb, EV0]
      rw [decide_eq_true (by omega), cond_true]
      simp only [qav, hx, eStr, q0, q1, EV0, List.find?_cons]
      by_cases hp : 0 < dst (qak names next) x x
      · rw [decide_eq_true hp, cond_true]
        refine ⟨[.one (qax (qbvb (qak names next) x))], ?_, qaz _ _ _⟩
        simp only [c_fdk names next x h1 h2 h3' hnm hp, EV0]
      · rw [decide_eq_false hp, cond_false, qae (by omega)]
        exact ih (i + 1) n hd' (by omega) k m
  obtain ⟨xs, z1, z2⟩ := loop names 0 (names.length + 1 + 1) rfl (by omega) (names.length + 1 + 1) (names.length + 1 + 1)
  exact qbz (H := []) (qqnb (names.length + 1) z1) z2
theorem qkz {names:List Str}{next:List (List Str)}{x y:Str}(h:y∈qak names next x):x∈names:=by
 unfold qak at h
 split at h
 ·simp at h
 ·rename_i hn
  have:=qgub x names 0 (idxS x names 0).toNat (by omega)
  exact List.mem_of_getElem? this
noncomputable def qgg (l:List MPack):List Str:=qbub (l.map (·.Name)) (qgf l)
theorem b_Ring (l:List MPack)(hl:bdL 1048576 (MPack.Bd 1048576) l)(hw:wtL MPack.wt l≤1048576):bdL 1048576 (bdS 1048576) (qgg l):=by
 obtain⟨h1,h2⟩:=qurb (names:=l.map (·.Name)) (nx:=qgf l) fun x y h=>qkz h
 refine⟨Nat.le_trans h1 (by simpa using hl.1),fun y hy=>?_⟩
 rcases h2 y hy with h | ⟨z,h⟩
 ·obtain⟨p,hp,rfl⟩:=List.mem_map.1 h
  exact(hl.2 p hp).1
 ·obtain⟨p,hp,hx⟩:=List.mem_flatMap.1 (qfj h)
  exact(hl.2 p hp).2.1.2 y hx
theorem qrp {l:List MPack}(hl:bdL 1048576 (MPack.Bd 1048576) l):∀ d∈l.map (·.Uses),d.length≤1048576:=fun d hd=>by
 obtain⟨p,hp,rfl⟩:=List.mem_map.1 hd
 exact(hl.2 p hp).2.1.1
theorem c_fcy (l:List MPack)(hl:bdL 1048576 (MPack.Bd 1048576) l)(hw:wtL MPack.wt l≤1048576):outL qvw [.one (encL 4 MPack.enc l)]=some [.one (qax (qgg l))]:=by
 have h1:=hl.1
 have hmm:∀ x,∀ y∈qak (l.map (·.Name)) (l.map (·.Uses)) x,y∈qgd l:=fun x y h=>qfj (l:=l) (x:=x) h
 have e:=c_fdi (l.map (·.Name)) (l.map (·.Uses)) (qgd l) (by simpa using h1) (by simp) (qrp hl) (Nat.le_trans (qfh l) hw) hmm (fun x y h=>qkz h)
 refine qeb (H:=[]) (qqlb 0 ?_)
 simp only[fcy,c_fdf l hl,e,EV0]
 rfl
theorem f_fan (l:List MPack)(hl:bdL 1048576 (MPack.Bd 1048576) l)(hw:wtL MPack.wt l≤1048576):Fresh qyl true 2 [.one (encL 4 MPack.enc l)] [.one (trL 1 qbx (qgg l))]:=by
 have h1:=hl.1
 obtain⟨H,g1,e1⟩:=qwuc l hl
 obtain⟨ids,hG⟩:=g1.graph (by simp)
 have hmm:∀ x,∀ y∈qak (l.map (·.Name)) (l.map (·.Uses)) x,y∈qgd l:=fun x y h=>qfj (l:=l) (x:=x) h
 obtain⟨c,H',is,e2,r1,r2⟩:=qaad hG (by simpa using h1) (qrp hl) (qgd l) (Nat.le_trans (qfh l) hw) hmm (fun x y h=>qkz h)
 refine Fresh.one (qmjb 0 ?_) r1 r2
 simp only[fan,e1,e2,EV0]
theorem c_fac (l:List MPack)(hl:l.length≤1073741824)(s:Str):out qpu [.one (encL 4 MPack.enc l),.one (Cell.str (bs s))]=some [.one (Cell.int (idxF (fun p=>p.Name==s) l 0))]:=by
 have hM:=qag
 have hc:∀ x:MPack,qrg [.agg [Cell.str (bs x.Name),encL 1 eStr x.Uses,encL 2 MNeed.enc x.Needs,encL 2 MCmd.enc x.Cmds],.one (.ptr 0 1 0 0 0)] [Entry.mk 1 [[Cell.str (bs s)]] 0 false]=some ([.one (Cell.bool (x.Name==s))],[Entry.mk 1 [[Cell.str (bs s)]] 0 false]):=by
  intro x
  refine qoib 0 ?_
  simp[fad,deref,entry?,cS]
 have loop:∀ (r:List MPack) (i n:Nat),l.drop i=r→r.length < n→∀ k m,qat k m n (encL 4 MPack.enc l) (.ptr 0 1 0 0 0) l.length i [Entry.mk 1 [[Cell.str (bs s)]] 0 false]=some ([.one (Cell.int (idxF (fun p=>p.Name==s) r i))],[Entry.mk 1 [[Cell.str (bs s)]] 0 false]):=by
  intro r
  induction r with
  | nil=>
   intro i n hd hn k m
   obtain⟨n,rfl⟩:∃ j,n=j+1:=⟨n - 1,by omega⟩
   have:=drop_nil hd
   simp only[qat]
   rw[decide_eq_false (by omega),cond_false]
   rfl
  | cons x r ih=>
   intro i n hd hn k m
   obtain⟨n,rfl⟩:∃ j,n=j+1:=⟨n - 1,by omega⟩
   obtain⟨hlt,hg,hd'⟩:=qaq hd
   simp only[List.length_cons] at hn
   simp only[qat,qav,hg,MPack.enc,hc,Nat.zero_add,EV0]
   rw[decide_eq_true (by omega),cond_true,qae (by omega),ih (i+1) n hd' (by omega)]
   simp only[idxF]
   cases x.Name==s<;>rfl
 refine qbw (H:=[Entry.mk 1 [[Cell.str (bs s)]] 0 false]) (qsob 0 ?_)
 have h:=qds (c1:=encL 4 MPack.enc l) (q2:=.ptr 0 1 0 0 0) (H:=[Entry.mk 1 [[Cell.str (bs s)]] 0 false]) (l.length+1) (by
  simpa[qbq] using loop l 0 (l.length+1+1) rfl (by omega) (l.length+1+1) (l.length+1+1))
 simp only[fac,h,EV0]
theorem index_one (c:UInt8):∀ s:Str,Lib.index s [c]=Lib.indexByte s c
 | []=>rfl
 | b::r=>by
  unfold Lib.index Lib.indexByte
  rw[index_one c r]
  have:([c]:Str).isPrefixOf (b::r)=(b==c):=by
   simp only[List.isPrefixOf,Bool.and_true]
   rw[Bool.eq_iff_iff,beq_iff_eq,beq_iff_eq]
   exact eq_comm
  rw[this]
theorem qhe (s p:Str)(hs:s.length≤1073741824):out qzs [.one (Cell.str (bs s)),.one (Cell.str (bs p))]=some [.one (Cell.int (Lib.index s p))]:=by
 refine qbw (H:=[]) ?_
 show qgm _ _=_
 simp only[qgm,qjc]
 rw[if_pos (by rw[qee];omega)]
theorem c_feg (s:Str)(c:UInt8)(hs:s.length≤1073741824):out qzs [.one (Cell.str (bs s)),.one (Cell.str (bs [c]))]=some [.one (Cell.int (Lib.indexByte s c))]:=by
 rw[qhe s [c] hs,index_one]
theorem c_fed (s:Str)(c:UInt8):out qwg [.one (Cell.str (bs s)),.one (Cell.str (bs [c]))]=some [.one (Cell.int ((s.count c:Nat):Int))]:=by
 refine qbw (H:=[]) ?_
 show qeo _ _=_
 simp only[qeo,qjc]
 rfl
theorem qhtb {c:UInt8}{s:Str}(h:c∈s):s.count c=(behind c s).count c+1:=by
 induction s with
 | nil=>simp at h
 | cons b r ih=>
  by_cases e:b=c
  ·subst e
   simp[behind,List.dropWhile_cons]
  ·have hr:c∈r:=by
    rcases List.mem_cons.1 h with h | h
    ·exact absurd h.symm e
    ·exact h
   have hb:behind c (b::r)=behind c r:=by
    have:(b != c)=true:=by simpa using e
    simp[behind,List.dropWhile_cons,this]
   rw[hb,List.count_cons,ih hr]
   simp[e]
theorem qewb {c:UInt8}{s:Str}(h:c∉s):s.count c=0:=List.count_eq_zero.2 h
theorem qhkb (c:UInt8):∀ (n:Nat) (s:Str),s.length≤n→(split c s).length=s.count c+1:=by
 intro n
 induction n with
 | zero=>
  intro s h
  have:s=[]:=List.eq_nil_of_length_eq_zero (by omega)
  subst this
  rfl
 | succ n ih=>
  intro s h
  by_cases hc:c∈s
  ·have hl:(behind c s).length < s.length:=by
    have:=qalb hc
    have h2:=qkh c s
    rw[← h2,List.length_drop]
    omega
   rw[qtn hc,List.length_cons,ih _ (by omega),qhtb hc]
  ·rw[qmb hc,qewb hc]
   rfl
theorem r_fel (s:Str)(c:UInt8)(hs:s.length≤1073741824):qoj [.one (Cell.str (bs s)),.one (Cell.str (bs [c])),.one (Cell.int 0),.one (Cell.int (-1))] []=some ([.one (.vs 0 1 0 (s.count c+1) 0)],[Entry.mk 1 ((split c s).map eStr) 0 false]):=by
 have hM:=qag
 have hct:s.count c≤s.length:=List.count_le_length
 have hsl:=qhkb c s.length s (Nat.le_refl _)
 have hput:∀ (rows:List (List Cell)) (i:Nat) (row:List Cell) (y:Str),rows[i]?=some row→row.length=1→qbu [Entry.mk 1 rows 0 false] (.ptr 0 1 i 0 0) [Cell.str (bs y)]=some [Entry.mk 1 (rows.set i (eStr y)) 0 false]:=by
  intro rows i row y h hr
  simp only[qbu,entry?,List.getElem?_cons_zero,if_true,h]
  rw[if_pos ⟨trivial,by simp,trivial⟩]
  simp[splice,eStr,hr,List.drop_eq_nil_of_le]
 have loop:∀ (d:Nat) (r:Str) (done:List Str) (n:Nat),r.count c=d→done.length+d=s.count c→r.length≤s.length→split c s=done++split c r→d < n→∀ k m,
   qnw k m n (bs r) (bs [c]) 0 ((s.count c:Nat):Int) (.vs 0 1 0 (s.count c+1) 0) ((done.length:Nat):Int) [Entry.mk 1 (done.map eStr++List.replicate (d+1) [Cell.str (bs [])]) 0 false]=
    some ([.one (.vs 0 1 0 (s.count c+1) 0)],[Entry.mk 1 ((split c s).map eStr) 0 false]):=by
  intro d
  induction d with
  | zero=>
   intro r done n hc hd hr hsp hn k m
   obtain⟨n,rfl⟩:∃ j,n=j+1:=⟨n - 1,by omega⟩
   have hnc:c∉r:=List.count_eq_zero.1 hc
   simp only[qnw]
   rw[decide_eq_false (by omega),cond_false]
   have hrow:(done.map eStr++List.replicate (0+1) [Cell.str (bs [])])[done.length]?=some [Cell.str (bs [])]:=by simp
   simp only[qgu 0 1 (s.count c+1) 0 done.length (by omega),Option.bind_some,hput _ _ _ r hrow rfl]
   have hset:(done.map eStr++List.replicate (0+1) [Cell.str (bs [])]).set done.length (eStr r)=(split c s).map eStr:=by
    rw[hsp,qmb hnc,List.set_append_right _ _ (by simp)]
    simp
   rw[hset,show IntKind.i64.wrap ((done.length:Int)+1)=((s.count c+1:Nat):Int) by rw[qae (by omega)];omega]
   have hsl':slcC 1 (.vs 0 1 0 (s.count c+1) 0) 0 (some ((s.count c+1:Nat):Int)) none=some (.vs 0 1 0 (s.count c+1) 0):=by
    simp only[slcC,Option.getD_some,Option.getD_none,if_true]
    rw[if_pos ⟨by omega,by omega,by omega,by omega⟩,if_pos (.inl trivial)]
    simp
   rw[hsl']
   rfl
  | succ d ih=>
   intro r done n hc hd hr hsp hn k m
   obtain⟨n,rfl⟩:∃ j,n=j+1:=⟨n - 1,by omega⟩
   have hmem:c∈r:=by
    rcases Classical.em (c∈r) with h | h
    ·exact h
    ·have:=qewb h;omega
   have hal:=qalb hmem
   have hbl:=qtg c r
   simp only[qnw]
   rw[decide_eq_true (by omega),cond_true]
   have e0:Lib.indexByte r c=((ahead c r).length:Int):=by rw[qpm,if_pos hmem]
   simp only[c_feg r c (by omega),e0,EV0]
   rw[decide_eq_false (by omega),cond_false]
   have e1:=qlp r 0 (ahead c r).length (by omega) (by omega)
   simp only[Int.natCast_zero,List.drop_zero,qms] at e1
   rw[show IntKind.i64.wrap (((ahead c r).length:Int)+0)=((ahead c r).length:Int) by rw[Int.add_zero];exact wrap_small (by omega) (by omega),e1]
   have hrow:(done.map eStr++List.replicate (d+1+1) [Cell.str (bs [])])[done.length]?=some [Cell.str (bs [])]:=by simp
   simp only[Option.bind_some,qgu 0 1 (s.count c+1) 0 done.length (by omega),hput _ _ _ (ahead c r) hrow rfl]
   have e2:=qlp r ((ahead c r).length+1) r.length (by omega) (Nat.le_refl _)
   rw[List.take_length,qkh] at e2
   rw[show IntKind.i64.wrap (((ahead c r).length:Int)+((0+1:Nat):Int))=(((ahead c r).length+1:Nat):Int) by rw[wrap_small (by omega) (by omega)];omega,e2,qae (by omega)]
   simp only[Option.bind_some]
   have hset:(done.map eStr++List.replicate (d+1+1) [Cell.str (bs [])]).set done.length (eStr (ahead c r))=(done++[ahead c r]).map eStr++List.replicate (d+1) [Cell.str (bs [])]:=by
    rw[List.set_append_right _ _ (by simp)]
    simp[List.replicate_succ]
   rw[hset]
   have:=ih (behind c r) (done++[ahead c r]) n (by have:=qhtb hmem;omega) (by simp;omega) (by omega) (by rw[hsp,qtn hmem];simp) (by omega) k m
   rw[show(done++[ahead c r]).length=done.length+1 by simp] at this
   exact this
 have hmin:(if IntKind.i64.wrap ((s.length:Int)+1) < IntKind.i64.wrap (((s.count c:Nat):Int)+1) then IntKind.i64.wrap ((s.length:Int)+1) else IntKind.i64.wrap (((s.count c:Nat):Int)+1))=((s.count c+1:Nat):Int):=by
  rw[qae (by omega),qae (by omega),if_neg (by omega)]
 have z:=loop (s.count c) s [] (s.count c+1+1) rfl (by simp) (Nat.le_refl _) (by simp) (by omega) (s.count c+1+1) (s.count c+1+1)
 refine qud (s.count c+1) ?_
 ·simp only[fel]
  rw[show((-1:Int)==0)=false from rfl,cond_false]
  simp only[qdz]
  rw[show(([c]:Str)==[])=false from rfl,cond_false,show decide ((-1:Int) < 0)=true from rfl,cond_true]
  simp only[c_fed,EV0,hmin]
  rw[if_pos ⟨by omega,by omega,by unfold bound;omega,by unfold bound;omega⟩]
  rw[show IntKind.i64.wrap (((s.count c+1:Nat):Int) - 1)=((s.count c:Nat):Int) from qcw (by omega)]
  simpa[qdd] using z
theorem f_fel (s:Str)(c:UInt8)(hs:s.length≤1073741824):Fresh qoj true 2 [.one (Cell.str (bs s)),.one (Cell.str (bs [c])),.one (Cell.int 0),.one (Cell.int (-1))] [.one (trL 1 qbx (split c s))]:=by
 have hg:GrowAt ([]:List Entry).length 1 (.vs 0 1 0 (s.count c+1) 0) [Entry.mk 1 ((split c s).map eStr) 0 false] ((split c s).map eStr):=.inr ⟨0,by rw[List.length_map,qhkb c s.length s (Nat.le_refl _)];rfl,rfl⟩
 obtain⟨ids,r1,r2,_⟩:=hg.list
 exact Fresh.one (r_fel s c hs) r1 r2
theorem qewd (s:Str)(c:UInt8)(hs:s.length≤1073741824):Fresh qfu true 2 [.one (Cell.str (bs s)),.one (Cell.str (bs [c]))] [.one (trL 1 qbx (split c s))]:=by
 refine Fresh.tailO (f_fel s c hs) [] (qaz _ _ _) fun c' E hc=>qvg 0 ?_
 simp only[fei,hc,EV0]
theorem n_le (n k:Nat):decide ((n:Int)≤(k:Int))=decide (n≤k):=by rw[decide_eq_decide];omega
theorem c_fbo (l:List Str)(hl:bdL 1048576 (bdS 1048576) l)(c:Nat):out qrw [.one (qax l),.one (Cell.int c)]=some [.one (Cell.bool (l.all qgi&&decide (l.length≤c)))]:=by
 have hM:=qag
 have hxl:=hl.1
 refine qbw (H:=[]) (qogb (l.length+1) ?_)
 simp only[fbo,qan,Option.bind_some]
 rw[qsh l (fun n i=>qbpb (l.length+1+1) (l.length+1+1) n (qax l) c (qax l) l.length i) qgi (some ([.one (Cell.bool (decide (l.length≤c)))],[])) (some ([.one (Cell.bool false)],[])) ?_ ?_ _ (by omega)]
 ·exact qbid _ _ _
 ·intro n i x hx hlt
  have hb:x.length≤1048576:=hl.2 x (List.mem_of_getElem? hx)
  simp only[qbpb,qan,qav,hx,eStr,qdpd x (by omega),EV0]
  rw[decide_eq_true (by omega),cond_true,qae (by omega)]
  cases qgi x<;>rfl
 ·intro n
  simp only[qbpb,qan,EV0]
  rw[decide_eq_false (by omega),cond_false,show decide ((l.length:Int)≤(c:Int))=decide (l.length≤c) from n_le l.length c]
theorem c_fbz (s p:Str):out qxy [.one (Cell.str (bs s)),.one (Cell.str (bs p))]=some [.one (Cell.str (bs (qyxc p s))),.one (Cell.bool (p.isPrefixOf s))]:=by
 refine qbw (H:=[]) (qmqb 0 ?_)
 simp only[fbz,c_fca,EV0]
 unfold qyxc
 cases h:p.isPrefixOf s with
 | true=>
  have hl:=(List.isPrefixOf_iff_prefix.1 h).length_le
  rw[Bool.not_true,cond_false,qlp s _ _ hl (Nat.le_refl _),List.take_length]
  rfl
 | false=>rfl
theorem c_fef (s p:Str):out qzx [.one (Cell.str (bs s)),.one (Cell.str (bs p))]=some [.one (Cell.str (bs (qyxc p s))),.one (Cell.bool (p.isPrefixOf s))]:=by
 refine qbw (H:=[]) (qnmb 0 ?_)
 simp only[fef,c_fbz,EV0]
def b16 (n:Nat):Str:=[UInt8.ofNat (n / 256),UInt8.ofNat n]
def numT (n:Nat):Str:=Lib.decDigits n
theorem qdo {u:Nat}(h:u < 10):Lib.decDigits u=[UInt8.ofNat (48+u)]:=by
 unfold Lib.decDigits
 rw[dif_pos h]
theorem qer {u:Nat}(h:¬ u < 10):Lib.decDigits u=Lib.decDigits (u / 10)++[UInt8.ofNat (48+u % 10)]:=by
 rw[Lib.decDigits,dif_neg h]
theorem qmpb (n:Nat)(h:n≤1099511627776):(numT n).length≤21:=by
 have:=Lib.itoa_length_le (n:Int) (by omega) (by omega)
 have e:Lib.itoa (n:Int)=numT n:=by unfold Lib.itoa numT;rw[if_neg (by omega)];simp
 rwa [e] at this
def BytM (H:List Entry)(c:Cell)(b:Str):Prop:=∃ ids,Rep H true true 2 ids c (trL 1 qleb b)∧ids.Nodup
theorem BytM.nil (H:List Entry):BytM H (.lst true 1 []) []:=⟨[],.inl ⟨rfl,rfl,true,rfl⟩,by simp⟩
theorem BytM.read {H:List Entry}{c:Cell}{b:Str}(h:BytM H c b):qal false H (.one c)=some (.one (qix b)):=by
 obtain⟨ids,h,_⟩:=h
 have:=qhj h (by omega)
 rwa [qck] at this
theorem BytM.of {H E:List Entry}{c:Cell}{b:Str}{is:List Nat}{lo hi:Nat}(h:Rep (H++E) true true 2 is c (trL 1 qleb b))(w:Mine lo hi is):BytM (H++E) c b:=⟨is,h,w.nd⟩
theorem Grow.bytes {c:Cell}{H:List Entry}{b:Str}(h:Grow 1 c H (b.map qvmb)):∃ ids,Rep H true true 2 ids c (trL 1 qleb b)∧ids.Nodup:=by
 obtain⟨ids,h1,h2,_⟩:=h.rep (tr:=qleb) (fun _ _=>rfl) (fun x _ H'=>Sp.leaf1 _)
 exact⟨ids,h1,h2⟩
theorem qryb (H:List Entry)(n:Nat):bytesOf H (.lst true 1 [[.sc (.int .u8 (IntKind.u8.wrap (IntKind.i64.wrap (48+(((n:Nat):Int).tmod 10)))))]])=some (bs [UInt8.ofNat (48+n % 10)]):=by
 have e:IntKind.i64.wrap (48+((n:Int).tmod 10))=((48+n % 10:Nat):Int):=by
  rw[Int.tmod_eq_emod_of_nonneg (by omega),wrap_small (by omega) (by omega)]
  omega
 rw[e,wrap_u8]
 generalize UInt8.ofNat (48+n % 10)=v
 simp[bytesOf,rowsOf,mapO,qdzd,ofBytes,bs]
theorem c_fcw (n:Nat)(hn:n≤1099511627776):out qxq [.one (Cell.int n)]=some [.one (Cell.str (bs (numT n)))]:=by
 have loop:∀ (u:Nat) (s:Str) (q:Nat),u≤1099511627776→u+s.length < 2199023255552→u < q→∀ k m,qjrb k m q u (bs s)=some ([.one (Cell.str (bs (if u < 10 then s else Lib.decDigits (u / 10)++s)))],[]):=by
  intro u
  induction u using Nat.strongRecOn with
  | _ u ih=>
   intro s q hu hs hq k m
   obtain⟨q,rfl⟩:∃ j,q=j+1:=⟨q - 1,by omega⟩
   simp only[qjrb]
   by_cases h:u < 10
   ·rw[decide_eq_false (by omega),cond_false,if_pos h]
   ·have e:IntKind.i64.wrap ((u:Int).tdiv 10)=((u / 10:Nat):Int):=by
     rw[Int.tdiv_eq_ediv_of_nonneg (by omega),wrap_small (by omega) (by omega)]
     omega
    rw[decide_eq_true (by omega),cond_true,if_neg h,e,qryb]
    simp only[Option.bind_some]
    rw[qdm (by simp;omega)]
    simp only[Option.bind_some]
    rw[ih (u / 10) (by omega) _ q (by omega) (by simp;omega) (by omega)]
    by_cases h2:u / 10 < 10
    ·rw[if_pos h2,qdo h2,Nat.mod_eq_of_lt h2]
    ·rw[if_neg h2,qer h2]
     simp
 refine qbw (H:=[]) (qqab n ?_)
 simp only[fcw]
 rw[decide_eq_false (by omega),cond_false,qryb]
 simp only[Option.bind_some]
 rw[loop n _ (n+1) hn (by simp;omega) (by omega)]
 unfold numT
 by_cases h:n < 10
 ·rw[if_pos h,qdo h,Nat.mod_eq_of_lt h]
 ·rw[if_neg h,qer h]
theorem qeld (n:Nat)(hn:n≤1099511627776):out qiv [.one (Cell.int n)]=some [.one (Cell.str (bs (numT n)))]:=by
 have e:out qhbb [.one (Cell.int n)]=some [.one (Cell.str (bs (numT n)))]:=by
  refine qbw (H:=[]) ?_
  show qpz _ _=_
  simp only[qpz]
  rw[if_pos ⟨by omega,by omega⟩]
  have:Lib.itoa (n:Int)=numT n:=by unfold Lib.itoa numT;rw[if_neg (by omega)];simp
  rw[this]
  rfl
 refine qbw (H:=[]) (qqhb 0 ?_)
 simp only[faf]
 rw[if_neg (by omega)]
 simp only[e,EV0]
theorem Grow.at {sz:Nat}{c:Cell}{H:List Entry}{rows:List (List Cell)}{i:Nat}{row:List Cell}(h:Grow sz c H rows)(hr:rows[i]?=some row):∃ a,idxA sz c (i:Int)=some a∧deref H a=some (row,0):=by
 have hlt:=(List.getElem?_eq_some_iff.1 hr).1
 rcases h with⟨rfl,_,_⟩ | ⟨ep,rfl,rfl⟩
 ·simp at hr
 ·exact⟨.ptr 0 sz i 0 ep,qgu _ _ _ _ _ hlt,by simp[deref,entry?,hr]⟩
theorem Grow.len {sz:Nat}{c:Cell}{H:List Entry}{rows:List (List Cell)}(h:Grow sz c H rows):lenC c=some rows.length:=by
 rcases h with⟨rfl,rfl,_⟩ | ⟨ep,rfl,rfl⟩<;>rfl
end Go.Ev
