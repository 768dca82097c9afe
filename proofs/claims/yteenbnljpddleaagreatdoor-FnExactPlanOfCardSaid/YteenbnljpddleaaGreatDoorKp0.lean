/- What the functions come to. Conditions: none. -/
import Derived.Test.YteenbnljpddleaaGreatDoorEvCon
set_option linter.unusedSimpArgs false
set_option linter.unusedVariables false
namespace Go.Ev
open Go
def inR (x a b:Int):Bool:=decide (a≤x)&&decide (x≤b)
def qds (b:UInt8):Bool:=inR b.toNat 97 122
def qbb (b:UInt8):Bool:=inR b.toNat 48 57
def qss (first:Bool):Str→Bool | []=>true | b::r=>(qds b||(!first&&(qbb b||b==45)))&&qss false r
def qax (s:Str):Bool:=qss true s&&inR s.length 1 10
theorem qmy (b:UInt8)(n:Nat)(h:n < 256):((b.toNat:Int)==(n:Int))=(b==UInt8.ofNat n):=by
 rw[Bool.eq_iff_iff]
 simp only[beq_iff_eq]
 constructor
 ·intro e
  apply UInt8.toNat_inj.1
  have:(UInt8.ofNat n).toNat=n:=by simp;omega
  omega
 ·intro e
  have:(UInt8.ofNat n).toNat=n:=by simp;omega
  rw[e,this]
theorem qgdd (b:UInt8)(n:Nat)(h:n < 256):((b.toNat:Int) != (n:Int))=(b != UInt8.ofNat n):=by
 simp only[bne,qmy b n h]
theorem qrsd (b:UInt8):(b.toNat:Int) < 256:=by have:=b.toNat_lt;omega
theorem qeab (x a b:Int):out qcb [.one (Cell.int x),.one (Cell.int a),.one (Cell.int b)]=some [.one (Cell.bool (inR x a b))]:=by
 refine qaw (H:=[]) (qzob 0 ?_)
 simp only[ffd,inR]
 by_cases h:a≤x
 ·rw[decide_eq_true (by omega:x≥a),cond_true,Bool.true_and]
 ·rw[decide_eq_false (by omega:¬ x≥a),cond_false,Bool.false_and]
theorem qteb (x a b:Int):out qdb [.one (Cell.int x),.one (Cell.int a),.one (Cell.int b)]=some [.one (Cell.bool (inR x a b))]:=by
 refine qaw (H:=[]) (qbrc 0 ?_)
 simp only[fbc,inR]
 by_cases h:a≤x
 ·rw[decide_eq_true (by omega:x≥a),cond_true,Bool.true_and]
 ·rw[decide_eq_false (by omega:¬ x≥a),cond_false,Bool.false_and]
theorem qbve (b:UInt8):out qhg [.one (.sc (.int .u8 (b.toNat:Int)))]=some [.one (Cell.bool (qds b))]:=by
 have:=qrsd b
 refine qaw (H:=[]) (qurb 0 ?_)
 simp only[ffe,wrap_small (n:=(b.toNat:Int)) (by omega) (by omega),qeab,EV0,qds]
theorem qlzd (b:UInt8):out qet [.one (.sc (.int .u8 (b.toNat:Int)))]=some [.one (Cell.bool (qbb b))]:=by
 have:=qrsd b
 refine qaw (H:=[]) (qzxb 0 ?_)
 simp only[ffb,wrap_small (n:=(b.toNat:Int)) (by omega) (by omega),qeab,EV0,qbb]
theorem qsnd (b:UInt8):out qgs [.one (.sc (.int .u8 (b.toNat:Int)))]=some [.one (Cell.bool (qds b))]:=by
 refine qaw (H:=[]) (qvkb 0 ?_)
 simp only[fbi,qds,inR]
 by_cases h:(97:Int)≤b.toNat
 ·rw[decide_eq_true (by omega:(b.toNat:Int)≥97),cond_true,Bool.true_and]
 ·rw[decide_eq_false (by omega:¬ (b.toNat:Int)≥97),cond_false,Bool.false_and]
theorem qwkc (b:UInt8):out qeg [.one (.sc (.int .u8 (b.toNat:Int)))]=some [.one (Cell.bool (qbb b))]:=by
 refine qaw (H:=[]) (qzbb 0 ?_)
 simp only[fbe,qbb,inR]
 by_cases h:(48:Int)≤b.toNat
 ·rw[decide_eq_true (by omega:(b.toNat:Int)≥48),cond_true,Bool.true_and]
 ·rw[decide_eq_false (by omega:¬ (b.toNat:Int)≥48),cond_false,Bool.false_and]
theorem qrxb (s:Str)(hs:s.length≤1073741824):out qcv [.one (Cell.str (bs s))]=some [.one (Cell.bool (qax s))]:=by
 have hM:=qag
 have loop:∀ (r:Str) (i n:Nat),s.drop i=r→r.length < n→∀ k m,qwi k m n (bs s) i=some ([.one (Cell.bool (qss (i==0) r&&inR s.length 1 10))],[]):=by
  intro r
  induction r with
  | nil=>
   intro i n hd hn k m
   obtain⟨n,rfl⟩:∃ j,n=j+1:=⟨n - 1,by omega⟩
   have:=drop_nil hd
   simp only[qwi,qbj]
   rw[decide_eq_false (by omega),cond_false]
   simp only[qeab,EV0,qss]
  | cons b r ih=>
   intro i n hd hn k m
   obtain⟨n,rfl⟩:∃ j,n=j+1:=⟨n - 1,by omega⟩
   obtain⟨hlt,hg,hd'⟩:=qal hd
   simp only[List.length_cons] at hn
   have hz:((i:Int)==0)=(i==0):=by rw[Bool.eq_iff_iff];simp
   simp only[qwi,qcn,hg,qbve,qlzd,EV0]
   rw[decide_eq_true (by omega),cond_true,qae (by omega),ih (i+1) n hd' (by omega)]
   have h45:((b.toNat:Int) != 45)=!(b==45):=qgdd b 45 (by omega)
   simp only[qss,hz,show((i+1:Nat)==0)=false from rfl,h45]
   cases qds b<;>cases qbb b<;>cases (b==45)<;>cases (i==0)<;>rfl
 refine qaw (H:=[]) (qzfb (s.length+1) ?_)
 have:=loop s 0 (s.length+1+1) rfl (by omega) (s.length+1+1) (s.length+1+1)
 simpa[fee,qax] using this
theorem qtfb (s:Str)(hs:s.length≤1073741824):out qdl [.one (Cell.str (bs s))]=some [.one (Cell.bool (qax s))]:=by
 have hM:=qag
 have loop:∀ (r:Str) (i n:Nat),s.drop i=r→r.length < n→∀ k m,qwn k m n (bs s) i=some ([.one (Cell.bool (qss (i==0) r&&inR s.length 1 10))],[]):=by
  intro r
  induction r with
  | nil=>
   intro i n hd hn k m
   obtain⟨n,rfl⟩:∃ j,n=j+1:=⟨n - 1,by omega⟩
   have:=drop_nil hd
   simp only[qwn,qbj]
   rw[decide_eq_false (by omega),cond_false]
   simp only[qteb,EV0,qss]
  | cons b r ih=>
   intro i n hd hn k m
   obtain⟨n,rfl⟩:∃ j,n=j+1:=⟨n - 1,by omega⟩
   obtain⟨hlt,hg,hd'⟩:=qal hd
   simp only[List.length_cons] at hn
   have hz:((i:Int)==0)=(i==0):=by rw[Bool.eq_iff_iff];simp
   simp only[qwn,qcn,hg,qsnd,qwkc,EV0]
   rw[decide_eq_true (by omega),cond_true,qae (by omega),ih (i+1) n hd' (by omega)]
   have h45:((b.toNat:Int) != 45)=!(b==45):=qgdd b 45 (by omega)
   simp only[qss,hz,show((i+1:Nat)==0)=false from rfl,h45]
   cases qds b<;>cases qbb b<;>cases (b==45)<;>cases (i==0)<;>rfl
 refine qaw (H:=[]) (qbcc (s.length+1) ?_)
 have:=loop s 0 (s.length+1+1) rfl (by omega) (s.length+1+1) (s.length+1+1)
 simpa[fad,qax] using this
def qdm (c:UInt8)(cur:Str):Str→List Str | []=>[cur] | b::r=>if b=c then cur::qdm c [] r else qdm c (cur++[b]) r
def split (c:UInt8)(s:Str):List Str:=qdm c [] s
def ahead (c:UInt8)(s:Str):Str:=s.takeWhile (· != c)
def behind (c:UInt8)(s:Str):Str:=(s.dropWhile (· != c)).drop 1
theorem qbu (c:UInt8):∀ (s cur:Str),(qdm c cur s).length≤s.length+1∧∀ x∈qdm c cur s,x.length≤cur.length+s.length:=by
 intro s
 induction s with
 | nil=>intro cur;simp[qdm]
 | cons b r ih=>
  intro cur
  simp only[qdm]
  split
  ·obtain⟨h1,h2⟩:=ih []
   refine⟨by simp;omega,fun x hx=>?_⟩
   rcases List.mem_cons.1 hx with rfl | hx
   ·simp
   ·have:=h2 x hx;simp at this;simp;omega
  ·obtain⟨h1,h2⟩:=ih (cur++[b])
   refine⟨by simp;omega,fun x hx=>?_⟩
   have:=h2 x hx;simp at this;simp;omega
theorem qtbb {c:UInt8}:∀ {s:Str} (cur:Str),c∉s→qdm c cur s=[cur++s]:=by
 intro s
 induction s with
 | nil=>intro cur _;simp[qdm]
 | cons b r ih=>
  intro cur h
  simp only[List.mem_cons,not_or] at h
  simp only[qdm]
  rw[if_neg fun e=>h.1 e.symm,ih _ h.2]
  simp
theorem qrtb {c:UInt8}:∀ {s:Str} (cur:Str),c∈s→qdm c cur s=(cur++ahead c s)::qdm c [] (behind c s):=by
 intro s
 induction s with
 | nil=>intro cur h;simp at h
 | cons b r ih=>
  intro cur h
  simp only[qdm]
  by_cases e:b=c
  ·subst e
   simp[ahead,behind]
  ·rw[if_neg e,ih _ (by simpa[Ne.symm e] using h)]
   simp[ahead,behind,e]
theorem qea {c:UInt8}{s:Str}(h:c∉s):split c s=[s]:=qtbb [] h
theorem qep {c:UInt8}{s:Str}(h:c∈s):split c s=ahead c s::split c (behind c s):=qrtb [] h
theorem qgf {c:UInt8}:∀ (s cur:Str),qdm c cur s≠[]:=by
 intro s
 induction s with
 | nil=>intro cur;simp[qdm]
 | cons b r ih=>intro cur;simp only[qdm];split<;>simp[ih]
theorem qhh (c:UInt8)(s:Str):(ahead c s).length≤s.length:=by
 have:=(List.takeWhile_prefix (fun x=>x != c) (l:=s)).length_le
 exact this
theorem qfa (c:UInt8)(s:Str):(behind c s).length≤s.length:=by
 have:=(List.dropWhile_suffix (fun x=>x != c) (l:=s)).length_le
 simp only[behind,List.length_drop]
 omega
theorem qjbb {c:UInt8}(s:Str):c∉ahead c s:=by
 induction s with
 | nil=>simp[ahead]
 | cons b r ih=>
  unfold ahead
  rw[List.takeWhile_cons]
  split
  ·rename_i h
   intro hm
   rcases List.mem_cons.1 hm with e | e
   ·rw[← e] at h;simp at h
   ·exact ih e
  ·simp
theorem qyeb:∀ {s:Str} {f:Bool},qss f s=true→∀ b∈s,qds b=true∨qbb b=true∨b=45:=by
 intro s
 induction s with
 | nil=>intro f _ b hb;simp at hb
 | cons c r ih=>
  intro f h b hb
  simp only[qss,Bool.and_eq_true,Bool.or_eq_true,beq_iff_eq] at h
  rcases List.mem_cons.1 hb with rfl | hb
  ·rcases h.1 with h1 | h1
   ·exact .inl h1
   ·rcases h1.2 with h2 | h2
    ·exact .inr (.inl h2)
    ·exact .inr (.inr h2)
  ·exact ih h.2 b hb
theorem qct {s:Str}(h:qax s=true):(35:UInt8)∉s∧(94:UInt8)∉s:=by
 simp only[qax,Bool.and_eq_true] at h
 constructor<;>intro hb<;>rcases qyeb h.1 _ hb with h | h | h<;>revert h<;>decide
theorem qkq:qax []=false:=rfl
theorem qmcd (s:Str)(c:UInt8)(hs:s.length≤1073741824):outL qco [.one (Cell.str (bs s)),.one (.sc (.int .u8 (c.toNat:Int)))]=some [.one (qay (split c s))]:=by
 have hM:=qag
 have loop:∀ (r:Str) (i from' n:Nat) (cur:Str) (cl:Cell) (H:List Entry) (done:List Str),s.drop i=r→from'≤i→i≤s.length→(s.take i).drop from'=cur→r.length+1 < n→Grow 1 cl H (done.map eStr)→done.length≤i→
   ∀ k m,∃ cl' H',qwc k m n (bs s) (c.toNat:Int) cl from' i H=some ([.one cl'],H')∧Grow 1 cl' H' ((done++qdm c cur r).map eStr):=by
  intro r
  induction r with
  | nil=>
   intro i from' n cur cl H done hd hf hi hc hn hg hdl k m
   obtain⟨n,rfl⟩:∃ j,n=j+2:=⟨n - 2,by omega⟩
   have hlen:=drop_nil hd
   have e:i=s.length:=by omega
   subst e
   obtain⟨p,hp,hgp⟩:=hg.app (by':=16) [eStr cur] (by simp[bound];omega) (by simp[bound];omega)
   refine⟨p.1,p.2,?_,by simpa[qdm] using hgp⟩
   simp only[qwc,qbj]
   rw[decide_eq_true (by omega),cond_true,show(((s.length:Nat):Int)==(s.length:Int))=true by simp,cond_true,qcw _ _ _ hf (Nat.le_refl _),hc]
   simp only[Option.bind_some]
   rw[show [[Cell.str (bs cur)]]=[eStr cur] from rfl,hp]
   simp only[Option.bind_some]
   rw[qae (by omega),decide_eq_false (by omega),cond_false]
  | cons b r ih=>
   intro i from' n cur cl H done hd hf hi hc hn hg hdl k m
   obtain⟨n,rfl⟩:∃ j,n=j+1:=⟨n - 1,by omega⟩
   obtain⟨hlt,hgx,hd'⟩:=qal hd
   simp only[List.length_cons] at hn
   simp only[qwc,qbj,qcn,hgx,Option.map_some,Option.bind_some]
   rw[decide_eq_true (by omega),cond_true,show(((i:Nat):Int)==(s.length:Int))=false by simp;omega,cond_false,qae (by omega)]
   have hbc:((b.toNat:Int)==(c.toNat:Int))=decide (b=c):=by
    rw[Bool.eq_iff_iff]
    simp only[beq_iff_eq,decide_eq_true_eq]
    exact⟨fun h=>UInt8.toNat_inj.1 (by omega),fun h=>by rw[h]⟩
   rw[hbc]
   by_cases e:b=c
   ·rw[decide_eq_true e,cond_true,qcw _ _ _ hf (by omega),hc]
    simp only[Option.bind_some]
    obtain⟨p,hp,hgp⟩:=hg.app (by':=16) [eStr cur] (by simp[bound];omega) (by simp[bound];omega)
    rw[show [[Cell.str (bs cur)]]=[eStr cur] from rfl,hp]
    simp only[Option.bind_some]
    obtain⟨cl',H',h1,h2⟩:=ih (i+1) (i+1) n [] p.1 p.2 (done++[cur]) hd' (Nat.le_refl _) (by omega) (by simp) (by omega) (by simpa using hgp) (by simp;omega) k m
    refine⟨cl',H',h1,?_⟩
    simpa[qdm,e] using h2
   ·rw[decide_eq_false e,cond_false]
    obtain⟨cl',H',h1,h2⟩:=ih (i+1) from' n (cur++[b]) cl H done hd' (by omega) (by omega) (by
     rw[← hc,List.take_add_one,hgx]
     simp only[Option.toList_some]
     rw[List.drop_append_of_le_length (by simp;omega)]) (by omega) hg (by omega) k m
    refine⟨cl',H',h1,?_⟩
    simpa[qdm,e] using h2
 obtain⟨cl',H',h1,h2⟩:=loop s 0 0 (s.length+1+1) [] (.lst true 1 []) [] [] rfl (by omega) (by omega) rfl (by omega) (.nil 1) (by simp) (s.length+1+1) (s.length+1+1)
 refine qbf (qbsc (s.length+1) (by simpa[fer] using h1)) ?_
 exact h2.read
theorem qng {c:UInt8}{s:Str}(h:c∉s):ahead c s=s:=by
 induction s with
 | nil=>rfl
 | cons b r ih=>
  simp only[List.mem_cons,not_or] at h
  have:ahead c (b::r)=b::ahead c r:=by simp[ahead,Ne.symm h.1]
  rw[this,ih h.2]
theorem qga {c:UInt8}{s:Str}(h:c∉s):behind c s=[]:=by
 induction s with
 | nil=>rfl
 | cons b r ih=>
  simp only[List.mem_cons,not_or] at h
  have:behind c (b::r)=behind c r:=by simp[behind,Ne.symm h.1]
  rw[this,ih h.2]
def qat (s:Str):Str×Str×Bool:=if qax (ahead 35 s)&&qax (behind 35 s) then (ahead 35 s,behind 35 s,true) else ([],[],false)
def qdc (s:Str):List AV:=[.one (Cell.str (bs (qat s).1)),.one (Cell.str (bs (qat s).2.1)),.one (Cell.bool (qat s).2.2)]
def qka (p s:Str):Str:=if p.isPrefixOf s then s.drop p.length else s
def onOk (s:Str):Bool:=if 35∈s then qax (ahead 35 s)&&qax (behind 35 s) else qax (qka [94] s)
theorem qff (b:UInt8)(r:Str):bytS (bs (b::r)) 0=some (b.toNat:Int):=by
 have:=qcn (b::r) 0
 simpa using this
theorem qnm (c:UInt8)(s:Str):Lib.indexByte s c=if c∈s then ((ahead c s).length:Int) else -1:=by
 induction s with
 | nil=>rfl
 | cons b r ih=>
  simp only[Lib.indexByte]
  by_cases e:b=c
  ·subst e
   simp[ahead]
  ·have e1:(b==c)=false:=by simpa using e
   simp only[e1,Bool.false_eq_true,if_false]
   have e2:ahead c (b::r)=b::ahead c r:=by simp[ahead,e]
   by_cases h:c∈r
   ·rw[if_pos h] at ih
    rw[ih,if_neg (by simp<;>omega),if_pos (List.mem_cons_of_mem _ h),e2]
    simp
   ·rw[if_neg h] at ih
    rw[ih,if_pos (by simp),if_neg]
    intro hm
    rcases List.mem_cons.1 hm with q | q
    ·exact e q.symm
    ·exact h q
theorem qhp (c:UInt8)(s:Str):s.take (ahead c s).length=ahead c s:=
 (List.prefix_iff_eq_take.1 (List.takeWhile_prefix _)).symm
theorem qvy {c:UInt8}{s:Str}(h:c∈s):(ahead c s).length < s.length:=by
 have h1:=qhh c s
 rcases Nat.lt_or_ge (ahead c s).length s.length with h2 | h2
 ·exact h2
 ·have h3:=qhp c s
  rw[List.take_of_length_le h2] at h3
  rw[h3] at h
  exact absurd h (qjbb s)
theorem qhx (c:UInt8)(s:Str):s.drop ((ahead c s).length+1)=behind c s:=by
 have h:s=ahead c s++s.dropWhile (· != c):=(List.takeWhile_append_dropWhile).symm
 have h2:s.drop (ahead c s).length=s.dropWhile (· != c):=by
  rw[congrArg (List.drop (ahead c s).length) h,List.drop_left]
 rw[← List.drop_drop,h2]
 rfl
theorem c_fce (s:Str)(c:UInt8):out qut [.one (Cell.str (bs s)),.one (.sc (.int .u8 (c.toNat:Int)))]=some [.one (Cell.int (Lib.indexByte s c))]:=by
 simp[out,qut]
theorem c_fcd (s:Str)(c:UInt8):out qcnb [.one (Cell.str (bs s)),.one (Cell.str (bs [c]))]=some [.one (Cell.int (Lib.indexByte s c))]:=by
 refine qaw (H:=[]) (qybb 0 ?_)
 simp only[fcd,qff,c_fce,EV0]
 rw[show(((0+1:Nat):Int)==0)=false from rfl,show(((0+1:Nat):Int)==1)=true from rfl,cond_false,cond_true]
 by_cases h:[c]=s
 ·rw[← h]
  simp[Lib.indexByte]
 ·rw[show([c]==s)=false by simpa using h,cond_false]
def cutV (c:UInt8)(s:Str):List AV:=if c∈s then [.one (Cell.str (bs (ahead c s))),.one (Cell.str (bs (behind c s))),.one (Cell.bool true)] else [.one (Cell.str (bs s)),.one (Cell.str (bs [])),.one (Cell.bool false)]
theorem c_fca (s:Str)(c:UInt8)(hs:s.length≤1073741824):out qwz [.one (Cell.str (bs s)),.one (Cell.str (bs [c]))]=some (cutV c s):=by
 refine qaw (H:=[]) (qwmb 0 ?_)
 simp only[fca,c_fcd,EV0]
 rw[qnm]
 unfold cutV
 by_cases h:c∈s
 ·have h1:=qvy h
  rw[if_pos h,if_pos h,decide_eq_true (by omega),cond_true]
  have e1:=qcw s 0 (ahead c s).length (by omega) (by omega)
  simp only[Int.natCast_zero,List.drop_zero,qhp] at e1
  rw[e1]
  simp only[Option.bind_some]
  rw[show(((ahead c s).length:Int)+((0+1:Nat):Int))=(((ahead c s).length+1:Nat):Int) by omega,wrap_small (by omega) (by omega),qcw s _ _ (by omega) (Nat.le_refl _),List.take_length,qhx]
  rfl
 ·rw[if_neg h,if_neg h,decide_eq_false (by omega),cond_false]
theorem qdpe (s:Str)(c:UInt8)(hs:s.length≤1073741824):out qgt [.one (Cell.str (bs s)),.one (Cell.str (bs [c]))]=some (cutV c s):=by
 refine qaw (H:=[]) (qwtb 0 ?_)
 simp only[fgd,c_fca s c hs,EV0]
 unfold cutV
 by_cases h:c∈s
 ·simp only[if_pos h,EV0]
 ·simp only[if_neg h,EV0]
theorem c_fcc (s p:Str):out qkj [.one (Cell.str (bs s)),.one (Cell.str (bs p))]=some [.one (Cell.bool (p.isPrefixOf s))]:=by
 refine qaw (H:=[]) (qvzb 0 ?_)
 simp only[fcc,EV0]
 by_cases h:p.length≤s.length
 ·have e1:=qcw s 0 p.length (by omega) h
  simp only[Int.natCast_zero,List.drop_zero] at e1
  rw[decide_eq_true (by omega),cond_true,e1]
  simp only[EV0]
  congr 5
  rw[Bool.eq_iff_iff,List.isPrefixOf_iff_prefix,List.prefix_iff_eq_take,beq_iff_eq]
  exact eq_comm
 ·rw[decide_eq_false (by omega),cond_false]
  congr 5
  symm
  rw[← Bool.not_eq_true,List.isPrefixOf_iff_prefix]
  exact fun hp=>h hp.length_le
theorem c_fcf (s p:Str):out qzl [.one (Cell.str (bs s)),.one (Cell.str (bs p))]=some [.one (Cell.str (bs (qka p s)))]:=by
 refine qaw (H:=[]) (qcbc 0 ?_)
 simp only[fcf,c_fcc,EV0]
 unfold qka
 cases h:p.isPrefixOf s with
 | true=>
  have hl:=(List.isPrefixOf_iff_prefix.1 h).length_le
  rw[cond_true,qcw s _ _ hl (Nat.le_refl _),List.take_length]
  rfl
 | false=>rfl
theorem c_fgk (s p:Str):out qcwb [.one (Cell.str (bs s)),.one (Cell.str (bs p))]=some [.one (Cell.str (bs (qka p s)))]:=by
 refine qaw (H:=[]) (qucb 0 ?_)
 simp only[fgk,c_fcf,EV0]
theorem c_fak (s:Str)(hs:s.length≤1073741824):out qoi [.one (Cell.str (bs s))]=some (qdc s):=by
 have l1:=qhh 35 s
 have l2:=qfa 35 s
 refine qaw (H:=[]) (qwib 0 ?_)
 simp only[fak,qdpe s 35 hs,EV0]
 unfold cutV qdc qat
 by_cases h:(35:UInt8)∈s
 ·simp only[if_pos h,qtfb _ (Nat.le_trans l1 hs),qtfb _ (Nat.le_trans l2 hs),EV0]
  cases qax (ahead 35 s)<;>cases qax (behind 35 s)<;>rfl
 ·simp only[if_neg h,qtfb _ hs,qtfb [] (by simp),EV0]
  rw[qng h,qga h]
  cases qax s<;>rfl
theorem qcie (s:Str)(hs:s.length≤1073741824):out qiq [.one (Cell.str (bs s))]=some (qdc s):=by
 have l1:=qhh 35 s
 have l2:=qfa 35 s
 refine qaw (H:=[]) (qtyb 0 ?_)
 have e35:(35:Int)=((35:UInt8).toNat:Int):=rfl
 simp only[fek]
 rw[e35,qls,qmcd s 35 hs]
 simp only[EV0]
 have z0:∀ (x:Str) (r:List Str),idxA 1 (qay (x::r)) 0=some (.ref (eStr x) 0):=fun x r=>by
  have:=qaj 1 eStr (x::r) 0
  simpa using this
 have z1:∀ (x y:Str) (r:List Str),idxA 1 (qay (x::y::r)) 1=some (.ref (eStr y) 0):=fun x y r=>by
  have:=qaj 1 eStr (x::y::r) 1
  simpa using this
 unfold qdc qat
 by_cases h:(35:UInt8)∈s
 ·rw[qep h]
  by_cases h2:(35:UInt8)∈behind 35 s
  ·rw[qep h2]
   have e2:qax (behind 35 s)=false:=by
    cases e:qax (behind 35 s) with
    | false=>rfl
    | true=>exact absurd h2 (qct e).1
   have hn:(split 35 (behind 35 (behind 35 s))).length≠0:=by
    intro e
    exact qgf _ _ (List.length_eq_zero_iff.1 e)
   simp only[List.length_cons]
   rw[show((((split 35 (behind 35 (behind 35 s))).length+1+1:Nat):Int) != 2)=true by simp only[bne_iff_ne,ne_eq];omega,cond_true,e2,Bool.and_false]
   rfl
  ·rw[qea h2]
   simp only[z0,z1,eStr,qrxb _ (Nat.le_trans l1 hs),qrxb _ (Nat.le_trans l2 hs),EV0]
   rw[show(((0+1+1:Nat):Int) != 2)=false from rfl,cond_false]
   cases qax (ahead 35 s)<;>cases qax (behind 35 s)<;>rfl
 ·rw[qea h,qga h,qkq,Bool.and_false]
  simp only[EV0]
  rfl
theorem c_faf (s:Str)(hs:s.length≤1073741824):out qdrb [.one (Cell.str (bs s))]=some [.one (Cell.bool (onOk s))]:=by
 have l1:=qhh 35 s
 have l2:=qfa 35 s
 have l3:(qka [94] s).length≤s.length:=by
  unfold qka
  split<;>simp
 refine qaw (H:=[]) (qwab 0 ?_)
 simp only[faf,qdpe s 35 hs,c_fgk,qtfb _ (Nat.le_trans l3 hs),EV0]
 unfold cutV onOk
 by_cases h:(35:UInt8)∈s
 ·simp only[if_pos h,qtfb _ (Nat.le_trans l1 hs),qtfb _ (Nat.le_trans l2 hs),EV0]
  cases qax (ahead 35 s)<;>rfl
 ·simp only[if_neg h,EV0]
theorem qdbd {r:Str}:onOk (94::r)=qax r:=by
 unfold onOk
 by_cases h:(35:UInt8)∈r
 ·rw[if_pos (by simp[h])]
  have e1:ahead 35 (94::r)=94::ahead 35 r:=by simp[ahead]
  have e2:qax (ahead 35 (94::r))=false:=by
   cases e:qax (ahead 35 (94::r)) with
   | false=>rfl
   | true=>exact absurd (by rw[e1];simp) (qct e).2
  have e3:qax r=false:=by
   cases e:qax r with
   | false=>rfl
   | true=>exact absurd h (qct e).1
  rw[e2,e3,Bool.false_and]
 ·rw[if_neg (by simpa using h)]
  simp[qka]
theorem qhqc {s:Str}(hh:s.head?≠some 94):onOk s=if (split 35 s).length=2 then qax (ahead 35 s)&&qax (behind 35 s) else qax s:=by
 have ht:qka [94] s=s:=by
  unfold qka
  rw[if_neg]
  cases s with
  | nil=>simp
  | cons b r=>simp at hh;simp[Ne.symm hh]
 unfold onOk
 by_cases h:(35:UInt8)∈s
 ·rw[if_pos h,qep h]
  by_cases h2:(35:UInt8)∈behind 35 s
  ·rw[qep h2]
   have hn:(split 35 (behind 35 (behind 35 s))).length≠0:=fun e=>qgf _ _ (List.length_eq_zero_iff.1 e)
   rw[if_neg (by simp only[List.length_cons];omega)]
   have e2:qax (behind 35 s)=false:=by
    cases e:qax (behind 35 s) with
    | false=>rfl
    | true=>exact absurd h2 (qct e).1
   have e3:qax s=false:=by
    cases e:qax s with
    | false=>rfl
    | true=>exact absurd h (qct e).1
   rw[e2,e3,Bool.and_false]
  ·rw[qea h2]
   exact(if_pos (by rfl)).symm
 ·rw[if_neg h,qea h,if_neg (by simp),ht]
theorem c_fef (s:Str)(hs:s.length≤1073741824):out qbfb [.one (Cell.str (bs s))]=some [.one (Cell.bool (onOk s))]:=by
 have l1:=qhh 35 s
 have l2:=qfa 35 s
 refine qaw (H:=[]) (qbnc 0 ?_)
 have e35:(35:Int)=((35:UInt8).toNat:Int):=rfl
 have z0:∀ (x:Str) (r:List Str),idxA 1 (qay (x::r)) 0=some (.ref (eStr x) 0):=fun x r=>by
  have:=qaj 1 eStr (x::r) 0
  simpa using this
 have z1:∀ (x y:Str) (r:List Str),idxA 1 (qay (x::y::r)) 1=some (.ref (eStr y) 0):=fun x y r=>by
  have:=qaj 1 eStr (x::y::r) 1
  simpa using this
 have hsp:=qmcd s 35 hs
 rw[← e35] at hsp
 have rest:s.head?≠some 94→((outL qco [.one (Cell.str (bs s)),.one (.sc (.int .u8 35))]).map fun xs=>(xs,([]:List Entry)))=some ([.one (qay (split 35 s))],[]):=fun _=>by rw[hsp];rfl
 cases s with
 | nil=>
  have hn:split 35 ([]:Str)=[[]]:=rfl
  rw[hn] at hsp
  simp only[fef,hsp,EV0]
  rw[show decide (((0:Nat):Int) > 0)=false from rfl,show(((0+1:Nat):Int)==2)=false from rfl,cond_false,cond_false]
  simp only[qrxb [] (by simp),EV0]
  rfl
 | cons b r=>
  simp only[fef,qff,EV0]
  rw[decide_eq_true (by omega),cond_true]
  have hb:=qmy b 94 (by omega)
  have hb:((b.toNat:Int)==94)=(b==94):=hb
  rw[hb]
  by_cases e:b=94
  ·subst e
   simp only[beq_self_eq_true,cond_true]
   have e1:=qcw (94::r) 1 (r.length+1) (by omega) (by simp)
   simp only[List.length_cons] at hs
   simp only[Int.natCast_one,List.take_succ_cons,List.take_length,List.drop_succ_cons,List.drop_zero] at e1
   rw[e1]
   simp only[qrxb r (by omega),EV0,qdbd]
  ·rw[show(b==94)=false by simpa using e,cond_false,qhqc (by simpa using e)]
   simp only[hsp,EV0]
   by_cases h:(35:UInt8)∈(b::r)
   ·rw[qep h]
    by_cases h2:(35:UInt8)∈behind 35 (b::r)
    ·have hn:(split 35 (behind 35 (b::r))).length≠1:=by
      rw[qep h2]
      have hn:(split 35 (behind 35 (behind 35 (b::r)))).length≠0:=fun e=>qgf _ _ (List.length_eq_zero_iff.1 e)
      simp only[List.length_cons];omega
     rw[if_neg (by simp only[List.length_cons];omega)]
     simp only[List.length_cons]
     rw[show((((split 35 (behind 35 (b::r))).length+1:Nat):Int)==2)=false by simp;omega,cond_false]
     simp only[qrxb _ hs,EV0]
    ·rw[qea h2,if_pos (show([ahead 35 (b::r),behind 35 (b::r)]:List Str).length=2 from rfl)]
     simp only[List.length_cons,List.length_nil]
     rw[show(((0+1+1:Nat):Int)==2)=true from rfl,cond_true]
     simp only[z0,z1,eStr,qrxb _ (Nat.le_trans l1 hs),qrxb _ (Nat.le_trans l2 hs),EV0]
     cases qax (ahead 35 (b::r))<;>rfl
   ·rw[qea h,if_neg (by simp)]
    simp only[List.length_cons,List.length_nil]
    rw[show(((0+1:Nat):Int)==2)=false from rfl,cond_false]
    simp only[qrxb _ hs,EV0]
def lt (a b:Str):Bool:=Op.bytesLess a b
theorem qhob:∀ (a b:Str),(lt a b||a==b)=!lt b a:=by
 unfold lt
 intro a
 induction a with
 | nil=>intro b;cases b<;>rfl
 | cons x a ih=>
  intro b
  cases b with
  | nil=>rfl
  | cons y b=>
   have h:=ih b
   simp only[Op.bytesLess]
   have e:((x::a)==(y::b))=(x==y&&a==b):=rfl
   rw[e]
   rcases Nat.lt_trichotomy x.toNat y.toNat with h1 | h1 | h1
   ·have e1:decide (x < y)=true:=by simpa[UInt8.lt_iff_toNat_lt] using h1
    have e2:decide (y < x)=false:=by simp[UInt8.lt_iff_toNat_lt];omega
    have e3:(y==x)=false:=by simp;intro e;rw[e] at h1;omega
    simp[e1,e2,e3]
   ·have e0:=UInt8.toNat_inj.1 h1
    subst e0
    have e1:decide (x < x)=false:=by simp
    simp only[e1,Bool.false_or,beq_self_eq_true,Bool.true_and,h]
   ·have e1:decide (y < x)=true:=by simpa[UInt8.lt_iff_toNat_lt] using h1
    have e2:decide (x < y)=false:=by simp[UInt8.lt_iff_toNat_lt];omega
    have e3:(x==y)=false:=by simp;intro e;rw[e] at h1;omega
    simp[e1,e2,e3]
theorem qcmc (a b:Str):Op.bytesLess a b=lt a b:=rfl
def asc:List Str→Bool | []=>true | [_]=>true | a::b::r=>lt a b&&asc (b::r)
theorem qcp {i:Nat}(h:i < Go.maxLen):IntKind.i64.wrap (((i+1:Nat):Int) - 1)=(i:Int):=by
 have:=qag
 rw[wrap_small (by omega) (by omega)]
 omega
theorem c_ffw (xs:List Str)(hx:xs.length≤1073741824):out qdob [.one (qay xs)]=some [.one (Cell.bool (asc xs))]:=by
 have hM:=qag
 have loop:∀ (r:List Str) (p:Str) (i n:Nat),xs[i]?=some p→xs.drop (i+1)=r→r.length < n→∀ k m,qzg k m n (qay xs) ((i+1:Nat):Int)=some ([.one (Cell.bool (asc (p::r)))],[]):=by
  intro r
  induction r with
  | nil=>
   intro p i n hp hd hn k m
   obtain⟨n,rfl⟩:∃ j,n=j+1:=⟨n - 1,by omega⟩
   have:=drop_nil hd
   simp only[qzg,qaf,Option.bind_some]
   rw[decide_eq_false (by omega),cond_false]
   rfl
  | cons b r ih=>
   intro p i n hp hd hn k m
   obtain⟨n,rfl⟩:∃ j,n=j+1:=⟨n - 1,by omega⟩
   obtain⟨hlt,hg,hd'⟩:=qal hd
   simp only[List.length_cons] at hn
   simp only[qzg,qaf,Option.bind_some]
   rw[decide_eq_true (by omega),cond_true,qcp (by omega),qae (by omega)]
   simp only[qaj,hp,hg,eStr,qcmc,EV0]
   rw[ih b (i+1) n hg hd' (by omega)]
   simp only[asc,qhob]
   cases lt p b<;>rfl
 refine qaw (H:=[]) (qbic (xs.length+1) ?_)
 cases xs with
 | nil=>
  simp only[ffw,qzg,qaf,Option.bind_some]
  rw[decide_eq_false (by simp),cond_false]
  rfl
 | cons a r=>
  have:=loop r a 0 (r.length+1+1+1) rfl rfl (by omega) (r.length+1+1+1) (r.length+1+1+1)
  simpa[ffw] using this
theorem c_fbd (xs:List Str)(hx:xs.length≤1073741824):out qcqb [.one (qay xs)]=some [.one (Cell.bool (asc xs))]:=by
 have hM:=qag
 have loop:∀ (r:List Str) (p:Str) (i n:Nat),xs[i]?=some p→xs.drop (i+1)=r→r.length < n→∀ k m,qarb k m n (qay xs) ((i+1:Nat):Int)=some ([.one (Cell.bool (asc (p::r)))],[]):=by
  intro r
  induction r with
  | nil=>
   intro p i n hp hd hn k m
   obtain⟨n,rfl⟩:∃ j,n=j+1:=⟨n - 1,by omega⟩
   have:=drop_nil hd
   simp only[qarb,qaf,Option.bind_some]
   rw[decide_eq_false (by omega),cond_false]
   rfl
  | cons b r ih=>
   intro p i n hp hd hn k m
   obtain⟨n,rfl⟩:∃ j,n=j+1:=⟨n - 1,by omega⟩
   obtain⟨hlt,hg,hd'⟩:=qal hd
   simp only[List.length_cons] at hn
   simp only[qarb,qaf,Option.bind_some]
   rw[decide_eq_true (by omega),cond_true,qcp (by omega),qae (by omega)]
   simp only[qaj,hp,hg,eStr,qcmc,EV0]
   rw[ih b (i+1) n hg hd' (by omega)]
   simp only[asc,qhob]
   cases lt p b<;>rfl
 refine qaw (H:=[]) (qynb (xs.length+1) ?_)
 cases xs with
 | nil=>
  simp only[fbd,qarb,qaf,Option.bind_some]
  rw[decide_eq_false (by simp),cond_false]
  rfl
 | cons a r=>
  have:=loop r a 0 (r.length+1+1+1) rfl rfl (by omega) (r.length+1+1+1) (r.length+1+1+1)
  simpa[fbd] using this
theorem c_ffc (xs:List Str)(s:Str)(hx:xs.length≤1073741824):out qko [.one (qay xs),.one (Cell.str (bs s))]=some [.one (Cell.bool (xs.contains s))]:=by
 have hM:=qag
 have loop:∀ (r:List Str) (i n:Nat),xs.drop i=r→r.length < n→∀ k m,qeub k m n (qay xs) (bs s) i=some ([.one (Cell.bool (r.contains s))],[]):=by
  intro r
  induction r with
  | nil=>
   intro i n hd hn k m
   obtain⟨n,rfl⟩:∃ j,n=j+1:=⟨n - 1,by omega⟩
   have:=drop_nil hd
   simp only[qeub,qaf,Option.bind_some]
   rw[decide_eq_false (by omega),cond_false]
   rfl
  | cons b r ih=>
   intro i n hd hn k m
   obtain⟨n,rfl⟩:∃ j,n=j+1:=⟨n - 1,by omega⟩
   obtain⟨hlt,hg,hd'⟩:=qal hd
   simp only[List.length_cons] at hn
   simp only[qeub,qaj,hg,eStr,EV0]
   rw[decide_eq_true (by omega),cond_true,qae (by omega),ih (i+1) n hd' (by omega),List.contains_cons]
   have:(b==s)=(s==b):=by rw[Bool.eq_iff_iff];simp only[beq_iff_eq];exact eq_comm
   rw[this]
   cases (s==b)<;>rfl
 refine qaw (H:=[]) (qxmb (xs.length+1) ?_)
 have:=loop xs 0 (xs.length+1+1) rfl (by omega) (xs.length+1+1) (xs.length+1+1)
 simpa[ffc] using this
def idxS (s:Str):List Str→Nat→Int | [],_=>-1 | b::r,i=>if s=b then (i:Int) else idxS s r (i+1)
theorem qybd (s:Str):∀ (l:List Str) (i:Nat),(decide (idxS s l i≥0))=l.contains s:=by
 intro l
 induction l with
 | nil=>intro i;rfl
 | cons b r ih=>
  intro i
  rw[List.contains_cons]
  by_cases e:s=b
  ·have e1:idxS s (b::r) i=(i:Int):=if_pos e
   rw[e1,show(s==b)=true by simpa using e,decide_eq_true (by omega)];rfl
  ·have e1:idxS s (b::r) i=idxS s r (i+1):=if_neg e
   rw[e1,ih,show(s==b)=false by simpa using e];rfl
theorem c_fea (xs:List Str)(s:Str)(hx:xs.length≤1073741824):out qayb [.one (qay xs),.one (Cell.str (bs s))]=some [.one (Cell.int (idxS s xs 0))]:=by
 have hM:=qag
 have loop:∀ (r:List Str) (i n:Nat),xs.drop i=r→r.length < n→∀ k m,qeyb k m n (qay xs) (bs s) xs.length i=some ([.one (Cell.int (idxS s r i))],[]):=by
  intro r
  induction r with
  | nil=>
   intro i n hd hn k m
   obtain⟨n,rfl⟩:∃ j,n=j+1:=⟨n - 1,by omega⟩
   have:=drop_nil hd
   simp only[qeyb]
   rw[decide_eq_false (by omega),cond_false]
   rfl
  | cons b r ih=>
   intro i n hd hn k m
   obtain⟨n,rfl⟩:∃ j,n=j+1:=⟨n - 1,by omega⟩
   obtain⟨hlt,hg,hd'⟩:=qal hd
   simp only[List.length_cons] at hn
   simp only[qeyb,qaj,hg,eStr,EV0]
   rw[decide_eq_true (by omega),cond_true,qae (by omega),ih (i+1) n hd' (by omega)]
   simp only[idxS]
   by_cases e:s=b
   ·rw[show(s==b)=true by simpa using e,if_pos e];rfl
   ·rw[show(s==b)=false by simpa using e,if_neg e];rfl
 refine qaw (H:=[]) (qbjc (xs.length+1) ?_)
 have:=loop xs 0 (xs.length+1+1) rfl (by omega) (xs.length+1+1) (xs.length+1+1)
 simpa[fea] using this
theorem c_fdy (xs:List Str)(s:Str)(hx:xs.length≤1073741824):out qur [.one (qay xs),.one (Cell.str (bs s))]=some [.one (Cell.bool (xs.contains s))]:=by
 refine qaw (H:=[]) (qufb 0 ?_)
 simp only[fdy,c_fea xs s hx,EV0,qybd]
theorem qaye (xs:List Str)(hx:xs.length≤1073741824):Fresh qlf true 2 [.one (qay xs)] [.one (trL 1 qcx xs)]:=by
 obtain⟨p,h1,h2⟩:=(Grow.nil 1).app (by':=16) (xs.map eStr) (by unfold bound;simp;omega) (by unfold bound;simp;omega)
 rw[List.nil_append] at h2
 obtain⟨ids,h3,h4,h5⟩:=h2.rep (tr:=qcx) (fun _ _=>rfl) (fun x _ H'=>Sp.leaf1 _)
 refine Fresh.one (c:=p.1) (H:=p.2) (qxbb 0 ?_) h3 h4
 have hs:qbp [] 1 (qay xs)=some (xs.map eStr):=by simp[qbp,rowsOf,encL]
 simp only[fdw,hs,h1,EV0]
 cases xs with
 | nil=>
  simp only[List.map_nil,app,List.isEmpty_nil,if_true,Option.some.injEq] at h1
  subst h1
  simp[nilC,encL,both]
 | cons x xs=>simp[nilC,encL]
theorem f_fba (x:MRule)(hx:x.Bd 1048576):Fresh qdwb true 2 [.agg [Cell.str (bs x.Task),qay x.On,qay x.Ins,qay x.Envs,Cell.bool x.Keep]] [.agg x.tr]:=by
 obtain⟨b0,b1,b2,b3,b4⟩:=hx
 obtain⟨c1,E1,i1,e1,r1,w1,g1⟩:=qcz (qaye x.On (Nat.le_trans b1.1 (by omega))) ([]:List Entry) (qam [.one (qay x.On)] _ _)
 obtain⟨c2,E2,i2,e2,r2,w2,g2⟩:=qcz (qaye x.Ins (Nat.le_trans b2.1 (by omega))) ([]++E1) (qam [.one (qay x.Ins)] _ _)
 obtain⟨c3,E3,i3,e3,r3,w3,g3⟩:=qcz (qaye x.Envs (Nat.le_trans b3.1 (by omega))) ([]++E1++E2) (qam [.one (qay x.Envs)] _ _)
 have hs:Sp (Rep ([]++E1++E2++E3) true true 2) (i1++(i2++(i3++[]))) [Cell.str (bs x.Task),c1,c2,c3,Cell.bool x.Keep] x.tr:=
  (Sp.append (Sp.leafD (H:=[]++E1++E2++E3) (w:=true) (q:=true) (n:=2) (by omega) (.string (bs x.Task))) (Sp.append (Sp.one1 (Rep.app E3 (Rep.app E2 r1))) (Sp.append (Sp.one1 (Rep.app E3 r2)) (Sp.append (Sp.one1 r3) (Sp.append (Sp.leafD (by omega) (.bool x.Keep)) Sp.nil)))) :)
 refine Fresh.agg (qyhb 0 ?_) hs (Mine.app w1 (Mine.app w2 (Mine.app w3 (Mine.nil (Nat.le_refl _))))).nd
 simp only[fba,e1,e2,e3,EV0]
theorem c_fev (x:MRule)(hx:x.Bd 1048576):outL qbob [.agg [Cell.str (bs x.Task),qay x.On,qay x.Ins,qay x.Envs,Cell.bool x.Keep]]=some [.agg [Cell.str (bs x.Task),qay x.On,qay x.Ins,qay x.Envs,Cell.bool x.Keep]]:=by
 obtain⟨b0,b1,b2,b3,b4⟩:=hx
 have l1:=b1.1
 have l2:=b2.1
 have l3:=b3.1
 have hs:∀ (xs:List Str) H,qbp H 1 (qay xs)=some (xs.map eStr):=fun xs H=>by simp[qbp,rowsOf,encL]
 obtain⟨c1,E1,i1,e1,r1,w1,g1⟩:=qvn (sz:=1) (by':=16) (e:=eStr) (tr:=qcx) ([]:List Entry) x.On (fun _ _=>rfl) (fun _ _ _=>Sp.leaf1 _) (by unfold bound;omega) (by unfold bound;omega)
 obtain⟨c2,E2,i2,e2,r2,w2,g2⟩:=qvn (sz:=1) (by':=16) (e:=eStr) (tr:=qcx) ([]++E1) x.Ins (fun _ _=>rfl) (fun _ _ _=>Sp.leaf1 _) (by unfold bound;omega) (by unfold bound;omega)
 obtain⟨c3,E3,i3,e3,r3,w3,g3⟩:=qvn (sz:=1) (by':=16) (e:=eStr) (tr:=qcx) ([]++E1++E2) x.Envs (fun _ _=>rfl) (fun _ _ _=>Sp.leaf1 _) (by unfold bound;omega) (by unfold bound;omega)
 have hs':Sp (Rep ([]++E1++E2++E3) true true 2) (i1++(i2++(i3++[]))) [Cell.str (bs x.Task),c1,c2,c3,Cell.bool x.Keep] x.tr:=
  (Sp.append (Sp.leafD (H:=[]++E1++E2++E3) (w:=true) (q:=true) (n:=2) (by omega) (.string (bs x.Task))) (Sp.append (Sp.one1 (Rep.app E3 (Rep.app E2 r1))) (Sp.append (Sp.one1 (Rep.app E3 r2)) (Sp.append (Sp.one1 r3) (Sp.append (Sp.leafD (by omega) (.bool x.Keep)) Sp.nil)))) :)
 refine qbf (H:=[]++E1++E2++E3) (xs:=[.agg [Cell.str (bs x.Task),c1,c2,c3,Cell.bool x.Keep]]) (qalc 0 ?_) ?_
 ·simp only[fev,hs,e1,e2,e3,EV0]
 ·have:=qbt (qeq hs' (by omega)) (qbh (qao false ([]++E1++E2++E3)))
  simpa only[MRule.tr,List.map_cons,List.map_nil,qbg,qbm] using this
def qbi (l:List MRule)(s:Str):MRule×Bool:=match l.find? (fun r=>r.Task==s) with
 | some r=>(r,true)
 | none=>(⟨s,[],[],[],false⟩,false)
theorem qtkb (l:List MRule)(hl:bdL 1048576 (MRule.Bd 1048576) l)(s:Str)(hs:bdS 1048576 s):(qbi l s).1.Bd 1048576:=by
 unfold qbi
 split
 ·rename_i r h
  exact hl.2 r (List.mem_of_find?_eq_some h)
 ·exact⟨hs,⟨by simp,by simp⟩,⟨by simp,by simp⟩,⟨by simp,by simp⟩,trivial⟩
theorem c_feo (l:List MRule)(hl:bdL 1048576 (MRule.Bd 1048576) l)(s:Str)(hs:bdS 1048576 s):outL qaib [.one (encL 5 MRule.enc l),.one (Cell.str (bs s))]=some [.agg [Cell.str (bs (qbi l s).1.Task),qay (qbi l s).1.On,qay (qbi l s).1.Ins,qay (qbi l s).1.Envs,Cell.bool (qbi l s).1.Keep],.one (Cell.bool (qbi l s).2)]:=by
 have hM:=qag
 have hxl:=hl.1
 have loop:∀ (r:List MRule) (i n:Nat),l.drop i=r→r.length < n→(∀ x∈r,x.Bd 1048576)→∀ k m,∃ ys,qyy k m n (encL 5 MRule.enc l) (bs s) i=some (ys,[])∧
   mapO (qao false []) ys=some [.agg [Cell.str (bs (qbi r s).1.Task),qay (qbi r s).1.On,qay (qbi r s).1.Ins,qay (qbi r s).1.Envs,Cell.bool (qbi r s).1.Keep],.one (Cell.bool (qbi r s).2)]:=by
  intro r
  induction r with
  | nil=>
   intro i n hd hn hb k m
   obtain⟨n,rfl⟩:∃ j,n=j+1:=⟨n - 1,by omega⟩
   have:=drop_nil hd
   refine⟨_,by simp only[qyy,qaf,Option.bind_some];rw[decide_eq_false (by omega),cond_false],?_⟩
   rfl
  | cons x r ih=>
   intro i n hd hn hb k m
   obtain⟨n,rfl⟩:∃ j,n=j+1:=⟨n - 1,by omega⟩
   obtain⟨hlt,hg,hd'⟩:=qal hd
   simp only[List.length_cons] at hn
   have hx:=hb x List.mem_cons_self
   by_cases e:x.Task=s
   ·have hm:qbi (x::r) s=(x,true):=by simp[qbi,e]
    refine⟨_,?_,qam [.agg [Cell.str (bs x.Task),qay x.On,qay x.Ins,qay x.Envs,Cell.bool x.Keep],.one (Cell.bool true)] _ _ |>.trans (by rw[hm])⟩
    simp only[qyy,qaf,qaj,hg,MRule.enc,c_fev x hx,qbr,Nat.zero_add,EV0]
    rw[decide_eq_true (by omega),cond_true,show(x.Task==s)=true by simpa using e,cond_true]
   ·have hm:qbi (x::r) s=qbi r s:=by simp[qbi,e]
    obtain⟨ys,h1,h2⟩:=ih (i+1) n hd' (by omega) (fun y hy=>hb y (List.mem_cons_of_mem _ hy)) k m
    refine⟨ys,?_,by rw[hm];exact h2⟩
    simp only[qyy,qaf,qaj,hg,MRule.enc,qbr,Nat.zero_add,EV0]
    rw[decide_eq_true (by omega),cond_true,show(x.Task==s)=false by simpa using e,cond_false,qae (by omega)]
    exact h1
 obtain⟨ys,h1,h2⟩:=loop l 0 (l.length+1+1) rfl (by omega) hl.2 (l.length+1+1) (l.length+1+1)
 refine qbf (H:=[]) (qtvb (l.length+1) ?_) h2
 simpa[feo] using h1
theorem f_fap (l:List MRule)(hl:bdL 1048576 (MRule.Bd 1048576) l)(s:Str)(hs:bdS 1048576 s):Fresh qyb true 2 [.one (encL 5 MRule.enc l),.one (Cell.str (bs s))] [.agg (qbi l s).1.tr,.one (.leaf (.bool (qbi l s).2))]:=by
 have hM:=qag
 have hxl:=hl.1
 have loop:∀ (r:List MRule) (i n:Nat),l.drop i=r→r.length < n→(∀ x∈r,x.Bd 1048576)→∀ k m,∃ cs H ids,qyq k m n (bs s) (encL 5 MRule.enc l) l.length i=some ([.agg cs,.one (Cell.bool (qbi r s).2)],H)∧
   good H∧Sp (Rep H true true 2) ids cs (qbi r s).1.tr∧ids.Nodup:=by
  intro r
  induction r with
  | nil=>
   intro i n hd hn hb k m
   obtain⟨n,rfl⟩:∃ j,n=j+1:=⟨n - 1,by omega⟩
   have:=drop_nil hd
   refine⟨[Cell.str (bs s),.lst true 1 [],.lst true 1 [],.lst true 1 [],Cell.bool false],[],[],by simp only[qyq];rw[decide_eq_false (by omega),cond_false];rfl,qfjb,?_,by simp⟩
   exact .cons (i:=[]) (is:=[]) ⟨rfl,rfl⟩ (.cons (i:=[]) (is:=[]) (.inl ⟨rfl,rfl,true,rfl⟩) (.cons (i:=[]) (is:=[]) (.inl ⟨rfl,rfl,true,rfl⟩) (.cons (i:=[]) (is:=[]) (.inl ⟨rfl,rfl,true,rfl⟩) (.cons (i:=[]) (is:=[]) ⟨rfl,rfl⟩ .nil))))
  | cons x r ih=>
   intro i n hd hn hb k m
   obtain⟨n,rfl⟩:∃ j,n=j+1:=⟨n - 1,by omega⟩
   obtain⟨hlt,hg,hd'⟩:=qal hd
   simp only[List.length_cons] at hn
   have hx:=hb x List.mem_cons_self
   by_cases e:x.Task=s
   ·have hm:qbi (x::r) s=(x,true):=by simp[qbi,e]
    obtain⟨cs,E,ids,e1,r1,w1,g1⟩:=qbhc (f_fba x hx) [] (qam [.agg [Cell.str (bs x.Task),qay x.On,qay x.Ins,qay x.Envs,Cell.bool x.Keep]] _ _)
    obtain⟨c1,c2,c3,rfl⟩:=MRule.open r1
    rw[hm]
    refine⟨_,_,ids,?_,g1 qfjb,r1,w1.nd⟩
    simp only[qyq,qaj,hg,MRule.enc,e1,Nat.zero_add,EV0]
    rw[decide_eq_true (by omega),cond_true,show(x.Task==s)=true by simpa using e,cond_true]
   ·have hm:qbi (x::r) s=qbi r s:=by simp[qbi,e]
    obtain⟨cs,H,ids,h1,h2⟩:=ih (i+1) n hd' (by omega) (fun y hy=>hb y (List.mem_cons_of_mem _ hy)) k m
    rw[hm]
    refine⟨cs,H,ids,?_,h2⟩
    simp only[qyq,qaj,hg,MRule.enc,Nat.zero_add,EV0]
    rw[decide_eq_true (by omega),cond_true,show(x.Task==s)=false by simpa using e,cond_false,qae (by omega)]
    exact h1
 obtain⟨cs,H,ids,h1,h2,h3,h4⟩:=loop l 0 (l.length+1+1) rfl (by omega) hl.2 (l.length+1+1) (l.length+1+1)
 refine Fresh.agg1 (n:=1) (qwob (l.length+1) ?_) h3 h4
 simpa[fap] using h1
def idxF {α:Type}(p:α→Bool):List α→Nat→Int | [],_=>-1 | x::r,i=>cond (p x) (i:Int) (idxF p r (i+1))
theorem qkn {α:Type}(p:α→Bool):∀ (l:List α) (i:Nat),(idxF p l i=-1∧l.find? p=none)∨∃ (j:Nat) (x:α),idxF p l i=((i+j:Nat):Int)∧l[j]?=some x∧l.find? p=some x:=by
 intro l
 induction l with
 | nil=>intro i;exact .inl ⟨rfl,rfl⟩
 | cons b r ih=>
  intro i
  by_cases e:p b=true
  ·exact .inr ⟨0,b,by simp[idxF,e],rfl,by simp[e]⟩
  ·rcases ih (i+1) with⟨h1,h2⟩ | ⟨j,x,h1,h2,h3⟩
   ·exact .inl ⟨by simp[idxF,e,h1],by simp[e,h2]⟩
   ·exact .inr ⟨j+1,x,by simp only[idxF,Bool.eq_false_iff.2 e,cond_false,h1];congr 1;omega,by simpa using h2,by simp[e,h3]⟩
theorem qryd:∀ (a b:Str),lt a b=true↔a < b:=by
 intro a
 unfold lt
 induction a with
 | nil=>intro b;cases b<;>simp[Op.bytesLess]
 | cons x a ih=>
  intro b
  cases b with
  | nil=>simp[Op.bytesLess]
  | cons y b=>rw[List.cons_lt_cons_iff,← ih b];simp[Op.bytesLess]
theorem qmh:∀ {a b:List Str},a.Pairwise (· < ·)→b.Pairwise (· < ·)→(∀ x,x∈a↔x∈b)→a=b:=by
 intro a
 induction a with
 | nil=>
  intro b _ _ h
  cases b with
  | nil=>rfl
  | cons y b=>exact absurd ((h y).2 List.mem_cons_self) (by simp)
 | cons x a ih=>
  intro b ha hb h
  cases b with
  | nil=>exact absurd ((h x).1 List.mem_cons_self) (by simp)
  | cons y b=>
   obtain⟨a1,a2⟩:=List.pairwise_cons.1 ha
   obtain⟨b1,b2⟩:=List.pairwise_cons.1 hb
   have hxy:x=y:=by
    rcases List.mem_cons.1 ((h x).1 List.mem_cons_self) with e | e
    ·exact e
    ·rcases List.mem_cons.1 ((h y).2 List.mem_cons_self) with e' | e'
     ·exact e'.symm
     ·exact absurd (List.lt_trans (b1 x e) (a1 y e')) (List.lt_irrefl _)
   subst hxy
   congr 1
   refine ih a2 b2 fun z=>⟨fun hz=>?_,fun hz=>?_⟩
   ·rcases List.mem_cons.1 ((h z).1 (List.mem_cons_of_mem _ hz)) with rfl | e
    ·exact absurd (a1 z hz) (List.lt_irrefl _)
    ·exact e
   ·rcases List.mem_cons.1 ((h z).2 (List.mem_cons_of_mem _ hz)) with rfl | e
    ·exact absurd (b1 z hz) (List.lt_irrefl _)
    ·exact e
def qbs (xs:List Str):List Str:=Lib.compact (qpdb xs)
theorem qbz (xs:List Str):(qbs xs).Pairwise (· < ·)∧∀ x,x∈qbs xs↔x∈xs:=by
 have hp:(qpdb xs).Pairwise (fun a b=>a≤b):=by
  have:=List.pairwise_mergeSort (le:=fun x y:Str=>decide (x≤y)) (fun a b c h1 h2=>by simp only[decide_eq_true_eq] at*;exact List.le_trans h1 h2) (fun a b=>by simpa using List.le_total a b) xs
  simpa[qpdb] using this
 have hm:∀ x,x∈qpdb xs↔x∈xs:=fun x=>List.mem_mergeSort
 generalize hs:qpdb xs=s at hp hm
 have key:∀ m,m < s.length→∃ C,Lib.compactUpTo s.toArray (m+1)=C++[s[m]!]∧(C++[s[m]!]).Pairwise (· < ·)∧∀ x,x∈C++[s[m]!]↔x∈s.take (m+1):=by
  intro m
  induction m with
  | zero=>
   intro h
   obtain⟨x,r,rfl⟩:∃ x r,s=x::r:=by cases s with | nil=>simp at h | cons x r=>exact⟨x,r,rfl⟩
   exact⟨[],by rw[Lib.compactUpTo_succ];simp[Lib.compactUpTo,Lib.keeps],by simp,by simp⟩
  | succ m ih=>
   intro h
   obtain⟨C,h1,h2,h3⟩:=ih (by omega)
   have e0:s[m]! =s[m]:=by simp[show m < s.length by omega]
   have e1:s[m+1]! =s[m+1]:=by simp[h]
   have ht:s.take (m+1+1)=s.take (m+1)++[s[m+1]]:=by rw[List.take_add_one,List.getElem?_eq_getElem h];rfl
   have hle:s[m]≤s[m+1]:=List.pairwise_iff_getElem.1 hp m (m+1) (by omega) h (by omega)
   rw[Lib.compactUpTo_succ,h1]
   have hk:Lib.keeps s.toArray (m+1)=decide (s[m+1]≠s[m]):=by
    simp[Lib.keeps,h,show m < s.length by omega]
   rw[hk,e1,ht]
   by_cases he:s[m+1]=s[m]
   ·refine⟨C,by simp[he,e0],by rw[he,← e0];exact h2,fun x=>?_⟩
    have h4:=h3 x
    rw[e0] at h4
    rw[he]
    constructor
    ·exact fun h=>List.mem_append_left _ (h4.1 h)
    ·intro h
     rcases List.mem_append.1 h with h | h
     ·exact h4.2 h
     ·exact List.mem_append_right _ h
   ·refine⟨C++[s[m]!],by simp[he,h],?_,fun x=>?_⟩
    ·refine List.pairwise_append.2 ⟨h2,by simp,fun a ha b hb=>?_⟩
     simp only[List.mem_singleton] at hb
     subst hb
     have hlt:s[m] < s[m+1]:=by
      rcases Classical.em (s[m] < s[m+1]) with h | h
      ·exact h
      ·exact absurd (List.le_antisymm (List.not_lt.1 h) hle) he
     rcases List.mem_append.1 ha with ha | ha
     ·have:=(List.pairwise_append.1 h2).2.2 a ha s[m]! (by simp)
      rw[e0] at this
      exact List.lt_trans this hlt
     ·simp only[List.mem_singleton] at ha
      rw[ha,e0]
      exact hlt
    ·rw[List.mem_append,h3 x,List.mem_append]
 unfold qbs
 rw[hs]
 cases hl:s.length with
 | zero=>
  have:s=[]:=List.eq_nil_of_length_eq_zero hl
  subst this
  exact⟨by simp[Lib.compact,Lib.compactUpTo],fun x=>by rw[← hm x];simp[Lib.compact,Lib.compactUpTo]⟩
 | succ m=>
  obtain⟨C,h1,h2,h3⟩:=key m (by omega)
  have he:Lib.compact s=C++[s[m]!]:=by rw[Lib.compact,hl,h1]
  rw[he]
  refine⟨h2,fun x=>?_⟩
  rw[h3 x,← hm x,List.take_of_length_le (by omega)]
theorem qvz {o xs:List Str}(h1:o.Pairwise (· < ·))(h2:∀ x,x∈o↔x∈xs):o=qbs xs:=
 qmh h1 (qbz xs).1 fun x=>(h2 x).trans ((qbz xs).2 x).symm
theorem qxf (xs:List Str):(qbs xs).length≤xs.length:=Nat.le_trans (qzw _) (Nat.le_of_eq (List.length_mergeSort xs))
theorem c_feq (xs:List Str)(hx:xs.length≤1073741824):outL qfw [.one (qay xs)]=some [.one (qay (qbs xs))]:=by
 have hM:=qag
 have inner:∀ (o:List Str) (x:Str) (i:Nat) (ep:Nat),xs[i]?=some x→o.length < 1073741824→x∉o→o.Pairwise (· < ·)→∀ (k:Nat) (z:Str) (n:Nat),k≤o.length→k < n→(∀ y∈o.drop k,x < y)→∀ (b:Cell→Cell→Int→List Entry→Option Res) kk m,
   ∃ k',k'≤o.length∧(∀ y∈o.drop k',x < y)∧(∀ y∈o.take k',y < x)∧
    qghb kk m b n (qay xs) (.vs 0 1 0 (o.length+1) ep) i k [Entry.mk 1 ((o.take k++z::o.drop k).map eStr) ep false]=b (qay xs) (.vs 0 1 0 (o.length+1) ep) ((i+1:Nat):Int) [Entry.mk 1 ((o.take k'++x::o.drop k').map eStr) ep false]:=by
  intro o x i ep hxi hol hxo hp k
  have hi:i < xs.length:=(List.getElem?_eq_some_iff.1 hxi).1
  have hput:∀ (k:Nat) (z y:Str),k≤o.length→qca [Entry.mk 1 ((o.take k++z::o.drop k).map eStr) ep false] (.ptr 0 1 k 0 ep) [Cell.str (bs y)]=some [Entry.mk 1 ((o.take k++y::o.drop k).map eStr) ep false]:=by
   intro k z y hk
   have hr:((o.take k++z::o.drop k).map eStr)[k]?=some (eStr z):=by
    rw[List.getElem?_map,List.getElem?_append_right (by simp;omega)]
    simp[Nat.min_eq_left hk]
   simp only[qca,entry?,List.getElem?_cons_zero,if_true,hr]
   rw[if_pos ⟨trivial,by simp,trivial⟩]
   simp[splice,eStr,List.set_append,Nat.min_eq_left hk]
  have hix:∀ (k:Nat),k < o.length+1→idxA 1 (.vs 0 1 0 (o.length+1) ep) ((k:Nat):Int)=some (.ptr 0 1 k 0 ep):=fun k hk=>qgd _ _ _ _ _ hk
  induction k with
  | zero=>
   intro z n hk hn hd b kk m
   obtain⟨n,rfl⟩:∃ j,n=j+1:=⟨n - 1,by omega⟩
   refine⟨0,by omega,hd,by simp,?_⟩
   simp only[qghb]
   rw[decide_eq_false (by omega),cond_false]
   simp only[qaj,hxi,eStr,hix 0 (by omega),hput 0 z x (by omega),EV0]
   rw[qae (by omega)]
  | succ k ih=>
   intro z n hk hn hd b kk m
   obtain⟨n,rfl⟩:∃ j,n=j+1:=⟨n - 1,by omega⟩
   obtain⟨y,hy⟩:∃ y,o[k]?=some y:=⟨o[k],List.getElem?_eq_getElem (by omega)⟩
   have hyo:y∈o:=List.mem_of_getElem? hy
   have hwp:IntKind.i64.wrap (((k+1:Nat):Int) - 1)=(k:Int):=qcp (by omega)
   have hdr:deref [Entry.mk 1 ((o.take (k+1)++z::o.drop (k+1)).map eStr) ep false] (.ptr 0 1 k 0 ep)=some (eStr y,0):=by
    have hr:((o.take (k+1)++z::o.drop (k+1)).map eStr)[k]?=some (eStr y):=by
     rw[List.getElem?_map,List.getElem?_append_left (by simp;omega),List.getElem?_take_of_lt (by omega),hy]
     rfl
    simp only[deref,entry?,List.getElem?_cons_zero,if_true,hr]
   have hdrop:o.drop k=y::o.drop (k+1):=by
    rw[List.drop_eq_getElem_cons (by omega)]
    congr 1
    rw[List.getElem?_eq_getElem (by omega)] at hy
    simpa using hy
   simp only[qghb]
   rw[decide_eq_true (by omega),cond_true]
   have hbl:(!(Op.bytesLess y x||y==x))=lt x y:=by rw[qcmc,qhob,Bool.not_not]
   simp only[hwp,qaj,hxi,hix k (by omega),hdr,eStr,hbl,EV0]
   by_cases hlt:x < y
   ·rw[(qryd x y).2 hlt,cond_true]
    simp only[hix (k+1) (by omega),hdr,eStr,EV0]
    have hst:=hput (k+1) z y hk
    have hrows:o.take (k+1)++y::o.drop (k+1)=o.take k++y::o.drop k:=by
     rw[List.take_add_one,hy,hdrop]
     simp
    rw[hrows] at hst
    simp only[hst,Option.bind_some]
    have:=ih y n (by omega) (by omega) (fun w hw=>by
     rw[hdrop] at hw
     rcases List.mem_cons.1 hw with rfl | hw
     ·exact hlt
     ·exact hd w hw) b kk m
    exact this
   ·have hf:lt x y=false:=Bool.eq_false_iff.2 fun h=>hlt ((qryd x y).1 h)
    rw[hf,cond_false]
    refine⟨k+1,hk,hd,fun w hw=>?_,?_⟩
    ·have hyx:y < x:=by
      rcases Classical.em (y < x) with h | h
      ·exact h
      ·exact absurd (List.le_antisymm (List.not_lt.1 h) (List.not_lt.1 hlt)) fun e=>hxo (e▸hyo)
     rw[List.take_add_one,hy] at hw
     rcases List.mem_append.1 hw with hw | hw
     ·have h1:o=o.take k++y::o.drop (k+1):=by rw[← hdrop,List.take_append_drop]
      rw[h1] at hp
      exact List.lt_trans ((List.pairwise_append.1 hp).2.2 w hw y List.mem_cons_self) hyx
     ·simp only[Option.toList_some,List.mem_singleton] at hw
      rw[hw]
      exact hyx
    ·have hst:=hput (k+1) z x hk
     simp only[hix (k+1) (by omega),hst,EV0]
     rw[qae (by omega)]
 have loop:∀ (r:List Str) (i n:Nat) (o:List Str) (c:Cell) (H:List Entry),xs.drop i=r→i+r.length=xs.length→r.length < n→Grow 1 c H (o.map eStr)→o.length≤i→o.Pairwise (· < ·)→(∀ x,x∈o↔x∈xs.take i)→∀ k m,xs.length < m→
   ∃ (c':Cell) (H':List Entry) (o':List Str),qvk k m n (qay xs) c i H=some ([.one c'],H')∧Grow 1 c' H' (o'.map eStr)∧o'.Pairwise (· < ·)∧∀ x,x∈o'↔x∈xs:=by
  intro r
  induction r with
  | nil=>
   intro i n o c H hd hi hn hg hol hp hm k m hm'
   obtain⟨n,rfl⟩:∃ j,n=j+1:=⟨n - 1,by omega⟩
   have h1:=drop_nil hd
   rw[List.take_of_length_le h1] at hm
   refine⟨c,H,o,?_,hg,hp,hm⟩
   simp only[qvk,qaf,Option.bind_some]
   rw[decide_eq_false (by omega),cond_false]
  | cons x r ih=>
   intro i n o c H hd hi hn hg hol hp hm k m hm'
   obtain⟨n,rfl⟩:∃ j,n=j+1:=⟨n - 1,by omega⟩
   obtain⟨hlt,hxi,hd'⟩:=qal hd
   simp only[List.length_cons] at hn hi
   have htake:xs.take (i+1)=xs.take i++[x]:=by rw[List.take_add_one,hxi];rfl
   have hrd:qao false H (.one c)=some (.one (qay o)):=by
    have:=hg.read
    simp only[mapO] at this
    cases h:qao false H (.one c) with
    | none=>rw[h] at this;simp at this
    | some y=>rw[h] at this;simpa using this
   have q1:qar qko [.one c,.one (Cell.str (bs x))] H=some [.one (Cell.bool (o.contains x))]:=by
    rw[qdn (qbt hrd (qbt (qba _ _ _) (qbh _)))]
    exact c_ffc o x (by omega)
   simp only[qvk,qaf,Option.bind_some]
   rw[decide_eq_true (by omega),cond_true]
   simp only[qaj,hxi,eStr,q1,qae (show i < maxLen by omega),EV0]
   by_cases hc:x∈o
   ·rw[show o.contains x=true by simpa using hc,cond_true]
    exact ih (i+1) n o c H hd' (by omega) (by omega) hg (by omega) hp (fun w=>by
     rw[htake,List.mem_append,← hm w]
     refine⟨.inl,fun h=>h.elim id fun h=>?_⟩
     simp only[List.mem_singleton] at h
     subst h
     exact hc) k m hm'
   ·rw[show o.contains x=false by simpa using hc,cond_false]
    obtain⟨q,e1,e2⟩:=hg.app (by':=16) [[Cell.str (bs x)]] (by unfold bound;simp;omega) (by unfold bound;simp;omega)
    have hrows:o.map eStr++[[Cell.str (bs x)]]=(o++[x]).map eStr:=by simp[eStr]
    rw[hrows] at e2
    rcases e2 with⟨h,_,_⟩ | ⟨ep,h1,h2⟩
    ·simp at h
    obtain⟨qc,qH⟩:=q
    simp only at h1 h2
    subst h1 h2
    have hlen:((o++[x]).map eStr).length=o.length+1:=by simp
    obtain⟨k',z1,z2,z3,z4⟩:=inner o x i ep hxi (by omega) hc hp o.length x m (Nat.le_refl _) (by omega) (by simp) (qvk k m n) k m
    rw[hlen] at e1
    simp only[e1,Option.bind_some,qtxd]
    rw[show IntKind.i64.wrap (((o.length+1:Nat):Int) - 1)=(o.length:Int) from qcp (by omega)]
    simp only[List.take_length,List.drop_length] at z4
    rw[z4]
    have hl2:(o.take k'++x::o.drop k').length=o.length+1:=by simp;omega
    have hmem:∀ w,w∈o.take k'++x::o.drop k'↔w∈o∨w=x:=by
     intro w
     conv=>rhs;rw[← List.take_append_drop k' o]
     simp only[List.mem_append,List.mem_cons]
     constructor
     ·rintro (h | h | h)
      ·exact .inl (.inl h)
      ·exact .inr h
      ·exact .inl (.inr h)
     ·rintro ((h | h) | h)
      ·exact .inl h
      ·exact .inr (.inr h)
      ·exact .inr (.inl h)
    refine ih (i+1) n (o.take k'++x::o.drop k') (.vs 0 1 0 (o.length+1) ep) [Entry.mk 1 ((o.take k'++x::o.drop k').map eStr) ep false] hd' (by omega) (by omega) (.inr ⟨ep,by rw[List.length_map,hl2],rfl⟩) (by rw[hl2];omega) ?_ ?_ k m hm'
    ·have h0:=hp
     rw[← List.take_append_drop k' o] at h0
     obtain⟨p1,p2,p3⟩:=List.pairwise_append.1 h0
     refine List.pairwise_append.2 ⟨p1,List.pairwise_cons.2 ⟨z2,p2⟩,fun a ha b hb=>?_⟩
     rcases List.mem_cons.1 hb with rfl | hb
     ·exact z3 a ha
     ·exact p3 a ha b hb
    ·intro w
     rw[hmem w,hm w,htake]
     simp
 obtain⟨c',H',o',h1,h2,h3,h4⟩:=loop xs 0 (xs.length+1+1) [] (.lst true 1 []) [] rfl (by omega) (by omega) (Grow.nil 1) (by simp) (by simp) (by simp) (xs.length+1+1) (xs.length+1+1) (by omega)
 rw[qvz h3 h4] at h2
 refine qbf (H:=H') (qxob (xs.length+1) ?_) h2.read
 simpa[feq] using h1
theorem f_far (xs:List Str)(hx:xs.length≤1073741824):Fresh qnk true 2 [.one (qay xs)] [.one (trL 1 qcx (qbs xs))]:=by
 obtain⟨c1,E1,i1,e1,r1,w1,g1⟩:=qcz (qaye xs hx) ([]:List Entry) (qam [.one (qay xs)] _ _)
 rw[List.nil_append] at e1 r1
 rcases r1 with⟨h1,_,f,rfl⟩ | ⟨id,off,ep,e,fr,is,rfl,rfl,he,hq,hwh,hl,hr,hs⟩
 ·simp only[List.map_eq_nil_iff] at h1
  subst h1
  have hnil:qbs []=[]:=by simp[qbs,qpdb,Lib.compact,Lib.compactUpTo]
  have h2:qbyb [.one (.lst f 1 [])] E1=some ([],E1):=rfl
  have h3:qzr [.one (.lst f 1 [])] E1=some ([.one (.lst f 1 [])],E1):=rfl
  have h4:qup [.one (.lst f 1 [])] E1=some ([.one (.lst true 1 [])],E1):=qacb 0 (by simp[fdv,slcC,qkrc])
  refine Fresh.one (c:=.lst true 1 []) (H:=E1) (ids:=[]) (qzn 0 ?_) (.inl ⟨by rw[hnil];rfl,rfl,true,rfl⟩) (by simp)
  simp only[far,e1,h2,h3,h4,EV0]
 ·obtain⟨rfl,hle⟩:=hwh rfl
  obtain rfl:=hq rfl
  rw[List.drop_zero,hle,List.take_of_length_le (Nat.le_refl _)] at hs
  have hrows:e=xs.map eStr:=by
   have key:∀ {is:List Nat} {e:List (List Cell)} {xs:List Str},Sp (Sp (Rep E1 true true 1)) is e (xs.map qcx)→(∀ r∈e,r.length=1)→e=xs.map eStr:=by
    intro is e xs
    induction xs generalizing is e with
    | nil=>intro h _;obtain⟨_,rfl⟩:=h.nil_inv;rfl
    | cons x xs ih=>
     intro h hl
     obtain⟨i,i',a,as',rfl,rfl,h1,h2⟩:=h.cons_inv
     obtain⟨r',rfl,h3⟩:=h1.leaf_inv
     have:=hl _ List.mem_cons_self
     have:r'=[]:=List.eq_nil_of_length_eq_zero (by simpa using this)
     subst this
     rw[ih h2 fun r hr=>hl r (List.mem_cons_of_mem _ hr)]
     rfl
   exact key hs hr
  subst hrows
  simp only[List.length_map] at hle
  have hv:vecS E1 id 1 0 (xs.map qcx).length ep=some xs:=by
   simp[vecS,entry?,he,qjh]
   omega
  have h2:qbyb [.one (.vs id 1 0 (xs.map qcx).length ep)] E1=some ([],E1.set id ⟨1,(qpdb xs).map eStr,ep,false⟩):=by
   show qqa _ _=_
   simp only[qqa,hv]
  have hid:id < E1.length:=(List.getElem?_eq_some_iff.1 he).1
  have hv2:vecS (E1.set id ⟨1,(qpdb xs).map eStr,ep,false⟩) id 1 0 (xs.map qcx).length ep=some (qpdb xs):=by
   have:(qpdb xs).length=xs.length:=List.length_mergeSort xs
   simp[vecS,entry?,hid,qjh,this]
   omega
  have h3:qzr [.one (.vs id 1 0 (xs.map qcx).length ep)] (E1.set id ⟨1,(qpdb xs).map eStr,ep,false⟩)=some ([.one (.vs id 1 0 (qbs xs).length ep)],(E1.set id ⟨1,(qpdb xs).map eStr,ep,false⟩).set id ⟨1,(qbs xs).map eStr,ep,false⟩):=by
   show qfu _ _=_
   simp only[qfu,hv2]
   rfl
  rw[List.set_set] at h3
  have h4:qup [.one (.vs id 1 0 (qbs xs).length ep)] (E1.set id ⟨1,(qbs xs).map eStr,ep,false⟩)=some ([.one (.vs id 1 0 (qbs xs).length ep)],E1.set id ⟨1,(qbs xs).map eStr,ep,false⟩):=qacb 0 (by simp[fdv,slcC])
  refine Fresh.one (c:=.vs id 1 0 (qbs xs).length ep) (H:=E1.set id ⟨1,(qbs xs).map eStr,ep,false⟩) (ids:=[id]) (qzn 0 ?_) (.inr ⟨id,0,ep,(qbs xs).map eStr,false,[],by simp,rfl,by simp[hid],fun _=>rfl,fun _=>⟨rfl,by simp⟩,by simp,?_,?_⟩) (by simp)
  ·simp only[far,e1,h2,h3,h4,EV0]
  ·intro r hr
   obtain⟨x,_,rfl⟩:=List.mem_map.1 hr
   rfl
  ·rw[List.drop_zero,List.take_of_length_le (by simp)]
   have:∀ (l:List Str) (G:List Entry),Sp (Sp (Rep G true true 1)) [] (l.map eStr) (l.map qcx):=by
    intro l G
    induction l with
    | nil=>exact .nil
    | cons x l ih=>exact .cons (i:=[]) (is:=[]) (Sp.leaf1 _) ih
   exact this _ _
open Classical in
noncomputable def qsp (nx:Str→List Str)(a:Str):List Str:=if h:∃ o:List Str,∀ x,x∈o↔Reach nx a x then qbs h.choose else []
theorem qntb {nx:Str→List Str}{a:Str}{o:List Str}(h:∀ x,x∈o↔Reach nx a x):qsp nx a=qbs o:=by
 have hh:∃ o:List Str,∀ x,x∈o↔Reach nx a x:=⟨o,h⟩
 unfold qsp
 rw[dif_pos hh]
 refine qmh (qbz _).1 (qbz _).1 fun x=>?_
 rw[(qbz _).2 x,(qbz _).2 x,h x,hh.choose_spec x]
theorem qjlc {nx:Str→List Str}{s:Str}{U:List Str}(hm:∀ x,∀ y∈nx x,y∈U):∃ o:List Str,∀ x,x∈o↔Reach nx s x:=by
 classical
 refine⟨U.filter fun x=>decide (Reach nx s x),fun x=>?_⟩
 rw[List.mem_filter,decide_eq_true_eq]
 refine⟨fun h=>h.2,fun h=>⟨?_,h⟩⟩
 cases h with
 | one h=>exact hm _ _ h
 | step _ k=>exact hm _ _ k
theorem qgo {l:List Str}(h:l.Pairwise (· < ·)):l.Nodup:=h.imp fun h e=>by subst e;exact List.lt_irrefl _ h
theorem qpwc {nx:Str→List Str}{s:Str}{U:List Str}(hm:∀ x,∀ y∈nx x,y∈U):(qsp nx s).length≤U.length∧∀ x∈qsp nx s,x∈U:=by
 obtain⟨o,ho⟩:=qjlc (s:=s) hm
 rw[qntb ho]
 obtain⟨h1,h2⟩:=qbz o
 have h3:∀ x∈qbs o,x∈U:=fun x hx=>by
  cases (ho x).1 ((h2 x).1 hx) with
  | one h=>exact hm _ _ h
  | step _ k=>exact hm _ _ k
 exact⟨qgh (qgo h1) h3,h3⟩
def qbn (p t:Str):Str:=p++[35]++t
theorem qcqe (p t:Str)(h1:p.length≤1073741824)(h2:t.length≤1073741824):out qho [.one (Cell.str (bs p)),.one (Cell.str (bs t))]=some [.one (Cell.str (bs (qbn p t)))]:=by
 refine qaw (H:=[]) (qzpb 0 ?_)
 have e1:catS (bs p) (bs [35])=some (bs (p++[35])):=qfe (by simp;omega)
 have e2:catS (bs (p++[35])) (bs t)=some (bs (qbn p t)):=qfe (by simp;omega)
 simp only[fes,e1,e2,EV0]
theorem c_fec (l:List MPack)(hl:l.length≤1073741824)(s:Str):out qku [.one (encL 4 MPack.enc l),.one (Cell.str (bs s))]=some [.one (Cell.int (idxF (fun p=>p.Name==s) l 0))]:=by
 have hM:=qag
 have loop:∀ (r:List MPack) (i n:Nat),l.drop i=r→r.length < n→∀ k m,qgnb k m n (encL 4 MPack.enc l) (bs s) i=some ([.one (Cell.int (idxF (fun p=>p.Name==s) r i))],[]):=by
  intro r
  induction r with
  | nil=>
   intro i n hd hn k m
   obtain⟨n,rfl⟩:∃ j,n=j+1:=⟨n - 1,by omega⟩
   have:=drop_nil hd
   simp only[qgnb,qaf,Option.bind_some]
   rw[decide_eq_false (by omega),cond_false]
   rfl
  | cons x r ih=>
   intro i n hd hn k m
   obtain⟨n,rfl⟩:∃ j,n=j+1:=⟨n - 1,by omega⟩
   obtain⟨hlt,hg,hd'⟩:=qal hd
   simp only[List.length_cons] at hn
   simp only[qgnb,qaf,Option.bind_some]
   rw[decide_eq_true (by omega),cond_true]
   simp only[qaj,hg,MPack.enc,qbr,Nat.zero_add,qae (show i < maxLen by omega),ih (i+1) n hd' (by omega),idxF,EV0]
   cases x.Name==s<;>rfl
 refine qaw (H:=[]) (qaec (l.length+1) ?_)
 have:=loop l 0 (l.length+1+1) rfl (by omega) (l.length+1+1) (l.length+1+1)
 simpa[fec] using this
theorem qdde (l:List MPack)(hl:l.length≤1073741824)(s:Str):out qhq [.one (encL 4 MPack.enc l),.one (Cell.str (bs s))]=some [.one (Cell.int (idxF (fun p=>p.Name==s) l 0))]:=by
 have hM:=qag
 have hc:∀ x:MPack,qtf [.agg [Cell.str (bs x.Name),encL 1 eStr x.Uses,encL 2 MNeed.enc x.Needs,encL 2 MCmd.enc x.Cmds],.one (.ptr 0 1 0 0 0)] [Entry.mk 1 [[Cell.str (bs s)]] 0 false]=some ([.one (Cell.bool (x.Name==s))],[Entry.mk 1 [[Cell.str (bs s)]] 0 false]):=by
  intro x
  refine qtwb 0 ?_
  simp[fab,deref,entry?,cS]
 have loop:∀ (r:List MPack) (i n:Nat),l.drop i=r→r.length < n→∀ k m,qaz k m n (encL 4 MPack.enc l) (.ptr 0 1 0 0 0) l.length i [Entry.mk 1 [[Cell.str (bs s)]] 0 false]=some ([.one (Cell.int (idxF (fun p=>p.Name==s) r i))],[Entry.mk 1 [[Cell.str (bs s)]] 0 false]):=by
  intro r
  induction r with
  | nil=>
   intro i n hd hn k m
   obtain⟨n,rfl⟩:∃ j,n=j+1:=⟨n - 1,by omega⟩
   have:=drop_nil hd
   simp only[qaz]
   rw[decide_eq_false (by omega),cond_false]
   rfl
  | cons x r ih=>
   intro i n hd hn k m
   obtain⟨n,rfl⟩:∃ j,n=j+1:=⟨n - 1,by omega⟩
   obtain⟨hlt,hg,hd'⟩:=qal hd
   simp only[List.length_cons] at hn
   simp only[qaz,qaj,hg,MPack.enc,hc,Nat.zero_add,EV0]
   rw[decide_eq_true (by omega),cond_true,qae (by omega),ih (i+1) n hd' (by omega)]
   simp only[idxF]
   cases x.Name==s<;>rfl
 refine qaw (H:=[Entry.mk 1 [[Cell.str (bs s)]] 0 false]) (qchc 0 ?_)
 have h:=qdv (c1:=encL 4 MPack.enc l) (q2:=.ptr 0 1 0 0 0) (H:=[Entry.mk 1 [[Cell.str (bs s)]] 0 false]) (l.length+1) (by
  simpa[qby] using loop l 0 (l.length+1+1) rfl (by omega) (l.length+1+1) (l.length+1+1))
 simp only[faa,h,EV0]
def qecb (l:List MPack)(p t:Str):Option MCmd:=(l.find? fun q=>q.Name==p).bind fun q=>q.Cmds.find? fun c=>c.Task==t
def cmdV:Option MCmd→List AV | some c=>[.agg [Cell.str (bs c.Task),encL 1 eStr c.Acts],.one (Cell.bool true)] | none=>[.agg [Cell.str (bs []),encL 1 eStr []],.one (Cell.bool false)]
theorem c_fex (l:List MPack)(hl:bdL 1048576 (MPack.Bd 1048576) l)(p t:Str):outL qyz [.one (encL 4 MPack.enc l),.one (Cell.str (bs p)),.one (Cell.str (bs t))]=some (cmdV (qecb l p t)):=by
 have hM:=qag
 have hxl:=hl.1
 have e0:=c_fec l (by omega) p
 rcases qkn (fun q:MPack=>q.Name==p) l 0 with⟨h1,h2⟩ | ⟨j,x,h1,h2,h3⟩
 ·have hm:qecb l p t=none:=by simp[qecb,h2]
  rw[hm]
  refine qbf (H:=[]) (xs:=[.agg [Cell.str (bs []),.lst true 1 []],.one (Cell.bool false)]) (qceb 0 ?_) rfl
  simp only[fex,e0,h1,qadb,EV0]
  rfl
 ·have hb:=hl.2 x (List.mem_of_getElem? h2)
  have hcl:=hb.2.2.2.1
  have hm:qecb l p t=x.Cmds.find? fun c=>c.Task==t:=by simp[qecb,h3]
  rw[hm]
  have hj:j < l.length:=(List.getElem?_eq_some_iff.1 h2).1
  have loop:∀ (r:List MCmd) (i n:Nat),x.Cmds.drop i=r→r.length < n→∀ k m,∃ ys,qadb k m n (encL 4 MPack.enc l) (bs t) j i=some (ys,[])∧mapO (qao false []) ys=some (cmdV (r.find? fun c=>c.Task==t)):=by
   intro r
   induction r with
   | nil=>
    intro i n hd hn k m
    obtain⟨n,rfl⟩:∃ j,n=j+1:=⟨n - 1,by omega⟩
    have:=drop_nil hd
    refine⟨[.agg [Cell.str (bs []),.lst true 1 []],.one (Cell.bool false)],?_,rfl⟩
    simp only[qadb]
    rw[decide_eq_true (by omega),cond_true]
    simp only[qaj,h2,MPack.enc,qbr,Nat.zero_add,qaf,EV0]
    rw[decide_eq_false (by omega),cond_false]
   | cons c r ih=>
    intro i n hd hn k m
    obtain⟨n,rfl⟩:∃ j,n=j+1:=⟨n - 1,by omega⟩
    obtain⟨hlt,hg,hd'⟩:=qal hd
    simp only[List.length_cons] at hn
    simp only[qadb]
    rw[decide_eq_true (by omega),cond_true]
    simp only[qaj,h2,MPack.enc,qbr,Nat.zero_add,qaf,EV0]
    rw[decide_eq_true (by omega),cond_true]
    simp only[qaj,h2,hg,MPack.enc,MCmd.enc,qbr,Nat.zero_add,qaf,qae (show i < maxLen by omega),List.find?_cons,EV0]
    cases hc:c.Task==t with
    | true=>exact⟨_,rfl,qam [.agg [Cell.str (bs c.Task),encL 1 eStr c.Acts],.one (Cell.bool true)] _ _⟩
    | false=>exact ih (i+1) n hd' (by omega) k m
  obtain⟨ys,z1,z2⟩:=loop x.Cmds 0 (x.Cmds.length+1+1) rfl (by omega) (x.Cmds.length+1+1) (x.Cmds.length+1+1)
  refine qbf (H:=[]) (qceb (x.Cmds.length+1) ?_) z2
  simp only[fex,e0,h1,EV0]
  simpa using z1
theorem c_fax (l:List MPack)(hl:bdL 1048576 (MPack.Bd 1048576) l)(p t:Str):outL qyk [.one (encL 4 MPack.enc l),.one (Cell.str (bs p)),.one (Cell.str (bs t))]=some (cmdV (qecb l p t)):=by
 have hM:=qag
 have hxl:=hl.1
 have e0:=qdde l (by omega) p
 rcases qkn (fun q:MPack=>q.Name==p) l 0 with⟨h1,h2⟩ | ⟨j,x,h1,h2,h3⟩
 ·have hm:qecb l p t=none:=by simp[qecb,h2]
  rw[hm]
  refine qbf (H:=[]) (xs:=[.agg [Cell.str (bs []),.lst true 1 []],.one (Cell.bool false)]) (qyl 0 ?_) rfl
  simp only[fax,e0,h1,EV0]
  rfl
 ·have hb:=hl.2 x (List.mem_of_getElem? h2)
  have hcl:=hb.2.2.2.1
  have hm:qecb l p t=x.Cmds.find? fun c=>c.Task==t:=by simp[qecb,h3]
  rw[hm]
  have loop:∀ (r:List MCmd) (i n:Nat),x.Cmds.drop i=r→r.length < n→∀ k m,∃ ys,qelb k m n (bs t) (encL 2 MCmd.enc x.Cmds) x.Cmds.length i=some (ys,[])∧mapO (qao false []) ys=some (cmdV (r.find? fun c=>c.Task==t)):=by
   intro r
   induction r with
   | nil=>
    intro i n hd hn k m
    obtain⟨n,rfl⟩:∃ j,n=j+1:=⟨n - 1,by omega⟩
    have:=drop_nil hd
    refine⟨[.agg [Cell.str (bs []),.lst true 1 []],.one (Cell.bool false)],?_,rfl⟩
    simp only[qelb]
    rw[decide_eq_false (by omega),cond_false]
   | cons c r ih=>
    intro i n hd hn k m
    obtain⟨n,rfl⟩:∃ j,n=j+1:=⟨n - 1,by omega⟩
    obtain⟨hlt,hg,hd'⟩:=qal hd
    simp only[List.length_cons] at hn
    simp only[qelb]
    rw[decide_eq_true (by omega),cond_true]
    simp only[qaj,hg,MCmd.enc,Nat.zero_add,qae (show i < maxLen by omega),List.find?_cons,EV0]
    cases hc:c.Task==t with
    | true=>exact⟨_,rfl,qam [.agg [Cell.str (bs c.Task),encL 1 eStr c.Acts],.one (Cell.bool true)] _ _⟩
    | false=>exact ih (i+1) n hd' (by omega) k m
  obtain⟨ys,z1,z2⟩:=loop x.Cmds 0 (x.Cmds.length+1+1) rfl (by omega) (x.Cmds.length+1+1) (x.Cmds.length+1+1)
  refine qbf (H:=[]) (qyl (x.Cmds.length+1) ?_) z2
  simp only[fax,e0,h1,EV0]
  rw[decide_eq_false (by omega),cond_false,Nat.zero_add]
  simp only[qaj,h2,MPack.enc,qbr,Nat.zero_add,qaf,EV0]
  simpa using z1
theorem qaze (l:List MPack)(hl:bdL 1048576 (MPack.Bd 1048576) l)(p t:Str):out qev [.one (encL 4 MPack.enc l),.one (Cell.str (bs p)),.one (Cell.str (bs t))]=some [.one (Cell.bool (qecb l p t).isSome)]:=by
 refine qaw (H:=[]) (qudb 0 ?_)
 simp only[fez,c_fex l hl p t,EV0]
 cases qecb l p t<;>rfl
theorem index_one (c:UInt8):∀ s:Str,Lib.index s [c]=Lib.indexByte s c
 | []=>rfl
 | b::r=>by
  unfold Lib.index Lib.indexByte
  rw[index_one c r]
  have:([c]:Str).isPrefixOf (b::r)=(b==c):=by
   simp only[List.isPrefixOf,Bool.and_true]
   rw[Bool.eq_iff_iff,beq_iff_eq,beq_iff_eq]
   exact eq_comm
  rw[this]
theorem qgw (s p:Str)(hs:s.length≤1073741824):out qbkb [.one (Cell.str (bs s)),.one (Cell.str (bs p))]=some [.one (Cell.int (Lib.index s p))]:=by
 refine qaw (H:=[]) ?_
 show qha _ _=_
 simp only[qha,qkf]
 rw[if_pos (by rw[qbj];omega)]
theorem c_fgg (s:Str)(c:UInt8)(hs:s.length≤1073741824):out qbkb [.one (Cell.str (bs s)),.one (Cell.str (bs [c]))]=some [.one (Cell.int (Lib.indexByte s c))]:=by
 rw[qgw s [c] hs,index_one]
theorem c_fgc (s:Str)(c:UInt8):out qbmb [.one (Cell.str (bs s)),.one (Cell.str (bs [c]))]=some [.one (Cell.int ((s.count c:Nat):Int))]:=by
 refine qaw (H:=[]) ?_
 show qeu _ _=_
 simp only[qeu,qkf]
 rfl
theorem qmlb {c:UInt8}{s:Str}(h:c∈s):s.count c=(behind c s).count c+1:=by
 induction s with
 | nil=>simp at h
 | cons b r ih=>
  by_cases e:b=c
  ·subst e
   simp[behind,List.dropWhile_cons]
  ·have hr:c∈r:=by
    rcases List.mem_cons.1 h with h | h
    ·exact absurd h.symm e
    ·exact h
   have hb:behind c (b::r)=behind c r:=by
    have:(b != c)=true:=by simpa using e
    simp[behind,List.dropWhile_cons,this]
   rw[hb,List.count_cons,ih hr]
   simp[e]
theorem qosb {c:UInt8}{s:Str}(h:c∉s):s.count c=0:=List.count_eq_zero.2 h
theorem qlyb (c:UInt8):∀ (n:Nat) (s:Str),s.length≤n→(split c s).length=s.count c+1:=by
 intro n
 induction n with
 | zero=>
  intro s h
  have:s=[]:=List.eq_nil_of_length_eq_zero (by omega)
  subst this
  rfl
 | succ n ih=>
  intro s h
  by_cases hc:c∈s
  ·have hl:(behind c s).length < s.length:=by
    have:=qvy hc
    have h2:=qhx c s
    rw[← h2,List.length_drop]
    omega
   rw[qep hc,List.length_cons,ih _ (by omega),qmlb hc]
  ·rw[qea hc,qosb hc]
   rfl
theorem r_fgm (s:Str)(c:UInt8)(hs:s.length≤1073741824):qru [.one (Cell.str (bs s)),.one (Cell.str (bs [c])),.one (Cell.int 0),.one (Cell.int (-1))] []=some ([.one (.vs 0 1 0 (s.count c+1) 0)],[Entry.mk 1 ((split c s).map eStr) 0 false]):=by
 have hM:=qag
 have hct:s.count c≤s.length:=List.count_le_length
 have hsl:=qlyb c s.length s (Nat.le_refl _)
 have hput:∀ (rows:List (List Cell)) (i:Nat) (row:List Cell) (y:Str),rows[i]?=some row→row.length=1→qca [Entry.mk 1 rows 0 false] (.ptr 0 1 i 0 0) [Cell.str (bs y)]=some [Entry.mk 1 (rows.set i (eStr y)) 0 false]:=by
  intro rows i row y h hr
  simp only[qca,entry?,List.getElem?_cons_zero,if_true,h]
  rw[if_pos ⟨trivial,by simp,trivial⟩]
  simp[splice,eStr,hr,List.drop_eq_nil_of_le]
 have loop:∀ (d:Nat) (r:Str) (done:List Str) (n:Nat),r.count c=d→done.length+d=s.count c→r.length≤s.length→split c s=done++split c r→d < n→∀ k m,
   qsa k m n (bs r) (bs [c]) 0 ((s.count c:Nat):Int) (.vs 0 1 0 (s.count c+1) 0) ((done.length:Nat):Int) [Entry.mk 1 (done.map eStr++List.replicate (d+1) [Cell.str (bs [])]) 0 false]=
    some ([.one (.vs 0 1 0 (s.count c+1) 0)],[Entry.mk 1 ((split c s).map eStr) 0 false]):=by
  intro d
  induction d with
  | zero=>
   intro r done n hc hd hr hsp hn k m
   obtain⟨n,rfl⟩:∃ j,n=j+1:=⟨n - 1,by omega⟩
   have hnc:c∉r:=List.count_eq_zero.1 hc
   simp only[qsa]
   rw[decide_eq_false (by omega),cond_false]
   have hrow:(done.map eStr++List.replicate (0+1) [Cell.str (bs [])])[done.length]?=some [Cell.str (bs [])]:=by simp
   simp only[qgd 0 1 (s.count c+1) 0 done.length (by omega),Option.bind_some,hput _ _ _ r hrow rfl]
   have hset:(done.map eStr++List.replicate (0+1) [Cell.str (bs [])]).set done.length (eStr r)=(split c s).map eStr:=by
    rw[hsp,qea hnc,List.set_append_right _ _ (by simp)]
    simp
   rw[hset,show IntKind.i64.wrap ((done.length:Int)+1)=((s.count c+1:Nat):Int) by rw[qae (by omega)];omega]
   have hsl':slcC 1 (.vs 0 1 0 (s.count c+1) 0) 0 (some ((s.count c+1:Nat):Int)) none=some (.vs 0 1 0 (s.count c+1) 0):=by
    simp only[slcC,Option.getD_some,Option.getD_none,if_true]
    rw[if_pos ⟨by omega,by omega,by omega,by omega⟩,if_pos (.inl trivial)]
    simp
   rw[hsl']
   rfl
  | succ d ih=>
   intro r done n hc hd hr hsp hn k m
   obtain⟨n,rfl⟩:∃ j,n=j+1:=⟨n - 1,by omega⟩
   have hmem:c∈r:=by
    rcases Classical.em (c∈r) with h | h
    ·exact h
    ·have:=qosb h;omega
   have hal:=qvy hmem
   have hbl:=qfa c r
   simp only[qsa]
   rw[decide_eq_true (by omega),cond_true]
   have e0:Lib.indexByte r c=((ahead c r).length:Int):=by rw[qnm,if_pos hmem]
   simp only[c_fgg r c (by omega),e0,EV0]
   rw[decide_eq_false (by omega),cond_false]
   have e1:=qcw r 0 (ahead c r).length (by omega) (by omega)
   simp only[Int.natCast_zero,List.drop_zero,qhp] at e1
   rw[show IntKind.i64.wrap (((ahead c r).length:Int)+0)=((ahead c r).length:Int) by rw[Int.add_zero];exact wrap_small (by omega) (by omega),e1]
   have hrow:(done.map eStr++List.replicate (d+1+1) [Cell.str (bs [])])[done.length]?=some [Cell.str (bs [])]:=by simp
   simp only[Option.bind_some,qgd 0 1 (s.count c+1) 0 done.length (by omega),hput _ _ _ (ahead c r) hrow rfl]
   have e2:=qcw r ((ahead c r).length+1) r.length (by omega) (Nat.le_refl _)
   rw[List.take_length,qhx] at e2
   rw[show IntKind.i64.wrap (((ahead c r).length:Int)+((0+1:Nat):Int))=(((ahead c r).length+1:Nat):Int) by rw[wrap_small (by omega) (by omega)];omega,e2,qae (by omega)]
   simp only[Option.bind_some]
   have hset:(done.map eStr++List.replicate (d+1+1) [Cell.str (bs [])]).set done.length (eStr (ahead c r))=(done++[ahead c r]).map eStr++List.replicate (d+1) [Cell.str (bs [])]:=by
    rw[List.set_append_right _ _ (by simp)]
    simp[List.replicate_succ]
   rw[hset]
   have:=ih (behind c r) (done++[ahead c r]) n (by have:=qmlb hmem;omega) (by simp;omega) (by omega) (by rw[hsp,qep hmem];simp) (by omega) k m
   rw[show(done++[ahead c r]).length=done.length+1 by simp] at this
   exact this
 have hmin:(if IntKind.i64.wrap ((s.length:Int)+1) < IntKind.i64.wrap (((s.count c:Nat):Int)+1) then IntKind.i64.wrap ((s.length:Int)+1) else IntKind.i64.wrap (((s.count c:Nat):Int)+1))=((s.count c+1:Nat):Int):=by
  rw[qae (by omega),qae (by omega),if_neg (by omega)]
 have z:=loop (s.count c) s [] (s.count c+1+1) rfl (by simp) (Nat.le_refl _) (by simp) (by omega) (s.count c+1+1) (s.count c+1+1)
 refine qcub (s.count c+1) ?_
 ·simp only[fgm]
  rw[show((-1:Int)==0)=false from rfl,cond_false]
  simp only[qdz]
  rw[show(([c]:Str)==[])=false from rfl,cond_false,show decide ((-1:Int) < 0)=true from rfl,cond_true]
  simp only[c_fgc,EV0,hmin]
  rw[if_pos ⟨by omega,by omega,by unfold bound;omega,by unfold bound;omega⟩]
  rw[show IntKind.i64.wrap (((s.count c+1:Nat):Int) - 1)=((s.count c:Nat):Int) from qcp (by omega)]
  simpa[qcr] using z
theorem f_fgm (s:Str)(c:UInt8)(hs:s.length≤1073741824):Fresh qru true 2 [.one (Cell.str (bs s)),.one (Cell.str (bs [c])),.one (Cell.int 0),.one (Cell.int (-1))] [.one (trL 1 qcx (split c s))]:=by
 have hg:GrowAt ([]:List Entry).length 1 (.vs 0 1 0 (s.count c+1) 0) [Entry.mk 1 ((split c s).map eStr) 0 false] ((split c s).map eStr):=.inr ⟨0,by rw[List.length_map,qlyb c s.length s (Nat.le_refl _)];rfl,rfl⟩
 obtain⟨ids,r1,r2,_⟩:=hg.list
 exact Fresh.one (r_fgm s c hs) r1 r2
theorem qmfd (s:Str)(c:UInt8)(hs:s.length≤1073741824):Fresh qew true 2 [.one (Cell.str (bs s)),.one (Cell.str (bs [c]))] [.one (trL 1 qcx (split c s))]:=by
 refine Fresh.tailO (f_fgm s c hs) [] (qam _ _ _) fun c' E hc=>qbnb 0 ?_
 simp only[fgi,hc,EV0]
def qqr (b:UInt8):Bool:=qds b||(qbb b||(b==46||(b==45||b==95)))
theorem c_fft (b:UInt8):out qwr [.one (.sc (.int .u8 (b.toNat:Int)))]=some [.one (Cell.bool (qqr b))]:=by
 refine qaw (H:=[]) (qxcb 0 ?_)
 simp only[fft,qbve,qlzd,EV0]
 rw[show((b.toNat:Int)==46)=(b==46) from qmy b 46 (by omega),show((b.toNat:Int)==45)=(b==45) from qmy b 45 (by omega),show((b.toNat:Int)==95)=(b==95) from qmy b 95 (by omega)]
 unfold qqr
 cases qds b<;>cases qbb b<;>cases b==46<;>cases b==45<;>cases b==95<;>rfl
theorem c_fbg (b:UInt8):out qbab [.one (.sc (.int .u8 (b.toNat:Int)))]=some [.one (Cell.bool (qqr b))]:=by
 refine qaw (H:=[]) (qacc 0 ?_)
 simp only[fbg,qsnd,qwkc,EV0]
 rw[show((b.toNat:Int)==46)=(b==46) from qmy b 46 (by omega),show((b.toNat:Int)==45)=(b==45) from qmy b 45 (by omega),show((b.toNat:Int)==95)=(b==95) from qmy b 95 (by omega)]
 unfold qqr
 cases qds b<;>cases qbb b<;>cases b==46<;>cases b==45<;>cases b==95<;>rfl
theorem qcfc {n k:Nat}(h:k≤n)(hn:n≤1073741824+1):IntKind.i64.wrap ((n:Int) - (k:Int))=((n - k:Nat):Int):=by
 rw[wrap_small (by omega) (by omega)]
 omega
theorem n_le (n k:Nat):decide ((n:Int)≤(k:Int))=decide (n≤k):=by rw[decide_eq_decide];omega
def isAl (b:UInt8):Bool:=qds b||qbb b
def qna:Str→Nat→Option Nat | [],_=>none | b::r,c=>bif isAl b then (qna r (c+1)).map (·+1) else bif inR c 1 5&&b==93 then some 1 else none
theorem qrr (b:UInt8)(r:Str)(c:Nat):qna (b::r) c=bif isAl b then (qna r (c+1)).map (·+1) else bif inR c 1 5&&b==93 then some 1 else none:=rfl
def qnf:Str→Nat | []=>0 | b::t=>bif b==91 then (match t with | []=>0 | d::t'=>bif d==33 then (match qna t' 0 with | some n=>n+2 | none=>0) else (match qna (d::t') 0 with | some n=>n+1 | none=>0)) else bif qqr b||(b==63||b==42) then 1 else 0
def qhk:Nat→Str→Nat→Bool | _,[],c=>inR c 1 12 | 0,_::_,_=>false | n+1,b::t,c=>bif qnf (b::t)==0 then false else qhk n ((b::t).drop (qnf (b::t))) (c+1)
def qjz (s:Str):Bool:=qhk s.length s 0
def qhvb (s:Str):Bool:=(split 47 s).all qjz&&decide ((split 47 s).length≤4)
theorem qtlb:∀ (r:Str) (c n:Nat),qna r c=some n→1≤n∧n≤r.length:=by
 intro r
 induction r with
 | nil=>intro c n h;simp[qna] at h
 | cons b r ih=>
  intro c n h
  unfold qna at h
  cases hb:isAl b with
  | true=>
   rw[hb,cond_true,Option.map_eq_some_iff] at h
   obtain⟨j,h1,rfl⟩:=h
   obtain⟨h2,h3⟩:=ih _ _ h1
   simp
   omega
  | false=>
   rw[hb,cond_false] at h
   cases hc:inR (c:Int) 1 5&&b==93 with
   | true=>rw[hc,cond_true] at h;simp only[Option.some.injEq] at h;simp;omega
   | false=>rw[hc,cond_false] at h;simp at h
theorem qbqc (s:Str):qnf s≤s.length:=by
 cases s with
 | nil=>simp[qnf]
 | cons b t=>
  cases hb:b==91 with
  | true=>
   cases t with
   | nil=>simp only[qnf,hb,cond_true];omega
   | cons d t'=>
    cases hd:d==33 with
    | true=>
     simp only[qnf,hb,hd,cond_true]
     split
     ·rename_i n h
      have:=(qtlb _ _ _ h).2
      simp
      omega
     ·omega
    | false=>
     simp only[qnf,hb,hd,cond_true,cond_false]
     split
     ·rename_i n h
      have:=(qtlb _ _ _ h).2
      simp at this ⊢
      omega
     ·omega
  | false=>
   simp only[qnf,hb,cond_false]
   cases qqr b||(b==63||b==42)<;>simp
theorem c_ffu (s:Str)(hs:s.length≤1073741824)(i:Nat)(b:UInt8)(t:Str)(hd:s.drop i=b::t)(hb:b=91):out qxl [.one (Cell.str (bs s)),.one (Cell.int i)]=some [.one (Cell.int (if qnf (b::t)=0 then -1 else ((i+qnf (b::t):Nat):Int)))]:=by
 have hM:=qag
 have loop:∀ (r:Str) (j c n:Nat),s.drop j=r→j≤s.length→c≤j→r.length < n→∀ k m,qsz k m n (bs s) j c=some ([.one (Cell.int (match qna r c with | some q=>((j+q:Nat):Int) | none=>-1))],[]):=by
  intro r
  induction r with
  | nil=>
   intro j c n hd hj hc hn k m
   obtain⟨n,rfl⟩:∃ q,n=q+1:=⟨n - 1,by omega⟩
   have:=drop_nil hd
   simp only[qsz,qbj]
   rw[decide_eq_false (by omega),cond_false]
   simp only[qeab,EV0]
   rw[decide_eq_true (by omega)]
   cases inR (c:Int) 1 5<;>rfl
  | cons x r ih=>
   intro j c n hd hj hc hn k m
   obtain⟨n,rfl⟩:∃ q,n=q+1:=⟨n - 1,by omega⟩
   obtain⟨hlt,hg,hd'⟩:=qal hd
   simp only[List.length_cons] at hn
   have z:=ih (j+1) (c+1) n hd' (by omega) (by omega) (by omega) k m
   have hz:(match qna r (c+1) with | some q=>((j+1+q:Nat):Int) | none=>-1)=(match (qna r (c+1)).map (·+1) with | some q=>((j+q:Nat):Int) | none=>-1):=by
    cases qna r (c+1) with
    | none=>rfl
    | some q=>simp only[Option.map_some];congr 1;omega
   simp only[qsz,qbj,qcn,hg,Option.map_some,qbve,qlzd,qeab,EV0]
   rw[decide_eq_true (by omega),cond_true,qae (by omega),qae (by omega),z,hz]
   rw[show((x.toNat:Int) != 93)=!(x==93) from congrArg not (qmy x 93 (by omega))]
   rw[qrr]
   unfold isAl
   cases qds x with
   | true=>rfl
   | false=>
    cases qbb x with
    | true=>rfl
    | false=>
     rw[decide_eq_false (p:=(j:Int)≥(s.length:Int)) (by omega)]
     cases inR (c:Int) 1 5<;>cases x==93<;>rfl
 subst hb
 obtain⟨hlt,hg,hd'⟩:=qal hd
 refine qaw (H:=[]) (qatc (s.length+1) ?_)
 have hun:∀ (o:Option Nat) (j:Nat) (p:Nat),(if (match o with | some n=>n+p | none=>0)=0 then (-1:Int) else ((i+(match o with | some n=>n+p | none=>0):Nat):Int))=(match o with | some q=>((i+p+q:Nat):Int) | none=>-1)∨p=0:=by
  intro o j p
  cases o with
  | none=>exact .inl rfl
  | some n=>
   by_cases hp:p=0
   ·exact .inr hp
   ·refine .inl ?_
    simp only
    rw[if_neg (by omega)]
    congr 1
    omega
 cases t with
 | nil=>
  have:=drop_nil hd'
  simp only[ffu,qbj]
  rw[qae (by omega),decide_eq_false (by omega),cond_false]
  have z:=loop [] (i+1) 0 (s.length+1+1) hd' (by omega) (by omega) (by simp) (s.length+1+1) (s.length+1+1)
  exact z
 | cons d t'=>
  obtain⟨hlt2,hg2,hd2⟩:=qal hd'
  simp only[ffu,qbj]
  rw[qae (by omega),decide_eq_true (by omega),cond_true]
  simp only[qcn,hg2,Option.map_some,Option.bind_some]
  rw[show((d.toNat:Int)==33)=(d==33) from qmy d 33 (by omega),qae (by omega)]
  unfold qnf
  simp only[show((91:UInt8)==91)=true from rfl,cond_true]
  cases d==33 with
  | true=>
   simp only[cond_true]
   have z:=loop t' (i+1+1) 0 (s.length+1+1) hd2 (by omega) (by omega) (by rw[← hd2];simp;omega) (s.length+1+1) (s.length+1+1)
   rcases hun (qna t' 0) 0 2 with h | h
   ·rw[h];exact z
   ·omega
  | false=>
   simp only[cond_false]
   have z:=loop (d::t') (i+1) 0 (s.length+1+1) hd' (by omega) (by omega) (by rw[← hd'];simp;omega) (s.length+1+1) (s.length+1+1)
   rcases hun (qna (d::t') 0) 0 1 with h | h
   ·rw[h];exact z
   ·omega
theorem c_ffv (s:Str)(hs:s.length≤1073741824):out qzo [.one (Cell.str (bs s))]=some [.one (Cell.bool (qjz s))]:=by
 have hM:=qag
 have loop:∀ (d:Nat) (r:Str) (i c n:Nat),r.length≤d→s.drop i=r→i≤s.length→c≤i→d < n→∀ k m,qqh k m n (bs s) c i=some ([.one (Cell.bool (qhk d r c))],[]):=by
  intro d
  induction d with
  | zero=>
   intro r i c n hr hd hi hc hn k m
   obtain⟨n,rfl⟩:∃ q,n=q+1:=⟨n - 1,by omega⟩
   have:r=[]:=List.eq_nil_of_length_eq_zero (by omega)
   subst this
   have:=drop_nil hd
   simp only[qqh,qbj]
   rw[decide_eq_false (by omega),cond_false]
   simp only[qeab,EV0,qhk]
  | succ d ih=>
   intro r i c n hr hd hi hc hn k m
   obtain⟨n,rfl⟩:∃ q,n=q+1:=⟨n - 1,by omega⟩
   cases r with
   | nil=>
    have:=drop_nil hd
    simp only[qqh,qbj]
    rw[decide_eq_false (by omega),cond_false]
    simp only[qeab,EV0,qhk]
   | cons b t=>
    obtain⟨hlt,hg,hd'⟩:=qal hd
    have hul:=qbqc (b::t)
    have hrl:(b::t).length=s.length - i:=by rw[← hd];simp
    simp only[qqh,qbj,qcn,hg,Option.map_some,c_fft,EV0]
    rw[decide_eq_true (by omega),cond_true,qae (by omega),qae (by omega)]
    rw[show((b.toNat:Int)==91)=(b==91) from qmy b 91 (by omega),show((b.toNat:Int)==63)=(b==63) from qmy b 63 (by omega),show((b.toNat:Int)==42)=(b==42) from qmy b 42 (by omega)]
    cases hb:b==91 with
    | true=>
     have hb':b=91:=by simpa using hb
     simp only[cond_true,c_ffu s hs i b t hd hb',EV0]
     unfold qhk
     by_cases hu:qnf (b::t)=0
     ·rw[if_pos hu,hu]
      rfl
     ·rw[if_neg hu,decide_eq_false (by omega),cond_false,show(qnf (b::t)==0)=false by simpa using hu,cond_false]
      exact ih _ (i+qnf (b::t)) (c+1) n (by rw[List.length_drop];omega) (by rw[← List.drop_drop,hd]) (by omega) (by omega) (by omega) k m
    | false=>
     have hun:qnf (b::t)=bif qqr b||(b==63||b==42) then 1 else 0:=by
      simp only[qnf,hb,cond_false]
     have z:=ih t (i+1) (c+1) n (by simp at hr;omega) hd' (by omega) (by omega) (by omega) k m
     unfold qhk
     rw[hun]
     simp only[cond_false]
     cases qqr b with
     | true=>simp only[cond_true,Bool.true_or,show((1:Nat)==0)=false from rfl,cond_false,List.drop_succ_cons,List.drop_zero];exact z
     | false=>
      cases b==63 with
      | true=>simp only[cond_true,cond_false,Bool.true_or,Bool.false_or,show((1:Nat)==0)=false from rfl,List.drop_succ_cons,List.drop_zero];exact z
      | false=>
       cases b==42 with
       | true=>simp only[cond_true,cond_false,Bool.or_true,Bool.false_or,show((1:Nat)==0)=false from rfl,List.drop_succ_cons,List.drop_zero];exact z
       | false=>rfl
 refine qaw (H:=[]) (qbtc (s.length+1) ?_)
 have z:=loop s.length s 0 0 (s.length+1+1) (Nat.le_refl _) rfl (by omega) (by omega) (by omega) (s.length+1+1) (s.length+1+1)
 simpa[ffv,qjz] using z
theorem c_fed (s:Str)(hs:s.length≤1073741823):out qzp [.one (Cell.str (bs s))]=some [.one (Cell.bool (qhvb s))]:=by
 have hM:=qag
 have e0:outL qco [.one (Cell.str (bs s)),.one (.sc (.int .u8 47))]=some [.one (qay (split 47 s))]:=qmcd s 47 (by omega)
 have hl:=qbu 47 s []
 have hlen:∀ x∈split 47 s,x.length≤1073741824:=fun x hx=>Nat.le_trans (hl.2 x hx) (by simp;omega)
 have hll:(split 47 s).length≤s.length+1:=hl.1
 unfold qhvb
 generalize split 47 s=W at*
 refine qaw (H:=[]) (qwdb (W.length+1) ?_)
 simp only[fed,e0,EV0]
 rw[qdo W (fun n i=>qyr (W.length+1+1) (W.length+1+1) n (qay W) i []) qjz (some ([.one (Cell.bool (decide (W.length≤4)))],[])) (some ([.one (Cell.bool false)],[])) ?_ ?_ _ (by omega)]
 ·exact qbcb _ _ _
 ·intro n i x hx hlt
  simp only[qyr,qaf,qaj,hx,eStr,c_ffv x (hlen x (List.mem_of_getElem? hx)),EV0]
  rw[decide_eq_true (by omega),cond_true,qae (by omega)]
  cases hx2:x==[42,42] with
  | true=>
   have:x=[42,42]:=by simpa using hx2
   subst this
   rfl
  | false=>cases qjz x<;>rfl
 ·intro n
  simp only[qyr,qaf,EV0]
  rw[decide_eq_false (by omega),cond_false,show decide ((W.length:Int)≤4)=decide (W.length≤4) from n_le W.length 4]
theorem c_fgf (s p:Str):out qcsb [.one (Cell.str (bs s)),.one (Cell.str (bs p))]=some [.one (Cell.bool (p.isPrefixOf s))]:=by
 refine qaw (H:=[]) (qwcb 0 ?_)
 simp only[fgf,c_fcc,EV0]
theorem qxsb (s:Str)(hs:s.length≤1073741824):∀ (r:Str) (j n:Nat),s.drop j=r→j≤s.length→1≤j→r.length < n→∀ k m,qzj k m n (bs s) j=some ([.one (Cell.int (match qna r (j - 1) with | some q=>((j+q:Nat):Int) | none=>0))],[]):=by
 have hM:=qag
 intro r
 induction r with
 | nil=>
  intro j n hd hj hf hn k m
  obtain⟨n,rfl⟩:∃ q,n=q+1:=⟨n - 1,by omega⟩
  have:=drop_nil hd
  obtain rfl:j=s.length:=by omega
  simp only[qzj,qbj]
  rw[decide_eq_false (by omega),cond_false]
  simp only[qteb,EV0]
  cases inR (IntKind.i64.wrap ((s.length:Int) - 1)) 1 5<;>rfl
 | cons x r ih=>
  intro j n hd hj hf hn k m
  obtain⟨n,rfl⟩:∃ q,n=q+1:=⟨n - 1,by omega⟩
  obtain⟨hlt,hg,hd'⟩:=qal hd
  simp only[List.length_cons] at hn
  have z:=ih (j+1) n hd' (by omega) (by omega) (by omega) k m
  rw[show j+1 - 1=j - 1+1 by omega] at z
  have hz:(match qna r (j - 1+1) with | some q=>((j+1+q:Nat):Int) | none=>0)=(match (qna r (j - 1+1)).map (·+1) with | some q=>((j+q:Nat):Int) | none=>0):=by
   cases qna r (j - 1+1) with
   | none=>rfl
   | some q=>simp only[Option.map_some];congr 1;omega
  simp only[qzj,qbj,qcn,hg,Option.map_some,qsnd,qwkc,qteb,EV0]
  rw[decide_eq_true (by omega),cond_true,qae (by omega),z,hz,show IntKind.i64.wrap ((j:Int) - 1)=((j - 1:Nat):Int) from qcfc (n:=j) (k:=1) (by omega) (by omega)]
  rw[show((x.toNat:Int) != 93)=!(x==93) from congrArg not (qmy x 93 (by omega)),show((j:Int)==(s.length:Int))=false by simp;omega]
  rw[qrr]
  unfold isAl
  cases qds x with
  | true=>rfl
  | false=>
   cases qbb x with
   | true=>rfl
   | false=>cases inR ((j - 1:Nat):Int) 1 5<;>cases x==93<;>rfl
theorem qfad (s:Str)(hs:s.length≤1073741824):∀ (r:Str) (j n:Nat),s.drop j=r→j≤s.length→2≤j→r.length < n→∀ k m,qxh k m n (bs s) j=some ([.one (Cell.int (match qna r (j - 2) with | some q=>((j+q:Nat):Int) | none=>0))],[]):=by
 have hM:=qag
 intro r
 induction r with
 | nil=>
  intro j n hd hj hf hn k m
  obtain⟨n,rfl⟩:∃ q,n=q+1:=⟨n - 1,by omega⟩
  have:=drop_nil hd
  obtain rfl:j=s.length:=by omega
  simp only[qxh,qbj]
  rw[decide_eq_false (by omega),cond_false]
  simp only[qteb,EV0]
  cases inR (IntKind.i64.wrap ((s.length:Int) - 2)) 1 5<;>rfl
 | cons x r ih=>
  intro j n hd hj hf hn k m
  obtain⟨n,rfl⟩:∃ q,n=q+1:=⟨n - 1,by omega⟩
  obtain⟨hlt,hg,hd'⟩:=qal hd
  simp only[List.length_cons] at hn
  have z:=ih (j+1) n hd' (by omega) (by omega) (by omega) k m
  rw[show j+1 - 2=j - 2+1 by omega] at z
  have hz:(match qna r (j - 2+1) with | some q=>((j+1+q:Nat):Int) | none=>0)=(match (qna r (j - 2+1)).map (·+1) with | some q=>((j+q:Nat):Int) | none=>0):=by
   cases qna r (j - 2+1) with
   | none=>rfl
   | some q=>simp only[Option.map_some];congr 1;omega
  simp only[qxh,qbj,qcn,hg,Option.map_some,qsnd,qwkc,qteb,EV0]
  rw[decide_eq_true (by omega),cond_true,qae (by omega),z,hz,show IntKind.i64.wrap ((j:Int) - 2)=((j - 2:Nat):Int) from qcfc (n:=j) (k:=2) (by omega) (by omega)]
  rw[show((x.toNat:Int) != 93)=!(x==93) from congrArg not (qmy x 93 (by omega)),show((j:Int)==(s.length:Int))=false by simp;omega]
  rw[qrr]
  unfold isAl
  cases qds x with
  | true=>rfl
  | false=>
   cases qbb x with
   | true=>rfl
   | false=>cases inR ((j - 2:Nat):Int) 1 5<;>cases x==93<;>rfl
theorem c_fbu (b:UInt8)(t:Str)(hs:t.length≤1073741823):out qcjb [.one (Cell.str (bs (b::t)))]=some [.one (Cell.int ((qnf (b::t):Nat):Int))]:=by
  have hM := qag
  refine qaw (H := []) (qvfb (t.length + 2) ?_)
  have e1 := qcw (b :: t) 1 (b :: t).length (by simp) (Nat.le_refl _)
  rw [List.take_length, List.drop_succ_cons, List.drop_zero] at e1
  have e1' : subS (bs (b :: t)) 1 (((b :: t).length : Nat) : Int) = some (bs t) := e1
  simp only [fbu, qff, c_fbg, qbj, EV0]
  rw [show ((b.toNat : Int) == 63) = (b == 63) from qmy b 63 (by omega), show ((b.toNat : Int) == 42) = (b == 42) from qmy b 42 (by omega), show ((b.toNat : Int) != 91) = !(b == 91) from congrArg not (qmy b 91 (by omega))]
  cases hb : b == 91 with
  | false =>
    have hun : qnf (b :: t) = bif qqr b || (b == 63 || b == 42) then 1 else 0 := by
      simp only [qnf, hb, cond_false]
    rw [hun]
    cases qqr b <;> cases b == 63 <;> cases b == 42 <;> rfl
  | true =>
    have hb' : b = 91 := by simpa using hb
    subst hb'
    rw [show qqr 91 = false from rfl, show ((91 : UInt8) == 63) = false from rfl, show ((91 : UInt8) == 42) = false from rfl]
    simp only [Bool.not_true, cond_false]
    simp only [List.length_cons] at e1'
    simp only [e1', c_fgf, EV0]
    unfold qnf
    simp only [show ((91 : UInt8) == 91) = true from rfl, cond_true]
    have hun : ∀ (o : Option Nat) (p : Nat), (((match o with | some n => n + p | none => 0 : Nat)) : Int) = (match o with | some q => ((p + q : Nat) : Int) | none => 0) := by
      intro o p
      cases o with
      | none => rfl
      | some n => simp only; congr 1; omega
    cases t with
    | nil =>
      simp only [show List.isPrefixOf [33] ([] : Str) = false from rfl, cond_false]
      have z := qxsb [91] (by simp) [] 1 (([] : Str).length + 2 + 1) rfl (by simp) (by omega) (by simp) (([] : Str).length + 2 + 1) (([] : Str).length + 2 + 1)
      exact z
    | cons d t' =>
      rw [show List.isPrefixOf [33] (d :: t') = (d == 33) by
        simp only [List.isPrefixOf, Bool.and_true]
        cases h : d == 33 with
        | true => have : d = 33 := by simpa using h
                  subst this; rfl
        | false => rw [Bool.eq_false_iff]; intro h2; have : 33 = d := by simpa using h2
                   subst this; simp at h]
      cases hd : d == 33 with
      | true =>
        simp only [hd, cond_true]
        rw [hun (qna t' 0) 2]
        exact qfad (91 :: d :: t') (by simp at hs ⊢; omega) t' 2 ((d :: t').length + 2 + 1) rfl (by simp) (by omega) (by simp; omega) ((d :: t').length + 2 + 1) ((d :: t').length + 2 + 1)
      | false =>
        simp only [hd, cond_false]
        rw [hun (qna (d :: t') 0) 1]
        exact qxsb (91 :: d :: t') (by simp at hs ⊢; omega) (d :: t') 1 ((d :: t').length + 2 + 1) rfl (by simp) (by omega) (by simp) ((d :: t').length + 2 + 1) ((d :: t').length + 2 + 1)
theorem c_fbq (s:Str)(hs:s.length≤1073741824):out qbsb [.one (Cell.str (bs s))]=some [.one (Cell.bool (qjz s))]:=by
 have hM:=qag
 have loop:∀ (d:Nat) (r:Str) (c n:Nat),r.length≤d→d≤1073741824→c+d≤1073741824→d < n→∀ k m,qakb k m n c (bs r)=some ([.one (Cell.bool (qhk d r c))],[]):=by
  intro d
  induction d with
  | zero=>
   intro r c n hr hd hc hn k m
   obtain⟨n,rfl⟩:∃ q,n=q+1:=⟨n - 1,by omega⟩
   have:r=[]:=List.eq_nil_of_length_eq_zero (by omega)
   subst this
   simp only[qakb,qteb,EV0,qhk]
   rfl
  | succ d ih=>
   intro r c n hr hd hc hn k m
   obtain⟨n,rfl⟩:∃ q,n=q+1:=⟨n - 1,by omega⟩
   cases r with
   | nil=>
    simp only[qakb,qteb,EV0,qhk]
    rfl
   | cons b t=>
    have hul:=qbqc (b::t)
    simp only[List.length_cons] at hr hul
    simp only[qakb,c_fbu b t (by omega),EV0]
    rw[show(!((b::t:Str)==[]))=true from rfl,cond_true]
    unfold qhk
    by_cases hu:qnf (b::t)=0
    ·rw[hu]
     rfl
    ·have e1:=qcw (b::t) (qnf (b::t)) (b::t).length (by simp;omega) (Nat.le_refl _)
     rw[List.take_length] at e1
     simp only[List.length_cons] at e1
     rw[show(((qnf (b::t):Nat):Int)==0)=false by simp;omega,cond_false,show(qnf (b::t)==0)=false by simpa using hu,cond_false,e1,qae (by omega)]
     simp only[Option.bind_some]
     exact ih _ (c+1) n (by rw[List.length_drop];simp;omega) (by omega) (by omega) (by omega) k m
 refine qaw (H:=[]) (qasc (s.length+1) ?_)
 have z:=loop s.length s 0 (s.length+1+1) (Nat.le_refl _) hs (by omega) (by omega) (s.length+1+1) (s.length+1+1)
 simpa[fbq,qjz] using z
theorem c_fac (s:Str)(hs:s.length≤1073741823):out qxq [.one (Cell.str (bs s))]=some [.one (Cell.bool (qhvb s))]:=by
 have hM:=qag
 have hl:=qbu 47 s []
 have hlen:∀ x∈split 47 s,x.length≤1073741824:=fun x hx=>Nat.le_trans (hl.2 x hx) (by simp;omega)
 have hll:(split 47 s).length≤s.length+1:=hl.1
 obtain⟨c3,A,ids,e1,r1,w1,_⟩:=qcz (qmfd s 47 (by omega)) ([]:List Entry) (qam [.one (Cell.str (bs s)),.one (Cell.str (bs [47]))] _ _)
 generalize ([]:List Entry)++A=H at e1 r1
 have hm:=qfo.of (n:=2) r1
 clear hl r1 w1
 unfold qhvb
 generalize split 47 s=W at*
 refine qaw (H:=H) (qztb (W.length+1) ?_)
 simp only[fac,e1,hm.len,EV0]
 rw[qdo W (fun n i=>qgjb (W.length+1+1) (W.length+1+1) n c3 c3 W.length i H) qjz (some ([.one (Cell.bool (decide (W.length≤4)))],H)) (some ([.one (Cell.bool false)],H)) ?_ ?_ _ (by omega)]
 ·exact qbcb _ _ _
 ·intro n i x hx hlt
  obtain⟨a,row,off,t1,t2,t3⟩:=hm.at hx
  simp only[qgjb,t1,t2,t3,c_fbq x (hlen x (List.mem_of_getElem? hx)),EV0]
  rw[decide_eq_true (by omega),cond_true,qae (by omega)]
  cases qjz x<;>rfl
 ·intro n
  simp only[qgjb,hm.len,EV0]
  rw[decide_eq_false (by omega),cond_false,show decide ((W.length:Int)≤4)=decide (W.length≤4) from n_le W.length 4]
theorem c_ffy (l:List Str)(hl:bdL 1048576 (bdS 1048576) l):out qsd [.one (qay l)]=some [.one (Cell.bool (l.all qax))]:=by
 have hM:=qag
 have hxl:=hl.1
 refine qaw (H:=[]) (qxpb (l.length+1) ?_)
 simp only[ffy]
 rw[qdo l (fun n i=>qejb (l.length+1+1) (l.length+1+1) n (qay l) i) qax (some ([.one (Cell.bool true)],[])) (some ([.one (Cell.bool false)],[])) ?_ ?_ _ (by omega)]
 ·cases l.all qax<;>rfl
 ·intro n i x hx hlt
  have hb:x.length≤1048576:=hl.2 x (List.mem_of_getElem? hx)
  simp only[qejb,qaf,qaj,hx,eStr,qrxb x (by omega),EV0]
  rw[decide_eq_true (by omega),cond_true,qae (by omega)]
  cases qax x<;>rfl
 ·intro n
  simp only[qejb,qaf,EV0]
  rw[decide_eq_false (by omega),cond_false]
theorem c_fbl (l:List Str)(hl:bdL 1048576 (bdS 1048576) l)(c:Nat):out qky [.one (qay l),.one (Cell.int c)]=some [.one (Cell.bool (l.all qax&&decide (l.length≤c)))]:=by
 have hM:=qag
 have hxl:=hl.1
 refine qaw (H:=[]) (qxib (l.length+1) ?_)
 simp only[fbl,qaf,Option.bind_some]
 rw[qdo l (fun n i=>qhcb (l.length+1+1) (l.length+1+1) n (qay l) c (qay l) l.length i) qax (some ([.one (Cell.bool (decide (l.length≤c)))],[])) (some ([.one (Cell.bool false)],[])) ?_ ?_ _ (by omega)]
 ·exact qbcb _ _ _
 ·intro n i x hx hlt
  have hb:x.length≤1048576:=hl.2 x (List.mem_of_getElem? hx)
  simp only[qhcb,qaf,qaj,hx,eStr,qtfb x (by omega),EV0]
  rw[decide_eq_true (by omega),cond_true,qae (by omega)]
  cases qax x<;>rfl
 ·intro n
  simp only[qhcb,qaf,EV0]
  rw[decide_eq_false (by omega),cond_false,show decide ((l.length:Int)≤(c:Int))=decide (l.length≤c) from n_le l.length c]
def qfxc (s:Str):Bool:=qhvb s&&decide (s.length≤60)
def qlj (r:MRule):Bool:=r.On.all onOk&&(r.Ins.all qfxc&&(qax r.Task&&(decide (r.On.length≤4)&&(decide (r.Ins.length≤4)&&(decide (r.Envs.length≤3)&&r.Envs.all qax)))))
def qudc (l:List MRule)(i:Nat):Bool:=
 match l[i]? with
 | some f=>qlj f&&(decide (i=0)||(match l[i - 1]? with
  | some g=>lt g.Task f.Task
  | none=>true))
 | none=>true
def qfg (l:List MRule):Bool:=(List.range l.length).all (qudc l)&&decide (l.length≤5)
theorem qblb {l:List MRule}{f:MRule}(h:l[0]?=some f):qudc l 0=qlj f:=by
 unfold qudc
 rw[h]
 simp
theorem qcmb {l:List MRule}{i:Nat}{f g:MRule}(h:l[i+1]?=some f)(hg:l[i]?=some g):qudc l (i+1)=(qlj f&&lt g.Task f.Task):=by
 unfold qudc
 rw[h]
 simp[hg]
theorem c_few (r:MRule)(hr:r.Bd 1048576):out qyf [.agg [Cell.str (bs r.Task),qay r.On,qay r.Ins,qay r.Envs,Cell.bool r.Keep]]=some [.one (Cell.bool (qlj r))]:=by
 have hM:=qag
 obtain⟨b0,b1,b2,b3,-⟩:=hr
 have hx1:=b1.1
 have hx2:=b2.1
 have hx0:r.Task.length≤1048576:=b0
 refine qaw (H:=[]) (qwvb (r.On.length+r.Ins.length+1) ?_)
 have z:qczb (r.On.length+r.Ins.length+1+1) (r.On.length+r.Ins.length+1+1) (r.On.length+r.Ins.length+1+1) 0 (bs r.Task) (qay r.On) (qay r.Ins) (qay r.Envs) r.Keep=some ([.one (Cell.bool (r.Ins.all qfxc&&(qax r.Task&&(decide (r.On.length≤4)&&(decide (r.Ins.length≤4)&&(decide (r.Envs.length≤3)&&r.Envs.all qax))))))],[]):=by
  rw[qdo r.Ins (fun n i=>qczb (r.On.length+r.Ins.length+1+1) (r.On.length+r.Ins.length+1+1) n i (bs r.Task) (qay r.On) (qay r.Ins) (qay r.Envs) r.Keep) qfxc (some ([.one (Cell.bool (qax r.Task&&(decide (r.On.length≤4)&&(decide (r.Ins.length≤4)&&(decide (r.Envs.length≤3)&&r.Envs.all qax)))))],[])) (some ([.one (Cell.bool false)],[])) ?_ ?_ _ (by omega)]
  ·exact qbcb _ _ _
  ·intro n i x hx hlt
   have hb:x.length≤1048576:=b2.2 x (List.mem_of_getElem? hx)
   simp only[qczb,qaf,qaj,hx,eStr,c_fed x (by omega),EV0]
   rw[decide_eq_true (by omega),cond_true,qae (by omega),show decide ((x.length:Int) > 60)=!decide (x.length≤60) from by
    rw[show decide ((x.length:Int) > 60)=decide (60 < x.length) from by rw[decide_eq_decide];omega,← decide_not,decide_eq_decide]
    omega]
   unfold qfxc
   cases qhvb x<;>cases decide (x.length≤60)<;>rfl
  ·intro n
   simp only[qczb,qaf,qrxb r.Task (by omega),c_ffy r.Envs b3,EV0]
   rw[decide_eq_false (by omega),cond_false,show decide ((r.On.length:Int)≤4)=decide (r.On.length≤4) from n_le _ 4,show decide ((r.Ins.length:Int)≤4)=decide (r.Ins.length≤4) from n_le _ 4,show decide ((r.Envs.length:Int)≤3)=decide (r.Envs.length≤3) from n_le _ 3]
   cases qax r.Task<;>cases decide (r.On.length≤4)<;>cases decide (r.Ins.length≤4)<;>cases decide (r.Envs.length≤3)<;>rfl
 unfold qlj
 simp only[few,qaf,Option.bind_some]
 rw[qdo r.On (fun n i=>qgab (r.On.length+r.Ins.length+1+1) (r.On.length+r.Ins.length+1+1) n i (bs r.Task) (qay r.On) (qay r.Ins) (qay r.Envs) r.Keep) onOk (some ([.one (Cell.bool (r.Ins.all qfxc&&(qax r.Task&&(decide (r.On.length≤4)&&(decide (r.Ins.length≤4)&&(decide (r.Envs.length≤3)&&r.Envs.all qax))))))],[])) (some ([.one (Cell.bool false)],[])) ?_ ?_ _ (by omega)]
 ·exact qbcb _ _ _
 ·intro n i x hx hlt
  have hb:x.length≤1048576:=b1.2 x (List.mem_of_getElem? hx)
  simp only[qgab,qaf,qaj,hx,eStr,c_fef x (by omega),EV0]
  rw[decide_eq_true (by omega),cond_true,qae (by omega)]
  cases onOk x<;>rfl
 ·intro n
  simp only[qgab,qaf,EV0]
  rw[decide_eq_false (by omega),cond_false]
  exact z
theorem c_fbs (r:MRule)(hr:r.Bd 1048576):out qxx [.agg [Cell.str (bs r.Task),qay r.On,qay r.Ins,qay r.Envs,Cell.bool r.Keep]]=some [.one (Cell.bool (qlj r))]:=by
 have hM:=qag
 obtain⟨b0,b1,b2,b3,-⟩:=hr
 have hx1:=b1.1
 have hx2:=b2.1
 have hx0:r.Task.length≤1048576:=b0
 refine qaw (H:=[]) (qbwc (r.On.length+r.Ins.length+1) ?_)
 have z:qclb (r.On.length+r.Ins.length+1+1) (r.On.length+r.Ins.length+1+1) (r.On.length+r.Ins.length+1+1) (qay r.Ins) r.Ins.length 0 (bs r.Task) (qay r.On) (qay r.Ins) (qay r.Envs) r.Keep=some ([.one (Cell.bool (r.Ins.all qfxc&&(qax r.Task&&(decide (r.On.length≤4)&&(decide (r.Ins.length≤4)&&(decide (r.Envs.length≤3)&&r.Envs.all qax))))))],[]):=by
  rw[qdo r.Ins (fun n i=>qclb (r.On.length+r.Ins.length+1+1) (r.On.length+r.Ins.length+1+1) n (qay r.Ins) r.Ins.length i (bs r.Task) (qay r.On) (qay r.Ins) (qay r.Envs) r.Keep) qfxc (some ([.one (Cell.bool (qax r.Task&&(decide (r.On.length≤4)&&(decide (r.Ins.length≤4)&&(decide (r.Envs.length≤3)&&r.Envs.all qax)))))],[])) (some ([.one (Cell.bool false)],[])) ?_ ?_ _ (by omega)]
  ·exact qbcb _ _ _
  ·intro n i x hx hlt
   have hb:x.length≤1048576:=b2.2 x (List.mem_of_getElem? hx)
   simp only[qclb,qaf,qaj,hx,eStr,c_fac x (by omega),EV0]
   rw[decide_eq_true (by omega),cond_true,qae (by omega),show decide ((x.length:Int) > 60)=!decide (x.length≤60) from by
    rw[show decide ((x.length:Int) > 60)=decide (60 < x.length) from by rw[decide_eq_decide];omega,← decide_not,decide_eq_decide]
    omega]
   unfold qfxc
   cases qhvb x<;>cases decide (x.length≤60)<;>rfl
  ·intro n
   simp only[qclb,qaf,qtfb r.Task (by omega),show out qky [.one (qay r.Envs),.one (Cell.int 3)]=_ from c_fbl r.Envs b3 3,EV0]
   rw[decide_eq_false (by omega),cond_false,show decide ((r.On.length:Int)≤4)=decide (r.On.length≤4) from n_le _ 4,show decide ((r.Ins.length:Int)≤4)=decide (r.Ins.length≤4) from n_le _ 4]
   cases qax r.Task<;>cases decide (r.On.length≤4)<;>cases decide (r.Ins.length≤4)<;>simp[Bool.and_comm]
 unfold qlj
 simp only[fbs,qaf,Option.bind_some]
 rw[qdo r.On (fun n i=>qgib (r.On.length+r.Ins.length+1+1) (r.On.length+r.Ins.length+1+1) n (qay r.On) r.On.length i (bs r.Task) (qay r.On) (qay r.Ins) (qay r.Envs) r.Keep) onOk (some ([.one (Cell.bool (r.Ins.all qfxc&&(qax r.Task&&(decide (r.On.length≤4)&&(decide (r.Ins.length≤4)&&(decide (r.Envs.length≤3)&&r.Envs.all qax))))))],[])) (some ([.one (Cell.bool false)],[])) ?_ ?_ _ (by omega)]
 ·exact qbcb _ _ _
 ·intro n i x hx hlt
  have hb:x.length≤1048576:=b1.2 x (List.mem_of_getElem? hx)
  simp only[qgib,qaf,qaj,hx,eStr,c_faf x (by omega),EV0]
  rw[decide_eq_true (by omega),cond_true,qae (by omega)]
  cases onOk x<;>rfl
 ·intro n
  simp only[qgib,qaf,EV0]
  rw[decide_eq_false (by omega),cond_false]
  exact z
theorem c_fep (l:List MRule)(hl:bdL 1048576 (MRule.Bd 1048576) l):out qmd [.one (encL 5 MRule.enc l)]=some [.one (Cell.bool (qfg l))]:=by
 have hM:=qag
 have hxl:=hl.1
 refine qaw (H:=[]) (qvjb (l.length+1) ?_)
 unfold qfg
 simp only[fep]
 rw[qee l.length (fun n i=>qdkb (l.length+1+1) (l.length+1+1) n (encL 5 MRule.enc l) i) (qudc l) (some ([.one (Cell.bool (decide (l.length≤5)))],[])) (some ([.one (Cell.bool false)],[])) ?_ ?_ _ (by omega)]
 ·exact qbcb _ _ _
 ·intro n i hlt
  obtain⟨f,hf⟩:∃ f,l[i]?=some f:=⟨l[i],List.getElem?_eq_getElem hlt⟩
  have hb:=hl.2 f (List.mem_of_getElem? hf)
  have e1:=c_few f hb
  simp only[qdkb,qaf,qaj,hf,MRule.enc,e1,EV0]
  rw[decide_eq_true (by omega),cond_true,qae (by omega)]
  cases i with
  | zero=>
   rw[qblb hf,decide_eq_false (p:=((0:Nat):Int) > 0) (by omega)]
   cases qlj f<;>rfl
  | succ i=>
   obtain⟨g,hg⟩:∃ g,l[i]?=some g:=⟨l[i],List.getElem?_eq_getElem (by omega)⟩
   rw[qcmb hf hg,decide_eq_true (p:=((i+1:Nat):Int) > 0) (by omega),qcp (by omega)]
   simp only[qaj,hf,hg,MRule.enc,qbr,Nat.zero_add,qcmc,EV0]
   cases qlj f<;>cases lt g.Task f.Task<;>rfl
 ·intro n
  simp only[qdkb,qaf,EV0]
  rw[decide_eq_false (by omega),cond_false,show decide ((l.length:Int)≤5)=decide (l.length≤5) from n_le l.length 5]
theorem c_faq (l:List MRule)(hl:bdL 1048576 (MRule.Bd 1048576) l):out qwo [.one (encL 5 MRule.enc l)]=some [.one (Cell.bool (qfg l))]:=by
 have hM:=qag
 have hxl:=hl.1
 refine qaw (H:=[]) (qafc (l.length+1) ?_)
 unfold qfg
 simp only[faq,qaf,Option.bind_some]
 rw[qee l.length (fun n i=>qdeb (l.length+1+1) (l.length+1+1) n (encL 5 MRule.enc l) (encL 5 MRule.enc l) l.length i) (qudc l) (some ([.one (Cell.bool (decide (l.length≤5)))],[])) (some ([.one (Cell.bool false)],[])) ?_ ?_ _ (by omega)]
 ·exact qbcb _ _ _
 ·intro n i hlt
  obtain⟨f,hf⟩:∃ f,l[i]?=some f:=⟨l[i],List.getElem?_eq_getElem hlt⟩
  have hb:=hl.2 f (List.mem_of_getElem? hf)
  have e1:=c_fbs f hb
  simp only[qdeb,qaf,qaj,hf,MRule.enc,e1,EV0]
  rw[decide_eq_true (by omega),cond_true,qae (by omega)]
  cases i with
  | zero=>
   rw[qblb hf,decide_eq_false (p:=((0:Nat):Int) > 0) (by omega)]
   cases qlj f<;>rfl
  | succ i=>
   obtain⟨g,hg⟩:∃ g,l[i]?=some g:=⟨l[i],List.getElem?_eq_getElem (by omega)⟩
   rw[qcmb hf hg,decide_eq_true (p:=((i+1:Nat):Int) > 0) (by omega),qcp (by omega)]
   simp only[qaj,hf,hg,MRule.enc,qbr,Nat.zero_add,qcmc,qhob,EV0]
   cases qlj f<;>cases lt g.Task f.Task<;>rfl
 ·intro n
  simp only[qdeb,qaf,EV0]
  rw[decide_eq_false (by omega),cond_false,show decide ((l.length:Int)≤5)=decide (l.length≤5) from n_le l.length 5]
theorem c_fcb (s p:Str):out qze [.one (Cell.str (bs s)),.one (Cell.str (bs p))]=some [.one (Cell.str (bs (qka p s))),.one (Cell.bool (p.isPrefixOf s))]:=by
 refine qaw (H:=[]) (qzrb 0 ?_)
 simp only[fcb,c_fcc,EV0]
 unfold qka
 cases h:p.isPrefixOf s with
 | true=>
  have hl:=(List.isPrefixOf_iff_prefix.1 h).length_le
  rw[Bool.not_true,cond_false,qcw s _ _ hl (Nat.le_refl _),List.take_length]
  rfl
 | false=>rfl
theorem c_fge (s p:Str):out qnw [.one (Cell.str (bs s)),.one (Cell.str (bs p))]=some [.one (Cell.str (bs (qka p s))),.one (Cell.bool (p.isPrefixOf s))]:=by
 refine qaw (H:=[]) (qxlb 0 ?_)
 simp only[fge,c_fcb,EV0]
def b16 (n:Nat):Str:=[UInt8.ofNat (n / 256),UInt8.ofNat n]
def numT (n:Nat):Str:=Lib.decDigits n
theorem qjf {u:Nat}(h:u < 10):Lib.decDigits u=[UInt8.ofNat (48+u)]:=by
 unfold Lib.decDigits
 rw[dif_pos h]
theorem qps {u:Nat}(h:¬ u < 10):Lib.decDigits u=Lib.decDigits (u / 10)++[UInt8.ofNat (48+u % 10)]:=by
 rw[Lib.decDigits,dif_neg h]
theorem qyob (n:Nat)(h:n≤1099511627776):(numT n).length≤21:=by
 have:=Lib.itoa_length_le (n:Int) (by omega) (by omega)
 have e:Lib.itoa (n:Int)=numT n:=by unfold Lib.itoa numT;rw[if_neg (by omega)];simp
 rwa [e] at this
def BytM (H:List Entry)(c:Cell)(b:Str):Prop:=∃ ids,Rep H true true 2 ids c (trL 1 qqhb b)∧ids.Nodup
theorem BytM.nil (H:List Entry):BytM H (.lst true 1 []) []:=⟨[],.inl ⟨rfl,rfl,true,rfl⟩,by simp⟩
theorem BytM.read {H:List Entry}{c:Cell}{b:Str}(h:BytM H c b):qao false H (.one c)=some (.one (bytesC b)):=by
 obtain⟨ids,h,_⟩:=h
 have:=qcq h (by omega)
 rwa [qbm] at this
theorem BytM.of {H E:List Entry}{c:Cell}{b:Str}{is:List Nat}{lo hi:Nat}(h:Rep (H++E) true true 2 is c (trL 1 qqhb b))(w:Mine lo hi is):BytM (H++E) c b:=⟨is,h,w.nd⟩
theorem Grow.bytes {c:Cell}{H:List Entry}{b:Str}(h:Grow 1 c H (b.map qnvd)):∃ ids,Rep H true true 2 ids c (trL 1 qqhb b)∧ids.Nodup:=by
 obtain⟨ids,h1,h2,_⟩:=h.rep (tr:=qqhb) (fun _ _=>rfl) (fun x _ H'=>Sp.leaf1 _)
 exact⟨ids,h1,h2⟩
theorem qble (n:Nat)(hn:n≤1099511627776):out qjr [.one (Cell.int n)]=some [.one (Cell.str (bs (numT n)))]:=by
 have e:out qiob [.one (Cell.int n)]=some [.one (Cell.str (bs (numT n)))]:=by
  refine qaw (H:=[]) ?_
  show qqz _ _=_
  simp only[qqz]
  rw[if_pos ⟨by omega,by omega⟩]
  have:Lib.itoa (n:Int)=numT n:=by unfold Lib.itoa numT;rw[if_neg (by omega)];simp
  rw[this]
  rfl
 refine qaw (H:=[]) (qvrb 0 ?_)
 simp only[fae]
 rw[if_neg (by omega)]
 simp only[e,EV0]
theorem Grow.at {sz:Nat}{c:Cell}{H:List Entry}{rows:List (List Cell)}{i:Nat}{row:List Cell}(h:Grow sz c H rows)(hr:rows[i]?=some row):∃ a,idxA sz c (i:Int)=some a∧deref H a=some (row,0):=by
 have hlt:=(List.getElem?_eq_some_iff.1 hr).1
 rcases h with⟨rfl,_,_⟩ | ⟨ep,rfl,rfl⟩
 ·simp at hr
 ·exact⟨.ptr 0 sz i 0 ep,qgd _ _ _ _ _ hlt,by simp[deref,entry?,hr]⟩
theorem Grow.len {sz:Nat}{c:Cell}{H:List Entry}{rows:List (List Cell)}(h:Grow sz c H rows):lenC c=some rows.length:=by
 rcases h with⟨rfl,rfl,_⟩ | ⟨ep,rfl,rfl⟩<;>rfl
def digits:Str→Nat→Nat | [],n=>n | b::r,n=>digits r (n*10+(b.toNat - 48))
def qas (s:Str)(most:Nat):Option Nat:=if s.all qbb=true∧1≤s.length∧s.length≤7∧(s.length=1∨s.head?≠some 48)∧digits s 0≤most then some (digits s 0) else none
theorem qhf {b:UInt8}(h:qbb b=true):48≤b.toNat∧b.toNat≤57:=by
 unfold qbb inR at h
 simp only[Bool.and_eq_true,decide_eq_true_eq] at h
 omega
theorem qjt:∀ (s t:Str) (n:Nat),digits (s++t) n=digits t (digits s n):=by
 intro s
 induction s with
 | nil=>intro t n;rfl
 | cons b r ih=>intro t n;exact ih t _
theorem qvj:∀ (s:Str) (n N:Nat),(∀ b∈s,qbb b=true)→n < 10 ^ N→digits s n < 10 ^ (N+s.length):=by
 intro s
 induction s with
 | nil=>intro n N _ h;exact h
 | cons b r ih=>
  intro n N h hn
  have h2:=qhf (h b List.mem_cons_self)
  have h1:=ih (n*10+(b.toNat - 48)) (N+1) (fun x hx=>h x (List.mem_cons_of_mem _ hx)) (by rw[Nat.pow_succ];omega)
  simp only[digits,List.length_cons]
  rw[show N+(r.length+1)=N+1+r.length by omega]
  exact h1
theorem qotb {n:Nat}(h:n < 10):qbb (UInt8.ofNat (48+n))=true:=by
 unfold qbb inR
 simp only[Bool.and_eq_true,decide_eq_true_eq,UInt8.toNat_ofNat']
 omega
theorem qaic:∀ n:Nat,(numT n).all qbb=true∧1≤(numT n).length∧((numT n).length=1∨(numT n).head?≠some 48)∧digits (numT n) 0=n∧(0 < n→(numT n).head?≠some 48):=by
 intro n
 induction n using Nat.strongRecOn with
 | _ n ih=>
  unfold numT at ih ⊢
  by_cases h:n < 10
  ·rw[qjf h]
   refine⟨by rw[List.all_cons,qotb h,List.all_nil];rfl,by simp,.inl rfl,?_,?_⟩
   ·simp only[digits,UInt8.toNat_ofNat']
    omega
   ·intro h0 e
    simp only[List.head?_cons,Option.some.injEq] at e
    have:=congrArg UInt8.toNat e
    simp only[UInt8.toNat_ofNat'] at this
    have h48:(48:UInt8).toNat=48:=rfl
    omega
  ·rw[qps h]
   obtain⟨i1,i2,i3,i4,i5⟩:=ih (n / 10) (by omega)
   have hh:(Lib.decDigits (n / 10)++[UInt8.ofNat (48+n % 10)]).head?=(Lib.decDigits (n / 10)).head?:=by
    cases hd:Lib.decDigits (n / 10) with
    | nil=>rw[hd] at i2;simp at i2
    | cons x r=>rfl
   have i6:=i5 (by omega)
   refine⟨?_,by simp,.inr ?_,?_,fun _=>?_⟩
   ·rw[List.all_append,i1]
    rw[List.all_cons,qotb (show n % 10 < 10 by omega),List.all_nil]
    rfl
   ·rw[hh];exact i6
   ·rw[qjt,i4]
    simp only[digits,UInt8.toNat_ofNat']
    omega
   ·rw[hh];exact i6
theorem qtz:∀ (k:Nat) (s:Str),s.length=k→(∀ b∈s,qbb b=true)→1≤s.length→(s.length=1∨s.head?≠some 48)→numT (digits s 0)=s:=by
 intro k
 induction k with
 | zero=>intro s h1 _ h2 _;omega
 | succ k ih=>
  intro s h1 h2 h3 h4
  have hne:s≠[]:=by intro h;subst h;simp at h3
  obtain⟨t,d,rfl⟩:∃ t d,s=t++[d]:=⟨s.dropLast,s.getLast hne,(List.dropLast_concat_getLast hne).symm⟩
  have hd:=qhf (h2 d (by simp))
  simp only[List.length_append,List.length_cons,List.length_nil] at h1 h4
  have hdd:UInt8.ofNat (48+(d.toNat - 48))=d:=by
   apply UInt8.toNat_inj.1
   simp only[UInt8.toNat_ofNat']
   have:=d.toNat_lt
   omega
  by_cases ht:t=[]
  ·subst ht
   simp only[List.nil_append,digits]
   unfold numT
   rw[qjf (by omega),show 0*10+(d.toNat - 48)=d.toNat - 48 by omega,hdd]
  ·have htl:=List.length_pos_iff.2 ht
   have hhead:t.head?≠some 48:=by
    rcases h4 with h4 | h4
    ·omega
    ·cases t with
     | nil=>exact absurd rfl ht
     | cons x r=>exact h4
   have i1:=ih t (by omega) (fun b hb=>h2 b (List.mem_append_left _ hb)) htl (.inr hhead)
   have hpos:1≤digits t 0:=by
    rcases Nat.eq_zero_or_pos (digits t 0) with h | h
    ·rw[h] at i1
     have:numT 0=[48]:=by unfold numT;rw[qjf (by omega)];rfl
     rw[this] at i1
     rw[← i1] at hhead
     exact absurd rfl hhead
    ·exact h
   rw[qjt]
   simp only[digits]
   unfold numT at i1 ⊢
   rw[qps (by omega),show(digits t 0*10+(d.toNat - 48)) / 10=digits t 0 by omega,i1,show(digits t 0*10+(d.toNat - 48)) % 10=d.toNat - 48 by omega,hdd]
theorem qda {s:Str}{k most:Nat}(h:qas s most=some k):s=numT k∧k≤most∧s.length≤7:=by
 unfold qas at h
 split at h
 ·rename_i hc
  obtain⟨h1,h2,h3,h4,h5⟩:=hc
  simp only[Option.some.injEq] at h
  subst h
  exact⟨(qtz _ s rfl (List.all_eq_true.1 h1) h2 h4).symm,h5,h3⟩
 ·simp at h
def numV (o:Option Nat):List AV:=match o with
 | some k=>[.one (Cell.int (k:Int)),.one (Cell.bool true)]
 | none=>[.one (Cell.int 0),.one (Cell.bool false)]
theorem qtsc {x:UInt8}(h:qbb x=true):IntKind.i64.wrap (IntKind.u8.wrap ((x.toNat:Int) - 48))=((x.toNat - 48:Nat):Int):=by
 have h1:=qhf h
 have e:((x.toNat:Int) - 48)=((x.toNat - 48:Nat):Int):=by omega
 rw[e,wrap_u8]
 have:(UInt8.ofNat (x.toNat - 48)).toNat=x.toNat - 48:=by simp only[UInt8.toNat_ofNat'];omega
 rw[this]
 exact wrap_small (by omega) (by omega)
theorem c_fei (s:Str)(most:Nat)(hs:s.length≤1073741824)(hm:most≤1073741824):out qdj [.one (Cell.str (bs s)),.one (Cell.int most)]=some (numV (qas s most)):=by
 have hM:=qag
 have fin:∀ (v:Nat),s.length≤7→s.all qbb=true→v=digits s 0→((qar qcb [.one (Cell.int (s.length:Int)),.one (Cell.int 1),.one (Cell.int 7)] []).bind fun r14=>
  cond (qab qgv r14)
  ((cB (qaa r14 0) 0).bind fun b15=>
  cond (!b15)
  (some ([AV.one (Cell.int 0),AV.one (Cell.bool false)],[]))
  (cond (decide ((s.length:Int) > 1))
  ((bytS (bs s) 0).bind fun i16=>
  cond (i16==48)
  (some ([AV.one (Cell.int 0),AV.one (Cell.bool false)],[]))
  (cond (decide ((v:Int) > (most:Int)))
  (some ([AV.one (Cell.int 0),AV.one (Cell.bool false)],[]))
  (some ([AV.one (Cell.int (v:Int)),AV.one (Cell.bool true)],([]:List Entry)))))
  (cond (decide ((v:Int) > (most:Int)))
  (some ([AV.one (Cell.int 0),AV.one (Cell.bool false)],[]))
  (some ([AV.one (Cell.int (v:Int)),AV.one (Cell.bool true)],[])))))
  none)=some (numV (qas s most),[]):=by
  intro v h7 ha hv
  simp only[qeab,EV0]
  unfold qas
  cases s with
  | nil=>rfl
  | cons x r=>
   rw[show inR (((x::r:Str).length:Nat):Int) 1 7=true by
    unfold inR
    rw[decide_eq_true (by simp only[List.length_cons];omega),decide_eq_true (by omega)]
    rfl,Bool.not_true,cond_false]
   by_cases h1:r=[]
   ·subst h1
    rw[decide_eq_false (by simp),cond_false]
    by_cases hm:v≤most
    ·rw[decide_eq_false (by omega),cond_false,if_pos ⟨ha,by simp,by simp,.inl rfl,by omega⟩,hv]
     rfl
    ·rw[decide_eq_true (by omega),cond_true,if_neg fun h=>hm (by omega)]
     rfl
   ·have hr:=List.length_pos_iff.2 h1
    rw[decide_eq_true (by simp;omega),cond_true,qff]
    simp only[Option.bind_some]
    rw[show((x.toNat:Int)==48)=(x==48) from qmy x 48 (by omega)]
    cases hx:x==48 with
    | true=>
     have:x=48:=by simpa using hx
     rw[cond_true,if_neg]
     ·rfl
     ·rintro ⟨_,_,_,h,_⟩
      rcases h with h | h
      ·simp only[List.length_cons] at h;omega
      ·rw[this] at h;exact h rfl
    | false=>
     have:x≠48:=by simpa using hx
     rw[cond_false]
     by_cases hm:v≤most
     ·rw[decide_eq_false (by omega),cond_false,if_pos ⟨ha,by simp,h7,.inr (by simpa using this),by omega⟩,hv]
      rfl
     ·rw[decide_eq_true (by omega),cond_true,if_neg fun h=>hm (by omega)]
      rfl
 have loop:∀ (r:Str) (i n a:Nat),s.drop i=r→i≤8→r.length < n→(s.take i).all qbb=true→a=digits (s.take i) 0→∀ k m,qibb k m n (bs s) most a i=some (numV (qas s most),[]):=by
  intro r
  induction r with
  | nil=>
   intro i n a hd hi hn ht ha k m
   obtain⟨n,rfl⟩:∃ j,n=j+1:=⟨n - 1,by omega⟩
   have h1:=drop_nil hd
   rw[List.take_of_length_le h1] at ht ha
   simp only[qibb,qbj]
   rw[decide_eq_false (by omega),cond_false]
   by_cases h7:s.length≤7
   ·exact fin a h7 ht ha
   ·simp only[qeab,EV0]
    rw[show inR (s.length:Int) 1 7=false by
     unfold inR
     rw[decide_eq_false (p:=(s.length:Int)≤7) (by omega),Bool.and_false]]
    unfold qas
    rw[if_neg fun h=>h7 h.2.2.1]
    rfl
  | cons x r ih=>
   intro i n a hd hi hn ht ha k m
   obtain⟨n,rfl⟩:∃ j,n=j+1:=⟨n - 1,by omega⟩
   obtain⟨hlt,hx,hd'⟩:=qal hd
   simp only[List.length_cons] at hn
   simp only[qibb,qbj]
   rw[decide_eq_true (by omega),cond_true]
   by_cases h8:i < 8
   ·rw[decide_eq_true (by omega),cond_true]
    simp only[qcn,hx,Option.map_some,qlzd,EV0]
    cases hf:qbb x with
    | false=>
     simp only[Bool.not_false,cond_true]
     unfold qas
     rw[if_neg]
     ·rfl
     ·rintro ⟨h,_⟩
      have:=List.all_eq_true.1 h x (List.mem_of_getElem? hx)
      rw[hf] at this
      simp at this
    | true=>
     have hsn:s.take (i+1)=s.take i++[x]:=by rw[List.take_add_one,hx];rfl
     have hal:a < 10 ^ 8:=by
      rw[ha]
      refine Nat.lt_of_lt_of_le (qvj (s.take i) 0 0 (List.all_eq_true.1 ht) (by simp)) ?_
      rw[Nat.zero_add]
      refine Nat.pow_le_pow_right (by omega) ?_
      rw[List.length_take]
      omega
     have hf2:=qhf hf
     simp only[Bool.not_true,cond_false]
     rw[qtsc hf,wrap_small (n:=(a:Int)*10) (by omega) (by omega),wrap_small (by omega) (by omega),qae (by omega),show(a:Int)*10+((x.toNat - 48:Nat):Int)=((a*10+(x.toNat - 48):Nat):Int) by omega]
     refine ih (i+1) n _ hd' (by omega) (by omega) ?_ ?_ k m
     ·rw[hsn,List.all_append,ht,List.all_cons,hf,List.all_nil]
      rfl
     ·rw[hsn,qjt,← ha]
      rfl
   ·rw[decide_eq_false (by omega),cond_false]
    simp only[qeab,EV0]
    rw[show inR (s.length:Int) 1 7=false by
     unfold inR
     rw[decide_eq_false (p:=(s.length:Int)≤7) (by omega),Bool.and_false]]
    unfold qas
    rw[if_neg fun h=>by have:=h.2.2.1;omega]
    rfl
 refine qaw (H:=[]) (qzwb (s.length+1) ?_)
 have:=loop s 0 (s.length+1+1) 0 rfl (by omega) (by omega) (by simp) (by simp[digits]) (s.length+1+1) (s.length+1+1)
 simpa[fei] using this
theorem c_fai (s:Str)(most:Nat)(hs:s.length≤1073741824)(hm:most≤1073741824):out qkl [.one (Cell.str (bs s)),.one (Cell.int most)]=some (numV (qas s most)):=by
 have hM:=qag
 by_cases h17:1≤s.length∧s.length≤7
 ·obtain⟨h1,h7⟩:=h17
  have loop:∀ (r:Str) (i n a:Nat),s.drop i=r→r.length < n→(s.take i).all qbb=true→a=digits (s.take i) 0→∀ k m,qgrb k m n (bs s) most a i=some (numV (qas s most),[]):=by
   intro r
   induction r with
   | nil=>
    intro i n a hd hn ht ha k m
    obtain⟨n,rfl⟩:∃ j,n=j+1:=⟨n - 1,by omega⟩
    have h2:=drop_nil hd
    rw[List.take_of_length_le h2] at ht ha
    have hal:a < 10 ^ 7:=by
     rw[ha]
     refine Nat.lt_of_lt_of_le (qvj s 0 0 (List.all_eq_true.1 ht) (by simp)) ?_
     rw[Nat.zero_add]
     exact Nat.pow_le_pow_right (by omega) h7
    simp only[qgrb,qbj]
    rw[decide_eq_false (by omega),cond_false]
    simp only[qble a (by omega),EV0]
    by_cases hc:s.length=1∨s.head?≠some 48
    ·have e:=qtz _ s rfl (List.all_eq_true.1 ht) h1 hc
     rw[ha,e,show(s==s)=true by simp,Bool.not_true,cond_false]
     unfold qas
     by_cases hm:digits s 0≤most
     ·rw[decide_eq_false (by omega),cond_false,if_pos ⟨ht,h1,h7,hc,hm⟩]
      rfl
     ·rw[decide_eq_true (by omega),cond_true,if_neg fun h=>hm h.2.2.2.2]
      rfl
    ·have hne:(numT a==s)=false:=by
      rw[beq_eq_false_iff_ne]
      intro e
      have:=(qaic a).2.2.1
      rw[e] at this
      exact hc this
     rw[hne,Bool.not_false,cond_true]
     unfold qas
     rw[if_neg fun h=>hc h.2.2.2.1]
     rfl
   | cons x r ih=>
    intro i n a hd hn ht ha k m
    obtain⟨n,rfl⟩:∃ j,n=j+1:=⟨n - 1,by omega⟩
    obtain⟨hlt,hx,hd'⟩:=qal hd
    simp only[List.length_cons] at hn
    simp only[qgrb,qbj]
    rw[decide_eq_true (by omega),cond_true]
    simp only[qcn,hx,Option.map_some,qwkc,EV0]
    cases hf:qbb x with
    | false=>
     simp only[Bool.not_false,cond_true]
     unfold qas
     rw[if_neg]
     ·rfl
     ·rintro ⟨h,_⟩
      have:=List.all_eq_true.1 h x (List.mem_of_getElem? hx)
      rw[hf] at this
      simp at this
    | true=>
     have hsn:s.take (i+1)=s.take i++[x]:=by rw[List.take_add_one,hx];rfl
     have hal:a < 10 ^ 8:=by
      rw[ha]
      refine Nat.lt_of_lt_of_le (qvj (s.take i) 0 0 (List.all_eq_true.1 ht) (by simp)) ?_
      rw[Nat.zero_add]
      refine Nat.pow_le_pow_right (by omega) ?_
      rw[List.length_take]
      omega
     have hf2:=qhf hf
     simp only[Bool.not_true,cond_false]
     rw[qtsc hf,wrap_small (n:=(a:Int)*10) (by omega) (by omega),wrap_small (by omega) (by omega),qae (by omega),show(a:Int)*10+((x.toNat - 48:Nat):Int)=((a*10+(x.toNat - 48):Nat):Int) by omega]
     refine ih (i+1) n _ hd' (by omega) ?_ ?_ k m
     ·rw[hsn,List.all_append,ht,List.all_cons,hf,List.all_nil]
      rfl
     ·rw[hsn,qjt,← ha]
      rfl
  refine qaw (H:=[]) (qbdb (s.length+1) ?_)
  have z:=loop s 0 (s.length+1+1) 0 rfl (by omega) (by simp) (by simp[digits]) (s.length+1+1) (s.length+1+1)
  simp only[fai,qbj,qteb,EV0]
  rw[show inR (s.length:Int) 1 7=true by
   unfold inR
   rw[decide_eq_true (by omega),decide_eq_true (by omega)]
   rfl,Bool.not_true,cond_false]
  exact z
 ·refine qaw (H:=[]) (qbdb 0 ?_)
  simp only[fai,qbj,qteb,EV0]
  rw[show inR (s.length:Int) 1 7=false by
   unfold inR
   rcases Nat.lt_or_ge s.length 1 with h | h
   ·rw[decide_eq_false (by omega),Bool.false_and]
   ·rw[decide_eq_false (p:=(s.length:Int)≤7) (by omega),Bool.and_false]]
  unfold qas
  rw[if_neg fun h=>h17 ⟨h.2.1,h.2.2.1⟩]
  rfl
def figV:Nat→Str→Bool | 0,_=>true | _,s=>!(s==[])
def qsad (b:UInt8):Bool:=qbb b||qds b||inR b.toNat 65 90||b==45
def qoh (s:Str):Bool:=s.all qsad&&(inR s.length 1 8&&(!s.all qbb||s.length==1||s.head? != some 48))
def qgu (a b c:Int)(pre:List Str):Bool:=pre.all qoh&&(inR a 0 9999&&(inR b 0 9999&&(inR c 0 9999&&decide (pre.length≤3))))
def qgn (a b c:Int)(pre:List Str):Str:=if qgu a b c pre then numT a.toNat++[46]++numT b.toNat++[46]++numT c.toNat++(if pre.length=0 then [] else 45::Lib.join pre [46]) else []
theorem qycb {s:Str}(h:qoh s=true):1≤s.length∧s.length≤8:=by
 simp only[qoh,Bool.and_eq_true,inR,decide_eq_true_eq] at h
 omega
theorem qpk {a b c:Int}{pre:List Str}(h:qgu a b c pre=true):(0≤a∧a≤9999)∧(0≤b∧b≤9999)∧(0≤c∧c≤9999)∧pre.length≤3∧∀ x∈pre,x.length≤8:=by
 simp only[qgu,Bool.and_eq_true,inR,decide_eq_true_eq,List.all_eq_true] at h
 exact⟨h.2.1,h.2.2.1,h.2.2.2.1,h.2.2.2.2,fun x hx=>(qycb (h.1 x hx)).2⟩
theorem qtw {sep:Str}(hs:sep.length≤1):∀ r:List Str,(∀ x∈r,x.length≤8)→(Lib.joinTail sep r).length≤9*r.length
 | [],_=>by simp[Lib.joinTail]
 | x::r,h=>by
  have ih:=qtw hs r fun y hy=>h y (List.mem_cons_of_mem _ hy)
  have hx:=h x (List.mem_cons_self ..)
  simp only[Lib.joinTail,List.map_cons,List.flatten_cons,List.length_append,List.length_cons] at ih ⊢
  omega
theorem qsqc {sep:Str}(hs:sep.length≤1)(r:List Str)(h:∀ x∈r,x.length≤8):(Lib.join r sep).length≤9*r.length:=by
 cases r with
 | nil=>simp[Lib.join_nil]
 | cons x r=>
  rw[Lib.join_cons,List.length_append]
  have:=qtw hs r fun y hy=>h y (List.mem_cons_of_mem _ hy)
  have hx:=h x (List.mem_cons_self ..)
  simp only[List.length_cons]
  omega
theorem c_fff (s:Str)(hs:s.length≤1073741824):out qxc [.one (Cell.str (bs s))]=some [.one (Cell.bool (s.all qbb&&figV 0 s))]:=by
 have hM:=qag
 have loop:∀ (r:Str) (i n:Nat),s.drop i=r→r.length < n→∀ k m,qfab k m n (bs s) i=some ([.one (Cell.bool (r.all qbb&&figV 0 s))],[]):=by
  intro r
  induction r with
  | nil=>
   intro i n hd hn k m
   obtain⟨n,rfl⟩:∃ j,n=j+1:=⟨n - 1,by omega⟩
   have:=drop_nil hd
   simp only[qfab,qbj,qdz]
   rw[decide_eq_false (by omega),cond_false]
   simp[figV]
  | cons b r ih=>
   intro i n hd hn k m
   obtain⟨n,rfl⟩:∃ j,n=j+1:=⟨n - 1,by omega⟩
   obtain⟨hlt,hg,hd'⟩:=qal hd
   simp only[List.length_cons] at hn
   simp only[qfab,qcn,hg,qlzd,EV0]
   rw[decide_eq_true (by omega),cond_true,qae (by omega),ih (i+1) n hd' (by omega)]
   simp only[List.all_cons]
   cases qbb b<;>rfl
 refine qaw (H:=[]) (qwnb (s.length+1) ?_)
 have:=loop s 0 (s.length+1+1) rfl (by omega) (s.length+1+1) (s.length+1+1)
 simpa[fff] using this
theorem c_fbf (s:Str)(hs:s.length≤1073741824):out qxm [.one (Cell.str (bs s))]=some [.one (Cell.bool (s.all qbb&&figV 1 s))]:=by
 have hM:=qag
 have loop:∀ (r:Str) (i n:Nat),s.drop i=r→r.length < n→∀ k m,qfkb k m n (bs s) i=some ([.one (Cell.bool (r.all qbb&&figV 1 s))],[]):=by
  intro r
  induction r with
  | nil=>
   intro i n hd hn k m
   obtain⟨n,rfl⟩:∃ j,n=j+1:=⟨n - 1,by omega⟩
   have:=drop_nil hd
   simp only[qfkb,qbj,qdz]
   rw[decide_eq_false (by omega),cond_false]
   simp[figV]
  | cons b r ih=>
   intro i n hd hn k m
   obtain⟨n,rfl⟩:∃ j,n=j+1:=⟨n - 1,by omega⟩
   obtain⟨hlt,hg,hd'⟩:=qal hd
   simp only[List.length_cons] at hn
   simp only[qfkb,qcn,hg,qwkc,EV0]
   rw[decide_eq_true (by omega),cond_true,qae (by omega),ih (i+1) n hd' (by omega)]
   simp only[List.all_cons]
   cases qbb b<;>rfl
 refine qaw (H:=[]) (qbvc (s.length+1) ?_)
 have:=loop s 0 (s.length+1+1) rfl (by omega) (s.length+1+1) (s.length+1+1)
 simpa[fbf] using this
theorem c_ffg (s:Str)(hs:s.length≤1073741824):out qyw [.one (Cell.str (bs s))]=some [.one (Cell.bool (qoh s))]:=by
 have hM:=qag
 have loop:∀ (r:Str) (i n:Nat),s.drop i=r→r.length < n→∀ k m,qtc k m n (bs s) i=some ([.one (Cell.bool (r.all qsad&&(inR s.length 1 8&&(!s.all qbb||s.length==1||s.head? != some 48))))],[]):=by
  intro r
  induction r with
  | nil=>
   intro i n hd hn k m
   obtain⟨n,rfl⟩:∃ j,n=j+1:=⟨n - 1,by omega⟩
   have:=drop_nil hd
   simp only[qtc,qbj]
   rw[decide_eq_false (by omega),cond_false]
   simp only[qeab,c_fff s hs,figV,EV0,List.all_nil]
   cases hr:inR (s.length:Int) 1 8 with
   | false=>rfl
   | true=>
    simp only[cond_true,Bool.true_and]
    cases hf:s.all qbb with
    | false=>rfl
    | true=>
     simp only[Bool.not_true,cond_false,Bool.false_or]
     cases s with
     | nil=>simp[inR] at hr
     | cons x s=>
      have h0:bytS (bs (x::s)) 0=some (x.toNat:Int):=by
       have:=qcn (x::s) 0
       simpa using this
      have h48:((x.toNat:Int) != 48)=(x != 48):=qgdd x 48 (by omega)
      have hl:(((x::s).length:Int)==1)=((x::s).length==1):=by rw[Bool.eq_iff_iff];simp only[beq_iff_eq];omega
      have hh:((x::s).head? != some 48)=(x != 48):=by simp[bne]
      simp only[h0,h48,hl,hh,Option.bind_some]
      cases ((x::s).length==1)<;>simp
  | cons b r ih=>
   intro i n hd hn k m
   obtain⟨n,rfl⟩:∃ j,n=j+1:=⟨n - 1,by omega⟩
   obtain⟨hlt,hg,hd'⟩:=qal hd
   simp only[List.length_cons] at hn
   have hb:=qrsd b
   have h45:((b.toNat:Int) != 45)=!(b==45):=qgdd b 45 (by omega)
   simp only[qtc,qcn,hg,qlzd,qbve,qeab,wrap_small (n:=(b.toNat:Int)) (by omega) (by omega),h45,EV0]
   rw[decide_eq_true (by omega),cond_true,qae (by omega),ih (i+1) n hd' (by omega)]
   simp only[List.all_cons,qsad]
   cases qbb b<;>cases qds b<;>cases (inR (b.toNat:Int) 65 90)<;>cases (b==45)<;>rfl
 refine qaw (H:=[]) (qxab (s.length+1) ?_)
 have:=loop s 0 (s.length+1+1) rfl (by omega) (s.length+1+1) (s.length+1+1)
 simpa[ffg,qoh] using this
theorem c_fbr (s:Str)(hs:s.length≤1073741824):out qbtb [.one (Cell.str (bs s))]=some [.one (Cell.bool (qoh s))]:=by
 have hM:=qag
 have loop:∀ (r:Str) (i n:Nat),s.drop i=r→r.length < n→∀ k m,qms k m n (bs s) i=some ([.one (Cell.bool (r.all qsad&&(inR s.length 1 8&&(!s.all qbb||s.length==1||s.head? != some 48))))],[]):=by
  intro r
  induction r with
  | nil=>
   intro i n hd hn k m
   obtain⟨n,rfl⟩:∃ j,n=j+1:=⟨n - 1,by omega⟩
   have:=drop_nil hd
   simp only[qms,qbj]
   rw[decide_eq_false (by omega),cond_false]
   simp only[qteb,c_fbf s hs,figV,EV0,List.all_nil]
   cases hr:inR (s.length:Int) 1 8 with
   | false=>rfl
   | true=>
    simp only[cond_true,Bool.true_and]
    cases s with
    | nil=>simp[inR] at hr
    | cons x s=>
     cases hf:(x::s).all qbb with
     | false=>rfl
     | true=>
      have h0:bytS (bs (x::s)) 0=some (x.toNat:Int):=by
       have:=qcn (x::s) 0
       simpa using this
      have h48:((x.toNat:Int) != 48)=(x != 48):=qgdd x 48 (by omega)
      have hh:((x::s).head? != some 48)=(x != 48):=by simp[bne]
      simp only[h0,h48,hh,Option.bind_some]
      by_cases hx:x=48
      ·subst hx
       cases s<;>simp
      ·have e1:((x::s)==[48])=false:=by simp[hx]
       have e2:(x != 48)=true:=by simp[hx]
       rw[e1,e2]
       simp
  | cons b r ih=>
   intro i n hd hn k m
   obtain⟨n,rfl⟩:∃ j,n=j+1:=⟨n - 1,by omega⟩
   obtain⟨hlt,hg,hd'⟩:=qal hd
   simp only[List.length_cons] at hn
   have hb:=qrsd b
   have h45:((b.toNat:Int) != 45)=!(b==45):=qgdd b 45 (by omega)
   simp only[qms,qcn,hg,qwkc,qsnd,h45,EV0]
   rw[decide_eq_true (by omega),cond_true,qae (by omega),ih (i+1) n hd' (by omega)]
   have hr:inR (b.toNat:Int) 65 90=(decide ((b.toNat:Int)≥65)&&decide ((b.toNat:Int)≤90)):=rfl
   simp only[List.all_cons,qsad,hr]
   cases qbb b<;>cases qds b<;>cases (decide ((b.toNat:Int)≥65))<;>cases (decide ((b.toNat:Int)≤90))<;>cases (b==45)<;>rfl
 refine qaw (H:=[]) (qxjb (s.length+1) ?_)
 have:=loop s 0 (s.length+1+1) rfl (by omega) (s.length+1+1) (s.length+1+1)
 simpa[fbr,qoh] using this
theorem c_fet (a b c:Int)(pre:List Str)(hp:bdL 1048576 (bdS 1048576) pre):out qhm [.agg [Cell.int a,Cell.int b,Cell.int c,encL 1 eStr pre]]=some [.one (Cell.bool (qgu a b c pre))]:=by
 have hM:=qag
 have hl:=hp.1
 have loop:∀ (r:List Str) (i n:Nat),pre.drop i=r→r.length < n→∀ k m,qhgb k m n i a b c (encL 1 eStr pre)=some ([.one (Cell.bool (r.all qoh&&(inR a 0 9999&&(inR b 0 9999&&(inR c 0 9999&&decide (pre.length≤3))))))],[]):=by
  intro r
  induction r with
  | nil=>
   intro i n hd hn k m
   obtain⟨n,rfl⟩:∃ j,n=j+1:=⟨n - 1,by omega⟩
   have:=drop_nil hd
   simp only[qhgb,EV0]
   rw[decide_eq_false (by omega),cond_false]
   have h3:decide ((pre.length:Int)≤3)=decide (pre.length≤3):=by rw[Bool.eq_iff_iff];simp;omega
   simp only[qeab,h3,EV0,List.all_nil]
   cases inR a 0 9999<;>cases inR b 0 9999<;>cases inR c 0 9999<;>rfl
  | cons x r ih=>
   intro i n hd hn k m
   obtain⟨n,rfl⟩:∃ j,n=j+1:=⟨n - 1,by omega⟩
   obtain⟨hlt,hg,hd'⟩:=qal hd
   simp only[List.length_cons] at hn
   have hx:x.length≤1073741824:=Nat.le_trans (hp.2 x (List.mem_of_getElem? hg)) (by omega)
   simp only[qhgb,EV0]
   rw[decide_eq_true (by omega),cond_true]
   simp only[qaj,hg,eStr,c_ffg x hx,qae (show i < maxLen by omega),ih (i+1) n hd' (by omega),EV0,List.all_cons]
   cases qoh x<;>rfl
 refine qaw (H:=[]) (qtsb (pre.length+1) ?_)
 exact loop pre 0 (pre.length+1+1) rfl (by omega) (pre.length+1+1) (pre.length+1+1)
theorem c_fas (a b c:Int)(pre:List Str)(hp:bdL 1048576 (bdS 1048576) pre):out qql [.agg [Cell.int a,Cell.int b,Cell.int c,encL 1 eStr pre]]=some [.one (Cell.bool (qgu a b c pre))]:=by
 have hM:=qag
 have hl:=hp.1
 have loop:∀ (r:List Str) (i n:Nat),pre.drop i=r→r.length < n→∀ k m,qhub k m n (encL 1 eStr pre) pre.length i a b c (encL 1 eStr pre)=some ([.one (Cell.bool (r.all qoh&&(inR a 0 9999&&(inR b 0 9999&&(inR c 0 9999&&decide (pre.length≤3))))))],[]):=by
  intro r
  induction r with
  | nil=>
   intro i n hd hn k m
   obtain⟨n,rfl⟩:∃ j,n=j+1:=⟨n - 1,by omega⟩
   have:=drop_nil hd
   simp only[qhub,EV0]
   rw[decide_eq_false (by omega),cond_false]
   have h3:decide ((pre.length:Int)≤3)=decide (pre.length≤3):=by rw[Bool.eq_iff_iff];simp;omega
   simp only[qteb,h3,EV0,List.all_nil]
   cases inR a 0 9999<;>cases inR b 0 9999<;>cases inR c 0 9999<;>rfl
  | cons x r ih=>
   intro i n hd hn k m
   obtain⟨n,rfl⟩:∃ j,n=j+1:=⟨n - 1,by omega⟩
   obtain⟨hlt,hg,hd'⟩:=qal hd
   simp only[List.length_cons] at hn
   have hx:x.length≤1073741824:=Nat.le_trans (hp.2 x (List.mem_of_getElem? hg)) (by omega)
   simp only[qhub,EV0]
   rw[decide_eq_true (by omega),cond_true]
   simp only[qaj,hg,eStr,c_fbr x hx,qae (show i < maxLen by omega),ih (i+1) n hd' (by omega),EV0,List.all_cons]
   cases qoh x<;>rfl
 refine qaw (H:=[]) (qaxc (pre.length+1) ?_)
 simp only[fas,EV0]
 exact loop pre 0 (pre.length+1+1) rfl (by omega) (pre.length+1+1) (pre.length+1+1)
theorem qjy (xs:List Str)(sep:Str)(h1:xs.length≤3)(h2:∀ x∈xs,x.length≤8)(h3:sep.length≤1):out qijb [.one (encL 1 eStr xs),.one (Cell.str (bs sep))]=some [.one (Cell.str (bs (Lib.join xs sep)))]:=by
 have hj:=qsqc h3 xs h2
 refine qaw (H:=[]) ?_
 show qon _ _=_
 have e:qmb (xs.map eStr)=some xs:=qjh xs
 simp only[encL,qon,e,qkf]
 rw[if_pos ⟨trivial,by omega,by omega⟩]
 rfl
theorem c_fat (a b c:Int)(pre:List Str)(hp:bdL 1048576 (bdS 1048576) pre):out qme [.agg [Cell.int a,Cell.int b,Cell.int c,encL 1 eStr pre]]=some [.one (Cell.str (bs (qgn a b c pre)))]:=by
 refine qaw (H:=[]) (qwzb 0 ?_)
 simp only[fat,c_fas a b c pre hp,EV0,qgn]
 cases ho:qgu a b c pre with
 | false=>rfl
 | true=>
  obtain⟨h1,h2,h3,h4,h5⟩:=qpk ho
  obtain⟨x,rfl⟩:∃ x:Nat,a=(x:Int):=⟨a.toNat,by omega⟩
  obtain⟨y,rfl⟩:∃ x:Nat,b=(x:Int):=⟨b.toNat,by omega⟩
  obtain⟨z,rfl⟩:∃ x:Nat,c=(x:Int):=⟨c.toNat,by omega⟩
  have n1:=qyob x (by omega)
  have n2:=qyob y (by omega)
  have n3:=qyob z (by omega)
  have j:=qsqc (sep:=[46]) (by simp) pre h5
  have k1:catS (bs (numT x)) (bs [46])=some (bs (numT x++[46])):=qfe (by simp;omega)
  have k2:catS (bs (numT x++[46])) (bs (numT y))=some (bs (numT x++[46]++numT y)):=qfe (by simp;omega)
  have k3:catS (bs (numT x++[46]++numT y)) (bs [46])=some (bs (numT x++[46]++numT y++[46])):=qfe (by simp;omega)
  have k4:catS (bs (numT x++[46]++numT y++[46])) (bs (numT z))=some (bs (numT x++[46]++numT y++[46]++numT z)):=qfe (by simp;omega)
  have k5:catS (bs (numT x++[46]++numT y++[46]++numT z)) (bs [45])=some (bs (numT x++[46]++numT y++[46]++numT z++[45])):=qfe (by simp;omega)
  have k6:catS (bs (numT x++[46]++numT y++[46]++numT z++[45])) (bs (Lib.join pre [46]))=some (bs (numT x++[46]++numT y++[46]++numT z++[45]++Lib.join pre [46])):=qfe (by simp;omega)
  have k7:catS (bs [45]) (bs (Lib.join pre [46]))=some (bs ([45]++Lib.join pre [46])):=qfe (by simp;omega)
  have k8:catS (bs (numT x++[46]++numT y++[46]++numT z)) (bs ([45]++Lib.join pre [46]))=some (bs (numT x++[46]++numT y++[46]++numT z++([45]++Lib.join pre [46]))):=qfe (by simp;omega)
  simp only[Bool.not_true,cond_false,qble x (by omega),qble y (by omega),qble z (by omega),k1,k2,k3,k4,EV0,if_true,Int.toNat_natCast]
  by_cases hz:pre.length=0
  ·rw[decide_eq_false (by omega),cond_false,if_pos hz]
   simp
  ·rw[decide_eq_true (by omega),cond_true,if_neg hz]
   simp only[qjy pre [46] h4 h5 (by simp),k5,k6,k7,k8,EV0]
   try simp
theorem qrab {c:UInt8}:∀ {s:Str},c∈s→s=ahead c s++c::behind c s
 | [],h=>by simp at h
 | x::s,h=>by
  by_cases e:x=c
  ·subst e
   simp[ahead,behind]
  ·have h':c∈s:=by
    rcases List.mem_cons.1 h with h | h
    ·exact absurd h.symm e
    ·exact h
   have:=qrab h'
   simp only[ahead,behind] at this ⊢
   have hx:(x != c)=true:=by simp[e]
   rw[List.takeWhile_cons,List.dropWhile_cons,hx]
   simpa using this
theorem qzt (c:UInt8):∀ (n:Nat) (s:Str),s.length≤n→Lib.join (split c s) [c]=s:=by
 intro n
 induction n with
 | zero=>
  intro s hs
  obtain rfl:s=[]:=List.eq_nil_of_length_eq_zero (by omega)
  rw[qea (by simp),Lib.join_one]
 | succ n ih=>
  intro s hs
  by_cases h:c∈s
  ·have hlt:(behind c s).length≤n:=by
    have:=congrArg List.length (qrab h)
    simp only[List.length_append,List.length_cons] at this
    omega
   have ihb:=ih (behind c s) hlt
   rw[qep h,Lib.join_cons]
   cases hsp:split c (behind c s) with
   | nil=>exact absurd hsp (qgf _ _)
   | cons y r=>
    rw[hsp,Lib.join_cons] at ihb
    conv=>rhs;rw[qrab h]
    rw[← ihb]
    simp[Lib.joinTail]
  ·rw[qea h,Lib.join_one]
def qmc (s:Str):List Str:=if 45∈s then split 46 (behind 45 s) else []
def qai (s:Str):MVer×Bool:=
 match split 46 (ahead 45 s) with
 | [x,y,z]=>match qas x 9999,qas y 9999,qas z 9999 with
  | some a,some b,some c=>if qgu a b c (qmc s) then (⟨a,b,c,qmc s⟩,true) else (⟨0,0,0,[]⟩,false)
  | _,_,_=>(⟨0,0,0,[]⟩,false)
 | _=>(⟨0,0,0,[]⟩,false)
theorem qahc {s x y z:Str}{a b c:Nat}(h:split 46 (ahead 45 s)=[x,y,z])(ha:qas x 9999=some a)(hb:qas y 9999=some b)(hc:qas z 9999=some c):(qgn a b c (qmc s)==s)=qgu a b c (qmc s):=by
 have hu:=qzt 46 _ (ahead 45 s) (Nat.le_refl _)
 rw[h] at hu
 have hu2:ahead 45 s=numT a++[46]++numT b++[46]++numT c:=by
  rw[← hu,Lib.join_cons,(qda ha).1,(qda hb).1,(qda hc).1]
  simp[Lib.joinTail]
 cases hok:qgu a b c (qmc s) with
 | false=>
  have ht:qgn a b c (qmc s)=[]:=by rw[qgn,hok];rfl
  rw[ht]
  cases s with
  | nil=>simp[ahead] at hu2
  | cons q s=>rfl
 | true=>
  have ht:qgn a b c (qmc s)=s:=by
   rw[qgn,hok]
   simp only[if_true,Int.toNat_natCast]
   rw[← hu2]
   by_cases hd:(45:UInt8)∈s
   ·have hp:qmc s=split 46 (behind 45 s):=if_pos hd
    have hne:(qmc s).length≠0:=by
     rw[hp]
     intro h0
     exact qgf _ _ (List.eq_nil_of_length_eq_zero h0)
    rw[if_neg hne,hp,qzt 46 _ _ (Nat.le_refl _)]
    exact(qrab hd).symm
   ·have hp:qmc s=[]:=if_neg hd
    rw[hp,if_pos (by simp),List.append_nil,qng hd]
  rw[ht]
  simp
theorem qbbc {s:Str}(hs:s.length≤1048576):bdL 1048576 (bdS 1048576) (qmc s):=by
 unfold qmc
 split
 ·rename_i hm
  have h:=qbu 46 (behind 45 s) []
  have hb:=qfa 45 s
  have hlt:(behind 45 s).length+1≤s.length:=by
   have:=congrArg List.length (qrab hm)
   simp only[List.length_append,List.length_cons] at this
   omega
  refine⟨by have:=h.1;unfold split;omega,fun x hx=>?_⟩
  have:=h.2 x hx
  simp only[List.length_nil,Nat.zero_add] at this
  exact Nat.le_trans this (by omega)
 ·exact⟨by simp,by simp⟩
theorem qzyd (s:Str)(hs:s.length≤1048576):outL qml [.one (Cell.str (bs s))]=some [.agg [Cell.int (qai s).1.A,Cell.int (qai s).1.B,Cell.int (qai s).1.C,qay (qai s).1.Pre],.one (Cell.bool (qai s).2)]:=by
  have hM := qag
  have hal := qhh 45 s
  have hbl := qfa 45 s
  have hget : ∀ i, i < (ahead 45 s).length → ∃ b : UInt8, s[i]? = some b ∧ b ≠ 45 := fun i hi => by
    have hna := qjbb (c := 45) s
    refine ⟨(ahead 45 s)[i], ?_, fun e => by have hm := List.getElem_mem hi; rw [e] at hm; exact hna hm⟩
    have h1 : (ahead 45 s)[i]? = some (ahead 45 s)[i] := List.getElem?_eq_getElem hi
    rw [← h1, ← qhp 45 s, List.getElem?_take, if_pos hi]
  have loop : ∀ (d i n : Nat), i + d = (ahead 45 s).length → ∀ k m, qmu k m (n + d) (bs s) i = qmu k m n (bs s) (ahead 45 s).length := by
    intro d
    induction d with
    | zero => intro i n hi k m; obtain rfl : i = (ahead 45 s).length := by omega
              rfl
    | succ d ih =>
      intro i n hi k m
      obtain ⟨b, hb, hne⟩ := hget i (by omega)
      have h45' : ((b.toNat : Int) != 45) = !(b == 45) := qgdd b 45 (by omega)
      have h45 : ((b.toNat : Int) != 45) = true := by rw [h45']; simp [hne]
      show qmu k m ((n + d) + 1) (bs s) i = _
      simp only [qmu, qcn, hb, qbj, Option.map_some, Option.bind_some, h45, cond_true]
      rw [decide_eq_true (by have := (List.getElem?_eq_some_iff.1 hb).1; omega), cond_true, qae (by omega)]
      exact ih (i + 1) n (by omega) k m
  have hsplit : ∀ t : Str, t.length ≤ 1073741824 → outL qco [.one (Cell.str (bs t)), .one (.sc (.int .u8 46))] = some [.one (qay (split 46 t))] := fun t ht => qmcd t 46 ht
  have hnum : ∀ x : Str, x.length ≤ 1073741824 → out qdj [.one (Cell.str (bs x)), .one (Cell.int 9999)] = some (numV (qas x 9999)) := fun x hx => c_fei x 9999 hx (by omega)
  have hlen : ∀ x ∈ split 46 (ahead 45 s), x.length ≤ 1073741824 := fun x hx => by
    have := (qbu 46 (ahead 45 s) []).2 x hx
    simp only [List.length_nil, Nat.zero_add] at this
    omega
  have hz : mapO (qao false []) [.agg [Cell.int 0, Cell.int 0, Cell.int 0, .lst true 1 []], .one (Cell.bool false)] = some [.agg [Cell.int 0, Cell.int 0, Cell.int 0, qay []], .one (Cell.bool false)] := rfl
  have h46 : subS (bs s) 0 ((ahead 45 s).length : Int) = some (bs (ahead 45 s)) := by
    have := qcw s 0 (ahead 45 s).length (Nat.zero_le _) hal
    rw [qhp, List.drop_zero] at this
    simpa using this
  by_cases hd : (45 : UInt8) ∈ s
  · have hlt := qvy hd
    have hc : s[(ahead 45 s).length]? = some 45 := by
      have h1 := qrab hd
      generalize ahead 45 s = u at h1 ⊢
      generalize behind 45 s = v at h1
      rw [h1]
      simp
    have hsub : subS (bs s) (((ahead 45 s).length + 1 : Nat) : Int) (s.length : Int) = some (bs (behind 45 s)) := by
      have := qcw s ((ahead 45 s).length + 1) s.length (by omega) (Nat.le_refl _)
      rw [List.take_of_length_le (Nat.le_refl _), qhx] at this
      exact this
    have hp : qmc s = split 46 (behind 45 s) := if_pos hd
    have hv := fun a b c => c_fet a b c (qmc s) (qbbc hs)
    rw [hp] at hv
    have core : ∀ k m n, ∃ xs, qmu k m (n + 1) (bs s) (ahead 45 s).length = some (xs, []) ∧ mapO (qao false []) xs = some [.agg [Cell.int (qai s).1.A, Cell.int (qai s).1.B, Cell.int (qai s).1.C, qay (qai s).1.Pre], .one (Cell.bool (qai s).2)] := by
      intro k m n
      simp only [qmu, qcn, hc, qbj, Option.map_some, Option.bind_some, show (((45 : UInt8).toNat : Int) != 45) = false from rfl, cond_false]
      rw [decide_eq_true (by omega), cond_true, qae (by omega)]
      simp only [hsub, hsplit _ (by omega : (behind 45 s).length ≤ 1073741824), h46, hsplit _ (by omega : (ahead 45 s).length ≤ 1073741824), EV0]
      unfold qai
      rw [hp]
      split
      · rename_i x y z hsp
        have lx := hlen x (by rw [hsp]; simp)
        have ly := hlen y (by rw [hsp]; simp)
        have lz := hlen z (by rw [hsp]; simp)
        have i0 : idxA 1 (encL 1 eStr [x, y, z]) 0 = some (.ref (eStr x) 0) := rfl
        have i1 : idxA 1 (encL 1 eStr [x, y, z]) 1 = some (.ref (eStr y) 0) := rfl
        have i2 : idxA 1 (encL 1 eStr [x, y, z]) 2 = some (.ref (eStr z) 0) := rfl
        simp only [hsp, List.length_cons, List.length_nil, i0, i1, i2, eStr, hnum x lx, hnum y ly, hnum z lz, EV0]
        rw [show (((0 + 1 + 1 + 1 : Nat) : Int) != 3) = false from rfl, cond_false]
        cases hx : qas x 9999 with
        | none => cases hy : qas y 9999 <;> cases hzz : qas z 9999 <;> exact ⟨_, rfl, hz⟩
        | some a => cases hy : qas y 9999 with
          | none => cases hzz : qas z 9999 <;> exact ⟨_, rfl, hz⟩
          | some b => cases hzz : qas z 9999 with
            | none => exact ⟨_, rfl, hz⟩
            | some c =>
              simp only [numV, hv, EV0, Bool.not_true]
              cases hok : qgu a b c (split 46 (behind 45 s)) with
              | false => exact ⟨_, rfl, hz⟩
              | true => exact ⟨_, rfl, qam [.agg [Cell.int a, Cell.int b, Cell.int c, qay (split 46 (behind 45 s))], .one (Cell.bool true)] _ _⟩
      · rename_i hno
        refine ⟨_, ?_, hz⟩
        rw [show (((split 46 (ahead 45 s)).length : Int) != 3) = true by
          rw [bne_iff_ne]
          intro h3
          have h3' : (split 46 (ahead 45 s)).length = 3 := by omega
          match h : split 46 (ahead 45 s), h3' with
          | [x, y, z], _ => exact hno x y z h, cond_true]
    obtain ⟨xs, z1, z2⟩ := core ((ahead 45 s).length + 1 + 1) ((ahead 45 s).length + 1 + 1) 1
    refine qbf (H := []) (qavb ((ahead 45 s).length + 1) ?_) z2
    have := loop (ahead 45 s).length 0 2 (by omega) ((ahead 45 s).length + 1 + 1) ((ahead 45 s).length + 1 + 1)
    rw [show 2 + (ahead 45 s).length = (ahead 45 s).length + 1 + 1 by omega] at this
    simp only [fel]
    rw [show (0 : Int) = ((0 : Nat) : Int) from rfl, this]
    exact z1
  · have hall := qng hd
    have hp : qmc s = [] := if_neg hd
    have hv := fun a b c => c_fet a b c [] ⟨by simp, by simp⟩
    have hv' : ∀ a b c, qar qhm [.agg [Cell.int a, Cell.int b, Cell.int c, .lst true 1 []]] [] = some [.one (Cell.bool (qgu a b c []))] := fun a b c => (qdn (show mapO (qao false []) [.agg [Cell.int a, Cell.int b, Cell.int c, .lst true 1 []]] = some [.agg [Cell.int a, Cell.int b, Cell.int c, qay []]] from rfl)).trans (hv a b c)
    have core : ∀ k m n, ∃ xs, qmu k m (n + 1) (bs s) (ahead 45 s).length = some (xs, []) ∧ mapO (qao false []) xs = some [.agg [Cell.int (qai s).1.A, Cell.int (qai s).1.B, Cell.int (qai s).1.C, qay (qai s).1.Pre], .one (Cell.bool (qai s).2)] := by
      intro k m n
      simp only [qmu, qbj]
      rw [decide_eq_false (by rw [hall]; omega), cond_false, cond_false]
      simp only [h46, hsplit _ (by omega : (ahead 45 s).length ≤ 1073741824), EV0]
      unfold qai
      rw [hp]
      split
      · rename_i x y z hsp
        have lx := hlen x (by rw [hsp]; simp)
        have ly := hlen y (by rw [hsp]; simp)
        have lz := hlen z (by rw [hsp]; simp)
        have i0 : idxA 1 (encL 1 eStr [x, y, z]) 0 = some (.ref (eStr x) 0) := rfl
        have i1 : idxA 1 (encL 1 eStr [x, y, z]) 1 = some (.ref (eStr y) 0) := rfl
        have i2 : idxA 1 (encL 1 eStr [x, y, z]) 2 = some (.ref (eStr z) 0) := rfl
        simp only [hsp, List.length_cons, List.length_nil, i0, i1, i2, eStr, hnum x lx, hnum y ly, hnum z lz, EV0]
        rw [show (((0 + 1 + 1 + 1 : Nat) : Int) != 3) = false from rfl, cond_false]
        cases hx : qas x 9999 with
        | none => cases hy : qas y 9999 <;> cases hzz : qas z 9999 <;> exact ⟨_, rfl, hz⟩
        | some a => cases hy : qas y 9999 with
          | none => cases hzz : qas z 9999 <;> exact ⟨_, rfl, hz⟩
          | some b => cases hzz : qas z 9999 with
            | none => exact ⟨_, rfl, hz⟩
            | some c =>
              simp only [numV, hv', EV0, Bool.not_true]
              cases hok : qgu a b c [] with
              | false => exact ⟨_, rfl, hz⟩
              | true => exact ⟨_, rfl, rfl⟩
      · rename_i hno
        refine ⟨_, ?_, hz⟩
        rw [show (((split 46 (ahead 45 s)).length : Int) != 3) = true by
          rw [bne_iff_ne]
          intro h3
          have h3' : (split 46 (ahead 45 s)).length = 3 := by omega
          match h : split 46 (ahead 45 s), h3' with
          | [x, y, z], _ => exact hno x y z h, cond_true]
    obtain ⟨xs, z1, z2⟩ := core ((ahead 45 s).length + 1 + 1) ((ahead 45 s).length + 1 + 1) 1
    refine qbf (H := []) (qavb ((ahead 45 s).length + 1) ?_) z2
    have := loop (ahead 45 s).length 0 2 (by omega) ((ahead 45 s).length + 1 + 1) ((ahead 45 s).length + 1 + 1)
    rw [show 2 + (ahead 45 s).length = (ahead 45 s).length + 1 + 1 by omega] at this
    simp only [fel]
    rw [show (0 : Int) = ((0 : Nat) : Int) from rfl, this]
    exact z1
theorem qysd (c:UInt8)(s:Str):cutV c s=[.one (Cell.str (bs (ahead c s))),.one (Cell.str (bs (behind c s))),.one (Cell.bool (decide (c∈s)))]:=by
 unfold cutV
 split
 ·rename_i h
  rw[decide_eq_true h]
 ·rename_i h
  rw[decide_eq_false h,qng h,qga h]
theorem qlr (H:List Entry):Sp (Rep H true true 2) [] [Cell.int 0,Cell.int 0,Cell.int 0,.lst true 1 []] (⟨0,0,0,[]⟩:MVer).tr:=by
 unfold MVer.tr
 exact Sp.cons (i:=[]) (qdq _) (Sp.cons (i:=[]) (qdq _) (Sp.cons (i:=[]) (qdq _) (Sp.cons (i:=[]) (.inl ⟨rfl,rfl,true,rfl⟩) .nil)))
def verH (A:List Entry)(row:List Cell):List Entry:=A++[Entry.mk 4 [row] 0 false]
theorem verH_0 (A:List Entry)(p q r t v:Cell):qca (verH A [p,q,r,t]) (.ptr A.length 4 0 0 0) [v]=some (verH A [v,q,r,t]):=by simp[verH,qca,entry?,splice,List.set_append]
theorem verH_1 (A:List Entry)(p q r t v:Cell):qca (verH A [p,q,r,t]) (.ptr A.length 4 0 1 0) [v]=some (verH A [p,v,r,t]):=by simp[verH,qca,entry?,splice,List.set_append]
theorem verH_2 (A:List Entry)(p q r t v:Cell):qca (verH A [p,q,r,t]) (.ptr A.length 4 0 2 0) [v]=some (verH A [p,q,v,t]):=by simp[verH,qca,entry?,splice,List.set_append]
theorem verH_3 (A E2:List Entry)(p q r t v:Cell):qca (verH A [p,q,r,t]++E2) (.ptr A.length 4 0 3 0) [v]=some (verH A [p,q,r,v]++E2):=by simp[verH,qca,entry?,splice,List.set_append]
theorem verH_d (A E2:List Entry)(row:List Cell):deref (verH A row++E2) (.ptr A.length 4 0 0 0)=some (row,0):=by simp[verH,deref,entry?]
theorem qwzd (A:List Entry)(row:List Cell):deref (verH A row) (.ptr A.length 4 0 0 0)=some (row,0):=by simp[verH,deref,entry?]
theorem qvub (H:List Entry)(a b c:Int):mapO (qao false H) [.agg [Cell.int a,Cell.int b,Cell.int c,.lst true 1 []]]=some [.agg [Cell.int a,Cell.int b,Cell.int c,qay []]]:=rfl
theorem f_fal (s:Str)(hs:s.length≤1048576):Fresh qio true 2 [.one (Cell.str (bs s))] [.agg (qai s).1.tr,.one (.leaf (.bool (qai s).2))]:=by
 have hM:=qag
 have hal:=qhh 45 s
 have hbl:=qfa 45 s
 have hcut:out qgt [.one (Cell.str (bs s)),.one (Cell.str (bs [45]))]=some [.one (Cell.str (bs (ahead 45 s))),.one (Cell.str (bs (behind 45 s))),.one (Cell.bool (decide ((45:UInt8)∈s)))]:=by
  rw[qdpe s 45 (by omega),qysd]
 obtain⟨c7,E,is,e1,r1,w1,_⟩:=qcz (qmfd (ahead 45 s) 46 (by omega)) ([]:List Entry) (qam [.one (Cell.str (bs (ahead 45 s))),.one (Cell.str (bs [46]))] _ _)
 generalize hA:([]:List Entry)++E=A at e1 r1
 have hl:=qfo.of (n:=2) r1
 have fz:∀ H,qio [.one (Cell.str (bs s))] []=some ([.agg [Cell.int 0,Cell.int 0,Cell.int 0,.lst true 1 []],.one (Cell.bool false)],H)→qai s=(⟨0,0,0,[]⟩,false)→Fresh qio true 2 [.one (Cell.str (bs s))] [.agg (qai s).1.tr,.one (.leaf (.bool (qai s).2))]:=fun H h1 h2=>by
  rw[h2]
  exact Fresh.agg1 (n:=1) h1 (qlr H) (by simp)
 by_cases h3:(split 46 (ahead 45 s)).length=3
 rotate_left
 ·refine fz A (qwx 0 ?_) ?_
  ·simp only[fal,hcut,e1,hl.len,EV0]
   rw[show(((split 46 (ahead 45 s)).length:Int) != 3)=true by rw[bne_iff_ne];omega,cond_true]
  ·unfold qai
   split
   ·rename_i x y z hsp
    rw[hsp] at h3
    simp at h3
   ·rfl
 ·obtain⟨x,y,z,hsp⟩:∃ x y z,split 46 (ahead 45 s)=[x,y,z]:=by
   match h:split 46 (ahead 45 s),h3 with
   | [x,y,z],_=>exact⟨x,y,z,rfl⟩
  rw[hsp] at hl
  have hlen:∀ x∈split 46 (ahead 45 s),x.length≤1073741824:=fun x hx=>by
   have:=(qbu 46 (ahead 45 s) []).2 x hx
   simp only[List.length_nil,Nat.zero_add] at this
   omega
  have lx:=hlen x (by rw[hsp];simp)
  have ly:=hlen y (by rw[hsp];simp)
  have lz:=hlen z (by rw[hsp];simp)
  have hnum:∀ x:Str,x.length≤1073741824→out qkl [.one (Cell.str (bs x)),.one (Cell.int 9999)]=some (numV (qas x 9999)):=fun x hx=>c_fai x 9999 hx (by omega)
  have s0:=verH_0 A
  have s1:=verH_1 A
  have s2:=verH_2 A
  have s3:=verH_3 A
  have dv:=verH_d A
  have dv0:=qwzd A
  have hf:∀ row,qfo (verH A row) is c7 [x,y,z]:=fun row=>hl.frame fun j hj=>List.getElem?_append_left (r1.lt j hj)
  have at0:∀ row,∃ a rw off,idxA 1 c7 0=some a∧deref (verH A row) a=some (rw,off)∧cS rw off=some (bs x):=fun row=>by simpa using (hf row).at (i:=0) (s:=x) rfl
  have at1:∀ row,∃ a rw off,idxA 1 c7 1=some a∧deref (verH A row) a=some (rw,off)∧cS rw off=some (bs y):=fun row=>by simpa using (hf row).at (i:=1) (s:=y) rfl
  have at2:∀ row,∃ a rw off,idxA 1 c7 2=some a∧deref (verH A row) a=some (rw,off)∧cS rw off=some (bs z):=fun row=>by simpa using (hf row).at (i:=2) (s:=z) rfl
  have k1:IntKind.i64.wrap ((0:Int)+1)=1:=wrap_small (by omega) (by omega)
  have k2:IntKind.i64.wrap ((1:Int)+1)=2:=wrap_small (by omega) (by omega)
  have k3:IntKind.i64.wrap ((2:Int)+1)=3:=wrap_small (by omega) (by omega)
  have fin:∀ (a b c:Nat),qas x 9999=some a→qas y 9999=some b→qas z 9999=some c→∀ n k m,∃ cs H ids,qou k m (n+1) (bs s) (bs (behind 45 s)) (decide ((45:UInt8)∈s)) c7 (.ptr A.length 4 0 0 0) (.ptr A.length 4 0 0 0) (.ptr A.length 4 0 1 0) (.ptr A.length 4 0 2 0) 3 (verH A [Cell.int a,Cell.int b,Cell.int c,.lst true 1 []])=
    some ([.agg cs,.one (Cell.bool (qai s).2)],H)∧Sp (Rep H true true 2) ids cs (qai s).1.tr∧ids.Nodup:=by
   intro a b c ha hb hc n k m
   have ht:=qahc hsp ha hb hc
   have pv:qai s=if qgu a b c (qmc s) then (⟨a,b,c,qmc s⟩,true) else (⟨0,0,0,[]⟩,false):=by
    unfold qai
    rw[hsp]
    simp only[ha,hb,hc]
   have hvt:=c_fat a b c (qmc s) (qbbc hs)
   rw[pv]
   rw[qou,show decide ((3:Int) < 3)=false from rfl,cond_false]
   by_cases hd:(45:UInt8)∈s
   ·have hp:qmc s=split 46 (behind 45 s):=if_pos hd
    obtain⟨c29,E2,is2,e2,r2,w2,_⟩:=qcz (qmfd (behind 45 s) 46 (by omega)) (verH A [Cell.int a,Cell.int b,Cell.int c,.lst true 1 []]) (qam [.one (Cell.str (bs (behind 45 s))),.one (Cell.str (bs [46]))] _ _)
    rw[← hp] at r2
    have r3:Rep (verH A [Cell.int a,Cell.int b,Cell.int c,c29]++E2) true true 2 is2 c29 (trL 1 qcx (qmc s)):=r2.frame fun j hj=>by
     have h5:=w2.lo j hj
     rw[List.getElem?_append_right (by simp[verH] at h5 ⊢;omega),List.getElem?_append_right h5]
     simp[verH]
    have hsp3:Sp (Rep (verH A [Cell.int a,Cell.int b,Cell.int c,c29]++E2) true true 2) (is2++[]) [Cell.int a,Cell.int b,Cell.int c,c29] (⟨a,b,c,qmc s⟩:MVer).tr:=by
     unfold MVer.tr
     exact Sp.cons (i:=[]) (qdq _) (Sp.cons (i:=[]) (qdq _) (Sp.cons (i:=[]) (qdq _) (Sp.cons r3 .nil)))
    have q1:qar qme [.agg [Cell.int a,Cell.int b,Cell.int c,c29]] (verH A [Cell.int a,Cell.int b,Cell.int c,c29]++E2)=some [.one (Cell.str (bs (qgn a b c (qmc s))))]:=by
     have:=qbt (qeq hsp3 (by omega)) (qbh (qao false (verH A [Cell.int a,Cell.int b,Cell.int c,c29]++E2)))
     simp only[MVer.tr,List.map_cons,List.map_nil,qbg,qbm] at this
     rw[qdn this]
     exact hvt
    rw[decide_eq_true hd,cond_true]
    simp only[e2,qjj,Nat.zero_add,s3,dv,q1,ht,EV0]
    cases hok:qgu a b c (qmc s) with
    | false=>exact⟨_,_,[],rfl,qlr _,by simp⟩
    | true=>exact⟨_,_,is2++[],rfl,hsp3,by simpa using w2.nd⟩
   ·have hp:qmc s=[]:=if_neg hd
    rw[decide_eq_false hd,cond_false]
    have q1:qar qme [.agg [Cell.int a,Cell.int b,Cell.int c,.lst true 1 []]] (verH A [Cell.int a,Cell.int b,Cell.int c,.lst true 1 []])=some [.one (Cell.str (bs (qgn a b c (qmc s))))]:=by
     rw[hp] at hvt ⊢
     exact(qdn (qvub _ _ _ _)).trans hvt
    simp only[dv0,q1,ht,EV0]
    cases hok:qgu a b c (qmc s) with
    | false=>exact⟨_,_,[],rfl,qlr _,by simp⟩
    | true=>
     refine⟨_,_,[],rfl,?_,by simp⟩
     rw[hp]
     unfold MVer.tr
     exact Sp.cons (i:=[]) (qdq _) (Sp.cons (i:=[]) (qdq _) (Sp.cons (i:=[]) (qdq _) (Sp.cons (i:=[]) (.inl ⟨rfl,rfl,true,rfl⟩) .nil)))
  have go:∀ n k m,n=4→∃ cs H ids,qou k m n (bs s) (bs (behind 45 s)) (decide ((45:UInt8)∈s)) c7 (.ptr A.length 4 0 0 0) (.ptr A.length 4 0 0 0) (.ptr A.length 4 0 1 0) (.ptr A.length 4 0 2 0) 0 (verH A [Cell.int 0,Cell.int 0,Cell.int 0,.lst true 1 []])=
    some ([.agg cs,.one (Cell.bool (qai s).2)],H)∧Sp (Rep H true true 2) ids cs (qai s).1.tr∧ids.Nodup:=by
   intro n k m hn
   obtain⟨n,rfl⟩:∃ q,n=q+1+1+1+1:=⟨0,hn⟩
   have bad:qas x 9999=none∨qas y 9999=none∨qas z 9999=none→qai s=(⟨0,0,0,[]⟩,false):=fun h=>by
    unfold qai
    rw[hsp]
    rcases h with h | h | h
    ·simp only[h]
    ·simp only[h]
     cases qas x 9999<;>rfl
    ·simp only[h]
     cases qas x 9999<;>cases qas y 9999<;>rfl
   obtain⟨a0,w0,o0,i0,j0,l0⟩:=at0 [Cell.int 0,Cell.int 0,Cell.int 0,.lst true 1 []]
   rw[qou,show decide ((0:Int) < 3)=true from rfl,cond_true,if_pos ⟨by omega,by omega⟩]
   simp only[show(0:Int).toNat*1=0 from rfl,i0,j0,l0,hnum x lx,EV0]
   cases hx:qas x 9999 with
   | none=>
    rw[bad (.inl hx)]
    exact⟨_,_,[],rfl,qlr _,by simp⟩
   | some a=>
    simp only[numV,EV0,Bool.not_true,ptrC,s0,k1]
    obtain⟨a1,w1,o1,i1,j1,l1⟩:=at1 [Cell.int a,Cell.int 0,Cell.int 0,.lst true 1 []]
    rw[qou,show decide ((1:Int) < 3)=true from rfl,cond_true,if_pos ⟨by omega,by omega⟩]
    simp only[show(1:Int).toNat*1=1 from rfl,i1,j1,l1,hnum y ly,EV0]
    cases hy:qas y 9999 with
    | none=>
     rw[bad (.inr (.inl hy))]
     exact⟨_,_,[],rfl,qlr _,by simp⟩
    | some b=>
     simp only[numV,EV0,Bool.not_true,ptrC,s1,k2]
     obtain⟨a2,w2,o2,i2,j2,l2⟩:=at2 [Cell.int a,Cell.int b,Cell.int 0,.lst true 1 []]
     rw[qou,show decide ((2:Int) < 3)=true from rfl,cond_true,if_pos ⟨by omega,by omega⟩]
     simp only[show(2:Int).toNat*1=2 from rfl,i2,j2,l2,hnum z lz,EV0]
     cases hzz:qas z 9999 with
     | none=>
      rw[bad (.inr (.inr hzz))]
      exact⟨_,_,[],rfl,qlr _,by simp⟩
     | some c=>
      simp only[numV,EV0,Bool.not_true,ptrC,s2,k3]
      exact fin a b c hx hy hzz n k m
  obtain⟨cs,H,ids,z1,z2,z3⟩:=go (3+1) (3+1) (3+1) rfl
  have hrun:∀ q,fal q q (bs s)=qou q q q (bs s) (bs (behind 45 s)) (decide ((45:UInt8)∈s)) c7 (.ptr A.length 4 0 0 0) (.ptr A.length 4 0 0 0) (.ptr A.length 4 0 1 0) (.ptr A.length 4 0 2 0) 0 (verH A [Cell.int 0,Cell.int 0,Cell.int 0,.lst true 1 []]):=by
   intro q
   simp only[fal,hcut,e1,hl.len,EV0]
   rw[show(((0+1+1+1:Nat):Int) != 3)=false from rfl,cond_false]
   rfl
  have z0:=(hrun (3+1)).trans z1
  exact Fresh.agg1 (n:=1) (qwx 3 z0) z2 z3
end Go.Ev
