/- What the functions come to. Conditions: none. -/
import Derived.Test.YteenbnljpddleaaGreatDoorEvCon
set_option linter.unusedSimpArgs false
set_option linter.unusedVariables false
namespace Go.Ev
open Go
def inR (x a b:Int):Bool:=decide (a≤x)&&decide (x≤b)
def qhi (b:UInt8):Bool:=inR b.toNat 97 122
def qbb (b:UInt8):Bool:=inR b.toNat 48 57
def qxp (first:Bool):Str→Bool | []=>true | b::r=>(qhi b||(!first&&(qbb b||b==45)))&&qxp false r
def qcw (s:Str):Bool:=qxp true s&&inR s.length 1 10
theorem qewc (b:UInt8)(n:Nat)(h:n < 256):((b.toNat:Int)==(n:Int))=(b==UInt8.ofNat n):=by
 rw[Bool.eq_iff_iff]
 simp only[beq_iff_eq]
 constructor
 ·intro e
  apply UInt8.toNat_inj.1
  have:(UInt8.ofNat n).toNat=n:=by simp;omega
  omega
 ·intro e
  have:(UInt8.ofNat n).toNat=n:=by simp;omega
  rw[e,this]
theorem qspb (b:UInt8)(n:Nat)(h:n < 256):((b.toNat:Int) != (n:Int))=(b != UInt8.ofNat n):=by
 simp only[bne,qewc b n h]
theorem qtjc (b:UInt8):(b.toNat:Int) < 256:=by have:=b.toNat_lt;omega
theorem qayb (x a b:Int):out qaj [.one (Cell.int x),.one (Cell.int a),.one (Cell.int b)]=some [.one (Cell.bool (inR x a b))]:=by
 refine qaw (H:=[]) (qmtb 0 ?_)
 simp only[fdi,inR]
 by_cases h:a≤x
 ·rw[decide_eq_true (by omega:x≥a),cond_true,Bool.true_and]
 ·rw[decide_eq_false (by omega:¬ x≥a),cond_false,Bool.false_and]
theorem qkpc (x a b:Int):out qdb [.one (Cell.int x),.one (Cell.int a),.one (Cell.int b)]=some [.one (Cell.bool (inR x a b))]:=by
 refine qaw (H:=[]) (qsab 0 ?_)
 simp only[fau,inR]
 by_cases h:a≤x
 ·rw[decide_eq_true (by omega:x≥a),cond_true,Bool.true_and]
 ·rw[decide_eq_false (by omega:¬ x≥a),cond_false,Bool.false_and]
theorem c_fdj (b:UInt8):out qpo [.one (.sc (.int .u8 (b.toNat:Int)))]=some [.one (Cell.bool (qhi b))]:=by
 have:=qtjc b
 refine qaw (H:=[]) (qprb 0 ?_)
 simp only[fdj,wrap_small (n:=(b.toNat:Int)) (by omega) (by omega),qayb,EV0,qhi]
theorem qfud (b:UInt8):out qfy [.one (.sc (.int .u8 (b.toNat:Int)))]=some [.one (Cell.bool (qbb b))]:=by
 have:=qtjc b
 refine qaw (H:=[]) (qlxb 0 ?_)
 simp only[fdh,wrap_small (n:=(b.toNat:Int)) (by omega) (by omega),qayb,EV0,qbb]
theorem c_fba (b:UInt8):out qpn [.one (.sc (.int .u8 (b.toNat:Int)))]=some [.one (Cell.bool (qhi b))]:=by
 refine qaw (H:=[]) (qmyb 0 ?_)
 simp only[fba,qhi,inR]
 by_cases h:(97:Int)≤b.toNat
 ·rw[decide_eq_true (by omega:(b.toNat:Int)≥97),cond_true,Bool.true_and]
 ·rw[decide_eq_false (by omega:¬ (b.toNat:Int)≥97),cond_false,Bool.false_and]
theorem qfyd (b:UInt8):out qfp [.one (.sc (.int .u8 (b.toNat:Int)))]=some [.one (Cell.bool (qbb b))]:=by
 refine qaw (H:=[]) (qpab 0 ?_)
 simp only[faw,qbb,inR]
 by_cases h:(48:Int)≤b.toNat
 ·rw[decide_eq_true (by omega:(b.toNat:Int)≥48),cond_true,Bool.true_and]
 ·rw[decide_eq_false (by omega:¬ (b.toNat:Int)≥48),cond_false,Bool.false_and]
theorem qgad (s:Str)(hs:s.length≤1073741824):out qfx [.one (Cell.str (bs s))]=some [.one (Cell.bool (qcw s))]:=by
 have hM:=qai
 have loop:∀ (r:Str) (i n:Nat),s.drop i=r→r.length < n→∀ k m,qst k m n (bs s) i=some ([.one (Cell.bool (qxp (i==0) r&&inR s.length 1 10))],[]):=by
  intro r
  induction r with
  | nil=>
   intro i n hd hn k m
   obtain⟨n,rfl⟩:∃ j,n=j+1:=⟨n - 1,by omega⟩
   have:=drop_nil hd
   simp only[qst,qbi]
   rw[decide_eq_false (by omega),cond_false]
   simp only[qayb,EV0,qxp]
  | cons b r ih=>
   intro i n hd hn k m
   obtain⟨n,rfl⟩:∃ j,n=j+1:=⟨n - 1,by omega⟩
   obtain⟨hlt,hg,hd'⟩:=qao hd
   simp only[List.length_cons] at hn
   have hz:((i:Int)==0)=(i==0):=by rw[Bool.eq_iff_iff];simp
   simp only[qst,qcf,hg,c_fdj,qfud,EV0]
   rw[decide_eq_true (by omega),cond_true,qaf (by omega),ih (i+1) n hd' (by omega)]
   have h45:((b.toNat:Int) != 45)=!(b==45):=qspb b 45 (by omega)
   simp only[qxp,hz,show((i+1:Nat)==0)=false from rfl,h45]
   cases qhi b<;>cases qbb b<;>cases (b==45)<;>cases (i==0)<;>rfl
 refine qaw (H:=[]) (qmub (s.length+1) ?_)
 have:=loop s 0 (s.length+1+1) rfl (by omega) (s.length+1+1) (s.length+1+1)
 simpa[fcx,qcw] using this
theorem qfwd (s:Str)(hs:s.length≤1073741824):out qga [.one (Cell.str (bs s))]=some [.one (Cell.bool (qcw s))]:=by
 have hM:=qai
 have loop:∀ (r:Str) (i n:Nat),s.drop i=r→r.length < n→∀ k m,qth k m n (bs s) i=some ([.one (Cell.bool (qxp (i==0) r&&inR s.length 1 10))],[]):=by
  intro r
  induction r with
  | nil=>
   intro i n hd hn k m
   obtain⟨n,rfl⟩:∃ j,n=j+1:=⟨n - 1,by omega⟩
   have:=drop_nil hd
   simp only[qth,qbi]
   rw[decide_eq_false (by omega),cond_false]
   simp only[qkpc,EV0,qxp]
  | cons b r ih=>
   intro i n hd hn k m
   obtain⟨n,rfl⟩:∃ j,n=j+1:=⟨n - 1,by omega⟩
   obtain⟨hlt,hg,hd'⟩:=qao hd
   simp only[List.length_cons] at hn
   have hz:((i:Int)==0)=(i==0):=by rw[Bool.eq_iff_iff];simp
   simp only[qth,qcf,hg,c_fba,qfyd,EV0]
   rw[decide_eq_true (by omega),cond_true,qaf (by omega),ih (i+1) n hd' (by omega)]
   have h45:((b.toNat:Int) != 45)=!(b==45):=qspb b 45 (by omega)
   simp only[qxp,hz,show((i+1:Nat)==0)=false from rfl,h45]
   cases qhi b<;>cases qbb b<;>cases (b==45)<;>cases (i==0)<;>rfl
 refine qaw (H:=[]) (qlib (s.length+1) ?_)
 have:=loop s 0 (s.length+1+1) rfl (by omega) (s.length+1+1) (s.length+1+1)
 simpa[faa,qcw] using this
def qco (c:UInt8)(cur:Str):Str→List Str | []=>[cur] | b::r=>if b=c then cur::qco c [] r else qco c (cur++[b]) r
def split (c:UInt8)(s:Str):List Str:=qco c [] s
def ahead (c:UInt8)(s:Str):Str:=s.takeWhile (· != c)
def behind (c:UInt8)(s:Str):Str:=(s.dropWhile (· != c)).drop 1
theorem qbv (c:UInt8):∀ (s cur:Str),(qco c cur s).length≤s.length+1∧∀ x∈qco c cur s,x.length≤cur.length+s.length:=by
 intro s
 induction s with
 | nil=>intro cur;simp[qco]
 | cons b r ih=>
  intro cur
  simp only[qco]
  split
  ·obtain⟨h1,h2⟩:=ih []
   refine⟨by simp;omega,fun x hx=>?_⟩
   rcases List.mem_cons.1 hx with rfl | hx
   ·simp
   ·have:=h2 x hx;simp at this;simp;omega
  ·obtain⟨h1,h2⟩:=ih (cur++[b])
   refine⟨by simp;omega,fun x hx=>?_⟩
   have:=h2 x hx;simp at this;simp;omega
theorem qhxb {c:UInt8}:∀ {s:Str} (cur:Str),c∉s→qco c cur s=[cur++s]:=by
 intro s
 induction s with
 | nil=>intro cur _;simp[qco]
 | cons b r ih=>
  intro cur h
  simp only[List.mem_cons,not_or] at h
  simp only[qco]
  rw[if_neg fun e=>h.1 e.symm,ih _ h.2]
  simp
theorem qkbb {c:UInt8}:∀ {s:Str} (cur:Str),c∈s→qco c cur s=(cur++ahead c s)::qco c [] (behind c s):=by
 intro s
 induction s with
 | nil=>intro cur h;simp at h
 | cons b r ih=>
  intro cur h
  simp only[qco]
  by_cases e:b=c
  ·subst e
   simp[ahead,behind]
  ·rw[if_neg e,ih _ (by simpa[Ne.symm e] using h)]
   simp[ahead,behind,e]
theorem qkx {c:UInt8}{s:Str}(h:c∉s):split c s=[s]:=qhxb [] h
theorem qsb {c:UInt8}{s:Str}(h:c∈s):split c s=ahead c s::split c (behind c s):=qkbb [] h
theorem qlh {c:UInt8}:∀ (s cur:Str),qco c cur s≠[]:=by
 intro s
 induction s with
 | nil=>intro cur;simp[qco]
 | cons b r ih=>intro cur;simp only[qco];split<;>simp[ih]
theorem qzg (c:UInt8)(s:Str):(ahead c s).length≤s.length:=by
 have:=(List.takeWhile_prefix (fun x=>x != c) (l:=s)).length_le
 exact this
theorem qlb (c:UInt8)(s:Str):(behind c s).length≤s.length:=by
 have:=(List.dropWhile_suffix (fun x=>x != c) (l:=s)).length_le
 simp only[behind,List.length_drop]
 omega
theorem qccb {c:UInt8}(s:Str):c∉ahead c s:=by
 induction s with
 | nil=>simp[ahead]
 | cons b r ih=>
  unfold ahead
  rw[List.takeWhile_cons]
  split
  ·rename_i h
   intro hm
   rcases List.mem_cons.1 hm with e | e
   ·rw[← e] at h;simp at h
   ·exact ih e
  ·simp
theorem c_fde (s:Str)(c:UInt8)(hs:s.length≤1073741824):outL qdm [.one (Cell.str (bs s)),.one (.sc (.int .u8 (c.toNat:Int)))]=some [.one (qbu (split c s))]:=by
 have hM:=qai
 have loop:∀ (r:Str) (i from' n:Nat) (cur:Str) (cl:Cell) (H:List Entry) (done:List Str),s.drop i=r→from'≤i→i≤s.length→(s.take i).drop from'=cur→r.length+1 < n→Grow 1 cl H (done.map eStr)→done.length≤i→
   ∀ k m,∃ cl' H',qsj k m n (bs s) (c.toNat:Int) cl from' i H=some ([.one cl'],H')∧Grow 1 cl' H' ((done++qco c cur r).map eStr):=by
  intro r
  induction r with
  | nil=>
   intro i from' n cur cl H done hd hf hi hc hn hg hdl k m
   obtain⟨n,rfl⟩:∃ j,n=j+2:=⟨n - 2,by omega⟩
   have hlen:=drop_nil hd
   have e:i=s.length:=by omega
   subst e
   obtain⟨p,hp,hgp⟩:=hg.app (by':=16) [eStr cur] (by simp[bound];omega) (by simp[bound];omega)
   refine⟨p.1,p.2,?_,by simpa[qco] using hgp⟩
   simp only[qsj,qbi]
   rw[decide_eq_true (by omega),cond_true,show(((s.length:Nat):Int)==(s.length:Int))=true by simp,cond_true,qcq _ _ _ hf (Nat.le_refl _),hc]
   simp only[Option.bind_some]
   rw[show [[Cell.str (bs cur)]]=[eStr cur] from rfl,hp]
   simp only[Option.bind_some]
   rw[qaf (by omega),decide_eq_false (by omega),cond_false]
  | cons b r ih=>
   intro i from' n cur cl H done hd hf hi hc hn hg hdl k m
   obtain⟨n,rfl⟩:∃ j,n=j+1:=⟨n - 1,by omega⟩
   obtain⟨hlt,hgx,hd'⟩:=qao hd
   simp only[List.length_cons] at hn
   simp only[qsj,qbi,qcf,hgx,Option.map_some,Option.bind_some]
   rw[decide_eq_true (by omega),cond_true,show(((i:Nat):Int)==(s.length:Int))=false by simp;omega,cond_false,qaf (by omega)]
   have hbc:((b.toNat:Int)==(c.toNat:Int))=decide (b=c):=by
    rw[Bool.eq_iff_iff]
    simp only[beq_iff_eq,decide_eq_true_eq]
    exact⟨fun h=>UInt8.toNat_inj.1 (by omega),fun h=>by rw[h]⟩
   rw[hbc]
   by_cases e:b=c
   ·rw[decide_eq_true e,cond_true,qcq _ _ _ hf (by omega),hc]
    simp only[Option.bind_some]
    obtain⟨p,hp,hgp⟩:=hg.app (by':=16) [eStr cur] (by simp[bound];omega) (by simp[bound];omega)
    rw[show [[Cell.str (bs cur)]]=[eStr cur] from rfl,hp]
    simp only[Option.bind_some]
    obtain⟨cl',H',h1,h2⟩:=ih (i+1) (i+1) n [] p.1 p.2 (done++[cur]) hd' (Nat.le_refl _) (by omega) (by simp) (by omega) (by simpa using hgp) (by simp;omega) k m
    refine⟨cl',H',h1,?_⟩
    simpa[qco,e] using h2
   ·rw[decide_eq_false e,cond_false]
    obtain⟨cl',H',h1,h2⟩:=ih (i+1) from' n (cur++[b]) cl H done hd' (by omega) (by omega) (by
     rw[← hc,List.take_add_one,hgx]
     simp only[Option.toList_some]
     rw[List.drop_append_of_le_length (by simp;omega)]) (by omega) hg (by omega) k m
    refine⟨cl',H',h1,?_⟩
    simpa[qco,e] using h2
 obtain⟨cl',H',h1,h2⟩:=loop s 0 0 (s.length+1+1) [] (.lst true 1 []) [] [] rfl (by omega) (by omega) rfl (by omega) (.nil 1) (by simp) (s.length+1+1) (s.length+1+1)
 refine qbn (qoyb (s.length+1) (by simpa[fde] using h1)) ?_
 exact h2.read
theorem qss {c:UInt8}{s:Str}(h:c∉s):ahead c s=s:=by
 induction s with
 | nil=>rfl
 | cons b r ih=>
  simp only[List.mem_cons,not_or] at h
  have:ahead c (b::r)=b::ahead c r:=by simp[ahead,Ne.symm h.1]
  rw[this,ih h.2]
theorem qiab {c:UInt8}{s:Str}(h:c∉s):behind c s=[]:=by
 induction s with
 | nil=>rfl
 | cons b r ih=>
  simp only[List.mem_cons,not_or] at h
  have:behind c (b::r)=behind c r:=by simp[behind,Ne.symm h.1]
  rw[this,ih h.2]
def qbcd (p s:Str):Str:=if p.isPrefixOf s then s.drop p.length else s
theorem qfzb (b:UInt8)(r:Str):bytS (bs (b::r)) 0=some (b.toNat:Int):=by
 have:=qcf (b::r) 0
 simpa using this
theorem qpi (c:UInt8)(s:Str):Lib.indexByte s c=if c∈s then ((ahead c s).length:Int) else -1:=by
 induction s with
 | nil=>rfl
 | cons b r ih=>
  simp only[Lib.indexByte]
  by_cases e:b=c
  ·subst e
   simp[ahead]
  ·have e1:(b==c)=false:=by simpa using e
   simp only[e1,Bool.false_eq_true,if_false]
   have e2:ahead c (b::r)=b::ahead c r:=by simp[ahead,e]
   by_cases h:c∈r
   ·rw[if_pos h] at ih
    rw[ih,if_neg (by simp<;>omega),if_pos (List.mem_cons_of_mem _ h),e2]
    simp
   ·rw[if_neg h] at ih
    rw[ih,if_pos (by simp),if_neg]
    intro hm
    rcases List.mem_cons.1 hm with q | q
    ·exact e q.symm
    ·exact h q
theorem qgg (c:UInt8)(s:Str):s.take (ahead c s).length=ahead c s:=
 (List.prefix_iff_eq_take.1 (List.takeWhile_prefix _)).symm
theorem qsx {c:UInt8}{s:Str}(h:c∈s):(ahead c s).length < s.length:=by
 have h1:=qzg c s
 rcases Nat.lt_or_ge (ahead c s).length s.length with h2 | h2
 ·exact h2
 ·have h3:=qgg c s
  rw[List.take_of_length_le h2] at h3
  rw[h3] at h
  exact absurd h (qccb s)
theorem qgt (c:UInt8)(s:Str):s.drop ((ahead c s).length+1)=behind c s:=by
 have h:s=ahead c s++s.dropWhile (· != c):=(List.takeWhile_append_dropWhile).symm
 have h2:s.drop (ahead c s).length=s.dropWhile (· != c):=by
  rw[congrArg (List.drop (ahead c s).length) h,List.drop_left]
 rw[← List.drop_drop,h2]
 rfl
theorem c_fbu (s:Str)(c:UInt8):out qrh [.one (Cell.str (bs s)),.one (.sc (.int .u8 (c.toNat:Int)))]=some [.one (Cell.int (Lib.indexByte s c))]:=by
 simp[out,qrh]
theorem c_fbt (s:Str)(c:UInt8):out qxi [.one (Cell.str (bs s)),.one (Cell.str (bs [c]))]=some [.one (Cell.int (Lib.indexByte s c))]:=by
 refine qaw (H:=[]) (qmkb 0 ?_)
 simp only[fbt,qfzb,c_fbu,EV0]
 rw[show(((0+1:Nat):Int)==0)=false from rfl,show(((0+1:Nat):Int)==1)=true from rfl,cond_false,cond_true]
 by_cases h:[c]=s
 ·rw[← h]
  simp[Lib.indexByte]
 ·rw[show([c]==s)=false by simpa using h,cond_false]
def cutV (c:UInt8)(s:Str):List AV:=if c∈s then [.one (Cell.str (bs (ahead c s))),.one (Cell.str (bs (behind c s))),.one (Cell.bool true)] else [.one (Cell.str (bs s)),.one (Cell.str (bs [])),.one (Cell.bool false)]
theorem c_fbq (s:Str)(c:UInt8)(hs:s.length≤1073741824):out qvz [.one (Cell.str (bs s)),.one (Cell.str (bs [c]))]=some (cutV c s):=by
 refine qaw (H:=[]) (qmvb 0 ?_)
 simp only[fbq,c_fbt,EV0]
 rw[qpi]
 unfold cutV
 by_cases h:c∈s
 ·have h1:=qsx h
  rw[if_pos h,if_pos h,decide_eq_true (by omega),cond_true]
  have e1:=qcq s 0 (ahead c s).length (by omega) (by omega)
  simp only[Int.natCast_zero,List.drop_zero,qgg] at e1
  rw[e1]
  simp only[Option.bind_some]
  rw[show(((ahead c s).length:Int)+((0+1:Nat):Int))=(((ahead c s).length+1:Nat):Int) by omega,wrap_small (by omega) (by omega),qcq s _ _ (by omega) (Nat.le_refl _),List.take_length,qgt]
  rfl
 ·rw[if_neg h,if_neg h,decide_eq_false (by omega),cond_false]
theorem c_fek (s:Str)(c:UInt8)(hs:s.length≤1073741824):out qrj [.one (Cell.str (bs s)),.one (Cell.str (bs [c]))]=some (cutV c s):=by
 refine qaw (H:=[]) (qpeb 0 ?_)
 simp only[fek,c_fbq s c hs,EV0]
 unfold cutV
 by_cases h:c∈s
 ·simp only[if_pos h,EV0]
 ·simp only[if_neg h,EV0]
theorem c_fbs (s p:Str):out qvf [.one (Cell.str (bs s)),.one (Cell.str (bs p))]=some [.one (Cell.bool (p.isPrefixOf s))]:=by
 refine qaw (H:=[]) (qlyb 0 ?_)
 simp only[fbs,EV0]
 by_cases h:p.length≤s.length
 ·have e1:=qcq s 0 p.length (by omega) h
  simp only[Int.natCast_zero,List.drop_zero] at e1
  rw[decide_eq_true (by omega),cond_true,e1]
  simp only[EV0]
  congr 5
  rw[Bool.eq_iff_iff,List.isPrefixOf_iff_prefix,List.prefix_iff_eq_take,beq_iff_eq]
  exact eq_comm
 ·rw[decide_eq_false (by omega),cond_false]
  congr 5
  symm
  rw[← Bool.not_eq_true,List.isPrefixOf_iff_prefix]
  exact fun hp=>h hp.length_le
def lt (a b:Str):Bool:=Op.bytesLess a b
theorem qdtc:∀ (a b:Str),(lt a b||a==b)=!lt b a:=by
 unfold lt
 intro a
 induction a with
 | nil=>intro b;cases b<;>rfl
 | cons x a ih=>
  intro b
  cases b with
  | nil=>rfl
  | cons y b=>
   have h:=ih b
   simp only[Op.bytesLess]
   have e:((x::a)==(y::b))=(x==y&&a==b):=rfl
   rw[e]
   rcases Nat.lt_trichotomy x.toNat y.toNat with h1 | h1 | h1
   ·have e1:decide (x < y)=true:=by simpa[UInt8.lt_iff_toNat_lt] using h1
    have e2:decide (y < x)=false:=by simp[UInt8.lt_iff_toNat_lt];omega
    have e3:(y==x)=false:=by simp;intro e;rw[e] at h1;omega
    simp[e1,e2,e3]
   ·have e0:=UInt8.toNat_inj.1 h1
    subst e0
    have e1:decide (x < x)=false:=by simp
    simp only[e1,Bool.false_or,beq_self_eq_true,Bool.true_and,h]
   ·have e1:decide (y < x)=true:=by simpa[UInt8.lt_iff_toNat_lt] using h1
    have e2:decide (x < y)=false:=by simp[UInt8.lt_iff_toNat_lt];omega
    have e3:(x==y)=false:=by simp;intro e;rw[e] at h1;omega
    simp[e1,e2,e3]
theorem qmhc (a b:Str):Op.bytesLess a b=lt a b:=rfl
def asc:List Str→Bool | []=>true | [_]=>true | a::b::r=>lt a b&&asc (b::r)
theorem qdi {i:Nat}(h:i < Go.maxLen):IntKind.i64.wrap (((i+1:Nat):Int) - 1)=(i:Int):=by
 have:=qai
 rw[wrap_small (by omega) (by omega)]
 omega
theorem c_feb (xs:List Str)(hx:xs.length≤1073741824):out qvm [.one (qbu xs)]=some [.one (Cell.bool (asc xs))]:=by
 have hM:=qai
 have loop:∀ (r:List Str) (p:Str) (i n:Nat),xs[i]?=some p→xs.drop (i+1)=r→r.length < n→∀ k m,qts k m n (qbu xs) ((i+1:Nat):Int)=some ([.one (Cell.bool (asc (p::r)))],[]):=by
  intro r
  induction r with
  | nil=>
   intro p i n hp hd hn k m
   obtain⟨n,rfl⟩:∃ j,n=j+1:=⟨n - 1,by omega⟩
   have:=drop_nil hd
   simp only[qts,qag,Option.bind_some]
   rw[decide_eq_false (by omega),cond_false]
   rfl
  | cons b r ih=>
   intro p i n hp hd hn k m
   obtain⟨n,rfl⟩:∃ j,n=j+1:=⟨n - 1,by omega⟩
   obtain⟨hlt,hg,hd'⟩:=qao hd
   simp only[List.length_cons] at hn
   simp only[qts,qag,Option.bind_some]
   rw[decide_eq_true (by omega),cond_true,qdi (by omega),qaf (by omega)]
   simp only[qap,hp,hg,eStr,qmhc,EV0]
   rw[ih b (i+1) n hg hd' (by omega)]
   simp only[asc,qdtc]
   cases lt p b<;>rfl
 refine qaw (H:=[]) (qlkb (xs.length+1) ?_)
 cases xs with
 | nil=>
  simp only[feb,qts,qag,Option.bind_some]
  rw[decide_eq_false (by simp),cond_false]
  rfl
 | cons a r=>
  have:=loop r a 0 (r.length+1+1+1) rfl rfl (by omega) (r.length+1+1+1) (r.length+1+1+1)
  simpa[feb] using this
theorem c_fav (xs:List Str)(hx:xs.length≤1073741824):out qjw [.one (qbu xs)]=some [.one (Cell.bool (asc xs))]:=by
 have hM:=qai
 have loop:∀ (r:List Str) (p:Str) (i n:Nat),xs[i]?=some p→xs.drop (i+1)=r→r.length < n→∀ k m,qwi k m n (qbu xs) ((i+1:Nat):Int)=some ([.one (Cell.bool (asc (p::r)))],[]):=by
  intro r
  induction r with
  | nil=>
   intro p i n hp hd hn k m
   obtain⟨n,rfl⟩:∃ j,n=j+1:=⟨n - 1,by omega⟩
   have:=drop_nil hd
   simp only[qwi,qag,Option.bind_some]
   rw[decide_eq_false (by omega),cond_false]
   rfl
  | cons b r ih=>
   intro p i n hp hd hn k m
   obtain⟨n,rfl⟩:∃ j,n=j+1:=⟨n - 1,by omega⟩
   obtain⟨hlt,hg,hd'⟩:=qao hd
   simp only[List.length_cons] at hn
   simp only[qwi,qag,Option.bind_some]
   rw[decide_eq_true (by omega),cond_true,qdi (by omega),qaf (by omega)]
   simp only[qap,hp,hg,eStr,qmhc,EV0]
   rw[ih b (i+1) n hg hd' (by omega)]
   simp only[asc,qdtc]
   cases lt p b<;>rfl
 refine qaw (H:=[]) (qokb (xs.length+1) ?_)
 cases xs with
 | nil=>
  simp only[fav,qwi,qag,Option.bind_some]
  rw[decide_eq_false (by simp),cond_false]
  rfl
 | cons a r=>
  have:=loop r a 0 (r.length+1+1+1) rfl rfl (by omega) (r.length+1+1+1) (r.length+1+1+1)
  simpa[fav] using this
theorem lt_iff:∀ (a b:Str),lt a b=true↔a < b:=by
 intro a
 unfold lt
 induction a with
 | nil=>intro b;cases b<;>simp[Op.bytesLess]
 | cons x a ih=>
  intro b
  cases b with
  | nil=>simp[Op.bytesLess]
  | cons y b=>rw[List.cons_lt_cons_iff,← ih b];simp[Op.bytesLess]
open Classical in
theorem index_one (c:UInt8):∀ s:Str,Lib.index s [c]=Lib.indexByte s c
 | []=>rfl
 | b::r=>by
  unfold Lib.index Lib.indexByte
  rw[index_one c r]
  have:([c]:Str).isPrefixOf (b::r)=(b==c):=by
   simp only[List.isPrefixOf,Bool.and_true]
   rw[Bool.eq_iff_iff,beq_iff_eq,beq_iff_eq]
   exact eq_comm
  rw[this]
theorem qgh (s p:Str)(hs:s.length≤1073741824):out qya [.one (Cell.str (bs s)),.one (Cell.str (bs p))]=some [.one (Cell.int (Lib.index s p))]:=by
 refine qaw (H:=[]) ?_
 show qfs _ _=_
 simp only[qfs,qja]
 rw[if_pos (by rw[qbi];omega)]
theorem c_fem (s:Str)(c:UInt8)(hs:s.length≤1073741824):out qya [.one (Cell.str (bs s)),.one (Cell.str (bs [c]))]=some [.one (Cell.int (Lib.indexByte s c))]:=by
 rw[qgh s [c] hs,index_one]
theorem c_fej (s:Str)(c:UInt8):out quh [.one (Cell.str (bs s)),.one (Cell.str (bs [c]))]=some [.one (Cell.int ((s.count c:Nat):Int))]:=by
 refine qaw (H:=[]) ?_
 show qdv _ _=_
 simp only[qdv,qja]
 rfl
theorem qewb {c:UInt8}{s:Str}(h:c∈s):s.count c=(behind c s).count c+1:=by
 induction s with
 | nil=>simp at h
 | cons b r ih=>
  by_cases e:b=c
  ·subst e
   simp[behind,List.dropWhile_cons]
  ·have hr:c∈r:=by
    rcases List.mem_cons.1 h with h | h
    ·exact absurd h.symm e
    ·exact h
   have hb:behind c (b::r)=behind c r:=by
    have:(b != c)=true:=by simpa using e
    simp[behind,List.dropWhile_cons,this]
   rw[hb,List.count_cons,ih hr]
   simp[e]
theorem qbzb {c:UInt8}{s:Str}(h:c∉s):s.count c=0:=List.count_eq_zero.2 h
theorem qehb (c:UInt8):∀ (n:Nat) (s:Str),s.length≤n→(split c s).length=s.count c+1:=by
 intro n
 induction n with
 | zero=>
  intro s h
  have:s=[]:=List.eq_nil_of_length_eq_zero (by omega)
  subst this
  rfl
 | succ n ih=>
  intro s h
  by_cases hc:c∈s
  ·have hl:(behind c s).length < s.length:=by
    have:=qsx hc
    have h2:=qgt c s
    rw[← h2,List.length_drop]
    omega
   rw[qsb hc,List.length_cons,ih _ (by omega),qewb hc]
  ·rw[qkx hc,qbzb hc]
   rfl
theorem r_fer (s:Str)(c:UInt8)(hs:s.length≤1073741824):qnr [.one (Cell.str (bs s)),.one (Cell.str (bs [c])),.one (Cell.int 0),.one (Cell.int (-1))] []=some ([.one (.vs 0 1 0 (s.count c+1) 0)],[Entry.mk 1 ((split c s).map eStr) 0 false]):=by
 have hM:=qai
 have hct:s.count c≤s.length:=List.count_le_length
 have hsl:=qehb c s.length s (Nat.le_refl _)
 have hput:∀ (rows:List (List Cell)) (i:Nat) (row:List Cell) (y:Str),rows[i]?=some row→row.length=1→qbm [Entry.mk 1 rows 0 false] (.ptr 0 1 i 0 0) [Cell.str (bs y)]=some [Entry.mk 1 (rows.set i (eStr y)) 0 false]:=by
  intro rows i row y h hr
  simp only[qbm,entry?,List.getElem?_cons_zero,if_true,h]
  rw[if_pos ⟨trivial,by simp,trivial⟩]
  simp[splice,eStr,hr,List.drop_eq_nil_of_le]
 have loop:∀ (d:Nat) (r:Str) (done:List Str) (n:Nat),r.count c=d→done.length+d=s.count c→r.length≤s.length→split c s=done++split c r→d < n→∀ k m,
   qnd k m n (bs r) (bs [c]) 0 ((s.count c:Nat):Int) (.vs 0 1 0 (s.count c+1) 0) ((done.length:Nat):Int) [Entry.mk 1 (done.map eStr++List.replicate (d+1) [Cell.str (bs [])]) 0 false]=
    some ([.one (.vs 0 1 0 (s.count c+1) 0)],[Entry.mk 1 ((split c s).map eStr) 0 false]):=by
  intro d
  induction d with
  | zero=>
   intro r done n hc hd hr hsp hn k m
   obtain⟨n,rfl⟩:∃ j,n=j+1:=⟨n - 1,by omega⟩
   have hnc:c∉r:=List.count_eq_zero.1 hc
   simp only[qnd]
   rw[decide_eq_false (by omega),cond_false]
   have hrow:(done.map eStr++List.replicate (0+1) [Cell.str (bs [])])[done.length]?=some [Cell.str (bs [])]:=by simp
   simp only[qjd 0 1 (s.count c+1) 0 done.length (by omega),Option.bind_some,hput _ _ _ r hrow rfl]
   have hset:(done.map eStr++List.replicate (0+1) [Cell.str (bs [])]).set done.length (eStr r)=(split c s).map eStr:=by
    rw[hsp,qkx hnc,List.set_append_right _ _ (by simp)]
    simp
   rw[hset,show IntKind.i64.wrap ((done.length:Int)+1)=((s.count c+1:Nat):Int) by rw[qaf (by omega)];omega]
   have hsl':slcC 1 (.vs 0 1 0 (s.count c+1) 0) 0 (some ((s.count c+1:Nat):Int)) none=some (.vs 0 1 0 (s.count c+1) 0):=by
    simp only[slcC,Option.getD_some,Option.getD_none,if_true]
    rw[if_pos ⟨by omega,by omega,by omega,by omega⟩,if_pos (.inl trivial)]
    simp
   rw[hsl']
   rfl
  | succ d ih=>
   intro r done n hc hd hr hsp hn k m
   obtain⟨n,rfl⟩:∃ j,n=j+1:=⟨n - 1,by omega⟩
   have hmem:c∈r:=by
    rcases Classical.em (c∈r) with h | h
    ·exact h
    ·have:=qbzb h;omega
   have hal:=qsx hmem
   have hbl:=qlb c r
   simp only[qnd]
   rw[decide_eq_true (by omega),cond_true]
   have e0:Lib.indexByte r c=((ahead c r).length:Int):=by rw[qpi,if_pos hmem]
   simp only[c_fem r c (by omega),e0,EV0]
   rw[decide_eq_false (by omega),cond_false]
   have e1:=qcq r 0 (ahead c r).length (by omega) (by omega)
   simp only[Int.natCast_zero,List.drop_zero,qgg] at e1
   rw[show IntKind.i64.wrap (((ahead c r).length:Int)+0)=((ahead c r).length:Int) by rw[Int.add_zero];exact wrap_small (by omega) (by omega),e1]
   have hrow:(done.map eStr++List.replicate (d+1+1) [Cell.str (bs [])])[done.length]?=some [Cell.str (bs [])]:=by simp
   simp only[Option.bind_some,qjd 0 1 (s.count c+1) 0 done.length (by omega),hput _ _ _ (ahead c r) hrow rfl]
   have e2:=qcq r ((ahead c r).length+1) r.length (by omega) (Nat.le_refl _)
   rw[List.take_length,qgt] at e2
   rw[show IntKind.i64.wrap (((ahead c r).length:Int)+((0+1:Nat):Int))=(((ahead c r).length+1:Nat):Int) by rw[wrap_small (by omega) (by omega)];omega,e2,qaf (by omega)]
   simp only[Option.bind_some]
   have hset:(done.map eStr++List.replicate (d+1+1) [Cell.str (bs [])]).set done.length (eStr (ahead c r))=(done++[ahead c r]).map eStr++List.replicate (d+1) [Cell.str (bs [])]:=by
    rw[List.set_append_right _ _ (by simp)]
    simp[List.replicate_succ]
   rw[hset]
   have:=ih (behind c r) (done++[ahead c r]) n (by have:=qewb hmem;omega) (by simp;omega) (by omega) (by rw[hsp,qsb hmem];simp) (by omega) k m
   rw[show(done++[ahead c r]).length=done.length+1 by simp] at this
   exact this
 have hmin:(if IntKind.i64.wrap ((s.length:Int)+1) < IntKind.i64.wrap (((s.count c:Nat):Int)+1) then IntKind.i64.wrap ((s.length:Int)+1) else IntKind.i64.wrap (((s.count c:Nat):Int)+1))=((s.count c+1:Nat):Int):=by
  rw[qaf (by omega),qaf (by omega),if_neg (by omega)]
 have z:=loop (s.count c) s [] (s.count c+1+1) rfl (by simp) (Nat.le_refl _) (by simp) (by omega) (s.count c+1+1) (s.count c+1+1)
 refine qxj (s.count c+1) ?_
 ·simp only[fer]
  rw[show((-1:Int)==0)=false from rfl,cond_false]
  simp only[qbf]
  rw[show(([c]:Str)==[])=false from rfl,cond_false,show decide ((-1:Int) < 0)=true from rfl,cond_true]
  simp only[c_fej,EV0,hmin]
  rw[if_pos ⟨by omega,by omega,by unfold bound;omega,by unfold bound;omega⟩]
  rw[show IntKind.i64.wrap (((s.count c+1:Nat):Int) - 1)=((s.count c:Nat):Int) from qdi (by omega)]
  simpa[qce] using z
theorem f_fer (s:Str)(c:UInt8)(hs:s.length≤1073741824):Fresh qnr true 2 [.one (Cell.str (bs s)),.one (Cell.str (bs [c])),.one (Cell.int 0),.one (Cell.int (-1))] [.one (trL 1 qdj (split c s))]:=by
 have hg:GrowAt ([]:List Entry).length 1 (.vs 0 1 0 (s.count c+1) 0) [Entry.mk 1 ((split c s).map eStr) 0 false] ((split c s).map eStr):=.inr ⟨0,by rw[List.length_map,qehb c s.length s (Nat.le_refl _)];rfl,rfl⟩
 obtain⟨ids,r1,r2,_⟩:=hg.list
 exact Fresh.one (r_fer s c hs) r1 r2
theorem qfxd (s:Str)(c:UInt8)(hs:s.length≤1073741824):Fresh qex true 2 [.one (Cell.str (bs s)),.one (Cell.str (bs [c]))] [.one (trL 1 qdj (split c s))]:=by
 refine Fresh.tailO (f_fer s c hs) [] (qau _ _ _) fun c' E hc=>qvp 0 ?_
 simp only[feo,hc,EV0]
theorem n_le (n k:Nat):decide ((n:Int)≤(k:Int))=decide (n≤k):=by rw[decide_eq_decide];omega
theorem c_fed (l:List Str)(hl:bdL 1048576 (bdS 1048576) l):out qza [.one (qbu l)]=some [.one (Cell.bool (l.all qcw))]:=by
 have hM:=qai
 have hxl:=hl.1
 refine qaw (H:=[]) (qrmb (l.length+1) ?_)
 simp only[fed]
 rw[qgi l (fun n i=>qbmb (l.length+1+1) (l.length+1+1) n (qbu l) i) qcw (some ([.one (Cell.bool true)],[])) (some ([.one (Cell.bool false)],[])) ?_ ?_ _ (by omega)]
 ·cases l.all qcw<;>rfl
 ·intro n i x hx hlt
  have hb:x.length≤1048576:=hl.2 x (List.mem_of_getElem? hx)
  simp only[qbmb,qag,qap,hx,eStr,qgad x (by omega),EV0]
  rw[decide_eq_true (by omega),cond_true,qaf (by omega)]
  cases qcw x<;>rfl
 ·intro n
  simp only[qbmb,qag,EV0]
  rw[decide_eq_false (by omega),cond_false]
theorem c_fbd (l:List Str)(hl:bdL 1048576 (bdS 1048576) l)(c:Nat):out qrt [.one (qbu l),.one (Cell.int c)]=some [.one (Cell.bool (l.all qcw&&decide (l.length≤c)))]:=by
 have hM:=qai
 have hxl:=hl.1
 refine qaw (H:=[]) (qmfb (l.length+1) ?_)
 simp only[fbd,qag,Option.bind_some]
 rw[qgi l (fun n i=>qahb (l.length+1+1) (l.length+1+1) n (qbu l) c (qbu l) l.length i) qcw (some ([.one (Cell.bool (decide (l.length≤c)))],[])) (some ([.one (Cell.bool false)],[])) ?_ ?_ _ (by omega)]
 ·exact qsgb _ _ _
 ·intro n i x hx hlt
  have hb:x.length≤1048576:=hl.2 x (List.mem_of_getElem? hx)
  simp only[qahb,qag,qap,hx,eStr,qfwd x (by omega),EV0]
  rw[decide_eq_true (by omega),cond_true,qaf (by omega)]
  cases qcw x<;>rfl
 ·intro n
  simp only[qahb,qag,EV0]
  rw[decide_eq_false (by omega),cond_false,show decide ((l.length:Int)≤(c:Int))=decide (l.length≤c) from n_le l.length c]
theorem c_fbr (s p:Str):out qtw [.one (Cell.str (bs s)),.one (Cell.str (bs p))]=some [.one (Cell.str (bs (qbcd p s))),.one (Cell.bool (p.isPrefixOf s))]:=by
 refine qaw (H:=[]) (qolb 0 ?_)
 simp only[fbr,c_fbs,EV0]
 unfold qbcd
 cases h:p.isPrefixOf s with
 | true=>
  have hl:=(List.isPrefixOf_iff_prefix.1 h).length_le
  rw[Bool.not_true,cond_false,qcq s _ _ hl (Nat.le_refl _),List.take_length]
  rfl
 | false=>rfl
theorem c_fel (s p:Str):out qwo [.one (Cell.str (bs s)),.one (Cell.str (bs p))]=some [.one (Cell.str (bs (qbcd p s))),.one (Cell.bool (p.isPrefixOf s))]:=by
 refine qaw (H:=[]) (qrib 0 ?_)
 simp only[fel,c_fbr,EV0]
def b16 (n:Nat):Str:=[UInt8.ofNat (n / 256),UInt8.ofNat n]
def numT (n:Nat):Str:=Lib.decDigits n
theorem qhw {u:Nat}(h:u < 10):Lib.decDigits u=[UInt8.ofNat (48+u)]:=by
 unfold Lib.decDigits
 rw[dif_pos h]
theorem qnn {u:Nat}(h:¬ u < 10):Lib.decDigits u=Lib.decDigits (u / 10)++[UInt8.ofNat (48+u % 10)]:=by
 rw[Lib.decDigits,dif_neg h]
theorem qpub (n:Nat)(h:n≤1099511627776):(numT n).length≤21:=by
 have:=Lib.itoa_length_le (n:Int) (by omega) (by omega)
 have e:Lib.itoa (n:Int)=numT n:=by unfold Lib.itoa numT;rw[if_neg (by omega)];simp
 rwa [e] at this
def BytM (H:List Entry)(c:Cell)(b:Str):Prop:=∃ ids,Rep H true true 2 ids c (trL 1 qiob b)∧ids.Nodup
theorem BytM.nil (H:List Entry):BytM H (.lst true 1 []) []:=⟨[],.inl ⟨rfl,rfl,true,rfl⟩,by simp⟩
theorem BytM.read {H:List Entry}{c:Cell}{b:Str}(h:BytM H c b):qam false H (.one c)=some (.one (bytesC b)):=by
 obtain⟨ids,h,_⟩:=h
 have:=qsq h (by omega)
 rwa [qbs] at this
theorem BytM.of {H E:List Entry}{c:Cell}{b:Str}{is:List Nat}{lo hi:Nat}(h:Rep (H++E) true true 2 is c (trL 1 qiob b))(w:Mine lo hi is):BytM (H++E) c b:=⟨is,h,w.nd⟩
theorem Grow.bytes {c:Cell}{H:List Entry}{b:Str}(h:Grow 1 c H (b.map qzxc)):∃ ids,Rep H true true 2 ids c (trL 1 qiob b)∧ids.Nodup:=by
 obtain⟨ids,h1,h2,_⟩:=h.rep (tr:=qiob) (fun _ _=>rfl) (fun x _ H'=>Sp.leaf1 _)
 exact⟨ids,h1,h2⟩
theorem qewd (n:Nat)(hn:n≤1099511627776):out qix [.one (Cell.int n)]=some [.one (Cell.str (bs (numT n)))]:=by
 have e:out qhfb [.one (Cell.int n)]=some [.one (Cell.str (bs (numT n)))]:=by
  refine qaw (H:=[]) ?_
  show qnv _ _=_
  simp only[qnv]
  rw[if_pos ⟨by omega,by omega⟩]
  have:Lib.itoa (n:Int)=numT n:=by unfold Lib.itoa numT;rw[if_neg (by omega)];simp
  rw[this]
  rfl
 refine qaw (H:=[]) (qqsb 0 ?_)
 simp only[fab]
 rw[if_neg (by omega)]
 simp only[e,EV0]
theorem Grow.at {sz:Nat}{c:Cell}{H:List Entry}{rows:List (List Cell)}{i:Nat}{row:List Cell}(h:Grow sz c H rows)(hr:rows[i]?=some row):∃ a,idxA sz c (i:Int)=some a∧deref H a=some (row,0):=by
 have hlt:=(List.getElem?_eq_some_iff.1 hr).1
 rcases h with⟨rfl,_,_⟩ | ⟨ep,rfl,rfl⟩
 ·simp at hr
 ·exact⟨.ptr 0 sz i 0 ep,qjd _ _ _ _ _ hlt,by simp[deref,entry?,hr]⟩
theorem Grow.len {sz:Nat}{c:Cell}{H:List Entry}{rows:List (List Cell)}(h:Grow sz c H rows):lenC c=some rows.length:=by
 rcases h with⟨rfl,rfl,_⟩ | ⟨ep,rfl,rfl⟩<;>rfl
def digits:Str→Nat→Nat | [],n=>n | b::r,n=>digits r (n*10+(b.toNat - 48))
def qan (s:Str)(most:Nat):Option Nat:=if s.all qbb=true∧1≤s.length∧s.length≤7∧(s.length=1∨s.head?≠some 48)∧digits s 0≤most then some (digits s 0) else none
theorem qgm {b:UInt8}(h:qbb b=true):48≤b.toNat∧b.toNat≤57:=by
 unfold qbb inR at h
 simp only[Bool.and_eq_true,decide_eq_true_eq] at h
 omega
theorem qis:∀ (s t:Str) (n:Nat),digits (s++t) n=digits t (digits s n):=by
 intro s
 induction s with
 | nil=>intro t n;rfl
 | cons b r ih=>intro t n;exact ih t _
theorem qto:∀ (s:Str) (n N:Nat),(∀ b∈s,qbb b=true)→n < 10 ^ N→digits s n < 10 ^ (N+s.length):=by
 intro s
 induction s with
 | nil=>intro n N _ h;exact h
 | cons b r ih=>
  intro n N h hn
  have h2:=qgm (h b List.mem_cons_self)
  have h1:=ih (n*10+(b.toNat - 48)) (N+1) (fun x hx=>h x (List.mem_cons_of_mem _ hx)) (by rw[Nat.pow_succ];omega)
  simp only[digits,List.length_cons]
  rw[show N+(r.length+1)=N+1+r.length by omega]
  exact h1
theorem qgdb {n:Nat}(h:n < 10):qbb (UInt8.ofNat (48+n))=true:=by
 unfold qbb inR
 simp only[Bool.and_eq_true,decide_eq_true_eq,UInt8.toNat_ofNat']
 omega
theorem qllb:∀ n:Nat,(numT n).all qbb=true∧1≤(numT n).length∧((numT n).length=1∨(numT n).head?≠some 48)∧digits (numT n) 0=n∧(0 < n→(numT n).head?≠some 48):=by
 intro n
 induction n using Nat.strongRecOn with
 | _ n ih=>
  unfold numT at ih ⊢
  by_cases h:n < 10
  ·rw[qhw h]
   refine⟨by rw[List.all_cons,qgdb h,List.all_nil];rfl,by simp,.inl rfl,?_,?_⟩
   ·simp only[digits,UInt8.toNat_ofNat']
    omega
   ·intro h0 e
    simp only[List.head?_cons,Option.some.injEq] at e
    have:=congrArg UInt8.toNat e
    simp only[UInt8.toNat_ofNat'] at this
    have h48:(48:UInt8).toNat=48:=rfl
    omega
  ·rw[qnn h]
   obtain⟨i1,i2,i3,i4,i5⟩:=ih (n / 10) (by omega)
   have hh:(Lib.decDigits (n / 10)++[UInt8.ofNat (48+n % 10)]).head?=(Lib.decDigits (n / 10)).head?:=by
    cases hd:Lib.decDigits (n / 10) with
    | nil=>rw[hd] at i2;simp at i2
    | cons x r=>rfl
   have i6:=i5 (by omega)
   refine⟨?_,by simp,.inr ?_,?_,fun _=>?_⟩
   ·rw[List.all_append,i1]
    rw[List.all_cons,qgdb (show n % 10 < 10 by omega),List.all_nil]
    rfl
   ·rw[hh];exact i6
   ·rw[qis,i4]
    simp only[digits,UInt8.toNat_ofNat']
    omega
   ·rw[hh];exact i6
theorem qri:∀ (k:Nat) (s:Str),s.length=k→(∀ b∈s,qbb b=true)→1≤s.length→(s.length=1∨s.head?≠some 48)→numT (digits s 0)=s:=by
 intro k
 induction k with
 | zero=>intro s h1 _ h2 _;omega
 | succ k ih=>
  intro s h1 h2 h3 h4
  have hne:s≠[]:=by intro h;subst h;simp at h3
  obtain⟨t,d,rfl⟩:∃ t d,s=t++[d]:=⟨s.dropLast,s.getLast hne,(List.dropLast_concat_getLast hne).symm⟩
  have hd:=qgm (h2 d (by simp))
  simp only[List.length_append,List.length_cons,List.length_nil] at h1 h4
  have hdd:UInt8.ofNat (48+(d.toNat - 48))=d:=by
   apply UInt8.toNat_inj.1
   simp only[UInt8.toNat_ofNat']
   have:=d.toNat_lt
   omega
  by_cases ht:t=[]
  ·subst ht
   simp only[List.nil_append,digits]
   unfold numT
   rw[qhw (by omega),show 0*10+(d.toNat - 48)=d.toNat - 48 by omega,hdd]
  ·have htl:=List.length_pos_iff.2 ht
   have hhead:t.head?≠some 48:=by
    rcases h4 with h4 | h4
    ·omega
    ·cases t with
     | nil=>exact absurd rfl ht
     | cons x r=>exact h4
   have i1:=ih t (by omega) (fun b hb=>h2 b (List.mem_append_left _ hb)) htl (.inr hhead)
   have hpos:1≤digits t 0:=by
    rcases Nat.eq_zero_or_pos (digits t 0) with h | h
    ·rw[h] at i1
     have:numT 0=[48]:=by unfold numT;rw[qhw (by omega)];rfl
     rw[this] at i1
     rw[← i1] at hhead
     exact absurd rfl hhead
    ·exact h
   rw[qis]
   simp only[digits]
   unfold numT at i1 ⊢
   rw[qnn (by omega),show(digits t 0*10+(d.toNat - 48)) / 10=digits t 0 by omega,i1,show(digits t 0*10+(d.toNat - 48)) % 10=d.toNat - 48 by omega,hdd]
theorem qcg {s:Str}{k most:Nat}(h:qan s most=some k):s=numT k∧k≤most∧s.length≤7:=by
 unfold qan at h
 split at h
 ·rename_i hc
  obtain⟨h1,h2,h3,h4,h5⟩:=hc
  simp only[Option.some.injEq] at h
  subst h
  exact⟨(qri _ s rfl (List.all_eq_true.1 h1) h2 h4).symm,h5,h3⟩
 ·simp at h
def numV (o:Option Nat):List AV:=match o with
 | some k=>[.one (Cell.int (k:Int)),.one (Cell.bool true)]
 | none=>[.one (Cell.int 0),.one (Cell.bool false)]
theorem qebc {x:UInt8}(h:qbb x=true):IntKind.i64.wrap (IntKind.u8.wrap ((x.toNat:Int) - 48))=((x.toNat - 48:Nat):Int):=by
 have h1:=qgm h
 have e:((x.toNat:Int) - 48)=((x.toNat - 48:Nat):Int):=by omega
 rw[e,wrap_u8]
 have:(UInt8.ofNat (x.toNat - 48)).toNat=x.toNat - 48:=by simp only[UInt8.toNat_ofNat'];omega
 rw[this]
 exact wrap_small (by omega) (by omega)
theorem c_fda (s:Str)(most:Nat)(hs:s.length≤1073741824)(hm:most≤1073741824):out qcm [.one (Cell.str (bs s)),.one (Cell.int most)]=some (numV (qan s most)):=by
 have hM:=qai
 have fin:∀ (v:Nat),s.length≤7→s.all qbb=true→v=digits s 0→((qak qaj [.one (Cell.int (s.length:Int)),.one (Cell.int 1),.one (Cell.int 7)] []).bind fun r14=>
  cond (qab qav r14)
  ((cB (qaa r14 0) 0).bind fun b15=>
  cond (!b15)
  (some ([AV.one (Cell.int 0),AV.one (Cell.bool false)],[]))
  (cond (decide ((s.length:Int) > 1))
  ((bytS (bs s) 0).bind fun i16=>
  cond (i16==48)
  (some ([AV.one (Cell.int 0),AV.one (Cell.bool false)],[]))
  (cond (decide ((v:Int) > (most:Int)))
  (some ([AV.one (Cell.int 0),AV.one (Cell.bool false)],[]))
  (some ([AV.one (Cell.int (v:Int)),AV.one (Cell.bool true)],([]:List Entry)))))
  (cond (decide ((v:Int) > (most:Int)))
  (some ([AV.one (Cell.int 0),AV.one (Cell.bool false)],[]))
  (some ([AV.one (Cell.int (v:Int)),AV.one (Cell.bool true)],[])))))
  none)=some (numV (qan s most),[]):=by
  intro v h7 ha hv
  simp only[qayb,EV0]
  unfold qan
  cases s with
  | nil=>rfl
  | cons x r=>
   rw[show inR (((x::r:Str).length:Nat):Int) 1 7=true by
    unfold inR
    rw[decide_eq_true (by simp only[List.length_cons];omega),decide_eq_true (by omega)]
    rfl,Bool.not_true,cond_false]
   by_cases h1:r=[]
   ·subst h1
    rw[decide_eq_false (by simp),cond_false]
    by_cases hm:v≤most
    ·rw[decide_eq_false (by omega),cond_false,if_pos ⟨ha,by simp,by simp,.inl rfl,by omega⟩,hv]
     rfl
    ·rw[decide_eq_true (by omega),cond_true,if_neg fun h=>hm (by omega)]
     rfl
   ·have hr:=List.length_pos_iff.2 h1
    rw[decide_eq_true (by simp;omega),cond_true,qfzb]
    simp only[Option.bind_some]
    rw[show((x.toNat:Int)==48)=(x==48) from qewc x 48 (by omega)]
    cases hx:x==48 with
    | true=>
     have:x=48:=by simpa using hx
     rw[cond_true,if_neg]
     ·rfl
     ·rintro ⟨_,_,_,h,_⟩
      rcases h with h | h
      ·simp only[List.length_cons] at h;omega
      ·rw[this] at h;exact h rfl
    | false=>
     have:x≠48:=by simpa using hx
     rw[cond_false]
     by_cases hm:v≤most
     ·rw[decide_eq_false (by omega),cond_false,if_pos ⟨ha,by simp,h7,.inr (by simpa using this),by omega⟩,hv]
      rfl
     ·rw[decide_eq_true (by omega),cond_true,if_neg fun h=>hm (by omega)]
      rfl
 have loop:∀ (r:Str) (i n a:Nat),s.drop i=r→i≤8→r.length < n→(s.take i).all qbb=true→a=digits (s.take i) 0→∀ k m,qbab k m n (bs s) most a i=some (numV (qan s most),[]):=by
  intro r
  induction r with
  | nil=>
   intro i n a hd hi hn ht ha k m
   obtain⟨n,rfl⟩:∃ j,n=j+1:=⟨n - 1,by omega⟩
   have h1:=drop_nil hd
   rw[List.take_of_length_le h1] at ht ha
   simp only[qbab,qbi]
   rw[decide_eq_false (by omega),cond_false]
   by_cases h7:s.length≤7
   ·exact fin a h7 ht ha
   ·simp only[qayb,EV0]
    rw[show inR (s.length:Int) 1 7=false by
     unfold inR
     rw[decide_eq_false (p:=(s.length:Int)≤7) (by omega),Bool.and_false]]
    unfold qan
    rw[if_neg fun h=>h7 h.2.2.1]
    rfl
  | cons x r ih=>
   intro i n a hd hi hn ht ha k m
   obtain⟨n,rfl⟩:∃ j,n=j+1:=⟨n - 1,by omega⟩
   obtain⟨hlt,hx,hd'⟩:=qao hd
   simp only[List.length_cons] at hn
   simp only[qbab,qbi]
   rw[decide_eq_true (by omega),cond_true]
   by_cases h8:i < 8
   ·rw[decide_eq_true (by omega),cond_true]
    simp only[qcf,hx,Option.map_some,qfud,EV0]
    cases hf:qbb x with
    | false=>
     simp only[Bool.not_false,cond_true]
     unfold qan
     rw[if_neg]
     ·rfl
     ·rintro ⟨h,_⟩
      have:=List.all_eq_true.1 h x (List.mem_of_getElem? hx)
      rw[hf] at this
      simp at this
    | true=>
     have hsn:s.take (i+1)=s.take i++[x]:=by rw[List.take_add_one,hx];rfl
     have hal:a < 10 ^ 8:=by
      rw[ha]
      refine Nat.lt_of_lt_of_le (qto (s.take i) 0 0 (List.all_eq_true.1 ht) (by simp)) ?_
      rw[Nat.zero_add]
      refine Nat.pow_le_pow_right (by omega) ?_
      rw[List.length_take]
      omega
     have hf2:=qgm hf
     simp only[Bool.not_true,cond_false]
     rw[qebc hf,wrap_small (n:=(a:Int)*10) (by omega) (by omega),wrap_small (by omega) (by omega),qaf (by omega),show(a:Int)*10+((x.toNat - 48:Nat):Int)=((a*10+(x.toNat - 48):Nat):Int) by omega]
     refine ih (i+1) n _ hd' (by omega) (by omega) ?_ ?_ k m
     ·rw[hsn,List.all_append,ht,List.all_cons,hf,List.all_nil]
      rfl
     ·rw[hsn,qis,← ha]
      rfl
   ·rw[decide_eq_false (by omega),cond_false]
    simp only[qayb,EV0]
    rw[show inR (s.length:Int) 1 7=false by
     unfold inR
     rw[decide_eq_false (p:=(s.length:Int)≤7) (by omega),Bool.and_false]]
    unfold qan
    rw[if_neg fun h=>by have:=h.2.2.1;omega]
    rfl
 refine qaw (H:=[]) (qrdb (s.length+1) ?_)
 have:=loop s 0 (s.length+1+1) 0 rfl (by omega) (by omega) (by simp) (by simp[digits]) (s.length+1+1) (s.length+1+1)
 simpa[fda] using this
theorem c_faf (s:Str)(most:Nat)(hs:s.length≤1073741824)(hm:most≤1073741824):out qio [.one (Cell.str (bs s)),.one (Cell.int most)]=some (numV (qan s most)):=by
 have hM:=qai
 by_cases h17:1≤s.length∧s.length≤7
 ·obtain⟨h1,h7⟩:=h17
  have loop:∀ (r:Str) (i n a:Nat),s.drop i=r→r.length < n→(s.take i).all qbb=true→a=digits (s.take i) 0→∀ k m,qafb k m n (bs s) most a i=some (numV (qan s most),[]):=by
   intro r
   induction r with
   | nil=>
    intro i n a hd hn ht ha k m
    obtain⟨n,rfl⟩:∃ j,n=j+1:=⟨n - 1,by omega⟩
    have h2:=drop_nil hd
    rw[List.take_of_length_le h2] at ht ha
    have hal:a < 10 ^ 7:=by
     rw[ha]
     refine Nat.lt_of_lt_of_le (qto s 0 0 (List.all_eq_true.1 ht) (by simp)) ?_
     rw[Nat.zero_add]
     exact Nat.pow_le_pow_right (by omega) h7
    simp only[qafb,qbi]
    rw[decide_eq_false (by omega),cond_false]
    simp only[qewd a (by omega),EV0]
    by_cases hc:s.length=1∨s.head?≠some 48
    ·have e:=qri _ s rfl (List.all_eq_true.1 ht) h1 hc
     rw[ha,e,show(s==s)=true by simp,Bool.not_true,cond_false]
     unfold qan
     by_cases hm:digits s 0≤most
     ·rw[decide_eq_false (by omega),cond_false,if_pos ⟨ht,h1,h7,hc,hm⟩]
      rfl
     ·rw[decide_eq_true (by omega),cond_true,if_neg fun h=>hm h.2.2.2.2]
      rfl
    ·have hne:(numT a==s)=false:=by
      rw[beq_eq_false_iff_ne]
      intro e
      have:=(qllb a).2.2.1
      rw[e] at this
      exact hc this
     rw[hne,Bool.not_false,cond_true]
     unfold qan
     rw[if_neg fun h=>hc h.2.2.2.1]
     rfl
   | cons x r ih=>
    intro i n a hd hn ht ha k m
    obtain⟨n,rfl⟩:∃ j,n=j+1:=⟨n - 1,by omega⟩
    obtain⟨hlt,hx,hd'⟩:=qao hd
    simp only[List.length_cons] at hn
    simp only[qafb,qbi]
    rw[decide_eq_true (by omega),cond_true]
    simp only[qcf,hx,Option.map_some,qfyd,EV0]
    cases hf:qbb x with
    | false=>
     simp only[Bool.not_false,cond_true]
     unfold qan
     rw[if_neg]
     ·rfl
     ·rintro ⟨h,_⟩
      have:=List.all_eq_true.1 h x (List.mem_of_getElem? hx)
      rw[hf] at this
      simp at this
    | true=>
     have hsn:s.take (i+1)=s.take i++[x]:=by rw[List.take_add_one,hx];rfl
     have hal:a < 10 ^ 8:=by
      rw[ha]
      refine Nat.lt_of_lt_of_le (qto (s.take i) 0 0 (List.all_eq_true.1 ht) (by simp)) ?_
      rw[Nat.zero_add]
      refine Nat.pow_le_pow_right (by omega) ?_
      rw[List.length_take]
      omega
     have hf2:=qgm hf
     simp only[Bool.not_true,cond_false]
     rw[qebc hf,wrap_small (n:=(a:Int)*10) (by omega) (by omega),wrap_small (by omega) (by omega),qaf (by omega),show(a:Int)*10+((x.toNat - 48:Nat):Int)=((a*10+(x.toNat - 48):Nat):Int) by omega]
     refine ih (i+1) n _ hd' (by omega) ?_ ?_ k m
     ·rw[hsn,List.all_append,ht,List.all_cons,hf,List.all_nil]
      rfl
     ·rw[hsn,qis,← ha]
      rfl
  refine qaw (H:=[]) (qwz (s.length+1) ?_)
  have z:=loop s 0 (s.length+1+1) 0 rfl (by omega) (by simp) (by simp[digits]) (s.length+1+1) (s.length+1+1)
  simp only[faf,qbi,qkpc,EV0]
  rw[show inR (s.length:Int) 1 7=true by
   unfold inR
   rw[decide_eq_true (by omega),decide_eq_true (by omega)]
   rfl,Bool.not_true,cond_false]
  exact z
 ·refine qaw (H:=[]) (qwz 0 ?_)
  simp only[faf,qbi,qkpc,EV0]
  rw[show inR (s.length:Int) 1 7=false by
   unfold inR
   rcases Nat.lt_or_ge s.length 1 with h | h
   ·rw[decide_eq_false (by omega),Bool.false_and]
   ·rw[decide_eq_false (p:=(s.length:Int)≤7) (by omega),Bool.and_false]]
  unfold qan
  rw[if_neg fun h=>h17 ⟨h.2.1,h.2.2.1⟩]
  rfl
def figV:Nat→Str→Bool | 0,_=>true | _,s=>!(s==[])
def qztc (b:UInt8):Bool:=qbb b||qhi b||inR b.toNat 65 90||b==45
def qox (s:Str):Bool:=s.all qztc&&(inR s.length 1 8&&(!s.all qbb||s.length==1||s.head? != some 48))
def qfr (a b c:Int)(pre:List Str):Bool:=pre.all qox&&(inR a 0 9999&&(inR b 0 9999&&(inR c 0 9999&&decide (pre.length≤3))))
def qfj (a b c:Int)(pre:List Str):Str:=if qfr a b c pre then numT a.toNat++[46]++numT b.toNat++[46]++numT c.toNat++(if pre.length=0 then [] else 45::Lib.join pre [46]) else []
theorem qmeb {s:Str}(h:qox s=true):1≤s.length∧s.length≤8:=by
 simp only[qox,Bool.and_eq_true,inR,decide_eq_true_eq] at h
 omega
theorem qmn {a b c:Int}{pre:List Str}(h:qfr a b c pre=true):(0≤a∧a≤9999)∧(0≤b∧b≤9999)∧(0≤c∧c≤9999)∧pre.length≤3∧∀ x∈pre,x.length≤8:=by
 simp only[qfr,Bool.and_eq_true,inR,decide_eq_true_eq,List.all_eq_true] at h
 exact⟨h.2.1,h.2.2.1,h.2.2.2.1,h.2.2.2.2,fun x hx=>(qmeb (h.1 x hx)).2⟩
theorem qqu {sep:Str}(hs:sep.length≤1):∀ r:List Str,(∀ x∈r,x.length≤8)→(Lib.joinTail sep r).length≤9*r.length
 | [],_=>by simp[Lib.joinTail]
 | x::r,h=>by
  have ih:=qqu hs r fun y hy=>h y (List.mem_cons_of_mem _ hy)
  have hx:=h x (List.mem_cons_self ..)
  simp only[Lib.joinTail,List.map_cons,List.flatten_cons,List.length_append,List.length_cons] at ih ⊢
  omega
theorem qegc {sep:Str}(hs:sep.length≤1)(r:List Str)(h:∀ x∈r,x.length≤8):(Lib.join r sep).length≤9*r.length:=by
 cases r with
 | nil=>simp[Lib.join_nil]
 | cons x r=>
  rw[Lib.join_cons,List.length_append]
  have:=qqu hs r fun y hy=>h y (List.mem_cons_of_mem _ hy)
  have hx:=h x (List.mem_cons_self ..)
  simp only[List.length_cons]
  omega
theorem c_fdn (s:Str)(hs:s.length≤1073741824):out qyj [.one (Cell.str (bs s))]=some [.one (Cell.bool (s.all qbb&&figV 0 s))]:=by
 have hM:=qai
 have loop:∀ (r:Str) (i n:Nat),s.drop i=r→r.length < n→∀ k m,qzi k m n (bs s) i=some ([.one (Cell.bool (r.all qbb&&figV 0 s))],[]):=by
  intro r
  induction r with
  | nil=>
   intro i n hd hn k m
   obtain⟨n,rfl⟩:∃ j,n=j+1:=⟨n - 1,by omega⟩
   have:=drop_nil hd
   simp only[qzi,qbi,qbf]
   rw[decide_eq_false (by omega),cond_false]
   simp[figV]
  | cons b r ih=>
   intro i n hd hn k m
   obtain⟨n,rfl⟩:∃ j,n=j+1:=⟨n - 1,by omega⟩
   obtain⟨hlt,hg,hd'⟩:=qao hd
   simp only[List.length_cons] at hn
   simp only[qzi,qcf,hg,qfud,EV0]
   rw[decide_eq_true (by omega),cond_true,qaf (by omega),ih (i+1) n hd' (by omega)]
   simp only[List.all_cons]
   cases qbb b<;>rfl
 refine qaw (H:=[]) (qogb (s.length+1) ?_)
 have:=loop s 0 (s.length+1+1) rfl (by omega) (s.length+1+1) (s.length+1+1)
 simpa[fdn] using this
theorem c_fax (s:Str)(hs:s.length≤1073741824):out qyh [.one (Cell.str (bs s))]=some [.one (Cell.bool (s.all qbb&&figV 1 s))]:=by
 have hM:=qai
 have loop:∀ (r:Str) (i n:Nat),s.drop i=r→r.length < n→∀ k m,qzl k m n (bs s) i=some ([.one (Cell.bool (r.all qbb&&figV 1 s))],[]):=by
  intro r
  induction r with
  | nil=>
   intro i n hd hn k m
   obtain⟨n,rfl⟩:∃ j,n=j+1:=⟨n - 1,by omega⟩
   have:=drop_nil hd
   simp only[qzl,qbi,qbf]
   rw[decide_eq_false (by omega),cond_false]
   simp[figV]
  | cons b r ih=>
   intro i n hd hn k m
   obtain⟨n,rfl⟩:∃ j,n=j+1:=⟨n - 1,by omega⟩
   obtain⟨hlt,hg,hd'⟩:=qao hd
   simp only[List.length_cons] at hn
   simp only[qzl,qcf,hg,qfyd,EV0]
   rw[decide_eq_true (by omega),cond_true,qaf (by omega),ih (i+1) n hd' (by omega)]
   simp only[List.all_cons]
   cases qbb b<;>rfl
 refine qaw (H:=[]) (qpwb (s.length+1) ?_)
 have:=loop s 0 (s.length+1+1) rfl (by omega) (s.length+1+1) (s.length+1+1)
 simpa[fax] using this
theorem c_fdo (s:Str)(hs:s.length≤1073741824):out qty [.one (Cell.str (bs s))]=some [.one (Cell.bool (qox s))]:=by
 have hM:=qai
 have loop:∀ (r:Str) (i n:Nat),s.drop i=r→r.length < n→∀ k m,qpw k m n (bs s) i=some ([.one (Cell.bool (r.all qztc&&(inR s.length 1 8&&(!s.all qbb||s.length==1||s.head? != some 48))))],[]):=by
  intro r
  induction r with
  | nil=>
   intro i n hd hn k m
   obtain⟨n,rfl⟩:∃ j,n=j+1:=⟨n - 1,by omega⟩
   have:=drop_nil hd
   simp only[qpw,qbi]
   rw[decide_eq_false (by omega),cond_false]
   simp only[qayb,c_fdn s hs,figV,EV0,List.all_nil]
   cases hr:inR (s.length:Int) 1 8 with
   | false=>rfl
   | true=>
    simp only[cond_true,Bool.true_and]
    cases hf:s.all qbb with
    | false=>rfl
    | true=>
     simp only[Bool.not_true,cond_false,Bool.false_or]
     cases s with
     | nil=>simp[inR] at hr
     | cons x s=>
      have h0:bytS (bs (x::s)) 0=some (x.toNat:Int):=by
       have:=qcf (x::s) 0
       simpa using this
      have h48:((x.toNat:Int) != 48)=(x != 48):=qspb x 48 (by omega)
      have hl:(((x::s).length:Int)==1)=((x::s).length==1):=by rw[Bool.eq_iff_iff];simp only[beq_iff_eq];omega
      have hh:((x::s).head? != some 48)=(x != 48):=by simp[bne]
      simp only[h0,h48,hl,hh,Option.bind_some]
      cases ((x::s).length==1)<;>simp
  | cons b r ih=>
   intro i n hd hn k m
   obtain⟨n,rfl⟩:∃ j,n=j+1:=⟨n - 1,by omega⟩
   obtain⟨hlt,hg,hd'⟩:=qao hd
   simp only[List.length_cons] at hn
   have hb:=qtjc b
   have h45:((b.toNat:Int) != 45)=!(b==45):=qspb b 45 (by omega)
   simp only[qpw,qcf,hg,qfud,c_fdj,qayb,wrap_small (n:=(b.toNat:Int)) (by omega) (by omega),h45,EV0]
   rw[decide_eq_true (by omega),cond_true,qaf (by omega),ih (i+1) n hd' (by omega)]
   simp only[List.all_cons,qztc]
   cases qbb b<;>cases qhi b<;>cases (inR (b.toNat:Int) 65 90)<;>cases (b==45)<;>rfl
 refine qaw (H:=[]) (qngb (s.length+1) ?_)
 have:=loop s 0 (s.length+1+1) rfl (by omega) (s.length+1+1) (s.length+1+1)
 simpa[fdo,qox] using this
theorem c_fbj (s:Str)(hs:s.length≤1073741824):out qvc [.one (Cell.str (bs s))]=some [.one (Cell.bool (qox s))]:=by
 have hM:=qai
 have loop:∀ (r:Str) (i n:Nat),s.drop i=r→r.length < n→∀ k m,qkp k m n (bs s) i=some ([.one (Cell.bool (r.all qztc&&(inR s.length 1 8&&(!s.all qbb||s.length==1||s.head? != some 48))))],[]):=by
  intro r
  induction r with
  | nil=>
   intro i n hd hn k m
   obtain⟨n,rfl⟩:∃ j,n=j+1:=⟨n - 1,by omega⟩
   have:=drop_nil hd
   simp only[qkp,qbi]
   rw[decide_eq_false (by omega),cond_false]
   simp only[qkpc,c_fax s hs,figV,EV0,List.all_nil]
   cases hr:inR (s.length:Int) 1 8 with
   | false=>rfl
   | true=>
    simp only[cond_true,Bool.true_and]
    cases s with
    | nil=>simp[inR] at hr
    | cons x s=>
     cases hf:(x::s).all qbb with
     | false=>rfl
     | true=>
      have h0:bytS (bs (x::s)) 0=some (x.toNat:Int):=by
       have:=qcf (x::s) 0
       simpa using this
      have h48:((x.toNat:Int) != 48)=(x != 48):=qspb x 48 (by omega)
      have hh:((x::s).head? != some 48)=(x != 48):=by simp[bne]
      simp only[h0,h48,hh,Option.bind_some]
      by_cases hx:x=48
      ·subst hx
       cases s<;>simp
      ·have e1:((x::s)==[48])=false:=by simp[hx]
       have e2:(x != 48)=true:=by simp[hx]
       rw[e1,e2]
       simp
  | cons b r ih=>
   intro i n hd hn k m
   obtain⟨n,rfl⟩:∃ j,n=j+1:=⟨n - 1,by omega⟩
   obtain⟨hlt,hg,hd'⟩:=qao hd
   simp only[List.length_cons] at hn
   have hb:=qtjc b
   have h45:((b.toNat:Int) != 45)=!(b==45):=qspb b 45 (by omega)
   simp only[qkp,qcf,hg,qfyd,c_fba,h45,EV0]
   rw[decide_eq_true (by omega),cond_true,qaf (by omega),ih (i+1) n hd' (by omega)]
   have hr:inR (b.toNat:Int) 65 90=(decide ((b.toNat:Int)≥65)&&decide ((b.toNat:Int)≤90)):=rfl
   simp only[List.all_cons,qztc,hr]
   cases qbb b<;>cases qhi b<;>cases (decide ((b.toNat:Int)≥65))<;>cases (decide ((b.toNat:Int)≤90))<;>cases (b==45)<;>rfl
 refine qaw (H:=[]) (qqjb (s.length+1) ?_)
 have:=loop s 0 (s.length+1+1) rfl (by omega) (s.length+1+1) (s.length+1+1)
 simpa[fbj,qox] using this
theorem c_fdg (a b c:Int)(pre:List Str)(hp:bdL 1048576 (bdS 1048576) pre):out qfu [.agg [Cell.int a,Cell.int b,Cell.int c,encL 1 eStr pre]]=some [.one (Cell.bool (qfr a b c pre))]:=by
 have hM:=qai
 have hl:=hp.1
 have loop:∀ (r:List Str) (i n:Nat),pre.drop i=r→r.length < n→∀ k m,qbbb k m n i a b c (encL 1 eStr pre)=some ([.one (Cell.bool (r.all qox&&(inR a 0 9999&&(inR b 0 9999&&(inR c 0 9999&&decide (pre.length≤3))))))],[]):=by
  intro r
  induction r with
  | nil=>
   intro i n hd hn k m
   obtain⟨n,rfl⟩:∃ j,n=j+1:=⟨n - 1,by omega⟩
   have:=drop_nil hd
   simp only[qbbb,EV0]
   rw[decide_eq_false (by omega),cond_false]
   have h3:decide ((pre.length:Int)≤3)=decide (pre.length≤3):=by rw[Bool.eq_iff_iff];simp;omega
   simp only[qayb,h3,EV0,List.all_nil]
   cases inR a 0 9999<;>cases inR b 0 9999<;>cases inR c 0 9999<;>rfl
  | cons x r ih=>
   intro i n hd hn k m
   obtain⟨n,rfl⟩:∃ j,n=j+1:=⟨n - 1,by omega⟩
   obtain⟨hlt,hg,hd'⟩:=qao hd
   simp only[List.length_cons] at hn
   have hx:x.length≤1073741824:=Nat.le_trans (hp.2 x (List.mem_of_getElem? hg)) (by omega)
   simp only[qbbb,EV0]
   rw[decide_eq_true (by omega),cond_true]
   simp only[qap,hg,eStr,c_fdo x hx,qaf (show i < maxLen by omega),ih (i+1) n hd' (by omega),EV0,List.all_cons]
   cases qox x<;>rfl
 refine qaw (H:=[]) (qoeb (pre.length+1) ?_)
 exact loop pre 0 (pre.length+1+1) rfl (by omega) (pre.length+1+1) (pre.length+1+1)
theorem c_fan (a b c:Int)(pre:List Str)(hp:bdL 1048576 (bdS 1048576) pre):out qpc [.agg [Cell.int a,Cell.int b,Cell.int c,encL 1 eStr pre]]=some [.one (Cell.bool (qfr a b c pre))]:=by
 have hM:=qai
 have hl:=hp.1
 have loop:∀ (r:List Str) (i n:Nat),pre.drop i=r→r.length < n→∀ k m,qzy k m n (encL 1 eStr pre) pre.length i a b c (encL 1 eStr pre)=some ([.one (Cell.bool (r.all qox&&(inR a 0 9999&&(inR b 0 9999&&(inR c 0 9999&&decide (pre.length≤3))))))],[]):=by
  intro r
  induction r with
  | nil=>
   intro i n hd hn k m
   obtain⟨n,rfl⟩:∃ j,n=j+1:=⟨n - 1,by omega⟩
   have:=drop_nil hd
   simp only[qzy,EV0]
   rw[decide_eq_false (by omega),cond_false]
   have h3:decide ((pre.length:Int)≤3)=decide (pre.length≤3):=by rw[Bool.eq_iff_iff];simp;omega
   simp only[qkpc,h3,EV0,List.all_nil]
   cases inR a 0 9999<;>cases inR b 0 9999<;>cases inR c 0 9999<;>rfl
  | cons x r ih=>
   intro i n hd hn k m
   obtain⟨n,rfl⟩:∃ j,n=j+1:=⟨n - 1,by omega⟩
   obtain⟨hlt,hg,hd'⟩:=qao hd
   simp only[List.length_cons] at hn
   have hx:x.length≤1073741824:=Nat.le_trans (hp.2 x (List.mem_of_getElem? hg)) (by omega)
   simp only[qzy,EV0]
   rw[decide_eq_true (by omega),cond_true]
   simp only[qap,hg,eStr,c_fbj x hx,qaf (show i < maxLen by omega),ih (i+1) n hd' (by omega),EV0,List.all_cons]
   cases qox x<;>rfl
 refine qaw (H:=[]) (qqgb (pre.length+1) ?_)
 simp only[fan,EV0]
 exact loop pre 0 (pre.length+1+1) rfl (by omega) (pre.length+1+1) (pre.length+1+1)
theorem qij (xs:List Str)(sep:Str)(h1:xs.length≤3)(h2:∀ x∈xs,x.length≤8)(h3:sep.length≤1):out qfvb [.one (encL 1 eStr xs),.one (Cell.str (bs sep))]=some [.one (Cell.str (bs (Lib.join xs sep)))]:=by
 have hj:=qegc h3 xs h2
 refine qaw (H:=[]) ?_
 show qpg _ _=_
 have e:qls (xs.map eStr)=some xs:=qarb xs
 simp only[encL,qpg,e,qja]
 rw[if_pos ⟨trivial,by omega,by omega⟩]
 rfl
theorem c_fao (a b c:Int)(pre:List Str)(hp:bdL 1048576 (bdS 1048576) pre):out qki [.agg [Cell.int a,Cell.int b,Cell.int c,encL 1 eStr pre]]=some [.one (Cell.str (bs (qfj a b c pre)))]:=by
 refine qaw (H:=[]) (qodb 0 ?_)
 simp only[fao,c_fan a b c pre hp,EV0,qfj]
 cases ho:qfr a b c pre with
 | false=>rfl
 | true=>
  obtain⟨h1,h2,h3,h4,h5⟩:=qmn ho
  obtain⟨x,rfl⟩:∃ x:Nat,a=(x:Int):=⟨a.toNat,by omega⟩
  obtain⟨y,rfl⟩:∃ x:Nat,b=(x:Int):=⟨b.toNat,by omega⟩
  obtain⟨z,rfl⟩:∃ x:Nat,c=(x:Int):=⟨c.toNat,by omega⟩
  have n1:=qpub x (by omega)
  have n2:=qpub y (by omega)
  have n3:=qpub z (by omega)
  have j:=qegc (sep:=[46]) (by simp) pre h5
  have k1:catS (bs (numT x)) (bs [46])=some (bs (numT x++[46])):=qhj (by simp;omega)
  have k2:catS (bs (numT x++[46])) (bs (numT y))=some (bs (numT x++[46]++numT y)):=qhj (by simp;omega)
  have k3:catS (bs (numT x++[46]++numT y)) (bs [46])=some (bs (numT x++[46]++numT y++[46])):=qhj (by simp;omega)
  have k4:catS (bs (numT x++[46]++numT y++[46])) (bs (numT z))=some (bs (numT x++[46]++numT y++[46]++numT z)):=qhj (by simp;omega)
  have k5:catS (bs (numT x++[46]++numT y++[46]++numT z)) (bs [45])=some (bs (numT x++[46]++numT y++[46]++numT z++[45])):=qhj (by simp;omega)
  have k6:catS (bs (numT x++[46]++numT y++[46]++numT z++[45])) (bs (Lib.join pre [46]))=some (bs (numT x++[46]++numT y++[46]++numT z++[45]++Lib.join pre [46])):=qhj (by simp;omega)
  have k7:catS (bs [45]) (bs (Lib.join pre [46]))=some (bs ([45]++Lib.join pre [46])):=qhj (by simp;omega)
  have k8:catS (bs (numT x++[46]++numT y++[46]++numT z)) (bs ([45]++Lib.join pre [46]))=some (bs (numT x++[46]++numT y++[46]++numT z++([45]++Lib.join pre [46]))):=qhj (by simp;omega)
  simp only[Bool.not_true,cond_false,qewd x (by omega),qewd y (by omega),qewd z (by omega),k1,k2,k3,k4,EV0,if_true,Int.toNat_natCast]
  by_cases hz:pre.length=0
  ·rw[decide_eq_false (by omega),cond_false,if_pos hz]
   simp
  ·rw[decide_eq_true (by omega),cond_true,if_neg hz]
   simp only[qij pre [46] h4 h5 (by simp),k5,k6,k7,k8,EV0]
   try simp
theorem qjzb {c:UInt8}:∀ {s:Str},c∈s→s=ahead c s++c::behind c s
 | [],h=>by simp at h
 | x::s,h=>by
  by_cases e:x=c
  ·subst e
   simp[ahead,behind]
  ·have h':c∈s:=by
    rcases List.mem_cons.1 h with h | h
    ·exact absurd h.symm e
    ·exact h
   have:=qjzb h'
   simp only[ahead,behind] at this ⊢
   have hx:(x != c)=true:=by simp[e]
   rw[List.takeWhile_cons,List.dropWhile_cons,hx]
   simpa using this
theorem quv (c:UInt8):∀ (n:Nat) (s:Str),s.length≤n→Lib.join (split c s) [c]=s:=by
 intro n
 induction n with
 | zero=>
  intro s hs
  obtain rfl:s=[]:=List.eq_nil_of_length_eq_zero (by omega)
  rw[qkx (by simp),Lib.join_one]
 | succ n ih=>
  intro s hs
  by_cases h:c∈s
  ·have hlt:(behind c s).length≤n:=by
    have:=congrArg List.length (qjzb h)
    simp only[List.length_append,List.length_cons] at this
    omega
   have ihb:=ih (behind c s) hlt
   rw[qsb h,Lib.join_cons]
   cases hsp:split c (behind c s) with
   | nil=>exact absurd hsp (qlh _ _)
   | cons y r=>
    rw[hsp,Lib.join_cons] at ihb
    conv=>rhs;rw[qjzb h]
    rw[← ihb]
    simp[Lib.joinTail]
  ·rw[qkx h,Lib.join_one]
def qjv (s:Str):List Str:=if 45∈s then split 46 (behind 45 s) else []
def qae (s:Str):MVer×Bool:=
 match split 46 (ahead 45 s) with
 | [x,y,z]=>match qan x 9999,qan y 9999,qan z 9999 with
  | some a,some b,some c=>if qfr a b c (qjv s) then (⟨a,b,c,qjv s⟩,true) else (⟨0,0,0,[]⟩,false)
  | _,_,_=>(⟨0,0,0,[]⟩,false)
 | _=>(⟨0,0,0,[]⟩,false)
theorem qrbb {s x y z:Str}{a b c:Nat}(h:split 46 (ahead 45 s)=[x,y,z])(ha:qan x 9999=some a)(hb:qan y 9999=some b)(hc:qan z 9999=some c):(qfj a b c (qjv s)==s)=qfr a b c (qjv s):=by
 have hu:=quv 46 _ (ahead 45 s) (Nat.le_refl _)
 rw[h] at hu
 have hu2:ahead 45 s=numT a++[46]++numT b++[46]++numT c:=by
  rw[← hu,Lib.join_cons,(qcg ha).1,(qcg hb).1,(qcg hc).1]
  simp[Lib.joinTail]
 cases hok:qfr a b c (qjv s) with
 | false=>
  have ht:qfj a b c (qjv s)=[]:=by rw[qfj,hok];rfl
  rw[ht]
  cases s with
  | nil=>simp[ahead] at hu2
  | cons q s=>rfl
 | true=>
  have ht:qfj a b c (qjv s)=s:=by
   rw[qfj,hok]
   simp only[if_true,Int.toNat_natCast]
   rw[← hu2]
   by_cases hd:(45:UInt8)∈s
   ·have hp:qjv s=split 46 (behind 45 s):=if_pos hd
    have hne:(qjv s).length≠0:=by
     rw[hp]
     intro h0
     exact qlh _ _ (List.eq_nil_of_length_eq_zero h0)
    rw[if_neg hne,hp,quv 46 _ _ (Nat.le_refl _)]
    exact(qjzb hd).symm
   ·have hp:qjv s=[]:=if_neg hd
    rw[hp,if_pos (by simp),List.append_nil,qss hd]
  rw[ht]
  simp
theorem qrqb {s:Str}(hs:s.length≤1048576):bdL 1048576 (bdS 1048576) (qjv s):=by
 unfold qjv
 split
 ·rename_i hm
  have h:=qbv 46 (behind 45 s) []
  have hb:=qlb 45 s
  have hlt:(behind 45 s).length+1≤s.length:=by
   have:=congrArg List.length (qjzb hm)
   simp only[List.length_append,List.length_cons] at this
   omega
  refine⟨by have:=h.1;unfold split;omega,fun x hx=>?_⟩
  have:=h.2 x hx
  simp only[List.length_nil,Nat.zero_add] at this
  exact Nat.le_trans this (by omega)
 ·exact⟨by simp,by simp⟩
theorem quzc (s:Str)(hs:s.length≤1048576):outL qkj [.one (Cell.str (bs s))]=some [.agg [Cell.int (qae s).1.A,Cell.int (qae s).1.B,Cell.int (qae s).1.C,qbu (qae s).1.Pre],.one (Cell.bool (qae s).2)]:=by
  have hM := qai
  have hal := qzg 45 s
  have hbl := qlb 45 s
  have hget : ∀ i, i < (ahead 45 s).length → ∃ b : UInt8, s[i]? = some b ∧ b ≠ 45 := fun i hi => by
    have hna := qccb (c := 45) s
    refine ⟨(ahead 45 s)[i], ?_, fun e => by have hm := List.getElem_mem hi; rw [e] at hm; exact hna hm⟩
    have h1 : (ahead 45 s)[i]? = some (ahead 45 s)[i] := List.getElem?_eq_getElem hi
    rw [← h1, ← qgg 45 s, List.getElem?_take, if_pos hi]
  have loop : ∀ (d i n : Nat), i + d = (ahead 45 s).length → ∀ k m, qks k m (n + d) (bs s) i = qks k m n (bs s) (ahead 45 s).length := by
    intro d
    induction d with
    | zero => intro i n hi k m; obtain rfl : i = (ahead 45 s).length := by omega
              rfl
    | succ d ih =>
      intro i n hi k m
      obtain ⟨b, hb, hne⟩ := hget i (by omega)
      have h45' : ((b.toNat : Int) != 45) = !(b == 45) := qspb b 45 (by omega)
      have h45 : ((b.toNat : Int) != 45) = true := by rw [h45']; simp [hne]
      show qks k m ((n + d) + 1) (bs s) i = _
      simp only [qks, qcf, hb, qbi, Option.map_some, Option.bind_some, h45, cond_true]
      rw [decide_eq_true (by have := (List.getElem?_eq_some_iff.1 hb).1; omega), cond_true, qaf (by omega)]
      exact ih (i + 1) n (by omega) k m
  have hsplit : ∀ t : Str, t.length ≤ 1073741824 → outL qdm [.one (Cell.str (bs t)), .one (.sc (.int .u8 46))] = some [.one (qbu (split 46 t))] := fun t ht => c_fde t 46 ht
  have hnum : ∀ x : Str, x.length ≤ 1073741824 → out qcm [.one (Cell.str (bs x)), .one (Cell.int 9999)] = some (numV (qan x 9999)) := fun x hx => c_fda x 9999 hx (by omega)
  have hlen : ∀ x ∈ split 46 (ahead 45 s), x.length ≤ 1073741824 := fun x hx => by
    have := (qbv 46 (ahead 45 s) []).2 x hx
    simp only [List.length_nil, Nat.zero_add] at this
    omega
  have hz : mapO (qam false []) [.agg [Cell.int 0, Cell.int 0, Cell.int 0, .lst true 1 []], .one (Cell.bool false)] = some [.agg [Cell.int 0, Cell.int 0, Cell.int 0, qbu []], .one (Cell.bool false)] := rfl
  have h46 : subS (bs s) 0 ((ahead 45 s).length : Int) = some (bs (ahead 45 s)) := by
    have := qcq s 0 (ahead 45 s).length (Nat.zero_le _) hal
    rw [qgg, List.drop_zero] at this
    simpa using this
  by_cases hd : (45 : UInt8) ∈ s
  · have hlt := qsx hd
    have hc : s[(ahead 45 s).length]? = some 45 := by
      have h1 := qjzb hd
      generalize ahead 45 s = u at h1 ⊢
      generalize behind 45 s = v at h1
      rw [h1]
      simp
    have hsub : subS (bs s) (((ahead 45 s).length + 1 : Nat) : Int) (s.length : Int) = some (bs (behind 45 s)) := by
      have := qcq s ((ahead 45 s).length + 1) s.length (by omega) (Nat.le_refl _)
      rw [List.take_of_length_le (Nat.le_refl _), qgt] at this
      exact this
    have hp : qjv s = split 46 (behind 45 s) := if_pos hd
    have hv := fun a b c => c_fdg a b c (qjv s) (qrqb hs)
    rw [hp] at hv
    have core : ∀ k m n, ∃ xs, qks k m (n + 1) (bs s) (ahead 45 s).length = some (xs, []) ∧ mapO (qam false []) xs = some [.agg [Cell.int (qae s).1.A, Cell.int (qae s).1.B, Cell.int (qae s).1.C, qbu (qae s).1.Pre], .one (Cell.bool (qae s).2)] := by
      intro k m n
      simp only [qks, qcf, hc, qbi, Option.map_some, Option.bind_some, show (((45 : UInt8).toNat : Int) != 45) = false from rfl, cond_false]
      rw [decide_eq_true (by omega), cond_true, qaf (by omega)]
      simp only [hsub, hsplit _ (by omega : (behind 45 s).length ≤ 1073741824), h46, hsplit _ (by omega : (ahead 45 s).length ≤ 1073741824), EV0]
      unfold qae
      rw [hp]
      split
      · rename_i x y z hsp
        have lx := hlen x (by rw [hsp]; simp)
        have ly := hlen y (by rw [hsp]; simp)
        have lz := hlen z (by rw [hsp]; simp)
        have i0 : idxA 1 (encL 1 eStr [x, y, z]) 0 = some (.ref (eStr x) 0) := rfl
        have i1 : idxA 1 (encL 1 eStr [x, y, z]) 1 = some (.ref (eStr y) 0) := rfl
        have i2 : idxA 1 (encL 1 eStr [x, y, z]) 2 = some (.ref (eStr z) 0) := rfl
        simp only [hsp, List.length_cons, List.length_nil, i0, i1, i2, eStr, hnum x lx, hnum y ly, hnum z lz, EV0]
        rw [show (((0 + 1 + 1 + 1 : Nat) : Int) != 3) = false from rfl, cond_false]
        cases hx : qan x 9999 with
        | none => cases hy : qan y 9999 <;> cases hzz : qan z 9999 <;> exact ⟨_, rfl, hz⟩
        | some a => cases hy : qan y 9999 with
          | none => cases hzz : qan z 9999 <;> exact ⟨_, rfl, hz⟩
          | some b => cases hzz : qan z 9999 with
            | none => exact ⟨_, rfl, hz⟩
            | some c =>
              simp only [numV, hv, EV0, Bool.not_true]
              cases hok : qfr a b c (split 46 (behind 45 s)) with
              | false => exact ⟨_, rfl, hz⟩
              | true => exact ⟨_, rfl, qau [.agg [Cell.int a, Cell.int b, Cell.int c, qbu (split 46 (behind 45 s))], .one (Cell.bool true)] _ _⟩
      · rename_i hno
        refine ⟨_, ?_, hz⟩
        rw [show (((split 46 (ahead 45 s)).length : Int) != 3) = true by
          rw [bne_iff_ne]
          intro h3
          have h3' : (split 46 (ahead 45 s)).length = 3 := by omega
          match h : split 46 (ahead 45 s), h3' with
          | [x, y, z], _ => exact hno x y z h, cond_true]
    obtain ⟨xs, z1, z2⟩ := core ((ahead 45 s).length + 1 + 1) ((ahead 45 s).length + 1 + 1) 1
    refine qbn (H := []) (qvq ((ahead 45 s).length + 1) ?_) z2
    have := loop (ahead 45 s).length 0 2 (by omega) ((ahead 45 s).length + 1 + 1) ((ahead 45 s).length + 1 + 1)
    rw [show 2 + (ahead 45 s).length = (ahead 45 s).length + 1 + 1 by omega] at this
    simp only [fdc]
    rw [show (0 : Int) = ((0 : Nat) : Int) from rfl, this]
    exact z1
  · have hall := qss hd
    have hp : qjv s = [] := if_neg hd
    have hv := fun a b c => c_fdg a b c [] ⟨by simp, by simp⟩
    have hv' : ∀ a b c, qak qfu [.agg [Cell.int a, Cell.int b, Cell.int c, .lst true 1 []]] [] = some [.one (Cell.bool (qfr a b c []))] := fun a b c => (qdu (show mapO (qam false []) [.agg [Cell.int a, Cell.int b, Cell.int c, .lst true 1 []]] = some [.agg [Cell.int a, Cell.int b, Cell.int c, qbu []]] from rfl)).trans (hv a b c)
    have core : ∀ k m n, ∃ xs, qks k m (n + 1) (bs s) (ahead 45 s).length = some (xs, []) ∧ mapO (qam false []) xs = some [.agg [Cell.int (qae s).1.A, Cell.int (qae s).1.B, Cell.int (qae s).1.C, qbu (qae s).1.Pre], .one (Cell.bool (qae s).2)] := by
      intro k m n
      simp only [qks, qbi]
      rw [decide_eq_false (by rw [hall]; omega), cond_false, cond_false]
      simp only [h46, hsplit _ (by omega : (ahead 45 s).length ≤ 1073741824), EV0]
      unfold qae
      rw [hp]
      split
      · rename_i x y z hsp
        have lx := hlen x (by rw [hsp]; simp)
        have ly := hlen y (by rw [hsp]; simp)
        have lz := hlen z (by rw [hsp]; simp)
        have i0 : idxA 1 (encL 1 eStr [x, y, z]) 0 = some (.ref (eStr x) 0) := rfl
        have i1 : idxA 1 (encL 1 eStr [x, y, z]) 1 = some (.ref (eStr y) 0) := rfl
        have i2 : idxA 1 (encL 1 eStr [x, y, z]) 2 = some (.ref (eStr z) 0) := rfl
        simp only [hsp, List.length_cons, List.length_nil, i0, i1, i2, eStr, hnum x lx, hnum y ly, hnum z lz, EV0]
        rw [show (((0 + 1 + 1 + 1 : Nat) : Int) != 3) = false from rfl, cond_false]
        cases hx : qan x 9999 with
        | none => cases hy : qan y 9999 <;> cases hzz : qan z 9999 <;> exact ⟨_, rfl, hz⟩
        | some a => cases hy : qan y 9999 with
          | none => cases hzz : qan z 9999 <;> exact ⟨_, rfl, hz⟩
          | some b => cases hzz : qan z 9999 with
            | none => exact ⟨_, rfl, hz⟩
            | some c =>
              simp only [numV, hv', EV0, Bool.not_true]
              cases hok : qfr a b c [] with
              | false => exact ⟨_, rfl, hz⟩
              | true => exact ⟨_, rfl, rfl⟩
      · rename_i hno
        refine ⟨_, ?_, hz⟩
        rw [show (((split 46 (ahead 45 s)).length : Int) != 3) = true by
          rw [bne_iff_ne]
          intro h3
          have h3' : (split 46 (ahead 45 s)).length = 3 := by omega
          match h : split 46 (ahead 45 s), h3' with
          | [x, y, z], _ => exact hno x y z h, cond_true]
    obtain ⟨xs, z1, z2⟩ := core ((ahead 45 s).length + 1 + 1) ((ahead 45 s).length + 1 + 1) 1
    refine qbn (H := []) (qvq ((ahead 45 s).length + 1) ?_) z2
    have := loop (ahead 45 s).length 0 2 (by omega) ((ahead 45 s).length + 1 + 1) ((ahead 45 s).length + 1 + 1)
    rw [show 2 + (ahead 45 s).length = (ahead 45 s).length + 1 + 1 by omega] at this
    simp only [fdc]
    rw [show (0 : Int) = ((0 : Nat) : Int) from rfl, this]
    exact z1
theorem qcgd (c:UInt8)(s:Str):cutV c s=[.one (Cell.str (bs (ahead c s))),.one (Cell.str (bs (behind c s))),.one (Cell.bool (decide (c∈s)))]:=by
 unfold cutV
 split
 ·rename_i h
  rw[decide_eq_true h]
 ·rename_i h
  rw[decide_eq_false h,qss h,qiab h]
theorem qjk (H:List Entry):Sp (Rep H true true 2) [] [Cell.int 0,Cell.int 0,Cell.int 0,.lst true 1 []] (⟨0,0,0,[]⟩:MVer).tr:=by
 unfold MVer.tr
 exact Sp.cons (i:=[]) (qcx _) (Sp.cons (i:=[]) (qcx _) (Sp.cons (i:=[]) (qcx _) (Sp.cons (i:=[]) (.inl ⟨rfl,rfl,true,rfl⟩) .nil)))
def verH (A:List Entry)(row:List Cell):List Entry:=A++[Entry.mk 4 [row] 0 false]
theorem verH_0 (A:List Entry)(p q r t v:Cell):qbm (verH A [p,q,r,t]) (.ptr A.length 4 0 0 0) [v]=some (verH A [v,q,r,t]):=by simp[verH,qbm,entry?,splice,List.set_append]
theorem verH_1 (A:List Entry)(p q r t v:Cell):qbm (verH A [p,q,r,t]) (.ptr A.length 4 0 1 0) [v]=some (verH A [p,v,r,t]):=by simp[verH,qbm,entry?,splice,List.set_append]
theorem verH_2 (A:List Entry)(p q r t v:Cell):qbm (verH A [p,q,r,t]) (.ptr A.length 4 0 2 0) [v]=some (verH A [p,q,v,t]):=by simp[verH,qbm,entry?,splice,List.set_append]
theorem verH_3 (A E2:List Entry)(p q r t v:Cell):qbm (verH A [p,q,r,t]++E2) (.ptr A.length 4 0 3 0) [v]=some (verH A [p,q,r,v]++E2):=by simp[verH,qbm,entry?,splice,List.set_append]
theorem verH_d (A E2:List Entry)(row:List Cell):deref (verH A row++E2) (.ptr A.length 4 0 0 0)=some (row,0):=by simp[verH,deref,entry?]
theorem qdvd (A:List Entry)(row:List Cell):deref (verH A row) (.ptr A.length 4 0 0 0)=some (row,0):=by simp[verH,deref,entry?]
theorem qowb (H:List Entry)(a b c:Int):mapO (qam false H) [.agg [Cell.int a,Cell.int b,Cell.int c,.lst true 1 []]]=some [.agg [Cell.int a,Cell.int b,Cell.int c,qbu []]]:=rfl
theorem f_fah (s:Str)(hs:s.length≤1048576):Fresh qhg true 2 [.one (Cell.str (bs s))] [.agg (qae s).1.tr,.one (.leaf (.bool (qae s).2))]:=by
 have hM:=qai
 have hal:=qzg 45 s
 have hbl:=qlb 45 s
 have hcut:out qrj [.one (Cell.str (bs s)),.one (Cell.str (bs [45]))]=some [.one (Cell.str (bs (ahead 45 s))),.one (Cell.str (bs (behind 45 s))),.one (Cell.bool (decide ((45:UInt8)∈s)))]:=by
  rw[c_fek s 45 (by omega),qcgd]
 obtain⟨c7,E,is,e1,r1,w1,_⟩:=qaeb (qfxd (ahead 45 s) 46 (by omega)) ([]:List Entry) (qau [.one (Cell.str (bs (ahead 45 s))),.one (Cell.str (bs [46]))] _ _)
 generalize hA:([]:List Entry)++E=A at e1 r1
 have hl:=qkc.of (n:=2) r1
 have fz:∀ H,qhg [.one (Cell.str (bs s))] []=some ([.agg [Cell.int 0,Cell.int 0,Cell.int 0,.lst true 1 []],.one (Cell.bool false)],H)→qae s=(⟨0,0,0,[]⟩,false)→Fresh qhg true 2 [.one (Cell.str (bs s))] [.agg (qae s).1.tr,.one (.leaf (.bool (qae s).2))]:=fun H h1 h2=>by
  rw[h2]
  exact Fresh.agg1 (n:=1) h1 (qjk H) (by simp)
 by_cases h3:(split 46 (ahead 45 s)).length=3
 rotate_left
 ·refine fz A (qvh 0 ?_) ?_
  ·simp only[fah,hcut,e1,hl.len,EV0]
   rw[show(((split 46 (ahead 45 s)).length:Int) != 3)=true by rw[bne_iff_ne];omega,cond_true]
  ·unfold qae
   split
   ·rename_i x y z hsp
    rw[hsp] at h3
    simp at h3
   ·rfl
 ·obtain⟨x,y,z,hsp⟩:∃ x y z,split 46 (ahead 45 s)=[x,y,z]:=by
   match h:split 46 (ahead 45 s),h3 with
   | [x,y,z],_=>exact⟨x,y,z,rfl⟩
  rw[hsp] at hl
  have hlen:∀ x∈split 46 (ahead 45 s),x.length≤1073741824:=fun x hx=>by
   have:=(qbv 46 (ahead 45 s) []).2 x hx
   simp only[List.length_nil,Nat.zero_add] at this
   omega
  have lx:=hlen x (by rw[hsp];simp)
  have ly:=hlen y (by rw[hsp];simp)
  have lz:=hlen z (by rw[hsp];simp)
  have hnum:∀ x:Str,x.length≤1073741824→out qio [.one (Cell.str (bs x)),.one (Cell.int 9999)]=some (numV (qan x 9999)):=fun x hx=>c_faf x 9999 hx (by omega)
  have s0:=verH_0 A
  have s1:=verH_1 A
  have s2:=verH_2 A
  have s3:=verH_3 A
  have dv:=verH_d A
  have dv0:=qdvd A
  have hf:∀ row,qkc (verH A row) is c7 [x,y,z]:=fun row=>hl.frame fun j hj=>List.getElem?_append_left (r1.lt j hj)
  have at0:∀ row,∃ a rw off,idxA 1 c7 0=some a∧deref (verH A row) a=some (rw,off)∧cS rw off=some (bs x):=fun row=>by simpa using (hf row).at (i:=0) (s:=x) rfl
  have at1:∀ row,∃ a rw off,idxA 1 c7 1=some a∧deref (verH A row) a=some (rw,off)∧cS rw off=some (bs y):=fun row=>by simpa using (hf row).at (i:=1) (s:=y) rfl
  have at2:∀ row,∃ a rw off,idxA 1 c7 2=some a∧deref (verH A row) a=some (rw,off)∧cS rw off=some (bs z):=fun row=>by simpa using (hf row).at (i:=2) (s:=z) rfl
  have k1:IntKind.i64.wrap ((0:Int)+1)=1:=wrap_small (by omega) (by omega)
  have k2:IntKind.i64.wrap ((1:Int)+1)=2:=wrap_small (by omega) (by omega)
  have k3:IntKind.i64.wrap ((2:Int)+1)=3:=wrap_small (by omega) (by omega)
  have fin:∀ (a b c:Nat),qan x 9999=some a→qan y 9999=some b→qan z 9999=some c→∀ n k m,∃ cs H ids,qpq k m (n+1) (bs s) (bs (behind 45 s)) (decide ((45:UInt8)∈s)) c7 (.ptr A.length 4 0 0 0) (.ptr A.length 4 0 0 0) (.ptr A.length 4 0 1 0) (.ptr A.length 4 0 2 0) 3 (verH A [Cell.int a,Cell.int b,Cell.int c,.lst true 1 []])=
    some ([.agg cs,.one (Cell.bool (qae s).2)],H)∧Sp (Rep H true true 2) ids cs (qae s).1.tr∧ids.Nodup:=by
   intro a b c ha hb hc n k m
   have ht:=qrbb hsp ha hb hc
   have pv:qae s=if qfr a b c (qjv s) then (⟨a,b,c,qjv s⟩,true) else (⟨0,0,0,[]⟩,false):=by
    unfold qae
    rw[hsp]
    simp only[ha,hb,hc]
   have hvt:=c_fao a b c (qjv s) (qrqb hs)
   rw[pv]
   rw[qpq,show decide ((3:Int) < 3)=false from rfl,cond_false]
   by_cases hd:(45:UInt8)∈s
   ·have hp:qjv s=split 46 (behind 45 s):=if_pos hd
    obtain⟨c29,E2,is2,e2,r2,w2,_⟩:=qaeb (qfxd (behind 45 s) 46 (by omega)) (verH A [Cell.int a,Cell.int b,Cell.int c,.lst true 1 []]) (qau [.one (Cell.str (bs (behind 45 s))),.one (Cell.str (bs [46]))] _ _)
    rw[← hp] at r2
    have r3:Rep (verH A [Cell.int a,Cell.int b,Cell.int c,c29]++E2) true true 2 is2 c29 (trL 1 qdj (qjv s)):=r2.frame fun j hj=>by
     have h5:=w2.lo j hj
     rw[List.getElem?_append_right (by simp[verH] at h5 ⊢;omega),List.getElem?_append_right h5]
     simp[verH]
    have hsp3:Sp (Rep (verH A [Cell.int a,Cell.int b,Cell.int c,c29]++E2) true true 2) (is2++[]) [Cell.int a,Cell.int b,Cell.int c,c29] (⟨a,b,c,qjv s⟩:MVer).tr:=by
     unfold MVer.tr
     exact Sp.cons (i:=[]) (qcx _) (Sp.cons (i:=[]) (qcx _) (Sp.cons (i:=[]) (qcx _) (Sp.cons r3 .nil)))
    have q1:qak qki [.agg [Cell.int a,Cell.int b,Cell.int c,c29]] (verH A [Cell.int a,Cell.int b,Cell.int c,c29]++E2)=some [.one (Cell.str (bs (qfj a b c (qjv s))))]:=by
     have:=qcc (qch hsp3 (by omega)) (qbk (qam false (verH A [Cell.int a,Cell.int b,Cell.int c,c29]++E2)))
     simp only[MVer.tr,List.map_cons,List.map_nil,qbl,qbs] at this
     rw[qdu this]
     exact hvt
    rw[decide_eq_true hd,cond_true]
    simp only[e2,qfg,Nat.zero_add,s3,dv,q1,ht,EV0]
    cases hok:qfr a b c (qjv s) with
    | false=>exact⟨_,_,[],rfl,qjk _,by simp⟩
    | true=>exact⟨_,_,is2++[],rfl,hsp3,by simpa using w2.nd⟩
   ·have hp:qjv s=[]:=if_neg hd
    rw[decide_eq_false hd,cond_false]
    have q1:qak qki [.agg [Cell.int a,Cell.int b,Cell.int c,.lst true 1 []]] (verH A [Cell.int a,Cell.int b,Cell.int c,.lst true 1 []])=some [.one (Cell.str (bs (qfj a b c (qjv s))))]:=by
     rw[hp] at hvt ⊢
     exact(qdu (qowb _ _ _ _)).trans hvt
    simp only[dv0,q1,ht,EV0]
    cases hok:qfr a b c (qjv s) with
    | false=>exact⟨_,_,[],rfl,qjk _,by simp⟩
    | true=>
     refine⟨_,_,[],rfl,?_,by simp⟩
     rw[hp]
     unfold MVer.tr
     exact Sp.cons (i:=[]) (qcx _) (Sp.cons (i:=[]) (qcx _) (Sp.cons (i:=[]) (qcx _) (Sp.cons (i:=[]) (.inl ⟨rfl,rfl,true,rfl⟩) .nil)))
  have go:∀ n k m,n=4→∃ cs H ids,qpq k m n (bs s) (bs (behind 45 s)) (decide ((45:UInt8)∈s)) c7 (.ptr A.length 4 0 0 0) (.ptr A.length 4 0 0 0) (.ptr A.length 4 0 1 0) (.ptr A.length 4 0 2 0) 0 (verH A [Cell.int 0,Cell.int 0,Cell.int 0,.lst true 1 []])=
    some ([.agg cs,.one (Cell.bool (qae s).2)],H)∧Sp (Rep H true true 2) ids cs (qae s).1.tr∧ids.Nodup:=by
   intro n k m hn
   obtain⟨n,rfl⟩:∃ q,n=q+1+1+1+1:=⟨0,hn⟩
   have bad:qan x 9999=none∨qan y 9999=none∨qan z 9999=none→qae s=(⟨0,0,0,[]⟩,false):=fun h=>by
    unfold qae
    rw[hsp]
    rcases h with h | h | h
    ·simp only[h]
    ·simp only[h]
     cases qan x 9999<;>rfl
    ·simp only[h]
     cases qan x 9999<;>cases qan y 9999<;>rfl
   obtain⟨a0,w0,o0,i0,j0,l0⟩:=at0 [Cell.int 0,Cell.int 0,Cell.int 0,.lst true 1 []]
   rw[qpq,show decide ((0:Int) < 3)=true from rfl,cond_true,if_pos ⟨by omega,by omega⟩]
   simp only[show(0:Int).toNat*1=0 from rfl,i0,j0,l0,hnum x lx,EV0]
   cases hx:qan x 9999 with
   | none=>
    rw[bad (.inl hx)]
    exact⟨_,_,[],rfl,qjk _,by simp⟩
   | some a=>
    simp only[numV,EV0,Bool.not_true,ptrC,s0,k1]
    obtain⟨a1,w1,o1,i1,j1,l1⟩:=at1 [Cell.int a,Cell.int 0,Cell.int 0,.lst true 1 []]
    rw[qpq,show decide ((1:Int) < 3)=true from rfl,cond_true,if_pos ⟨by omega,by omega⟩]
    simp only[show(1:Int).toNat*1=1 from rfl,i1,j1,l1,hnum y ly,EV0]
    cases hy:qan y 9999 with
    | none=>
     rw[bad (.inr (.inl hy))]
     exact⟨_,_,[],rfl,qjk _,by simp⟩
    | some b=>
     simp only[numV,EV0,Bool.not_true,ptrC,s1,k2]
     obtain⟨a2,w2,o2,i2,j2,l2⟩:=at2 [Cell.int a,Cell.int b,Cell.int 0,.lst true 1 []]
     rw[qpq,show decide ((2:Int) < 3)=true from rfl,cond_true,if_pos ⟨by omega,by omega⟩]
     simp only[show(2:Int).toNat*1=2 from rfl,i2,j2,l2,hnum z lz,EV0]
     cases hzz:qan z 9999 with
     | none=>
      rw[bad (.inr (.inr hzz))]
      exact⟨_,_,[],rfl,qjk _,by simp⟩
     | some c=>
      simp only[numV,EV0,Bool.not_true,ptrC,s2,k3]
      exact fin a b c hx hy hzz n k m
  obtain⟨cs,H,ids,z1,z2,z3⟩:=go (3+1) (3+1) (3+1) rfl
  have hrun:∀ q,fah q q (bs s)=qpq q q q (bs s) (bs (behind 45 s)) (decide ((45:UInt8)∈s)) c7 (.ptr A.length 4 0 0 0) (.ptr A.length 4 0 0 0) (.ptr A.length 4 0 1 0) (.ptr A.length 4 0 2 0) 0 (verH A [Cell.int 0,Cell.int 0,Cell.int 0,.lst true 1 []]):=by
   intro q
   simp only[fah,hcut,e1,hl.len,EV0]
   rw[show(((0+1+1+1:Nat):Int) != 3)=false from rfl,cond_false]
   rfl
  have z0:=(hrun (3+1)).trans z1
  exact Fresh.agg1 (n:=1) (qvh 3 z0) z2 z3
structure RCmp where
 op:Int
 v:MVer
def eCmp (c:RCmp):List Cell:=[Cell.int c.op,Cell.int c.v.A,Cell.int c.v.B,Cell.int c.v.C,qbu c.v.Pre]
instance:CanonE eCmp:=⟨fun _=>CanonLs.canon (cs:=[_,_,_,_,_])⟩
def eInt (x:Int):List Cell:=[Cell.int x]
instance:CanonE eInt:=⟨fun _=>.cons inferInstance .nil⟩
def zeroV:MVer:=⟨0,0,0,[]⟩
def xS:Str:=[120]
def oneV (x:Str):Option (MVer×Nat):=match qan x 9999 with | some a=>some (⟨a,0,0,[]⟩,1) | none=>none
def twoV (x y:Str):Option (MVer×Nat):=match qan x 9999,qan y 9999 with | some a,some b=>some (⟨a,b,0,[]⟩,2) | _,_=>none
def numsOf:List Str→Option (MVer×Nat) | [x]=>oneV x | [x,y]=>if y=xS then oneV x else twoV x y | [x,y,z]=>if z=xS then (if y=xS then oneV x else twoV x y) else none | _=>none
def partOf (s:Str):Option (MVer×Nat):=if (qae s).2 then some ((qae s).1,3) else numsOf (split 46 s)
def qet (v:MVer)(told:Nat):MVer:=if told=1 then ⟨v.A+1,0,0,[]⟩ else ⟨v.A,v.B+1,0,[]⟩
def qia (v:MVer):RCmp:=⟨1,⟨v.A,v.B,v.C,[[48]]⟩⟩
def qey (v:MVer)(told:Nat):MVer:=if v.A≠0∨told=1 then ⟨v.A+1,0,0,[]⟩ else if v.B≠0∨told=2 then ⟨0,v.B+1,0,[]⟩ else ⟨0,0,v.C+1,[]⟩
def qcv (g:Str)(v:MVer)(told:Nat):List RCmp:=if g=[94] then [⟨4,v⟩,qia (qey v told)] else if g=[126] then [⟨4,v⟩,qia (qet v told)] else if g=[62,61] then [⟨4,v⟩] else if g=[62] then (if told=3 then [⟨3,v⟩] else [⟨4,qet v told⟩]) else if g=[60,61] then (if told=3 then [⟨2,v⟩] else [qia (qet v told)]) else if g=[60] then [⟨1,v⟩] else if told=3 then [⟨0,v⟩] else [⟨4,v⟩,qia (qet v told)]
def signs:List Str:=[[94],[126],[62,61],[62],[60,61],[60],[61],[]]
def qeq (w:Str):List Str→Option (List RCmp) | []=>none | g::r=>if g.isPrefixOf w then (match partOf (w.drop g.length) with | some p=>some (qcv g p.1 p.2) | none=>none) else qeq w r
def qjj (w:Str):Option (List RCmp):=if w=[42] then some [⟨4,zeroV⟩] else qeq w signs
def qdl:List Str→List RCmp→Option (List RCmp)
 | [],acc=>some acc
 | w::r,acc=>match qjj w with | some l=>qdl r (acc++l) | none=>none
def qhf (v:MVer):Bool:=qfr v.A v.B v.C v.Pre
def qghd (ws:List Str):Option (List RCmp):=match qdl ws [] with
 | some l=>if l.length≤4∧l.all (fun c=>qhf c.v)=true then some l else none
 | none=>none
def qzpb (ws:List Str):Option (Str×Str):=match ws with
 | [a,b,c]=>if b=[45] then some (a,c) else none
 | _=>none
def qqp (ws:List Str):Option (List RCmp):=match qzpb ws with
 | some (a,c)=>if (qae a).2&&(qae c).2 then some [⟨4,(qae a).1⟩,⟨2,(qae c).1⟩] else none
 | none=>qghd ws
def qzc (s:Str):Str:=s.dropWhile (·==32)
def qog:Str→Str
 | []=>[]
 | x::s=>match qog s with | []=>if x=32 then [] else [x] | y::r=>x::y::r
def trim (s:Str):Str:=qzc (qog s)
theorem trimLR (s:Str):qog (qzc s)=qzc (qog s):=by
 induction s with
 | nil=>rfl
 | cons x s ih=>
  by_cases hx:x=32
  ·subst hx
   have e1:qzc (32::s)=qzc s:=by simp[qzc]
   rw[e1,ih]
   simp only[qog]
   cases h:qog s with
   | nil=>simp[qzc]
   | cons y r=>simp[qzc]
  ·have e1:qzc (x::s)=x::s:=by simp[qzc,hx]
   rw[e1]
   simp only[qog]
   cases h:qog s with
   | nil=>simp[qzc,hx]
   | cons y r=>simp[qzc,hx]
theorem qrx (s:Str):qog (s++[32])=qog s:=by
 induction s with
 | nil=>rfl
 | cons x s ih=>
  rw[List.cons_append]
  simp only[qog,ih]
theorem qrk (s:Str)(y:UInt8)(h:y≠32):qog (s++[y])=s++[y]:=by
 induction s with
 | nil=>simp[qog,h]
 | cons x s ih=>
  rw[List.cons_append]
  simp only[qog,ih]
  cases s<;>rfl
theorem qgtc (s:Str):(qog s).length≤s.length:=by
 induction s with
 | nil=>exact Nat.le_refl _
 | cons x s ih=>
  cases h:qog s with
  | nil=>
   have e:qog (x::s)=if x=32 then [] else [x]:=by simp only[qog,h]
   rw[e]
   split<;>simp
  | cons y r=>
   have e:qog (x::s)=x::y::r:=by simp only[qog,h]
   rw[e]
   rw[h] at ih
   simp only[List.length_cons] at ih ⊢
   omega
theorem qozc (s:Str):(qzc s).length≤s.length:=(List.dropWhile_suffix (fun x=>x==32) (l:=s)).length_le
theorem qeqc (s:Str):(trim s).length≤s.length:=Nat.le_trans (qozc _) (qgtc s)
def qbz (cur:Str):Str→List Str | []=>[cur] | [b]=>[cur++[b]] | a::b::r=>if a=124∧b=124 then cur::qbz [] r else qbz (cur++[a]) (b::r)
def sides (s:Str):List Str:=qbz [] s
theorem qfc:∀ (n:Nat) (s cur:Str),s.length≤n→(qbz cur s).length≤s.length+1∧∀ x∈qbz cur s,x.length≤cur.length+s.length
 | _,[],cur,_=>by simp[qbz]
 | _,[b],cur,_=>by simp[qbz]
 | 0,a::b::r,_,h=>by simp at h
 | n+1,a::b::r,cur,h=>by
  simp only[List.length_cons] at h
  simp only[qbz]
  split
  ·have h1:=qfc n r [] (by omega)
   refine⟨by simp only[List.length_cons];omega,fun x hx=>?_⟩
   rcases List.mem_cons.1 hx with rfl | hx
   ·omega
   ·have:=h1.2 x hx
    simp only[List.length_nil,List.length_cons] at this ⊢
    omega
  ·have h1:=qfc n (b::r) (cur++[a]) (by simp only[List.length_cons];omega)
   simp only[List.length_cons,List.length_append,List.length_nil] at h1 ⊢
   refine⟨by omega,fun x hx=>?_⟩
   have:=h1.2 x hx
   omega
def qkl (piece:Str):Option (List RCmp):=qqp (split 32 (trim piece))
def qdk:List Str→List (List RCmp)→Option (List (List RCmp))
 | [],acc=>some acc
 | p::r,acc=>match qkl p with | some l=>qdk r (acc++[l]) | none=>none
def qbx (s:Str):Option (List (List RCmp)):=if (sides s).length≤4 then qdk (sides s) [] else none
def qrsb (l:List RCmp):List Cell:=[encL 5 eCmp l]
instance:CanonE qrsb:=⟨fun _=>.cons inferInstance .nil⟩
def qkk (l:List (List RCmp)):Cell:=encL 1 qrsb l
def oo:Str:=[124,124]
theorem qatc (a b:UInt8)(r:Str):oo.isPrefixOf (a::b::r)=decide (a=124∧b=124):=by
 simp only[oo,List.isPrefixOf,Bool.and_true]
 rw[Bool.eq_iff_iff]
 simp only[Bool.and_eq_true,beq_iff_eq,decide_eq_true_eq]
 exact⟨fun h=>⟨h.1.symm,h.2.symm⟩,fun h=>⟨h.1.symm,h.2.symm⟩⟩
theorem qlpb (a b:UInt8)(r:Str):Lib.index (a::b::r) oo=if a=124∧b=124 then 0 else if Lib.index (b::r) oo==-1 then -1 else Lib.index (b::r) oo+1:=by
 rw[Lib.index,qatc]
 simp only[decide_eq_true_eq]
theorem oo_one (b:UInt8):Lib.index [b] oo=-1:=by simp[Lib.index,oo,List.isPrefixOf]
theorem qop:∀ (s cur:Str),Lib.index s oo=-1→qbz cur s=[cur++s]
 | [],cur,_=>by simp[qbz]
 | [b],cur,_=>by simp[qbz]
 | a::b::r,cur,h=>by
  rw[qlpb] at h
  by_cases hab:a=124∧b=124
  ·rw[if_pos hab] at h
   omega
  ·rw[if_neg hab] at h
   have h2:Lib.index (b::r) oo=-1:=by
    have:=Lib.index_ge (b::r) oo
    split at h
    ·rename_i h3
     simpa using h3
    ·omega
   rw[qbz,if_neg hab,qop (b::r) _ h2]
   simp
theorem qtc:∀ (s cur:Str) (i:Nat),Lib.index s oo=(i:Int)→qbz cur s=(cur++s.take i)::qbz [] (s.drop (i+2))∧i+2≤s.length
 | [],cur,i,h=>by simp[Lib.index,oo] at h
 | [b],cur,i,h=>by rw[oo_one] at h;omega
 | a::b::r,cur,i,h=>by
  rw[qlpb] at h
  by_cases hab:a=124∧b=124
  ·rw[if_pos hab] at h
   obtain rfl:i=0:=by omega
   rw[qbz,if_pos hab]
   simp
  ·rw[if_neg hab] at h
   split at h
   ·omega
   ·rename_i h3
    have hge:=Lib.index_ge (b::r) oo
    obtain⟨j,rfl⟩:∃ j,i=j+1:=⟨i - 1,by simp at h3;omega⟩
    obtain⟨h4,h5⟩:=qtc (b::r) (cur++[a]) j (by omega)
    rw[qbz,if_neg hab,h4]
    simp only[List.length_cons] at h5 ⊢
    refine⟨?_,by omega⟩
    rw[show j+1+2=(j+2)+1 by omega,List.drop_succ_cons,List.take_succ_cons]
    simp
theorem qji:∀ (n:Nat) (s:Str),s.length≤n→(sides s).length=Lib.count s oo+1:=by
 intro n
 induction n with
 | zero=>
  intro s h
  obtain rfl:s=[]:=List.eq_nil_of_length_eq_zero (by omega)
  rfl
 | succ n ih=>
  intro s h
  rcases Lib.index_spec s oo with⟨h1,_⟩ | ⟨i,h1,_⟩
  ·rw[sides,qop _ _ h1,Lib.count_miss h1]
   rfl
  ·obtain⟨h2,h3⟩:=qtc s [] i h1
   rw[sides,h2,List.length_cons]
   have:=ih (s.drop (i+2)) (by simp;omega)
   rw[sides] at this
   rw[this,Lib.count_hit (by simp[oo]) h1]
   have e:i+oo.length=i+2:=rfl
   rw[e]
   omega
theorem qjob (s:Str):Lib.count s oo≤s.length:=by
 have h1:=qji s.length s (Nat.le_refl _)
 have h2:=(qfc s.length s [] (Nat.le_refl _)).1
 unfold sides at h1
 omega
theorem qnk (s:Str)(hs:s.length≤1073741824):out quh [.one (Cell.str (bs s)),.one (Cell.str (bs oo))]=some [.one (Cell.int ((Lib.count s oo:Nat):Int))]:=by
 refine qaw (H:=[]) ?_
 show qdv _ _=_
 have e:qdv [.one (.sc (.string (bs s))),.one (.sc (.string (bs oo)))] []=if (bs s).size < 4294967281∧2≤(bs oo).size then some ([.one (.sc (.int .i64 (Lib.count (bs s).data.toList (bs oo).data.toList:Nat)))],[]) else none:=rfl
 rw[e,if_pos ⟨by rw[qbi];omega,by rw[qbi];decide⟩]
 simp only[qja]
theorem qin (s:Str)(hs:s.length≤1073741824):qnr [.one (Cell.str (bs s)),.one (Cell.str (bs oo)),.one (Cell.int 0),.one (Cell.int (-1))] []=some ([.one (.vs 0 1 0 (Lib.count s oo+1) 0)],[Entry.mk 1 ((sides s).map eStr) 0 false]):=by
 have hM:=qai
 have hct:Lib.count s oo≤s.length:=qjob s
 have hsl:=qji s.length s (Nat.le_refl _)
 have hput:∀ (rows:List (List Cell)) (i:Nat) (row:List Cell) (y:Str),rows[i]?=some row→row.length=1→qbm [Entry.mk 1 rows 0 false] (.ptr 0 1 i 0 0) [Cell.str (bs y)]=some [Entry.mk 1 (rows.set i (eStr y)) 0 false]:=by
  intro rows i row y h hr
  simp only[qbm,entry?,List.getElem?_cons_zero,if_true,h]
  rw[if_pos ⟨trivial,by simp,trivial⟩]
  simp[splice,eStr,hr,List.drop_eq_nil_of_le]
 have loop:∀ (d:Nat) (r:Str) (done:List Str) (n:Nat),Lib.count r oo=d→done.length+d=Lib.count s oo→r.length≤s.length→sides s=done++sides r→d < n→∀ k m,
   qnd k m n (bs r) (bs oo) 0 ((Lib.count s oo:Nat):Int) (.vs 0 1 0 (Lib.count s oo+1) 0) ((done.length:Nat):Int) [Entry.mk 1 (done.map eStr++List.replicate (d+1) [Cell.str (bs [])]) 0 false]=
    some ([.one (.vs 0 1 0 (Lib.count s oo+1) 0)],[Entry.mk 1 ((sides s).map eStr) 0 false]):=by
  intro d
  induction d with
  | zero=>
   intro r done n hc hd hr hsp hn k m
   obtain⟨n,rfl⟩:∃ j,n=j+1:=⟨n - 1,by omega⟩
   have hnc:sides r=[r]:=by
    rcases Lib.index_spec r oo with⟨h1,_⟩ | ⟨i,h1,_⟩
    ·rw[sides,qop _ _ h1]
     rfl
    ·have:=Lib.count_hit (sub:=oo) (by simp[oo]) h1
     omega
   simp only[qnd]
   rw[decide_eq_false (by omega),cond_false]
   have hrow:(done.map eStr++List.replicate (0+1) [Cell.str (bs [])])[done.length]?=some [Cell.str (bs [])]:=by simp
   simp only[qjd 0 1 (Lib.count s oo+1) 0 done.length (by omega),Option.bind_some,hput _ _ _ r hrow rfl]
   have hset:(done.map eStr++List.replicate (0+1) [Cell.str (bs [])]).set done.length (eStr r)=(sides s).map eStr:=by
    rw[hsp,hnc,List.set_append_right _ _ (by simp)]
    simp
   rw[hset,show IntKind.i64.wrap ((done.length:Int)+1)=((Lib.count s oo+1:Nat):Int) by rw[qaf (by omega)];omega]
   have hsl':slcC 1 (.vs 0 1 0 (Lib.count s oo+1) 0) 0 (some ((Lib.count s oo+1:Nat):Int)) none=some (.vs 0 1 0 (Lib.count s oo+1) 0):=by
    simp only[slcC,Option.getD_some,Option.getD_none,if_true]
    rw[if_pos ⟨by omega,by omega,by omega,by omega⟩,if_pos (.inl trivial)]
    simp
   rw[hsl']
   rfl
  | succ d ih=>
   intro r done n hc hd hr hsp hn k m
   obtain⟨n,rfl⟩:∃ j,n=j+1:=⟨n - 1,by omega⟩
   obtain⟨i,hi⟩:∃ i:Nat,Lib.index r oo=(i:Int):=by
    rcases Lib.index_spec r oo with⟨h1,_⟩ | ⟨i,h1,_⟩
    ·have:=Lib.count_miss h1
     omega
    ·exact⟨i,h1⟩
   obtain⟨h2,h3⟩:=qtc r [] i hi
   have h4:=Lib.count_hit (sub:=oo) (by simp[oo]) hi
   have e5:i+oo.length=i+2:=rfl
   rw[e5] at h4
   simp only[qnd]
   rw[decide_eq_true (by omega),cond_true]
   simp only[qgh r oo (by omega),hi,EV0]
   rw[decide_eq_false (by omega),cond_false]
   have e1:=qcq r 0 i (by omega) (by omega)
   simp only[Int.natCast_zero,List.drop_zero] at e1
   rw[show IntKind.i64.wrap ((i:Int)+0)=(i:Int) by rw[Int.add_zero];exact wrap_small (by omega) (by omega),e1]
   have hrow:(done.map eStr++List.replicate (d+1+1) [Cell.str (bs [])])[done.length]?=some [Cell.str (bs [])]:=by simp
   simp only[Option.bind_some,qjd 0 1 (Lib.count s oo+1) 0 done.length (by omega),hput _ _ _ (r.take i) hrow rfl]
   have e2:=qcq r (i+2) r.length (by omega) (Nat.le_refl _)
   rw[List.take_length] at e2
   rw[show IntKind.i64.wrap ((i:Int)+((oo.length:Nat):Int))=((i+2:Nat):Int) by rw[wrap_small (by simp[oo];omega) (by simp[oo];omega)];simp[oo],e2,qaf (by omega)]
   simp only[Option.bind_some]
   have hset:(done.map eStr++List.replicate (d+1+1) [Cell.str (bs [])]).set done.length (eStr (r.take i))=(done++[r.take i]).map eStr++List.replicate (d+1) [Cell.str (bs [])]:=by
    rw[List.set_append_right _ _ (by simp)]
    simp[List.replicate_succ]
   rw[hset]
   have h6:sides r=r.take i::sides (r.drop (i+2)):=by
    rw[sides,h2]
    rfl
   have:=ih (r.drop (i+2)) (done++[r.take i]) n (by omega) (by simp;omega) (by simp;omega) (by rw[hsp,h6];simp) (by omega) k m
   rw[show(done++[r.take i]).length=done.length+1 by simp] at this
   exact this
 have hmin:(if IntKind.i64.wrap ((s.length:Int)+1) < IntKind.i64.wrap (((Lib.count s oo:Nat):Int)+1) then IntKind.i64.wrap ((s.length:Int)+1) else IntKind.i64.wrap (((Lib.count s oo:Nat):Int)+1))=((Lib.count s oo+1:Nat):Int):=by
  rw[qaf (by omega),qaf (by omega),if_neg (by omega)]
 have z:=loop (Lib.count s oo) s [] (Lib.count s oo+1+1) rfl (by simp) (Nat.le_refl _) (by simp) (by omega) (Lib.count s oo+1+1) (Lib.count s oo+1+1)
 refine qxj (Lib.count s oo+1) ?_
 ·simp only[fer]
  rw[show((-1:Int)==0)=false from rfl,cond_false]
  simp only[qbf]
  rw[show((oo:Str)==[])=false from rfl,cond_false,show decide ((-1:Int) < 0)=true from rfl,cond_true]
  simp only[qnk s hs,EV0,hmin]
  rw[if_pos ⟨by omega,by omega,by unfold bound;omega,by unfold bound;omega⟩]
  rw[show IntKind.i64.wrap (((Lib.count s oo+1:Nat):Int) - 1)=((Lib.count s oo:Nat):Int) from qdi (by omega)]
  simpa[qce] using z
theorem qnu (s:Str)(hs:s.length≤1073741824):Fresh qex true 2 [.one (Cell.str (bs s)),.one (Cell.str (bs oo))] [.one (trL 1 qdj (sides s))]:=by
 have hg:GrowAt ([]:List Entry).length 1 (.vs 0 1 0 (Lib.count s oo+1) 0) [Entry.mk 1 ((sides s).map eStr) 0 false] ((sides s).map eStr):=.inr ⟨0,by rw[List.length_map,qji s.length s (Nat.le_refl _)];rfl,rfl⟩
 obtain⟨ids,r1,r2,_⟩:=hg.list
 refine Fresh.tailO (Fresh.one (qin s hs) r1 r2) [] (qau _ _ _) fun c' E hc=>qvp 0 ?_
 simp only[feo,hc,EV0]
theorem qsu {α:Type}{sz:Nat}{e:α→List Cell}[CanonE e](f:Bool)(xs:List α)(H:List Entry):qam false H (.one (.lst f sz (xs.map e)))=some (.one (encL sz e xs)):=by
 have h:=(inferInstance:Canon (encL sz e xs)).nrm
 have e':norm (.lst f sz (xs.map e))=norm (encL sz e xs):=by simp only[encL,norm]
 show((some (norm (.lst f sz (xs.map e)))).map AV.one)=_
 rw[e',h]
 rfl
theorem c_fep (s:Str)(hs:s.length≤1073741824):out qdbb [.one (Cell.str (bs s)),.one (Cell.str (bs [32]))]=some [.one (Cell.str (bs (trim s)))]:=by
 have key:∀ t:Str,(t.reverse.dropWhile (·==32)).reverse=qog t:=by
  intro t
  generalize hn:t.length=n
  induction n generalizing t with
  | zero=>
   have:t=[]:=List.eq_nil_of_length_eq_zero hn
   subst this
   rfl
  | succ n ih=>
   obtain⟨u,y,rfl⟩:∃ u y,t=u++[y]:=by
    have hne:t≠[]:=fun h=>by rw[h] at hn;simp at hn
    exact⟨t.dropLast,t.getLast hne,(List.dropLast_concat_getLast hne).symm⟩
   by_cases hy:y=32
   ·subst hy
    rw[qrx,← ih u (by simpa using hn)]
    simp
   ·rw[qrk u y hy]
    simp[hy]
 refine qaw (H:=[]) ?_
 show qit _ _=_
 have e:qit [.one (.sc (.string (bs s))),.one (.sc (.string (bs [32])))] []=if (32:UInt8).toNat < 128∧(bs s).size≤9223372036854775807 then some ([.one (.sc (.string ⟨(Lib.trimB (bs s).data.toList 32).toArray⟩))],[]) else none:=rfl
 rw[e,if_pos ⟨by decide,by rw[qbi];omega⟩,qja]
 unfold Lib.trimB Lib.trimLeftB Lib.trimRightB
 rw[key]
 rfl
theorem c_fdz (s:Str)(hs:s.length≤1073741824):out qxm [.one (Cell.str (bs s))]=some [.one (Cell.str (bs (trim s)))]:=by
 have hM:=qai
 have right:∀ (n:Nat) (t:Str),t.length≤1073741824→t.length < n→∀ k m,qze k m n (bs t)=some ([.one (Cell.str (bs (qog t)))],[]):=by
  intro n
  induction n with
  | zero=>intro t h0 h;omega
  | succ n ih=>
   intro t h0 h k m
   by_cases ht:t=[]
   ·subst ht
    rfl
   ·obtain⟨u,y,rfl⟩:∃ u y,t=u++[y]:=⟨t.dropLast,t.getLast ht,(List.dropLast_concat_getLast ht).symm⟩
    have hlen:(u++[y]).length=u.length+1:=by simp
    have hw:IntKind.i64.wrap (((u++[y]).length:Int) - 1)=(u.length:Int):=by
     rw[hlen]
     exact qdi (by omega)
    have hb:bytS (bs (u++[y])) (u.length:Int)=some (y.toNat:Int):=by
     rw[qcf]
     simp
    have h32:((y.toNat:Int)==32)=(y==32):=qewc y 32 (by omega)
    have hsub:subS (bs (u++[y])) 0 (u.length:Int)=some (bs u):=by
     have:=qcq (u++[y]) 0 u.length (Nat.zero_le _) (by simp)
     simpa using this
    simp only[qze,qbi,hw,hb,h32,hsub,Option.bind_some]
    rw[decide_eq_true (by rw[hlen];omega),cond_true]
    by_cases hy:y=32
    ·subst hy
     rw[show((32:UInt8)==32)=true from rfl,cond_true,ih u (by omega) (by omega),qrx]
    ·rw[show(y==32)=false by simpa using hy,cond_false,qrk u y hy]
 have left:∀ (n:Nat) (t:Str),t.length≤1073741824→t.length < n→∀ k m,t.length < m→qzx k m n (bs t)=some ([.one (Cell.str (bs (qog (qzc t))))],[]):=by
  intro n
  induction n with
  | zero=>intro t h0 h;omega
  | succ n ih=>
   intro t h0 h k m hm
   cases t with
   | nil=>
    simp only[qzx,qbi]
    rw[show decide (((([]:Str).length:Nat):Int) > 0)=false from rfl,cond_false,right m [] h0 hm]
    rfl
   | cons x t=>
    have hb:bytS (bs (x::t)) 0=some (x.toNat:Int):=by
     have:=qcf (x::t) 0
     simpa using this
    have h32:((x.toNat:Int)==32)=(x==32):=qewc x 32 (by omega)
    have hsub:subS (bs (x::t)) 1 ((x::t).length:Int)=some (bs t):=by
     have:=qcq (x::t) 1 (x::t).length (by simp) (Nat.le_refl _)
     rw[List.take_length] at this
     exact this
    simp only[List.length_cons] at h0 h hm
    simp only[qzx,qbi,hb,h32,hsub,Option.bind_some]
    rw[decide_eq_true (by simp only[List.length_cons];omega),cond_true]
    by_cases hx:x=32
    ·subst hx
     rw[show((32:UInt8)==32)=true from rfl,cond_true,ih t (by omega) (by omega) k m (by omega)]
     simp[qzc]
    ·rw[show(x==32)=false by simpa using hx,cond_false,right m (x::t) (by simp;omega) (by simp;omega)]
     simp[qzc,hx]
 refine qaw (H:=[]) (qpjb (s.length+1) ?_)
 have z:=left (s.length+1+1) s hs (by omega) (s.length+1+1) (s.length+1+1) (by omega)
 rw[trimLR] at z
 simp only[fdz]
 exact z
theorem c_fdx (s:Str)(hs:s.length≤1073741824):outL qxu [.one (Cell.str (bs s))]=some [.one (qbu (sides s))]:=by
 have hM:=qai
 have loop:∀ (n:Nat) (r:Str) (i from':Nat) (cur:Str) (cl:Cell) (H:List Entry) (done:List Str),s.drop i=r→from'≤i→i≤s.length→(s.take i).drop from'=cur→r.length < n→Grow 1 cl H (done.map eStr)→done.length≤i→
   ∀ k m,∃ cl' H',qjl k m n (bs s) cl from' i H=some ([.one cl'],H')∧Grow 1 cl' H' ((done++qbz cur r).map eStr):=by
  intro n
  induction n with
  | zero=>intro r i from' cur cl H done hd hf hi hc hn;omega
  | succ n ih=>
   intro r i from' cur cl H done hd hf hi hc hn hg hdl k m
   have fin:s.length≤i+1→qbz cur r=[s.drop from']→∃ cl' H',qjl k m (n+1) (bs s) cl from' i H=some ([.one cl'],H')∧Grow 1 cl' H' ((done++qbz cur r).map eStr):=by
    intro h1 h2
    obtain⟨p,hp,hgp⟩:=hg.app (by':=16) [eStr (s.drop from')] (by simp[bound];omega) (by simp[bound];omega)
    refine⟨p.1,p.2,?_,by rw[h2];simpa using hgp⟩
    have hsub:=qcq s from' s.length (by omega) (Nat.le_refl _)
    rw[List.take_length] at hsub
    simp only[qjl,qbi,qaf (show i < maxLen by omega)]
    rw[decide_eq_false (by omega),cond_false,hsub]
    simp only[Option.bind_some]
    rw[show [[Cell.str (bs (s.drop from'))]]=[eStr (s.drop from')] from rfl,hp]
    rfl
   cases r with
   | nil=>
    have:=drop_nil hd
    refine fin (by omega) ?_
    rw[qbz,← hc,List.take_of_length_le (by omega)]
   | cons a r=>
    obtain⟨hlt,hga,hda⟩:=qao hd
    have hcur:(s.take (i+1)).drop from'=cur++[a]:=by
     rw[← hc,List.take_add_one,hga,List.drop_append]
     have:from' - (s.take i).length=0:=by rw[List.length_take];omega
     rw[this]
     rfl
    cases r with
    | nil=>
     have:=drop_nil hda
     refine fin (by omega) ?_
     rw[qbz,← hcur,List.take_of_length_le (by omega)]
    | cons b r=>
     obtain⟨hlt2,hgb,hdb⟩:=qao hda
     simp only[List.length_cons] at hn
     have ha:((a.toNat:Int)==124)=(a==124):=qewc a 124 (by omega)
     have hb:((b.toNat:Int)==124)=(b==124):=qewc b 124 (by omega)
     have w1:IntKind.i64.wrap ((i:Int)+1)=((i+1:Nat):Int):=qaf (by omega)
     have w2:IntKind.i64.wrap ((i:Int)+2)=((i+2:Nat):Int):=by rw[wrap_small (by omega) (by omega)];omega
     have w3:IntKind.i64.wrap (((i+1:Nat):Int)+1)=((i+2:Nat):Int):=qaf (by omega)
     have next:qbz cur (a::b::r)=qbz (cur++[a]) (b::r)→∃ cl' H',qjl k m n (bs s) cl from' ((i+1:Nat):Int) H=some ([.one cl'],H')∧Grow 1 cl' H' ((done++qbz cur (a::b::r)).map eStr):=by
      intro h
      rw[h]
      exact ih (b::r) (i+1) from' (cur++[a]) cl H done hda (by omega) (by omega) hcur (by simp only[List.length_cons];omega) hg (by omega) k m
     by_cases h1:a=124
     ·by_cases h2:b=124
      ·obtain⟨p,hp,hgp⟩:=hg.app (by':=16) [eStr cur] (by simp[bound];omega) (by simp[bound];omega)
       obtain⟨cl',H',z1,z2⟩:=ih r (i+2) (i+2) [] p.1 p.2 (done++[cur]) hdb (by omega) (by omega) (by simp) (by omega) (by simpa using hgp) (by simp;omega) k m
       refine⟨cl',H',?_,?_⟩
       ·simp only[qjl,qbi,qcf,w1,w2,w3,hga,hgb,ha,hb,Option.map_some,Option.bind_some]
        rw[decide_eq_true (by omega),cond_true,show(a==124)=true by simpa using h1,show(b==124)=true by simpa using h2,cond_true,cond_true,qcq _ _ _ hf (by omega),hc]
        simp only[Option.bind_some]
        rw[show [[Cell.str (bs cur)]]=[eStr cur] from rfl,hp]
        simp only[Option.bind_some]
        exact z1
       ·rw[qbz,if_pos ⟨h1,h2⟩]
        simpa using z2
      ·obtain⟨cl',H',z1,z2⟩:=next (by rw[qbz,if_neg fun h=>h2 h.2])
       refine⟨cl',H',?_,z2⟩
       simp only[qjl,qbi,qcf,w1,w2,w3,hga,hgb,ha,hb,Option.map_some,Option.bind_some]
       rw[decide_eq_true (by omega),cond_true,show(a==124)=true by simpa using h1,show(b==124)=false by simpa using h2,cond_true,cond_false]
       exact z1
     ·obtain⟨cl',H',z1,z2⟩:=next (by rw[qbz,if_neg fun h=>h1 h.1])
      refine⟨cl',H',?_,z2⟩
      simp only[qjl,qbi,qcf,w1,w2,w3,hga,hgb,ha,hb,Option.map_some,Option.bind_some]
      rw[decide_eq_true (by omega),cond_true,show(a==124)=false by simpa using h1,cond_false]
      exact z1
 obtain⟨cl',H',z1,z2⟩:=loop (s.length+1+1) s 0 0 [] (.lst true 1 []) [] [] rfl (by omega) (by omega) (by simp) (by omega) (Grow.nil 1) (by simp) (s.length+1+1) (s.length+1+1)
 refine qbn (H:=H') (qqkb (s.length+1) ?_) (Grow.read z2)
 simpa[fdx] using z1
def okV (v:MVer):Prop:=(0≤v.A∧v.A≤9999)∧(0≤v.B∧v.B≤9999)∧(0≤v.C∧v.C≤9999)∧v.Pre.length≤3∧∀ x∈v.Pre,x.length≤8
theorem qez {s:Str}(h:(qae s).2=true):qhf (qae s).1=true:=by
 unfold qae at h ⊢
 split at h<;>try (simp at h;done)
 split at h<;>try (simp at h;done)
 split at h<;>try (simp at h;done)
 rename_i hk
 simp only[qhf]
 rw[if_pos hk]
 exact hk
theorem xS_num:qan xS 9999=none:=by decide
theorem qqwb {x:Str}{p:MVer×Nat}(h:oneV x=some p):okV p.1∧p.2=1:=by
 unfold oneV at h
 split at h
 ·rename_i a ha
  have:=(qcg ha).2.1
  simp only[Option.some.injEq] at h
  subst h
  exact⟨⟨by simp only;omega,by simp,by simp,by simp,by simp⟩,rfl⟩
 ·simp at h
theorem qesc {x y:Str}{p:MVer×Nat}(h:twoV x y=some p):okV p.1∧p.2=2:=by
 unfold twoV at h
 split at h
 ·rename_i a b ha hb
  have h1:=(qcg ha).2.1
  have h2:=(qcg hb).2.1
  simp only[Option.some.injEq] at h
  subst h
  exact⟨⟨by simp only;omega,by simp only;omega,by simp,by simp,by simp⟩,rfl⟩
 ·simp at h
theorem qsf {s:Str}{p:MVer×Nat}(h:partOf s=some p):okV p.1∧(1≤p.2∧p.2≤3):=by
 unfold partOf at h
 split at h
 ·rename_i hk
  simp only[Option.some.injEq] at h
  subst h
  have:=qmn (qez hk)
  exact⟨this,by simp⟩
 ·unfold numsOf at h
  split at h
  ·obtain⟨h1,h2⟩:=qqwb h
   exact⟨h1,by omega⟩
  ·split at h
   ·obtain⟨h1,h2⟩:=qqwb h
    exact⟨h1,by omega⟩
   ·obtain⟨h1,h2⟩:=qesc h
    exact⟨h1,by omega⟩
  ·split at h
   ·split at h
    ·obtain⟨h1,h2⟩:=qqwb h
     exact⟨h1,by omega⟩
    ·obtain⟨h1,h2⟩:=qesc h
     exact⟨h1,by omega⟩
   ·simp at h
  ·simp at h
def okB (v:MVer):Prop:=(0≤v.A∧v.A≤10000)∧(0≤v.B∧v.B≤10000)∧(0≤v.C∧v.C≤10000)∧v.Pre.length≤3∧∀ x∈v.Pre,x.length≤8
theorem qydc {v:MVer}(h:okB v):v.Bd 1048576:=by
 obtain⟨h1,h2,h3,h4,h5⟩:=h
 exact⟨by simp only[bdI];omega,by simp only[bdI];omega,by simp only[bdI];omega,by omega,fun x hx=>by have:=h5 x hx;simp only[bdS];omega⟩
theorem okV_B {v:MVer}(h:okV v):okB v:=by
 obtain⟨h1,h2,h3,h4,h5⟩:=h
 exact⟨by omega,by omega,by omega,h4,h5⟩
theorem qelc {v:MVer}(h:okV v)(t:Nat):okB (qet v t):=by
 obtain⟨h1,h2,h3,h4,h5⟩:=h
 unfold qet
 split<;>exact⟨by simp only;omega,by simp only;omega,by simp only;omega,by simp,by simp⟩
theorem qlrc {v:MVer}(h:okV v)(t:Nat):okB (qey v t):=by
 obtain⟨h1,h2,h3,h4,h5⟩:=h
 unfold qey
 split
 ·exact⟨by simp only;omega,by simp only;omega,by simp only;omega,by simp,by simp⟩
 ·split<;>exact⟨by simp only;omega,by simp only;omega,by simp only;omega,by simp,by simp⟩
theorem qmxb {v:MVer}(h:okB v):okB (qia v).v:=by
 obtain⟨h1,h2,h3,h4,h5⟩:=h
 exact⟨h1,h2,h3,by simp[qia],by simp[qia]⟩
theorem qpkb (g:Str){v:MVer}(h:okV v)(t:Nat):(qcv g v t).length≤2∧∀ c∈qcv g v t,okB c.v:=by
 have a:=okV_B h
 have b:=qmxb (qlrc h t)
 have c:=qmxb (qelc h t)
 have d:=qelc h t
 unfold qcv
 (repeat' split)<;>exact⟨by simp,by simp[a,b,c,d]⟩
theorem qlob (w:Str):∀ (r:List Str) (l:List RCmp),qeq w r=some l→l.length≤2∧∀ c∈l,okB c.v
 | [],l,h=>by simp[qeq] at h
 | g::r,l,h=>by
  unfold qeq at h
  split at h
  ·split at h
   ·rename_i p hp
    simp only[Option.some.injEq] at h
    subst h
    exact qpkb g (qsf hp).1 p.2
   ·simp at h
  ·exact qlob w r l h
theorem qzf {w:Str}{l:List RCmp}(h:qjj w=some l):l.length≤2∧∀ c∈l,okB c.v:=by
 unfold qjj at h
 split at h
 ·simp only[Option.some.injEq] at h
  subst h
  exact⟨by simp,by simp[zeroV,okB]⟩
 ·exact qlob w signs l h
theorem qqv (L:List RCmp)(f:Bool)(H:List Entry):mapO (qam false H) [.one (.lst f 5 (L.map eCmp))]=some [.one (encL 5 eCmp L)]:=
 qcc (qsu f L H) (qbk _)
theorem leafRB (L:List RCmp)(f:Bool)(b:Bool)(H:List Entry):mapO (qam false H) [.one (.lst f 5 (L.map eCmp)),.one (Cell.bool b)]=some [.one (encL 5 eCmp L),.one (Cell.bool b)]:=
 qcc (qsu f L H) (qcc (qaz _ _ _) (qbk _))
theorem w1 {a:Int}(h:0≤a∧a≤9999):IntKind.i64.wrap (a+1)=a+1:=wrap_small (by omega) (by omega)
theorem c_fdr (v:MVer)(t:Nat)(b:Bool):outL qgj [.agg [Cell.int v.A,Cell.int v.B,Cell.int v.C,qbu v.Pre,Cell.int t,Cell.bool b]]=some [.agg [Cell.int 4,Cell.int v.A,Cell.int v.B,Cell.int v.C,qbu v.Pre]]:=
 qnzb (H:=[]) (qmob 0 rfl)
theorem qgv (a b c:Int)(H:List Entry):mapO (qam false H) [.agg [Cell.int a,Cell.int b,Cell.int c,.lst true 1 []]]=some [.agg [Cell.int a,Cell.int b,Cell.int c,qbu []]]:=rfl
theorem c_fdp (v:MVer):outL qeo [.agg [Cell.int v.A,Cell.int v.B,Cell.int v.C,qbu v.Pre]]=some [.agg [Cell.int 1,Cell.int v.A,Cell.int v.B,Cell.int v.C,qbu [[48]]]]:=
 qbn (H:=[]) (qnpb 0 rfl) rfl
theorem c_fap (v:MVer):outL qka [.agg [Cell.int v.A,Cell.int v.B,Cell.int v.C,qbu v.Pre]]=some [.agg [Cell.int 1,Cell.int v.A,Cell.int v.B,Cell.int v.C,qbu [[48]]]]:=
 qbn (H:=[]) (qplb 0 rfl) rfl
theorem nEq (t n:Nat):((t:Int)==(n:Int))=decide (t=n):=by rw[Bool.eq_iff_iff];simp only[beq_iff_eq,decide_eq_true_eq];omega
theorem i_ne (a:Int):(a != 0)=decide (a≠0):=by rw[Bool.eq_iff_iff];simp
theorem qie (v:MVer)(hv:okV v)(t:Nat):cond (v.A != 0)
 (some ([AV.agg [Cell.int (IntKind.i64.wrap (v.A+1)),Cell.int 0,Cell.int 0,.lst true 1 []]],([]:List Entry)))
 (cond ((t:Int)==1)
 (some ([.agg [Cell.int (IntKind.i64.wrap (v.A+1)),Cell.int 0,Cell.int 0,.lst true 1 []]],[]))
 (cond (v.B != 0)
 (some ([.agg [Cell.int 0,Cell.int (IntKind.i64.wrap (v.B+1)),Cell.int 0,.lst true 1 []]],[]))
 (cond ((t:Int)==2)
 (some ([.agg [Cell.int 0,Cell.int (IntKind.i64.wrap (v.B+1)),Cell.int 0,.lst true 1 []]],[]))
 (some ([.agg [Cell.int 0,Cell.int 0,Cell.int (IntKind.i64.wrap (v.C+1)),.lst true 1 []]],[])))))=some ([.agg [Cell.int (qey v t).A,Cell.int (qey v t).B,Cell.int (qey v t).C,.lst true 1 []]],[])∧(qey v t).Pre=[]:=by
 rw[w1 hv.1,w1 hv.2.1,w1 hv.2.2.1,i_ne,i_ne,show((t:Int)==1)=decide (t=1) from nEq t 1,show((t:Int)==2)=decide (t=2) from nEq t 2]
 unfold qey
 by_cases h1:v.A≠0
 ·rw[decide_eq_true h1,cond_true,if_pos (.inl h1)]
  exact⟨rfl,rfl⟩
 ·rw[decide_eq_false h1,cond_false]
  by_cases h2:t=1
  ·rw[decide_eq_true h2,cond_true,if_pos (.inr h2)]
   exact⟨rfl,rfl⟩
  ·rw[decide_eq_false h2,cond_false,if_neg (fun h=>h.elim h1 h2)]
   by_cases h3:v.B≠0
   ·rw[decide_eq_true h3,cond_true,if_pos (.inl h3)]
    exact⟨rfl,rfl⟩
   ·rw[decide_eq_false h3,cond_false]
    by_cases h4:t=2
    ·rw[decide_eq_true h4,cond_true,if_pos (.inr h4)]
     exact⟨rfl,rfl⟩
    ·rw[decide_eq_false h4,cond_false,if_neg (fun h=>h.elim h3 h4)]
     exact⟨rfl,rfl⟩
theorem qgw (v:MVer)(hv:okV v)(t:Nat):cond ((t:Int)==1)
 (some ([AV.agg [Cell.int (IntKind.i64.wrap (v.A+1)),Cell.int 0,Cell.int 0,.lst true 1 []]],([]:List Entry)))
 (some ([.agg [Cell.int v.A,Cell.int (IntKind.i64.wrap (v.B+1)),Cell.int 0,.lst true 1 []]],[]))=some ([.agg [Cell.int (qet v t).A,Cell.int (qet v t).B,Cell.int (qet v t).C,.lst true 1 []]],[])∧(qet v t).Pre=[]:=by
 rw[w1 hv.1,w1 hv.2.1,show((t:Int)==1)=decide (t=1) from nEq t 1]
 unfold qet
 by_cases h2:t=1
 ·rw[decide_eq_true h2,cond_true,if_pos h2]
  exact⟨rfl,rfl⟩
 ·rw[decide_eq_false h2,cond_false,if_neg h2]
  exact⟨rfl,rfl⟩
theorem c_fdq (v:MVer)(hv:okV v)(t:Nat)(b:Bool):outL qva [.agg [Cell.int v.A,Cell.int v.B,Cell.int v.C,qbu v.Pre,Cell.int t,Cell.bool b]]=some [.agg [Cell.int (qey v t).A,Cell.int (qey v t).B,Cell.int (qey v t).C,qbu (qey v t).Pre]]:=by
 rw[(qie v hv t).2]
 exact qbn (H:=[]) (qotb 0 (qie v hv t).1) (qgv _ _ _ _)
theorem c_faq (v:MVer)(hv:okV v)(t:Nat):outL qvg [.agg [Cell.int v.A,Cell.int v.B,Cell.int v.C,qbu v.Pre],.one (Cell.int t)]=some [.agg [Cell.int (qey v t).A,Cell.int (qey v t).B,Cell.int (qey v t).C,qbu (qey v t).Pre]]:=by
 rw[(qie v hv t).2]
 exact qbn (H:=[]) (qofb 0 (qie v hv t).1) (qgv _ _ _ _)
theorem c_fdv (v:MVer)(hv:okV v)(t:Nat)(b:Bool):outL qeh [.agg [Cell.int v.A,Cell.int v.B,Cell.int v.C,qbu v.Pre,Cell.int t,Cell.bool b]]=some [.agg [Cell.int (qet v t).A,Cell.int (qet v t).B,Cell.int (qet v t).C,qbu (qet v t).Pre]]:=by
 rw[(qgw v hv t).2]
 exact qbn (H:=[]) (qqtb 0 (qgw v hv t).1) (qgv _ _ _ _)
theorem c_fdy (v:MVer)(hv:okV v)(t:Nat)(b:Bool):outL qua [.agg [Cell.int v.A,Cell.int v.B,Cell.int v.C,qbu v.Pre,Cell.int t,Cell.bool b]]=some [.agg [Cell.int (qet v t).A,Cell.int (qet v t).B,Cell.int (qet v t).C,qbu (qet v t).Pre]]:=by
 rw[(qgw v hv t).2]
 exact qbn (H:=[]) (qnwb 0 (qgw v hv t).1) (qgv _ _ _ _)
theorem c_fbh (v:MVer)(hv:okV v)(t:Nat)(ht:t≤2)(h1:1≤t)(c:Cell)(hc:Canon c):outL qid [.agg [Cell.int v.A,Cell.int v.B,Cell.int v.C,c],.one (Cell.int t)]=some [.agg [Cell.int (qet v t).A,Cell.int (qet v t).B,Cell.int (qet v t).C,qbu (qet v t).Pre]]:=by
 rw[(qgw v hv t).2]
 refine qbn (H:=[]) (qxk 0 ?_) (qgv _ _ _ _)
 have:=(qgw v hv t).1
 simp only[fbh]
 rw[← this]
 rcases (by omega:t=1∨t=2) with rfl | rfl<;>rfl
theorem qtl (v:MVer)(hv:okV v):outL qid [.agg [Cell.int v.A,Cell.int v.B,Cell.int v.C,qbu v.Pre],.one (Cell.int 3)]=some [.agg [Cell.int v.A,Cell.int v.B,Cell.int (v.C+1),qbu []]]:=by
 refine qbn (H:=[]) (qxk 0 ?_) (qgv _ _ _ _)
 simp only[fbh,w1 hv.2.2.1]
 rfl
theorem strEq (g h:Str):(g==h)=decide (g=h):=by rw[Bool.eq_iff_iff];simp
theorem c_fdu (g:Str)(v:MVer)(hv:okV v)(t:Nat)(b:Bool):outL quq [.one (Cell.str (bs g)),.agg [Cell.int v.A,Cell.int v.B,Cell.int v.C,qbu v.Pre,Cell.int t,Cell.bool b]]=some [.one (encL 5 eCmp (qcv g v t))]:=by
 suffices h:∃ xs,fdu (0+1) (0+1) (bs g) v.A v.B v.C (qbu v.Pre) t b=some (xs,[])∧mapO (qam false []) xs=some [.one (encL 5 eCmp (qcv g v t))] by
  obtain⟨xs,h1,h2⟩:=h
  exact qbn (qmdb 0 h1) h2
 have h3:((t:Int)==3)=decide (t=3):=nEq t 3
 simp only[fdu,c_fdr v t b,c_fdq v hv t b,c_fdy v hv t b,c_fdv v hv t b,c_fdp (qey v t),c_fdp (qet v t),h3,strEq,EV0]
 unfold qcv
 by_cases e1:g=[94]
 ·rw[decide_eq_true e1,cond_true,if_pos e1]
  exact⟨_,rfl,qqv [⟨4,v⟩,qia (qey v t)] true []⟩
 ·rw[decide_eq_false e1,cond_false,if_neg e1]
  by_cases e2:g=[126]
  ·rw[decide_eq_true e2,cond_true,if_pos e2]
   exact⟨_,rfl,qqv [⟨4,v⟩,qia (qet v t)] true []⟩
  ·rw[decide_eq_false e2,cond_false,if_neg e2]
   by_cases e3:g=[62,61]
   ·rw[decide_eq_true e3,cond_true,if_pos e3]
    exact⟨_,rfl,qqv [⟨4,v⟩] true []⟩
   ·rw[decide_eq_false e3,cond_false,if_neg e3]
    by_cases e4:g=[60]
    ·rw[decide_eq_true e4,cond_true]
     subst e4
     exact⟨_,rfl,qqv [⟨1,v⟩] true []⟩
    ·rw[decide_eq_false e4,cond_false]
     by_cases e5:g=[62]
     ·rw[decide_eq_true e5,cond_true,if_pos e5]
      by_cases ht:t=3
      ·rw[decide_eq_true ht,cond_true,if_pos ht]
       exact⟨_,rfl,qqv [⟨3,v⟩] true []⟩
      ·rw[decide_eq_false ht,cond_false,if_neg ht]
       exact⟨_,rfl,qqv [⟨4,qet v t⟩] true []⟩
     ·rw[decide_eq_false e5,cond_false,if_neg e5]
      by_cases e6:g=[60,61]
      ·rw[decide_eq_true e6,cond_true,if_pos e6]
       by_cases ht:t=3
       ·rw[decide_eq_true ht,cond_true,if_pos ht]
        exact⟨_,rfl,qqv [⟨2,v⟩] true []⟩
       ·rw[decide_eq_false ht,cond_false,if_neg ht]
        exact⟨_,rfl,qqv [qia (qet v t)] true []⟩
      ·rw[decide_eq_false e6,cond_false,if_neg e6,if_neg e4]
       by_cases ht:t=3
       ·rw[decide_eq_true ht,cond_true,if_pos ht]
        exact⟨_,rfl,qqv [⟨0,v⟩] true []⟩
       ·rw[decide_eq_false ht,cond_false,if_neg ht]
        exact⟨_,rfl,qqv [⟨4,v⟩,qia (qet v t)] true []⟩
theorem c_fbm (g:Str)(v:MVer)(hv:okV v)(t:Nat)(h1:1≤t)(h3:t≤3):outL qvy [.one (Cell.str (bs g)),.agg [Cell.int v.A,Cell.int v.B,Cell.int v.C,qbu v.Pre],.one (Cell.int t)]=some [.one (encL 5 eCmp (qcv g v t))]:=by
 suffices h:∃ xs,fbm (0+1) (0+1) (bs g) v.A v.B v.C (qbu v.Pre) t=some (xs,[])∧mapO (qam false []) xs=some [.one (encL 5 eCmp (qcv g v t))] by
  obtain⟨xs,h1,h2⟩:=h
  exact qbn (qrpb 0 h1) h2
 have hz:okV ⟨v.A,v.B,0,[]⟩:=⟨hv.1,hv.2.1,by simp,by simp,by simp⟩
 have hq:callL qid [.agg [Cell.int v.A,Cell.int v.B,Cell.int 0,.lst true 1 []],.one (Cell.int (if 2 < (t:Int) then 2 else (t:Int)))] []=some ([.agg [Cell.int (qet v t).A,Cell.int (qet v t).B,Cell.int (qet v t).C,qbu (qet v t).Pre]],[]):=by
  have e:qet ⟨v.A,v.B,0,[]⟩ (if 2 < t then 2 else t)=qet v t:=by
   by_cases h:2 < t
   ·rw[if_pos h]
    unfold qet
    rw[if_neg (by omega),if_neg (by omega)]
   ·rw[if_neg h]
    rfl
  have h:=c_fbh ⟨v.A,v.B,0,[]⟩ hz (if 2 < t then 2 else t) (by split<;>omega) (by split<;>omega) (qbu []) inferInstance
  rw[e] at h
  have ei:((if 2 < t then 2 else t:Nat):Int)=if 2 < (t:Int) then 2 else (t:Int):=by split<;>split<;>omega
  rw[ei] at h
  rw[qoy]
  have e2:mapO (qam true ([AV.agg [Cell.int v.A,Cell.int v.B,Cell.int 0,.lst true 1 []],.one (Cell.int (if 2 < (t:Int) then 2 else (t:Int)))].foldl qdf [])) [.agg [Cell.int v.A,Cell.int v.B,Cell.int 0,.lst true 1 []],.one (Cell.int (if 2 < (t:Int) then 2 else (t:Int)))]=some [.agg [Cell.int v.A,Cell.int v.B,Cell.int 0,qbu []],.one (Cell.int (if 2 < (t:Int) then 2 else (t:Int)))]:=rfl
  rw[e2,Option.bind_some,h]
  rfl
 have hd:decide ((t:Int) < 3)=decide (¬ t=3):=by rw[decide_eq_decide];omega
 obtain⟨N,hn,hN⟩:∃ N:MVer,outL qid [.agg [Cell.int v.A,Cell.int v.B,Cell.int v.C,qbu v.Pre],.one (Cell.int t)]=some [.agg [Cell.int N.A,Cell.int N.B,Cell.int N.C,qbu N.Pre]]∧(¬ t=3→N=qet v t):=by
  by_cases ht:t=3
  ·subst ht
   exact⟨⟨v.A,v.B,v.C+1,[]⟩,qtl v hv,fun h=>absurd rfl h⟩
  ·exact⟨qet v t,c_fbh v hv t (by omega) h1 _ inferInstance,fun _=>rfl⟩
 simp only[fbm,hn,c_fap N,c_fap (qey v t),c_fap (qet v t),c_faq v hv t,hq,hd,strEq,EV0]
 unfold qcv
 by_cases e3:g=[62,61]
 ·rw[decide_eq_true e3,cond_true]
  subst e3
  exact⟨_,rfl,qqv [⟨4,v⟩] true []⟩
 ·rw[decide_eq_false e3,cond_false]
  by_cases e4:g=[60]
  ·rw[decide_eq_true e4,cond_true]
   subst e4
   exact⟨_,rfl,qqv [⟨1,v⟩] true []⟩
  ·rw[decide_eq_false e4,cond_false]
   by_cases e5:g=[62]
   ·rw[decide_eq_true e5,cond_true,if_neg (by rw[e5];decide),if_neg (by rw[e5];decide),if_neg e3,if_pos e5]
    by_cases ht:t=3
    ·rw[decide_eq_false (fun h=>h ht),cond_false,if_pos ht]
     exact⟨_,rfl,qqv [⟨3,v⟩] true []⟩
    ·rw[decide_eq_true ht,cond_true,if_neg ht,hN ht]
     exact⟨_,rfl,qqv [⟨4,qet v t⟩] true []⟩
   ·rw[decide_eq_false e5,cond_false]
    by_cases e6:g=[60,61]
    ·rw[decide_eq_true e6,cond_true,if_neg (by rw[e6];decide),if_neg (by rw[e6];decide),if_neg e3,if_neg e5,if_pos e6]
     by_cases ht:t=3
     ·rw[decide_eq_false (fun h=>h ht),cond_false,if_pos ht]
      exact⟨_,rfl,qqv [⟨2,v⟩] true []⟩
     ·rw[decide_eq_true ht,cond_true,if_neg ht,hN ht]
      exact⟨_,rfl,qqv [qia (qet v t)] true []⟩
    ·rw[decide_eq_false e6,cond_false]
     by_cases e2:g=[126]
     ·rw[decide_eq_true e2,cond_true,if_neg (by rw[e2];decide),if_pos e2]
      exact⟨_,rfl,qqv [⟨4,v⟩,qia (qet v t)] true []⟩
     ·rw[decide_eq_false e2,cond_false]
      by_cases e1:g=[94]
      ·rw[decide_eq_true e1,cond_true,if_pos e1]
       exact⟨_,rfl,qqv [⟨4,v⟩,qia (qey v t)] true []⟩
      ·rw[decide_eq_false e1,cond_false,if_neg e1,if_neg e2,if_neg e3,if_neg e5,if_neg e6,if_neg e4]
       by_cases ht:t=3
       ·rw[decide_eq_false (fun h=>h ht),cond_false,if_pos ht]
        exact⟨_,rfl,qqv [⟨0,v⟩] true []⟩
       ·rw[decide_eq_true ht,cond_true,if_neg ht,hN ht]
        exact⟨_,rfl,qqv [⟨4,v⟩,qia (qet v t)] true []⟩
theorem qmpb (cs:List Cell)[h:CanonA (.agg cs)](H:List Entry):mapO (qam false H) [.agg cs]=some [.agg cs]:=qau [.agg cs] _ _
def qbob:List Str→Nat→List Int→Option (List Int×Nat)
 | [],told,ns=>if 1≤told∧told≤2 then some (ns,told) else none
 | x::r,told,ns=>if x=xS then (if r.all (·==xS) then (if 1≤told∧told≤2 then some (ns,told) else none) else none)
  else match qan x 9999 with
   | none=>none
   | some a=>qbob r (told+1) (ns.set told a)
theorem qhfc (l:List Str)(hl:l.length≤3):(numsOf l=none∧qbob l 0 [0,0,0]=none)∨∃ v t,numsOf l=some (v,t)∧qbob l 0 [0,0,0]=some ([v.A,v.B,v.C],t)∧v.Pre=[]:=by
 have hx:=xS_num
 match l,hl with
 | [],_=>exact .inl ⟨rfl,rfl⟩
 | [x],_=>
  simp only[numsOf,qbob,oneV]
  by_cases e:x=xS
  ·subst e
   simp[hx]
  ·rw[if_neg e]
   cases h:qan x 9999 with
   | none=>exact .inl ⟨rfl,rfl⟩
   | some a=>exact .inr ⟨⟨a,0,0,[]⟩,1,rfl,rfl,rfl⟩
 | [x,y],_=>
  simp only[numsOf,qbob,oneV,twoV]
  by_cases e:x=xS
  ·subst e
   by_cases e2:y=xS
   ·subst e2
    simp[hx]
   ·simp[hx,e2]
  ·rw[if_neg e]
   cases h:qan x 9999 with
   | none=>by_cases e2:y=xS<;>simp[e2]
   | some a=>
    by_cases e2:y=xS
    ·simp only[e2,if_true,List.all_nil]
     exact .inr ⟨⟨a,0,0,[]⟩,1,rfl,rfl,rfl⟩
    ·simp only[if_neg e2]
     cases h2:qan y 9999 with
     | none=>exact .inl ⟨rfl,rfl⟩
     | some b=>exact .inr ⟨⟨a,b,0,[]⟩,2,rfl,rfl,rfl⟩
 | [x,y,z],_=>
  simp only[numsOf,qbob,oneV,twoV]
  by_cases e:x=xS
  ·subst e
   by_cases e2:y=xS
   ·subst e2
    by_cases e3:z=xS<;>simp[hx,e3]
   ·by_cases e3:z=xS<;>simp[hx,e2,e3]
  ·rw[if_neg e]
   cases h:qan x 9999 with
   | none=>by_cases e2:y=xS<;>by_cases e3:z=xS<;>simp[e2,e3]
   | some a=>
    by_cases e2:y=xS
    ·by_cases e3:z=xS
     ·simp only[e2,e3,if_true,List.all_cons,List.all_nil,beq_self_eq_true,Bool.and_true]
      exact .inr ⟨⟨a,0,0,[]⟩,1,rfl,rfl,rfl⟩
     ·have:(z==xS)=false:=by simpa using e3
      simp[e2,e3,this]
    ·simp only[if_neg e2]
     cases h2:qan y 9999 with
     | none=>by_cases e3:z=xS<;>simp[e3]
     | some b=>
      by_cases e3:z=xS
      ·simp only[e3,if_true,List.all_nil]
       exact .inr ⟨⟨a,b,0,[]⟩,2,rfl,rfl,rfl⟩
      ·simp only[if_neg e3]
       cases h3:qan z 9999<;>simp
 | _::_::_::_::_,h=>simp at h
def qfcc:Option (List Int×Nat)→Option (MVer×Nat) | some ([a,b,c],t)=>some (⟨a,b,c,[]⟩,t) | _=>none
theorem c_fdw (s:Str)(hs:s.length≤1048576):∃ (w:MVer) (t:Nat),outL qyb [.one (Cell.str (bs s))]=some [.agg [Cell.int w.A,Cell.int w.B,Cell.int w.C,qbu w.Pre,Cell.int t,Cell.bool (partOf s).isSome]]∧∀ p,partOf s=some p→p=(w,t):=by
 have hM:=qai
 have hsplit:outL qdm [.one (Cell.str (bs s)),.one (.sc (.int .u8 46))]=some [.one (qbu (split 46 s))]:=c_fde s 46 (by omega)
 have hz:∀ G:List Entry,mapO (qam false G) [.agg [Cell.int 0,Cell.int 0,Cell.int 0,.lst true 1 [],Cell.int 0,Cell.bool false]]=some [.agg [Cell.int 0,Cell.int 0,Cell.int 0,qbu [],Cell.int ((0:Nat):Int),Cell.bool false]]:=fun G=>rfl
 cases hk:(qae s).2 with
 | true=>
  have hp:partOf s=some ((qae s).1,3):=by unfold partOf;rw[if_pos hk]
  refine⟨(qae s).1,3,?_,fun p h=>by rw[hp] at h;exact(Option.some.inj h).symm⟩
  refine qbn (H:=[]) (qlz 0 ?_) (qmpb [Cell.int (qae s).1.A,Cell.int (qae s).1.B,Cell.int (qae s).1.C,qbu (qae s).1.Pre,Cell.int ((3:Nat):Int),Cell.bool (partOf s).isSome] [])
  simp only[fdw,quzc s hs,hk,hp,EV0]
  rfl
 | false=>
  have hp:partOf s=numsOf (split 46 s):=by unfold partOf;rw[if_neg (by rw[hk];simp)]
  have hlen:∀ x∈split 46 s,x.length≤1073741824:=fun x hx=>by
   have:=(qbv 46 s []).2 x hx
   simp only[List.length_nil,Nat.zero_add] at this
   omega
  by_cases h3:(split 46 s).length≤3
  ·
   have l1:∀ (r:List Str) (i n:Nat) (t:Nat) (a b c:Int),(split 46 s).drop i=r→r.length < n→∀ k m,
     qyq k m n (qbu (split 46 s)) (.vs 0 1 0 3 0) i t [Entry.mk 1 [[Cell.int a],[Cell.int b],[Cell.int c]] 0 false]=
      some ([cond (r.all (·==xS)) (.agg [Cell.int a,Cell.int b,Cell.int c,.lst true 1 [],Cell.int t,Cell.bool (inR t 1 2)]) (.agg [Cell.int 0,Cell.int 0,Cell.int 0,.lst true 1 [],Cell.int 0,Cell.bool false])],[Entry.mk 1 [[Cell.int a],[Cell.int b],[Cell.int c]] 0 false]):=by
    intro r
    induction r with
    | nil=>
     intro i n t a b c hd hn k m
     obtain⟨n,rfl⟩:∃ q,n=q+1:=⟨n - 1,by omega⟩
     have:=drop_nil hd
     have g0:idxA 1 (.vs 0 1 0 3 0) 0=some (.ptr 0 1 0 0 0):=rfl
     have g1:idxA 1 (.vs 0 1 0 3 0) 1=some (.ptr 0 1 1 0 0):=rfl
     have g2:idxA 1 (.vs 0 1 0 3 0) 2=some (.ptr 0 1 2 0 0):=rfl
     have d0:deref [Entry.mk 1 [[Cell.int a],[Cell.int b],[Cell.int c]] 0 false] (.ptr 0 1 0 0 0)=some ([Cell.int a],0):=rfl
     have d1:deref [Entry.mk 1 [[Cell.int a],[Cell.int b],[Cell.int c]] 0 false] (.ptr 0 1 1 0 0)=some ([Cell.int b],0):=rfl
     have d2:deref [Entry.mk 1 [[Cell.int a],[Cell.int b],[Cell.int c]] 0 false] (.ptr 0 1 2 0 0)=some ([Cell.int c],0):=rfl
     simp only[qyq,EV0]
     rw[decide_eq_false (by omega),cond_false]
     simp only[g0,g1,g2,d0,d1,d2,qayb,EV0]
     rfl
    | cons x r ih=>
     intro i n t a b c hd hn k m
     obtain⟨n,rfl⟩:∃ q,n=q+1:=⟨n - 1,by omega⟩
     obtain⟨hlt,hg,hd'⟩:=qao hd
     simp only[List.length_cons] at hn
     simp only[qyq,qap,hg,eStr,EV0]
     rw[decide_eq_true (by omega),cond_true,qaf (by omega),ih (i+1) n t a b c hd' (by omega)]
     simp only[List.all_cons]
     rw[show(x==[120])=(x==xS) from rfl]
     cases x==xS<;>rfl
   have l0:∀ (r:List Str) (i n:Nat) (ns:List Int),(split 46 s).drop i=r→i+r.length=(split 46 s).length→r.length < n→ns.length=3→∀ k m,(split 46 s).length < m→
     ∃ xs H',qzk k m n (qbu (split 46 s)) (.vs 0 1 0 3 0) i [Entry.mk 1 (ns.map eInt) 0 false]=some (xs,H')∧
      ∃ (w:MVer) (t:Nat),mapO (qam false H') xs=some [.agg [Cell.int w.A,Cell.int w.B,Cell.int w.C,qbu w.Pre,Cell.int t,Cell.bool (qbob r i ns).isSome]]∧∀ p,qfcc (qbob r i ns)=some p→p=(w,t):=by
    intro r
    induction r with
    | nil=>
     intro i n ns hd hi hn h3 k m hm
     obtain⟨n,rfl⟩:∃ q,n=q+1:=⟨n - 1,by omega⟩
     simp only[List.length_nil,Nat.add_zero] at hi
     obtain⟨a,b,c,rfl⟩:∃ a b c,ns=[a,b,c]:=by
      match ns,h3 with
      | [a,b,c],_=>exact⟨a,b,c,rfl⟩
     simp only[qzk,EV0]
     rw[decide_eq_false (by omega),cond_false]
     have z:=l1 [] i m i a b c hd (by simp;omega) k m
     simp only[List.map_cons,List.map_nil,eInt]
     rw[z]
     refine⟨_,_,rfl,⟨a,b,c,[]⟩,i,?_,?_⟩
     ·simp only[List.all_nil,cond_true]
      have e:inR i 1 2=(qbob [] i [a,b,c]).isSome:=by
       unfold qbob inR
       by_cases h:1≤i∧i≤2
       ·rw[if_pos h,decide_eq_true (by omega),decide_eq_true (by omega)]
        rfl
       ·rw[if_neg h]
        by_cases h1:1≤i
        ·rw[decide_eq_true (by omega),decide_eq_false (by omega)]
         rfl
        ·rw[decide_eq_false (by omega)]
         rfl
      rw[e]
      rfl
     ·intro p hp
      unfold qbob at hp
      split at hp
      ·simpa[qfcc] using hp.symm
      ·simp[qfcc] at hp
    | cons x r ih=>
     intro i n ns hd hi hn h3 k m hm
     obtain⟨n,rfl⟩:∃ q,n=q+1:=⟨n - 1,by omega⟩
     obtain⟨hlt,hg,hd'⟩:=qao hd
     simp only[List.length_cons] at hn hi
     have hx:=hlen x (List.mem_of_getElem? hg)
     obtain⟨a,b,c,rfl⟩:∃ a b c,ns=[a,b,c]:=by
      match ns,h3 with
      | [a,b,c],_=>exact⟨a,b,c,rfl⟩
     simp only[qzk,qap,hg,eStr,EV0]
     rw[decide_eq_true (by omega),cond_true,show(x==[120])=(x==xS) from rfl]
     by_cases e:x=xS
     ·rw[show(x==xS)=true by simpa using e,Bool.not_true,cond_false]
      have z:=l1 (x::r) i m i a b c hd (by simp;omega) k m
      simp only[List.map_cons,List.map_nil,eInt]
      rw[z]
      have ea:(x::r).all (·==xS)=r.all (·==xS):=by simp[e]
      rw[ea]
      unfold qbob
      rw[if_pos e]
      cases hr:r.all (·==xS) with
      | false=>exact⟨_,_,rfl,⟨0,0,0,[]⟩,0,hz _,fun p hp=>by simp[qfcc] at hp⟩
      | true=>
       refine⟨_,_,rfl,⟨a,b,c,[]⟩,i,?_,?_⟩
       ·simp only[cond_true,if_true]
        have e:inR i 1 2=(if 1≤i∧i≤2 then some ([a,b,c],i) else none:Option (List Int×Nat)).isSome:=by
         unfold inR
         by_cases h:1≤i∧i≤2
         ·rw[if_pos h,decide_eq_true (by omega),decide_eq_true (by omega)]
          rfl
         ·rw[if_neg h]
          by_cases h1:1≤i
          ·rw[decide_eq_true (by omega),decide_eq_false (by omega)]
           rfl
          ·rw[decide_eq_false (by omega)]
           rfl
        rw[e]
        rfl
       ·intro p hp
        simp only[if_true] at hp
        split at hp
        ·simpa[qfcc] using hp.symm
        ·simp[qfcc] at hp
     ·rw[show(x==xS)=false by simpa using e,Bool.not_false,cond_true]
      have hnum:out qcm [.one (Cell.str (bs x)),.one (Cell.int 9999)]=some (numV (qan x 9999)):=c_fda x 9999 hx (by omega)
      simp only[hnum,EV0]
      unfold qbob
      rw[if_neg e]
      cases hq:qan x 9999 with
      | none=>
       simp only[numV,EV0,Bool.not_false]
       exact⟨_,_,rfl,⟨0,0,0,[]⟩,0,hz _,fun p hp=>by simp[qfcc] at hp⟩
      | some q=>
       simp only[numV,EV0,Bool.not_true]
       have hst:∀ j:Nat,j < 3→(idxA 1 (.vs 0 1 0 3 0) (j:Int)).bind (fun c25=>qbm [Entry.mk 1 ([a,b,c].map eInt) 0 false] c25 [Cell.int q])=some [Entry.mk 1 (([a,b,c].set j (q:Int)).map eInt) 0 false]:=by
        intro j hj
        rcases (by omega:j=0∨j=1∨j=2) with rfl | rfl | rfl<;>rfl
       have h4:=hst i (by omega)
       obtain⟨c25,i1,i2⟩:=Option.bind_eq_some_iff.1 h4
       simp only[i1,i2,Option.bind_some]
       rw[qaf (by omega)]
       exact ih (i+1) n ([a,b,c].set i (q:Int)) hd' (by omega) (by omega) (by simp) k m hm
   obtain⟨xs,H',z1,w,t,z2,z3⟩:=l0 (split 46 s) 0 ((split 46 s).length+1+1) [0,0,0] rfl (by omega) (by omega) rfl ((split 46 s).length+1+1) ((split 46 s).length+1+1) (by omega)
   have hiso:(partOf s).isSome=(qbob (split 46 s) 0 [0,0,0]).isSome∧partOf s=qfcc (qbob (split 46 s) 0 [0,0,0]):=by
    rw[hp]
    rcases qhfc (split 46 s) h3 with⟨h4,h5⟩ | ⟨v,t,h4,h5,h6⟩
    ·rw[h4,h5]
     exact⟨rfl,rfl⟩
    ·rw[h4,h5]
     refine⟨rfl,?_⟩
     obtain⟨A,B,C,pre⟩:=v
     simp only at h6
     subst h6
     rfl
   refine⟨w,t,?_,fun p h=>z3 p (by rw[← hiso.2];exact h)⟩
   rw[hiso.1]
   refine qbn (H:=H') (qlz ((split 46 s).length+1) ?_) z2
   simp only[fdw,quzc s hs,hk,hsplit,EV0]
   rw[decide_eq_false (by omega),cond_false]
   exact z1
  ·have hno:numsOf (split 46 s)=none:=by
    match h:split 46 s with
    | []=>rfl
    | [x]=>rw[h] at h3;simp at h3
    | [x,y]=>rw[h] at h3;simp at h3
    | [x,y,z]=>rw[h] at h3;simp at h3
    | _::_::_::_::_=>rfl
   rw[hp,hno]
   refine⟨⟨0,0,0,[]⟩,0,qbn (H:=[Entry.mk 1 [[Cell.int 0],[Cell.int 0],[Cell.int 0]] 0 false]) (qlz 0 ?_) (hz _),fun p h=>by simp at h⟩
   simp only[fdw,quzc s hs,hk,hsplit,EV0]
   rw[decide_eq_true (by omega),cond_true]
   rfl
theorem qcqd {i:Nat}{g:Str}(h:signs[i]?=some g):cS [Cell.str (bs [94]),Cell.str (bs [126]),Cell.str (bs [62,61]),Cell.str (bs [62]),Cell.str (bs [60,61]),Cell.str (bs [60]),Cell.str (bs [61]),Cell.str (bs [])] i=some (bs g):=by
 have hlt:i < 8:=(List.getElem?_eq_some_iff.1 h).1
 rcases (by omega:i=0∨i=1∨i=2∨i=3∨i=4∨i=5∨i=6∨i=7) with rfl | rfl | rfl | rfl | rfl | rfl | rfl | rfl<;>
  (simp only[signs,List.getElem?_cons_succ,List.getElem?_cons_zero,Option.some.injEq] at h;subst h;rfl)
theorem qzmb {g w:Str}(h:g.isPrefixOf w=true):qbcd g w=w.drop g.length:=by
 unfold qbcd
 rw[h]
 rfl
theorem c_fea (w:Str)(hw:w.length≤1048576):outL qvn [.one (Cell.str (bs w))]=some [.one (encL 5 eCmp ((qjj w).getD [])),.one (Cell.bool (qjj w).isSome)]:=by
 have hM:=qai
 have hlist:(.lst true 1 [[Cell.str (bs [94])],[Cell.str (bs [126])],[Cell.str (bs [62,61])],[Cell.str (bs [62])],[Cell.str (bs [60,61])],[Cell.str (bs [60])],[Cell.str (bs [61])],[Cell.str (bs [])]]:Cell)=.lst true 1 (signs.map eStr):=rfl
 have hz:mapO (qam false []) [.one (.lst true 5 []),.one (Cell.bool false)]=some [.one (encL 5 eCmp []),.one (Cell.bool false)]:=rfl
 have loop:∀ (r:List Str) (i n:Nat),signs.drop i=r→r.length < n→∀ k m,∃ xs,qsi k m n (bs w) i=some (xs,[])∧mapO (qam false []) xs=some [.one (encL 5 eCmp ((qeq w r).getD [])),.one (Cell.bool (qeq w r).isSome)]:=by
  intro r
  induction r with
  | nil=>
   intro i n hd hn k m
   obtain⟨n,rfl⟩:∃ j,n=j+1:=⟨n - 1,by omega⟩
   have:=drop_nil hd
   simp only[signs,List.length_cons,List.length_nil] at this
   simp only[qsi]
   rw[decide_eq_false (by omega),cond_false]
   exact⟨_,rfl,hz⟩
  | cons g r ih=>
   intro i n hd hn k m
   obtain⟨n,rfl⟩:∃ j,n=j+1:=⟨n - 1,by omega⟩
   obtain⟨hlt,hg,hd'⟩:=qao hd
   simp only[signs,List.length_cons,List.length_nil] at hlt
   simp only[List.length_cons] at hn
   have hi:idxA 1 (.lst true 1 (signs.map eStr)) (i:Int)=some (.ref (eStr g) 0):=by rw[qbgb,List.getElem?_map,hg];rfl
   have hpre:(decide (w.length≥g.length)=true∧(w.take g.length==g)=true)↔g.isPrefixOf w=true:=by
    rw[List.isPrefixOf_iff_prefix,List.prefix_iff_eq_take,decide_eq_true_eq,beq_iff_eq]
    constructor
    ·intro h;exact h.2.symm
    ·intro h
     refine⟨?_,h.symm⟩
     have:=congrArg List.length h
     rw[List.length_take] at this
     omega
   simp only[qsi,hlist,hi,eStr,EV0]
   rw[decide_eq_true (by omega),cond_true]
   obtain⟨xs,z1,z2⟩:=ih (i+1) n hd' (by omega) k m
   by_cases hp:g.isPrefixOf w=true
   ·obtain⟨h1,h2⟩:=hpre.2 hp
    have hge:w.length≥g.length:=by simpa using h1
    have s1:=qcq w 0 g.length (Nat.zero_le _) hge
    have s2:=qcq w g.length w.length hge (Nat.le_refl _)
    rw[List.drop_zero] at s1
    rw[List.take_length] at s2
    rw[show decide ((w.length:Int)≥(g.length:Int))=true by rw[decide_eq_true_eq];omega,cond_true,show((0:Int))=((0:Nat):Int) from rfl,s1]
    simp only[EV0]
    rw[h2,cond_true,s2]
    obtain⟨v,t,q1,q2⟩:=c_fdw (w.drop g.length) (by simp;omega)
    simp only[q1,EV0,qre,qhbb]
    have hgo:qeq w (g::r)=match partOf (w.drop g.length) with | some p=>some (qcv g p.1 p.2) | none=>none:=by
     rw[qeq,if_pos hp]
    cases hpo:partOf (w.drop g.length) with
    | none=>
     rw[hpo] at hgo
     rw[hgo]
     simp only[Option.isSome_none,Bool.not_false,cond_true]
     exact⟨_,rfl,hz⟩
    | some p=>
     have e:=q2 p hpo
     subst e
     rw[hpo] at hgo
     rw[hgo]
     have hok:=(qsf hpo).1
     simp only[Option.isSome_some,Bool.not_true,cond_false,c_fdu g v hok t true,EV0]
     exact⟨_,rfl,qau [.one (encL 5 eCmp (qcv g v t)),.one (Cell.bool true)] _ _⟩
   ·have hgo:qeq w (g::r)=qeq w r:=by rw[qeq,if_neg hp]
    rw[hgo]
    rw[qaf (by omega)]
    by_cases hge:w.length≥g.length
    ·have s1:=qcq w 0 g.length (Nat.zero_le _) hge
     rw[List.drop_zero] at s1
     rw[show decide ((w.length:Int)≥(g.length:Int))=true by rw[decide_eq_true_eq];omega,cond_true,show((0:Int))=((0:Nat):Int) from rfl,s1]
     simp only[EV0]
     have h2:(w.take g.length==g)=false:=by
      cases h:(w.take g.length==g) with
      | false=>rfl
      | true=>exact absurd (hpre.1 ⟨by simpa using hge,h⟩) hp
     rw[h2,cond_false]
     exact⟨xs,z1,z2⟩
    ·rw[show decide ((w.length:Int)≥(g.length:Int))=false by rw[decide_eq_false_iff_not];omega,cond_false]
     exact⟨xs,z1,z2⟩
 by_cases h42:w=[42]
 ·subst h42
  refine qbn (H:=[]) (qyc 0 ?_) (show mapO (qam false []) [.one (.lst true 5 [[Cell.int 4,Cell.int 0,Cell.int 0,Cell.int 0,.lst true 1 []]]),.one (Cell.bool true)]=some [.one (encL 5 eCmp [⟨4,zeroV⟩]),.one (Cell.bool true)] from rfl)
  have hrun:∀ q,fea q q (bs [42])=some ([.one (.lst true 5 [[Cell.int 4,Cell.int 0,Cell.int 0,Cell.int 0,.lst true 1 []]]),.one (Cell.bool true)],[]):=by
   intro q
   simp only[fea,qbf,beq_self_eq_true,cond_true]
  exact hrun _
 ·have hc:qjj w=qeq w signs:=by unfold qjj;rw[if_neg h42]
  rw[hc]
  obtain⟨xs,z1,z2⟩:=loop signs 0 10 rfl (by simp[signs]) (9+1) (9+1)
  have hrun:∀ q,fea q q (bs w)=qsi q q q (bs w) 0:=by
   intro q
   simp only[fea,qbf]
   rw[show(w==[42])=false by simpa using h42,cond_false]
  exact qbn (qyc 9 ((hrun _).trans z1)) z2
theorem c_fds (l:List RCmp)(hl:l.length≤1073741824)(hc:∀ c∈l,c.v.Bd 1048576):out quj [.one (encL 5 eCmp l)]=some [.one (Cell.bool (l.all (fun c=>qhf c.v)))]:=by
 have hM:=qai
 have loop:∀ (r:List RCmp) (i n:Nat),l.drop i=r→r.length < n→∀ k m,qaxb k m n (encL 5 eCmp l) i=some ([.one (Cell.bool (r.all (fun c=>qhf c.v)))],[]):=by
  intro r
  induction r with
  | nil=>
   intro i n hd hn k m
   obtain⟨n,rfl⟩:∃ j,n=j+1:=⟨n - 1,by omega⟩
   have:=drop_nil hd
   simp only[qaxb,EV0]
   rw[decide_eq_false (by omega),cond_false]
   rfl
  | cons x r ih=>
   intro i n hd hn k m
   obtain⟨n,rfl⟩:∃ j,n=j+1:=⟨n - 1,by omega⟩
   obtain⟨hlt,hg,hd'⟩:=qao hd
   simp only[List.length_cons] at hn
   have hx:=hc x (List.mem_of_getElem? hg)
   simp only[qaxb,qap,hg,eCmp,qcr,Nat.zero_add,c_fdg x.v.A x.v.B x.v.C x.v.Pre hx.2.2.2,EV0]
   rw[decide_eq_true (by omega),cond_true,qaf (by omega),ih (i+1) n hd' (by omega)]
   simp only[List.all_cons,qhf]
   cases qfr x.v.A x.v.B x.v.C x.v.Pre<;>rfl
 refine qaw (H:=[]) (qnyb (l.length+1) ?_)
 exact loop l 0 (l.length+1+1) rfl (by omega) (l.length+1+1) (l.length+1+1)
def qgcb (ws:List Str):Option (List RCmp):=match qzpb ws with
 | some (a,c)=>if (qae a).2&&(qae c).2 then some [⟨4,(qae a).1⟩,⟨2,(qae c).1⟩] else none
 | none=>match qdl ws [] with
  | some l=>if l.length≤4 then some l else none
  | none=>none
theorem qdqb:∀ (ws:List Str) (acc l:List RCmp),qdl ws acc=some l→(∀ c∈acc,okB c.v)→∀ c∈l,okB c.v
 | [],acc,l,h,ha=>by
  simp only[qdl,Option.some.injEq] at h
  subst h
  exact ha
 | w::r,acc,l,h,ha=>by
  unfold qdl at h
  split at h
  ·rename_i q hq
   refine qdqb r _ l h fun c hc=>?_
   rcases List.mem_append.1 hc with hc | hc
   ·exact ha c hc
   ·exact(qzf hq).2 c hc
  ·simp at h
theorem qxyc {v:MVer}(h:qhf v=true):okB v:=okV_B (qmn h)
theorem qzgc {ws:List Str}{l:List RCmp}(h:qgcb ws=some l):l.length≤4∧∀ c∈l,okB c.v:=by
 unfold qgcb at h
 split at h
 ·rename_i a c _
  split at h
  ·rename_i hk
   simp only[Bool.and_eq_true] at hk
   simp only[Option.some.injEq] at h
   subst h
   exact⟨by simp,by simp[qxyc (qez hk.1),qxyc (qez hk.2)]⟩
  ·simp at h
 ·split at h
  ·rename_i q hq
   split at h
   ·rename_i hl
    simp only[Option.some.injEq] at h
    subst h
    exact⟨hl,qdqb _ _ _ hq (by simp)⟩
   ·simp at h
  ·simp at h
theorem qrub (ws:List Str):qqp ws=match qgcb ws with | some l=>if l.all (fun c=>qhf c.v)=true then some l else none | none=>none:=by
 unfold qqp qgcb qghd
 cases qzpb ws with
 | some p=>
  obtain⟨a,c⟩:=p
  simp only
  by_cases hk:((qae a).2&&(qae c).2)=true
  ·rw[if_pos hk]
   simp only[Bool.and_eq_true] at hk
   simp[qez hk.1,qez hk.2]
  ·rw[if_neg hk]
 | none=>
  simp only
  cases qdl ws [] with
  | none=>rfl
  | some l=>
   simp only
   by_cases h:l.length≤4
   ·simp only[h,true_and,if_true]
   ·simp[h]
theorem qxs {ws:List Str}{a c:Str}(h:qzpb ws=some (a,c)):ws=[a,[45],c]:=by
 unfold qzpb at h
 split at h
 ·split at h
  ·rename_i hb
   simp only[Option.some.injEq,Prod.mk.injEq] at h
   rw[hb,h.1,h.2]
  ·simp at h
 ·simp at h
theorem qpcb (H:List Entry)(l:List RCmp):qcy H 5 (encL 5 eCmp l)=some (l.map eCmp):=by simp[qcy,rowsOf,encL]
theorem c_fdt (ws:List Str)(hl:ws.length≤1048577)(hw:∀ x∈ws,x.length≤1048576):∃ l:List RCmp,outL qyl [.one (qbu ws)]=some [.one (encL 5 eCmp l),.one (Cell.bool (qgcb ws).isSome)]∧∀ q,qgcb ws=some q→q=l:=by
 have hM:=qai
 have loop:∀ (r:List Str) (i n:Nat) (acc:List RCmp) (c:Cell) (H:List Entry),ws.drop i=r→r.length < n→acc.length≤2*i→Grow 5 c H (acc.map eCmp)→∀ k m,
   ∃ (c':Cell) (H':List Entry) (l:List RCmp) (b:Bool),qys k m n (qbu ws) c i H=some ([.one c',.one (Cell.bool b)],H')∧Grow 5 c' H' (l.map eCmp)∧
    match qdl r acc with | some q=>q=l∧b=decide (q.length≤4) | none=>b=false:=by
  intro r
  induction r with
  | nil=>
   intro i n acc c H hd hn ha hg k m
   obtain⟨n,rfl⟩:∃ j,n=j+1:=⟨n - 1,by omega⟩
   have:=drop_nil hd
   have hlc:lenC c=some acc.length:=by
    rcases hg with⟨h1,rfl,_⟩ | ⟨ep,rfl,_⟩
    ·simp only[List.map_eq_nil_iff] at h1
     subst h1
     rfl
    ·simp
   refine⟨c,H,acc,decide (acc.length≤4),?_,hg,by rw[qdl];exact⟨rfl,rfl⟩⟩
   simp only[qys,hlc,EV0]
   rw[decide_eq_false (by omega),cond_false,show decide ((acc.length:Int)≤4)=decide (acc.length≤4) by rw[decide_eq_decide];omega]
  | cons x r ih=>
   intro i n acc c H hd hn ha hg k m
   obtain⟨n,rfl⟩:∃ j,n=j+1:=⟨n - 1,by omega⟩
   obtain⟨hlt,hx,hd'⟩:=qao hd
   simp only[List.length_cons] at hn
   have hxl:=hw x (List.mem_of_getElem? hx)
   simp only[qys,qap,hx,eStr,c_fea x hxl,EV0]
   rw[decide_eq_true (by omega),cond_true]
   cases hq:qjj x with
   | none=>
    refine⟨c,H,acc,false,?_,hg,by rw[qdl,hq]⟩
    simp only[Option.isSome_none,Bool.not_false,cond_true]
   | some q=>
    have hqB:=qzf hq
    obtain⟨p,e1,e2⟩:=hg.app (by':=56) (q.map eCmp) (by unfold bound;simp only[List.length_map];omega) (by unfold bound;simp only[List.length_map];omega)
    obtain⟨c',H',l,b,z1,z2,z3⟩:=ih (i+1) n (acc++q) p.1 p.2 hd' (by omega) (by rw[List.length_append];omega) (by simpa using e2) k m
    refine⟨c',H',l,b,?_,z2,by rw[qdl,hq];exact z3⟩
    simp only[Option.isSome_some,Option.getD_some,Bool.not_true,cond_false,qpcb,e1,Option.bind_some]
    rw[qaf (by omega)]
    exact z1
 cases hh:qzpb ws with
 | some p=>
  obtain⟨a,c⟩:=p
  have hws:=qxs hh
  subst hws
  have ha:=hw a (by simp)
  have hcl:=hw c (by simp)
  have i0:idxA 1 (encL 1 eStr [a,[45],c]) 0=some (.ref (eStr a) 0):=rfl
  have i1:idxA 1 (encL 1 eStr [a,[45],c]) 1=some (.ref (eStr [45]) 0):=rfl
  have i2:idxA 1 (encL 1 eStr [a,[45],c]) 2=some (.ref (eStr c) 0):=rfl
  have hs:qgcb [a,[45],c]=if (qae a).2&&(qae c).2 then some [⟨4,(qae a).1⟩,⟨2,(qae c).1⟩] else none:=by
   unfold qgcb
   rw[hh]
  have e4:∀ {β:Type} (a1 b1 d1:Int) (x1:List Str) (a2 b2 d2:Int) (x2:List Str) (κ:List Cell→Option β),restK [Cell.int 4,Cell.int a1,Cell.int b1,Cell.int d1,qbu x1,Cell.int 2,Cell.int a2,Cell.int b2,Cell.int d2,qbu x2] κ=κ [Cell.int 4,Cell.int a1,Cell.int b1,Cell.int d1,qbu x1,Cell.int 2,Cell.int a2,Cell.int b2,Cell.int d2,qbu x2]:=fun _ _ _ _ _ _ _ _ κ=>rfl
  refine⟨[⟨4,(qae a).1⟩,⟨2,(qae c).1⟩],?_,fun q hq=>by rw[hs] at hq;split at hq<;>simp_all⟩
  have hb:(qgcb [a,[45],c]).isSome=((qae a).2&&(qae c).2):=by
   rw[hs]
   split<;>simp_all
  rw[hb]
  refine qbn (H:=[]) (qtq 0 ?_) (leafRB [⟨4,(qae a).1⟩,⟨2,(qae c).1⟩] true _ [])
  simp only[fdt,i0,i1,i2,eStr,quzc a ha,quzc c hcl,e4,EV0]
  rw[show(((0+1+1+1:Nat):Int)==3)=true from rfl]
  simp only[cond_true]
  cases (qae a).2<;>rfl
 | none=>
  obtain⟨c',H',l,b,z1,z2,z3⟩:=loop ws 0 (ws.length+1+1) [] (.lst true 5 []) [] rfl (by omega) (by simp) (Grow.nil 5) (ws.length+1+1) (ws.length+1+1)
  have hb:b=(qgcb ws).isSome∧∀ q,qgcb ws=some q→q=l:=by
   unfold qgcb
   rw[hh]
   simp only
   cases hq:qdl ws [] with
   | none=>
    rw[hq] at z3
    exact⟨z3,by simp⟩
   | some q=>
    rw[hq] at z3
    obtain⟨h1,h2⟩:=z3
    simp only
    by_cases h4:q.length≤4
    ·rw[if_pos h4]
     exact⟨by rw[h2,decide_eq_true h4];rfl,fun q' h=>by simp only[Option.some.injEq] at h;rw[← h];exact h1⟩
    ·rw[if_neg h4]
     exact⟨by rw[h2,decide_eq_false h4];rfl,by simp⟩
  refine⟨l,?_,hb.2⟩
  have hrd:=z2.read (e:=eCmp)
  obtain⟨y,zs,e1,e2,e3⟩:=qeg hrd
  have e4:zs=[]:=by simpa[mapO] using e3.symm
  subst e4
  simp only[List.cons.injEq,and_true] at e1
  subst e1
  rw[← hb.1]
  refine qbn (H:=H') (qtq (ws.length+1) ?_) (qcc e2 (qcc (qaz _ _ _) (qbk _)))
  simp only[fdt,EV0]
  by_cases h3:ws.length=3
  ·obtain⟨a,d,e,rfl⟩:∃ a d e,ws=[a,d,e]:=by
    match ws,h3 with
    | [a,d,e],_=>exact⟨a,d,e,rfl⟩
   have hd:(d==[45])=false:=by
    cases h:(d==[45]) with
    | false=>rfl
    | true=>
     have:d=[45]:=by simpa using h
     subst this
     simp[qzpb] at hh
   have i1:idxA 1 (encL 1 eStr [a,d,e]) 1=some (.ref (eStr d) 0):=rfl
   rw[show((([a,d,e]:List Str).length:Int)==3)=true from rfl,cond_true]
   simp only[i1,eStr,EV0]
   rw[hd,cond_false]
   exact z1
  ·rw[show((ws.length:Int)==3)=false by rw[beq_eq_false_iff_ne];omega,cond_false]
   exact z1
theorem qqn:∀ (r:List Str) (acc l:List (List RCmp)),qdk r acc=some l→l.length=acc.length+r.length
 | [],acc,l,h=>by
  simp only[qdk,Option.some.injEq] at h
  subst h
  rfl
 | p::r,acc,l,h=>by
  unfold qdk at h
  split at h
  ·rename_i q hq
   have:=qqn r _ l h
   simp only[List.length_append,List.length_cons,List.length_nil] at this ⊢
   omega
  ·simp at h
theorem c_fdb (s:Str)(hs:s.length≤1048576):outL qvr [.one (Cell.str (bs s))]=some [.one (qkk ((qbx s).getD [])),.one (Cell.bool (qbx s).isSome)]:=by
 have hM:=qai
 have hsl:=qfc s.length s [] (Nat.le_refl _)
 have hll:(sides s).length≤s.length+1:=hsl.1
 have hel:∀ x∈sides s,x.length≤1048576:=fun x hx=>by
  have:=hsl.2 x hx
  simp only[List.length_nil,Nat.zero_add] at this
  omega
 have hz:∀ G:List Entry,mapO (qam false G) [.one (.lst true 1 []),.one (Cell.bool false)]=some [.one (qkk []),.one (Cell.bool false)]:=fun G=>rfl
 have loop:∀ (r:List Str) (i n:Nat) (acc:List (List RCmp)) (c:Cell) (H:List Entry),(sides s).drop i=r→r.length < n→acc.length=i→Grow 1 c H (acc.map qrsb)→∀ k m,
   ∃ xs H',qacb k m n c (qbu (sides s)) i H=some (xs,H')∧
    mapO (qam false H') xs=some (match qdk r acc with | some l=>if l.length≤4 then [.one (qkk l),.one (Cell.bool true)] else [.one (qkk []),.one (Cell.bool false)] | none=>[.one (qkk []),.one (Cell.bool false)]):=by
  intro r
  induction r with
  | nil=>
   intro i n acc c H hd hn ha hg k m
   obtain⟨n,rfl⟩:∃ j,n=j+1:=⟨n - 1,by omega⟩
   have:=drop_nil hd
   have hlc:lenC c=some acc.length:=by
    rcases hg with⟨h1,rfl,_⟩ | ⟨ep,rfl,_⟩
    ·simp only[List.map_eq_nil_iff] at h1
     subst h1
     rfl
    ·simp
   simp only[qacb,hlc,EV0]
   rw[decide_eq_false (by omega),cond_false,qdk]
   simp only
   by_cases h4:acc.length≤4
   ·rw[decide_eq_false (by omega),cond_false,if_pos h4]
    have hrd:=hg.read (e:=qrsb)
    obtain⟨y,zs,e1,e2,e3⟩:=qeg hrd
    have e4:zs=[]:=by simpa[mapO] using e3.symm
    subst e4
    simp only[List.cons.injEq,and_true] at e1
    subst e1
    exact⟨_,_,rfl,qcc e2 (qcc (qaz _ _ _) (qbk _))⟩
   ·rw[decide_eq_true (by omega),cond_true,if_neg h4]
    exact⟨_,_,rfl,hz _⟩
  | cons x r ih=>
   intro i n acc c H hd hn ha hg k m
   obtain⟨n,rfl⟩:∃ j,n=j+1:=⟨n - 1,by omega⟩
   obtain⟨hlt,hx,hd'⟩:=qao hd
   simp only[List.length_cons] at hn
   have hxl:=hel x (List.mem_of_getElem? hx)
   have htl:=qeqc x
   have hspl:=qbv 32 (trim x) []
   have hwl:(split 32 (trim x)).length≤1048577:=by have:=hspl.1;unfold split;omega
   have hww:∀ y∈split 32 (trim x),y.length≤1048576:=fun y hy=>by
    have:=hspl.2 y hy
    simp only[List.length_nil,Nat.zero_add] at this
    omega
   have hsplit:outL qdm [.one (Cell.str (bs (trim x))),.one (.sc (.int .u8 32))]=some [.one (qbu (split 32 (trim x)))]:=c_fde (trim x) 32 (by omega)
   obtain⟨l,q1,q2⟩:=c_fdt (split 32 (trim x)) hwl hww
   have e5:∀ {β:Type} (l:List RCmp) (κ:List Cell→Option β),restK [encL 5 eCmp l] κ=κ [encL 5 eCmp l]:=fun l κ=>rfl
   have hsrc:∀ (G:List Entry) (l:List RCmp),qcy G 1 (.lst true 1 (chunks 1 1 [encL 5 eCmp l]))=some [qrsb l]:=fun G l=>by simp[qcy,rowsOf,chunks,qrsb]
   simp only[qacb,qap,hx,eStr,c_fdz x (by omega),hsplit,q1,EV0]
   rw[decide_eq_true (by omega),cond_true]
   have hlo:qkl x=match qgcb (split 32 (trim x)) with | some l=>if l.all (fun c=>qhf c.v)=true then some l else none | none=>none:=qrub _
   cases hS:qgcb (split 32 (trim x)) with
   | none=>
    rw[hS] at hlo
    simp only at hlo
    rw[qdk,hlo]
    simp only[Option.isSome_none,Bool.not_false,cond_true]
    exact⟨_,_,rfl,hz _⟩
   | some l'=>
    have:=q2 l' hS
    subst this
    have hB:=qzgc hS
    rw[hS] at hlo
    simp only at hlo
    simp only[Option.isSome_some,Bool.not_true,cond_false,c_fds l' (by omega) (fun c hc=>qydc (hB.2 c hc)),EV0]
    rw[qdk,hlo]
    by_cases hall:l'.all (fun c=>qhf c.v)=true
    ·rw[if_pos hall,hall]
     obtain⟨p,a1,g1⟩:=hg.app (by':=24) [qrsb l'] (by unfold bound;simp;omega) (by unfold bound;simp;omega)
     obtain⟨xs,H',z1,z2⟩:=ih (i+1) n (acc++[l']) p.1 p.2 hd' (by omega) (by simp;omega) (by simpa using g1) k m
     refine⟨xs,H',?_,z2⟩
     simp only[Bool.not_true,cond_false,e5,hsrc,a1,Option.bind_some]
     rw[qaf (by omega)]
     exact z1
    ·have:l'.all (fun c=>qhf c.v)=false:=by simpa using hall
     rw[if_neg hall,this]
     exact⟨_,_,rfl,hz _⟩
 obtain⟨xs,H',z1,z2⟩:=loop (sides s) 0 ((sides s).length+1+1) [] (.lst true 1 []) [] rfl (by omega) rfl (Grow.nil 1) ((sides s).length+1+1) ((sides s).length+1+1)
 have hres:(match qdk (sides s) [] with | some l=>if l.length≤4 then [AV.one (qkk l),.one (Cell.bool true)] else [.one (qkk []),.one (Cell.bool false)] | none=>[.one (qkk []),.one (Cell.bool false)])=[.one (qkk ((qbx s).getD [])),.one (Cell.bool (qbx s).isSome)]:=by
  unfold qbx
  cases hq:qdk (sides s) [] with
  | none=>by_cases h4:(sides s).length≤4<;>simp[h4]
  | some l=>
   have h1:=qqn _ _ _ hq
   simp only[List.length_nil,Nat.zero_add] at h1
   by_cases h4:(sides s).length≤4<;>simp[h1,h4]
 rw[hres] at z2
 refine qbn (H:=H') (qmbb ((sides s).length+1) ?_) z2
 simp only[fdb,c_fdx s (by omega),EV0]
 exact z1
def resP:Option (MVer×Nat)→List AV | some (v,t)=>[.agg [Cell.int v.A,Cell.int v.B,Cell.int v.C,.lst true 1 []],.one (Cell.int t),.one (Cell.bool true)] | none=>[.agg [Cell.int 0,Cell.int 0,Cell.int 0,.lst true 1 []],.one (Cell.int 0),.one (Cell.bool false)]
theorem qqbb {l:List Str}{p:MVer×Nat}(h:numsOf l=some p):p.1.Pre=[]:=by
 have one:∀ x p,oneV x=some p→p.1.Pre=[]:=fun x p h=>by
  unfold oneV at h
  split at h
  ·simp only[Option.some.injEq] at h
   subst h
   rfl
  ·simp at h
 have two:∀ x y p,twoV x y=some p→p.1.Pre=[]:=fun x y p h=>by
  unfold twoV at h
  split at h
  ·simp only[Option.some.injEq] at h
   subst h
   rfl
  ·simp at h
 unfold numsOf at h
 split at h
 ·exact one _ _ h
 ·split at h
  ·exact one _ _ h
  ·exact two _ _ _ h
 ·split at h
  ·split at h
   ·exact one _ _ h
   ·exact two _ _ _ h
  ·simp at h
 ·simp at h
theorem c_fbi (s:Str)(hs:s.length≤1048576):∃ (w:MVer) (t:Nat),outL qwa [.one (Cell.str (bs s))]=some [.agg [Cell.int w.A,Cell.int w.B,Cell.int w.C,qbu w.Pre],.one (Cell.int t),.one (Cell.bool (partOf s).isSome)]∧∀ p,partOf s=some p→p=(w,t):=by
 have hM:=qai
 obtain⟨cs,E,i2,e2,r2,w2,_⟩:=qyx (f_fah s hs) ([]:List Entry) (qau [.one (Cell.str (bs s))] _ _)
 obtain⟨c6,rfl⟩:=MVer.open r2
 rw[List.nil_append] at e2 r2
 cases hk:(qae s).2 with
 | true=>
  have hp:partOf s=some ((qae s).1,3):=by unfold partOf;rw[if_pos hk]
  refine⟨(qae s).1,3,?_,fun p h=>by rw[hp] at h;exact(Option.some.inj h).symm⟩
  have hr:=qch r2 (by omega)
  simp only[MVer.tr,List.map_cons,List.map_nil,qbl,qbs] at hr
  refine qbn (H:=E) (xs:=[.agg [Cell.int (qae s).1.A,Cell.int (qae s).1.B,Cell.int (qae s).1.C,c6],.one (Cell.int ((3:Nat):Int)),.one (Cell.bool (partOf s).isSome)]) (qoq 0 ?_) (qcc hr (qcc (qaz _ _ _) (qcc (qaz _ _ _) (qbk _))))
  simp only[fbi,e2,hk,hp,EV0]
  rfl
 | false=>
  have hp:partOf s=numsOf (split 46 s):=by unfold partOf;rw[if_neg (by rw[hk];simp)]
  obtain⟨c9,E2,is,e3,r3,w3,_⟩:=qaeb (qfxd s 46 (by omega)) E (qau [.one (Cell.str (bs s)),.one (Cell.str (bs [46]))] _ _)
  have hl:=qkc.of (n:=2) r3
  generalize hH:E++E2=H at e3 r3 hl
  have hlen:∀ x∈split 46 s,x.length≤1073741824:=fun x hx=>by
   have:=(qbv 46 s []).2 x hx
   simp only[List.length_nil,Nat.zero_add] at this
   omega
  have hll:(split 46 s).length≤s.length+1:=(qbv 46 s []).1
  have hne:split 46 s≠[]:=qlh _ _
  have hz:mapO (qam false H) [.agg [Cell.int 0,Cell.int 0,Cell.int 0,.lst true 1 []],.one (Cell.int 0),.one (Cell.bool false)]=some [.agg [Cell.int 0,Cell.int 0,Cell.int 0,qbu []],.one (Cell.int ((0:Nat):Int)),.one (Cell.bool false)]:=rfl
  have hnum:∀ x:Str,x.length≤1073741824→out qio [.one (Cell.str (bs x)),.one (Cell.int 9999)]=some (numV (qan x 9999)):=fun x hx=>c_faf x 9999 hx (by omega)
  by_cases h3:(split 46 s).length≤3
  ·
   obtain⟨id,off,ep,hc⟩:∃ id off ep,c9=.vs id 1 off (split 46 s).length ep:=by
    rcases r3 with⟨h1,_⟩ | ⟨id,off,ep,e,fr,is',h2,_⟩
    ·exact absurd (by simpa using h1) hne
    ·exact⟨id,off,ep,by simpa using h2⟩
   have hsl:∀ t:Nat,t≤(split 46 s).length→slcC 1 c9 0 (some (t:Int)) none=some (.vs id 1 off t ep):=by
    intro t ht
    rw[hc]
    simp only[slcC,Option.getD_some,Option.getD_none,if_true]
    rw[if_pos ⟨by omega,by omega,by omega,by omega⟩,if_pos (.inl trivial)]
    simp
   have hat:∀ (t i:Nat) (x:Str),i < t→t≤(split 46 s).length→(split 46 s)[i]?=some x→∃ a rw' off',idxA 1 (.vs id 1 off t ep) (i:Int)=some a∧deref H a=some (rw',off')∧cS rw' off'=some (bs x):=by
    intro t i x h1 h2 h4
    obtain⟨a,rw',off',q1,q2,q3⟩:=hl.at h4
    refine⟨a,rw',off',?_,q2,q3⟩
    rw[← q1,hc]
    simp only[idxA,if_true]
    rw[if_pos ⟨by omega,by omega⟩,if_pos ⟨by omega,by omega⟩]
   have one:∀ (x:Str),(split 46 s)[0]?=some x→∀ k m n,qol k m (n+1+1) 1 (.vs id 1 off 1 ep) 1 0 0 0 H=some (resP (oneV x),H):=by
    intro x hx k m n
    obtain⟨a,rw',off',q1,q2,q3⟩:=hat 1 0 x (by omega) (List.length_pos_iff.2 hne) hx
    rw[show((0:Nat):Int)=0 from rfl] at q1
    have hxl:=hlen x (List.mem_of_getElem? hx)
    rw[qol]
    simp only[q1,q2,q3,hnum x hxl,show decide ((0:Int) < 1)=true from rfl,EV0]
    unfold oneV
    cases hq:qan x 9999 with
    | none=>
     simp only[numV,EV0,Bool.not_false]
     rfl
    | some p=>
     simp only[numV,EV0,Bool.not_true]
     rw[if_neg (by omega),if_pos trivial,show IntKind.i64.wrap ((0:Int)+1)=1 from wrap_small (by omega) (by omega)]
     rfl
   have two:∀ (x y:Str),(split 46 s)[0]?=some x→(split 46 s)[1]?=some y→∀ k m n,qol k m (n+1+1+1) 2 (.vs id 1 off 2 ep) 2 0 0 0 H=some (resP (twoV x y),H):=by
    intro x y hx hy k m n
    have hlt:=(List.getElem?_eq_some_iff.1 hy).1
    obtain⟨a,rw',off',q1,q2,q3⟩:=hat 2 0 x (by omega) (by omega) hx
    obtain⟨a',rw2,off2,q4,q5,q6⟩:=hat 2 1 y (by omega) (by omega) hy
    rw[show((0:Nat):Int)=0 from rfl] at q1
    rw[show((1:Nat):Int)=1 from rfl] at q4
    have hxl:=hlen x (List.mem_of_getElem? hx)
    have hyl:=hlen y (List.mem_of_getElem? hy)
    rw[qol]
    simp only[q1,q2,q3,hnum x hxl,show decide ((0:Int) < 2)=true from rfl,EV0]
    unfold twoV
    cases hq:qan x 9999 with
    | none=>
     simp only[numV,EV0,Bool.not_false]
     rfl
    | some p=>
     simp only[numV,EV0,Bool.not_true]
     rw[if_neg (by omega),if_pos trivial,show IntKind.i64.wrap ((0:Int)+1)=1 from wrap_small (by omega) (by omega),qol]
     simp only[q4,q5,q6,hnum y hyl,show decide ((1:Int) < 2)=true from rfl,EV0]
     cases hq2:qan y 9999 with
     | none=>
      simp only[numV,EV0,Bool.not_false]
      rfl
     | some p2=>
      simp only[numV,EV0,Bool.not_true]
      rw[if_pos trivial,show IntKind.i64.wrap ((1:Int)+1)=2 from wrap_small (by omega) (by omega)]
      rfl
   have w0:∀ t:Nat,1≤t→t≤3→IntKind.i64.wrap ((t:Int) - 1)=((t - 1:Nat):Int):=fun t h1 h2=>by rw[wrap_small (by omega) (by omega)];omega
   have xe:∀ z:Str,(z==[120])=decide (z=xS):=fun z=>strEq z xS
   have l0a:∀ (x:Str),(split 46 s)[0]?=some x→∀ k m n,qqi k (m+3) (n+1) c9 1 H=some (resP (oneV x),H):=by
    intro x hx k m n
    rw[qqi]
    rw[show decide ((1:Int) > 1)=false from rfl,cond_false,show decide ((1:Int) > 2)=false from rfl,cond_false,show(some (1:Int))=some ((1:Nat):Int) from rfl,hsl 1 (List.length_pos_iff.2 hne)]
    simp only[EV0,lenC]
    exact one x hx k (m+3) (m+1)
   have l0b:∀ (x y:Str),(split 46 s)[0]?=some x→(split 46 s)[1]?=some y→∀ k m n,qqi k (m+3) (n+1+1) c9 2 H=some (resP (if y=xS then oneV x else twoV x y),H):=by
    intro x y hx hy k m n
    have hlt:=(List.getElem?_eq_some_iff.1 hy).1
    obtain⟨a',rw2,off2,q4,q5,q6⟩:=hat (split 46 s).length 1 y (by omega) (by omega) hy
    rw[← hc] at q4
    rw[show((1:Nat):Int)=1 from rfl] at q4
    have ww:IntKind.i64.wrap ((2:Int) - 1)=1:=w0 2 (by omega) (by omega)
    rw[qqi]
    rw[show decide ((2:Int) > 1)=true from rfl,cond_true,ww]
    simp only[q4,q5,q6,xe,EV0]
    by_cases h:y=xS
    ·rw[decide_eq_true h,cond_true,if_pos h]
     exact l0a x hx k m n
    ·rw[decide_eq_false h,cond_false,if_neg h,show decide ((2:Int) > 2)=false from rfl,cond_false,show(some (2:Int))=some ((2:Nat):Int) from rfl,hsl 2 (by omega)]
     simp only[EV0,lenC]
     exact two x y hx hy k (m+3) m
   have fin:∀ k m n,qqi k (m+3) (n+1+1+1) c9 (split 46 s).length H=some (resP (numsOf (split 46 s)),H):=by
    intro k m n
    have hcs:(∃ x,split 46 s=[x])∨(∃ x y,split 46 s=[x,y])∨∃ x y z,split 46 s=[x,y,z]:=by
     match hq:split 46 s,h3,hne with
     | [x],_,_=>exact .inl ⟨x,rfl⟩
     | [x,y],_,_=>exact .inr (.inl ⟨x,y,rfl⟩)
     | [x,y,z],_,_=>exact .inr (.inr ⟨x,y,z,rfl⟩)
     | _::_::_::_::_,h5,_=>simp at h5
    rcases hcs with⟨x,hL⟩ | ⟨x,y,hL⟩ | ⟨x,y,z,hL⟩
    ·have z1:=l0a x (by rw[hL];rfl) k m (n+1+1)
     rw[hL]
     exact z1
    ·have z1:=l0b x y (by rw[hL];rfl) (by rw[hL];rfl) k m (n+1)
     rw[hL]
     exact z1
    ·have z1:=l0b x y (by rw[hL];rfl) (by rw[hL];rfl) k m n
     obtain⟨a',rw2,off2,q4,q5,q6⟩:=hat (split 46 s).length 2 z (by rw[hL];simp) (by omega) (by rw[hL];rfl)
     rw[← hc] at q4
     rw[show((2:Nat):Int)=2 from rfl] at q4
     have ww:IntKind.i64.wrap ((3:Int) - 1)=2:=w0 3 (by omega) (by omega)
     rw[hL,qqi]
     rw[show(([x,y,z]:List Str).length:Int)=3 from rfl,show decide ((3:Int) > 1)=true from rfl,cond_true,ww]
     simp only[q4,q5,q6,xe,EV0,numsOf]
     by_cases h:z=xS
     ·rw[decide_eq_true h,cond_true,if_pos h]
      exact z1
     ·rw[decide_eq_false h,cond_false,if_neg h]
      rfl
   have hrun:∀ k m,fbi k (m+3) (bs s)=some (resP (numsOf (split 46 s)),H):=by
    intro k m
    simp only[fbi,e2,hk,e3,hl.len,EV0]
    rw[decide_eq_false (by omega),cond_false]
    exact fin k m m
   rw[hp]
   have z1:=qoq 2 (hrun (2+1) 0)
   cases hq:numsOf (split 46 s) with
   | none=>
    rw[hq] at z1
    exact⟨⟨0,0,0,[]⟩,0,qbn z1 hz,fun p h=>by simp at h⟩
   | some p=>
    obtain⟨v,t⟩:=p
    rw[hq] at z1
    have hpre:=qqbb hq
    simp only at hpre
    refine⟨v,t,qbn z1 ?_,fun p h=>by simp only[Option.some.injEq] at h;exact h.symm⟩
    rw[hpre]
    rfl
  ·have hno:numsOf (split 46 s)=none:=by
    match h:split 46 s with
    | []=>rfl
    | [x]=>rw[h] at h3;simp at h3
    | [x,y]=>rw[h] at h3;simp at h3
    | [x,y,z]=>rw[h] at h3;simp at h3
    | _::_::_::_::_=>rfl
   rw[hp,hno]
   refine⟨⟨0,0,0,[]⟩,0,qbn (H:=H) (qoq 0 ?_) hz,fun p h=>by simp at h⟩
   simp only[fbi,e2,hk,e3,hl.len,EV0]
   rw[decide_eq_true (by omega),cond_true]
theorem c_fat (w:Str)(hw:w.length≤1048576):outL qvv [.one (Cell.str (bs w))]=some [.one (encL 5 eCmp ((qjj w).getD [])),.one (Cell.bool (qjj w).isSome)]:=by
 have hM:=qai
 have hz:mapO (qam false []) [.one (.lst true 5 []),.one (Cell.bool false)]=some [.one (encL 5 eCmp []),.one (Cell.bool false)]:=rfl
 have loop:∀ (r:List Str) (i n:Nat),signs.drop i=r→r.length < n→∀ k m,∃ xs,qyt k m n (bs w) i=some (xs,[])∧mapO (qam false []) xs=some [.one (encL 5 eCmp ((qeq w r).getD [])),.one (Cell.bool (qeq w r).isSome)]:=by
  intro r
  induction r with
  | nil=>
   intro i n hd hn k m
   obtain⟨n,rfl⟩:∃ j,n=j+1:=⟨n - 1,by omega⟩
   have:=drop_nil hd
   simp only[signs,List.length_cons,List.length_nil] at this
   simp only[qyt]
   rw[decide_eq_false (by omega),cond_false]
   exact⟨_,rfl,hz⟩
  | cons g r ih=>
   intro i n hd hn k m
   obtain⟨n,rfl⟩:∃ j,n=j+1:=⟨n - 1,by omega⟩
   obtain⟨hlt,hg,hd'⟩:=qao hd
   simp only[signs,List.length_cons,List.length_nil] at hlt
   simp only[List.length_cons] at hn
   have hsg:=qcqd hg
   simp only[qyt]
   rw[decide_eq_true (by omega),cond_true,if_pos ⟨by omega,by omega⟩,Int.toNat_natCast,Nat.mul_one,hsg]
   simp only[c_fel,EV0]
   obtain⟨xs,z1,z2⟩:=ih (i+1) n hd' (by omega) k m
   by_cases hp:g.isPrefixOf w=true
   ·rw[hp,Bool.not_true,cond_false,qzmb hp]
    obtain⟨v,t,q1,q2⟩:=c_fbi (w.drop g.length) (by simp;omega)
    simp only[q1,EV0,qre,qhbb]
    have hgo:qeq w (g::r)=match partOf (w.drop g.length) with | some p=>some (qcv g p.1 p.2) | none=>none:=by
     rw[qeq,if_pos hp]
    cases hpo:partOf (w.drop g.length) with
    | none=>
     rw[hpo] at hgo
     rw[hgo]
     simp only[Option.isSome_none,Bool.not_false,cond_true]
     exact⟨_,rfl,hz⟩
    | some p=>
     have e:=q2 p hpo
     subst e
     rw[hpo] at hgo
     rw[hgo]
     have hok:=qsf hpo
     simp only[Option.isSome_some,Bool.not_true,cond_false,c_fbm g v hok.1 t hok.2.1 hok.2.2,EV0]
     exact⟨_,rfl,qau [.one (encL 5 eCmp (qcv g v t)),.one (Cell.bool true)] _ _⟩
   ·have hgo:qeq w (g::r)=qeq w r:=by rw[qeq,if_neg hp]
    rw[hgo,show g.isPrefixOf w=false from Bool.eq_false_iff.2 hp,Bool.not_false,cond_true,qaf (by omega)]
    exact⟨xs,z1,z2⟩
 by_cases h42:w=[42]
 ·subst h42
  refine qbn (H:=[]) (qxh 0 ?_) (show mapO (qam false []) [.one (.lst true 5 [[Cell.int 4,Cell.int 0,Cell.int 0,Cell.int 0,.lst true 1 []]]),.one (Cell.bool true)]=some [.one (encL 5 eCmp [⟨4,zeroV⟩]),.one (Cell.bool true)] from rfl)
  have hrun:∀ q,fat q q (bs [42])=some ([.one (.lst true 5 [[Cell.int 4,Cell.int 0,Cell.int 0,Cell.int 0,.lst true 1 []]]),.one (Cell.bool true)],[]):=by
   intro q
   simp only[fat,qbf,beq_self_eq_true,cond_true]
  exact hrun _
 ·have hc:qjj w=qeq w signs:=by unfold qjj;rw[if_neg h42]
  rw[hc]
  obtain⟨xs,z1,z2⟩:=loop signs 0 10 rfl (by simp[signs]) (9+1) (9+1)
  have hrun:∀ q,fat q q (bs w)=qyt q q q (bs w) 0:=by
   intro q
   simp only[fat,qbf]
   rw[show(w==[42])=false by simpa using h42,cond_false]
  exact qbn (qxh 9 ((hrun _).trans z1)) z2
theorem qecc {A:List Entry}{sz by':Nat}{c:Cell}{T:List Entry}{rows:List (List Cell)}(h:GrowAt A.length sz c T rows)(ys:List (List Cell))(h1:(rows.length+ys.length)*by'≤bound)(h2:rows.length+ys.length≤bound):
  ∃ d T',app (A++T) sz by' c ys=some (d,A++T')∧GrowAt A.length sz d T' (rows++ys):=by
 rcases h with⟨rfl,rfl,rfl⟩ | ⟨ep,rfl,rfl⟩
 ·cases ys with
  | nil=>exact⟨_,[],by simp[app],.inl ⟨rfl,rfl,rfl⟩⟩
  | cons y ys=>
   refine⟨.vs A.length sz 0 (y::ys).length 0,[Entry.mk sz (y::ys) 0 false],?_,.inr ⟨0,rfl,rfl⟩⟩
   simp only[List.length_nil] at h1 h2
   simp only[app,List.isEmpty_cons,List.length_nil,List.append_nil,List.nil_append]
   rw[if_neg (by simp),if_pos ⟨trivial,.inr trivial,h1,h2⟩]
   simp
 ·refine⟨.vs A.length sz 0 (rows.length+ys.length) (ep+1),[Entry.mk sz (rows++ys) (ep+1) false],?_,.inr ⟨ep+1,by simp,rfl⟩⟩
  have he:entry? (A++[Entry.mk sz rows ep false]) A.length ep=some (Entry.mk sz rows ep false):=by simp[entry?]
  simp only[app,he]
  rw[if_pos ⟨trivial,by simp,.inr trivial,h1,h2⟩]
  simp
theorem GrowAt.readA {α:Type}{A T:List Entry}{sz:Nat}{c:Cell}{e:α→List Cell}[CanonE e]{xs:List α}(h:GrowAt A.length sz c T (xs.map e)):qam false (A++T) (.one c)=some (.one (encL sz e xs)):=by
 rcases h with⟨h1,rfl,rfl⟩ | ⟨ep,rfl,rfl⟩
 ·simp only[List.map_eq_nil_iff] at h1
  subst h1
  exact qsu (e:=e) true [] _
 ·have q:=qjb (sz:=sz) (chk:=false) (H:=A++[Entry.mk sz (xs.map e) ep false]) (id:=A.length) (ep:=ep) (fr:=false) (e:=e) (xs:=xs) 4194303 (by simp) (by simp)
  simp only[qam,depth,List.length_map,q,Option.map_some]
theorem GrowAt.lenA {α:Type}{A T:List Entry}{sz:Nat}{c:Cell}{e:α→List Cell}{xs:List α}(h:GrowAt A.length sz c T (xs.map e)):lenC c=some xs.length:=by
 rcases h with⟨h1,rfl,rfl⟩ | ⟨ep,rfl,rfl⟩
 ·simp only[List.map_eq_nil_iff] at h1
  subst h1
  rfl
 ·simp
theorem GrowAt.atA {α:Type}{A T:List Entry}{sz:Nat}{c:Cell}{e:α→List Cell}{xs:List α}(h:GrowAt A.length sz c T (xs.map e)){i:Nat}{x:α}(hx:xs[i]?=some x):∃ a,idxA sz c (i:Int)=some a∧deref (A++T) a=some (e x,0):=by
 have hlt:=(List.getElem?_eq_some_iff.1 hx).1
 rcases h with⟨h1,_,_⟩ | ⟨ep,rfl,rfl⟩
 ·simp only[List.map_eq_nil_iff] at h1
  subst h1
  simp at hx
 ·exact⟨.ptr A.length sz i 0 ep,qjd _ _ _ _ _ (by simpa using hlt),by simp[deref,entry?,hx]⟩
def trC (c:RCmp):List Tr:=.leaf (.int .i64 c.op)::c.v.tr
instance:TrE trC eCmp:=⟨fun x=>by simp only[trC,MVer.tr,eCmp,List.map_cons,List.map_nil,qbl,qbs]⟩
theorem c_fbc (p:Str)(hp:p.length≤1048576):∃ l:List RCmp,outL qzb [.one (Cell.str (bs p))]=some [.one (encL 5 eCmp l),.one (Cell.bool (qkl p).isSome)]∧∀ q,qkl p=some q→q=l:=by
 have hM:=qai
 have htl:=qeqc p
 have hspl:=qbv 32 (trim p) []
 have hwl:(split 32 (trim p)).length≤1048577:=by have:=hspl.1;unfold split;omega
 have hww:∀ y∈split 32 (trim p),y.length≤1048576:=fun y hy=>by
  have:=hspl.2 y hy
  simp only[List.length_nil,Nat.zero_add] at this
  omega
 have hlo:qkl p=qqp (split 32 (trim p)):=rfl
 obtain⟨c5,A,ids,e1,r1,w1,_⟩:=qaeb (qfxd (trim p) 32 (by omega)) ([]:List Entry) (qau [.one (Cell.str (bs (trim p))),.one (Cell.str (bs [32]))] _ _)
 rw[List.nil_append] at e1 r1
 have hl:=qkc.of (n:=2) r1
 generalize hws:split 32 (trim p)=ws at e1 r1 hl hwl hww hlo
 have hz:∀ G:List Entry,mapO (qam false G) [.one (.lst true 5 []),.one (Cell.bool false)]=some [.one (encL 5 eCmp []),.one (Cell.bool false)]:=fun G=>rfl
 have l1:∀ (acc:List RCmp) (c:Cell) (T:List Entry),acc.length≤4194304→(∀ x∈acc,okB x.v)→GrowAt A.length 5 c T (acc.map eCmp)→∀ (r:List RCmp) (i n:Nat),acc.drop i=r→r.length < n→∀ k m,
   qamb k m n c c acc.length i (A++T)=some (cond (r.all (fun c=>qhf c.v)) [.one c,.one (Cell.bool (decide (acc.length≤4)))] [.one (.lst true 5 []),.one (Cell.bool false)],A++T):=by
  intro acc c T ha hB hg r
  induction r with
  | nil=>
   intro i n hd hn k m
   obtain⟨n,rfl⟩:∃ j,n=j+1:=⟨n - 1,by omega⟩
   have:=drop_nil hd
   simp only[qamb,hg.lenA,EV0]
   rw[decide_eq_false (by omega),cond_false,show decide ((acc.length:Int)≤4)=decide (acc.length≤4) by rw[decide_eq_decide];omega]
   rfl
  | cons x r ih=>
   intro i n hd hn k m
   obtain⟨n,rfl⟩:∃ j,n=j+1:=⟨n - 1,by omega⟩
   obtain⟨hlt,hx,hd'⟩:=qao hd
   simp only[List.length_cons] at hn
   obtain⟨a,q1,q2⟩:=hg.atA hx
   have hxb:=qydc (hB x (List.mem_of_getElem? hx))
   simp only[qamb,q1,q2,eCmp,Nat.zero_add,c_fan x.v.A x.v.B x.v.C x.v.Pre hxb.2.2.2,EV0]
   rw[decide_eq_true (by omega),cond_true,qaf (by omega),ih (i+1) n hd' (by omega)]
   simp only[List.all_cons,qhf]
   cases qfr x.v.A x.v.B x.v.C x.v.Pre<;>rfl
 have loop:∀ (r:List Str) (i n:Nat) (acc:List RCmp) (c:Cell) (T:List Entry),ws.drop i=r→r.length < n→acc.length≤2*i→i≤ws.length→(∀ x∈acc,okB x.v)→GrowAt A.length 5 c T (acc.map eCmp)→∀ k m,4194304 < m→
   ∃ xs H',qsl k m n c c5 ws.length i (A++T)=some (xs,H')∧∃ (l:List RCmp) (b:Bool),mapO (qam false H') xs=some [.one (encL 5 eCmp l),.one (Cell.bool b)]∧
    match qdl r acc with | some q=>b=decide (q.length≤4∧q.all (fun c=>qhf c.v)=true)∧(b=true→l=q) | none=>b=false:=by
  intro r
  induction r with
  | nil=>
   intro i n acc c T hd hn ha hi hB hg k m hm
   obtain⟨n,rfl⟩:∃ j,n=j+1:=⟨n - 1,by omega⟩
   have:=drop_nil hd
   simp only[qsl,hg.lenA,EV0]
   rw[decide_eq_false (by omega),cond_false]
   have z:=l1 acc c T (by omega) hB hg acc 0 m rfl (by omega) k m
   rw[show((0:Nat):Int)=0 from rfl] at z
   rw[z,qdl]
   cases hall:acc.all (fun c=>qhf c.v) with
   | true=>exact⟨_,_,rfl,acc,decide (acc.length≤4),qcc hg.readA (qcc (qaz _ _ _) (qbk _)),by simp only[hall,and_true],fun _=>rfl⟩
   | false=>exact⟨_,_,rfl,[],false,hz _,by rw[hall];simp,by simp⟩
  | cons x r ih=>
   intro i n acc c T hd hn ha hi hB hg k m hm
   obtain⟨n,rfl⟩:∃ j,n=j+1:=⟨n - 1,by omega⟩
   obtain⟨hlt,hx,hd'⟩:=qao hd
   simp only[List.length_cons] at hn
   have hxl:=hww x (List.mem_of_getElem? hx)
   obtain⟨a,rw',off',q1,q2,q3⟩:=(hl.frame (H':=A++T) fun j hj=>List.getElem?_append_left (r1.lt j hj)).at hx
   simp only[qsl,q1,q2,q3,c_fat x hxl,EV0]
   rw[decide_eq_true (by omega),cond_true]
   cases hq:qjj x with
   | none=>
    rw[qdl,hq]
    simp only[Option.isSome_none,Bool.not_false,cond_true]
    exact⟨_,_,rfl,[],false,hz _,rfl⟩
   | some q=>
    have hqB:=qzf hq
    obtain⟨d,T',a1,g1⟩:=qecc (by':=56) hg (q.map eCmp) (by unfold bound;simp only[List.length_map];omega) (by unfold bound;simp only[List.length_map];omega)
    simp only[Option.isSome_some,Option.getD_some,Bool.not_true,cond_false,qpcb,a1,Option.bind_some]
    rw[qaf (by omega),qdl,hq]
    exact ih (i+1) n (acc++q) d T' hd' (by omega) (by rw[List.length_append];omega) (by omega) (fun y hy=>by
     rcases List.mem_append.1 hy with hy | hy
     ·exact hB y hy
     ·exact hqB.2 y hy) (by simpa using g1) k m hm
 have hcut:∀ k m,fbc k m (bs p)=fbc k m (bs p):=fun _ _=>rfl
 cases hh:qzpb ws with
 | some pr=>
  obtain⟨a,c⟩:=pr
  have hw3:=qxs hh
  subst hw3
  have ha:=hww a (by simp)
  have hcl:=hww c (by simp)
  have hs:qkl p=if (qae a).2&&(qae c).2 then some [⟨4,(qae a).1⟩,⟨2,(qae c).1⟩] else none:=by
   rw[hlo,qqp,hh]
  obtain⟨cs1,E1,i1,e2,r2,w2,_⟩:=qyx (f_fah a ha) A (qau [.one (Cell.str (bs a))] _ _)
  obtain⟨c17,rfl⟩:=MVer.open r2
  obtain⟨cs2,E2,i2,e3,r3,w3,_⟩:=qyx (f_fah c hcl) (A++E1) (qau [.one (Cell.str (bs c))] _ _)
  obtain⟨c26,rfl⟩:=MVer.open r3
  obtain⟨a0,rw0,off0,q1,q2,q3⟩:=hl.at (i:=0) (s:=a) rfl
  obtain⟨a1,rw1,off1,q4,q5,q6⟩:=hl.at (i:=1) (s:=[45]) rfl
  obtain⟨a2,rw2,off2,q7,q8,q9⟩:=(hl.frame (H':=A++E1) fun j hj=>List.getElem?_append_left (r1.lt j hj)).at (i:=2) (s:=c) rfl
  rw[show((0:Nat):Int)=0 from rfl] at q1
  rw[show((1:Nat):Int)=1 from rfl] at q4
  rw[show((2:Nat):Int)=2 from rfl] at q7
  generalize hG:A++E1++E2=G at e3 r3
  have r2':=Rep.app2 E2 r2
  rw[hG] at r2'
  have s1:Sp (Rep (G++[Entry.mk 5 [[Cell.int 4,Cell.int (qae a).1.A,Cell.int (qae a).1.B,Cell.int (qae a).1.C,c17],[Cell.int 2,Cell.int (qae c).1.A,Cell.int (qae c).1.B,Cell.int (qae c).1.C,c26]] 0 false]) true true 2) ([]++i1) [Cell.int 4,Cell.int (qae a).1.A,Cell.int (qae a).1.B,Cell.int (qae a).1.C,c17] (trC ⟨4,(qae a).1⟩):=
   Sp.cons (i:=[]) (qcx _) (Rep.app2 _ r2')
  have s2:Sp (Rep (G++[Entry.mk 5 [[Cell.int 4,Cell.int (qae a).1.A,Cell.int (qae a).1.B,Cell.int (qae a).1.C,c17],[Cell.int 2,Cell.int (qae c).1.A,Cell.int (qae c).1.B,Cell.int (qae c).1.C,c26]] 0 false]) true true 2) ([]++i2) [Cell.int 2,Cell.int (qae c).1.A,Cell.int (qae c).1.B,Cell.int (qae c).1.C,c26] (trC ⟨2,(qae c).1⟩):=
   Sp.cons (i:=[]) (qcx _) (Rep.app2 _ r3)
  have rr:Rep (G++[Entry.mk 5 [[Cell.int 4,Cell.int (qae a).1.A,Cell.int (qae a).1.B,Cell.int (qae a).1.C,c17],[Cell.int 2,Cell.int (qae c).1.A,Cell.int (qae c).1.B,Cell.int (qae c).1.C,c26]] 0 false]) true true 3 (G.length::(([]++i1)++(([]++i2)++[]))) (.vs G.length 5 0 2 0) (trL 5 trC [⟨4,(qae a).1⟩,⟨2,(qae c).1⟩]):=
   .inr ⟨G.length,0,0,_,false,_,rfl,rfl,by simp;rfl,fun _=>rfl,fun _=>⟨rfl,by simp[trL]⟩,by simp[trL],by simp,by
    simp only[List.drop_zero,trL,List.map_cons,List.map_nil,List.length_cons,List.length_nil]
    exact Sp.cons s1 (Sp.cons s2 .nil)⟩
  have hrd:=qsq rr (by omega)
  rw[qbs] at hrd
  have hq2:∀ q,qkl p=some q→q=[⟨4,(qae a).1⟩,⟨2,(qae c).1⟩]:=fun q hq=>by
   rw[hs] at hq
   split at hq
   ·exact(Option.some.inj hq).symm
   ·simp at hq
  refine⟨[⟨4,(qae a).1⟩,⟨2,(qae c).1⟩],?_,hq2⟩
  have hb:(qkl p).isSome=((qae a).2&&(qae c).2):=by
   rw[hs]
   rcases Bool.eq_false_or_eq_true ((qae a).2&&(qae c).2) with h | h
   ·rw[if_pos h,h]
    rfl
   ·rw[if_neg (by rw[h];simp),h]
    rfl
  rw[hb]
  refine qbn (qtt 0 ?_) (qcc hrd (qcc (qaz (.one (Cell.bool ((qae a).2&&(qae c).2))) _ _) (qbk _)))
  simp only[fbc,c_fep p (by omega),e1,hl.len,q1,q2,q3,q4,q5,q6,q7,q8,q9,e2,e3,EV0]
  rw[show(((0+1+1+1:Nat):Int)==3)=true from rfl]
  simp only[cond_true]
  cases (qae a).2<;>rfl
 | none=>
  have hlw:qkl p=qghd ws:=by rw[hlo,qqp,hh]
  obtain⟨xs,H',z1,l,b,z2,z3⟩:=loop ws 0 (ws.length+4194304+1) [] (.lst true 5 []) [] rfl (by omega) (by simp) (by omega) (by simp) (.inl ⟨rfl,rfl,rfl⟩) (ws.length+4194304+1) (ws.length+4194304+1) (by omega)
  rw[List.append_nil,show((0:Nat):Int)=0 from rfl] at z1
  have hb:b=(qkl p).isSome∧∀ q,qkl p=some q→q=l:=by
   rw[hlw]
   unfold qghd
   cases hq:qdl ws [] with
   | none=>
    rw[hq] at z3
    exact⟨z3,by simp⟩
   | some q=>
    rw[hq] at z3
    obtain⟨h1,h2⟩:=z3
    simp only
    by_cases h4:q.length≤4∧q.all (fun c=>qhf c.v)=true
    ·rw[if_pos h4]
     rw[decide_eq_true h4] at h1
     exact⟨by rw[h1];rfl,fun q' h=>by simp only[Option.some.injEq] at h;rw[← h];exact(h2 h1).symm⟩
    ·rw[if_neg h4]
     exact⟨by rw[h1,decide_eq_false h4];rfl,by simp⟩
  rw[← hb.1]
  refine⟨l,qbn (H:=H') (qtt (ws.length+4194304) ?_) z2,hb.2⟩
  have hrun:∀ q,fbc q q (bs p)=qsl q q q (.lst true 5 []) c5 ws.length 0 A:=by
   intro q
   simp only[fbc,c_fep p (by omega),e1,hl.len,EV0]
   by_cases h3:ws.length=3
   ·obtain⟨a,d,e,rfl⟩:∃ a d e,ws=[a,d,e]:=by
     match ws,h3 with
     | [a,d,e],_=>exact⟨a,d,e,rfl⟩
    have hd:(d==[45])=false:=by
     cases h:(d==[45]) with
     | false=>rfl
     | true=>
      have:d=[45]:=by simpa using h
      subst this
      simp[qzpb] at hh
    obtain⟨a1,rw1,off1,q4,q5,q6⟩:=hl.at (i:=1) (s:=d) rfl
    rw[show((1:Nat):Int)=1 from rfl] at q4
    rw[show((([a,d,e]:List Str).length:Int)==3)=true from rfl,cond_true]
    simp only[q4,q5,q6,EV0]
    rw[hd,cond_false]
   ·rw[show((ws.length:Int)==3)=false by rw[beq_eq_false_iff_ne];omega,cond_false]
  exact(hrun _).trans z1
theorem c_fag (s:Str)(hs:s.length≤1048576):outL qux [.one (Cell.str (bs s))]=some [.one (qkk ((qbx s).getD [])),.one (Cell.bool (qbx s).isSome)]:=by
 have hM:=qai
 have hsl:=qfc s.length s [] (Nat.le_refl _)
 have hll:(sides s).length≤s.length+1:=hsl.1
 have hel:∀ x∈sides s,x.length≤1048576:=fun x hx=>by
  have:=hsl.2 x hx
  simp only[List.length_nil,Nat.zero_add] at this
  omega
 have hz:∀ G:List Entry,mapO (qam false G) [.one (.lst true 1 []),.one (Cell.bool false)]=some [.one (qkk []),.one (Cell.bool false)]:=fun G=>rfl
 obtain⟨c3,A,ids,e1,r1,w1,_⟩:=qaeb (qnu s (by omega)) ([]:List Entry) (qau [.one (Cell.str (bs s)),.one (Cell.str (bs oo))] _ _)
 rw[List.nil_append] at e1 r1
 have hl:=qkc.of (n:=2) r1
 have loop:∀ (r:List Str) (i n:Nat) (acc:List (List RCmp)) (c:Cell) (T:List Entry),(sides s).drop i=r→r.length < n→acc.length=i→GrowAt A.length 1 c T (acc.map qrsb)→∀ k m,
   ∃ xs H',qbvb k m n c c3 (sides s).length i (A++T)=some (xs,H')∧
    mapO (qam false H') xs=some [.one (qkk ((qdk r acc).getD [])),.one (Cell.bool (qdk r acc).isSome)]:=by
  intro r
  induction r with
  | nil=>
   intro i n acc c T hd hn ha hg k m
   obtain⟨n,rfl⟩:∃ j,n=j+1:=⟨n - 1,by omega⟩
   have:=drop_nil hd
   simp only[qbvb]
   rw[decide_eq_false (by omega),cond_false,qdk]
   exact⟨_,_,rfl,qcc hg.readA (qcc (qaz _ _ _) (qbk _))⟩
  | cons x r ih=>
   intro i n acc c T hd hn ha hg k m
   obtain⟨n,rfl⟩:∃ j,n=j+1:=⟨n - 1,by omega⟩
   obtain⟨hlt,hx,hd'⟩:=qao hd
   simp only[List.length_cons] at hn
   have hxl:=hel x (List.mem_of_getElem? hx)
   obtain⟨a,rw',off',q1,q2,q3⟩:=(hl.frame (H':=A++T) fun j hj=>List.getElem?_append_left (r1.lt j hj)).at hx
   obtain⟨l,p1,p2⟩:=c_fbc x hxl
   have e5:∀ {β:Type} (l:List RCmp) (κ:List Cell→Option β),restK [encL 5 eCmp l] κ=κ [encL 5 eCmp l]:=fun l κ=>rfl
   have hsrc:∀ (G:List Entry) (l:List RCmp),qcy G 1 (.lst true 1 (chunks 1 1 [encL 5 eCmp l]))=some [qrsb l]:=fun G l=>by simp[qcy,rowsOf,chunks,qrsb]
   simp only[qbvb,q1,q2,q3,p1,EV0]
   rw[decide_eq_true (by omega),cond_true]
   cases hS:qkl x with
   | none=>
    rw[qdk,hS]
    simp only[Option.isSome_none,Bool.not_false,cond_true]
    exact⟨_,_,rfl,hz _⟩
   | some l'=>
    have:=p2 l' hS
    subst this
    obtain⟨d,T',a1,g1⟩:=qecc (by':=24) hg [qrsb l'] (by unfold bound;simp;omega) (by unfold bound;simp;omega)
    obtain⟨xs,H',z1,z2⟩:=ih (i+1) n (acc++[l']) d T' hd' (by omega) (by simp;omega) (by simpa using g1) k m
    refine⟨xs,H',?_,by rw[qdk,hS];exact z2⟩
    simp only[Option.isSome_some,Bool.not_true,cond_false,e5,hsrc,a1,Option.bind_some]
    rw[qaf (by omega)]
    exact z1
 by_cases h4:(sides s).length≤4
 ·obtain⟨xs,H',z1,z2⟩:=loop (sides s) 0 ((sides s).length+1+1) [] (.lst true 1 []) [] rfl (by omega) rfl (.inl ⟨rfl,rfl,rfl⟩) ((sides s).length+1+1) ((sides s).length+1+1)
  rw[List.append_nil,show((0:Nat):Int)=0 from rfl] at z1
  have hp:qbx s=qdk (sides s) []:=by unfold qbx;rw[if_pos h4]
  rw[hp]
  refine qbn (H:=H') (qwm ((sides s).length+1) ?_) z2
  have hoo:(bs [124,124])=bs oo:=rfl
  simp only[fag,hoo,e1,hl.len,EV0]
  rw[decide_eq_false (by omega),cond_false]
  exact z1
 ·have hp:qbx s=none:=by unfold qbx;rw[if_neg h4]
  rw[hp]
  refine qbn (H:=A) (qwm 0 ?_) (hz _)
  have hoo:(bs [124,124])=bs oo:=rfl
  simp only[fag,hoo,e1,hl.len,EV0]
  rw[decide_eq_true (by omega),cond_true]
end Go.Ev
