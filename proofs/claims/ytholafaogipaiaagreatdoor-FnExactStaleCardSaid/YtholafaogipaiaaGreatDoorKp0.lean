/- Conditions: none. -/
import Derived.Test.YtholafaogipaiaaGreatDoorEvCon
set_option linter.unusedSimpArgs false
set_option linter.unusedVariables false
namespace Go.Ev
open Go
def inR (x a b:Int):Bool:=decide (a≤x)&&decide (x≤b)
def qgj (b:UInt8):Bool:=inR b.toNat 97 122
def qas (b:UInt8):Bool:=inR b.toNat 48 57
def qpv (first:Bool):Str→Bool | []=>true | b::r=>(qgj b||(!first&&(qas b||b==45)))&&qpv false r
def qik (s:Str):Bool:=qpv true s&&inR s.length 1 10
theorem u8_eq (b:UInt8)(n:Nat)(h:n < 256):((b.toNat:Int)==(n:Int))=(b==UInt8.ofNat n):=by
 rw[Bool.eq_iff_iff]
 simp only[beq_iff_eq]
 constructor
 ·intro e
  apply UInt8.toNat_inj.1
  have:(UInt8.ofNat n).toNat=n:=by simp;omega
  omega
 ·intro e
  have:(UInt8.ofNat n).toNat=n:=by simp;omega
  rw[e,this]
theorem u8_ne (b:UInt8)(n:Nat)(h:n < 256):((b.toNat:Int) != (n:Int))=(b != UInt8.ofNat n):=by
 simp only[bne,u8_eq b n h]
theorem u8_lt (b:UInt8):(b.toNat:Int) < 256:=by have:=b.toNat_lt;omega
theorem c_fdz (x a b:Int):out qcj [.one (Cell.int x),.one (Cell.int a),.one (Cell.int b)]=some [.one (Cell.bool (inR x a b))]:=by
 refine qaw (H:=[]) (qngb 0 ?_)
 simp only[fdz,inR]
 by_cases h:a≤x
 ·rw[decide_eq_true (by omega:x≥a),cond_true,Bool.true_and]
 ·rw[decide_eq_false (by omega:¬ x≥a),cond_false,Bool.false_and]
theorem c_fbc (x a b:Int):out qen [.one (Cell.int x),.one (Cell.int a),.one (Cell.int b)]=some [.one (Cell.bool (inR x a b))]:=by
 refine qaw (H:=[]) (qowb 0 ?_)
 simp only[fbc,inR]
 by_cases h:a≤x
 ·rw[decide_eq_true (by omega:x≥a),cond_true,Bool.true_and]
 ·rw[decide_eq_false (by omega:¬ x≥a),cond_false,Bool.false_and]
theorem c_fea (b:UInt8):out qnf [.one (.sc (.int .u8 (b.toNat:Int)))]=some [.one (Cell.bool (qgj b))]:=by
 have:=u8_lt b
 refine qaw (H:=[]) (qsyb 0 ?_)
 simp only[fea,wrap_small (n:=(b.toNat:Int)) (by omega) (by omega),c_fdz,EV0,qgj]
theorem c_fdy (b:UInt8):out qfo [.one (.sc (.int .u8 (b.toNat:Int)))]=some [.one (Cell.bool (qas b))]:=by
 have:=u8_lt b
 refine qaw (H:=[]) (qoyb 0 ?_)
 simp only[fdy,wrap_small (n:=(b.toNat:Int)) (by omega) (by omega),c_fdz,EV0,qas]
theorem c_fbf (b:UInt8):out qmn [.one (.sc (.int .u8 (b.toNat:Int)))]=some [.one (Cell.bool (qgj b))]:=by
 refine qaw (H:=[]) (qpzb 0 ?_)
 simp only[fbf,qgj,inR]
 by_cases h:(97:Int)≤b.toNat
 ·rw[decide_eq_true (by omega:(b.toNat:Int)≥97),cond_true,Bool.true_and]
 ·rw[decide_eq_false (by omega:¬ (b.toNat:Int)≥97),cond_false,Bool.false_and]
theorem c_fbd (b:UInt8):out qfg [.one (.sc (.int .u8 (b.toNat:Int)))]=some [.one (Cell.bool (qas b))]:=by
 refine qaw (H:=[]) (qshb 0 ?_)
 simp only[fbd,qas,inR]
 by_cases h:(48:Int)≤b.toNat
 ·rw[decide_eq_true (by omega:(b.toNat:Int)≥48),cond_true,Bool.true_and]
 ·rw[decide_eq_false (by omega:¬ (b.toNat:Int)≥48),cond_false,Bool.false_and]
theorem c_fdl (s:Str)(hs:s.length≤1073741824):out qxd [.one (Cell.str (bs s))]=some [.one (Cell.bool (qik s))]:=by
 have hM:=qah
 have loop:∀ (r:Str) (i n:Nat),s.drop i=r→r.length < n→∀ k m,qsu k m n (bs s) i=some ([.one (Cell.bool (qpv (i==0) r&&inR s.length 1 10))],[]):=by
  intro r
  induction r with
  | nil=>
   intro i n hd hn k m
   obtain⟨n,rfl⟩:∃ j,n=j+1:=⟨n - 1,by omega⟩
   have:=drop_nil hd
   simp only[qsu,qbm]
   rw[decide_eq_false (by omega),cond_false]
   simp only[c_fdz,EV0,qpv]
  | cons b r ih=>
   intro i n hd hn k m
   obtain⟨n,rfl⟩:∃ j,n=j+1:=⟨n - 1,by omega⟩
   obtain⟨hlt,hg,hd'⟩:=qai hd
   simp only[List.length_cons] at hn
   have hz:((i:Int)==0)=(i==0):=by rw[Bool.eq_iff_iff];simp
   simp only[qsu,qcu,hg,c_fea,c_fdy,EV0]
   rw[decide_eq_true (by omega),cond_true,qag (by omega),ih (i+1) n hd' (by omega)]
   have h45:((b.toNat:Int) != 45)=!(b==45):=u8_ne b 45 (by omega)
   simp only[qpv,hz,show((i+1:Nat)==0)=false from rfl,h45]
   cases qgj b<;>cases qas b<;>cases (b==45)<;>cases (i==0)<;>rfl
 refine qaw (H:=[]) (qrjb (s.length+1) ?_)
 have:=loop s 0 (s.length+1+1) rfl (by omega) (s.length+1+1) (s.length+1+1)
 simpa[fdl,qik] using this
theorem c_faj (s:Str)(hs:s.length≤1073741824):out qxs [.one (Cell.str (bs s))]=some [.one (Cell.bool (qik s))]:=by
 have hM:=qah
 have loop:∀ (r:Str) (i n:Nat),s.drop i=r→r.length < n→∀ k m,qsn k m n (bs s) i=some ([.one (Cell.bool (qpv (i==0) r&&inR s.length 1 10))],[]):=by
  intro r
  induction r with
  | nil=>
   intro i n hd hn k m
   obtain⟨n,rfl⟩:∃ j,n=j+1:=⟨n - 1,by omega⟩
   have:=drop_nil hd
   simp only[qsn,qbm]
   rw[decide_eq_false (by omega),cond_false]
   simp only[c_fbc,EV0,qpv]
  | cons b r ih=>
   intro i n hd hn k m
   obtain⟨n,rfl⟩:∃ j,n=j+1:=⟨n - 1,by omega⟩
   obtain⟨hlt,hg,hd'⟩:=qai hd
   simp only[List.length_cons] at hn
   have hz:((i:Int)==0)=(i==0):=by rw[Bool.eq_iff_iff];simp
   simp only[qsn,qcu,hg,c_fbf,c_fbd,EV0]
   rw[decide_eq_true (by omega),cond_true,qag (by omega),ih (i+1) n hd' (by omega)]
   have h45:((b.toNat:Int) != 45)=!(b==45):=u8_ne b 45 (by omega)
   simp only[qpv,hz,show((i+1:Nat)==0)=false from rfl,h45]
   cases qgj b<;>cases qas b<;>cases (b==45)<;>cases (i==0)<;>rfl
 refine qaw (H:=[]) (qnab (s.length+1) ?_)
 have:=loop s 0 (s.length+1+1) rfl (by omega) (s.length+1+1) (s.length+1+1)
 simpa[faj,qik] using this
def qcn (c:UInt8)(cur:Str):Str→List Str | []=>[cur] | b::r=>if b=c then cur::qcn c [] r else qcn c (cur++[b]) r
def split (c:UInt8)(s:Str):List Str:=qcn c [] s
def ahead (c:UInt8)(s:Str):Str:=s.takeWhile (· != c)
def behind (c:UInt8)(s:Str):Str:=(s.dropWhile (· != c)).drop 1
theorem qbj (c:UInt8):∀ (s cur:Str),(qcn c cur s).length≤s.length+1∧∀ x∈qcn c cur s,x.length≤cur.length+s.length:=by
 intro s
 induction s with
 | nil=>intro cur;simp[qcn]
 | cons b r ih=>
  intro cur
  simp only[qcn]
  split
  ·obtain⟨h1,h2⟩:=ih []
   refine⟨by simp;omega,fun x hx=>?_⟩
   rcases List.mem_cons.1 hx with rfl | hx
   ·simp
   ·have:=h2 x hx;simp at this;simp;omega
  ·obtain⟨h1,h2⟩:=ih (cur++[b])
   refine⟨by simp;omega,fun x hx=>?_⟩
   have:=h2 x hx;simp at this;simp;omega
theorem qksb {c:UInt8}:∀ {s:Str} (cur:Str),c∉s→qcn c cur s=[cur++s]:=by
 intro s
 induction s with
 | nil=>intro cur _;simp[qcn]
 | cons b r ih=>
  intro cur h
  simp only[List.mem_cons,not_or] at h
  simp only[qcn]
  rw[if_neg fun e=>h.1 e.symm,ih _ h.2]
  simp
theorem qjbb {c:UInt8}:∀ {s:Str} (cur:Str),c∈s→qcn c cur s=(cur++ahead c s)::qcn c [] (behind c s):=by
 intro s
 induction s with
 | nil=>intro cur h;simp at h
 | cons b r ih=>
  intro cur h
  simp only[qcn]
  by_cases e:b=c
  ·subst e
   simp[ahead,behind]
  ·rw[if_neg e,ih _ (by simpa[Ne.symm e] using h)]
   simp[ahead,behind,e]
theorem qcz {c:UInt8}{s:Str}(h:c∉s):split c s=[s]:=qksb [] h
theorem qeb {c:UInt8}{s:Str}(h:c∈s):split c s=ahead c s::split c (behind c s):=qjbb [] h
theorem qes {c:UInt8}:∀ (s cur:Str),qcn c cur s≠[]:=by
 intro s
 induction s with
 | nil=>intro cur;simp[qcn]
 | cons b r ih=>intro cur;simp only[qcn];split<;>simp[ih]
theorem qjv (c:UInt8)(s:Str):(ahead c s).length≤s.length:=by
 have:=(List.takeWhile_prefix (fun x=>x != c) (l:=s)).length_le
 exact this
theorem qgx (c:UInt8)(s:Str):(behind c s).length≤s.length:=by
 have:=(List.dropWhile_suffix (fun x=>x != c) (l:=s)).length_le
 simp only[behind,List.length_drop]
 omega
theorem qsr {c:UInt8}(s:Str):c∉ahead c s:=by
 induction s with
 | nil=>simp[ahead]
 | cons b r ih=>
  unfold ahead
  rw[List.takeWhile_cons]
  split
  ·rename_i h
   intro hm
   rcases List.mem_cons.1 hm with e | e
   ·rw[← e] at h;simp at h
   ·exact ih e
  ·simp
theorem c_fdt (s:Str)(c:UInt8)(hs:s.length≤1073741824):outL qci [.one (Cell.str (bs s)),.one (.sc (.int .u8 (c.toNat:Int)))]=some [.one (qba (split c s))]:=by
 have hM:=qah
 have loop:∀ (r:Str) (i from' n:Nat) (cur:Str) (cl:Cell) (H:List Entry) (done:List Str),s.drop i=r→from'≤i→i≤s.length→(s.take i).drop from'=cur→r.length+1 < n→Grow 1 cl H (done.map eStr)→done.length≤i→
   ∀ k m,∃ cl' H',qru k m n (bs s) (c.toNat:Int) cl from' i H=some ([.one cl'],H')∧Grow 1 cl' H' ((done++qcn c cur r).map eStr):=by
  intro r
  induction r with
  | nil=>
   intro i from' n cur cl H done hd hf hi hc hn hg hdl k m
   obtain⟨n,rfl⟩:∃ j,n=j+2:=⟨n - 2,by omega⟩
   have hlen:=drop_nil hd
   have e:i=s.length:=by omega
   subst e
   obtain⟨p,hp,hgp⟩:=hg.app (by':=16) [eStr cur] (by simp[bound];omega) (by simp[bound];omega)
   refine⟨p.1,p.2,?_,by simpa[qcn] using hgp⟩
   simp only[qru,qbm]
   rw[decide_eq_true (by omega),cond_true,show(((s.length:Nat):Int)==(s.length:Int))=true by simp,cond_true,qcw _ _ _ hf (Nat.le_refl _),hc]
   simp only[Option.bind_some]
   rw[show [[Cell.str (bs cur)]]=[eStr cur] from rfl,hp]
   simp only[Option.bind_some]
   rw[qag (by omega),decide_eq_false (by omega),cond_false]
  | cons b r ih=>
   intro i from' n cur cl H done hd hf hi hc hn hg hdl k m
   obtain⟨n,rfl⟩:∃ j,n=j+1:=⟨n - 1,by omega⟩
   obtain⟨hlt,hgx,hd'⟩:=qai hd
   simp only[List.length_cons] at hn
   simp only[qru,qbm,qcu,hgx,Option.map_some,Option.bind_some]
   rw[decide_eq_true (by omega),cond_true,show(((i:Nat):Int)==(s.length:Int))=false by simp;omega,cond_false,qag (by omega)]
   have hbc:((b.toNat:Int)==(c.toNat:Int))=decide (b=c):=by
    rw[Bool.eq_iff_iff]
    simp only[beq_iff_eq,decide_eq_true_eq]
    exact⟨fun h=>UInt8.toNat_inj.1 (by omega),fun h=>by rw[h]⟩
   rw[hbc]
   by_cases e:b=c
   ·rw[decide_eq_true e,cond_true,qcw _ _ _ hf (by omega),hc]
    simp only[Option.bind_some]
    obtain⟨p,hp,hgp⟩:=hg.app (by':=16) [eStr cur] (by simp[bound];omega) (by simp[bound];omega)
    rw[show [[Cell.str (bs cur)]]=[eStr cur] from rfl,hp]
    simp only[Option.bind_some]
    obtain⟨cl',H',h1,h2⟩:=ih (i+1) (i+1) n [] p.1 p.2 (done++[cur]) hd' (Nat.le_refl _) (by omega) (by simp) (by omega) (by simpa using hgp) (by simp;omega) k m
    refine⟨cl',H',h1,?_⟩
    simpa[qcn,e] using h2
   ·rw[decide_eq_false e,cond_false]
    obtain⟨cl',H',h1,h2⟩:=ih (i+1) from' n (cur++[b]) cl H done hd' (by omega) (by omega) (by
     rw[← hc,List.take_add_one,hgx]
     simp only[Option.toList_some]
     rw[List.drop_append_of_le_length (by simp;omega)]) (by omega) hg (by omega) k m
    refine⟨cl',H',h1,?_⟩
    simpa[qcn,e] using h2
 obtain⟨cl',H',h1,h2⟩:=loop s 0 0 (s.length+1+1) [] (.lst true 1 []) [] [] rfl (by omega) (by omega) rfl (by omega) (.nil 1) (by simp) (s.length+1+1) (s.length+1+1)
 refine qbb (qqpb (s.length+1) (by simpa[fdt] using h1)) ?_
 exact h2.read
theorem qta {c:UInt8}{s:Str}(h:c∉s):ahead c s=s:=by
 induction s with
 | nil=>rfl
 | cons b r ih=>
  simp only[List.mem_cons,not_or] at h
  have:ahead c (b::r)=b::ahead c r:=by simp[ahead,Ne.symm h.1]
  rw[this,ih h.2]
theorem qri {c:UInt8}{s:Str}(h:c∉s):behind c s=[]:=by
 induction s with
 | nil=>rfl
 | cons b r ih=>
  simp only[List.mem_cons,not_or] at h
  have:behind c (b::r)=behind c r:=by simp[behind,Ne.symm h.1]
  rw[this,ih h.2]
def trimP (p s:Str):Str:=if p.isPrefixOf s then s.drop p.length else s
theorem qghb (b:UInt8)(r:Str):bytS (bs (b::r)) 0=some (b.toNat:Int):=by
 have:=qcu (b::r) 0
 simpa using this
theorem qpk (c:UInt8)(s:Str):Lib.indexByte s c=if c∈s then ((ahead c s).length:Int) else -1:=by
 induction s with
 | nil=>rfl
 | cons b r ih=>
  simp only[Lib.indexByte]
  by_cases e:b=c
  ·subst e
   simp[ahead]
  ·have e1:(b==c)=false:=by simpa using e
   simp only[e1,Bool.false_eq_true,if_false]
   have e2:ahead c (b::r)=b::ahead c r:=by simp[ahead,e]
   by_cases h:c∈r
   ·rw[if_pos h] at ih
    rw[ih,if_neg (by simp<;>omega),if_pos (List.mem_cons_of_mem _ h),e2]
    simp
   ·rw[if_neg h] at ih
    rw[ih,if_pos (by simp),if_neg]
    intro hm
    rcases List.mem_cons.1 hm with q | q
    ·exact e q.symm
    ·exact h q
theorem qfv (c:UInt8)(s:Str):s.take (ahead c s).length=ahead c s:=
 (List.prefix_iff_eq_take.1 (List.takeWhile_prefix _)).symm
theorem qsi {c:UInt8}{s:Str}(h:c∈s):(ahead c s).length < s.length:=by
 have h1:=qjv c s
 rcases Nat.lt_or_ge (ahead c s).length s.length with h2 | h2
 ·exact h2
 ·have h3:=qfv c s
  rw[List.take_of_length_le h2] at h3
  rw[h3] at h
  exact absurd h (qsr s)
theorem qgt (c:UInt8)(s:Str):s.drop ((ahead c s).length+1)=behind c s:=by
 have h:s=ahead c s++s.dropWhile (· != c):=(List.takeWhile_append_dropWhile).symm
 have h2:s.drop (ahead c s).length=s.dropWhile (· != c):=by
  rw[congrArg (List.drop (ahead c s).length) h,List.drop_left]
 rw[← List.drop_drop,h2]
 rfl
theorem c_fbw (s:Str)(c:UInt8):out qrn [.one (Cell.str (bs s)),.one (.sc (.int .u8 (c.toNat:Int)))]=some [.one (Cell.int (Lib.indexByte s c))]:=by
 simp[out,qrn]
theorem c_fbv (s:Str)(c:UInt8):out qwj [.one (Cell.str (bs s)),.one (Cell.str (bs [c]))]=some [.one (Cell.int (Lib.indexByte s c))]:=by
 refine qaw (H:=[]) (qorb 0 ?_)
 simp only[fbv,qghb,c_fbw,EV0]
 rw[show(((0+1:Nat):Int)==0)=false from rfl,show(((0+1:Nat):Int)==1)=true from rfl,cond_false,cond_true]
 by_cases h:[c]=s
 ·rw[← h]
  simp[Lib.indexByte]
 ·rw[show([c]==s)=false by simpa using h,cond_false]
def cutV (c:UInt8)(s:Str):List AV:=if c∈s then [.one (Cell.str (bs (ahead c s))),.one (Cell.str (bs (behind c s))),.one (Cell.bool true)] else [.one (Cell.str (bs s)),.one (Cell.str (bs [])),.one (Cell.bool false)]
theorem c_fbs (s:Str)(c:UInt8)(hs:s.length≤1073741824):out qxh [.one (Cell.str (bs s)),.one (Cell.str (bs [c]))]=some (cutV c s):=by
 refine qaw (H:=[]) (qohb 0 ?_)
 simp only[fbs,c_fbv,EV0]
 rw[qpk]
 unfold cutV
 by_cases h:c∈s
 ·have h1:=qsi h
  rw[if_pos h,if_pos h,decide_eq_true (by omega),cond_true]
  have e1:=qcw s 0 (ahead c s).length (by omega) (by omega)
  simp only[Int.natCast_zero,List.drop_zero,qfv] at e1
  rw[e1]
  simp only[Option.bind_some]
  rw[show(((ahead c s).length:Int)+((0+1:Nat):Int))=(((ahead c s).length+1:Nat):Int) by omega,wrap_small (by omega) (by omega),qcw s _ _ (by omega) (Nat.le_refl _),List.take_length,qgt]
  rfl
 ·rw[if_neg h,if_neg h,decide_eq_false (by omega),cond_false]
theorem c_ffa (s:Str)(c:UInt8)(hs:s.length≤1073741824):out qfr [.one (Cell.str (bs s)),.one (Cell.str (bs [c]))]=some (cutV c s):=by
 refine qaw (H:=[]) (qqkb 0 ?_)
 simp only[ffa,c_fbs s c hs,EV0]
 unfold cutV
 by_cases h:c∈s
 ·simp only[if_pos h,EV0]
 ·simp only[if_neg h,EV0]
theorem c_fbu (s p:Str):out qtq [.one (Cell.str (bs s)),.one (Cell.str (bs p))]=some [.one (Cell.bool (p.isPrefixOf s))]:=by
 refine qaw (H:=[]) (qokb 0 ?_)
 simp only[fbu,EV0]
 by_cases h:p.length≤s.length
 ·have e1:=qcw s 0 p.length (by omega) h
  simp only[Int.natCast_zero,List.drop_zero] at e1
  rw[decide_eq_true (by omega),cond_true,e1]
  simp only[EV0]
  congr 5
  rw[Bool.eq_iff_iff,List.isPrefixOf_iff_prefix,List.prefix_iff_eq_take,beq_iff_eq]
  exact eq_comm
 ·rw[decide_eq_false (by omega),cond_false]
  congr 5
  symm
  rw[← Bool.not_eq_true,List.isPrefixOf_iff_prefix]
  exact fun hp=>h hp.length_le
def lt (a b:Str):Bool:=Op.bytesLess a b
theorem lt_self (a:Str):lt a a=false:=by
 unfold lt
 induction a with
 | nil=>rfl
 | cons x a ih=>simp[Op.bytesLess,ih]
theorem lt_not:∀ (a b:Str),(lt a b||a==b)=!lt b a:=by
 unfold lt
 intro a
 induction a with
 | nil=>intro b;cases b<;>rfl
 | cons x a ih=>
  intro b
  cases b with
  | nil=>rfl
  | cons y b=>
   have h:=ih b
   simp only[Op.bytesLess]
   have e:((x::a)==(y::b))=(x==y&&a==b):=rfl
   rw[e]
   rcases Nat.lt_trichotomy x.toNat y.toNat with h1 | h1 | h1
   ·have e1:decide (x < y)=true:=by simpa[UInt8.lt_iff_toNat_lt] using h1
    have e2:decide (y < x)=false:=by simp[UInt8.lt_iff_toNat_lt];omega
    have e3:(y==x)=false:=by simp;intro e;rw[e] at h1;omega
    simp[e1,e2,e3]
   ·have e0:=UInt8.toNat_inj.1 h1
    subst e0
    have e1:decide (x < x)=false:=by simp
    simp only[e1,Bool.false_or,beq_self_eq_true,Bool.true_and,h]
   ·have e1:decide (y < x)=true:=by simpa[UInt8.lt_iff_toNat_lt] using h1
    have e2:decide (x < y)=false:=by simp[UInt8.lt_iff_toNat_lt];omega
    have e3:(x==y)=false:=by simp;intro e;rw[e] at h1;omega
    simp[e1,e2,e3]
theorem bl_eq (a b:Str):Op.bytesLess a b=lt a b:=rfl
theorem qsb {i:Nat}(h:i < Go.maxLen):IntKind.i64.wrap (((i+1:Nat):Int) - 1)=(i:Int):=by
 have:=qah
 rw[wrap_small (by omega) (by omega)]
 omega
def idxF {α:Type}(p:α→Bool):List α→Nat→Int | [],_=>-1 | x::r,i=>cond (p x) (i:Int) (idxF p r (i+1))
theorem qgzb {α:Type}(p:α→Bool):∀ (l:List α) (i:Nat),(idxF p l i=-1∧l.find? p=none)∨∃ (j:Nat) (x:α),idxF p l i=((i+j:Nat):Int)∧l[j]?=some x∧l.find? p=some x:=by
 intro l
 induction l with
 | nil=>intro i;exact .inl ⟨rfl,rfl⟩
 | cons b r ih=>
  intro i
  by_cases e:p b=true
  ·exact .inr ⟨0,b,by simp[idxF,e],rfl,by simp[e]⟩
  ·rcases ih (i+1) with⟨h1,h2⟩ | ⟨j,x,h1,h2,h3⟩
   ·exact .inl ⟨by simp[idxF,e,h1],by simp[e,h2]⟩
   ·exact .inr ⟨j+1,x,by simp only[idxF,Bool.eq_false_iff.2 e,cond_false,h1];congr 1;omega,by simpa using h2,by simp[e,h3]⟩
theorem c_fec (x:MVer)(hx:x.Bd 1048576):outL qnl [.agg [Cell.int x.A,Cell.int x.B,Cell.int x.C,qba x.Pre]]=some [.agg [Cell.int x.A,Cell.int x.B,Cell.int x.C,qba x.Pre]]:=by
 obtain⟨b0,b1,b2,b3⟩:=hx
 have l1:=b3.1
 have hs:∀ (xs:List Str) H,qbr H 1 (qba xs)=some (xs.map eStr):=fun xs H=>by simp[qbr,rowsOf,encL]
 obtain⟨c1,E1,i1,e1,r1,w1,g1⟩:=clone_rep (sz:=1) (by':=16) (e:=eStr) (tr:=qfm) ([]:List Entry) x.Pre (fun _ _=>rfl) (fun _ _ _=>Sp.leaf1 _) (by unfold bound;omega) (by unfold bound;omega)
 have hs':Sp (Rep ([]++E1) true true 2) (i1++[]) [Cell.int x.A,Cell.int x.B,Cell.int x.C,c1] x.tr:=
  by
  unfold MVer.tr
  exact Sp.cons (i:=[]) (qbt _) (Sp.cons (i:=[]) (qbt _) (Sp.cons (i:=[]) (qbt _) (Sp.cons r1 .nil)))
 refine qbb (H:=[]++E1) (xs:=[.agg [Cell.int x.A,Cell.int x.B,Cell.int x.C,c1]]) (qnob 0 ?_) ?_
 ·simp only[fec,hs,e1,EV0]
 ·have:=qcv (qkr hs' (by omega)) (qbu (qan false ([]++E1)))
  simpa only[MVer.tr,List.map_cons,List.map_nil,qch,qbz] using this
def qca (l:List MPick)(s:Str):MVer×Bool:=match l.find? (fun p=>p.Name==s) with
 | some p=>(p.V,true)
 | none=>(⟨0,0,0,[]⟩,false)
theorem b_PickOf (l:List MPick)(hl:bdL 1048576 (MPick.Bd 1048576) l)(s:Str)(hs:bdS 1048576 s):(qca l s).1.Bd 1048576:=by
 unfold qca
 split
 ·rename_i r h
  exact(hl.2 r (List.mem_of_find?_eq_some h)).2
 ·exact⟨by simp[bdI],by simp[bdI],by simp[bdI],⟨by simp,by simp⟩⟩
theorem c_fdq (l:List MPick)(hl:bdL 1048576 (MPick.Bd 1048576) l)(s:Str)(hs:bdS 1048576 s):outL qwf [.one (encL 5 MPick.enc l),.one (Cell.str (bs s))]=some [.agg [Cell.int (qca l s).1.A,Cell.int (qca l s).1.B,Cell.int (qca l s).1.C,qba (qca l s).1.Pre],.one (Cell.bool (qca l s).2)]:=by
 have hM:=qah
 have hxl:=hl.1
 have loop:∀ (r:List MPick) (i n:Nat),l.drop i=r→r.length < n→(∀ x∈r,x.Bd 1048576)→∀ k m,∃ ys,qyp k m n (encL 5 MPick.enc l) (bs s) i=some (ys,[])∧
   mapO (qan false []) ys=some [.agg [Cell.int (qca r s).1.A,Cell.int (qca r s).1.B,Cell.int (qca r s).1.C,qba (qca r s).1.Pre],.one (Cell.bool (qca r s).2)]:=by
  intro r
  induction r with
  | nil=>
   intro i n hd hn hb k m
   obtain⟨n,rfl⟩:∃ j,n=j+1:=⟨n - 1,by omega⟩
   have:=drop_nil hd
   refine⟨_,by simp only[qyp,qar,Option.bind_some];rw[decide_eq_false (by omega),cond_false],?_⟩
   rfl
  | cons x r ih=>
   intro i n hd hn hb k m
   obtain⟨n,rfl⟩:∃ j,n=j+1:=⟨n - 1,by omega⟩
   obtain⟨hlt,hg,hd'⟩:=qai hd
   simp only[List.length_cons] at hn
   have hx:=hb x List.mem_cons_self
   by_cases e:x.Name=s
   ·have hm:qca (x::r) s=(x.V,true):=by simp[qca,e]
    refine⟨_,?_,qbe [.agg [Cell.int x.V.A,Cell.int x.V.B,Cell.int x.V.C,qba x.V.Pre],.one (Cell.bool true)] _ _ |>.trans (by rw[hm])⟩
    simp only[qyp,qar,qak,hg,MPick.enc,c_fec x.V hx.2,qcl,Nat.zero_add,EV0]
    rw[decide_eq_true (by omega),cond_true,show(x.Name==s)=true by simpa using e,cond_true]
   ·have hm:qca (x::r) s=qca r s:=by simp[qca,e]
    obtain⟨ys,h1,h2⟩:=ih (i+1) n hd' (by omega) (fun y hy=>hb y (List.mem_cons_of_mem _ hy)) k m
    refine⟨ys,?_,by rw[hm];exact h2⟩
    simp only[qyp,qar,qak,hg,MPick.enc,qcl,Nat.zero_add,EV0]
    rw[decide_eq_true (by omega),cond_true,show(x.Name==s)=false by simpa using e,cond_false,qag (by omega)]
    exact h1
 obtain⟨ys,h1,h2⟩:=loop l 0 (l.length+1+1) rfl (by omega) hl.2 (l.length+1+1) (l.length+1+1)
 refine qbb (H:=[]) (qoob (l.length+1) ?_) h2
 simpa[fdq] using h1
theorem c_fbk (l:List MPick)(hl:l.length≤1073741824)(s:Str):out qma [.one (encL 5 MPick.enc l),.one (Cell.str (bs s))]=some [.one (Cell.int (idxF (fun p=>p.Name==s) l 0))]:=by
 have hM:=qah
 have hc:∀ x:MPick,qqz [.agg [Cell.str (bs x.Name),Cell.int x.V.A,Cell.int x.V.B,Cell.int x.V.C,qba x.V.Pre],.one (.ptr 0 1 0 0 0)] [Entry.mk 1 [[Cell.str (bs s)]] 0 false]=some ([.one (Cell.bool (x.Name==s))],[Entry.mk 1 [[Cell.str (bs s)]] 0 false]):=by
  intro x
  refine qobb 0 ?_
  simp[fbl,deref,entry?,cS]
 have loop:∀ (r:List MPick) (i n:Nat),l.drop i=r→r.length < n→∀ k m,qav k m n (encL 5 MPick.enc l) (.ptr 0 1 0 0 0) l.length i [Entry.mk 1 [[Cell.str (bs s)]] 0 false]=some ([.one (Cell.int (idxF (fun p=>p.Name==s) r i))],[Entry.mk 1 [[Cell.str (bs s)]] 0 false]):=by
  intro r
  induction r with
  | nil=>
   intro i n hd hn k m
   obtain⟨n,rfl⟩:∃ j,n=j+1:=⟨n - 1,by omega⟩
   have:=drop_nil hd
   simp only[qav]
   rw[decide_eq_false (by omega),cond_false]
   rfl
  | cons x r ih=>
   intro i n hd hn k m
   obtain⟨n,rfl⟩:∃ j,n=j+1:=⟨n - 1,by omega⟩
   obtain⟨hlt,hg,hd'⟩:=qai hd
   simp only[List.length_cons] at hn
   simp only[qav,qak,hg,MPick.enc,hc,Nat.zero_add,EV0]
   rw[decide_eq_true (by omega),cond_true,qag (by omega),ih (i+1) n hd' (by omega)]
   simp only[idxF]
   cases x.Name==s<;>rfl
 refine qaw (H:=[Entry.mk 1 [[Cell.str (bs s)]] 0 false]) (qojb 0 ?_)
 have h:=qdd (c1:=encL 5 MPick.enc l) (q2:=.ptr 0 1 0 0 0) (H:=[Entry.mk 1 [[Cell.str (bs s)]] 0 false]) (l.length+1) (by
  simpa[qbn] using loop l 0 (l.length+1+1) rfl (by omega) (l.length+1+1) (l.length+1+1))
 simp only[fbk,h,EV0]
def qbp (l:List MPack):List MNeed:=l.flatMap (·.Needs)
theorem qhn (l:List MPack):(qbp l).length≤wtL MPack.wt l:=by
 induction l with
 | nil=>simp[qbp]
 | cons x l ih=>
  simp only[qbp,wtL,List.flatMap_cons,List.length_append,List.length_cons,List.map_cons,List.sum_cons] at ih ⊢
  have:x.Needs.length≤MPack.wt x:=by simp only[MPack.wt,wtL];omega
  omega
theorem qscb (l:List MPack)(hl:bdL 1048576 (MPack.Bd 1048576) l)(hw:wtL MPack.wt l≤1048576):bdL 1048576 (MNeed.Bd 1048576) (qbp l):=by
 refine⟨Nat.le_trans (qhn l) hw,fun x hx=>?_⟩
 obtain⟨p,hp,hx⟩:=List.mem_flatMap.1 hx
 exact(hl.2 p hp).2.2.1.2 x hx
theorem c_fdw (l:List MPack)(hl:bdL 1048576 (MPack.Bd 1048576) l)(hw:wtL MPack.wt l≤1048576):outL qwe [.one (encL 4 MPack.enc l)]=some [.one (encL 2 MNeed.enc (qbp l))]:=by
 have hM:=qah
 have hxl:=hl.1
 have htot:=qhn l
 have loop:∀ (r:List MPack) (i n:Nat) (acc:List MNeed) (c:Cell) (H:List Entry),l.drop i=r→r.length < n→acc.length+(qbp r).length≤1048576→Grow 2 c H (acc.map MNeed.enc)→
   ∀ k m,∃ c' H',qatb k m n (encL 4 MPack.enc l) c i H=some ([.one c'],H')∧Grow 2 c' H' ((acc++qbp r).map MNeed.enc):=by
  intro r
  induction r with
  | nil=>
   intro i n acc c H hd hn ha hg k m
   obtain⟨n,rfl⟩:∃ j,n=j+1:=⟨n - 1,by omega⟩
   have:=drop_nil hd
   refine⟨c,H,?_,by simpa[qbp] using hg⟩
   simp only[qatb,qar,Option.bind_some]
   rw[decide_eq_false (by omega),cond_false]
  | cons x r ih=>
   intro i n acc c H hd hn ha hg k m
   obtain⟨n,rfl⟩:∃ j,n=j+1:=⟨n - 1,by omega⟩
   obtain⟨hlt,hx,hd'⟩:=qai hd
   simp only[List.length_cons] at hn
   have he:qbp (x::r)=x.Needs++qbp r:=by simp[qbp]
   rw[he,List.length_append] at ha
   obtain⟨q,e1,e2⟩:=hg.app (by':=32) (x.Needs.map MNeed.enc) (by unfold bound;simp;omega) (by unfold bound;simp;omega)
   obtain⟨c',H',h1,h2⟩:=ih (i+1) n (acc++x.Needs) q.1 q.2 hd' (by omega) (by rw[List.length_append];omega) (by simpa using e2) k m
   refine⟨c',H',?_,by rw[he,← List.append_assoc];exact h2⟩
   have hs:qbr H 2 (encL 2 MNeed.enc x.Needs)=some (x.Needs.map MNeed.enc):=by simp[qbr,rowsOf,encL]
   simp only[qatb,qar,Option.bind_some]
   rw[decide_eq_true (by omega),cond_true]
   simp only[qak,hx,MPack.enc,Nat.zero_add,qcl,hs,e1,EV0]
   rw[qag (by omega)]
   exact h1
 obtain⟨c',H',h1,h2⟩:=loop l 0 (l.length+1+1) [] (.lst true 2 []) [] rfl (by omega) (by simp;omega) (Grow.nil 2) (l.length+1+1) (l.length+1+1)
 refine qbb (H:=H') (qqob (l.length+1) ?_) (Grow.read h2)
 simpa[fdw] using h1
theorem f_fau (l:List MPack)(hl:bdL 1048576 (MPack.Bd 1048576) l)(hw:wtL MPack.wt l≤1048576):Fresh qqj true 2 [.one (encL 4 MPack.enc l)] [.one (trL 2 MNeed.tr (qbp l))]:=by
 have hM:=qah
 have hxl:=hl.1
 have htot:=qhn l
 have loop:∀ (r:List MPack) (i n:Nat) (acc:List MNeed) (c:Cell) (H:List Entry),l.drop i=r→r.length < n→acc.length+(qbp r).length≤1048576→Grow 2 c H (acc.map MNeed.enc)→
   ∀ k m,∃ c' H',qbub k m n c (encL 4 MPack.enc l) l.length i H=some ([.one c'],H')∧Grow 2 c' H' ((acc++qbp r).map MNeed.enc):=by
  intro r
  induction r with
  | nil=>
   intro i n acc c H hd hn ha hg k m
   obtain⟨n,rfl⟩:∃ j,n=j+1:=⟨n - 1,by omega⟩
   have:=drop_nil hd
   refine⟨c,H,?_,by simpa[qbp] using hg⟩
   simp only[qbub]
   rw[decide_eq_false (by omega),cond_false]
  | cons x r ih=>
   intro i n acc c H hd hn ha hg k m
   obtain⟨n,rfl⟩:∃ j,n=j+1:=⟨n - 1,by omega⟩
   obtain⟨hlt,hx,hd'⟩:=qai hd
   simp only[List.length_cons] at hn
   have he:qbp (x::r)=x.Needs++qbp r:=by simp[qbp]
   rw[he,List.length_append] at ha
   obtain⟨q,e1,e2⟩:=hg.app (by':=32) (x.Needs.map MNeed.enc) (by unfold bound;simp;omega) (by unfold bound;simp;omega)
   obtain⟨c',H',h1,h2⟩:=ih (i+1) n (acc++x.Needs) q.1 q.2 hd' (by omega) (by rw[List.length_append];omega) (by simpa using e2) k m
   refine⟨c',H',?_,by rw[he,← List.append_assoc];exact h2⟩
   have hs:qbr H 2 (encL 2 MNeed.enc x.Needs)=some (x.Needs.map MNeed.enc):=by simp[qbr,rowsOf,encL]
   simp only[qbub]
   rw[decide_eq_true (by omega),cond_true]
   simp only[qak,hx,MPack.enc,Nat.zero_add,qcl,hs,e1,EV0]
   rw[qag (by omega)]
   exact h1
 obtain⟨c',H',h1,h2⟩:=loop l 0 (l.length+1+1) [] (.lst true 2 []) [] rfl (by omega) (by simp;omega) (Grow.nil 2) (l.length+1+1) (l.length+1+1)
 rw[List.nil_append] at h2
 obtain⟨ids,h3,h4,h5⟩:=h2.rep (tr:=MNeed.tr) (fun _ _=>rfl) (fun x _ H'=>by
  unfold MNeed.tr MNeed.enc
  exact Sp.cons (i:=[]) (qbt _) (Sp.cons (i:=[]) (qbt _) .nil))
 refine Fresh.one (c:=c') (H:=H') (qrab (l.length+1) ?_) h3 h4
 simpa[fau] using h1
open Classical in
theorem index_one (c:UInt8):∀ s:Str,Lib.index s [c]=Lib.indexByte s c
 | []=>rfl
 | b::r=>by
  unfold Lib.index Lib.indexByte
  rw[index_one c r]
  have:([c]:Str).isPrefixOf (b::r)=(b==c):=by
   simp only[List.isPrefixOf,Bool.and_true]
   rw[Bool.eq_iff_iff,beq_iff_eq,beq_iff_eq]
   exact eq_comm
  rw[this]
theorem qgi (s p:Str)(hs:s.length≤1073741824):out quk [.one (Cell.str (bs s)),.one (Cell.str (bs p))]=some [.one (Cell.int (Lib.index s p))]:=by
 refine qaw (H:=[]) ?_
 show qgg _ _=_
 simp only[qgg,qhf]
 rw[if_pos (by rw[qbm];omega)]
theorem c_ffc (s:Str)(c:UInt8)(hs:s.length≤1073741824):out quk [.one (Cell.str (bs s)),.one (Cell.str (bs [c]))]=some [.one (Cell.int (Lib.indexByte s c))]:=by
 rw[qgi s [c] hs,index_one]
theorem c_fez (s:Str)(c:UInt8):out qyn [.one (Cell.str (bs s)),.one (Cell.str (bs [c]))]=some [.one (Cell.int ((s.count c:Nat):Int))]:=by
 refine qaw (H:=[]) ?_
 show qdw _ _=_
 simp only[qdw,qhf]
 rfl
theorem qcrb {c:UInt8}{s:Str}(h:c∈s):s.count c=(behind c s).count c+1:=by
 induction s with
 | nil=>simp at h
 | cons b r ih=>
  by_cases e:b=c
  ·subst e
   simp[behind,List.dropWhile_cons]
  ·have hr:c∈r:=by
    rcases List.mem_cons.1 h with h | h
    ·exact absurd h.symm e
    ·exact h
   have hb:behind c (b::r)=behind c r:=by
    have:(b != c)=true:=by simpa using e
    simp[behind,List.dropWhile_cons,this]
   rw[hb,List.count_cons,ih hr]
   simp[e]
theorem qgob {c:UInt8}{s:Str}(h:c∉s):s.count c=0:=List.count_eq_zero.2 h
theorem qgtb (c:UInt8):∀ (n:Nat) (s:Str),s.length≤n→(split c s).length=s.count c+1:=by
 intro n
 induction n with
 | zero=>
  intro s h
  have:s=[]:=List.eq_nil_of_length_eq_zero (by omega)
  subst this
  rfl
 | succ n ih=>
  intro s h
  by_cases hc:c∈s
  ·have hl:(behind c s).length < s.length:=by
    have:=qsi hc
    have h2:=qgt c s
    rw[← h2,List.length_drop]
    omega
   rw[qeb hc,List.length_cons,ih _ (by omega),qcrb hc]
  ·rw[qcz hc,qgob hc]
   rfl
theorem r_ffh (s:Str)(c:UInt8)(hs:s.length≤1073741824):qlg [.one (Cell.str (bs s)),.one (Cell.str (bs [c])),.one (Cell.int 0),.one (Cell.int (-1))] []=some ([.one (.vs 0 1 0 (s.count c+1) 0)],[Entry.mk 1 ((split c s).map eStr) 0 false]):=by
 have hM:=qah
 have hct:s.count c≤s.length:=List.count_le_length
 have hsl:=qgtb c s.length s (Nat.le_refl _)
 have hput:∀ (rows:List (List Cell)) (i:Nat) (row:List Cell) (y:Str),rows[i]?=some row→row.length=1→qce [Entry.mk 1 rows 0 false] (.ptr 0 1 i 0 0) [Cell.str (bs y)]=some [Entry.mk 1 (rows.set i (eStr y)) 0 false]:=by
  intro rows i row y h hr
  simp only[qce,entry?,List.getElem?_cons_zero,if_true,h]
  rw[if_pos ⟨trivial,by simp,trivial⟩]
  simp[splice,eStr,hr,List.drop_eq_nil_of_le]
 have loop:∀ (d:Nat) (r:Str) (done:List Str) (n:Nat),r.count c=d→done.length+d=s.count c→r.length≤s.length→split c s=done++split c r→d < n→∀ k m,
   qmk k m n (bs r) (bs [c]) 0 ((s.count c:Nat):Int) (.vs 0 1 0 (s.count c+1) 0) ((done.length:Nat):Int) [Entry.mk 1 (done.map eStr++List.replicate (d+1) [Cell.str (bs [])]) 0 false]=
    some ([.one (.vs 0 1 0 (s.count c+1) 0)],[Entry.mk 1 ((split c s).map eStr) 0 false]):=by
  intro d
  induction d with
  | zero=>
   intro r done n hc hd hr hsp hn k m
   obtain⟨n,rfl⟩:∃ j,n=j+1:=⟨n - 1,by omega⟩
   have hnc:c∉r:=List.count_eq_zero.1 hc
   simp only[qmk]
   rw[decide_eq_false (by omega),cond_false]
   have hrow:(done.map eStr++List.replicate (0+1) [Cell.str (bs [])])[done.length]?=some [Cell.str (bs [])]:=by simp
   simp only[qfk 0 1 (s.count c+1) 0 done.length (by omega),Option.bind_some,hput _ _ _ r hrow rfl]
   have hset:(done.map eStr++List.replicate (0+1) [Cell.str (bs [])]).set done.length (eStr r)=(split c s).map eStr:=by
    rw[hsp,qcz hnc,List.set_append_right _ _ (by simp)]
    simp
   rw[hset,show IntKind.i64.wrap ((done.length:Int)+1)=((s.count c+1:Nat):Int) by rw[qag (by omega)];omega]
   have hsl':slcC 1 (.vs 0 1 0 (s.count c+1) 0) 0 (some ((s.count c+1:Nat):Int)) none=some (.vs 0 1 0 (s.count c+1) 0):=by
    simp only[slcC,Option.getD_some,Option.getD_none,if_true]
    rw[if_pos ⟨by omega,by omega,by omega,by omega⟩,if_pos (.inl trivial)]
    simp
   rw[hsl']
   rfl
  | succ d ih=>
   intro r done n hc hd hr hsp hn k m
   obtain⟨n,rfl⟩:∃ j,n=j+1:=⟨n - 1,by omega⟩
   have hmem:c∈r:=by
    rcases Classical.em (c∈r) with h | h
    ·exact h
    ·have:=qgob h;omega
   have hal:=qsi hmem
   have hbl:=qgx c r
   simp only[qmk]
   rw[decide_eq_true (by omega),cond_true]
   have e0:Lib.indexByte r c=((ahead c r).length:Int):=by rw[qpk,if_pos hmem]
   simp only[c_ffc r c (by omega),e0,EV0]
   rw[decide_eq_false (by omega),cond_false]
   have e1:=qcw r 0 (ahead c r).length (by omega) (by omega)
   simp only[Int.natCast_zero,List.drop_zero,qfv] at e1
   rw[show IntKind.i64.wrap (((ahead c r).length:Int)+0)=((ahead c r).length:Int) by rw[Int.add_zero];exact wrap_small (by omega) (by omega),e1]
   have hrow:(done.map eStr++List.replicate (d+1+1) [Cell.str (bs [])])[done.length]?=some [Cell.str (bs [])]:=by simp
   simp only[Option.bind_some,qfk 0 1 (s.count c+1) 0 done.length (by omega),hput _ _ _ (ahead c r) hrow rfl]
   have e2:=qcw r ((ahead c r).length+1) r.length (by omega) (Nat.le_refl _)
   rw[List.take_length,qgt] at e2
   rw[show IntKind.i64.wrap (((ahead c r).length:Int)+((0+1:Nat):Int))=(((ahead c r).length+1:Nat):Int) by rw[wrap_small (by omega) (by omega)];omega,e2,qag (by omega)]
   simp only[Option.bind_some]
   have hset:(done.map eStr++List.replicate (d+1+1) [Cell.str (bs [])]).set done.length (eStr (ahead c r))=(done++[ahead c r]).map eStr++List.replicate (d+1) [Cell.str (bs [])]:=by
    rw[List.set_append_right _ _ (by simp)]
    simp[List.replicate_succ]
   rw[hset]
   have:=ih (behind c r) (done++[ahead c r]) n (by have:=qcrb hmem;omega) (by simp;omega) (by omega) (by rw[hsp,qeb hmem];simp) (by omega) k m
   rw[show(done++[ahead c r]).length=done.length+1 by simp] at this
   exact this
 have hmin:(if IntKind.i64.wrap ((s.length:Int)+1) < IntKind.i64.wrap (((s.count c:Nat):Int)+1) then IntKind.i64.wrap ((s.length:Int)+1) else IntKind.i64.wrap (((s.count c:Nat):Int)+1))=((s.count c+1:Nat):Int):=by
  rw[qag (by omega),qag (by omega),if_neg (by omega)]
 have z:=loop (s.count c) s [] (s.count c+1+1) rfl (by simp) (Nat.le_refl _) (by simp) (by omega) (s.count c+1+1) (s.count c+1+1)
 refine qxe (s.count c+1) ?_
 ·simp only[ffh]
  rw[show((-1:Int)==0)=false from rfl,cond_false]
  simp only[qcg]
  rw[show(([c]:Str)==[])=false from rfl,cond_false,show decide ((-1:Int) < 0)=true from rfl,cond_true]
  simp only[c_fez,EV0,hmin]
  rw[if_pos ⟨by omega,by omega,by unfold bound;omega,by unfold bound;omega⟩]
  rw[show IntKind.i64.wrap (((s.count c+1:Nat):Int) - 1)=((s.count c:Nat):Int) from qsb (by omega)]
  simpa[qcd] using z
theorem f_ffh (s:Str)(c:UInt8)(hs:s.length≤1073741824):Fresh qlg true 2 [.one (Cell.str (bs s)),.one (Cell.str (bs [c])),.one (Cell.int 0),.one (Cell.int (-1))] [.one (trL 1 qfm (split c s))]:=by
 have hg:GrowAt ([]:List Entry).length 1 (.vs 0 1 0 (s.count c+1) 0) [Entry.mk 1 ((split c s).map eStr) 0 false] ((split c s).map eStr):=.inr ⟨0,by rw[List.length_map,qgtb c s.length s (Nat.le_refl _)];rfl,rfl⟩
 obtain⟨ids,r1,r2,_⟩:=hg.list
 exact Fresh.one (r_ffh s c hs) r1 r2
theorem f_ffe (s:Str)(c:UInt8)(hs:s.length≤1073741824):Fresh qer true 2 [.one (Cell.str (bs s)),.one (Cell.str (bs [c]))] [.one (trL 1 qfm (split c s))]:=by
 refine Fresh.tailO (f_ffh s c hs) [] (qbe _ _ _) fun c' E hc=>qvf 0 ?_
 simp only[ffe,hc,EV0]
theorem c_fbt (s p:Str):out qup [.one (Cell.str (bs s)),.one (Cell.str (bs p))]=some [.one (Cell.str (bs (trimP p s))),.one (Cell.bool (p.isPrefixOf s))]:=by
 refine qaw (H:=[]) (qptb 0 ?_)
 simp only[fbt,c_fbu,EV0]
 unfold trimP
 cases h:p.isPrefixOf s with
 | true=>
  have hl:=(List.isPrefixOf_iff_prefix.1 h).length_le
  rw[Bool.not_true,cond_false,qcw s _ _ hl (Nat.le_refl _),List.take_length]
  rfl
 | false=>rfl
theorem c_ffb (s p:Str):out quu [.one (Cell.str (bs s)),.one (Cell.str (bs p))]=some [.one (Cell.str (bs (trimP p s))),.one (Cell.bool (p.isPrefixOf s))]:=by
 refine qaw (H:=[]) (qmfb 0 ?_)
 simp only[ffb,c_fbt,EV0]
def b16 (n:Nat):Str:=[UInt8.ofNat (n / 256),UInt8.ofNat n]
def numT (n:Nat):Str:=Lib.decDigits n
theorem qhv {u:Nat}(h:u < 10):Lib.decDigits u=[UInt8.ofNat (48+u)]:=by
 unfold Lib.decDigits
 rw[dif_pos h]
theorem qod {u:Nat}(h:¬ u < 10):Lib.decDigits u=Lib.decDigits (u / 10)++[UInt8.ofNat (48+u % 10)]:=by
 rw[Lib.decDigits,dif_neg h]
theorem qre (n:Nat)(h:n≤1099511627776):(numT n).length≤21:=by
 have:=Lib.itoa_length_le (n:Int) (by omega) (by omega)
 have e:Lib.itoa (n:Int)=numT n:=by unfold Lib.itoa numT;rw[if_neg (by omega)];simp
 rwa [e] at this
def BytM (H:List Entry)(c:Cell)(b:Str):Prop:=∃ ids,Rep H true true 2 ids c (trL 1 qitb b)∧ids.Nodup
theorem BytM.nil (H:List Entry):BytM H (.lst true 1 []) []:=⟨[],.inl ⟨rfl,rfl,true,rfl⟩,by simp⟩
theorem BytM.read {H:List Entry}{c:Cell}{b:Str}(h:BytM H c b):qan false H (.one c)=some (.one (bytesC b)):=by
 obtain⟨ids,h,_⟩:=h
 have:=qgu h (by omega)
 rwa [qbz] at this
theorem BytM.of {H E:List Entry}{c:Cell}{b:Str}{is:List Nat}{lo hi:Nat}(h:Rep (H++E) true true 2 is c (trL 1 qitb b))(w:Mine lo hi is):BytM (H++E) c b:=⟨is,h,w.nd⟩
theorem Grow.bytes {c:Cell}{H:List Entry}{b:Str}(h:Grow 1 c H (b.map eByte)):∃ ids,Rep H true true 2 ids c (trL 1 qitb b)∧ids.Nodup:=by
 obtain⟨ids,h1,h2,_⟩:=h.rep (tr:=qitb) (fun _ _=>rfl) (fun x _ H'=>Sp.leaf1 _)
 exact⟨ids,h1,h2⟩
theorem c_fak (n:Nat)(hn:n≤1099511627776):out qjg [.one (Cell.int n)]=some [.one (Cell.str (bs (numT n)))]:=by
 have e:out qczb [.one (Cell.int n)]=some [.one (Cell.str (bs (numT n)))]:=by
  refine qaw (H:=[]) ?_
  show qoj _ _=_
  simp only[qoj]
  rw[if_pos ⟨by omega,by omega⟩]
  have:Lib.itoa (n:Int)=numT n:=by unfold Lib.itoa numT;rw[if_neg (by omega)];simp
  rw[this]
  rfl
 refine qaw (H:=[]) (qqcb 0 ?_)
 simp only[fak]
 rw[if_neg (by omega)]
 simp only[e,EV0]
theorem Grow.at {sz:Nat}{c:Cell}{H:List Entry}{rows:List (List Cell)}{i:Nat}{row:List Cell}(h:Grow sz c H rows)(hr:rows[i]?=some row):∃ a,idxA sz c (i:Int)=some a∧deref H a=some (row,0):=by
 have hlt:=(List.getElem?_eq_some_iff.1 hr).1
 rcases h with⟨rfl,_,_⟩ | ⟨ep,rfl,rfl⟩
 ·simp at hr
 ·exact⟨.ptr 0 sz i 0 ep,qfk _ _ _ _ _ hlt,by simp[deref,entry?,hr]⟩
theorem Grow.len {sz:Nat}{c:Cell}{H:List Entry}{rows:List (List Cell)}(h:Grow sz c H rows):lenC c=some rows.length:=by
 rcases h with⟨rfl,rfl,_⟩ | ⟨ep,rfl,rfl⟩<;>rfl
def digits:Str→Nat→Nat | [],n=>n | b::r,n=>digits r (n*10+(b.toNat - 48))
def qao (s:Str)(most:Nat):Option Nat:=if s.all qas=true∧1≤s.length∧s.length≤7∧(s.length=1∨s.head?≠some 48)∧digits s 0≤most then some (digits s 0) else none
theorem qfx {b:UInt8}(h:qas b=true):48≤b.toNat∧b.toNat≤57:=by
 unfold qas inR at h
 simp only[Bool.and_eq_true,decide_eq_true_eq] at h
 omega
theorem qjc:∀ (s t:Str) (n:Nat),digits (s++t) n=digits t (digits s n):=by
 intro s
 induction s with
 | nil=>intro t n;rfl
 | cons b r ih=>intro t n;exact ih t _
theorem qsy:∀ (s:Str) (n N:Nat),(∀ b∈s,qas b=true)→n < 10 ^ N→digits s n < 10 ^ (N+s.length):=by
 intro s
 induction s with
 | nil=>intro n N _ h;exact h
 | cons b r ih=>
  intro n N h hn
  have h2:=qfx (h b List.mem_cons_self)
  have h1:=ih (n*10+(b.toNat - 48)) (N+1) (fun x hx=>h x (List.mem_cons_of_mem _ hx)) (by rw[Nat.pow_succ];omega)
  simp only[digits,List.length_cons]
  rw[show N+(r.length+1)=N+1+r.length by omega]
  exact h1
theorem qhdb {n:Nat}(h:n < 10):qas (UInt8.ofNat (48+n))=true:=by
 unfold qas inR
 simp only[Bool.and_eq_true,decide_eq_true_eq,UInt8.toNat_ofNat']
 omega
theorem qyi:∀ n:Nat,(numT n).all qas=true∧1≤(numT n).length∧((numT n).length=1∨(numT n).head?≠some 48)∧digits (numT n) 0=n∧(0 < n→(numT n).head?≠some 48):=by
 intro n
 induction n using Nat.strongRecOn with
 | _ n ih=>
  unfold numT at ih ⊢
  by_cases h:n < 10
  ·rw[qhv h]
   refine⟨by rw[List.all_cons,qhdb h,List.all_nil];rfl,by simp,.inl rfl,?_,?_⟩
   ·simp only[digits,UInt8.toNat_ofNat']
    omega
   ·intro h0 e
    simp only[List.head?_cons,Option.some.injEq] at e
    have:=congrArg UInt8.toNat e
    simp only[UInt8.toNat_ofNat'] at this
    have h48:(48:UInt8).toNat=48:=rfl
    omega
  ·rw[qod h]
   obtain⟨i1,i2,i3,i4,i5⟩:=ih (n / 10) (by omega)
   have hh:(Lib.decDigits (n / 10)++[UInt8.ofNat (48+n % 10)]).head?=(Lib.decDigits (n / 10)).head?:=by
    cases hd:Lib.decDigits (n / 10) with
    | nil=>rw[hd] at i2;simp at i2
    | cons x r=>rfl
   have i6:=i5 (by omega)
   refine⟨?_,by simp,.inr ?_,?_,fun _=>?_⟩
   ·rw[List.all_append,i1]
    rw[List.all_cons,qhdb (show n % 10 < 10 by omega),List.all_nil]
    rfl
   ·rw[hh];exact i6
   ·rw[qjc,i4]
    simp only[digits,UInt8.toNat_ofNat']
    omega
   ·rw[hh];exact i6
theorem qqp:∀ (k:Nat) (s:Str),s.length=k→(∀ b∈s,qas b=true)→1≤s.length→(s.length=1∨s.head?≠some 48)→numT (digits s 0)=s:=by
 intro k
 induction k with
 | zero=>intro s h1 _ h2 _;omega
 | succ k ih=>
  intro s h1 h2 h3 h4
  have hne:s≠[]:=by intro h;subst h;simp at h3
  obtain⟨t,d,rfl⟩:∃ t d,s=t++[d]:=⟨s.dropLast,s.getLast hne,(List.dropLast_concat_getLast hne).symm⟩
  have hd:=qfx (h2 d (by simp))
  simp only[List.length_append,List.length_cons,List.length_nil] at h1 h4
  have hdd:UInt8.ofNat (48+(d.toNat - 48))=d:=by
   apply UInt8.toNat_inj.1
   simp only[UInt8.toNat_ofNat']
   have:=d.toNat_lt
   omega
  by_cases ht:t=[]
  ·subst ht
   simp only[List.nil_append,digits]
   unfold numT
   rw[qhv (by omega),show 0*10+(d.toNat - 48)=d.toNat - 48 by omega,hdd]
  ·have htl:=List.length_pos_iff.2 ht
   have hhead:t.head?≠some 48:=by
    rcases h4 with h4 | h4
    ·omega
    ·cases t with
     | nil=>exact absurd rfl ht
     | cons x r=>exact h4
   have i1:=ih t (by omega) (fun b hb=>h2 b (List.mem_append_left _ hb)) htl (.inr hhead)
   have hpos:1≤digits t 0:=by
    rcases Nat.eq_zero_or_pos (digits t 0) with h | h
    ·rw[h] at i1
     have:numT 0=[48]:=by unfold numT;rw[qhv (by omega)];rfl
     rw[this] at i1
     rw[← i1] at hhead
     exact absurd rfl hhead
    ·exact h
   rw[qjc]
   simp only[digits]
   unfold numT at i1 ⊢
   rw[qod (by omega),show(digits t 0*10+(d.toNat - 48)) / 10=digits t 0 by omega,i1,show(digits t 0*10+(d.toNat - 48)) % 10=d.toNat - 48 by omega,hdd]
theorem qbq {s:Str}{k most:Nat}(h:qao s most=some k):s=numT k∧k≤most∧s.length≤7:=by
 unfold qao at h
 split at h
 ·rename_i hc
  obtain⟨h1,h2,h3,h4,h5⟩:=hc
  simp only[Option.some.injEq] at h
  subst h
  exact⟨(qqp _ s rfl (List.all_eq_true.1 h1) h2 h4).symm,h5,h3⟩
 ·simp at h
def numV (o:Option Nat):List AV:=match o with
 | some k=>[.one (Cell.int (k:Int)),.one (Cell.bool true)]
 | none=>[.one (Cell.int 0),.one (Cell.bool false)]
theorem fig_sub {x:UInt8}(h:qas x=true):IntKind.i64.wrap (IntKind.u8.wrap ((x.toNat:Int) - 48))=((x.toNat - 48:Nat):Int):=by
 have h1:=qfx h
 have e:((x.toNat:Int) - 48)=((x.toNat - 48:Nat):Int):=by omega
 rw[e,wrap_u8]
 have:(UInt8.ofNat (x.toNat - 48)).toNat=x.toNat - 48:=by simp only[UInt8.toNat_ofNat'];omega
 rw[this]
 exact wrap_small (by omega) (by omega)
theorem c_fdn (s:Str)(most:Nat)(hs:s.length≤1073741824)(hm:most≤1073741824):out qco [.one (Cell.str (bs s)),.one (Cell.int most)]=some (numV (qao s most)):=by
 have hM:=qah
 have fin:∀ (v:Nat),s.length≤7→s.all qas=true→v=digits s 0→((qau qcj [.one (Cell.int (s.length:Int)),.one (Cell.int 1),.one (Cell.int 7)] []).bind fun r14=>
  cond (qab qjp r14)
  ((cB (qaa r14 0) 0).bind fun b15=>
  cond (!b15)
  (some ([AV.one (Cell.int 0),AV.one (Cell.bool false)],[]))
  (cond (decide ((s.length:Int) > 1))
  ((bytS (bs s) 0).bind fun i16=>
  cond (i16==48)
  (some ([AV.one (Cell.int 0),AV.one (Cell.bool false)],[]))
  (cond (decide ((v:Int) > (most:Int)))
  (some ([AV.one (Cell.int 0),AV.one (Cell.bool false)],[]))
  (some ([AV.one (Cell.int (v:Int)),AV.one (Cell.bool true)],([]:List Entry)))))
  (cond (decide ((v:Int) > (most:Int)))
  (some ([AV.one (Cell.int 0),AV.one (Cell.bool false)],[]))
  (some ([AV.one (Cell.int (v:Int)),AV.one (Cell.bool true)],[])))))
  none)=some (numV (qao s most),[]):=by
  intro v h7 ha hv
  simp only[c_fdz,EV0]
  unfold qao
  cases s with
  | nil=>rfl
  | cons x r=>
   rw[show inR (((x::r:Str).length:Nat):Int) 1 7=true by
    unfold inR
    rw[decide_eq_true (by simp only[List.length_cons];omega),decide_eq_true (by omega)]
    rfl,Bool.not_true,cond_false]
   by_cases h1:r=[]
   ·subst h1
    rw[decide_eq_false (by simp),cond_false]
    by_cases hm:v≤most
    ·rw[decide_eq_false (by omega),cond_false,if_pos ⟨ha,by simp,by simp,.inl rfl,by omega⟩,hv]
     rfl
    ·rw[decide_eq_true (by omega),cond_true,if_neg fun h=>hm (by omega)]
     rfl
   ·have hr:=List.length_pos_iff.2 h1
    rw[decide_eq_true (by simp;omega),cond_true,qghb]
    simp only[Option.bind_some]
    rw[show((x.toNat:Int)==48)=(x==48) from u8_eq x 48 (by omega)]
    cases hx:x==48 with
    | true=>
     have:x=48:=by simpa using hx
     rw[cond_true,if_neg]
     ·rfl
     ·rintro ⟨_,_,_,h,_⟩
      rcases h with h | h
      ·simp only[List.length_cons] at h;omega
      ·rw[this] at h;exact h rfl
    | false=>
     have:x≠48:=by simpa using hx
     rw[cond_false]
     by_cases hm:v≤most
     ·rw[decide_eq_false (by omega),cond_false,if_pos ⟨ha,by simp,h7,.inr (by simpa using this),by omega⟩,hv]
      rfl
     ·rw[decide_eq_true (by omega),cond_true,if_neg fun h=>hm (by omega)]
      rfl
 have loop:∀ (r:Str) (i n a:Nat),s.drop i=r→i≤8→r.length < n→(s.take i).all qas=true→a=digits (s.take i) 0→∀ k m,qaub k m n (bs s) most a i=some (numV (qao s most),[]):=by
  intro r
  induction r with
  | nil=>
   intro i n a hd hi hn ht ha k m
   obtain⟨n,rfl⟩:∃ j,n=j+1:=⟨n - 1,by omega⟩
   have h1:=drop_nil hd
   rw[List.take_of_length_le h1] at ht ha
   simp only[qaub,qbm]
   rw[decide_eq_false (by omega),cond_false]
   by_cases h7:s.length≤7
   ·exact fin a h7 ht ha
   ·simp only[c_fdz,EV0]
    rw[show inR (s.length:Int) 1 7=false by
     unfold inR
     rw[decide_eq_false (p:=(s.length:Int)≤7) (by omega),Bool.and_false]]
    unfold qao
    rw[if_neg fun h=>h7 h.2.2.1]
    rfl
  | cons x r ih=>
   intro i n a hd hi hn ht ha k m
   obtain⟨n,rfl⟩:∃ j,n=j+1:=⟨n - 1,by omega⟩
   obtain⟨hlt,hx,hd'⟩:=qai hd
   simp only[List.length_cons] at hn
   simp only[qaub,qbm]
   rw[decide_eq_true (by omega),cond_true]
   by_cases h8:i < 8
   ·rw[decide_eq_true (by omega),cond_true]
    simp only[qcu,hx,Option.map_some,c_fdy,EV0]
    cases hf:qas x with
    | false=>
     simp only[Bool.not_false,cond_true]
     unfold qao
     rw[if_neg]
     ·rfl
     ·rintro ⟨h,_⟩
      have:=List.all_eq_true.1 h x (List.mem_of_getElem? hx)
      rw[hf] at this
      simp at this
    | true=>
     have hsn:s.take (i+1)=s.take i++[x]:=by rw[List.take_add_one,hx];rfl
     have hal:a < 10 ^ 8:=by
      rw[ha]
      refine Nat.lt_of_lt_of_le (qsy (s.take i) 0 0 (List.all_eq_true.1 ht) (by simp)) ?_
      rw[Nat.zero_add]
      refine Nat.pow_le_pow_right (by omega) ?_
      rw[List.length_take]
      omega
     have hf2:=qfx hf
     simp only[Bool.not_true,cond_false]
     rw[fig_sub hf,wrap_small (n:=(a:Int)*10) (by omega) (by omega),wrap_small (by omega) (by omega),qag (by omega),show(a:Int)*10+((x.toNat - 48:Nat):Int)=((a*10+(x.toNat - 48):Nat):Int) by omega]
     refine ih (i+1) n _ hd' (by omega) (by omega) ?_ ?_ k m
     ·rw[hsn,List.all_append,ht,List.all_cons,hf,List.all_nil]
      rfl
     ·rw[hsn,qjc,← ha]
      rfl
   ·rw[decide_eq_false (by omega),cond_false]
    simp only[c_fdz,EV0]
    rw[show inR (s.length:Int) 1 7=false by
     unfold inR
     rw[decide_eq_false (p:=(s.length:Int)≤7) (by omega),Bool.and_false]]
    unfold qao
    rw[if_neg fun h=>by have:=h.2.2.1;omega]
    rfl
 refine qaw (H:=[]) (qsbb (s.length+1) ?_)
 have:=loop s 0 (s.length+1+1) 0 rfl (by omega) (by omega) (by simp) (by simp[digits]) (s.length+1+1) (s.length+1+1)
 simpa[fdn] using this
theorem c_fam (s:Str)(most:Nat)(hs:s.length≤1073741824)(hm:most≤1073741824):out qiv [.one (Cell.str (bs s)),.one (Cell.int most)]=some (numV (qao s most)):=by
 have hM:=qah
 by_cases h17:1≤s.length∧s.length≤7
 ·obtain⟨h1,h7⟩:=h17
  have loop:∀ (r:Str) (i n a:Nat),s.drop i=r→r.length < n→(s.take i).all qas=true→a=digits (s.take i) 0→∀ k m,qzl k m n (bs s) most a i=some (numV (qao s most),[]):=by
   intro r
   induction r with
   | nil=>
    intro i n a hd hn ht ha k m
    obtain⟨n,rfl⟩:∃ j,n=j+1:=⟨n - 1,by omega⟩
    have h2:=drop_nil hd
    rw[List.take_of_length_le h2] at ht ha
    have hal:a < 10 ^ 7:=by
     rw[ha]
     refine Nat.lt_of_lt_of_le (qsy s 0 0 (List.all_eq_true.1 ht) (by simp)) ?_
     rw[Nat.zero_add]
     exact Nat.pow_le_pow_right (by omega) h7
    simp only[qzl,qbm]
    rw[decide_eq_false (by omega),cond_false]
    simp only[c_fak a (by omega),EV0]
    by_cases hc:s.length=1∨s.head?≠some 48
    ·have e:=qqp _ s rfl (List.all_eq_true.1 ht) h1 hc
     rw[ha,e,show(s==s)=true by simp,Bool.not_true,cond_false]
     unfold qao
     by_cases hm:digits s 0≤most
     ·rw[decide_eq_false (by omega),cond_false,if_pos ⟨ht,h1,h7,hc,hm⟩]
      rfl
     ·rw[decide_eq_true (by omega),cond_true,if_neg fun h=>hm h.2.2.2.2]
      rfl
    ·have hne:(numT a==s)=false:=by
      rw[beq_eq_false_iff_ne]
      intro e
      have:=(qyi a).2.2.1
      rw[e] at this
      exact hc this
     rw[hne,Bool.not_false,cond_true]
     unfold qao
     rw[if_neg fun h=>hc h.2.2.2.1]
     rfl
   | cons x r ih=>
    intro i n a hd hn ht ha k m
    obtain⟨n,rfl⟩:∃ j,n=j+1:=⟨n - 1,by omega⟩
    obtain⟨hlt,hx,hd'⟩:=qai hd
    simp only[List.length_cons] at hn
    simp only[qzl,qbm]
    rw[decide_eq_true (by omega),cond_true]
    simp only[qcu,hx,Option.map_some,c_fbd,EV0]
    cases hf:qas x with
    | false=>
     simp only[Bool.not_false,cond_true]
     unfold qao
     rw[if_neg]
     ·rfl
     ·rintro ⟨h,_⟩
      have:=List.all_eq_true.1 h x (List.mem_of_getElem? hx)
      rw[hf] at this
      simp at this
    | true=>
     have hsn:s.take (i+1)=s.take i++[x]:=by rw[List.take_add_one,hx];rfl
     have hal:a < 10 ^ 8:=by
      rw[ha]
      refine Nat.lt_of_lt_of_le (qsy (s.take i) 0 0 (List.all_eq_true.1 ht) (by simp)) ?_
      rw[Nat.zero_add]
      refine Nat.pow_le_pow_right (by omega) ?_
      rw[List.length_take]
      omega
     have hf2:=qfx hf
     simp only[Bool.not_true,cond_false]
     rw[fig_sub hf,wrap_small (n:=(a:Int)*10) (by omega) (by omega),wrap_small (by omega) (by omega),qag (by omega),show(a:Int)*10+((x.toNat - 48:Nat):Int)=((a*10+(x.toNat - 48):Nat):Int) by omega]
     refine ih (i+1) n _ hd' (by omega) ?_ ?_ k m
     ·rw[hsn,List.all_append,ht,List.all_cons,hf,List.all_nil]
      rfl
     ·rw[hsn,qjc,← ha]
      rfl
  refine qaw (H:=[]) (qth (s.length+1) ?_)
  have z:=loop s 0 (s.length+1+1) 0 rfl (by omega) (by simp) (by simp[digits]) (s.length+1+1) (s.length+1+1)
  simp only[fam,qbm,c_fbc,EV0]
  rw[show inR (s.length:Int) 1 7=true by
   unfold inR
   rw[decide_eq_true (by omega),decide_eq_true (by omega)]
   rfl,Bool.not_true,cond_false]
  exact z
 ·refine qaw (H:=[]) (qth 0 ?_)
  simp only[fam,qbm,c_fbc,EV0]
  rw[show inR (s.length:Int) 1 7=false by
   unfold inR
   rcases Nat.lt_or_ge s.length 1 with h | h
   ·rw[decide_eq_false (by omega),Bool.false_and]
   ·rw[decide_eq_false (p:=(s.length:Int)≤7) (by omega),Bool.and_false]]
  unfold qao
  rw[if_neg fun h=>h17 ⟨h.2.1,h.2.2.1⟩]
  rfl
def figV:Nat→Str→Bool | 0,_=>true | _,s=>!(s==[])
def preCh (b:UInt8):Bool:=qas b||qgj b||inR b.toNat 65 90||b==45
def qkm (s:Str):Bool:=s.all preCh&&(inR s.length 1 8&&(!s.all qas||s.length==1||s.head? != some 48))
def qdo (a b c:Int)(pre:List Str):Bool:=pre.all qkm&&(inR a 0 9999&&(inR b 0 9999&&(inR c 0 9999&&decide (pre.length≤3))))
def qbs (a b c:Int)(pre:List Str):Str:=if qdo a b c pre then numT a.toNat++[46]++numT b.toNat++[46]++numT c.toNat++(if pre.length=0 then [] else 45::Lib.join pre [46]) else []
theorem qlwb {s:Str}(h:qkm s=true):1≤s.length∧s.length≤8:=by
 simp only[qkm,Bool.and_eq_true,inR,decide_eq_true_eq] at h
 omega
theorem qjb {a b c:Int}{pre:List Str}(h:qdo a b c pre=true):(0≤a∧a≤9999)∧(0≤b∧b≤9999)∧(0≤c∧c≤9999)∧pre.length≤3∧∀ x∈pre,x.length≤8:=by
 simp only[qdo,Bool.and_eq_true,inR,decide_eq_true_eq,List.all_eq_true] at h
 exact⟨h.2.1,h.2.2.1,h.2.2.2.1,h.2.2.2.2,fun x hx=>(qlwb (h.1 x hx)).2⟩
theorem qra {sep:Str}(hs:sep.length≤1):∀ r:List Str,(∀ x∈r,x.length≤8)→(Lib.joinTail sep r).length≤9*r.length
 | [],_=>by simp[Lib.joinTail]
 | x::r,h=>by
  have ih:=qra hs r fun y hy=>h y (List.mem_cons_of_mem _ hy)
  have hx:=h x (List.mem_cons_self ..)
  simp only[Lib.joinTail,List.map_cons,List.flatten_cons,List.length_append,List.length_cons] at ih ⊢
  omega
theorem qqzb {sep:Str}(hs:sep.length≤1)(r:List Str)(h:∀ x∈r,x.length≤8):(Lib.join r sep).length≤9*r.length:=by
 cases r with
 | nil=>simp[Lib.join_nil]
 | cons x r=>
  rw[Lib.join_cons,List.length_append]
  have:=qra hs r fun y hy=>h y (List.mem_cons_of_mem _ hy)
  have hx:=h x (List.mem_cons_self ..)
  simp only[List.length_cons]
  omega
theorem qjeb (a b c:Int)(pre:List Str):(qbs a b c pre).length≤200:=by
 unfold qbs
 split
 ·rename_i h
  obtain⟨h1,h2,h3,h4,h5⟩:=qjb h
  have n1:=qre a.toNat (by omega)
  have n2:=qre b.toNat (by omega)
  have n3:=qre c.toNat (by omega)
  have j:=qqzb (sep:=[46]) (by simp) pre h5
  simp only[List.length_append,List.length_cons,List.length_nil]
  split<;>simp<;>omega
 ·simp
theorem c_fed (s:Str)(hs:s.length≤1073741824):out qkk [.one (Cell.str (bs s))]=some [.one (Cell.bool (s.all qas&&figV 0 s))]:=by
 have hM:=qah
 have loop:∀ (r:Str) (i n:Nat),s.drop i=r→r.length < n→∀ k m,qzh k m n (bs s) i=some ([.one (Cell.bool (r.all qas&&figV 0 s))],[]):=by
  intro r
  induction r with
  | nil=>
   intro i n hd hn k m
   obtain⟨n,rfl⟩:∃ j,n=j+1:=⟨n - 1,by omega⟩
   have:=drop_nil hd
   simp only[qzh,qbm,qcg]
   rw[decide_eq_false (by omega),cond_false]
   simp[figV]
  | cons b r ih=>
   intro i n hd hn k m
   obtain⟨n,rfl⟩:∃ j,n=j+1:=⟨n - 1,by omega⟩
   obtain⟨hlt,hg,hd'⟩:=qai hd
   simp only[List.length_cons] at hn
   simp only[qzh,qcu,hg,c_fdy,EV0]
   rw[decide_eq_true (by omega),cond_true,qag (by omega),ih (i+1) n hd' (by omega)]
   simp only[List.all_cons]
   cases qas b<;>rfl
 refine qaw (H:=[]) (qpqb (s.length+1) ?_)
 have:=loop s 0 (s.length+1+1) rfl (by omega) (s.length+1+1) (s.length+1+1)
 simpa[fed] using this
theorem c_fbe (s:Str)(hs:s.length≤1073741824):out qis [.one (Cell.str (bs s))]=some [.one (Cell.bool (s.all qas&&figV 1 s))]:=by
 have hM:=qah
 have loop:∀ (r:Str) (i n:Nat),s.drop i=r→r.length < n→∀ k m,qzo k m n (bs s) i=some ([.one (Cell.bool (r.all qas&&figV 1 s))],[]):=by
  intro r
  induction r with
  | nil=>
   intro i n hd hn k m
   obtain⟨n,rfl⟩:∃ j,n=j+1:=⟨n - 1,by omega⟩
   have:=drop_nil hd
   simp only[qzo,qbm,qcg]
   rw[decide_eq_false (by omega),cond_false]
   simp[figV]
  | cons b r ih=>
   intro i n hd hn k m
   obtain⟨n,rfl⟩:∃ j,n=j+1:=⟨n - 1,by omega⟩
   obtain⟨hlt,hg,hd'⟩:=qai hd
   simp only[List.length_cons] at hn
   simp only[qzo,qcu,hg,c_fbd,EV0]
   rw[decide_eq_true (by omega),cond_true,qag (by omega),ih (i+1) n hd' (by omega)]
   simp only[List.all_cons]
   cases qas b<;>rfl
 refine qaw (H:=[]) (qolb (s.length+1) ?_)
 have:=loop s 0 (s.length+1+1) rfl (by omega) (s.length+1+1) (s.length+1+1)
 simpa[fbe] using this
theorem c_feg (s:Str)(hs:s.length≤1073741824):out qtg [.one (Cell.str (bs s))]=some [.one (Cell.bool (qkm s))]:=by
 have hM:=qah
 have loop:∀ (r:Str) (i n:Nat),s.drop i=r→r.length < n→∀ k m,qqb k m n (bs s) i=some ([.one (Cell.bool (r.all preCh&&(inR s.length 1 8&&(!s.all qas||s.length==1||s.head? != some 48))))],[]):=by
  intro r
  induction r with
  | nil=>
   intro i n hd hn k m
   obtain⟨n,rfl⟩:∃ j,n=j+1:=⟨n - 1,by omega⟩
   have:=drop_nil hd
   simp only[qqb,qbm]
   rw[decide_eq_false (by omega),cond_false]
   simp only[c_fdz,c_fed s hs,figV,EV0,List.all_nil]
   cases hr:inR (s.length:Int) 1 8 with
   | false=>rfl
   | true=>
    simp only[cond_true,Bool.true_and]
    cases hf:s.all qas with
    | false=>rfl
    | true=>
     simp only[Bool.not_true,cond_false,Bool.false_or]
     cases s with
     | nil=>simp[inR] at hr
     | cons x s=>
      have h0:bytS (bs (x::s)) 0=some (x.toNat:Int):=by
       have:=qcu (x::s) 0
       simpa using this
      have h48:((x.toNat:Int) != 48)=(x != 48):=u8_ne x 48 (by omega)
      have hl:(((x::s).length:Int)==1)=((x::s).length==1):=by rw[Bool.eq_iff_iff];simp only[beq_iff_eq];omega
      have hh:((x::s).head? != some 48)=(x != 48):=by simp[bne]
      simp only[h0,h48,hl,hh,Option.bind_some]
      cases ((x::s).length==1)<;>simp
  | cons b r ih=>
   intro i n hd hn k m
   obtain⟨n,rfl⟩:∃ j,n=j+1:=⟨n - 1,by omega⟩
   obtain⟨hlt,hg,hd'⟩:=qai hd
   simp only[List.length_cons] at hn
   have hb:=u8_lt b
   have h45:((b.toNat:Int) != 45)=!(b==45):=u8_ne b 45 (by omega)
   simp only[qqb,qcu,hg,c_fdy,c_fea,c_fdz,wrap_small (n:=(b.toNat:Int)) (by omega) (by omega),h45,EV0]
   rw[decide_eq_true (by omega),cond_true,qag (by omega),ih (i+1) n hd' (by omega)]
   simp only[List.all_cons,preCh]
   cases qas b<;>cases qgj b<;>cases (inR (b.toNat:Int) 65 90)<;>cases (b==45)<;>rfl
 refine qaw (H:=[]) (qrnb (s.length+1) ?_)
 have:=loop s 0 (s.length+1+1) rfl (by omega) (s.length+1+1) (s.length+1+1)
 simpa[feg,qkm] using this
theorem c_fbm (s:Str)(hs:s.length≤1073741824):out qvr [.one (Cell.str (bs s))]=some [.one (Cell.bool (qkm s))]:=by
 have hM:=qah
 have loop:∀ (r:Str) (i n:Nat),s.drop i=r→r.length < n→∀ k m,qkq k m n (bs s) i=some ([.one (Cell.bool (r.all preCh&&(inR s.length 1 8&&(!s.all qas||s.length==1||s.head? != some 48))))],[]):=by
  intro r
  induction r with
  | nil=>
   intro i n hd hn k m
   obtain⟨n,rfl⟩:∃ j,n=j+1:=⟨n - 1,by omega⟩
   have:=drop_nil hd
   simp only[qkq,qbm]
   rw[decide_eq_false (by omega),cond_false]
   simp only[c_fbc,c_fbe s hs,figV,EV0,List.all_nil]
   cases hr:inR (s.length:Int) 1 8 with
   | false=>rfl
   | true=>
    simp only[cond_true,Bool.true_and]
    cases s with
    | nil=>simp[inR] at hr
    | cons x s=>
     cases hf:(x::s).all qas with
     | false=>rfl
     | true=>
      have h0:bytS (bs (x::s)) 0=some (x.toNat:Int):=by
       have:=qcu (x::s) 0
       simpa using this
      have h48:((x.toNat:Int) != 48)=(x != 48):=u8_ne x 48 (by omega)
      have hh:((x::s).head? != some 48)=(x != 48):=by simp[bne]
      simp only[h0,h48,hh,Option.bind_some]
      by_cases hx:x=48
      ·subst hx
       cases s<;>simp
      ·have e1:((x::s)==[48])=false:=by simp[hx]
       have e2:(x != 48)=true:=by simp[hx]
       rw[e1,e2]
       simp
  | cons b r ih=>
   intro i n hd hn k m
   obtain⟨n,rfl⟩:∃ j,n=j+1:=⟨n - 1,by omega⟩
   obtain⟨hlt,hg,hd'⟩:=qai hd
   simp only[List.length_cons] at hn
   have hb:=u8_lt b
   have h45:((b.toNat:Int) != 45)=!(b==45):=u8_ne b 45 (by omega)
   simp only[qkq,qcu,hg,c_fbd,c_fbf,h45,EV0]
   rw[decide_eq_true (by omega),cond_true,qag (by omega),ih (i+1) n hd' (by omega)]
   have hr:inR (b.toNat:Int) 65 90=(decide ((b.toNat:Int)≥65)&&decide ((b.toNat:Int)≤90)):=rfl
   simp only[List.all_cons,preCh,hr]
   cases qas b<;>cases qgj b<;>cases (decide ((b.toNat:Int)≥65))<;>cases (decide ((b.toNat:Int)≤90))<;>cases (b==45)<;>rfl
 refine qaw (H:=[]) (qtcb (s.length+1) ?_)
 have:=loop s 0 (s.length+1+1) rfl (by omega) (s.length+1+1) (s.length+1+1)
 simpa[fbm,qkm] using this
theorem c_fdv (a b c:Int)(pre:List Str)(hp:bdL 1048576 (bdS 1048576) pre):out qdx [.agg [Cell.int a,Cell.int b,Cell.int c,encL 1 eStr pre]]=some [.one (Cell.bool (qdo a b c pre))]:=by
 have hM:=qah
 have hl:=hp.1
 have loop:∀ (r:List Str) (i n:Nat),pre.drop i=r→r.length < n→∀ k m,qbeb k m n i a b c (encL 1 eStr pre)=some ([.one (Cell.bool (r.all qkm&&(inR a 0 9999&&(inR b 0 9999&&(inR c 0 9999&&decide (pre.length≤3))))))],[]):=by
  intro r
  induction r with
  | nil=>
   intro i n hd hn k m
   obtain⟨n,rfl⟩:∃ j,n=j+1:=⟨n - 1,by omega⟩
   have:=drop_nil hd
   simp only[qbeb,EV0]
   rw[decide_eq_false (by omega),cond_false]
   have h3:decide ((pre.length:Int)≤3)=decide (pre.length≤3):=by rw[Bool.eq_iff_iff];simp;omega
   simp only[c_fdz,h3,EV0,List.all_nil]
   cases inR a 0 9999<;>cases inR b 0 9999<;>cases inR c 0 9999<;>rfl
  | cons x r ih=>
   intro i n hd hn k m
   obtain⟨n,rfl⟩:∃ j,n=j+1:=⟨n - 1,by omega⟩
   obtain⟨hlt,hg,hd'⟩:=qai hd
   simp only[List.length_cons] at hn
   have hx:x.length≤1073741824:=Nat.le_trans (hp.2 x (List.mem_of_getElem? hg)) (by omega)
   simp only[qbeb,EV0]
   rw[decide_eq_true (by omega),cond_true]
   simp only[qak,hg,eStr,c_feg x hx,qag (show i < maxLen by omega),ih (i+1) n hd' (by omega),EV0,List.all_cons]
   cases qkm x<;>rfl
 refine qaw (H:=[]) (qmob (pre.length+1) ?_)
 exact loop pre 0 (pre.length+1+1) rfl (by omega) (pre.length+1+1) (pre.length+1+1)
theorem c_fas (a b c:Int)(pre:List Str)(hp:bdL 1048576 (bdS 1048576) pre):out qft [.agg [Cell.int a,Cell.int b,Cell.int c,encL 1 eStr pre]]=some [.one (Cell.bool (qdo a b c pre))]:=by
 have hM:=qah
 have hl:=hp.1
 have loop:∀ (r:List Str) (i n:Nat),pre.drop i=r→r.length < n→∀ k m,qbab k m n (encL 1 eStr pre) pre.length i a b c (encL 1 eStr pre)=some ([.one (Cell.bool (r.all qkm&&(inR a 0 9999&&(inR b 0 9999&&(inR c 0 9999&&decide (pre.length≤3))))))],[]):=by
  intro r
  induction r with
  | nil=>
   intro i n hd hn k m
   obtain⟨n,rfl⟩:∃ j,n=j+1:=⟨n - 1,by omega⟩
   have:=drop_nil hd
   simp only[qbab,EV0]
   rw[decide_eq_false (by omega),cond_false]
   have h3:decide ((pre.length:Int)≤3)=decide (pre.length≤3):=by rw[Bool.eq_iff_iff];simp;omega
   simp only[c_fbc,h3,EV0,List.all_nil]
   cases inR a 0 9999<;>cases inR b 0 9999<;>cases inR c 0 9999<;>rfl
  | cons x r ih=>
   intro i n hd hn k m
   obtain⟨n,rfl⟩:∃ j,n=j+1:=⟨n - 1,by omega⟩
   obtain⟨hlt,hg,hd'⟩:=qai hd
   simp only[List.length_cons] at hn
   have hx:x.length≤1073741824:=Nat.le_trans (hp.2 x (List.mem_of_getElem? hg)) (by omega)
   simp only[qbab,EV0]
   rw[decide_eq_true (by omega),cond_true]
   simp only[qak,hg,eStr,c_fbm x hx,qag (show i < maxLen by omega),ih (i+1) n hd' (by omega),EV0,List.all_cons]
   cases qkm x<;>rfl
 refine qaw (H:=[]) (qteb (pre.length+1) ?_)
 simp only[fas,EV0]
 exact loop pre 0 (pre.length+1+1) rfl (by omega) (pre.length+1+1) (pre.length+1+1)
theorem qix (xs:List Str)(sep:Str)(h1:xs.length≤3)(h2:∀ x∈xs,x.length≤8)(h3:sep.length≤1):out qgpb [.one (encL 1 eStr xs),.one (Cell.str (bs sep))]=some [.one (Cell.str (bs (Lib.join xs sep)))]:=by
 have hj:=qqzb h3 xs h2
 refine qaw (H:=[]) ?_
 show qnd _ _=_
 have e:qmj (xs.map eStr)=some xs:=qbob xs
 simp only[encL,qnd,e,qhf]
 rw[if_pos ⟨trivial,by omega,by omega⟩]
 rfl
theorem c_fat (a b c:Int)(pre:List Str)(hp:bdL 1048576 (bdS 1048576) pre):out qfs [.agg [Cell.int a,Cell.int b,Cell.int c,encL 1 eStr pre]]=some [.one (Cell.str (bs (qbs a b c pre)))]:=by
 refine qaw (H:=[]) (qryb 0 ?_)
 simp only[fat,c_fas a b c pre hp,EV0,qbs]
 cases ho:qdo a b c pre with
 | false=>rfl
 | true=>
  obtain⟨h1,h2,h3,h4,h5⟩:=qjb ho
  obtain⟨x,rfl⟩:∃ x:Nat,a=(x:Int):=⟨a.toNat,by omega⟩
  obtain⟨y,rfl⟩:∃ x:Nat,b=(x:Int):=⟨b.toNat,by omega⟩
  obtain⟨z,rfl⟩:∃ x:Nat,c=(x:Int):=⟨c.toNat,by omega⟩
  have n1:=qre x (by omega)
  have n2:=qre y (by omega)
  have n3:=qre z (by omega)
  have j:=qqzb (sep:=[46]) (by simp) pre h5
  have k1:catS (bs (numT x)) (bs [46])=some (bs (numT x++[46])):=qgb (by simp;omega)
  have k2:catS (bs (numT x++[46])) (bs (numT y))=some (bs (numT x++[46]++numT y)):=qgb (by simp;omega)
  have k3:catS (bs (numT x++[46]++numT y)) (bs [46])=some (bs (numT x++[46]++numT y++[46])):=qgb (by simp;omega)
  have k4:catS (bs (numT x++[46]++numT y++[46])) (bs (numT z))=some (bs (numT x++[46]++numT y++[46]++numT z)):=qgb (by simp;omega)
  have k5:catS (bs (numT x++[46]++numT y++[46]++numT z)) (bs [45])=some (bs (numT x++[46]++numT y++[46]++numT z++[45])):=qgb (by simp;omega)
  have k6:catS (bs (numT x++[46]++numT y++[46]++numT z++[45])) (bs (Lib.join pre [46]))=some (bs (numT x++[46]++numT y++[46]++numT z++[45]++Lib.join pre [46])):=qgb (by simp;omega)
  have k7:catS (bs [45]) (bs (Lib.join pre [46]))=some (bs ([45]++Lib.join pre [46])):=qgb (by simp;omega)
  have k8:catS (bs (numT x++[46]++numT y++[46]++numT z)) (bs ([45]++Lib.join pre [46]))=some (bs (numT x++[46]++numT y++[46]++numT z++([45]++Lib.join pre [46]))):=qgb (by simp;omega)
  simp only[Bool.not_true,cond_false,c_fak x (by omega),c_fak y (by omega),c_fak z (by omega),k1,k2,k3,k4,EV0,if_true,Int.toNat_natCast]
  by_cases hz:pre.length=0
  ·rw[decide_eq_false (by omega),cond_false,if_pos hz]
   simp
  ·rw[decide_eq_true (by omega),cond_true,if_neg hz]
   simp only[qix pre [46] h4 h5 (by simp),k5,k6,k7,k8,EV0]
   try simp
def qfp:Option Str→List MPick→Bool | _,[]=>true | prev,p::r=>qik p.Name&&(qdo p.V.A p.V.B p.V.C p.V.Pre&&((match prev with | some q=>lt q p.Name | none=>true)&&qfp (some p.Name) r))
def qcf (p:MPick):Str:=p.Name++[64]++qbs p.V.A p.V.B p.V.C p.V.Pre++[10]
def qcb (l:List MPick):Str:=if qfp none l&&decide (l.length≤12) then l.flatMap qcf else []
def qrz (l:List MPick):Nat→Option Str | 0=>none | i+1=>(l[i]?).map (·.Name)
theorem qqtb {p:MPick}(h:qik p.Name=true):(qcf p).length≤220:=by
 have:=qjeb p.V.A p.V.B p.V.C p.V.Pre
 have h2:p.Name.length≤10:=by
  simp only[qik,Bool.and_eq_true,inR,decide_eq_true_eq] at h
  omega
 simp only[qcf,List.length_append,List.length_singleton]
 omega
theorem c_fdx (l:List MPick)(hl:bdL 1048576 (MPick.Bd 1048576) l):out qqs [.one (encL 5 MPick.enc l)]=some [.one (Cell.bool (qfp none l&&decide (l.length≤12)))]:=by
 have hM:=qah
 have hxl:=hl.1
 have loop:∀ (r:List MPick) (i n:Nat),l.drop i=r→r.length < n→∀ k m,qvu k m n (encL 5 MPick.enc l) i=some ([.one (Cell.bool (qfp (qrz l i) r&&decide (l.length≤12)))],[]):=by
  intro r
  induction r with
  | nil=>
   intro i n hd hn k m
   obtain⟨n,rfl⟩:∃ j,n=j+1:=⟨n - 1,by omega⟩
   have:=drop_nil hd
   have h12:decide ((l.length:Int)≤12)=decide (l.length≤12):=by rw[Bool.eq_iff_iff];simp;omega
   simp only[qvu,EV0,h12,qfp]
   rw[decide_eq_false (by omega),cond_false]
  | cons p r ih=>
   intro i n hd hn k m
   obtain⟨n,rfl⟩:∃ j,n=j+1:=⟨n - 1,by omega⟩
   obtain⟨hlt,hg,hd'⟩:=qai hd
   simp only[List.length_cons] at hn
   have hb:=hl.2 p (List.mem_of_getElem? hg)
   have hnm:p.Name.length≤1073741824:=Nat.le_trans hb.1 (by omega)
   have e2:qrz l (i+1)=some p.Name:=by simp[qrz,hg]
   simp only[qvu,EV0]
   rw[decide_eq_true (by omega),cond_true]
   simp only[qak,hg,MPick.enc,qcl,Nat.zero_add,c_fdl p.Name hnm,c_fdv _ _ _ _ hb.2.2.2.2,qag (show i < maxLen by omega),ih (i+1) n hd' (by omega),e2,EV0,qfp]
   cases qik p.Name with
   | false=>rfl
   | true=>
    cases qdo p.V.A p.V.B p.V.C p.V.Pre with
    | false=>rfl
    | true=>
     cases i with
     | zero=>rfl
     | succ j=>
      obtain⟨q,hq⟩:∃ q,l[j]?=some q:=⟨l[j],List.getElem?_eq_getElem (by omega)⟩
      have hw:IntKind.i64.wrap (((j+1:Nat):Int) - 1)=(j:Int):=by rw[wrap_small (by omega) (by omega)];omega
      simp only[hw,qak,hq,MPick.enc,qcl,Nat.zero_add,EV0,bl_eq,qrz,Option.map_some,Bool.not_true]
      rw[decide_eq_true (by omega),cond_true]
      cases lt q.Name p.Name<;>rfl
 refine qaw (H:=[]) (qmbb (l.length+1) ?_)
 exact loop l 0 (l.length+1+1) rfl (by omega) (l.length+1+1) (l.length+1+1)
def bH (acc:Str)(ep:Nat):List Entry:=[Entry.mk 1 [[Cell.str (bs acc)]] 0 false,Entry.mk 1 [] ep false]
theorem bw_run (T e:Nat)(acc s:Str)(ep:Nat)(h:acc.length+s.length≤1048576):qid T e [.one (.bl T e 0 0),.one (Cell.str (bs s))] (bH acc ep)=some ([.one (Cell.int s.length),.one (.sc .nilIface)],bH (acc++s) (ep+1)):=by
 have e1:qga (bH acc ep) 0 0=some acc:=by simp[qga,entry?,bH,bs]
 have e2:bldPut (bH acc ep) 0 (acc++(bs s).data.toList)=some (bH (acc++s) (ep+1)):=by
  rw[qhf]
  rfl
 simp only[qid]
 rw[if_pos ⟨trivial,trivial⟩,e1]
 simp only[Option.bind_some,qbm,e2,Option.map_some]
 rw[if_pos (by omega)]
theorem br_run (T e:Nat)(acc:Str)(ep:Nat):∃ H',qlo T e [.one (.bl T e 0 0)] (bH acc ep)=some ([.one (Cell.str (bs acc))],H'):=by
 have e1:qga (bH acc ep) 0 0=some acc:=by simp[qga,entry?,bH,bs]
 refine⟨[Entry.mk 1 [] 1 false,Entry.mk 1 [] ep false],?_⟩
 simp only[qlo]
 rw[if_pos ⟨trivial,trivial⟩,e1]
 rfl
theorem c_fah (l:List MPick)(hl:bdL 1048576 (MPick.Bd 1048576) l):out qld [.one (encL 5 MPick.enc l)]=some [.one (Cell.str (bs (qcb l)))]:=by
 have hM:=qah
 by_cases h12:l.length≤12
 ·have loop:∀ (r:List MPick) (i n ep:Nat) (acc:Str),l.drop i=r→r.length < n→i+r.length=l.length→acc.length≤220*i→∀ k m,∃ H',qyb k m n (encL 5 MPick.enc l) (encL 5 MPick.enc l) l.length i (bH acc ep)=some ([.one (Cell.str (bs (if qfp (qrz l i) r then acc++r.flatMap qcf else [])))],H'):=by
   intro r
   induction r with
   | nil=>
    intro i n ep acc hd hn hi ha k m
    obtain⟨n,rfl⟩:∃ j,n=j+1:=⟨n - 1,by omega⟩
    have:=drop_nil hd
    obtain⟨H',e⟩:∃ H',qetb _ (bH acc ep)=some ([.one (Cell.str (bs acc))],H'):=br_run _ _ acc ep
    refine⟨H',?_⟩
    simp only[qyb]
    rw[decide_eq_false (by omega),cond_false]
    simp only[e,EV0,qfp,if_true,List.flatMap_nil,List.append_nil]
   | cons p r ih=>
    intro i n ep acc hd hn hi ha k m
    obtain⟨n,rfl⟩:∃ j,n=j+1:=⟨n - 1,by omega⟩
    obtain⟨hlt,hg,hd'⟩:=qai hd
    simp only[List.length_cons] at hn hi
    have hmem:=List.mem_of_getElem? hg
    have hb:=hl.2 p hmem
    have hnm:p.Name.length≤1073741824:=Nat.le_trans hb.1 (by omega)
    have e2:qrz l (i+1)=some p.Name:=by simp[qrz,hg]
    simp only[qyb]
    rw[decide_eq_true (by omega),cond_true]
    simp only[qak,hg,MPick.enc,Nat.zero_add,c_faj p.Name hnm,c_fas _ _ _ _ hb.2.2.2.2,c_fat _ _ _ _ hb.2.2.2.2,EV0,qfp]
    rcases Bool.eq_false_or_eq_true (qik p.Name) with hname | hname
    rotate_left
    ·exact⟨bH acc ep,by simp only[hname];rfl⟩
    ·rcases Bool.eq_false_or_eq_true (qdo p.V.A p.V.B p.V.C p.V.Pre) with hver | hver
     rotate_left
     ·exact⟨bH acc ep,by simp only[hname,hver];rfl⟩
     ·
      have hr:=qqtb hname
      have hr':=hr
      simp only[qcf,List.length_append,List.length_singleton] at hr'
      have k2:catS (bs p.Name) (bs [64])=some (bs (p.Name++[64])):=qgb (by simp;omega)
      have k3:catS (bs (p.Name++[64])) (bs (qbs p.V.A p.V.B p.V.C p.V.Pre))=some (bs (p.Name++[64]++qbs p.V.A p.V.B p.V.C p.V.Pre)):=qgb (by simp;omega)
      have k4:catS (bs (p.Name++[64]++qbs p.V.A p.V.B p.V.C p.V.Pre)) (bs [10])=some (bs (qcf p)):=by
       rw[qgb (by simp;omega)]
       rfl
      have kw:qui [.one (.bl _ _ 0 0),.one (Cell.str (bs (qcf p)))] (bH acc ep)=some ([.one (Cell.int (qcf p).length),.one (.sc .nilIface)],bH (acc++qcf p) (ep+1)):=bw_run _ _ acc (qcf p) ep (by omega)
      obtain⟨H',z⟩:=ih (i+1) n (ep+1) (acc++qcf p) hd' (by omega) (by omega) (by rw[List.length_append];omega) k m
      rw[e2] at z
      have hfl:acc++(p::r).flatMap qcf=acc++qcf p++r.flatMap qcf:=by simp
      rw[hfl]
      cases i with
      | zero=>
       refine⟨H',?_⟩
       simp only[hname,hver,Bool.not_true,cond_false,qrz,Bool.true_and]
       rw[decide_eq_false (by omega),cond_false]
       simp only[k2,k3,k4,kw,EV0]
       rw[qag (by omega)]
       exact z
      | succ j=>
       obtain⟨q,hq⟩:∃ q,l[j]?=some q:=⟨l[j],List.getElem?_eq_getElem (by omega)⟩
       have hw:IntKind.i64.wrap (((j+1:Nat):Int) - 1)=(j:Int):=by rw[wrap_small (by omega) (by omega)];omega
       have hlt2:(Op.bytesLess p.Name q.Name||p.Name==q.Name)=!lt q.Name p.Name:=by rw[bl_eq,lt_not]
       simp only[hname,hver,Bool.not_true,cond_false,hw,qak,hq,MPick.enc,qcl,Nat.zero_add,EV0,hlt2,qrz,Option.map_some,Bool.true_and]
       rw[decide_eq_true (by omega),cond_true]
       rcases Bool.eq_false_or_eq_true (lt q.Name p.Name) with hlq | hlq
       rotate_left
       ·exact⟨bH acc ep,by simp only[hlq];rfl⟩
       ·refine⟨H',?_⟩
        simp only[hlq,Bool.not_true,cond_false,k2,k3,k4,kw,EV0,Bool.true_and]
        rw[qag (by omega)]
        exact z
  obtain⟨H',z⟩:=loop l 0 (l.length+1+1) 0 [] rfl (by omega) (by omega) (by simp) (l.length+1+1) (l.length+1+1)
  refine qaw (H:=H') (qux (l.length+1) ?_)
  simp only[fah,EV0]
  rw[decide_eq_false (by omega),cond_false]
  have e:qcb l=if qfp none l then []++l.flatMap qcf else []:=by
   rw[qcb,decide_eq_true h12,Bool.and_true,List.nil_append]
  rw[e]
  exact z
 ·refine qaw (H:=[]) (qux 0 ?_)
  simp only[fah,EV0]
  rw[decide_eq_true (by omega),cond_true,qcb,decide_eq_false h12,Bool.and_false]
  rfl
theorem qrt {c:UInt8}:∀ {s:Str},c∈s→s=ahead c s++c::behind c s
 | [],h=>by simp at h
 | x::s,h=>by
  by_cases e:x=c
  ·subst e
   simp[ahead,behind]
  ·have h':c∈s:=by
    rcases List.mem_cons.1 h with h | h
    ·exact absurd h.symm e
    ·exact h
   have:=qrt h'
   simp only[ahead,behind] at this ⊢
   have hx:(x != c)=true:=by simp[e]
   rw[List.takeWhile_cons,List.dropWhile_cons,hx]
   simpa using this
theorem qmg (c:UInt8):∀ (n:Nat) (s:Str),s.length≤n→Lib.join (split c s) [c]=s:=by
 intro n
 induction n with
 | zero=>
  intro s hs
  obtain rfl:s=[]:=List.eq_nil_of_length_eq_zero (by omega)
  rw[qcz (by simp),Lib.join_one]
 | succ n ih=>
  intro s hs
  by_cases h:c∈s
  ·have hlt:(behind c s).length≤n:=by
    have:=congrArg List.length (qrt h)
    simp only[List.length_append,List.length_cons] at this
    omega
   have ihb:=ih (behind c s) hlt
   rw[qeb h,Lib.join_cons]
   cases hsp:split c (behind c s) with
   | nil=>exact absurd hsp (qes _ _)
   | cons y r=>
    rw[hsp,Lib.join_cons] at ihb
    conv=>rhs;rw[qrt h]
    rw[← ihb]
    simp[Lib.joinTail]
  ·rw[qcz h,Lib.join_one]
def qke (s:Str):List Str:=if 45∈s then split 46 (behind 45 s) else []
def qac (s:Str):MVer×Bool:=
 match split 46 (ahead 45 s) with
 | [x,y,z]=>match qao x 9999,qao y 9999,qao z 9999 with
  | some a,some b,some c=>if qdo a b c (qke s) then (⟨a,b,c,qke s⟩,true) else (⟨0,0,0,[]⟩,false)
  | _,_,_=>(⟨0,0,0,[]⟩,false)
 | _=>(⟨0,0,0,[]⟩,false)
theorem qwl {s x y z:Str}{a b c:Nat}(h:split 46 (ahead 45 s)=[x,y,z])(ha:qao x 9999=some a)(hb:qao y 9999=some b)(hc:qao z 9999=some c):(qbs a b c (qke s)==s)=qdo a b c (qke s):=by
 have hu:=qmg 46 _ (ahead 45 s) (Nat.le_refl _)
 rw[h] at hu
 have hu2:ahead 45 s=numT a++[46]++numT b++[46]++numT c:=by
  rw[← hu,Lib.join_cons,(qbq ha).1,(qbq hb).1,(qbq hc).1]
  simp[Lib.joinTail]
 cases hok:qdo a b c (qke s) with
 | false=>
  have ht:qbs a b c (qke s)=[]:=by rw[qbs,hok];rfl
  rw[ht]
  cases s with
  | nil=>simp[ahead] at hu2
  | cons q s=>rfl
 | true=>
  have ht:qbs a b c (qke s)=s:=by
   rw[qbs,hok]
   simp only[if_true,Int.toNat_natCast]
   rw[← hu2]
   by_cases hd:(45:UInt8)∈s
   ·have hp:qke s=split 46 (behind 45 s):=if_pos hd
    have hne:(qke s).length≠0:=by
     rw[hp]
     intro h0
     exact qes _ _ (List.eq_nil_of_length_eq_zero h0)
    rw[if_neg hne,hp,qmg 46 _ _ (Nat.le_refl _)]
    exact(qrt hd).symm
   ·have hp:qke s=[]:=if_neg hd
    rw[hp,if_pos (by simp),List.append_nil,qta hd]
  rw[ht]
  simp
theorem qavb {s:Str}(hs:s.length≤1048576):bdL 1048576 (bdS 1048576) (qke s):=by
 unfold qke
 split
 ·rename_i hm
  have h:=qbj 46 (behind 45 s) []
  have hb:=qgx 45 s
  have hlt:(behind 45 s).length+1≤s.length:=by
   have:=congrArg List.length (qrt hm)
   simp only[List.length_append,List.length_cons] at this
   omega
  refine⟨by have:=h.1;unfold split;omega,fun x hx=>?_⟩
  have:=h.2 x hx
  simp only[List.length_nil,Nat.zero_add] at this
  exact Nat.le_trans this (by omega)
 ·exact⟨by simp,by simp⟩
theorem qkbb {s:Str}(hs:s.length≤1048576):(qac s).1.Bd 1048576:=by
 have hz:(⟨0,0,0,[]⟩:MVer).Bd 1048576:=⟨by simp[bdI],by simp[bdI],by simp[bdI],by simp,by simp⟩
 unfold qac
 split
 ·split
  ·rename_i a b c ha hb hc
   split
   ·have h1:=(qbq ha).2.1
    have h2:=(qbq hb).2.1
    have h3:=(qbq hc).2.1
    exact⟨by simp only[bdI];omega,by simp only[bdI];omega,by simp only[bdI];omega,qavb hs⟩
   ·exact hz
  ·exact hz
 ·exact hz
theorem c_fdp (s:Str)(hs:s.length≤1048576):outL qhg [.one (Cell.str (bs s))]=some [.agg [Cell.int (qac s).1.A,Cell.int (qac s).1.B,Cell.int (qac s).1.C,qba (qac s).1.Pre],.one (Cell.bool (qac s).2)]:=by
  have hM := qah
  have hal := qjv 45 s
  have hbl := qgx 45 s
  have hget : ∀ i, i < (ahead 45 s).length → ∃ b : UInt8, s[i]? = some b ∧ b ≠ 45 := fun i hi => by
    have hna := qsr (c := 45) s
    refine ⟨(ahead 45 s)[i], ?_, fun e => by have hm := List.getElem_mem hi; rw [e] at hm; exact hna hm⟩
    have h1 : (ahead 45 s)[i]? = some (ahead 45 s)[i] := List.getElem?_eq_getElem hi
    rw [← h1, ← qfv 45 s, List.getElem?_take, if_pos hi]
  have loop : ∀ (d i n : Nat), i + d = (ahead 45 s).length → ∀ k m, qkp k m (n + d) (bs s) i = qkp k m n (bs s) (ahead 45 s).length := by
    intro d
    induction d with
    | zero => intro i n hi k m; obtain rfl : i = (ahead 45 s).length := by omega
              rfl
    | succ d ih =>
      intro i n hi k m
      obtain ⟨b, hb, hne⟩ := hget i (by omega)
      have h45' : ((b.toNat : Int) != 45) = !(b == 45) := u8_ne b 45 (by omega)
      have h45 : ((b.toNat : Int) != 45) = true := by rw [h45']; simp [hne]
      show qkp k m ((n + d) + 1) (bs s) i = _
      simp only [qkp, qcu, hb, qbm, Option.map_some, Option.bind_some, h45, cond_true]
      rw [decide_eq_true (by have := (List.getElem?_eq_some_iff.1 hb).1; omega), cond_true, qag (by omega)]
      exact ih (i + 1) n (by omega) k m
  have hsplit : ∀ t : Str, t.length ≤ 1073741824 → outL qci [.one (Cell.str (bs t)), .one (.sc (.int .u8 46))] = some [.one (qba (split 46 t))] := fun t ht => c_fdt t 46 ht
  have hnum : ∀ x : Str, x.length ≤ 1073741824 → out qco [.one (Cell.str (bs x)), .one (Cell.int 9999)] = some (numV (qao x 9999)) := fun x hx => c_fdn x 9999 hx (by omega)
  have hlen : ∀ x ∈ split 46 (ahead 45 s), x.length ≤ 1073741824 := fun x hx => by
    have := (qbj 46 (ahead 45 s) []).2 x hx
    simp only [List.length_nil, Nat.zero_add] at this
    omega
  have hz : mapO (qan false []) [.agg [Cell.int 0, Cell.int 0, Cell.int 0, .lst true 1 []], .one (Cell.bool false)] = some [.agg [Cell.int 0, Cell.int 0, Cell.int 0, qba []], .one (Cell.bool false)] := rfl
  have h46 : subS (bs s) 0 ((ahead 45 s).length : Int) = some (bs (ahead 45 s)) := by
    have := qcw s 0 (ahead 45 s).length (Nat.zero_le _) hal
    rw [qfv, List.drop_zero] at this
    simpa using this
  by_cases hd : (45 : UInt8) ∈ s
  · have hlt := qsi hd
    have hc : s[(ahead 45 s).length]? = some 45 := by
      have h1 := qrt hd
      generalize ahead 45 s = u at h1 ⊢
      generalize behind 45 s = v at h1
      rw [h1]
      simp
    have hsub : subS (bs s) (((ahead 45 s).length + 1 : Nat) : Int) (s.length : Int) = some (bs (behind 45 s)) := by
      have := qcw s ((ahead 45 s).length + 1) s.length (by omega) (Nat.le_refl _)
      rw [List.take_of_length_le (Nat.le_refl _), qgt] at this
      exact this
    have hp : qke s = split 46 (behind 45 s) := if_pos hd
    have hv := fun a b c => c_fdv a b c (qke s) (qavb hs)
    rw [hp] at hv
    have core : ∀ k m n, ∃ xs, qkp k m (n + 1) (bs s) (ahead 45 s).length = some (xs, []) ∧ mapO (qan false []) xs = some [.agg [Cell.int (qac s).1.A, Cell.int (qac s).1.B, Cell.int (qac s).1.C, qba (qac s).1.Pre], .one (Cell.bool (qac s).2)] := by
      intro k m n
      simp only [qkp, qcu, hc, qbm, Option.map_some, Option.bind_some, show (((45 : UInt8).toNat : Int) != 45) = false from rfl, cond_false]
      rw [decide_eq_true (by omega), cond_true, qag (by omega)]
      simp only [hsub, hsplit _ (by omega : (behind 45 s).length ≤ 1073741824), h46, hsplit _ (by omega : (ahead 45 s).length ≤ 1073741824), EV0]
      unfold qac
      rw [hp]
      split
      · rename_i x y z hsp
        have lx := hlen x (by rw [hsp]; simp)
        have ly := hlen y (by rw [hsp]; simp)
        have lz := hlen z (by rw [hsp]; simp)
        have i0 : idxA 1 (encL 1 eStr [x, y, z]) 0 = some (.ref (eStr x) 0) := rfl
        have i1 : idxA 1 (encL 1 eStr [x, y, z]) 1 = some (.ref (eStr y) 0) := rfl
        have i2 : idxA 1 (encL 1 eStr [x, y, z]) 2 = some (.ref (eStr z) 0) := rfl
        simp only [hsp, List.length_cons, List.length_nil, i0, i1, i2, eStr, hnum x lx, hnum y ly, hnum z lz, EV0]
        rw [show (((0 + 1 + 1 + 1 : Nat) : Int) != 3) = false from rfl, cond_false]
        cases hx : qao x 9999 with
        | none => cases hy : qao y 9999 <;> cases hzz : qao z 9999 <;> exact ⟨_, rfl, hz⟩
        | some a => cases hy : qao y 9999 with
          | none => cases hzz : qao z 9999 <;> exact ⟨_, rfl, hz⟩
          | some b => cases hzz : qao z 9999 with
            | none => exact ⟨_, rfl, hz⟩
            | some c =>
              simp only [numV, hv, EV0, Bool.not_true]
              cases hok : qdo a b c (split 46 (behind 45 s)) with
              | false => exact ⟨_, rfl, hz⟩
              | true => exact ⟨_, rfl, qbe [.agg [Cell.int a, Cell.int b, Cell.int c, qba (split 46 (behind 45 s))], .one (Cell.bool true)] _ _⟩
      · rename_i hno
        refine ⟨_, ?_, hz⟩
        rw [show (((split 46 (ahead 45 s)).length : Int) != 3) = true by
          rw [bne_iff_ne]
          intro h3
          have h3' : (split 46 (ahead 45 s)).length = 3 := by omega
          match h : split 46 (ahead 45 s), h3' with
          | [x, y, z], _ => exact hno x y z h, cond_true]
    obtain ⟨xs, z1, z2⟩ := core ((ahead 45 s).length + 1 + 1) ((ahead 45 s).length + 1 + 1) 1
    refine qbb (H := []) (qtm ((ahead 45 s).length + 1) ?_) z2
    have := loop (ahead 45 s).length 0 2 (by omega) ((ahead 45 s).length + 1 + 1) ((ahead 45 s).length + 1 + 1)
    rw [show 2 + (ahead 45 s).length = (ahead 45 s).length + 1 + 1 by omega] at this
    simp only [fdp]
    rw [show (0 : Int) = ((0 : Nat) : Int) from rfl, this]
    exact z1
  · have hall := qta hd
    have hp : qke s = [] := if_neg hd
    have hv := fun a b c => c_fdv a b c [] ⟨by simp, by simp⟩
    have hv' : ∀ a b c, qau qdx [.agg [Cell.int a, Cell.int b, Cell.int c, .lst true 1 []]] [] = some [.one (Cell.bool (qdo a b c []))] := fun a b c => (qgd (show mapO (qan false []) [.agg [Cell.int a, Cell.int b, Cell.int c, .lst true 1 []]] = some [.agg [Cell.int a, Cell.int b, Cell.int c, qba []]] from rfl)).trans (hv a b c)
    have core : ∀ k m n, ∃ xs, qkp k m (n + 1) (bs s) (ahead 45 s).length = some (xs, []) ∧ mapO (qan false []) xs = some [.agg [Cell.int (qac s).1.A, Cell.int (qac s).1.B, Cell.int (qac s).1.C, qba (qac s).1.Pre], .one (Cell.bool (qac s).2)] := by
      intro k m n
      simp only [qkp, qbm]
      rw [decide_eq_false (by rw [hall]; omega), cond_false, cond_false]
      simp only [h46, hsplit _ (by omega : (ahead 45 s).length ≤ 1073741824), EV0]
      unfold qac
      rw [hp]
      split
      · rename_i x y z hsp
        have lx := hlen x (by rw [hsp]; simp)
        have ly := hlen y (by rw [hsp]; simp)
        have lz := hlen z (by rw [hsp]; simp)
        have i0 : idxA 1 (encL 1 eStr [x, y, z]) 0 = some (.ref (eStr x) 0) := rfl
        have i1 : idxA 1 (encL 1 eStr [x, y, z]) 1 = some (.ref (eStr y) 0) := rfl
        have i2 : idxA 1 (encL 1 eStr [x, y, z]) 2 = some (.ref (eStr z) 0) := rfl
        simp only [hsp, List.length_cons, List.length_nil, i0, i1, i2, eStr, hnum x lx, hnum y ly, hnum z lz, EV0]
        rw [show (((0 + 1 + 1 + 1 : Nat) : Int) != 3) = false from rfl, cond_false]
        cases hx : qao x 9999 with
        | none => cases hy : qao y 9999 <;> cases hzz : qao z 9999 <;> exact ⟨_, rfl, hz⟩
        | some a => cases hy : qao y 9999 with
          | none => cases hzz : qao z 9999 <;> exact ⟨_, rfl, hz⟩
          | some b => cases hzz : qao z 9999 with
            | none => exact ⟨_, rfl, hz⟩
            | some c =>
              simp only [numV, hv', EV0, Bool.not_true]
              cases hok : qdo a b c [] with
              | false => exact ⟨_, rfl, hz⟩
              | true => exact ⟨_, rfl, rfl⟩
      · rename_i hno
        refine ⟨_, ?_, hz⟩
        rw [show (((split 46 (ahead 45 s)).length : Int) != 3) = true by
          rw [bne_iff_ne]
          intro h3
          have h3' : (split 46 (ahead 45 s)).length = 3 := by omega
          match h : split 46 (ahead 45 s), h3' with
          | [x, y, z], _ => exact hno x y z h, cond_true]
    obtain ⟨xs, z1, z2⟩ := core ((ahead 45 s).length + 1 + 1) ((ahead 45 s).length + 1 + 1) 1
    refine qbb (H := []) (qtm ((ahead 45 s).length + 1) ?_) z2
    have := loop (ahead 45 s).length 0 2 (by omega) ((ahead 45 s).length + 1 + 1) ((ahead 45 s).length + 1 + 1)
    rw [show 2 + (ahead 45 s).length = (ahead 45 s).length + 1 + 1 by omega] at this
    simp only [fdp]
    rw [show (0 : Int) = ((0 : Nat) : Int) from rfl, this]
    exact z1
theorem qsdb (c:UInt8)(s:Str):cutV c s=[.one (Cell.str (bs (ahead c s))),.one (Cell.str (bs (behind c s))),.one (Cell.bool (decide (c∈s)))]:=by
 unfold cutV
 split
 ·rename_i h
  rw[decide_eq_true h]
 ·rename_i h
  rw[decide_eq_false h,qta h,qri h]
theorem qkb (H:List Entry):Sp (Rep H true true 2) [] [Cell.int 0,Cell.int 0,Cell.int 0,.lst true 1 []] (⟨0,0,0,[]⟩:MVer).tr:=by
 unfold MVer.tr
 exact Sp.cons (i:=[]) (qbt _) (Sp.cons (i:=[]) (qbt _) (Sp.cons (i:=[]) (qbt _) (Sp.cons (i:=[]) (.inl ⟨rfl,rfl,true,rfl⟩) .nil)))
def verH (A:List Entry)(row:List Cell):List Entry:=A++[Entry.mk 4 [row] 0 false]
theorem verH_0 (A:List Entry)(p q r t v:Cell):qce (verH A [p,q,r,t]) (.ptr A.length 4 0 0 0) [v]=some (verH A [v,q,r,t]):=by simp[verH,qce,entry?,splice,List.set_append]
theorem verH_1 (A:List Entry)(p q r t v:Cell):qce (verH A [p,q,r,t]) (.ptr A.length 4 0 1 0) [v]=some (verH A [p,v,r,t]):=by simp[verH,qce,entry?,splice,List.set_append]
theorem verH_2 (A:List Entry)(p q r t v:Cell):qce (verH A [p,q,r,t]) (.ptr A.length 4 0 2 0) [v]=some (verH A [p,q,v,t]):=by simp[verH,qce,entry?,splice,List.set_append]
theorem verH_3 (A E2:List Entry)(p q r t v:Cell):qce (verH A [p,q,r,t]++E2) (.ptr A.length 4 0 3 0) [v]=some (verH A [p,q,r,v]++E2):=by simp[verH,qce,entry?,splice,List.set_append]
theorem verH_d (A E2:List Entry)(row:List Cell):deref (verH A row++E2) (.ptr A.length 4 0 0 0)=some (row,0):=by simp[verH,deref,entry?]
theorem verH_d0 (A:List Entry)(row:List Cell):deref (verH A row) (.ptr A.length 4 0 0 0)=some (row,0):=by simp[verH,deref,entry?]
theorem qqdb (H:List Entry)(a b c:Int):mapO (qan false H) [.agg [Cell.int a,Cell.int b,Cell.int c,.lst true 1 []]]=some [.agg [Cell.int a,Cell.int b,Cell.int c,qba []]]:=rfl
theorem f_fao (s:Str)(hs:s.length≤1048576):Fresh qfj true 2 [.one (Cell.str (bs s))] [.agg (qac s).1.tr,.one (.leaf (.bool (qac s).2))]:=by
 have hM:=qah
 have hal:=qjv 45 s
 have hbl:=qgx 45 s
 have hcut:out qfr [.one (Cell.str (bs s)),.one (Cell.str (bs [45]))]=some [.one (Cell.str (bs (ahead 45 s))),.one (Cell.str (bs (behind 45 s))),.one (Cell.bool (decide ((45:UInt8)∈s)))]:=by
  rw[c_ffa s 45 (by omega),qsdb]
 obtain⟨c7,E,is,e1,r1,w1,_⟩:=qsvb (f_ffe (ahead 45 s) 46 (by omega)) ([]:List Entry) (qbe [.one (Cell.str (bs (ahead 45 s))),.one (Cell.str (bs [46]))] _ _)
 generalize hA:([]:List Entry)++E=A at e1 r1
 have hl:=qkh.of (n:=2) r1
 have fz:∀ H,qfj [.one (Cell.str (bs s))] []=some ([.agg [Cell.int 0,Cell.int 0,Cell.int 0,.lst true 1 []],.one (Cell.bool false)],H)→qac s=(⟨0,0,0,[]⟩,false)→Fresh qfj true 2 [.one (Cell.str (bs s))] [.agg (qac s).1.tr,.one (.leaf (.bool (qac s).2))]:=fun H h1 h2=>by
  rw[h2]
  exact Fresh.agg1 (n:=1) h1 (qkb H) (by simp)
 by_cases h3:(split 46 (ahead 45 s)).length=3
 rotate_left
 ·refine fz A (qyw 0 ?_) ?_
  ·simp only[fao,hcut,e1,hl.len,EV0]
   rw[show(((split 46 (ahead 45 s)).length:Int) != 3)=true by rw[bne_iff_ne];omega,cond_true]
  ·unfold qac
   split
   ·rename_i x y z hsp
    rw[hsp] at h3
    simp at h3
   ·rfl
 ·obtain⟨x,y,z,hsp⟩:∃ x y z,split 46 (ahead 45 s)=[x,y,z]:=by
   match h:split 46 (ahead 45 s),h3 with
   | [x,y,z],_=>exact⟨x,y,z,rfl⟩
  rw[hsp] at hl
  have hlen:∀ x∈split 46 (ahead 45 s),x.length≤1073741824:=fun x hx=>by
   have:=(qbj 46 (ahead 45 s) []).2 x hx
   simp only[List.length_nil,Nat.zero_add] at this
   omega
  have lx:=hlen x (by rw[hsp];simp)
  have ly:=hlen y (by rw[hsp];simp)
  have lz:=hlen z (by rw[hsp];simp)
  have hnum:∀ x:Str,x.length≤1073741824→out qiv [.one (Cell.str (bs x)),.one (Cell.int 9999)]=some (numV (qao x 9999)):=fun x hx=>c_fam x 9999 hx (by omega)
  have s0:=verH_0 A
  have s1:=verH_1 A
  have s2:=verH_2 A
  have s3:=verH_3 A
  have dv:=verH_d A
  have dv0:=verH_d0 A
  have hf:∀ row,qkh (verH A row) is c7 [x,y,z]:=fun row=>hl.frame fun j hj=>List.getElem?_append_left (r1.lt j hj)
  have at0:∀ row,∃ a rw off,idxA 1 c7 0=some a∧deref (verH A row) a=some (rw,off)∧cS rw off=some (bs x):=fun row=>by simpa using (hf row).at (i:=0) (s:=x) rfl
  have at1:∀ row,∃ a rw off,idxA 1 c7 1=some a∧deref (verH A row) a=some (rw,off)∧cS rw off=some (bs y):=fun row=>by simpa using (hf row).at (i:=1) (s:=y) rfl
  have at2:∀ row,∃ a rw off,idxA 1 c7 2=some a∧deref (verH A row) a=some (rw,off)∧cS rw off=some (bs z):=fun row=>by simpa using (hf row).at (i:=2) (s:=z) rfl
  have k1:IntKind.i64.wrap ((0:Int)+1)=1:=wrap_small (by omega) (by omega)
  have k2:IntKind.i64.wrap ((1:Int)+1)=2:=wrap_small (by omega) (by omega)
  have k3:IntKind.i64.wrap ((2:Int)+1)=3:=wrap_small (by omega) (by omega)
  have fin:∀ (a b c:Nat),qao x 9999=some a→qao y 9999=some b→qao z 9999=some c→∀ n k m,∃ cs H ids,qno k m (n+1) (bs s) (bs (behind 45 s)) (decide ((45:UInt8)∈s)) c7 (.ptr A.length 4 0 0 0) (.ptr A.length 4 0 0 0) (.ptr A.length 4 0 1 0) (.ptr A.length 4 0 2 0) 3 (verH A [Cell.int a,Cell.int b,Cell.int c,.lst true 1 []])=
    some ([.agg cs,.one (Cell.bool (qac s).2)],H)∧Sp (Rep H true true 2) ids cs (qac s).1.tr∧ids.Nodup:=by
   intro a b c ha hb hc n k m
   have ht:=qwl hsp ha hb hc
   have pv:qac s=if qdo a b c (qke s) then (⟨a,b,c,qke s⟩,true) else (⟨0,0,0,[]⟩,false):=by
    unfold qac
    rw[hsp]
    simp only[ha,hb,hc]
   have hvt:=c_fat a b c (qke s) (qavb hs)
   rw[pv]
   rw[qno,show decide ((3:Int) < 3)=false from rfl,cond_false]
   by_cases hd:(45:UInt8)∈s
   ·have hp:qke s=split 46 (behind 45 s):=if_pos hd
    obtain⟨c29,E2,is2,e2,r2,w2,_⟩:=qsvb (f_ffe (behind 45 s) 46 (by omega)) (verH A [Cell.int a,Cell.int b,Cell.int c,.lst true 1 []]) (qbe [.one (Cell.str (bs (behind 45 s))),.one (Cell.str (bs [46]))] _ _)
    rw[← hp] at r2
    have r3:Rep (verH A [Cell.int a,Cell.int b,Cell.int c,c29]++E2) true true 2 is2 c29 (trL 1 qfm (qke s)):=r2.frame fun j hj=>by
     have h5:=w2.lo j hj
     rw[List.getElem?_append_right (by simp[verH] at h5 ⊢;omega),List.getElem?_append_right h5]
     simp[verH]
    have hsp3:Sp (Rep (verH A [Cell.int a,Cell.int b,Cell.int c,c29]++E2) true true 2) (is2++[]) [Cell.int a,Cell.int b,Cell.int c,c29] (⟨a,b,c,qke s⟩:MVer).tr:=by
     unfold MVer.tr
     exact Sp.cons (i:=[]) (qbt _) (Sp.cons (i:=[]) (qbt _) (Sp.cons (i:=[]) (qbt _) (Sp.cons r3 .nil)))
    have q1:qau qfs [.agg [Cell.int a,Cell.int b,Cell.int c,c29]] (verH A [Cell.int a,Cell.int b,Cell.int c,c29]++E2)=some [.one (Cell.str (bs (qbs a b c (qke s))))]:=by
     have:=qcv (qkr hsp3 (by omega)) (qbu (qan false (verH A [Cell.int a,Cell.int b,Cell.int c,c29]++E2)))
     simp only[MVer.tr,List.map_cons,List.map_nil,qch,qbz] at this
     rw[qgd this]
     exact hvt
    rw[decide_eq_true hd,cond_true]
    simp only[e2,fldA_ptr,Nat.zero_add,s3,dv,q1,ht,EV0]
    cases hok:qdo a b c (qke s) with
    | false=>exact⟨_,_,[],rfl,qkb _,by simp⟩
    | true=>exact⟨_,_,is2++[],rfl,hsp3,by simpa using w2.nd⟩
   ·have hp:qke s=[]:=if_neg hd
    rw[decide_eq_false hd,cond_false]
    have q1:qau qfs [.agg [Cell.int a,Cell.int b,Cell.int c,.lst true 1 []]] (verH A [Cell.int a,Cell.int b,Cell.int c,.lst true 1 []])=some [.one (Cell.str (bs (qbs a b c (qke s))))]:=by
     rw[hp] at hvt ⊢
     exact(qgd (qqdb _ _ _ _)).trans hvt
    simp only[dv0,q1,ht,EV0]
    cases hok:qdo a b c (qke s) with
    | false=>exact⟨_,_,[],rfl,qkb _,by simp⟩
    | true=>
     refine⟨_,_,[],rfl,?_,by simp⟩
     rw[hp]
     unfold MVer.tr
     exact Sp.cons (i:=[]) (qbt _) (Sp.cons (i:=[]) (qbt _) (Sp.cons (i:=[]) (qbt _) (Sp.cons (i:=[]) (.inl ⟨rfl,rfl,true,rfl⟩) .nil)))
  have go:∀ n k m,n=4→∃ cs H ids,qno k m n (bs s) (bs (behind 45 s)) (decide ((45:UInt8)∈s)) c7 (.ptr A.length 4 0 0 0) (.ptr A.length 4 0 0 0) (.ptr A.length 4 0 1 0) (.ptr A.length 4 0 2 0) 0 (verH A [Cell.int 0,Cell.int 0,Cell.int 0,.lst true 1 []])=
    some ([.agg cs,.one (Cell.bool (qac s).2)],H)∧Sp (Rep H true true 2) ids cs (qac s).1.tr∧ids.Nodup:=by
   intro n k m hn
   obtain⟨n,rfl⟩:∃ q,n=q+1+1+1+1:=⟨0,hn⟩
   have bad:qao x 9999=none∨qao y 9999=none∨qao z 9999=none→qac s=(⟨0,0,0,[]⟩,false):=fun h=>by
    unfold qac
    rw[hsp]
    rcases h with h | h | h
    ·simp only[h]
    ·simp only[h]
     cases qao x 9999<;>rfl
    ·simp only[h]
     cases qao x 9999<;>cases qao y 9999<;>rfl
   obtain⟨a0,w0,o0,i0,j0,l0⟩:=at0 [Cell.int 0,Cell.int 0,Cell.int 0,.lst true 1 []]
   rw[qno,show decide ((0:Int) < 3)=true from rfl,cond_true,if_pos ⟨by omega,by omega⟩]
   simp only[show(0:Int).toNat*1=0 from rfl,i0,j0,l0,hnum x lx,EV0]
   cases hx:qao x 9999 with
   | none=>
    rw[bad (.inl hx)]
    exact⟨_,_,[],rfl,qkb _,by simp⟩
   | some a=>
    simp only[numV,EV0,Bool.not_true,ptrC,s0,k1]
    obtain⟨a1,w1,o1,i1,j1,l1⟩:=at1 [Cell.int a,Cell.int 0,Cell.int 0,.lst true 1 []]
    rw[qno,show decide ((1:Int) < 3)=true from rfl,cond_true,if_pos ⟨by omega,by omega⟩]
    simp only[show(1:Int).toNat*1=1 from rfl,i1,j1,l1,hnum y ly,EV0]
    cases hy:qao y 9999 with
    | none=>
     rw[bad (.inr (.inl hy))]
     exact⟨_,_,[],rfl,qkb _,by simp⟩
    | some b=>
     simp only[numV,EV0,Bool.not_true,ptrC,s1,k2]
     obtain⟨a2,w2,o2,i2,j2,l2⟩:=at2 [Cell.int a,Cell.int b,Cell.int 0,.lst true 1 []]
     rw[qno,show decide ((2:Int) < 3)=true from rfl,cond_true,if_pos ⟨by omega,by omega⟩]
     simp only[show(2:Int).toNat*1=2 from rfl,i2,j2,l2,hnum z lz,EV0]
     cases hzz:qao z 9999 with
     | none=>
      rw[bad (.inr (.inr hzz))]
      exact⟨_,_,[],rfl,qkb _,by simp⟩
     | some c=>
      simp only[numV,EV0,Bool.not_true,ptrC,s2,k3]
      exact fin a b c hx hy hzz n k m
  obtain⟨cs,H,ids,z1,z2,z3⟩:=go (3+1) (3+1) (3+1) rfl
  have hrun:∀ q,fao q q (bs s)=qno q q q (bs s) (bs (behind 45 s)) (decide ((45:UInt8)∈s)) c7 (.ptr A.length 4 0 0 0) (.ptr A.length 4 0 0 0) (.ptr A.length 4 0 1 0) (.ptr A.length 4 0 2 0) 0 (verH A [Cell.int 0,Cell.int 0,Cell.int 0,.lst true 1 []]):=by
   intro q
   simp only[fao,hcut,e1,hl.len,EV0]
   rw[show(((0+1+1+1:Nat):Int) != 3)=false from rfl,cond_false]
   rfl
  have z0:=(hrun (3+1)).trans z1
  exact Fresh.agg1 (n:=1) (qyw 3 z0) z2 z3
def qhr (line:Str):MPick:=⟨ahead 64 line,(qac (behind 64 line)).1⟩
def qfa:Nat→Str→List MPick→Option (List MPick) | 0,_,_=>none | n+1,rest,acc=>if rest=[]∨¬ acc.length≤12 then some acc else if (qac (behind 64 (ahead 10 rest))).2 then qfa n (behind 10 rest) (acc++[qhr (ahead 10 rest)]) else none
def qec (s:Str):Option (List MPick)→List MPick×Bool | some l=>if qcb l==s then (l,true) else ([],false) | none=>([],false)
def qay (s:Str):List MPick×Bool:=qec s (qfa (s.length+1) s [])
theorem behind_lt {c:UInt8}{s:Str}(h:s≠[]):(behind c s).length < s.length:=by
 by_cases hc:c∈s
 ·have:=congrArg List.length (qrt hc)
  simp only[List.length_append,List.length_cons] at this
  omega
 ·rw[qri hc]
  exact List.length_pos_iff.2 h
theorem qhz {c:UInt8}{s:Str}(h:s.length≤1048576):(behind c s).length≤1048576:=Nat.le_trans (qgx c s) h
theorem qrw {line:Str}(h:line.length≤1048576):(qhr line).Bd 1048576:=
 ⟨Nat.le_trans (qjv 64 line) h,qkbb (qhz h)⟩
theorem f_fal (s:Str)(hs:bdS 1048576 s):Fresh qyj true 3 [.one (Cell.str (bs s))] [.one (trL 5 MPick.tr (qay s).1),.one (.leaf (.bool (qay s).2))]:=by
 have hM:=qah
 have hs1:s.length≤1048576:=hs
 have loop:∀ (n:Nat) (rest:Str) (acc:List MPick) (c:Cell) (H:List Entry) (ids:List Nat),rest.length < n→rest.length≤1048576→acc.length≤13→(∀ p∈acc,p.Bd 1048576)→Rep H true true 3 ids c (trL 5 MPick.tr acc)→qie c→ids.Nodup→∀ k m,
   ∃ c' H' ids',qaob k m n (bs s) c (bs rest) H=some ([.one c',.one (Cell.bool (qec s (qfa n rest acc)).2)],H')∧Rep H' true true 3 ids' c' (trL 5 MPick.tr (qec s (qfa n rest acc)).1)∧ids'.Nodup:=by
  intro n
  induction n with
  | zero=>intro rest acc c H ids h;omega
  | succ n ih=>
   intro rest acc c H ids hn hr ha hb hrep hnl hnd k m
   have hlc:lenC c=some acc.length:=by
    have:=hrep.lenC
    simpa using this
   have hbl:bdL 1048576 (MPick.Bd 1048576) acc:=⟨by omega,hb⟩
   have q:qau qld [.one c] H=some [.one (Cell.str (bs (qcb acc)))]:=by
    have h1:=qgu hrep (by omega)
    rw[qbz] at h1
    rw[qgd (qcv h1 (qbu _))]
    exact c_fah acc hbl
   have fin:∀ (_:Unit),∃ c' H' ids',cond (!(qcb acc==s)) (some ([AV.one (.lst true 5 []),AV.one (Cell.bool false)],H):Option Res) (some ([AV.one c,AV.one (Cell.bool true)],H))=some ([.one c',.one (Cell.bool (qec s (some acc)).2)],H')∧Rep H' true true 3 ids' c' (trL 5 MPick.tr (qec s (some acc)).1)∧ids'.Nodup:=fun _=>by
    cases hc:(qcb acc==s) with
    | false=>
     have e:qec s (some acc)=([],false):=by simp[qec,hc]
     rw[e]
     exact⟨_,_,[],rfl,.inl ⟨rfl,rfl,true,rfl⟩,by simp⟩
    | true=>
     have e:qec s (some acc)=(acc,true):=by simp[qec,hc]
     rw[e]
     exact⟨_,_,ids,rfl,hrep,hnd⟩
   rw[qaob]
   by_cases he:rest=[]
   ·subst he
    simp only[qcg,show(!(([]:Str)==[]))=false from rfl,cond_false,q,EV0]
    rw[qfa,if_pos (.inl rfl)]
    exact fin ()
   ·rw[qcg,qcg,show(!(rest==[]))=true by simp[he],cond_true]
    simp only[hlc,Option.bind_some]
    by_cases h12:acc.length≤12
    ·rw[decide_eq_true (by omega),cond_true]
     have hal:=qjv 10 rest
     have hll:(ahead 10 rest).length≤1048576:=Nat.le_trans hal hr
     have hv:=qhz (c:=64) hll
     obtain⟨cs,E,i2,e2,r2,w2,_⟩:=qgdb (f_fao (behind 64 (ahead 10 rest)) hv) H (qbe [.one (Cell.str (bs (behind 64 (ahead 10 rest))))] _ _)
     obtain⟨c19,rfl⟩:=MVer.open r2
     have hcut1:out qfr [.one (Cell.str (bs rest)),.one (Cell.str (bs [10]))]=some [.one (Cell.str (bs (ahead 10 rest))),.one (Cell.str (bs (behind 10 rest))),.one (Cell.bool (decide ((10:UInt8)∈rest)))]:=by rw[c_ffa rest 10 (by omega),qsdb]
     have hcut2:out qfr [.one (Cell.str (bs (ahead 10 rest))),.one (Cell.str (bs [64]))]=some [.one (Cell.str (bs (ahead 64 (ahead 10 rest)))),.one (Cell.str (bs (behind 64 (ahead 10 rest)))),.one (Cell.bool (decide ((64:UInt8)∈ahead 10 rest)))]:=by rw[c_ffa _ 64 (by omega),qsdb]
     simp only[hcut1,hcut2,e2,EV0]
     rw[qfa,if_neg (by simp[he,h12])]
     cases hok:(qac (behind 64 (ahead 10 rest))).2 with
     | false=>exact⟨_,_,[],rfl,.inl ⟨rfl,rfl,true,rfl⟩,by simp⟩
     | true=>
      simp only[Bool.not_true,cond_false,if_true]
      have rA:=(hrep.app E).app [Entry.mk 5 [[Cell.str (bs (ahead 64 (ahead 10 rest))),Cell.int (qac (behind 64 (ahead 10 rest))).1.A,Cell.int (qac (behind 64 (ahead 10 rest))).1.B,Cell.int (qac (behind 64 (ahead 10 rest))).1.C,c19]] 0 false]
      have rB:=Rep.app2 [Entry.mk 5 [[Cell.str (bs (ahead 64 (ahead 10 rest))),Cell.int (qac (behind 64 (ahead 10 rest))).1.A,Cell.int (qac (behind 64 (ahead 10 rest))).1.B,Cell.int (qac (behind 64 (ahead 10 rest))).1.C,c19]] 0 false] r2
      have hsrc:∀ (G:List Entry) (row:List Cell),qbr (G++[Entry.mk 5 [row] 0 false]) 5 (.vs G.length 5 0 1 0)=some [row]:=fun G row=>by simp[qbr,rowsOf,entry?]
      have rC:Sp (Rep (H++E++[Entry.mk 5 [[Cell.str (bs (ahead 64 (ahead 10 rest))),Cell.int (qac (behind 64 (ahead 10 rest))).1.A,Cell.int (qac (behind 64 (ahead 10 rest))).1.B,Cell.int (qac (behind 64 (ahead 10 rest))).1.C,c19]] 0 false]) true true 2) i2 [Cell.str (bs (ahead 64 (ahead 10 rest))),Cell.int (qac (behind 64 (ahead 10 rest))).1.A,Cell.int (qac (behind 64 (ahead 10 rest))).1.B,Cell.int (qac (behind 64 (ahead 10 rest))).1.C,c19] (qhr (ahead 10 rest)).tr:=Sp.cons (i:=[]) (qbt _) rB
      obtain⟨d,H',ids',a1,r3,nl3,nd3,g3,l3,k3,_⟩:=rA.append (by':=64) (ys:=[[Cell.str (bs (ahead 64 (ahead 10 rest))),Cell.int (qac (behind 64 (ahead 10 rest))).1.A,Cell.int (qac (behind 64 (ahead 10 rest))).1.B,Cell.int (qac (behind 64 (ahead 10 rest))).1.C,c19]]) (tys:=[(qhr (ahead 10 rest)).tr]) (js:=i2++[]) hnl hnd (Sp.cons rC .nil) (by simp) (by simpa using w2.nd) (fun j hj h=>by
       have h1:=hrep.lt j hj
       have h2:=w2.lo j (by simpa using h)
       omega) (by simp[bound];omega) (by simp[bound];omega)
      simp only[hsrc,a1,Option.bind_some]
      have hlt:=behind_lt (c:=10) he
      have hr3:Rep H' true true 3 ids' d (trL 5 MPick.tr (acc++[qhr (ahead 10 rest)])):=by
       rw[trL,List.map_append]
       exact r3
      exact ih (behind 10 rest) (acc++[qhr (ahead 10 rest)]) d H' ids' (by omega) (by omega) (by simp;omega) (fun p hp=>by
       rcases List.mem_append.1 hp with hp | hp
       ·exact hb p hp
       ·simp only[List.mem_singleton] at hp
        rw[hp]
        exact qrw hll) hr3 nl3 nd3 k m
    ·rw[decide_eq_false (by omega),cond_false]
     simp only[q,EV0]
     rw[qfa,if_pos (.inr h12)]
     exact fin ()
 obtain⟨c',H',ids',z1,z2,z3⟩:=loop (s.length+1) s [] (.lst true 5 []) [] [] (by omega) hs1 (by simp) (by simp) (.inl ⟨rfl,rfl,true,rfl⟩) (qdu _) (by simp) (s.length+1) (s.length+1)
 have z0:∀ q,fal q q (bs s)=qaob q q q (bs s) (.lst true 5 []) (bs s) []:=fun q=>rfl
 exact Fresh.one1 (n:=2) (qqwb s.length ((z0 _).trans z1)) z2 z3
def qlsb:List Str→List MPick→Option (List MPick) | [],acc=>some acc | x::r,acc=>if (split 64 x).length=2∧(qac (behind 64 x)).2=true then qlsb r (acc++[qhr x]) else none
def qmq (last:Str):Option (List MPick)→List MPick×Bool | some l=>if last=[]∧(qfp none l&&decide (l.length≤12))=true then (l,true) else ([],false) | none=>([],false)
def m_fdm (s:Str):List MPick×Bool:=qmq ((split 10 s).getLastD []) (qlsb (split 10 s).dropLast [])
theorem qsp {b:UInt8}(hb:qgj b=false)(hb2:qas b=false)(hb3:(b==45)=false):∀ (s:Str) (f:Bool),qpv f s=true→b∉s
 | [],_,_=>by simp
 | x::s,f,h=>by
  simp only[qpv,Bool.and_eq_true] at h
  intro hm
  rcases List.mem_cons.1 hm with e | hm
  ·subst e
   simp[hb,hb2,hb3] at h
  ·exact qsp hb hb2 hb3 s false h.2 hm
theorem fig_ne {b:UInt8}(h:qas b=true):b≠64∧b≠10:=⟨fun e=>by subst e;exact absurd h (by decide),fun e=>by subst e;exact absurd h (by decide)⟩
theorem pre_ne {b:UInt8}(h:preCh b=true):b≠64∧b≠10:=⟨fun e=>by subst e;exact absurd h (by decide),fun e=>by subst e;exact absurd h (by decide)⟩
theorem qow {sep:Str}{b:UInt8}:∀ {r:List Str},b∈Lib.joinTail sep r→b∈sep∨∃ x∈r,b∈x
 | [],h=>by simp[Lib.joinTail] at h
 | x::r,h=>by
  simp only[Lib.joinTail,List.map_cons,List.flatten_cons,List.mem_append] at h
  rcases h with(h | h) | h
  ·exact .inl h
  ·exact .inr ⟨x,by simp,h⟩
  ·rcases qow (r:=r) h with h | ⟨y,hy,h⟩
   ·exact .inl h
   ·exact .inr ⟨y,List.mem_cons_of_mem _ hy,h⟩
theorem join_mem {sep:Str}{b:UInt8}{r:List Str}(h:b∈Lib.join r sep):b∈sep∨∃ x∈r,b∈x:=by
 cases r with
 | nil=>simp[Lib.join_nil] at h
 | cons x r=>
  rw[Lib.join_cons,List.mem_append] at h
  rcases h with h | h
  ·exact .inr ⟨x,by simp,h⟩
  ·rcases qow h with h | ⟨y,hy,h⟩
   ·exact .inl h
   ·exact .inr ⟨y,List.mem_cons_of_mem _ hy,h⟩
theorem qoeb (a b c:Int)(pre:List Str):∀ x∈qbs a b c pre,x≠64∧x≠10:=by
 unfold qbs
 split
 ·rename_i hok
  simp only[qdo,Bool.and_eq_true,List.all_eq_true] at hok
  have hnum:∀ n:Nat,∀ x∈numT n,x≠64∧x≠10:=fun n x hx=>fig_ne (List.all_eq_true.1 (qyi n).1 x hx)
  intro x hx
  simp only[List.mem_append,List.mem_singleton] at hx
  rcases hx with((((h | rfl) | h) | rfl) | h) | h
  ·exact hnum _ x h
  ·decide
  ·exact hnum _ x h
  ·decide
  ·exact hnum _ x h
  ·split at h
   ·simp at h
   ·rcases List.mem_cons.1 h with rfl | h
    ·decide
    ·rcases join_mem h with h | ⟨y,hy,h⟩
     ·simp only[List.mem_singleton] at h
      subst h
      decide
     ·have:=hok.1 y hy
      simp only[qkm,Bool.and_eq_true,List.all_eq_true] at this
      exact pre_ne (this.1 x h)
 ·simp
theorem name_ne {s:Str}(h:qik s=true):(64:UInt8)∉s∧(10:UInt8)∉s:=by
 simp only[qik,Bool.and_eq_true] at h
 exact⟨qsp (by decide) (by decide) (by decide) s true h.1,qsp (by decide) (by decide) (by decide) s true h.1⟩
theorem qsjb {c:UInt8}{u t:Str}(h:c∉u):ahead c (u++c::t)=u∧behind c (u++c::t)=t:=by
 induction u with
 | nil=>simp[ahead,behind]
 | cons x u ih=>
  have hx:(x != c)=true:=by
   have:x≠c:=fun e=>h (by rw[e];exact List.mem_cons_self ..)
   simp[this]
  obtain⟨h1,h2⟩:=ih fun hh=>h (List.mem_cons_of_mem _ hh)
  simp only[ahead,behind] at h1 h2 ⊢
  rw[List.cons_append,List.takeWhile_cons,List.dropWhile_cons,hx]
  simp only[if_true]
  exact⟨by rw[h1],h2⟩
def qjk (p:MPick):Str:=p.Name++64::qbs p.V.A p.V.B p.V.C p.V.Pre
theorem qwm (p:MPick):qcf p=qjk p++[10]:=by simp[qcf,qjk]
theorem qlhb {p:MPick}(h:qik p.Name=true):(10:UInt8)∉qjk p∧split 64 (qjk p)=[p.Name,qbs p.V.A p.V.B p.V.C p.V.Pre]∧behind 64 (qjk p)=qbs p.V.A p.V.B p.V.C p.V.Pre:=by
 obtain⟨h1,h2⟩:=name_ne h
 have hv:=qoeb p.V.A p.V.B p.V.C p.V.Pre
 obtain⟨c1,c2⟩:=qsjb (t:=qbs p.V.A p.V.B p.V.C p.V.Pre) h1
 refine⟨fun hm=>?_,?_,c2⟩
 ·rcases List.mem_append.1 hm with hm | hm
  ·exact h2 hm
  ·rcases List.mem_cons.1 hm with e | hm
   ·exact absurd e (by decide)
   ·exact(hv 10 hm).2 rfl
 ·rw[qjk,qeb (by simp),c1,c2,qcz fun hm=>(hv 64 hm).1 rfl]
theorem qexb:∀ (l:List MPick) (n:Nat) (acc r:List MPick),(∀ p∈l,qik p.Name=true)→qfa n (l.flatMap qcf) acc=some (acc++l)→acc.length+l.length≤12→
  split 10 (l.flatMap qcf)=l.map qjk++[[]]∧qlsb (l.map qjk) r=some (r++l)
 | [],n,acc,r,_,_,_=>⟨qcz (by simp),by simp[qlsb]⟩
 | p::l,n,acc,r,hn,hg,hl=>by
  have hp:=hn p (List.mem_cons_self ..)
  obtain⟨q1,q2,q3⟩:=qlhb hp
  have hfl:(p::l).flatMap qcf=qjk p++10::l.flatMap qcf:=by rw[List.flatMap_cons,qwm];simp
  obtain⟨c1,c2⟩:=qsjb (t:=l.flatMap qcf) q1
  cases n with
  | zero=>simp[qfa] at hg
  | succ n=>
   rw[hfl,qfa,if_neg (by simp only[List.length_cons] at hl;simp;omega),c1,c2] at hg
   split at hg
   ·rename_i hok
    have hpk:qhr (qjk p)=p:=by
     have key:∀ (n:Nat) (t:Str) (acc x:List MPick),qfa n t acc=some x→acc <+:x:=by
      intro n
      induction n with
      | zero=>intro t acc x h;simp[qfa] at h
      | succ n ih=>
       intro t acc x h
       rw[qfa] at h
       split at h
       ·simp only[Option.some.injEq] at h
        rw[h]
        exact List.prefix_refl _
       ·split at h
        ·exact(List.prefix_append _ _).trans (ih _ _ _ h)
        ·simp at h
     obtain⟨t,ht⟩:=key _ _ _ _ hg
     have:acc++(qhr (qjk p)::t)=acc++(p::l):=by rw[← ht];simp
     have:=List.append_cancel_left this
     simp only[List.cons.injEq] at this
     exact this.1
    rw[hpk] at hg
    obtain⟨i1,i2⟩:=qexb l n (acc++[p]) (r++[p]) (fun x hx=>hn x (List.mem_cons_of_mem _ hx)) (by rw[hg];simp) (by simp at hl ⊢;omega)
    refine⟨by rw[hfl,qeb (by simp),c1,c2,i1];simp,?_⟩
    rw[List.map_cons,qlsb,if_pos ⟨by rw[q2];rfl,hok⟩,hpk,i2]
    simp
   ·simp at hg
theorem join_last {r:List Str}{x:Str}(h:r≠[]):Lib.join (r++[x]) [10]=r.flatMap (·++[10])++x:=by
 induction r with
 | nil=>exact absurd rfl h
 | cons y r ih=>
  by_cases e:r=[]
  ·subst e
   simp[Lib.join_cons,Lib.joinTail]
  ·have:=ih e
   cases r with
   | nil=>exact absurd rfl e
   | cons z r=>
    rw[List.cons_append,Lib.join_cons] at this ⊢
    rw[List.flatMap_cons,List.append_assoc,← this]
    simp[Lib.joinTail]
theorem qhyb (s:Str):s=(split 10 s).dropLast.flatMap (·++[10])++(split 10 s).getLastD []:=by
 have hj:=qmg 10 _ s (Nat.le_refl _)
 have hne:split 10 s≠[]:=qes _ _
 have hl:split 10 s=(split 10 s).dropLast++[(split 10 s).getLastD []]:=by
  rw[List.getLastD_eq_getLast?,List.getLast?_eq_some_getLast hne]
  exact(List.dropLast_concat_getLast hne).symm
 by_cases h:(split 10 s).dropLast=[]
 ·rw[h] at hl ⊢
  conv=>lhs;rw[← hj,hl]
  simp[Lib.join_one]
 ·conv=>lhs;rw[← hj,hl]
  exact join_last h
theorem qqvb {x:Str}(h:(split 64 x).length=2)(h2:(qac (behind 64 x)).2=true):qjk (qhr x)=x:=by
 have hm:(64:UInt8)∈x:=by
  apply Classical.byContradiction
  intro hh
  rw[qcz hh] at h
  simp at h
 have hv:qbs (qac (behind 64 x)).1.A (qac (behind 64 x)).1.B (qac (behind 64 x)).1.C (qac (behind 64 x)).1.Pre=behind 64 x:=by
  revert h2
  unfold qac
  split
  ·rename_i p q r hsp
   split
   ·rename_i a b c ha hb hc
    have ht:=qwl hsp ha hb hc
    split
    ·rename_i hok
     intro _
     rw[hok] at ht
     simpa using ht
    ·intro h;simp at h
   ·intro h;simp at h
  ·intro h;simp at h
 unfold qjk qhr
 rw[hv]
 exact(qrt hm).symm
theorem qyk:∀ (r:List Str) (acc l:List MPick),qlsb r acc=some l→(∀ x∈r,(10:UInt8)∉x)→l.length≤12→∃ l',l=acc++l'∧r.flatMap (·++[10])=l'.flatMap qcf∧∀ n,(r.flatMap (·++[10])).length < n→qfa n (r.flatMap (·++[10])) acc=some l
 | [],acc,l,h,_,hl=>by
  simp only[qlsb,Option.some.injEq] at h
  subst h
  refine⟨[],by simp,by simp,fun n hn=>?_⟩
  obtain⟨n,rfl⟩:∃ q,n=q+1:=⟨n - 1,by omega⟩
  rw[qfa,if_pos (.inl (by simp))]
 | x::r,acc,l,h,hx,hl=>by
  rw[qlsb] at h
  split at h
  ·rename_i hc
   obtain⟨l',e1,e2,e3⟩:=qyk r _ l h (fun y hy=>hx y (List.mem_cons_of_mem _ hy)) hl
   have hline:=qqvb hc.1 hc.2
   have h10:=hx x (List.mem_cons_self ..)
   obtain⟨c1,c2⟩:=qsjb (t:=r.flatMap (·++[10])) h10
   have hfl:(x::r).flatMap (·++[10])=x++10::r.flatMap (·++[10]):=by simp
   refine⟨qhr x::l',by rw[e1];simp,?_,fun n hn=>?_⟩
   ·rw[List.flatMap_cons,List.flatMap_cons,e2,qwm,hline]
   ·obtain⟨n,rfl⟩:∃ q,n=q+1:=⟨n - 1,by omega⟩
    have hal:acc.length≤12:=by
     have:=congrArg List.length e1
     simp only[List.length_append,List.length_singleton] at this
     omega
    rw[hfl] at hn ⊢
    rw[qfa,if_neg (by simp;omega),c1,c2,if_pos hc.2]
    exact e3 n (by simp only[List.length_append,List.length_cons] at hn;omega)
  ·simp at h
theorem split_no (c:UInt8):∀ (n:Nat) (s:Str),s.length≤n→∀ x∈split c s,c∉x:=by
 intro n
 induction n with
 | zero=>
  intro s hs x hx
  obtain rfl:s=[]:=List.eq_nil_of_length_eq_zero (by omega)
  rw[qcz (by simp)] at hx
  simp only[List.mem_singleton] at hx
  subst hx
  simp
 | succ n ih=>
  intro s hs x hx
  by_cases h:c∈s
  ·have hlt:(behind c s).length≤n:=by
    have:=congrArg List.length (qrt h)
    simp only[List.length_append,List.length_cons] at this
    omega
   rw[qeb h] at hx
   rcases List.mem_cons.1 hx with rfl | hx
   ·exact qsr s
   ·exact ih _ hlt x hx
  ·rw[qcz h] at hx
   simp only[List.mem_singleton] at hx
   subst hx
   exact h
theorem qvs:∀ {l:List MPick} {prev:Option Str},qfp prev l=true→∀ p∈l,qik p.Name=true
 | [],_,_,p,h=>by simp at h
 | q::r,prev,h,p,hp=>by
  simp only[qfp,Bool.and_eq_true] at h
  rcases List.mem_cons.1 hp with rfl | hp
  ·exact h.1
  ·exact qvs h.2.2.2 p hp
theorem m_lock_eq (s:Str):m_fdm s=qay s:=by
 have A:∀ l,m_fdm s=(l,true)→qay s=(l,true):=by
  intro l h
  unfold m_fdm qmq at h
  split at h
  ·rename_i l' hr
   split at h
   ·rename_i hc
    simp only[Prod.mk.injEq,and_true] at h
    subst h
    have hc2:=hc.2
    simp only[Bool.and_eq_true,decide_eq_true_eq] at hc2
    obtain⟨l2,e1,e2,e3⟩:=qyk _ [] l' hr (fun x hx=>split_no 10 _ s (Nat.le_refl _) x ((List.dropLast_sublist _).subset hx)) hc2.2
    have hs:=qhyb s
    rw[hc.1,List.append_nil] at hs
    rw[List.nil_append] at e1
    subst e1
    have hg:=e3 (s.length+1) (by rw[← hs];omega)
    rw[← hs] at hg e2
    unfold qay qec
    rw[hg]
    simp only
    rw[if_pos]
    rw[qcb,if_pos hc.2,← e2]
    simp
   ·simp at h
  ·simp at h
 have B:∀ l,qay s=(l,true)→m_fdm s=(l,true):=by
  intro l h
  unfold qay qec at h
  split at h
  ·rename_i l' hr
   split at h
   ·rename_i hc
    simp only[Prod.mk.injEq,and_true] at h
    subst h
    have ht:qcb l'=s:=by simpa using hc
    by_cases hok:(qfp none l'&&decide (l'.length≤12))=true
    ·have hok2:=hok
     simp only[Bool.and_eq_true,decide_eq_true_eq] at hok2
     rw[qcb,if_pos hok] at ht
     rw[← ht] at hr
     obtain⟨i1,i2⟩:=qexb l' _ [] [] (qvs hok2.1) (by rw[List.nil_append];exact hr) (by simp;omega)
     unfold m_fdm
     rw[← ht,i1]
     simp only[List.dropLast_concat,i2,List.nil_append,qmq]
     rw[if_pos ⟨by simp,hok⟩]
    ·rw[qcb,if_neg hok] at ht
     subst ht
     have:l'=[]:=by
      rw[qfa,if_pos (.inl rfl)] at hr
      simpa using hr.symm
     subst this
     simp[qfp] at hok
   ·simp at h
  ·simp at h
 have two:∀ x:List MPick×Bool,x=m_fdm s∨x=qay s→x.2=false→x=([],false):=by
  intro x hx hf
  rcases hx with rfl | rfl
  ·unfold m_fdm qmq at hf ⊢
   split<;>(try split)<;>simp_all
  ·unfold qay qec at hf ⊢
   split<;>(try split)<;>simp_all
 cases h1:(m_fdm s).2 with
 | true=>
  have e:=A (m_fdm s).1 (Prod.ext rfl h1)
  rw[e]
  exact Prod.ext rfl h1
 | false=>cases h2:(qay s).2 with
  | true=>
   have:=B (qay s).1 (Prod.ext rfl h2)
   rw[this] at h1
   simp at h1
  | false=>rw[two _ (.inl rfl) h1,two _ (.inr rfl) h2]
theorem ends_bd {s:Str}{o:Option (List MPick)}(h:∀ l,o=some l→l.length≤1048576∧∀ p∈l,p.Bd 1048576):bdL 1048576 (MPick.Bd 1048576) (qec s o).1:=by
 unfold qec
 split
 ·rename_i l
  split
  ·exact h l rfl
  ·exact⟨by simp,by simp⟩
 ·exact⟨by simp,by simp⟩
theorem qcbb:∀ (n:Nat) (rest:Str) (acc l:List MPick),qfa n rest acc=some l→rest.length≤1048576→acc.length≤13→(∀ p∈acc,p.Bd 1048576)→l.length≤13∧∀ p∈l,p.Bd 1048576
 | 0,rest,acc,l,h,_,_,_=>by simp[qfa] at h
 | n+1,rest,acc,l,h,hr,ha,hb=>by
  rw[qfa] at h
  split at h
  ·simp only[Option.some.injEq] at h
   subst h
   exact⟨ha,hb⟩
  ·rename_i hc
   have hal:=qjv 10 rest
   have hbl:=qgx 10 rest
   split at h
   ·refine qcbb n _ _ l h (by omega) (by simp;omega) fun p hp=>?_
    rcases List.mem_append.1 hp with hp | hp
    ·exact hb p hp
    ·simp only[List.mem_singleton] at hp
     rw[hp]
     exact qrw (by omega)
   ·simp at h
theorem qqn (s:Str)(hs:bdS 1048576 s):bdL 1048576 (MPick.Bd 1048576) (qay s).1:=
 ends_bd fun l h=>by
  obtain⟨h1,h2⟩:=qcbb _ _ _ _ h hs (by simp) (by simp)
  exact⟨by omega,h2⟩
theorem c_fdm (s:Str)(hs:bdS 1048576 s):outL qtt [.one (Cell.str (bs s))]=some [.one (encL 5 MPick.enc (qay s).1),.one (Cell.bool (qay s).2)]:=by
 have hM:=qah
 have hs1:s.length≤1048576:=hs
 rw[← m_lock_eq]
 have hsl:=qbj 10 []
 have hlen:(split 10 s).length≤s.length+1:=(qbj 10 s []).1
 have hel:∀ x∈split 10 s,x.length≤1048576:=fun x hx=>by
  have:=(qbj 10 s []).2 x hx
  simp only[List.length_nil,Nat.zero_add] at this
  omega
 have hne:split 10 s≠[]:=qes _ _
 have hpos:=List.length_pos_iff.2 hne
 have hlast:(split 10 s)[(split 10 s).length - 1]?=some ((split 10 s).getLastD []):=by
  rw[List.getLastD_eq_getLast?,List.getLast?_eq_getElem?]
  rw[List.getElem?_eq_getElem (by omega)]
  rfl
 have hz:∀ G:List Entry,mapO (qan false G) [.one (.lst true 5 []),.one (Cell.bool false)]=some [.one (encL 5 MPick.enc []),.one (Cell.bool false)]:=fun G=>rfl
 have hw:IntKind.i64.wrap (((split 10 s).length:Int) - 1)=(((split 10 s).length - 1:Nat):Int):=by rw[wrap_small (by omega) (by omega)];omega
 have loop:∀ (r:List Str) (i n:Nat) (acc:List MPick) (c:Cell) (H:List Entry),(split 10 s).dropLast.drop i=r→r.length < n→acc.length+r.length≤1048576→(∀ p∈acc,p.Bd 1048576)→Grow 5 c H (acc.map MPick.enc)→∀ k m,
   ∃ xs H',qacb k m n c (qba (split 10 s)) i H=some (xs,H')∧mapO (qan false H') xs=some [.one (encL 5 MPick.enc (qmq ((split 10 s).getLastD []) (qlsb r acc)).1),.one (Cell.bool (qmq ((split 10 s).getLastD []) (qlsb r acc)).2)]:=by
  intro r
  induction r with
  | nil=>
   intro i n acc c H hd hn ha hb hg k m
   obtain⟨n,rfl⟩:∃ j,n=j+1:=⟨n - 1,by omega⟩
   have hdl:=drop_nil hd
   simp only[List.length_dropLast] at hdl
   have hrd:=hg.read (e:=MPick.enc)
   obtain⟨y,zs,e1,e2,e3⟩:=qdg hrd
   have e4:zs=[]:=by simpa[mapO] using e3.symm
   subst e4
   simp only[List.cons.injEq,and_true] at e1
   subst e1
   have q1:qau qqs [.one c] H=some [.one (Cell.bool (qfp none acc&&decide (acc.length≤12)))]:=by
    rw[qgd hrd]
    exact c_fdx acc ⟨by simp at ha;omega,hb⟩
   simp only[qacb,qar,hw,Option.bind_some]
   rw[decide_eq_false (by omega),cond_false]
   simp only[qak,hlast,eStr,EV0,qlsb,qmq]
   by_cases hx:(split 10 s).getLastD []=[]
   ·simp only[hx,q1,EV0,show(!(([]:Str)==[]))=false from rfl]
    cases hok:(qfp none acc&&decide (acc.length≤12)) with
    | true=>exact⟨_,_,rfl,qcv e2 (qcv (qbf _ _ _) (qbu _))⟩
    | false=>exact⟨_,_,rfl,hz _⟩
   ·rw[show(!((split 10 s).getLastD []==[]))=true by simpa using hx,cond_true,if_neg fun h=>hx h.1]
    exact⟨_,_,rfl,hz _⟩
  | cons x r ih=>
   intro i n acc c H hd hn ha hb hg k m
   obtain⟨n,rfl⟩:∃ j,n=j+1:=⟨n - 1,by omega⟩
   obtain⟨hlt,hx,hd'⟩:=qai hd
   simp only[List.length_cons] at hn ha
   simp only[List.length_dropLast] at hlt
   have hx2:(split 10 s)[i]?=some x:=by
    rw[List.getElem?_dropLast,if_pos (by omega)] at hx
    exact hx
   have hxl:=hel x (List.mem_of_getElem? hx2)
   have hsp:∀ t:Str,t.length≤1073741824→outL qci [.one (Cell.str (bs t)),.one (.sc (.int .u8 64))]=some [.one (qba (split 64 t))]:=fun t ht=>c_fdt t 64 ht
   have e4:∀ {β:Type} (a b d:Int) (n0:Str) (xs:List Str) (κ:List Cell→Option β),restK [Cell.str (bs n0),Cell.int a,Cell.int b,Cell.int d,qba xs] κ=κ [Cell.str (bs n0),Cell.int a,Cell.int b,Cell.int d,qba xs]:=fun _ _ _ _ _ κ=>rfl
   have e5:∀ (G:List Entry) (c0 c1 c2 c3 c4:Cell),qbr G 5 (.lst true 5 (chunks 5 1 [c0,c1,c2,c3,c4]))=some [[c0,c1,c2,c3,c4]]:=fun G c0 c1 c2 c3 c4=>by simp[qbr,rowsOf,chunks]
   simp only[qacb,qar,hw,Option.bind_some]
   rw[decide_eq_true (by omega),cond_true]
   simp only[qak,hx2,eStr,hsp x (by omega),EV0,qlsb]
   by_cases h2:(split 64 x).length=2
   ·obtain⟨u,v,huv⟩:∃ u v,split 64 x=[u,v]:=by
     match h:split 64 x,h2 with
     | [u,v],_=>exact⟨u,v,rfl⟩
    have hm:(64:UInt8)∈x:=by
     apply Classical.byContradiction
     intro hh
     rw[qcz hh] at h2
     simp at h2
    have huv2:u=ahead 64 x∧v=behind 64 x:=by
     have h5:=huv
     rw[qeb hm] at h5
     simp only[List.cons.injEq] at h5
     have h6:(64:UInt8)∉behind 64 x:=by
      intro hh
      have:=congrArg List.length h5.2
      rw[qeb hh] at this
      have h7:=List.length_pos_iff.2 (qes (c:=64) (behind 64 (behind 64 x)) [])
      simp only[List.length_cons,List.length_nil] at this
      unfold split at this
      omega
     rw[qcz h6] at h5
     simp only[List.cons.injEq,and_true] at h5
     exact⟨h5.1.symm,h5.2.symm⟩
    obtain⟨rfl,rfl⟩:=huv2
    have i0:idxA 1 (encL 1 eStr [ahead 64 x,behind 64 x]) 0=some (.ref (eStr (ahead 64 x)) 0):=rfl
    have i1:idxA 1 (encL 1 eStr [ahead 64 x,behind 64 x]) 1=some (.ref (eStr (behind 64 x)) 0):=rfl
    have hv:=c_fdp (behind 64 x) (qhz hxl)
    rw[show(((split 64 x).length:Int) != 2)=false by rw[h2];rfl,cond_false]
    simp only[huv,i0,i1,eStr,hv,EV0]
    cases hok:(qac (behind 64 x)).2 with
    | false=>
     rw[if_neg (by simp)]
     exact⟨_,_,rfl,hz _⟩
    | true=>
     rw[if_pos (by simp)]
     obtain⟨p,a1,g1⟩:=hg.app (by':=64) [MPick.enc (qhr x)] (by unfold bound;simp;omega) (by unfold bound;simp;omega)
     simp only[MPick.enc,qhr] at a1
     simp only[Bool.not_true,cond_false,e4,e5,a1,Option.bind_some]
     rw[qag (by omega)]
     exact ih (i+1) n (acc++[qhr x]) p.1 p.2 hd' (by omega) (by simp;omega) (fun q hq=>by
      rcases List.mem_append.1 hq with hq | hq
      ·exact hb q hq
      ·simp only[List.mem_singleton] at hq
       rw[hq]
       exact qrw hxl) (by simpa using g1) k m
   ·rw[show(((split 64 x).length:Int) != 2)=true by rw[bne_iff_ne];omega,cond_true,if_neg fun h=>h2 h.1]
    exact⟨_,_,rfl,hz _⟩
 obtain⟨xs,H',z1,z2⟩:=loop (split 10 s).dropLast 0 ((split 10 s).length+1+1) [] (.lst true 5 []) [] rfl (by simp;omega) (by simp;omega) (by simp) (Grow.nil 5) ((split 10 s).length+1+1) ((split 10 s).length+1+1)
 refine qbb (H:=H') (qrmb ((split 10 s).length+1) ?_) z2
 have hsp:outL qci [.one (Cell.str (bs s)),.one (.sc (.int .u8 10))]=some [.one (qba (split 10 s))]:=c_fdt s 10 (by omega)
 simp only[fdm,hsp,EV0]
 exact z1
end Go.Ev
