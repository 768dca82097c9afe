/- What the functions come to. Conditions: none. -/
import Derived.Test.YteofbfalngmmeaaGreatDoorEvCon
set_option linter.unusedSimpArgs false
set_option linter.unusedVariables false
namespace Go.Ev
open Go
def inR (x a b:Int):Bool:=decide (a≤x)&&decide (x≤b)
def qgl (b:UInt8):Bool:=inR b.toNat 97 122
def qau (b:UInt8):Bool:=inR b.toNat 48 57
def qra (first:Bool):Str→Bool | []=>true | b::r=>(qgl b||(!first&&(qau b||b==45)))&&qra false r
def qcj (s:Str):Bool:=qra true s&&inR s.length 1 10
theorem qkoc (b:UInt8)(n:Nat)(h:n < 256):((b.toNat:Int)==(n:Int))=(b==UInt8.ofNat n):=by
 rw[Bool.eq_iff_iff]
 simp only[beq_iff_eq]
 constructor
 ·intro e
  apply UInt8.toNat_inj.1
  have:(UInt8.ofNat n).toNat=n:=by simp;omega
  omega
 ·intro e
  have:(UInt8.ofNat n).toNat=n:=by simp;omega
  rw[e,this]
theorem qdbc (b:UInt8)(n:Nat)(h:n < 256):((b.toNat:Int) != (n:Int))=(b != UInt8.ofNat n):=by
 simp only[bne,qkoc b n h]
theorem qrdc (b:UInt8):(b.toNat:Int) < 256:=by have:=b.toNat_lt;omega
theorem qgpb (x a b:Int):out qbp [.one (Cell.int x),.one (Cell.int a),.one (Cell.int b)]=some [.one (Cell.bool (inR x a b))]:=by
 refine qba (H:=[]) (qjhb 0 ?_)
 simp only[fck,inR]
 by_cases h:a≤x
 ·rw[decide_eq_true (by omega:x≥a),cond_true,Bool.true_and]
 ·rw[decide_eq_false (by omega:¬ x≥a),cond_false,Bool.false_and]
theorem qkmc (x a b:Int):out qdj [.one (Cell.int x),.one (Cell.int a),.one (Cell.int b)]=some [.one (Cell.bool (inR x a b))]:=by
 refine qba (H:=[]) (qmdb 0 ?_)
 simp only[far,inR]
 by_cases h:a≤x
 ·rw[decide_eq_true (by omega:x≥a),cond_true,Bool.true_and]
 ·rw[decide_eq_false (by omega:¬ x≥a),cond_false,Bool.false_and]
theorem c_fco (b:UInt8):out qme [.one (.sc (.int .u8 (b.toNat:Int)))]=some [.one (Cell.bool (qgl b))]:=by
 have:=qrdc b
 refine qba (H:=[]) (qmzb 0 ?_)
 simp only[fco,wrap_small (n:=(b.toNat:Int)) (by omega) (by omega),qgpb,EV0,qgl]
theorem qvtc (b:UInt8):out qfa [.one (.sc (.int .u8 (b.toNat:Int)))]=some [.one (Cell.bool (qau b))]:=by
 have:=qrdc b
 refine qba (H:=[]) (qiwb 0 ?_)
 simp only[fcj,wrap_small (n:=(b.toNat:Int)) (by omega) (by omega),qgpb,EV0,qau]
theorem c_faw (b:UInt8):out qll [.one (.sc (.int .u8 (b.toNat:Int)))]=some [.one (Cell.bool (qgl b))]:=by
 refine qba (H:=[]) (qklb 0 ?_)
 simp only[faw,qgl,inR]
 by_cases h:(97:Int)≤b.toNat
 ·rw[decide_eq_true (by omega:(b.toNat:Int)≥97),cond_true,Bool.true_and]
 ·rw[decide_eq_false (by omega:¬ (b.toNat:Int)≥97),cond_false,Bool.false_and]
theorem qvqc (b:UInt8):out qer [.one (.sc (.int .u8 (b.toNat:Int)))]=some [.one (Cell.bool (qau b))]:=by
 refine qba (H:=[]) (qipb 0 ?_)
 simp only[fat,qau,inR]
 by_cases h:(48:Int)≤b.toNat
 ·rw[decide_eq_true (by omega:(b.toNat:Int)≥48),cond_true,Bool.true_and]
 ·rw[decide_eq_false (by omega:¬ (b.toNat:Int)≥48),cond_false,Bool.false_and]
theorem qwwc (s:Str)(hs:s.length≤1073741824):out qeu [.one (Cell.str (bs s))]=some [.one (Cell.bool (qcj s))]:=by
 have hM:=qah
 have loop:∀ (r:Str) (i n:Nat),s.drop i=r→r.length < n→∀ k m,qpk k m n (bs s) i=some ([.one (Cell.bool (qra (i==0) r&&inR s.length 1 10))],[]):=by
  intro r
  induction r with
  | nil=>
   intro i n hd hn k m
   obtain⟨n,rfl⟩:∃ j,n=j+1:=⟨n - 1,by omega⟩
   have:=drop_nil hd
   simp only[qpk,qbe]
   rw[decide_eq_false (by omega),cond_false]
   simp only[qgpb,EV0,qra]
  | cons b r ih=>
   intro i n hd hn k m
   obtain⟨n,rfl⟩:∃ j,n=j+1:=⟨n - 1,by omega⟩
   obtain⟨hlt,hg,hd'⟩:=qas hd
   simp only[List.length_cons] at hn
   have hz:((i:Int)==0)=(i==0):=by rw[Bool.eq_iff_iff];simp
   simp only[qpk,qcc,hg,c_fco,qvtc,EV0]
   rw[decide_eq_true (by omega),cond_true,qag (by omega),ih (i+1) n hd' (by omega)]
   have h45:((b.toNat:Int) != 45)=!(b==45):=qdbc b 45 (by omega)
   simp only[qra,hz,show((i+1:Nat)==0)=false from rfl,h45]
   cases qgl b<;>cases qau b<;>cases (b==45)<;>cases (i==0)<;>rfl
 refine qba (H:=[]) (qhub (s.length+1) ?_)
 have:=loop s 0 (s.length+1+1) rfl (by omega) (s.length+1+1) (s.length+1+1)
 simpa[fbw,qcj] using this
theorem qvxc (s:Str)(hs:s.length≤1073741824):out qfc [.one (Cell.str (bs s))]=some [.one (Cell.bool (qcj s))]:=by
 have hM:=qah
 have loop:∀ (r:Str) (i n:Nat),s.drop i=r→r.length < n→∀ k m,qpu k m n (bs s) i=some ([.one (Cell.bool (qra (i==0) r&&inR s.length 1 10))],[]):=by
  intro r
  induction r with
  | nil=>
   intro i n hd hn k m
   obtain⟨n,rfl⟩:∃ j,n=j+1:=⟨n - 1,by omega⟩
   have:=drop_nil hd
   simp only[qpu,qbe]
   rw[decide_eq_false (by omega),cond_false]
   simp only[qkmc,EV0,qra]
  | cons b r ih=>
   intro i n hd hn k m
   obtain⟨n,rfl⟩:∃ j,n=j+1:=⟨n - 1,by omega⟩
   obtain⟨hlt,hg,hd'⟩:=qas hd
   simp only[List.length_cons] at hn
   have hz:((i:Int)==0)=(i==0):=by rw[Bool.eq_iff_iff];simp
   simp only[qpu,qcc,hg,c_faw,qvqc,EV0]
   rw[decide_eq_true (by omega),cond_true,qag (by omega),ih (i+1) n hd' (by omega)]
   have h45:((b.toNat:Int) != 45)=!(b==45):=qdbc b 45 (by omega)
   simp only[qra,hz,show((i+1:Nat)==0)=false from rfl,h45]
   cases qgl b<;>cases qau b<;>cases (b==45)<;>cases (i==0)<;>rfl
 refine qba (H:=[]) (qmab (s.length+1) ?_)
 have:=loop s 0 (s.length+1+1) rfl (by omega) (s.length+1+1) (s.length+1+1)
 simpa[fac,qcj] using this
def qcf (c:UInt8)(cur:Str):Str→List Str | []=>[cur] | b::r=>if b=c then cur::qcf c [] r else qcf c (cur++[b]) r
def split (c:UInt8)(s:Str):List Str:=qcf c [] s
def ahead (c:UInt8)(s:Str):Str:=s.takeWhile (· != c)
def behind (c:UInt8)(s:Str):Str:=(s.dropWhile (· != c)).drop 1
theorem qbl (c:UInt8):∀ (s cur:Str),(qcf c cur s).length≤s.length+1∧∀ x∈qcf c cur s,x.length≤cur.length+s.length:=by
 intro s
 induction s with
 | nil=>intro cur;simp[qcf]
 | cons b r ih=>
  intro cur
  simp only[qcf]
  split
  ·obtain⟨h1,h2⟩:=ih []
   refine⟨by simp;omega,fun x hx=>?_⟩
   rcases List.mem_cons.1 hx with rfl | hx
   ·simp
   ·have:=h2 x hx;simp at this;simp;omega
  ·obtain⟨h1,h2⟩:=ih (cur++[b])
   refine⟨by simp;omega,fun x hx=>?_⟩
   have:=h2 x hx;simp at this;simp;omega
theorem qdob {c:UInt8}:∀ {s:Str} (cur:Str),c∉s→qcf c cur s=[cur++s]:=by
 intro s
 induction s with
 | nil=>intro cur _;simp[qcf]
 | cons b r ih=>
  intro cur h
  simp only[List.mem_cons,not_or] at h
  simp only[qcf]
  rw[if_neg fun e=>h.1 e.symm,ih _ h.2]
  simp
theorem qfcb {c:UInt8}:∀ {s:Str} (cur:Str),c∈s→qcf c cur s=(cur++ahead c s)::qcf c [] (behind c s):=by
 intro s
 induction s with
 | nil=>intro cur h;simp at h
 | cons b r ih=>
  intro cur h
  simp only[qcf]
  by_cases e:b=c
  ·subst e
   simp[ahead,behind]
  ·rw[if_neg e,ih _ (by simpa[Ne.symm e] using h)]
   simp[ahead,behind,e]
theorem qjs {c:UInt8}{s:Str}(h:c∉s):split c s=[s]:=qdob [] h
theorem qpl {c:UInt8}{s:Str}(h:c∈s):split c s=ahead c s::split c (behind c s):=qfcb [] h
theorem qnj {c:UInt8}:∀ (s cur:Str),qcf c cur s≠[]:=by
 intro s
 induction s with
 | nil=>intro cur;simp[qcf]
 | cons b r ih=>intro cur;simp only[qcf];split<;>simp[ih]
theorem qwd (c:UInt8)(s:Str):(ahead c s).length≤s.length:=by
 have:=(List.takeWhile_prefix (fun x=>x != c) (l:=s)).length_le
 exact this
theorem qjr (c:UInt8)(s:Str):(behind c s).length≤s.length:=by
 have:=(List.dropWhile_suffix (fun x=>x != c) (l:=s)).length_le
 simp only[behind,List.length_drop]
 omega
theorem qbnb {c:UInt8}(s:Str):c∉ahead c s:=by
 induction s with
 | nil=>simp[ahead]
 | cons b r ih=>
  unfold ahead
  rw[List.takeWhile_cons]
  split
  ·rename_i h
   intro hm
   rcases List.mem_cons.1 hm with e | e
   ·rw[← e] at h;simp at h
   ·exact ih e
  ·simp
theorem c_fce (s:Str)(c:UInt8)(hs:s.length≤1073741824):outL qda [.one (Cell.str (bs s)),.one (.sc (.int .u8 (c.toNat:Int)))]=some [.one (qbj (split c s))]:=by
 have hM:=qah
 have loop:∀ (r:Str) (i from' n:Nat) (cur:Str) (cl:Cell) (H:List Entry) (done:List Str),s.drop i=r→from'≤i→i≤s.length→(s.take i).drop from'=cur→r.length+1 < n→Grow 1 cl H (done.map eStr)→done.length≤i→
   ∀ k m,∃ cl' H',qpe k m n (bs s) (c.toNat:Int) cl from' i H=some ([.one cl'],H')∧Grow 1 cl' H' ((done++qcf c cur r).map eStr):=by
  intro r
  induction r with
  | nil=>
   intro i from' n cur cl H done hd hf hi hc hn hg hdl k m
   obtain⟨n,rfl⟩:∃ j,n=j+2:=⟨n - 2,by omega⟩
   have hlen:=drop_nil hd
   have e:i=s.length:=by omega
   subst e
   obtain⟨p,hp,hgp⟩:=hg.app (by':=16) [eStr cur] (by simp[bound];omega) (by simp[bound];omega)
   refine⟨p.1,p.2,?_,by simpa[qcf] using hgp⟩
   simp only[qpe,qbe]
   rw[decide_eq_true (by omega),cond_true,show(((s.length:Nat):Int)==(s.length:Int))=true by simp,cond_true,qci _ _ _ hf (Nat.le_refl _),hc]
   simp only[Option.bind_some]
   rw[show [[Cell.str (bs cur)]]=[eStr cur] from rfl,hp]
   simp only[Option.bind_some]
   rw[qag (by omega),decide_eq_false (by omega),cond_false]
  | cons b r ih=>
   intro i from' n cur cl H done hd hf hi hc hn hg hdl k m
   obtain⟨n,rfl⟩:∃ j,n=j+1:=⟨n - 1,by omega⟩
   obtain⟨hlt,hgx,hd'⟩:=qas hd
   simp only[List.length_cons] at hn
   simp only[qpe,qbe,qcc,hgx,Option.map_some,Option.bind_some]
   rw[decide_eq_true (by omega),cond_true,show(((i:Nat):Int)==(s.length:Int))=false by simp;omega,cond_false,qag (by omega)]
   have hbc:((b.toNat:Int)==(c.toNat:Int))=decide (b=c):=by
    rw[Bool.eq_iff_iff]
    simp only[beq_iff_eq,decide_eq_true_eq]
    exact⟨fun h=>UInt8.toNat_inj.1 (by omega),fun h=>by rw[h]⟩
   rw[hbc]
   by_cases e:b=c
   ·rw[decide_eq_true e,cond_true,qci _ _ _ hf (by omega),hc]
    simp only[Option.bind_some]
    obtain⟨p,hp,hgp⟩:=hg.app (by':=16) [eStr cur] (by simp[bound];omega) (by simp[bound];omega)
    rw[show [[Cell.str (bs cur)]]=[eStr cur] from rfl,hp]
    simp only[Option.bind_some]
    obtain⟨cl',H',h1,h2⟩:=ih (i+1) (i+1) n [] p.1 p.2 (done++[cur]) hd' (Nat.le_refl _) (by omega) (by simp) (by omega) (by simpa using hgp) (by simp;omega) k m
    refine⟨cl',H',h1,?_⟩
    simpa[qcf,e] using h2
   ·rw[decide_eq_false e,cond_false]
    obtain⟨cl',H',h1,h2⟩:=ih (i+1) from' n (cur++[b]) cl H done hd' (by omega) (by omega) (by
     rw[← hc,List.take_add_one,hgx]
     simp only[Option.toList_some]
     rw[List.drop_append_of_le_length (by simp;omega)]) (by omega) hg (by omega) k m
    refine⟨cl',H',h1,?_⟩
    simpa[qcf,e] using h2
 obtain⟨cl',H',h1,h2⟩:=loop s 0 0 (s.length+1+1) [] (.lst true 1 []) [] [] rfl (by omega) (by omega) rfl (by omega) (.nil 1) (by simp) (s.length+1+1) (s.length+1+1)
 refine qaz (qmib (s.length+1) (by simpa[fce] using h1)) ?_
 exact h2.read
theorem qqp {c:UInt8}{s:Str}(h:c∉s):ahead c s=s:=by
 induction s with
 | nil=>rfl
 | cons b r ih=>
  simp only[List.mem_cons,not_or] at h
  have:ahead c (b::r)=b::ahead c r:=by simp[ahead,Ne.symm h.1]
  rw[this,ih h.2]
theorem qddb {c:UInt8}{s:Str}(h:c∉s):behind c s=[]:=by
 induction s with
 | nil=>rfl
 | cons b r ih=>
  simp only[List.mem_cons,not_or] at h
  have:behind c (b::r)=behind c r:=by simp[behind,Ne.symm h.1]
  rw[this,ih h.2]
def qucc (p s:Str):Str:=if p.isPrefixOf s then s.drop p.length else s
theorem qcwb (b:UInt8)(r:Str):bytS (bs (b::r)) 0=some (b.toNat:Int):=by
 have:=qcc (b::r) 0
 simpa using this
theorem qkg (c:UInt8)(s:Str):Lib.indexByte s c=if c∈s then ((ahead c s).length:Int) else -1:=by
 induction s with
 | nil=>rfl
 | cons b r ih=>
  simp only[Lib.indexByte]
  by_cases e:b=c
  ·subst e
   simp[ahead]
  ·have e1:(b==c)=false:=by simpa using e
   simp only[e1,Bool.false_eq_true,if_false]
   have e2:ahead c (b::r)=b::ahead c r:=by simp[ahead,e]
   by_cases h:c∈r
   ·rw[if_pos h] at ih
    rw[ih,if_neg (by simp<;>omega),if_pos (List.mem_cons_of_mem _ h),e2]
    simp
   ·rw[if_neg h] at ih
    rw[ih,if_pos (by simp),if_neg]
    intro hm
    rcases List.mem_cons.1 hm with q | q
    ·exact e q.symm
    ·exact h q
theorem qfo (c:UInt8)(s:Str):s.take (ahead c s).length=ahead c s:=
 (List.prefix_iff_eq_take.1 (List.takeWhile_prefix _)).symm
theorem qqb {c:UInt8}{s:Str}(h:c∈s):(ahead c s).length < s.length:=by
 have h1:=qwd c s
 rcases Nat.lt_or_ge (ahead c s).length s.length with h2 | h2
 ·exact h2
 ·have h3:=qfo c s
  rw[List.take_of_length_le h2] at h3
  rw[h3] at h
  exact absurd h (qbnb s)
theorem qga (c:UInt8)(s:Str):s.drop ((ahead c s).length+1)=behind c s:=by
 have h:s=ahead c s++s.dropWhile (· != c):=(List.takeWhile_append_dropWhile).symm
 have h2:s.drop (ahead c s).length=s.dropWhile (· != c):=by
  rw[congrArg (List.drop (ahead c s).length) h,List.drop_left]
 rw[← List.drop_drop,h2]
 rfl
theorem c_fbm (s:Str)(c:UInt8):out qoe [.one (Cell.str (bs s)),.one (.sc (.int .u8 (c.toNat:Int)))]=some [.one (Cell.int (Lib.indexByte s c))]:=by
 simp[out,qoe]
theorem c_fbl (s:Str)(c:UInt8):out qum [.one (Cell.str (bs s)),.one (Cell.str (bs [c]))]=some [.one (Cell.int (Lib.indexByte s c))]:=by
 refine qba (H:=[]) (qjrb 0 ?_)
 simp only[fbl,qcwb,c_fbm,EV0]
 rw[show(((0+1:Nat):Int)==0)=false from rfl,show(((0+1:Nat):Int)==1)=true from rfl,cond_false,cond_true]
 by_cases h:[c]=s
 ·rw[← h]
  simp[Lib.indexByte]
 ·rw[show([c]==s)=false by simpa using h,cond_false]
def cutV (c:UInt8)(s:Str):List AV:=if c∈s then [.one (Cell.str (bs (ahead c s))),.one (Cell.str (bs (behind c s))),.one (Cell.bool true)] else [.one (Cell.str (bs s)),.one (Cell.str (bs [])),.one (Cell.bool false)]
theorem c_fbi (s:Str)(c:UInt8)(hs:s.length≤1073741824):out quq [.one (Cell.str (bs s)),.one (Cell.str (bs [c]))]=some (cutV c s):=by
 refine qba (H:=[]) (qhdb 0 ?_)
 simp only[fbi,c_fbl,EV0]
 rw[qkg]
 unfold cutV
 by_cases h:c∈s
 ·have h1:=qqb h
  rw[if_pos h,if_pos h,decide_eq_true (by omega),cond_true]
  have e1:=qci s 0 (ahead c s).length (by omega) (by omega)
  simp only[Int.natCast_zero,List.drop_zero,qfo] at e1
  rw[e1]
  simp only[Option.bind_some]
  rw[show(((ahead c s).length:Int)+((0+1:Nat):Int))=(((ahead c s).length+1:Nat):Int) by omega,wrap_small (by omega) (by omega),qci s _ _ (by omega) (Nat.le_refl _),List.take_length,qga]
  rfl
 ·rw[if_neg h,if_neg h,decide_eq_false (by omega),cond_false]
theorem c_fdv (s:Str)(c:UInt8)(hs:s.length≤1073741824):out qou [.one (Cell.str (bs s)),.one (Cell.str (bs [c]))]=some (cutV c s):=by
 refine qba (H:=[]) (qkkb 0 ?_)
 simp only[fdv,c_fbi s c hs,EV0]
 unfold cutV
 by_cases h:c∈s
 ·simp only[if_pos h,EV0]
 ·simp only[if_neg h,EV0]
theorem c_fbk (s p:Str):out qvf [.one (Cell.str (bs s)),.one (Cell.str (bs p))]=some [.one (Cell.bool (p.isPrefixOf s))]:=by
 refine qba (H:=[]) (qlzb 0 ?_)
 simp only[fbk,EV0]
 by_cases h:p.length≤s.length
 ·have e1:=qci s 0 p.length (by omega) h
  simp only[Int.natCast_zero,List.drop_zero] at e1
  rw[decide_eq_true (by omega),cond_true,e1]
  simp only[EV0]
  congr 5
  rw[Bool.eq_iff_iff,List.isPrefixOf_iff_prefix,List.prefix_iff_eq_take,beq_iff_eq]
  exact eq_comm
 ·rw[decide_eq_false (by omega),cond_false]
  congr 5
  symm
  rw[← Bool.not_eq_true,List.isPrefixOf_iff_prefix]
  exact fun hp=>h hp.length_le
def lt (a b:Str):Bool:=Op.bytesLess a b
theorem qkjb:∀ (a b:Str),(lt a b||a==b)=!lt b a:=by
 unfold lt
 intro a
 induction a with
 | nil=>intro b;cases b<;>rfl
 | cons x a ih=>
  intro b
  cases b with
  | nil=>rfl
  | cons y b=>
   have h:=ih b
   simp only[Op.bytesLess]
   have e:((x::a)==(y::b))=(x==y&&a==b):=rfl
   rw[e]
   rcases Nat.lt_trichotomy x.toNat y.toNat with h1 | h1 | h1
   ·have e1:decide (x < y)=true:=by simpa[UInt8.lt_iff_toNat_lt] using h1
    have e2:decide (y < x)=false:=by simp[UInt8.lt_iff_toNat_lt];omega
    have e3:(y==x)=false:=by simp;intro e;rw[e] at h1;omega
    simp[e1,e2,e3]
   ·have e0:=UInt8.toNat_inj.1 h1
    subst e0
    have e1:decide (x < x)=false:=by simp
    simp only[e1,Bool.false_or,beq_self_eq_true,Bool.true_and,h]
   ·have e1:decide (y < x)=true:=by simpa[UInt8.lt_iff_toNat_lt] using h1
    have e2:decide (x < y)=false:=by simp[UInt8.lt_iff_toNat_lt];omega
    have e3:(x==y)=false:=by simp;intro e;rw[e] at h1;omega
    simp[e1,e2,e3]
theorem qycb (a b:Str):Op.bytesLess a b=lt a b:=rfl
def asc:List Str→Bool | []=>true | [_]=>true | a::b::r=>lt a b&&asc (b::r)
theorem qbu {i:Nat}(h:i < Go.maxLen):IntKind.i64.wrap (((i+1:Nat):Int) - 1)=(i:Int):=by
 have:=qah
 rw[wrap_small (by omega) (by omega)]
 omega
theorem c_fdh (xs:List Str)(hx:xs.length≤1073741824):out qsq [.one (qbj xs)]=some [.one (Cell.bool (asc xs))]:=by
 have hM:=qah
 have loop:∀ (r:List Str) (p:Str) (i n:Nat),xs[i]?=some p→xs.drop (i+1)=r→r.length < n→∀ k m,qsd k m n (qbj xs) ((i+1:Nat):Int)=some ([.one (Cell.bool (asc (p::r)))],[]):=by
  intro r
  induction r with
  | nil=>
   intro p i n hp hd hn k m
   obtain⟨n,rfl⟩:∃ j,n=j+1:=⟨n - 1,by omega⟩
   have:=drop_nil hd
   simp only[qsd,qam,Option.bind_some]
   rw[decide_eq_false (by omega),cond_false]
   rfl
  | cons b r ih=>
   intro p i n hp hd hn k m
   obtain⟨n,rfl⟩:∃ j,n=j+1:=⟨n - 1,by omega⟩
   obtain⟨hlt,hg,hd'⟩:=qas hd
   simp only[List.length_cons] at hn
   simp only[qsd,qam,Option.bind_some]
   rw[decide_eq_true (by omega),cond_true,qbu (by omega),qag (by omega)]
   simp only[qar,hp,hg,eStr,qycb,EV0]
   rw[ih b (i+1) n hg hd' (by omega)]
   simp only[asc,qkjb]
   cases lt p b<;>rfl
 refine qba (H:=[]) (qinb (xs.length+1) ?_)
 cases xs with
 | nil=>
  simp only[fdh,qsd,qam,Option.bind_some]
  rw[decide_eq_false (by simp),cond_false]
  rfl
 | cons a r=>
  have:=loop r a 0 (r.length+1+1+1) rfl rfl (by omega) (r.length+1+1+1) (r.length+1+1+1)
  simpa[fdh] using this
theorem c_fas (xs:List Str)(hx:xs.length≤1073741824):out qsx [.one (qbj xs)]=some [.one (Cell.bool (asc xs))]:=by
 have hM:=qah
 have loop:∀ (r:List Str) (p:Str) (i n:Nat),xs[i]?=some p→xs.drop (i+1)=r→r.length < n→∀ k m,quz k m n (qbj xs) ((i+1:Nat):Int)=some ([.one (Cell.bool (asc (p::r)))],[]):=by
  intro r
  induction r with
  | nil=>
   intro p i n hp hd hn k m
   obtain⟨n,rfl⟩:∃ j,n=j+1:=⟨n - 1,by omega⟩
   have:=drop_nil hd
   simp only[quz,qam,Option.bind_some]
   rw[decide_eq_false (by omega),cond_false]
   rfl
  | cons b r ih=>
   intro p i n hp hd hn k m
   obtain⟨n,rfl⟩:∃ j,n=j+1:=⟨n - 1,by omega⟩
   obtain⟨hlt,hg,hd'⟩:=qas hd
   simp only[List.length_cons] at hn
   simp only[quz,qam,Option.bind_some]
   rw[decide_eq_true (by omega),cond_true,qbu (by omega),qag (by omega)]
   simp only[qar,hp,hg,eStr,qycb,EV0]
   rw[ih b (i+1) n hg hd' (by omega)]
   simp only[asc,qkjb]
   cases lt p b<;>rfl
 refine qba (H:=[]) (qhrb (xs.length+1) ?_)
 cases xs with
 | nil=>
  simp only[fas,quz,qam,Option.bind_some]
  rw[decide_eq_false (by simp),cond_false]
  rfl
 | cons a r=>
  have:=loop r a 0 (r.length+1+1+1) rfl rfl (by omega) (r.length+1+1+1) (r.length+1+1+1)
  simpa[fas] using this
def idxF {α:Type}(p:α→Bool):List α→Nat→Int | [],_=>-1 | x::r,i=>cond (p x) (i:Int) (idxF p r (i+1))
def qbm (l:List MPack):List MNeed:=l.flatMap (·.Needs)
theorem qgr (l:List MPack):(qbm l).length≤wtL MPack.wt l:=by
 induction l with
 | nil=>simp[qbm]
 | cons x l ih=>
  simp only[qbm,wtL,List.flatMap_cons,List.length_append,List.length_cons,List.map_cons,List.sum_cons] at ih ⊢
  have:x.Needs.length≤MPack.wt x:=by simp only[MPack.wt,wtL];omega
  omega
theorem qdwc (l:List MPack)(hl:bdL 1048576 (MPack.Bd 1048576) l)(hw:wtL MPack.wt l≤1048576):bdL 1048576 (MNeed.Bd 1048576) (qbm l):=by
 refine⟨Nat.le_trans (qgr l) hw,fun x hx=>?_⟩
 obtain⟨p,hp,hx⟩:=List.mem_flatMap.1 hx
 exact(hl.2 p hp).2.2.1.2 x hx
theorem c_fcg (l:List MPack)(hl:bdL 1048576 (MPack.Bd 1048576) l)(hw:wtL MPack.wt l≤1048576):outL qvw [.one (encL 4 MPack.enc l)]=some [.one (encL 2 MNeed.enc (qbm l))]:=by
 have hM:=qah
 have hxl:=hl.1
 have htot:=qgr l
 have loop:∀ (r:List MPack) (i n:Nat) (acc:List MNeed) (c:Cell) (H:List Entry),l.drop i=r→r.length < n→acc.length+(qbm r).length≤1048576→Grow 2 c H (acc.map MNeed.enc)→
   ∀ k m,∃ c' H',qyf k m n (encL 4 MPack.enc l) c i H=some ([.one c'],H')∧Grow 2 c' H' ((acc++qbm r).map MNeed.enc):=by
  intro r
  induction r with
  | nil=>
   intro i n acc c H hd hn ha hg k m
   obtain⟨n,rfl⟩:∃ j,n=j+1:=⟨n - 1,by omega⟩
   have:=drop_nil hd
   refine⟨c,H,?_,by simpa[qbm] using hg⟩
   simp only[qyf,qam,Option.bind_some]
   rw[decide_eq_false (by omega),cond_false]
  | cons x r ih=>
   intro i n acc c H hd hn ha hg k m
   obtain⟨n,rfl⟩:∃ j,n=j+1:=⟨n - 1,by omega⟩
   obtain⟨hlt,hx,hd'⟩:=qas hd
   simp only[List.length_cons] at hn
   have he:qbm (x::r)=x.Needs++qbm r:=by simp[qbm]
   rw[he,List.length_append] at ha
   obtain⟨q,e1,e2⟩:=hg.app (by':=32) (x.Needs.map MNeed.enc) (by unfold bound;simp;omega) (by unfold bound;simp;omega)
   obtain⟨c',H',h1,h2⟩:=ih (i+1) n (acc++x.Needs) q.1 q.2 hd' (by omega) (by rw[List.length_append];omega) (by simpa using e2) k m
   refine⟨c',H',?_,by rw[he,← List.append_assoc];exact h2⟩
   have hs:qal H 2 (encL 2 MNeed.enc x.Needs)=some (x.Needs.map MNeed.enc):=by simp[qal,rowsOf,encL]
   simp only[qyf,qam,Option.bind_some]
   rw[decide_eq_true (by omega),cond_true]
   simp only[qar,hx,MPack.enc,Nat.zero_add,qbx,hs,e1,EV0]
   rw[qag (by omega)]
   exact h1
 obtain⟨c',H',h1,h2⟩:=loop l 0 (l.length+1+1) [] (.lst true 2 []) [] rfl (by omega) (by simp;omega) (Grow.nil 2) (l.length+1+1) (l.length+1+1)
 refine qaz (H:=H') (qltb (l.length+1) ?_) (Grow.read h2)
 simpa[fcg] using h1
theorem f_fam (l:List MPack)(hl:bdL 1048576 (MPack.Bd 1048576) l)(hw:wtL MPack.wt l≤1048576):Fresh quh true 2 [.one (encL 4 MPack.enc l)] [.one (trL 2 MNeed.tr (qbm l))]:=by
 have hM:=qah
 have hxl:=hl.1
 have htot:=qgr l
 have loop:∀ (r:List MPack) (i n:Nat) (acc:List MNeed) (c:Cell) (H:List Entry),l.drop i=r→r.length < n→acc.length+(qbm r).length≤1048576→Grow 2 c H (acc.map MNeed.enc)→
   ∀ k m,∃ c' H',qxf k m n c (encL 4 MPack.enc l) l.length i H=some ([.one c'],H')∧Grow 2 c' H' ((acc++qbm r).map MNeed.enc):=by
  intro r
  induction r with
  | nil=>
   intro i n acc c H hd hn ha hg k m
   obtain⟨n,rfl⟩:∃ j,n=j+1:=⟨n - 1,by omega⟩
   have:=drop_nil hd
   refine⟨c,H,?_,by simpa[qbm] using hg⟩
   simp only[qxf]
   rw[decide_eq_false (by omega),cond_false]
  | cons x r ih=>
   intro i n acc c H hd hn ha hg k m
   obtain⟨n,rfl⟩:∃ j,n=j+1:=⟨n - 1,by omega⟩
   obtain⟨hlt,hx,hd'⟩:=qas hd
   simp only[List.length_cons] at hn
   have he:qbm (x::r)=x.Needs++qbm r:=by simp[qbm]
   rw[he,List.length_append] at ha
   obtain⟨q,e1,e2⟩:=hg.app (by':=32) (x.Needs.map MNeed.enc) (by unfold bound;simp;omega) (by unfold bound;simp;omega)
   obtain⟨c',H',h1,h2⟩:=ih (i+1) n (acc++x.Needs) q.1 q.2 hd' (by omega) (by rw[List.length_append];omega) (by simpa using e2) k m
   refine⟨c',H',?_,by rw[he,← List.append_assoc];exact h2⟩
   have hs:qal H 2 (encL 2 MNeed.enc x.Needs)=some (x.Needs.map MNeed.enc):=by simp[qal,rowsOf,encL]
   simp only[qxf]
   rw[decide_eq_true (by omega),cond_true]
   simp only[qar,hx,MPack.enc,Nat.zero_add,qbx,hs,e1,EV0]
   rw[qag (by omega)]
   exact h1
 obtain⟨c',H',h1,h2⟩:=loop l 0 (l.length+1+1) [] (.lst true 2 []) [] rfl (by omega) (by simp;omega) (Grow.nil 2) (l.length+1+1) (l.length+1+1)
 rw[List.nil_append] at h2
 obtain⟨ids,h3,h4,h5⟩:=h2.rep (tr:=MNeed.tr) (fun _ _=>rfl) (fun x _ H'=>by
  unfold MNeed.tr MNeed.enc
  exact Sp.cons (i:=[]) (qby _) (Sp.cons (i:=[]) (qby _) .nil))
 refine Fresh.one (c:=c') (H:=H') (qmmb (l.length+1) ?_) h3 h4
 simpa[fam] using h1
open Classical in
theorem c_fbv (l:List MPack)(hl:l.length≤1073741824)(s:Str):out qki [.one (encL 4 MPack.enc l),.one (Cell.str (bs s))]=some [.one (Cell.int (idxF (fun p=>p.Name==s) l 0))]:=by
 have hM:=qah
 have loop:∀ (r:List MPack) (i n:Nat),l.drop i=r→r.length < n→∀ k m,qxj k m n (encL 4 MPack.enc l) (bs s) i=some ([.one (Cell.int (idxF (fun p=>p.Name==s) r i))],[]):=by
  intro r
  induction r with
  | nil=>
   intro i n hd hn k m
   obtain⟨n,rfl⟩:∃ j,n=j+1:=⟨n - 1,by omega⟩
   have:=drop_nil hd
   simp only[qxj,qam,Option.bind_some]
   rw[decide_eq_false (by omega),cond_false]
   rfl
  | cons x r ih=>
   intro i n hd hn k m
   obtain⟨n,rfl⟩:∃ j,n=j+1:=⟨n - 1,by omega⟩
   obtain⟨hlt,hg,hd'⟩:=qas hd
   simp only[List.length_cons] at hn
   simp only[qxj,qam,Option.bind_some]
   rw[decide_eq_true (by omega),cond_true]
   simp only[qar,hg,MPack.enc,qbx,Nat.zero_add,qag (show i < maxLen by omega),ih (i+1) n hd' (by omega),idxF,EV0]
   cases x.Name==s<;>rfl
 refine qba (H:=[]) (qgsb (l.length+1) ?_)
 have:=loop l 0 (l.length+1+1) rfl (by omega) (l.length+1+1) (l.length+1+1)
 simpa[fbv] using this
theorem c_faa (l:List MPack)(hl:l.length≤1073741824)(s:Str):out qjx [.one (encL 4 MPack.enc l),.one (Cell.str (bs s))]=some [.one (Cell.int (idxF (fun p=>p.Name==s) l 0))]:=by
 have hM:=qah
 have hc:∀ x:MPack,qoc [.agg [Cell.str (bs x.Name),encL 1 eStr x.Uses,encL 2 MNeed.enc x.Needs,encL 2 MCmd.enc x.Cmds],.one (.ptr 0 1 0 0 0)] [Entry.mk 1 [[Cell.str (bs s)]] 0 false]=some ([.one (Cell.bool (x.Name==s))],[Entry.mk 1 [[Cell.str (bs s)]] 0 false]):=by
  intro x
  refine qjgb 0 ?_
  simp[fab,deref,entry?,cS]
 have loop:∀ (r:List MPack) (i n:Nat),l.drop i=r→r.length < n→∀ k m,qaq k m n (encL 4 MPack.enc l) (.ptr 0 1 0 0 0) l.length i [Entry.mk 1 [[Cell.str (bs s)]] 0 false]=some ([.one (Cell.int (idxF (fun p=>p.Name==s) r i))],[Entry.mk 1 [[Cell.str (bs s)]] 0 false]):=by
  intro r
  induction r with
  | nil=>
   intro i n hd hn k m
   obtain⟨n,rfl⟩:∃ j,n=j+1:=⟨n - 1,by omega⟩
   have:=drop_nil hd
   simp only[qaq]
   rw[decide_eq_false (by omega),cond_false]
   rfl
  | cons x r ih=>
   intro i n hd hn k m
   obtain⟨n,rfl⟩:∃ j,n=j+1:=⟨n - 1,by omega⟩
   obtain⟨hlt,hg,hd'⟩:=qas hd
   simp only[List.length_cons] at hn
   simp only[qaq,qar,hg,MPack.enc,hc,Nat.zero_add,EV0]
   rw[decide_eq_true (by omega),cond_true,qag (by omega),ih (i+1) n hd' (by omega)]
   simp only[idxF]
   cases x.Name==s<;>rfl
 refine qba (H:=[Entry.mk 1 [[Cell.str (bs s)]] 0 false]) (qlxb 0 ?_)
 have h:=qcq (c1:=encL 4 MPack.enc l) (q2:=.ptr 0 1 0 0 0) (H:=[Entry.mk 1 [[Cell.str (bs s)]] 0 false]) (l.length+1) (by
  simpa[qbi] using loop l 0 (l.length+1+1) rfl (by omega) (l.length+1+1) (l.length+1+1))
 simp only[faa,h,EV0]
theorem index_one (c:UInt8):∀ s:Str,Lib.index s [c]=Lib.indexByte s c
 | []=>rfl
 | b::r=>by
  unfold Lib.index Lib.indexByte
  rw[index_one c r]
  have:([c]:Str).isPrefixOf (b::r)=(b==c):=by
   simp only[List.isPrefixOf,Bool.and_true]
   rw[Bool.eq_iff_iff,beq_iff_eq,beq_iff_eq]
   exact eq_comm
  rw[this]
theorem qex (s p:Str)(hs:s.length≤1073741824):out qtv [.one (Cell.str (bs s)),.one (Cell.str (bs p))]=some [.one (Cell.int (Lib.index s p))]:=by
 refine qba (H:=[]) ?_
 show qfd _ _=_
 simp only[qfd,qhs]
 rw[if_pos (by rw[qbe];omega)]
theorem c_fdx (s:Str)(c:UInt8)(hs:s.length≤1073741824):out qtv [.one (Cell.str (bs s)),.one (Cell.str (bs [c]))]=some [.one (Cell.int (Lib.indexByte s c))]:=by
 rw[qex s [c] hs,index_one]
theorem c_fdu (s:Str)(c:UInt8):out quk [.one (Cell.str (bs s)),.one (Cell.str (bs [c]))]=some [.one (Cell.int ((s.count c:Nat):Int))]:=by
 refine qba (H:=[]) ?_
 show qdh _ _=_
 simp only[qdh,qhs]
 rfl
theorem qaqb {c:UInt8}{s:Str}(h:c∈s):s.count c=(behind c s).count c+1:=by
 induction s with
 | nil=>simp at h
 | cons b r ih=>
  by_cases e:b=c
  ·subst e
   simp[behind,List.dropWhile_cons]
  ·have hr:c∈r:=by
    rcases List.mem_cons.1 h with h | h
    ·exact absurd h.symm e
    ·exact h
   have hb:behind c (b::r)=behind c r:=by
    have:(b != c)=true:=by simpa using e
    simp[behind,List.dropWhile_cons,this]
   rw[hb,List.count_cons,ih hr]
   simp[e]
theorem qzg {c:UInt8}{s:Str}(h:c∉s):s.count c=0:=List.count_eq_zero.2 h
theorem qzy (c:UInt8):∀ (n:Nat) (s:Str),s.length≤n→(split c s).length=s.count c+1:=by
 intro n
 induction n with
 | zero=>
  intro s h
  have:s=[]:=List.eq_nil_of_length_eq_zero (by omega)
  subst this
  rfl
 | succ n ih=>
  intro s h
  by_cases hc:c∈s
  ·have hl:(behind c s).length < s.length:=by
    have:=qqb hc
    have h2:=qga c s
    rw[← h2,List.length_drop]
    omega
   rw[qpl hc,List.length_cons,ih _ (by omega),qaqb hc]
  ·rw[qjs hc,qzg hc]
   rfl
theorem r_fec (s:Str)(c:UInt8)(hs:s.length≤1073741824):qnk [.one (Cell.str (bs s)),.one (Cell.str (bs [c])),.one (Cell.int 0),.one (Cell.int (-1))] []=some ([.one (.vs 0 1 0 (s.count c+1) 0)],[Entry.mk 1 ((split c s).map eStr) 0 false]):=by
 have hM:=qah
 have hct:s.count c≤s.length:=List.count_le_length
 have hsl:=qzy c s.length s (Nat.le_refl _)
 have hput:∀ (rows:List (List Cell)) (i:Nat) (row:List Cell) (y:Str),rows[i]?=some row→row.length=1→qbt [Entry.mk 1 rows 0 false] (.ptr 0 1 i 0 0) [Cell.str (bs y)]=some [Entry.mk 1 (rows.set i (eStr y)) 0 false]:=by
  intro rows i row y h hr
  simp only[qbt,entry?,List.getElem?_cons_zero,if_true,h]
  rw[if_pos ⟨trivial,by simp,trivial⟩]
  simp[splice,eStr,hr,List.drop_eq_nil_of_le]
 have loop:∀ (d:Nat) (r:Str) (done:List Str) (n:Nat),r.count c=d→done.length+d=s.count c→r.length≤s.length→split c s=done++split c r→d < n→∀ k m,
   qli k m n (bs r) (bs [c]) 0 ((s.count c:Nat):Int) (.vs 0 1 0 (s.count c+1) 0) ((done.length:Nat):Int) [Entry.mk 1 (done.map eStr++List.replicate (d+1) [Cell.str (bs [])]) 0 false]=
    some ([.one (.vs 0 1 0 (s.count c+1) 0)],[Entry.mk 1 ((split c s).map eStr) 0 false]):=by
  intro d
  induction d with
  | zero=>
   intro r done n hc hd hr hsp hn k m
   obtain⟨n,rfl⟩:∃ j,n=j+1:=⟨n - 1,by omega⟩
   have hnc:c∉r:=List.count_eq_zero.1 hc
   simp only[qli]
   rw[decide_eq_false (by omega),cond_false]
   have hrow:(done.map eStr++List.replicate (0+1) [Cell.str (bs [])])[done.length]?=some [Cell.str (bs [])]:=by simp
   simp only[qhq 0 1 (s.count c+1) 0 done.length (by omega),Option.bind_some,hput _ _ _ r hrow rfl]
   have hset:(done.map eStr++List.replicate (0+1) [Cell.str (bs [])]).set done.length (eStr r)=(split c s).map eStr:=by
    rw[hsp,qjs hnc,List.set_append_right _ _ (by simp)]
    simp
   rw[hset,show IntKind.i64.wrap ((done.length:Int)+1)=((s.count c+1:Nat):Int) by rw[qag (by omega)];omega]
   have hsl':slcC 1 (.vs 0 1 0 (s.count c+1) 0) 0 (some ((s.count c+1:Nat):Int)) none=some (.vs 0 1 0 (s.count c+1) 0):=by
    simp only[slcC,Option.getD_some,Option.getD_none,if_true]
    rw[if_pos ⟨by omega,by omega,by omega,by omega⟩,if_pos (.inl trivial)]
    simp
   rw[hsl']
   rfl
  | succ d ih=>
   intro r done n hc hd hr hsp hn k m
   obtain⟨n,rfl⟩:∃ j,n=j+1:=⟨n - 1,by omega⟩
   have hmem:c∈r:=by
    rcases Classical.em (c∈r) with h | h
    ·exact h
    ·have:=qzg h;omega
   have hal:=qqb hmem
   have hbl:=qjr c r
   simp only[qli]
   rw[decide_eq_true (by omega),cond_true]
   have e0:Lib.indexByte r c=((ahead c r).length:Int):=by rw[qkg,if_pos hmem]
   simp only[c_fdx r c (by omega),e0,EV0]
   rw[decide_eq_false (by omega),cond_false]
   have e1:=qci r 0 (ahead c r).length (by omega) (by omega)
   simp only[Int.natCast_zero,List.drop_zero,qfo] at e1
   rw[show IntKind.i64.wrap (((ahead c r).length:Int)+0)=((ahead c r).length:Int) by rw[Int.add_zero];exact wrap_small (by omega) (by omega),e1]
   have hrow:(done.map eStr++List.replicate (d+1+1) [Cell.str (bs [])])[done.length]?=some [Cell.str (bs [])]:=by simp
   simp only[Option.bind_some,qhq 0 1 (s.count c+1) 0 done.length (by omega),hput _ _ _ (ahead c r) hrow rfl]
   have e2:=qci r ((ahead c r).length+1) r.length (by omega) (Nat.le_refl _)
   rw[List.take_length,qga] at e2
   rw[show IntKind.i64.wrap (((ahead c r).length:Int)+((0+1:Nat):Int))=(((ahead c r).length+1:Nat):Int) by rw[wrap_small (by omega) (by omega)];omega,e2,qag (by omega)]
   simp only[Option.bind_some]
   have hset:(done.map eStr++List.replicate (d+1+1) [Cell.str (bs [])]).set done.length (eStr (ahead c r))=(done++[ahead c r]).map eStr++List.replicate (d+1) [Cell.str (bs [])]:=by
    rw[List.set_append_right _ _ (by simp)]
    simp[List.replicate_succ]
   rw[hset]
   have:=ih (behind c r) (done++[ahead c r]) n (by have:=qaqb hmem;omega) (by simp;omega) (by omega) (by rw[hsp,qpl hmem];simp) (by omega) k m
   rw[show(done++[ahead c r]).length=done.length+1 by simp] at this
   exact this
 have hmin:(if IntKind.i64.wrap ((s.length:Int)+1) < IntKind.i64.wrap (((s.count c:Nat):Int)+1) then IntKind.i64.wrap ((s.length:Int)+1) else IntKind.i64.wrap (((s.count c:Nat):Int)+1))=((s.count c+1:Nat):Int):=by
  rw[qag (by omega),qag (by omega),if_neg (by omega)]
 have z:=loop (s.count c) s [] (s.count c+1+1) rfl (by simp) (Nat.le_refl _) (by simp) (by omega) (s.count c+1+1) (s.count c+1+1)
 refine qub (s.count c+1) ?_
 ·simp only[fec]
  rw[show((-1:Int)==0)=false from rfl,cond_false]
  simp only[qcm]
  rw[show(([c]:Str)==[])=false from rfl,cond_false,show decide ((-1:Int) < 0)=true from rfl,cond_true]
  simp only[c_fdu,EV0,hmin]
  rw[if_pos ⟨by omega,by omega,by unfold bound;omega,by unfold bound;omega⟩]
  rw[show IntKind.i64.wrap (((s.count c+1:Nat):Int) - 1)=((s.count c:Nat):Int) from qbu (by omega)]
  simpa[qch] using z
theorem f_fec (s:Str)(c:UInt8)(hs:s.length≤1073741824):Fresh qnk true 2 [.one (Cell.str (bs s)),.one (Cell.str (bs [c])),.one (Cell.int 0),.one (Cell.int (-1))] [.one (trL 1 qcp (split c s))]:=by
 have hg:GrowAt ([]:List Entry).length 1 (.vs 0 1 0 (s.count c+1) 0) [Entry.mk 1 ((split c s).map eStr) 0 false] ((split c s).map eStr):=.inr ⟨0,by rw[List.length_map,qzy c s.length s (Nat.le_refl _)];rfl,rfl⟩
 obtain⟨ids,r1,r2,_⟩:=hg.list
 exact Fresh.one (r_fec s c hs) r1 r2
theorem qwcc (s:Str)(c:UInt8)(hs:s.length≤1073741824):Fresh qed true 2 [.one (Cell.str (bs s)),.one (Cell.str (bs [c]))] [.one (trL 1 qcp (split c s))]:=by
 refine Fresh.tailO (f_fec s c hs) [] (qax _ _ _) fun c' E hc=>qss 0 ?_
 simp only[fdz,hc,EV0]
theorem n_le (n k:Nat):decide ((n:Int)≤(k:Int))=decide (n≤k):=by rw[decide_eq_decide];omega
theorem c_fdm (l:List Str)(hl:bdL 1048576 (bdS 1048576) l):out quu [.one (qbj l)]=some [.one (Cell.bool (l.all qcj))]:=by
 have hM:=qah
 have hxl:=hl.1
 refine qba (H:=[]) (qmlb (l.length+1) ?_)
 simp only[fdm]
 rw[qfb l (fun n i=>qxr (l.length+1+1) (l.length+1+1) n (qbj l) i) qcj (some ([.one (Cell.bool true)],[])) (some ([.one (Cell.bool false)],[])) ?_ ?_ _ (by omega)]
 ·cases l.all qcj<;>rfl
 ·intro n i x hx hlt
  have hb:x.length≤1048576:=hl.2 x (List.mem_of_getElem? hx)
  simp only[qxr,qam,qar,hx,eStr,qwwc x (by omega),EV0]
  rw[decide_eq_true (by omega),cond_true,qag (by omega)]
  cases qcj x<;>rfl
 ·intro n
  simp only[qxr,qam,EV0]
  rw[decide_eq_false (by omega),cond_false]
theorem c_fay (l:List Str)(hl:bdL 1048576 (bdS 1048576) l)(c:Nat):out qof [.one (qbj l),.one (Cell.int c)]=some [.one (Cell.bool (l.all qcj&&decide (l.length≤c)))]:=by
 have hM:=qah
 have hxl:=hl.1
 refine qba (H:=[]) (qmob (l.length+1) ?_)
 simp only[fay,qam,Option.bind_some]
 rw[qfb l (fun n i=>qwq (l.length+1+1) (l.length+1+1) n (qbj l) c (qbj l) l.length i) qcj (some ([.one (Cell.bool (decide (l.length≤c)))],[])) (some ([.one (Cell.bool false)],[])) ?_ ?_ _ (by omega)]
 ·exact qoeb _ _ _
 ·intro n i x hx hlt
  have hb:x.length≤1048576:=hl.2 x (List.mem_of_getElem? hx)
  simp only[qwq,qam,qar,hx,eStr,qvxc x (by omega),EV0]
  rw[decide_eq_true (by omega),cond_true,qag (by omega)]
  cases qcj x<;>rfl
 ·intro n
  simp only[qwq,qam,EV0]
  rw[decide_eq_false (by omega),cond_false,show decide ((l.length:Int)≤(c:Int))=decide (l.length≤c) from n_le l.length c]
theorem c_fbj (s p:Str):out qtp [.one (Cell.str (bs s)),.one (Cell.str (bs p))]=some [.one (Cell.str (bs (qucc p s))),.one (Cell.bool (p.isPrefixOf s))]:=by
 refine qba (H:=[]) (qlrb 0 ?_)
 simp only[fbj,c_fbk,EV0]
 unfold qucc
 cases h:p.isPrefixOf s with
 | true=>
  have hl:=(List.isPrefixOf_iff_prefix.1 h).length_le
  rw[Bool.not_true,cond_false,qci s _ _ hl (Nat.le_refl _),List.take_length]
  rfl
 | false=>rfl
theorem c_fdw (s p:Str):out qsv [.one (Cell.str (bs s)),.one (Cell.str (bs p))]=some [.one (Cell.str (bs (qucc p s))),.one (Cell.bool (p.isPrefixOf s))]:=by
 refine qba (H:=[]) (qhab 0 ?_)
 simp only[fdw,c_fbj,EV0]
def b16 (n:Nat):Str:=[UInt8.ofNat (n / 256),UInt8.ofNat n]
def numT (n:Nat):Str:=Lib.decDigits n
theorem qcr {u:Nat}(h:u < 10):Lib.decDigits u=[UInt8.ofNat (48+u)]:=by
 unfold Lib.decDigits
 rw[dif_pos h]
theorem qdi {u:Nat}(h:¬ u < 10):Lib.decDigits u=Lib.decDigits (u / 10)++[UInt8.ofNat (48+u % 10)]:=by
 rw[Lib.decDigits,dif_neg h]
theorem qjjb (n:Nat)(h:n≤1099511627776):(numT n).length≤21:=by
 have:=Lib.itoa_length_le (n:Int) (by omega) (by omega)
 have e:Lib.itoa (n:Int)=numT n:=by unfold Lib.itoa numT;rw[if_neg (by omega)];simp
 rwa [e] at this
def BytM (H:List Entry)(c:Cell)(b:Str):Prop:=∃ ids,Rep H true true 2 ids c (trL 1 qeob b)∧ids.Nodup
theorem BytM.nil (H:List Entry):BytM H (.lst true 1 []) []:=⟨[],.inl ⟨rfl,rfl,true,rfl⟩,by simp⟩
theorem BytM.read {H:List Entry}{c:Cell}{b:Str}(h:BytM H c b):qak false H (.one c)=some (.one (qil b)):=by
 obtain⟨ids,h,_⟩:=h
 have:=qei h (by omega)
 rwa [qbv] at this
theorem BytM.of {H E:List Entry}{c:Cell}{b:Str}{is:List Nat}{lo hi:Nat}(h:Rep (H++E) true true 2 is c (trL 1 qeob b))(w:Mine lo hi is):BytM (H++E) c b:=⟨is,h,w.nd⟩
theorem Grow.bytes {c:Cell}{H:List Entry}{b:Str}(h:Grow 1 c H (b.map qxhb)):∃ ids,Rep H true true 2 ids c (trL 1 qeob b)∧ids.Nodup:=by
 obtain⟨ids,h1,h2,_⟩:=h.rep (tr:=qeob) (fun _ _=>rfl) (fun x _ H'=>Sp.leaf1 _)
 exact⟨ids,h1,h2⟩
theorem qjub (H:List Entry)(n:Nat):bytesOf H (.lst true 1 [[.sc (.int .u8 (IntKind.u8.wrap (IntKind.i64.wrap (48+(((n:Nat):Int).tmod 10)))))]])=some (bs [UInt8.ofNat (48+n % 10)]):=by
 have e:IntKind.i64.wrap (48+((n:Int).tmod 10))=((48+n % 10:Nat):Int):=by
  rw[Int.tmod_eq_emod_of_nonneg (by omega),wrap_small (by omega) (by omega)]
  omega
 rw[e,wrap_u8]
 generalize UInt8.ofNat (48+n % 10)=v
 simp[bytesOf,rowsOf,mapO,qvnc,ofBytes,bs]
theorem c_fbx (n:Nat)(hn:n≤1099511627776):out qvd [.one (Cell.int n)]=some [.one (Cell.str (bs (numT n)))]:=by
 have loop:∀ (u:Nat) (s:Str) (q:Nat),u≤1099511627776→u+s.length < 2199023255552→u < q→∀ k m,qevb k m q u (bs s)=some ([.one (Cell.str (bs (if u < 10 then s else Lib.decDigits (u / 10)++s)))],[]):=by
  intro u
  induction u using Nat.strongRecOn with
  | _ u ih=>
   intro s q hu hs hq k m
   obtain⟨q,rfl⟩:∃ j,q=j+1:=⟨q - 1,by omega⟩
   simp only[qevb]
   by_cases h:u < 10
   ·rw[decide_eq_false (by omega),cond_false,if_pos h]
   ·have e:IntKind.i64.wrap ((u:Int).tdiv 10)=((u / 10:Nat):Int):=by
     rw[Int.tdiv_eq_ediv_of_nonneg (by omega),wrap_small (by omega) (by omega)]
     omega
    rw[decide_eq_true (by omega),cond_true,if_neg h,e,qjub]
    simp only[Option.bind_some]
    rw[qcn (by simp;omega)]
    simp only[Option.bind_some]
    rw[ih (u / 10) (by omega) _ q (by omega) (by simp;omega) (by omega)]
    by_cases h2:u / 10 < 10
    ·rw[if_pos h2,qcr h2,Nat.mod_eq_of_lt h2]
    ·rw[if_neg h2,qdi h2]
     simp
 refine qba (H:=[]) (qhgb n ?_)
 simp only[fbx]
 rw[decide_eq_false (by omega),cond_false,qjub]
 simp only[Option.bind_some]
 rw[loop n _ (n+1) hn (by simp;omega) (by omega)]
 unfold numT
 by_cases h:n < 10
 ·rw[if_pos h,qcr h,Nat.mod_eq_of_lt h]
 ·rw[if_neg h,qdi h]
theorem qvuc (n:Nat)(hn:n≤1099511627776):out qie [.one (Cell.int n)]=some [.one (Cell.str (bs (numT n)))]:=by
 have e:out qyo [.one (Cell.int n)]=some [.one (Cell.str (bs (numT n)))]:=by
  refine qba (H:=[]) ?_
  show qlk _ _=_
  simp only[qlk]
  rw[if_pos ⟨by omega,by omega⟩]
  have:Lib.itoa (n:Int)=numT n:=by unfold Lib.itoa numT;rw[if_neg (by omega)];simp
  rw[this]
  rfl
 refine qba (H:=[]) (qlgb 0 ?_)
 simp only[fad]
 rw[if_neg (by omega)]
 simp only[e,EV0]
theorem Grow.at {sz:Nat}{c:Cell}{H:List Entry}{rows:List (List Cell)}{i:Nat}{row:List Cell}(h:Grow sz c H rows)(hr:rows[i]?=some row):∃ a,idxA sz c (i:Int)=some a∧deref H a=some (row,0):=by
 have hlt:=(List.getElem?_eq_some_iff.1 hr).1
 rcases h with⟨rfl,_,_⟩ | ⟨ep,rfl,rfl⟩
 ·simp at hr
 ·exact⟨.ptr 0 sz i 0 ep,qhq _ _ _ _ _ hlt,by simp[deref,entry?,hr]⟩
theorem Grow.len {sz:Nat}{c:Cell}{H:List Entry}{rows:List (List Cell)}(h:Grow sz c H rows):lenC c=some rows.length:=by
 rcases h with⟨rfl,rfl,_⟩ | ⟨ep,rfl,rfl⟩<;>rfl
def digits:Str→Nat→Nat | [],n=>n | b::r,n=>digits r (n*10+(b.toNat - 48))
def qaj (s:Str)(most:Nat):Option Nat:=if s.all qau=true∧1≤s.length∧s.length≤7∧(s.length=1∨s.head?≠some 48)∧digits s 0≤most then some (digits s 0) else none
theorem qfh {b:UInt8}(h:qau b=true):48≤b.toNat∧b.toNat≤57:=by
 unfold qau inR at h
 simp only[Bool.and_eq_true,decide_eq_true_eq] at h
 omega
theorem qic:∀ (s t:Str) (n:Nat),digits (s++t) n=digits t (digits s n):=by
 intro s
 induction s with
 | nil=>intro t n;rfl
 | cons b r ih=>intro t n;exact ih t _
theorem qpq:∀ (s:Str) (n N:Nat),(∀ b∈s,qau b=true)→n < 10 ^ N→digits s n < 10 ^ (N+s.length):=by
 intro s
 induction s with
 | nil=>intro n N _ h;exact h
 | cons b r ih=>
  intro n N h hn
  have h2:=qfh (h b List.mem_cons_self)
  have h1:=ih (n*10+(b.toNat - 48)) (N+1) (fun x hx=>h x (List.mem_cons_of_mem _ hx)) (by rw[Nat.pow_succ];omega)
  simp only[digits,List.length_cons]
  rw[show N+(r.length+1)=N+1+r.length by omega]
  exact h1
theorem qcvb {n:Nat}(h:n < 10):qau (UInt8.ofNat (48+n))=true:=by
 unfold qau inR
 simp only[Bool.and_eq_true,decide_eq_true_eq,UInt8.toNat_ofNat']
 omega
theorem qly:∀ n:Nat,(numT n).all qau=true∧1≤(numT n).length∧((numT n).length=1∨(numT n).head?≠some 48)∧digits (numT n) 0=n∧(0 < n→(numT n).head?≠some 48):=by
 intro n
 induction n using Nat.strongRecOn with
 | _ n ih=>
  unfold numT at ih ⊢
  by_cases h:n < 10
  ·rw[qcr h]
   refine⟨by rw[List.all_cons,qcvb h,List.all_nil];rfl,by simp,.inl rfl,?_,?_⟩
   ·simp only[digits,UInt8.toNat_ofNat']
    omega
   ·intro h0 e
    simp only[List.head?_cons,Option.some.injEq] at e
    have:=congrArg UInt8.toNat e
    simp only[UInt8.toNat_ofNat'] at this
    have h48:(48:UInt8).toNat=48:=rfl
    omega
  ·rw[qdi h]
   obtain⟨i1,i2,i3,i4,i5⟩:=ih (n / 10) (by omega)
   have hh:(Lib.decDigits (n / 10)++[UInt8.ofNat (48+n % 10)]).head?=(Lib.decDigits (n / 10)).head?:=by
    cases hd:Lib.decDigits (n / 10) with
    | nil=>rw[hd] at i2;simp at i2
    | cons x r=>rfl
   have i6:=i5 (by omega)
   refine⟨?_,by simp,.inr ?_,?_,fun _=>?_⟩
   ·rw[List.all_append,i1]
    rw[List.all_cons,qcvb (show n % 10 < 10 by omega),List.all_nil]
    rfl
   ·rw[hh];exact i6
   ·rw[qic,i4]
    simp only[digits,UInt8.toNat_ofNat']
    omega
   ·rw[hh];exact i6
theorem qom:∀ (k:Nat) (s:Str),s.length=k→(∀ b∈s,qau b=true)→1≤s.length→(s.length=1∨s.head?≠some 48)→numT (digits s 0)=s:=by
 intro k
 induction k with
 | zero=>intro s h1 _ h2 _;omega
 | succ k ih=>
  intro s h1 h2 h3 h4
  have hne:s≠[]:=by intro h;subst h;simp at h3
  obtain⟨t,d,rfl⟩:∃ t d,s=t++[d]:=⟨s.dropLast,s.getLast hne,(List.dropLast_concat_getLast hne).symm⟩
  have hd:=qfh (h2 d (by simp))
  simp only[List.length_append,List.length_cons,List.length_nil] at h1 h4
  have hdd:UInt8.ofNat (48+(d.toNat - 48))=d:=by
   apply UInt8.toNat_inj.1
   simp only[UInt8.toNat_ofNat']
   have:=d.toNat_lt
   omega
  by_cases ht:t=[]
  ·subst ht
   simp only[List.nil_append,digits]
   unfold numT
   rw[qcr (by omega),show 0*10+(d.toNat - 48)=d.toNat - 48 by omega,hdd]
  ·have htl:=List.length_pos_iff.2 ht
   have hhead:t.head?≠some 48:=by
    rcases h4 with h4 | h4
    ·omega
    ·cases t with
     | nil=>exact absurd rfl ht
     | cons x r=>exact h4
   have i1:=ih t (by omega) (fun b hb=>h2 b (List.mem_append_left _ hb)) htl (.inr hhead)
   have hpos:1≤digits t 0:=by
    rcases Nat.eq_zero_or_pos (digits t 0) with h | h
    ·rw[h] at i1
     have:numT 0=[48]:=by unfold numT;rw[qcr (by omega)];rfl
     rw[this] at i1
     rw[← i1] at hhead
     exact absurd rfl hhead
    ·exact h
   rw[qic]
   simp only[digits]
   unfold numT at i1 ⊢
   rw[qdi (by omega),show(digits t 0*10+(d.toNat - 48)) / 10=digits t 0 by omega,i1,show(digits t 0*10+(d.toNat - 48)) % 10=d.toNat - 48 by omega,hdd]
theorem qud {k most:Nat}(h:k≤most)(hm:k < 10000000):qaj (numT k) most=some k:=by
 obtain⟨h1,h2,h3,h4,h5⟩:=qly k
 have h6:(numT k).length≤7:=by
  have:=List.all_eq_true.1 h1
  rcases Nat.lt_or_ge 7 (numT k).length with h7 | h7
  ·exfalso
   have hx:k≥10000000:=by
    have key:∀ n:Nat,n < 10000000→(numT n).length≤7:=by
     intro n hn
     unfold numT
     have s1:∀ u:Nat,u < 10→(Lib.decDigits u).length=1:=fun u hu=>by rw[qcr hu];rfl
     have st:∀ (c u:Nat),(∀ v:Nat,v < 10 ^ c→(Lib.decDigits v).length≤c)→1≤c→u < 10 ^ (c+1)→(Lib.decDigits u).length≤c+1:=by
      intro c u hc h1c hu
      by_cases h:u < 10
      ·rw[s1 u h];omega
      ·rw[qdi h,List.length_append]
       have:=hc (u / 10) (by rw[Nat.pow_succ] at hu;omega)
       simp
       omega
     have t1:∀ v:Nat,v < 10 ^ 1→(Lib.decDigits v).length≤1:=fun v hv=>by rw[s1 v (by simpa using hv)];exact Nat.le_refl _
     have t2:=fun v hv=>st 1 v t1 (by omega) hv
     have t3:=fun v hv=>st 2 v t2 (by omega) hv
     have t4:=fun v hv=>st 3 v t3 (by omega) hv
     have t5:=fun v hv=>st 4 v t4 (by omega) hv
     have t6:=fun v hv=>st 5 v t5 (by omega) hv
     exact st 6 n t6 (by omega) (by simpa using hn)
    rcases Nat.lt_or_ge k 10000000 with h8 | h8
    ·have:=key k h8;omega
    ·exact h8
   omega
  ·exact h7
 unfold qaj
 rw[if_pos ⟨h1,h2,h6,h3,by rw[h4];exact h⟩,h4]
theorem qbr {s:Str}{k most:Nat}(h:qaj s most=some k):s=numT k∧k≤most∧s.length≤7:=by
 unfold qaj at h
 split at h
 ·rename_i hc
  obtain⟨h1,h2,h3,h4,h5⟩:=hc
  simp only[Option.some.injEq] at h
  subst h
  exact⟨(qom _ s rfl (List.all_eq_true.1 h1) h2 h4).symm,h5,h3⟩
 ·simp at h
def numV (o:Option Nat):List AV:=match o with
 | some k=>[.one (Cell.int (k:Int)),.one (Cell.bool true)]
 | none=>[.one (Cell.int 0),.one (Cell.bool false)]
theorem qybb {x:UInt8}(h:qau x=true):IntKind.i64.wrap (IntKind.u8.wrap ((x.toNat:Int) - 48))=((x.toNat - 48:Nat):Int):=by
 have h1:=qfh h
 have e:((x.toNat:Int) - 48)=((x.toNat - 48:Nat):Int):=by omega
 rw[e,wrap_u8]
 have:(UInt8.ofNat (x.toNat - 48)).toNat=x.toNat - 48:=by simp only[UInt8.toNat_ofNat'];omega
 rw[this]
 exact wrap_small (by omega) (by omega)
theorem c_fca (s:Str)(most:Nat)(hs:s.length≤1073741824)(hm:most≤1073741824):out qcg [.one (Cell.str (bs s)),.one (Cell.int most)]=some (numV (qaj s most)):=by
 have hM:=qah
 have fin:∀ (v:Nat),s.length≤7→s.all qau=true→v=digits s 0→((qaw qbp [.one (Cell.int (s.length:Int)),.one (Cell.int 1),.one (Cell.int 7)] []).bind fun r14=>
  cond (qab qgq r14)
  ((cB (qaa r14 0) 0).bind fun b15=>
  cond (!b15)
  (some ([AV.one (Cell.int 0),AV.one (Cell.bool false)],[]))
  (cond (decide ((s.length:Int) > 1))
  ((bytS (bs s) 0).bind fun i16=>
  cond (i16==48)
  (some ([AV.one (Cell.int 0),AV.one (Cell.bool false)],[]))
  (cond (decide ((v:Int) > (most:Int)))
  (some ([AV.one (Cell.int 0),AV.one (Cell.bool false)],[]))
  (some ([AV.one (Cell.int (v:Int)),AV.one (Cell.bool true)],([]:List Entry)))))
  (cond (decide ((v:Int) > (most:Int)))
  (some ([AV.one (Cell.int 0),AV.one (Cell.bool false)],[]))
  (some ([AV.one (Cell.int (v:Int)),AV.one (Cell.bool true)],[])))))
  none)=some (numV (qaj s most),[]):=by
  intro v h7 ha hv
  simp only[qgpb,EV0]
  unfold qaj
  cases s with
  | nil=>rfl
  | cons x r=>
   rw[show inR (((x::r:Str).length:Nat):Int) 1 7=true by
    unfold inR
    rw[decide_eq_true (by simp only[List.length_cons];omega),decide_eq_true (by omega)]
    rfl,Bool.not_true,cond_false]
   by_cases h1:r=[]
   ·subst h1
    rw[decide_eq_false (by simp),cond_false]
    by_cases hm:v≤most
    ·rw[decide_eq_false (by omega),cond_false,if_pos ⟨ha,by simp,by simp,.inl rfl,by omega⟩,hv]
     rfl
    ·rw[decide_eq_true (by omega),cond_true,if_neg fun h=>hm (by omega)]
     rfl
   ·have hr:=List.length_pos_iff.2 h1
    rw[decide_eq_true (by simp;omega),cond_true,qcwb]
    simp only[Option.bind_some]
    rw[show((x.toNat:Int)==48)=(x==48) from qkoc x 48 (by omega)]
    cases hx:x==48 with
    | true=>
     have:x=48:=by simpa using hx
     rw[cond_true,if_neg]
     ·rfl
     ·rintro ⟨_,_,_,h,_⟩
      rcases h with h | h
      ·simp only[List.length_cons] at h;omega
      ·rw[this] at h;exact h rfl
    | false=>
     have:x≠48:=by simpa using hx
     rw[cond_false]
     by_cases hm:v≤most
     ·rw[decide_eq_false (by omega),cond_false,if_pos ⟨ha,by simp,h7,.inr (by simpa using this),by omega⟩,hv]
      rfl
     ·rw[decide_eq_true (by omega),cond_true,if_neg fun h=>hm (by omega)]
      rfl
 have loop:∀ (r:Str) (i n a:Nat),s.drop i=r→i≤8→r.length < n→(s.take i).all qau=true→a=digits (s.take i) 0→∀ k m,qya k m n (bs s) most a i=some (numV (qaj s most),[]):=by
  intro r
  induction r with
  | nil=>
   intro i n a hd hi hn ht ha k m
   obtain⟨n,rfl⟩:∃ j,n=j+1:=⟨n - 1,by omega⟩
   have h1:=drop_nil hd
   rw[List.take_of_length_le h1] at ht ha
   simp only[qya,qbe]
   rw[decide_eq_false (by omega),cond_false]
   by_cases h7:s.length≤7
   ·exact fin a h7 ht ha
   ·simp only[qgpb,EV0]
    rw[show inR (s.length:Int) 1 7=false by
     unfold inR
     rw[decide_eq_false (p:=(s.length:Int)≤7) (by omega),Bool.and_false]]
    unfold qaj
    rw[if_neg fun h=>h7 h.2.2.1]
    rfl
  | cons x r ih=>
   intro i n a hd hi hn ht ha k m
   obtain⟨n,rfl⟩:∃ j,n=j+1:=⟨n - 1,by omega⟩
   obtain⟨hlt,hx,hd'⟩:=qas hd
   simp only[List.length_cons] at hn
   simp only[qya,qbe]
   rw[decide_eq_true (by omega),cond_true]
   by_cases h8:i < 8
   ·rw[decide_eq_true (by omega),cond_true]
    simp only[qcc,hx,Option.map_some,qvtc,EV0]
    cases hf:qau x with
    | false=>
     simp only[Bool.not_false,cond_true]
     unfold qaj
     rw[if_neg]
     ·rfl
     ·rintro ⟨h,_⟩
      have:=List.all_eq_true.1 h x (List.mem_of_getElem? hx)
      rw[hf] at this
      simp at this
    | true=>
     have hsn:s.take (i+1)=s.take i++[x]:=by rw[List.take_add_one,hx];rfl
     have hal:a < 10 ^ 8:=by
      rw[ha]
      refine Nat.lt_of_lt_of_le (qpq (s.take i) 0 0 (List.all_eq_true.1 ht) (by simp)) ?_
      rw[Nat.zero_add]
      refine Nat.pow_le_pow_right (by omega) ?_
      rw[List.length_take]
      omega
     have hf2:=qfh hf
     simp only[Bool.not_true,cond_false]
     rw[qybb hf,wrap_small (n:=(a:Int)*10) (by omega) (by omega),wrap_small (by omega) (by omega),qag (by omega),show(a:Int)*10+((x.toNat - 48:Nat):Int)=((a*10+(x.toNat - 48):Nat):Int) by omega]
     refine ih (i+1) n _ hd' (by omega) (by omega) ?_ ?_ k m
     ·rw[hsn,List.all_append,ht,List.all_cons,hf,List.all_nil]
      rfl
     ·rw[hsn,qic,← ha]
      rfl
   ·rw[decide_eq_false (by omega),cond_false]
    simp only[qgpb,EV0]
    rw[show inR (s.length:Int) 1 7=false by
     unfold inR
     rw[decide_eq_false (p:=(s.length:Int)≤7) (by omega),Bool.and_false]]
    unfold qaj
    rw[if_neg fun h=>by have:=h.2.2.1;omega]
    rfl
 refine qba (H:=[]) (qjxb (s.length+1) ?_)
 have:=loop s 0 (s.length+1+1) 0 rfl (by omega) (by omega) (by simp) (by simp[digits]) (s.length+1+1) (s.length+1+1)
 simpa[fca] using this
theorem c_fag (s:Str)(most:Nat)(hs:s.length≤1073741824)(hm:most≤1073741824):out qht [.one (Cell.str (bs s)),.one (Cell.int most)]=some (numV (qaj s most)):=by
 have hM:=qah
 by_cases h17:1≤s.length∧s.length≤7
 ·obtain⟨h1,h7⟩:=h17
  have loop:∀ (r:Str) (i n a:Nat),s.drop i=r→r.length < n→(s.take i).all qau=true→a=digits (s.take i) 0→∀ k m,qxo k m n (bs s) most a i=some (numV (qaj s most),[]):=by
   intro r
   induction r with
   | nil=>
    intro i n a hd hn ht ha k m
    obtain⟨n,rfl⟩:∃ j,n=j+1:=⟨n - 1,by omega⟩
    have h2:=drop_nil hd
    rw[List.take_of_length_le h2] at ht ha
    have hal:a < 10 ^ 7:=by
     rw[ha]
     refine Nat.lt_of_lt_of_le (qpq s 0 0 (List.all_eq_true.1 ht) (by simp)) ?_
     rw[Nat.zero_add]
     exact Nat.pow_le_pow_right (by omega) h7
    simp only[qxo,qbe]
    rw[decide_eq_false (by omega),cond_false]
    simp only[qvuc a (by omega),EV0]
    by_cases hc:s.length=1∨s.head?≠some 48
    ·have e:=qom _ s rfl (List.all_eq_true.1 ht) h1 hc
     rw[ha,e,show(s==s)=true by simp,Bool.not_true,cond_false]
     unfold qaj
     by_cases hm:digits s 0≤most
     ·rw[decide_eq_false (by omega),cond_false,if_pos ⟨ht,h1,h7,hc,hm⟩]
      rfl
     ·rw[decide_eq_true (by omega),cond_true,if_neg fun h=>hm h.2.2.2.2]
      rfl
    ·have hne:(numT a==s)=false:=by
      rw[beq_eq_false_iff_ne]
      intro e
      have:=(qly a).2.2.1
      rw[e] at this
      exact hc this
     rw[hne,Bool.not_false,cond_true]
     unfold qaj
     rw[if_neg fun h=>hc h.2.2.2.1]
     rfl
   | cons x r ih=>
    intro i n a hd hn ht ha k m
    obtain⟨n,rfl⟩:∃ j,n=j+1:=⟨n - 1,by omega⟩
    obtain⟨hlt,hx,hd'⟩:=qas hd
    simp only[List.length_cons] at hn
    simp only[qxo,qbe]
    rw[decide_eq_true (by omega),cond_true]
    simp only[qcc,hx,Option.map_some,qvqc,EV0]
    cases hf:qau x with
    | false=>
     simp only[Bool.not_false,cond_true]
     unfold qaj
     rw[if_neg]
     ·rfl
     ·rintro ⟨h,_⟩
      have:=List.all_eq_true.1 h x (List.mem_of_getElem? hx)
      rw[hf] at this
      simp at this
    | true=>
     have hsn:s.take (i+1)=s.take i++[x]:=by rw[List.take_add_one,hx];rfl
     have hal:a < 10 ^ 8:=by
      rw[ha]
      refine Nat.lt_of_lt_of_le (qpq (s.take i) 0 0 (List.all_eq_true.1 ht) (by simp)) ?_
      rw[Nat.zero_add]
      refine Nat.pow_le_pow_right (by omega) ?_
      rw[List.length_take]
      omega
     have hf2:=qfh hf
     simp only[Bool.not_true,cond_false]
     rw[qybb hf,wrap_small (n:=(a:Int)*10) (by omega) (by omega),wrap_small (by omega) (by omega),qag (by omega),show(a:Int)*10+((x.toNat - 48:Nat):Int)=((a*10+(x.toNat - 48):Nat):Int) by omega]
     refine ih (i+1) n _ hd' (by omega) ?_ ?_ k m
     ·rw[hsn,List.all_append,ht,List.all_cons,hf,List.all_nil]
      rfl
     ·rw[hsn,qic,← ha]
      rfl
  refine qba (H:=[]) (qrm (s.length+1) ?_)
  have z:=loop s 0 (s.length+1+1) 0 rfl (by omega) (by simp) (by simp[digits]) (s.length+1+1) (s.length+1+1)
  simp only[fag,qbe,qkmc,EV0]
  rw[show inR (s.length:Int) 1 7=true by
   unfold inR
   rw[decide_eq_true (by omega),decide_eq_true (by omega)]
   rfl,Bool.not_true,cond_false]
  exact z
 ·refine qba (H:=[]) (qrm 0 ?_)
  simp only[fag,qbe,qkmc,EV0]
  rw[show inR (s.length:Int) 1 7=false by
   unfold inR
   rcases Nat.lt_or_ge s.length 1 with h | h
   ·rw[decide_eq_false (by omega),Bool.false_and]
   ·rw[decide_eq_false (p:=(s.length:Int)≤7) (by omega),Bool.and_false]]
  unfold qaj
  rw[if_neg fun h=>h17 ⟨h.2.1,h.2.2.1⟩]
  rfl
def figV:Nat→Str→Bool | 0,_=>true | _,s=>!(s==[])
def qnec (b:UInt8):Bool:=qau b||qgl b||inR b.toNat 65 90||b==45
def qmd (s:Str):Bool:=s.all qnec&&(inR s.length 1 8&&(!s.all qau||s.length==1||s.head? != some 48))
def qet (a b c:Int)(pre:List Str):Bool:=pre.all qmd&&(inR a 0 9999&&(inR b 0 9999&&(inR c 0 9999&&decide (pre.length≤3))))
def qeh (a b c:Int)(pre:List Str):Str:=if qet a b c pre then numT a.toNat++[46]++numT b.toNat++[46]++numT c.toNat++(if pre.length=0 then [] else 45::Lib.join pre [46]) else []
theorem qjqb {s:Str}(h:qmd s=true):1≤s.length∧s.length≤8:=by
 simp only[qmd,Bool.and_eq_true,inR,decide_eq_true_eq] at h
 omega
theorem qnh {a b c:Int}{pre:List Str}(h:qet a b c pre=true):(0≤a∧a≤9999)∧(0≤b∧b≤9999)∧(0≤c∧c≤9999)∧pre.length≤3∧∀ x∈pre,x.length≤8:=by
 simp only[qet,Bool.and_eq_true,inR,decide_eq_true_eq,List.all_eq_true] at h
 exact⟨h.2.1,h.2.2.1,h.2.2.2.1,h.2.2.2.2,fun x hx=>(qjqb (h.1 x hx)).2⟩
theorem qor {sep:Str}(hs:sep.length≤1):∀ r:List Str,(∀ x∈r,x.length≤8)→(Lib.joinTail sep r).length≤9*r.length
 | [],_=>by simp[Lib.joinTail]
 | x::r,h=>by
  have ih:=qor hs r fun y hy=>h y (List.mem_cons_of_mem _ hy)
  have hx:=h x (List.mem_cons_self ..)
  simp only[Lib.joinTail,List.map_cons,List.flatten_cons,List.length_append,List.length_cons] at ih ⊢
  omega
theorem qyab {sep:Str}(hs:sep.length≤1)(r:List Str)(h:∀ x∈r,x.length≤8):(Lib.join r sep).length≤9*r.length:=by
 cases r with
 | nil=>simp[Lib.join_nil]
 | cons x r=>
  rw[Lib.join_cons,List.length_append]
  have:=qor hs r fun y hy=>h y (List.mem_cons_of_mem _ hy)
  have hx:=h x (List.mem_cons_self ..)
  simp only[List.length_cons]
  omega
theorem c_fcr (s:Str)(hs:s.length≤1073741824):out qrd [.one (Cell.str (bs s))]=some [.one (Cell.bool (s.all qau&&figV 0 s))]:=by
 have hM:=qah
 have loop:∀ (r:Str) (i n:Nat),s.drop i=r→r.length < n→∀ k m,qwv k m n (bs s) i=some ([.one (Cell.bool (r.all qau&&figV 0 s))],[]):=by
  intro r
  induction r with
  | nil=>
   intro i n hd hn k m
   obtain⟨n,rfl⟩:∃ j,n=j+1:=⟨n - 1,by omega⟩
   have:=drop_nil hd
   simp only[qwv,qbe,qcm]
   rw[decide_eq_false (by omega),cond_false]
   simp[figV]
  | cons b r ih=>
   intro i n hd hn k m
   obtain⟨n,rfl⟩:∃ j,n=j+1:=⟨n - 1,by omega⟩
   obtain⟨hlt,hg,hd'⟩:=qas hd
   simp only[List.length_cons] at hn
   simp only[qwv,qcc,hg,qvtc,EV0]
   rw[decide_eq_true (by omega),cond_true,qag (by omega),ih (i+1) n hd' (by omega)]
   simp only[List.all_cons]
   cases qau b<;>rfl
 refine qba (H:=[]) (qjmb (s.length+1) ?_)
 have:=loop s 0 (s.length+1+1) rfl (by omega) (s.length+1+1) (s.length+1+1)
 simpa[fcr] using this
theorem c_fau (s:Str)(hs:s.length≤1073741824):out qsn [.one (Cell.str (bs s))]=some [.one (Cell.bool (s.all qau&&figV 1 s))]:=by
 have hM:=qah
 have loop:∀ (r:Str) (i n:Nat),s.drop i=r→r.length < n→∀ k m,qxi k m n (bs s) i=some ([.one (Cell.bool (r.all qau&&figV 1 s))],[]):=by
  intro r
  induction r with
  | nil=>
   intro i n hd hn k m
   obtain⟨n,rfl⟩:∃ j,n=j+1:=⟨n - 1,by omega⟩
   have:=drop_nil hd
   simp only[qxi,qbe,qcm]
   rw[decide_eq_false (by omega),cond_false]
   simp[figV]
  | cons b r ih=>
   intro i n hd hn k m
   obtain⟨n,rfl⟩:∃ j,n=j+1:=⟨n - 1,by omega⟩
   obtain⟨hlt,hg,hd'⟩:=qas hd
   simp only[List.length_cons] at hn
   simp only[qxi,qcc,hg,qvqc,EV0]
   rw[decide_eq_true (by omega),cond_true,qag (by omega),ih (i+1) n hd' (by omega)]
   simp only[List.all_cons]
   cases qau b<;>rfl
 refine qba (H:=[]) (qjpb (s.length+1) ?_)
 have:=loop s 0 (s.length+1+1) rfl (by omega) (s.length+1+1) (s.length+1+1)
 simpa[fau] using this
theorem c_fcs (s:Str)(hs:s.length≤1073741824):out qrr [.one (Cell.str (bs s))]=some [.one (Cell.bool (qmd s))]:=by
 have hM:=qah
 have loop:∀ (r:Str) (i n:Nat),s.drop i=r→r.length < n→∀ k m,qnr k m n (bs s) i=some ([.one (Cell.bool (r.all qnec&&(inR s.length 1 8&&(!s.all qau||s.length==1||s.head? != some 48))))],[]):=by
  intro r
  induction r with
  | nil=>
   intro i n hd hn k m
   obtain⟨n,rfl⟩:∃ j,n=j+1:=⟨n - 1,by omega⟩
   have:=drop_nil hd
   simp only[qnr,qbe]
   rw[decide_eq_false (by omega),cond_false]
   simp only[qgpb,c_fcr s hs,figV,EV0,List.all_nil]
   cases hr:inR (s.length:Int) 1 8 with
   | false=>rfl
   | true=>
    simp only[cond_true,Bool.true_and]
    cases hf:s.all qau with
    | false=>rfl
    | true=>
     simp only[Bool.not_true,cond_false,Bool.false_or]
     cases s with
     | nil=>simp[inR] at hr
     | cons x s=>
      have h0:bytS (bs (x::s)) 0=some (x.toNat:Int):=by
       have:=qcc (x::s) 0
       simpa using this
      have h48:((x.toNat:Int) != 48)=(x != 48):=qdbc x 48 (by omega)
      have hl:(((x::s).length:Int)==1)=((x::s).length==1):=by rw[Bool.eq_iff_iff];simp only[beq_iff_eq];omega
      have hh:((x::s).head? != some 48)=(x != 48):=by simp[bne]
      simp only[h0,h48,hl,hh,Option.bind_some]
      cases ((x::s).length==1)<;>simp
  | cons b r ih=>
   intro i n hd hn k m
   obtain⟨n,rfl⟩:∃ j,n=j+1:=⟨n - 1,by omega⟩
   obtain⟨hlt,hg,hd'⟩:=qas hd
   simp only[List.length_cons] at hn
   have hb:=qrdc b
   have h45:((b.toNat:Int) != 45)=!(b==45):=qdbc b 45 (by omega)
   simp only[qnr,qcc,hg,qvtc,c_fco,qgpb,wrap_small (n:=(b.toNat:Int)) (by omega) (by omega),h45,EV0]
   rw[decide_eq_true (by omega),cond_true,qag (by omega),ih (i+1) n hd' (by omega)]
   simp only[List.all_cons,qnec]
   cases qau b<;>cases qgl b<;>cases (inR (b.toNat:Int) 65 90)<;>cases (b==45)<;>rfl
 refine qba (H:=[]) (qkob (s.length+1) ?_)
 have:=loop s 0 (s.length+1+1) rfl (by omega) (s.length+1+1) (s.length+1+1)
 simpa[fcs,qmd] using this
theorem c_fbd (s:Str)(hs:s.length≤1073741824):out qqu [.one (Cell.str (bs s))]=some [.one (Cell.bool (qmd s))]:=by
 have hM:=qah
 have loop:∀ (r:Str) (i n:Nat),s.drop i=r→r.length < n→∀ k m,qjh k m n (bs s) i=some ([.one (Cell.bool (r.all qnec&&(inR s.length 1 8&&(!s.all qau||s.length==1||s.head? != some 48))))],[]):=by
  intro r
  induction r with
  | nil=>
   intro i n hd hn k m
   obtain⟨n,rfl⟩:∃ j,n=j+1:=⟨n - 1,by omega⟩
   have:=drop_nil hd
   simp only[qjh,qbe]
   rw[decide_eq_false (by omega),cond_false]
   simp only[qkmc,c_fau s hs,figV,EV0,List.all_nil]
   cases hr:inR (s.length:Int) 1 8 with
   | false=>rfl
   | true=>
    simp only[cond_true,Bool.true_and]
    cases s with
    | nil=>simp[inR] at hr
    | cons x s=>
     cases hf:(x::s).all qau with
     | false=>rfl
     | true=>
      have h0:bytS (bs (x::s)) 0=some (x.toNat:Int):=by
       have:=qcc (x::s) 0
       simpa using this
      have h48:((x.toNat:Int) != 48)=(x != 48):=qdbc x 48 (by omega)
      have hh:((x::s).head? != some 48)=(x != 48):=by simp[bne]
      simp only[h0,h48,hh,Option.bind_some]
      by_cases hx:x=48
      ·subst hx
       cases s<;>simp
      ·have e1:((x::s)==[48])=false:=by simp[hx]
       have e2:(x != 48)=true:=by simp[hx]
       rw[e1,e2]
       simp
  | cons b r ih=>
   intro i n hd hn k m
   obtain⟨n,rfl⟩:∃ j,n=j+1:=⟨n - 1,by omega⟩
   obtain⟨hlt,hg,hd'⟩:=qas hd
   simp only[List.length_cons] at hn
   have hb:=qrdc b
   have h45:((b.toNat:Int) != 45)=!(b==45):=qdbc b 45 (by omega)
   simp only[qjh,qcc,hg,qvqc,c_faw,h45,EV0]
   rw[decide_eq_true (by omega),cond_true,qag (by omega),ih (i+1) n hd' (by omega)]
   have hr:inR (b.toNat:Int) 65 90=(decide ((b.toNat:Int)≥65)&&decide ((b.toNat:Int)≤90)):=rfl
   simp only[List.all_cons,qnec,hr]
   cases qau b<;>cases qgl b<;>cases (decide ((b.toNat:Int)≥65))<;>cases (decide ((b.toNat:Int)≤90))<;>cases (b==45)<;>rfl
 refine qba (H:=[]) (qhnb (s.length+1) ?_)
 have:=loop s 0 (s.length+1+1) rfl (by omega) (s.length+1+1) (s.length+1+1)
 simpa[fbd,qmd] using this
theorem c_fcf (a b c:Int)(pre:List Str)(hp:bdL 1048576 (bdS 1048576) pre):out qey [.agg [Cell.int a,Cell.int b,Cell.int c,encL 1 eStr pre]]=some [.one (Cell.bool (qet a b c pre))]:=by
 have hM:=qah
 have hl:=hp.1
 have loop:∀ (r:List Str) (i n:Nat),pre.drop i=r→r.length < n→∀ k m,qwc k m n i a b c (encL 1 eStr pre)=some ([.one (Cell.bool (r.all qmd&&(inR a 0 9999&&(inR b 0 9999&&(inR c 0 9999&&decide (pre.length≤3))))))],[]):=by
  intro r
  induction r with
  | nil=>
   intro i n hd hn k m
   obtain⟨n,rfl⟩:∃ j,n=j+1:=⟨n - 1,by omega⟩
   have:=drop_nil hd
   simp only[qwc,EV0]
   rw[decide_eq_false (by omega),cond_false]
   have h3:decide ((pre.length:Int)≤3)=decide (pre.length≤3):=by rw[Bool.eq_iff_iff];simp;omega
   simp only[qgpb,h3,EV0,List.all_nil]
   cases inR a 0 9999<;>cases inR b 0 9999<;>cases inR c 0 9999<;>rfl
  | cons x r ih=>
   intro i n hd hn k m
   obtain⟨n,rfl⟩:∃ j,n=j+1:=⟨n - 1,by omega⟩
   obtain⟨hlt,hg,hd'⟩:=qas hd
   simp only[List.length_cons] at hn
   have hx:x.length≤1073741824:=Nat.le_trans (hp.2 x (List.mem_of_getElem? hg)) (by omega)
   simp only[qwc,EV0]
   rw[decide_eq_true (by omega),cond_true]
   simp only[qar,hg,eStr,c_fcs x hx,qag (show i < maxLen by omega),ih (i+1) n hd' (by omega),EV0,List.all_cons]
   cases qmd x<;>rfl
 refine qba (H:=[]) (qhmb (pre.length+1) ?_)
 exact loop pre 0 (pre.length+1+1) rfl (by omega) (pre.length+1+1) (pre.length+1+1)
theorem c_fak (a b c:Int)(pre:List Str)(hp:bdL 1048576 (bdS 1048576) pre):out qlo [.agg [Cell.int a,Cell.int b,Cell.int c,encL 1 eStr pre]]=some [.one (Cell.bool (qet a b c pre))]:=by
 have hM:=qah
 have hl:=hp.1
 have loop:∀ (r:List Str) (i n:Nat),pre.drop i=r→r.length < n→∀ k m,qwu k m n (encL 1 eStr pre) pre.length i a b c (encL 1 eStr pre)=some ([.one (Cell.bool (r.all qmd&&(inR a 0 9999&&(inR b 0 9999&&(inR c 0 9999&&decide (pre.length≤3))))))],[]):=by
  intro r
  induction r with
  | nil=>
   intro i n hd hn k m
   obtain⟨n,rfl⟩:∃ j,n=j+1:=⟨n - 1,by omega⟩
   have:=drop_nil hd
   simp only[qwu,EV0]
   rw[decide_eq_false (by omega),cond_false]
   have h3:decide ((pre.length:Int)≤3)=decide (pre.length≤3):=by rw[Bool.eq_iff_iff];simp;omega
   simp only[qkmc,h3,EV0,List.all_nil]
   cases inR a 0 9999<;>cases inR b 0 9999<;>cases inR c 0 9999<;>rfl
  | cons x r ih=>
   intro i n hd hn k m
   obtain⟨n,rfl⟩:∃ j,n=j+1:=⟨n - 1,by omega⟩
   obtain⟨hlt,hg,hd'⟩:=qas hd
   simp only[List.length_cons] at hn
   have hx:x.length≤1073741824:=Nat.le_trans (hp.2 x (List.mem_of_getElem? hg)) (by omega)
   simp only[qwu,EV0]
   rw[decide_eq_true (by omega),cond_true]
   simp only[qar,hg,eStr,c_fbd x hx,qag (show i < maxLen by omega),ih (i+1) n hd' (by omega),EV0,List.all_cons]
   cases qmd x<;>rfl
 refine qba (H:=[]) (qmqb (pre.length+1) ?_)
 simp only[fak,EV0]
 exact loop pre 0 (pre.length+1+1) rfl (by omega) (pre.length+1+1) (pre.length+1+1)
theorem qhy (xs:List Str)(sep:Str)(h1:xs.length≤3)(h2:∀ x∈xs,x.length≤8)(h3:sep.length≤1):out qyz [.one (encL 1 eStr xs),.one (Cell.str (bs sep))]=some [.one (Cell.str (bs (Lib.join xs sep)))]:=by
 have hj:=qyab h3 xs h2
 refine qba (H:=[]) ?_
 show qku _ _=_
 have e:qls (xs.map eStr)=some xs:=qwg xs
 simp only[encL,qku,e,qhs]
 rw[if_pos ⟨trivial,by omega,by omega⟩]
 rfl
theorem c_fal (a b c:Int)(pre:List Str)(hp:bdL 1048576 (bdS 1048576) pre):out qja [.agg [Cell.int a,Cell.int b,Cell.int c,encL 1 eStr pre]]=some [.one (Cell.str (bs (qeh a b c pre)))]:=by
 refine qba (H:=[]) (qiub 0 ?_)
 simp only[fal,c_fak a b c pre hp,EV0,qeh]
 cases ho:qet a b c pre with
 | false=>rfl
 | true=>
  obtain⟨h1,h2,h3,h4,h5⟩:=qnh ho
  obtain⟨x,rfl⟩:∃ x:Nat,a=(x:Int):=⟨a.toNat,by omega⟩
  obtain⟨y,rfl⟩:∃ x:Nat,b=(x:Int):=⟨b.toNat,by omega⟩
  obtain⟨z,rfl⟩:∃ x:Nat,c=(x:Int):=⟨c.toNat,by omega⟩
  have n1:=qjjb x (by omega)
  have n2:=qjjb y (by omega)
  have n3:=qjjb z (by omega)
  have j:=qyab (sep:=[46]) (by simp) pre h5
  have k1:catS (bs (numT x)) (bs [46])=some (bs (numT x++[46])):=qcn (by simp;omega)
  have k2:catS (bs (numT x++[46])) (bs (numT y))=some (bs (numT x++[46]++numT y)):=qcn (by simp;omega)
  have k3:catS (bs (numT x++[46]++numT y)) (bs [46])=some (bs (numT x++[46]++numT y++[46])):=qcn (by simp;omega)
  have k4:catS (bs (numT x++[46]++numT y++[46])) (bs (numT z))=some (bs (numT x++[46]++numT y++[46]++numT z)):=qcn (by simp;omega)
  have k5:catS (bs (numT x++[46]++numT y++[46]++numT z)) (bs [45])=some (bs (numT x++[46]++numT y++[46]++numT z++[45])):=qcn (by simp;omega)
  have k6:catS (bs (numT x++[46]++numT y++[46]++numT z++[45])) (bs (Lib.join pre [46]))=some (bs (numT x++[46]++numT y++[46]++numT z++[45]++Lib.join pre [46])):=qcn (by simp;omega)
  have k7:catS (bs [45]) (bs (Lib.join pre [46]))=some (bs ([45]++Lib.join pre [46])):=qcn (by simp;omega)
  have k8:catS (bs (numT x++[46]++numT y++[46]++numT z)) (bs ([45]++Lib.join pre [46]))=some (bs (numT x++[46]++numT y++[46]++numT z++([45]++Lib.join pre [46]))):=qcn (by simp;omega)
  simp only[Bool.not_true,cond_false,qvuc x (by omega),qvuc y (by omega),qvuc z (by omega),k1,k2,k3,k4,EV0,if_true,Int.toNat_natCast]
  by_cases hz:pre.length=0
  ·rw[decide_eq_false (by omega),cond_false,if_pos hz]
   simp
  ·rw[decide_eq_true (by omega),cond_true,if_neg hz]
   simp only[qhy pre [46] h4 h5 (by simp),k5,k6,k7,k8,EV0]
   try simp
theorem qdxb {c:UInt8}:∀ {s:Str},c∈s→s=ahead c s++c::behind c s
 | [],h=>by simp at h
 | x::s,h=>by
  by_cases e:x=c
  ·subst e
   simp[ahead,behind]
  ·have h':c∈s:=by
    rcases List.mem_cons.1 h with h | h
    ·exact absurd h.symm e
    ·exact h
   have:=qdxb h'
   simp only[ahead,behind] at this ⊢
   have hx:(x != c)=true:=by simp[e]
   rw[List.takeWhile_cons,List.dropWhile_cons,hx]
   simpa using this
theorem qrf (c:UInt8):∀ (n:Nat) (s:Str),s.length≤n→Lib.join (split c s) [c]=s:=by
 intro n
 induction n with
 | zero=>
  intro s hs
  obtain rfl:s=[]:=List.eq_nil_of_length_eq_zero (by omega)
  rw[qjs (by simp),Lib.join_one]
 | succ n ih=>
  intro s hs
  by_cases h:c∈s
  ·have hlt:(behind c s).length≤n:=by
    have:=congrArg List.length (qdxb h)
    simp only[List.length_append,List.length_cons] at this
    omega
   have ihb:=ih (behind c s) hlt
   rw[qpl h,Lib.join_cons]
   cases hsp:split c (behind c s) with
   | nil=>exact absurd hsp (qnj _ _)
   | cons y r=>
    rw[hsp,Lib.join_cons] at ihb
    conv=>rhs;rw[qdxb h]
    rw[← ihb]
    simp[Lib.joinTail]
  ·rw[qjs h,Lib.join_one]
def qiz (s:Str):List Str:=if 45∈s then split 46 (behind 45 s) else []
def qac (s:Str):MVer×Bool:=
 match split 46 (ahead 45 s) with
 | [x,y,z]=>match qaj x 9999,qaj y 9999,qaj z 9999 with
  | some a,some b,some c=>if qet a b c (qiz s) then (⟨a,b,c,qiz s⟩,true) else (⟨0,0,0,[]⟩,false)
  | _,_,_=>(⟨0,0,0,[]⟩,false)
 | _=>(⟨0,0,0,[]⟩,false)
theorem qlbb {s x y z:Str}{a b c:Nat}(h:split 46 (ahead 45 s)=[x,y,z])(ha:qaj x 9999=some a)(hb:qaj y 9999=some b)(hc:qaj z 9999=some c):(qeh a b c (qiz s)==s)=qet a b c (qiz s):=by
 have hu:=qrf 46 _ (ahead 45 s) (Nat.le_refl _)
 rw[h] at hu
 have hu2:ahead 45 s=numT a++[46]++numT b++[46]++numT c:=by
  rw[← hu,Lib.join_cons,(qbr ha).1,(qbr hb).1,(qbr hc).1]
  simp[Lib.joinTail]
 cases hok:qet a b c (qiz s) with
 | false=>
  have ht:qeh a b c (qiz s)=[]:=by rw[qeh,hok];rfl
  rw[ht]
  cases s with
  | nil=>simp[ahead] at hu2
  | cons q s=>rfl
 | true=>
  have ht:qeh a b c (qiz s)=s:=by
   rw[qeh,hok]
   simp only[if_true,Int.toNat_natCast]
   rw[← hu2]
   by_cases hd:(45:UInt8)∈s
   ·have hp:qiz s=split 46 (behind 45 s):=if_pos hd
    have hne:(qiz s).length≠0:=by
     rw[hp]
     intro h0
     exact qnj _ _ (List.eq_nil_of_length_eq_zero h0)
    rw[if_neg hne,hp,qrf 46 _ _ (Nat.le_refl _)]
    exact(qdxb hd).symm
   ·have hp:qiz s=[]:=if_neg hd
    rw[hp,if_pos (by simp),List.append_nil,qqp hd]
  rw[ht]
  simp
theorem qleb {s:Str}(hs:s.length≤1048576):bdL 1048576 (bdS 1048576) (qiz s):=by
 unfold qiz
 split
 ·rename_i hm
  have h:=qbl 46 (behind 45 s) []
  have hb:=qjr 45 s
  have hlt:(behind 45 s).length+1≤s.length:=by
   have:=congrArg List.length (qdxb hm)
   simp only[List.length_append,List.length_cons] at this
   omega
  refine⟨by have:=h.1;unfold split;omega,fun x hx=>?_⟩
  have:=h.2 x hx
  simp only[List.length_nil,Nat.zero_add] at this
  exact Nat.le_trans this (by omega)
 ·exact⟨by simp,by simp⟩
theorem qmdc (s:Str)(hs:s.length≤1048576):outL qjc [.one (Cell.str (bs s))]=some [.agg [Cell.int (qac s).1.A,Cell.int (qac s).1.B,Cell.int (qac s).1.C,qbj (qac s).1.Pre],.one (Cell.bool (qac s).2)]:=by
  have hM := qah
  have hal := qwd 45 s
  have hbl := qjr 45 s
  have hget : ∀ i, i < (ahead 45 s).length → ∃ b : UInt8, s[i]? = some b ∧ b ≠ 45 := fun i hi => by
    have hna := qbnb (c := 45) s
    refine ⟨(ahead 45 s)[i], ?_, fun e => by have hm := List.getElem_mem hi; rw [e] at hm; exact hna hm⟩
    have h1 : (ahead 45 s)[i]? = some (ahead 45 s)[i] := List.getElem?_eq_getElem hi
    rw [← h1, ← qfo 45 s, List.getElem?_take, if_pos hi]
  have loop : ∀ (d i n : Nat), i + d = (ahead 45 s).length → ∀ k m, qjf k m (n + d) (bs s) i = qjf k m n (bs s) (ahead 45 s).length := by
    intro d
    induction d with
    | zero => intro i n hi k m; obtain rfl : i = (ahead 45 s).length := by omega
              rfl
    | succ d ih =>
      intro i n hi k m
      obtain ⟨b, hb, hne⟩ := hget i (by omega)
      have h45' : ((b.toNat : Int) != 45) = !(b == 45) := qdbc b 45 (by omega)
      have h45 : ((b.toNat : Int) != 45) = true := by rw [h45']; simp [hne]
      show qjf k m ((n + d) + 1) (bs s) i = _
      simp only [qjf, qcc, hb, qbe, Option.map_some, Option.bind_some, h45, cond_true]
      rw [decide_eq_true (by have := (List.getElem?_eq_some_iff.1 hb).1; omega), cond_true, qag (by omega)]
      exact ih (i + 1) n (by omega) k m
  have hsplit : ∀ t : Str, t.length ≤ 1073741824 → outL qda [.one (Cell.str (bs t)), .one (.sc (.int .u8 46))] = some [.one (qbj (split 46 t))] := fun t ht => c_fce t 46 ht
  have hnum : ∀ x : Str, x.length ≤ 1073741824 → out qcg [.one (Cell.str (bs x)), .one (Cell.int 9999)] = some (numV (qaj x 9999)) := fun x hx => c_fca x 9999 hx (by omega)
  have hlen : ∀ x ∈ split 46 (ahead 45 s), x.length ≤ 1073741824 := fun x hx => by
    have := (qbl 46 (ahead 45 s) []).2 x hx
    simp only [List.length_nil, Nat.zero_add] at this
    omega
  have hz : mapO (qak false []) [.agg [Cell.int 0, Cell.int 0, Cell.int 0, .lst true 1 []], .one (Cell.bool false)] = some [.agg [Cell.int 0, Cell.int 0, Cell.int 0, qbj []], .one (Cell.bool false)] := rfl
  have h46 : subS (bs s) 0 ((ahead 45 s).length : Int) = some (bs (ahead 45 s)) := by
    have := qci s 0 (ahead 45 s).length (Nat.zero_le _) hal
    rw [qfo, List.drop_zero] at this
    simpa using this
  by_cases hd : (45 : UInt8) ∈ s
  · have hlt := qqb hd
    have hc : s[(ahead 45 s).length]? = some 45 := by
      have h1 := qdxb hd
      generalize ahead 45 s = u at h1 ⊢
      generalize behind 45 s = v at h1
      rw [h1]
      simp
    have hsub : subS (bs s) (((ahead 45 s).length + 1 : Nat) : Int) (s.length : Int) = some (bs (behind 45 s)) := by
      have := qci s ((ahead 45 s).length + 1) s.length (by omega) (Nat.le_refl _)
      rw [List.take_of_length_le (Nat.le_refl _), qga] at this
      exact this
    have hp : qiz s = split 46 (behind 45 s) := if_pos hd
    have hv := fun a b c => c_fcf a b c (qiz s) (qleb hs)
    rw [hp] at hv
    have core : ∀ k m n, ∃ xs, qjf k m (n + 1) (bs s) (ahead 45 s).length = some (xs, []) ∧ mapO (qak false []) xs = some [.agg [Cell.int (qac s).1.A, Cell.int (qac s).1.B, Cell.int (qac s).1.C, qbj (qac s).1.Pre], .one (Cell.bool (qac s).2)] := by
      intro k m n
      simp only [qjf, qcc, hc, qbe, Option.map_some, Option.bind_some, show (((45 : UInt8).toNat : Int) != 45) = false from rfl, cond_false]
      rw [decide_eq_true (by omega), cond_true, qag (by omega)]
      simp only [hsub, hsplit _ (by omega : (behind 45 s).length ≤ 1073741824), h46, hsplit _ (by omega : (ahead 45 s).length ≤ 1073741824), EV0]
      unfold qac
      rw [hp]
      split
      · rename_i x y z hsp
        have lx := hlen x (by rw [hsp]; simp)
        have ly := hlen y (by rw [hsp]; simp)
        have lz := hlen z (by rw [hsp]; simp)
        have i0 : idxA 1 (encL 1 eStr [x, y, z]) 0 = some (.ref (eStr x) 0) := rfl
        have i1 : idxA 1 (encL 1 eStr [x, y, z]) 1 = some (.ref (eStr y) 0) := rfl
        have i2 : idxA 1 (encL 1 eStr [x, y, z]) 2 = some (.ref (eStr z) 0) := rfl
        simp only [hsp, List.length_cons, List.length_nil, i0, i1, i2, eStr, hnum x lx, hnum y ly, hnum z lz, EV0]
        rw [show (((0 + 1 + 1 + 1 : Nat) : Int) != 3) = false from rfl, cond_false]
        cases hx : qaj x 9999 with
        | none => cases hy : qaj y 9999 <;> cases hzz : qaj z 9999 <;> exact ⟨_, rfl, hz⟩
        | some a => cases hy : qaj y 9999 with
          | none => cases hzz : qaj z 9999 <;> exact ⟨_, rfl, hz⟩
          | some b => cases hzz : qaj z 9999 with
            | none => exact ⟨_, rfl, hz⟩
            | some c =>
              simp only [numV, hv, EV0, Bool.not_true]
              cases hok : qet a b c (split 46 (behind 45 s)) with
              | false => exact ⟨_, rfl, hz⟩
              | true => exact ⟨_, rfl, qax [.agg [Cell.int a, Cell.int b, Cell.int c, qbj (split 46 (behind 45 s))], .one (Cell.bool true)] _ _⟩
      · rename_i hno
        refine ⟨_, ?_, hz⟩
        rw [show (((split 46 (ahead 45 s)).length : Int) != 3) = true by
          rw [bne_iff_ne]
          intro h3
          have h3' : (split 46 (ahead 45 s)).length = 3 := by omega
          match h : split 46 (ahead 45 s), h3' with
          | [x, y, z], _ => exact hno x y z h, cond_true]
    obtain ⟨xs, z1, z2⟩ := core ((ahead 45 s).length + 1 + 1) ((ahead 45 s).length + 1 + 1) 1
    refine qaz (H := []) (qrj ((ahead 45 s).length + 1) ?_) z2
    have := loop (ahead 45 s).length 0 2 (by omega) ((ahead 45 s).length + 1 + 1) ((ahead 45 s).length + 1 + 1)
    rw [show 2 + (ahead 45 s).length = (ahead 45 s).length + 1 + 1 by omega] at this
    simp only [fcc]
    rw [show (0 : Int) = ((0 : Nat) : Int) from rfl, this]
    exact z1
  · have hall := qqp hd
    have hp : qiz s = [] := if_neg hd
    have hv := fun a b c => c_fcf a b c [] ⟨by simp, by simp⟩
    have hv' : ∀ a b c, qaw qey [.agg [Cell.int a, Cell.int b, Cell.int c, .lst true 1 []]] [] = some [.one (Cell.bool (qet a b c []))] := fun a b c => (qql (show mapO (qak false []) [.agg [Cell.int a, Cell.int b, Cell.int c, .lst true 1 []]] = some [.agg [Cell.int a, Cell.int b, Cell.int c, qbj []]] from rfl)).trans (hv a b c)
    have core : ∀ k m n, ∃ xs, qjf k m (n + 1) (bs s) (ahead 45 s).length = some (xs, []) ∧ mapO (qak false []) xs = some [.agg [Cell.int (qac s).1.A, Cell.int (qac s).1.B, Cell.int (qac s).1.C, qbj (qac s).1.Pre], .one (Cell.bool (qac s).2)] := by
      intro k m n
      simp only [qjf, qbe]
      rw [decide_eq_false (by rw [hall]; omega), cond_false, cond_false]
      simp only [h46, hsplit _ (by omega : (ahead 45 s).length ≤ 1073741824), EV0]
      unfold qac
      rw [hp]
      split
      · rename_i x y z hsp
        have lx := hlen x (by rw [hsp]; simp)
        have ly := hlen y (by rw [hsp]; simp)
        have lz := hlen z (by rw [hsp]; simp)
        have i0 : idxA 1 (encL 1 eStr [x, y, z]) 0 = some (.ref (eStr x) 0) := rfl
        have i1 : idxA 1 (encL 1 eStr [x, y, z]) 1 = some (.ref (eStr y) 0) := rfl
        have i2 : idxA 1 (encL 1 eStr [x, y, z]) 2 = some (.ref (eStr z) 0) := rfl
        simp only [hsp, List.length_cons, List.length_nil, i0, i1, i2, eStr, hnum x lx, hnum y ly, hnum z lz, EV0]
        rw [show (((0 + 1 + 1 + 1 : Nat) : Int) != 3) = false from rfl, cond_false]
        cases hx : qaj x 9999 with
        | none => cases hy : qaj y 9999 <;> cases hzz : qaj z 9999 <;> exact ⟨_, rfl, hz⟩
        | some a => cases hy : qaj y 9999 with
          | none => cases hzz : qaj z 9999 <;> exact ⟨_, rfl, hz⟩
          | some b => cases hzz : qaj z 9999 with
            | none => exact ⟨_, rfl, hz⟩
            | some c =>
              simp only [numV, hv', EV0, Bool.not_true]
              cases hok : qet a b c [] with
              | false => exact ⟨_, rfl, hz⟩
              | true => exact ⟨_, rfl, rfl⟩
      · rename_i hno
        refine ⟨_, ?_, hz⟩
        rw [show (((split 46 (ahead 45 s)).length : Int) != 3) = true by
          rw [bne_iff_ne]
          intro h3
          have h3' : (split 46 (ahead 45 s)).length = 3 := by omega
          match h : split 46 (ahead 45 s), h3' with
          | [x, y, z], _ => exact hno x y z h, cond_true]
    obtain ⟨xs, z1, z2⟩ := core ((ahead 45 s).length + 1 + 1) ((ahead 45 s).length + 1 + 1) 1
    refine qaz (H := []) (qrj ((ahead 45 s).length + 1) ?_) z2
    have := loop (ahead 45 s).length 0 2 (by omega) ((ahead 45 s).length + 1 + 1) ((ahead 45 s).length + 1 + 1)
    rw [show 2 + (ahead 45 s).length = (ahead 45 s).length + 1 + 1 by omega] at this
    simp only [fcc]
    rw [show (0 : Int) = ((0 : Nat) : Int) from rfl, this]
    exact z1
theorem qtnc (c:UInt8)(s:Str):cutV c s=[.one (Cell.str (bs (ahead c s))),.one (Cell.str (bs (behind c s))),.one (Cell.bool (decide (c∈s)))]:=by
 unfold cutV
 split
 ·rename_i h
  rw[decide_eq_true h]
 ·rename_i h
  rw[decide_eq_false h,qqp h,qddb h]
theorem qir (H:List Entry):Sp (Rep H true true 2) [] [Cell.int 0,Cell.int 0,Cell.int 0,.lst true 1 []] (⟨0,0,0,[]⟩:MVer).tr:=by
 unfold MVer.tr
 exact Sp.cons (i:=[]) (qby _) (Sp.cons (i:=[]) (qby _) (Sp.cons (i:=[]) (qby _) (Sp.cons (i:=[]) (.inl ⟨rfl,rfl,true,rfl⟩) .nil)))
def verH (A:List Entry)(row:List Cell):List Entry:=A++[Entry.mk 4 [row] 0 false]
theorem verH_0 (A:List Entry)(p q r t v:Cell):qbt (verH A [p,q,r,t]) (.ptr A.length 4 0 0 0) [v]=some (verH A [v,q,r,t]):=by simp[verH,qbt,entry?,splice,List.set_append]
theorem verH_1 (A:List Entry)(p q r t v:Cell):qbt (verH A [p,q,r,t]) (.ptr A.length 4 0 1 0) [v]=some (verH A [p,v,r,t]):=by simp[verH,qbt,entry?,splice,List.set_append]
theorem verH_2 (A:List Entry)(p q r t v:Cell):qbt (verH A [p,q,r,t]) (.ptr A.length 4 0 2 0) [v]=some (verH A [p,q,v,t]):=by simp[verH,qbt,entry?,splice,List.set_append]
theorem verH_3 (A E2:List Entry)(p q r t v:Cell):qbt (verH A [p,q,r,t]++E2) (.ptr A.length 4 0 3 0) [v]=some (verH A [p,q,r,v]++E2):=by simp[verH,qbt,entry?,splice,List.set_append]
theorem verH_d (A E2:List Entry)(row:List Cell):deref (verH A row++E2) (.ptr A.length 4 0 0 0)=some (row,0):=by simp[verH,deref,entry?]
theorem qthc (A:List Entry)(row:List Cell):deref (verH A row) (.ptr A.length 4 0 0 0)=some (row,0):=by simp[verH,deref,entry?]
theorem qidb (H:List Entry)(a b c:Int):mapO (qak false H) [.agg [Cell.int a,Cell.int b,Cell.int c,.lst true 1 []]]=some [.agg [Cell.int a,Cell.int b,Cell.int c,qbj []]]:=rfl
theorem f_fai (s:Str)(hs:s.length≤1048576):Fresh qgm true 2 [.one (Cell.str (bs s))] [.agg (qac s).1.tr,.one (.leaf (.bool (qac s).2))]:=by
 have hM:=qah
 have hal:=qwd 45 s
 have hbl:=qjr 45 s
 have hcut:out qou [.one (Cell.str (bs s)),.one (Cell.str (bs [45]))]=some [.one (Cell.str (bs (ahead 45 s))),.one (Cell.str (bs (behind 45 s))),.one (Cell.bool (decide ((45:UInt8)∈s)))]:=by
  rw[c_fdv s 45 (by omega),qtnc]
 obtain⟨c7,E,is,e1,r1,w1,_⟩:=qfdb (qwcc (ahead 45 s) 46 (by omega)) ([]:List Entry) (qax [.one (Cell.str (bs (ahead 45 s))),.one (Cell.str (bs [46]))] _ _)
 generalize hA:([]:List Entry)++E=A at e1 r1
 have hl:=qit.of (n:=2) r1
 have fz:∀ H,qgm [.one (Cell.str (bs s))] []=some ([.agg [Cell.int 0,Cell.int 0,Cell.int 0,.lst true 1 []],.one (Cell.bool false)],H)→qac s=(⟨0,0,0,[]⟩,false)→Fresh qgm true 2 [.one (Cell.str (bs s))] [.agg (qac s).1.tr,.one (.leaf (.bool (qac s).2))]:=fun H h1 h2=>by
  rw[h2]
  exact Fresh.agg1 (n:=1) h1 (qir H) (by simp)
 by_cases h3:(split 46 (ahead 45 s)).length=3
 rotate_left
 ·refine fz A (qrh 0 ?_) ?_
  ·simp only[fai,hcut,e1,hl.len,EV0]
   rw[show(((split 46 (ahead 45 s)).length:Int) != 3)=true by rw[bne_iff_ne];omega,cond_true]
  ·unfold qac
   split
   ·rename_i x y z hsp
    rw[hsp] at h3
    simp at h3
   ·rfl
 ·obtain⟨x,y,z,hsp⟩:∃ x y z,split 46 (ahead 45 s)=[x,y,z]:=by
   match h:split 46 (ahead 45 s),h3 with
   | [x,y,z],_=>exact⟨x,y,z,rfl⟩
  rw[hsp] at hl
  have hlen:∀ x∈split 46 (ahead 45 s),x.length≤1073741824:=fun x hx=>by
   have:=(qbl 46 (ahead 45 s) []).2 x hx
   simp only[List.length_nil,Nat.zero_add] at this
   omega
  have lx:=hlen x (by rw[hsp];simp)
  have ly:=hlen y (by rw[hsp];simp)
  have lz:=hlen z (by rw[hsp];simp)
  have hnum:∀ x:Str,x.length≤1073741824→out qht [.one (Cell.str (bs x)),.one (Cell.int 9999)]=some (numV (qaj x 9999)):=fun x hx=>c_fag x 9999 hx (by omega)
  have s0:=verH_0 A
  have s1:=verH_1 A
  have s2:=verH_2 A
  have s3:=verH_3 A
  have dv:=verH_d A
  have dv0:=qthc A
  have hf:∀ row,qit (verH A row) is c7 [x,y,z]:=fun row=>hl.frame fun j hj=>List.getElem?_append_left (r1.lt j hj)
  have at0:∀ row,∃ a rw off,idxA 1 c7 0=some a∧deref (verH A row) a=some (rw,off)∧cS rw off=some (bs x):=fun row=>by simpa using (hf row).at (i:=0) (s:=x) rfl
  have at1:∀ row,∃ a rw off,idxA 1 c7 1=some a∧deref (verH A row) a=some (rw,off)∧cS rw off=some (bs y):=fun row=>by simpa using (hf row).at (i:=1) (s:=y) rfl
  have at2:∀ row,∃ a rw off,idxA 1 c7 2=some a∧deref (verH A row) a=some (rw,off)∧cS rw off=some (bs z):=fun row=>by simpa using (hf row).at (i:=2) (s:=z) rfl
  have k1:IntKind.i64.wrap ((0:Int)+1)=1:=wrap_small (by omega) (by omega)
  have k2:IntKind.i64.wrap ((1:Int)+1)=2:=wrap_small (by omega) (by omega)
  have k3:IntKind.i64.wrap ((2:Int)+1)=3:=wrap_small (by omega) (by omega)
  have fin:∀ (a b c:Nat),qaj x 9999=some a→qaj y 9999=some b→qaj z 9999=some c→∀ n k m,∃ cs H ids,qla k m (n+1) (bs s) (bs (behind 45 s)) (decide ((45:UInt8)∈s)) c7 (.ptr A.length 4 0 0 0) (.ptr A.length 4 0 0 0) (.ptr A.length 4 0 1 0) (.ptr A.length 4 0 2 0) 3 (verH A [Cell.int a,Cell.int b,Cell.int c,.lst true 1 []])=
    some ([.agg cs,.one (Cell.bool (qac s).2)],H)∧Sp (Rep H true true 2) ids cs (qac s).1.tr∧ids.Nodup:=by
   intro a b c ha hb hc n k m
   have ht:=qlbb hsp ha hb hc
   have pv:qac s=if qet a b c (qiz s) then (⟨a,b,c,qiz s⟩,true) else (⟨0,0,0,[]⟩,false):=by
    unfold qac
    rw[hsp]
    simp only[ha,hb,hc]
   have hvt:=c_fal a b c (qiz s) (qleb hs)
   rw[pv]
   rw[qla,show decide ((3:Int) < 3)=false from rfl,cond_false]
   by_cases hd:(45:UInt8)∈s
   ·have hp:qiz s=split 46 (behind 45 s):=if_pos hd
    obtain⟨c29,E2,is2,e2,r2,w2,_⟩:=qfdb (qwcc (behind 45 s) 46 (by omega)) (verH A [Cell.int a,Cell.int b,Cell.int c,.lst true 1 []]) (qax [.one (Cell.str (bs (behind 45 s))),.one (Cell.str (bs [46]))] _ _)
    rw[← hp] at r2
    have r3:Rep (verH A [Cell.int a,Cell.int b,Cell.int c,c29]++E2) true true 2 is2 c29 (trL 1 qcp (qiz s)):=r2.frame fun j hj=>by
     have h5:=w2.lo j hj
     rw[List.getElem?_append_right (by simp[verH] at h5 ⊢;omega),List.getElem?_append_right h5]
     simp[verH]
    have hsp3:Sp (Rep (verH A [Cell.int a,Cell.int b,Cell.int c,c29]++E2) true true 2) (is2++[]) [Cell.int a,Cell.int b,Cell.int c,c29] (⟨a,b,c,qiz s⟩:MVer).tr:=by
     unfold MVer.tr
     exact Sp.cons (i:=[]) (qby _) (Sp.cons (i:=[]) (qby _) (Sp.cons (i:=[]) (qby _) (Sp.cons r3 .nil)))
    have q1:qaw qja [.agg [Cell.int a,Cell.int b,Cell.int c,c29]] (verH A [Cell.int a,Cell.int b,Cell.int c,c29]++E2)=some [.one (Cell.str (bs (qeh a b c (qiz s))))]:=by
     have:=qcz (qjo hsp3 (by omega)) (qbq (qak false (verH A [Cell.int a,Cell.int b,Cell.int c,c29]++E2)))
     simp only[MVer.tr,List.map_cons,List.map_nil,qct,qbv] at this
     rw[qql this]
     exact hvt
    rw[decide_eq_true hd,cond_true]
    simp only[e2,qlv,Nat.zero_add,s3,dv,q1,ht,EV0]
    cases hok:qet a b c (qiz s) with
    | false=>exact⟨_,_,[],rfl,qir _,by simp⟩
    | true=>exact⟨_,_,is2++[],rfl,hsp3,by simpa using w2.nd⟩
   ·have hp:qiz s=[]:=if_neg hd
    rw[decide_eq_false hd,cond_false]
    have q1:qaw qja [.agg [Cell.int a,Cell.int b,Cell.int c,.lst true 1 []]] (verH A [Cell.int a,Cell.int b,Cell.int c,.lst true 1 []])=some [.one (Cell.str (bs (qeh a b c (qiz s))))]:=by
     rw[hp] at hvt ⊢
     exact(qql (qidb _ _ _ _)).trans hvt
    simp only[dv0,q1,ht,EV0]
    cases hok:qet a b c (qiz s) with
    | false=>exact⟨_,_,[],rfl,qir _,by simp⟩
    | true=>
     refine⟨_,_,[],rfl,?_,by simp⟩
     rw[hp]
     unfold MVer.tr
     exact Sp.cons (i:=[]) (qby _) (Sp.cons (i:=[]) (qby _) (Sp.cons (i:=[]) (qby _) (Sp.cons (i:=[]) (.inl ⟨rfl,rfl,true,rfl⟩) .nil)))
  have go:∀ n k m,n=4→∃ cs H ids,qla k m n (bs s) (bs (behind 45 s)) (decide ((45:UInt8)∈s)) c7 (.ptr A.length 4 0 0 0) (.ptr A.length 4 0 0 0) (.ptr A.length 4 0 1 0) (.ptr A.length 4 0 2 0) 0 (verH A [Cell.int 0,Cell.int 0,Cell.int 0,.lst true 1 []])=
    some ([.agg cs,.one (Cell.bool (qac s).2)],H)∧Sp (Rep H true true 2) ids cs (qac s).1.tr∧ids.Nodup:=by
   intro n k m hn
   obtain⟨n,rfl⟩:∃ q,n=q+1+1+1+1:=⟨0,hn⟩
   have bad:qaj x 9999=none∨qaj y 9999=none∨qaj z 9999=none→qac s=(⟨0,0,0,[]⟩,false):=fun h=>by
    unfold qac
    rw[hsp]
    rcases h with h | h | h
    ·simp only[h]
    ·simp only[h]
     cases qaj x 9999<;>rfl
    ·simp only[h]
     cases qaj x 9999<;>cases qaj y 9999<;>rfl
   obtain⟨a0,w0,o0,i0,j0,l0⟩:=at0 [Cell.int 0,Cell.int 0,Cell.int 0,.lst true 1 []]
   rw[qla,show decide ((0:Int) < 3)=true from rfl,cond_true,if_pos ⟨by omega,by omega⟩]
   simp only[show(0:Int).toNat*1=0 from rfl,i0,j0,l0,hnum x lx,EV0]
   cases hx:qaj x 9999 with
   | none=>
    rw[bad (.inl hx)]
    exact⟨_,_,[],rfl,qir _,by simp⟩
   | some a=>
    simp only[numV,EV0,Bool.not_true,ptrC,s0,k1]
    obtain⟨a1,w1,o1,i1,j1,l1⟩:=at1 [Cell.int a,Cell.int 0,Cell.int 0,.lst true 1 []]
    rw[qla,show decide ((1:Int) < 3)=true from rfl,cond_true,if_pos ⟨by omega,by omega⟩]
    simp only[show(1:Int).toNat*1=1 from rfl,i1,j1,l1,hnum y ly,EV0]
    cases hy:qaj y 9999 with
    | none=>
     rw[bad (.inr (.inl hy))]
     exact⟨_,_,[],rfl,qir _,by simp⟩
    | some b=>
     simp only[numV,EV0,Bool.not_true,ptrC,s1,k2]
     obtain⟨a2,w2,o2,i2,j2,l2⟩:=at2 [Cell.int a,Cell.int b,Cell.int 0,.lst true 1 []]
     rw[qla,show decide ((2:Int) < 3)=true from rfl,cond_true,if_pos ⟨by omega,by omega⟩]
     simp only[show(2:Int).toNat*1=2 from rfl,i2,j2,l2,hnum z lz,EV0]
     cases hzz:qaj z 9999 with
     | none=>
      rw[bad (.inr (.inr hzz))]
      exact⟨_,_,[],rfl,qir _,by simp⟩
     | some c=>
      simp only[numV,EV0,Bool.not_true,ptrC,s2,k3]
      exact fin a b c hx hy hzz n k m
  obtain⟨cs,H,ids,z1,z2,z3⟩:=go (3+1) (3+1) (3+1) rfl
  have hrun:∀ q,fai q q (bs s)=qla q q q (bs s) (bs (behind 45 s)) (decide ((45:UInt8)∈s)) c7 (.ptr A.length 4 0 0 0) (.ptr A.length 4 0 0 0) (.ptr A.length 4 0 1 0) (.ptr A.length 4 0 2 0) 0 (verH A [Cell.int 0,Cell.int 0,Cell.int 0,.lst true 1 []]):=by
   intro q
   simp only[fai,hcut,e1,hl.len,EV0]
   rw[show(((0+1+1+1:Nat):Int) != 3)=false from rfl,cond_false]
   rfl
  have z0:=(hrun (3+1)).trans z1
  exact Fresh.agg1 (n:=1) (qrh 3 z0) z2 z3
end Go.Ev
